import PyProof.Rows.All
import Wide.All
import OpenK.AllK
import Wide.FinOn
import KE.KStateDown
import HandS.Base
import HandS.Call
import HandS.List
import HandS.Comp
import HandS.Ends
import HandS.Words
import HandS.WordsList
import HandS.Iter
import HandS.Walk
import HandS.Wide
import HandS.Exc
import HandS.ExcOwn
import HandS.WordsExc
import HandS.FStr
import HandS.Rev
import HandS.ExcCtx
import HandS.Defaults
import HandS.HeadHook1
import HandS.HeadHook2
import HandS.TryMany
import HandS.Hot
import HandS.HotCalls
import PyProof.StrLoop
import PySem.Challenge.RW_discountsnearone_s01_answers
import HandS.Head0
import HandS.Head1
import HandS.Head2
import KE.OsHead
import HandS.Spec
import KE.OsGo
set_option Elab.async false
set_option linter.all false
set_option maxRecDepth 100000
section
set_option maxHeartbeats 4000000
/-! # Hd: a layer of data over the hand layer: values as trees, objects that change by name, readings without a heap -/
namespace Hd
open PySem PySem.Spec PyProof.Rows L2

/-! ## data -/
inductive D where
  | non | bl (b : Bool) | int (i : Int) | str (s : Str) | lst (xs : List D) | tup (xs : List D) | frz (xs : List D) | ins (C : Addr) (fs : List (Str × D)) | adr (a : Addr)
inductive OD where
  | lst (xs : List D) | ins (C : Addr) (fs : List (Str × D))
abbrev Om := List (Addr × OD)
abbrev Ga := List (Option D)
def dom (W : Om) : List Addr := W.map (·.1)

/-- all of one heap stands in the other -/
def Ex (H H' : Hp) : Prop := ∀ a o, H a = some o → H' a = some o
theorem Ex.refl (H : Hp) : Ex H H := fun _ _ h => h
theorem Ex.trans {H H1 H2 : Hp} (a : Ex H H1) (b : Ex H1 H2) : Ex H H2 := fun x o h => b x o (a x o h)

mutual
/-- the value stands for the datum, over the part of the heap that stays -/
inductive Has (K : PySem.W.Frag) (S : Hp) : V → D → Prop
  | non : Has K S .non .non
  | bl (b : Bool) : Has K S (.bl b) (.bl b)
  | int (i : Int) : Has K S (.int i) (.int i)
  | str (x : Str) : Has K S (.str x) (.str x)
  | adr (a : Addr) : Has K S (.ref a) (.adr a)
  | lst {a : Addr} {xs : List V} {ds : List D} : S a = some (.lst xs) → HasL K S xs ds → Has K S (.ref a) (.lst ds)
  | tup {a : Addr} {xs : List V} {ds : List D} : S a = some (.tup xs) → HasL K S xs ds → Has K S (.ref a) (.tup ds)
  | frz {a : Addr} {xs : List V} {ds : List D} : SqL K S a xs → HasL K S xs ds → Has K S (.ref a) (.frz ds)
  | ins {a C dx : Addr} {vs : List (Str × V)} {fs : List (Str × D)} : S a = some (.ins C dx vs) → HasF K S vs fs → Has K S (.ref a) (.ins C fs)
inductive HasL (K : PySem.W.Frag) (S : Hp) : List V → List D → Prop
  | nil : HasL K S [] []
  | cons {v : V} {vs : List V} {d : D} {ds : List D} : Has K S v d → HasL K S vs ds → HasL K S (v :: vs) (d :: ds)
inductive HasF (K : PySem.W.Frag) (S : Hp) : List (Str × V) → List (Str × D) → Prop
  | nil : HasF K S [] []
  | cons {f : Str} {v : V} {vs : List (Str × V)} {d : D} {ds : List (Str × D)} : Has K S v d → HasF K S vs ds → HasF K S ((f, v) :: vs) ((f, d) :: ds)
end

theorem sql_mono {K : PySem.W.Frag} {S S' : Hp} {a : Addr} {xs : List V} (e : Ex S S') (h : SqL K S a xs) : SqL K S' a xs := by
  rcases h with (h | ⟨o, h⟩) | h
  · exact .inl (.inl (e _ _ h))
  · exact .inl (.inr ⟨o, e _ _ h⟩)
  · exact .inr h
section
variable {K : PySem.W.Frag} {S S' : Hp}
mutual
theorem Has.mono (e : Ex S S') : ∀ {v : V} {d : D}, Has K S v d → Has K S' v d
  | _, _, .non => .non
  | _, _, .bl b => .bl b
  | _, _, .int i => .int i
  | _, _, .str x => .str x
  | _, _, .adr a => .adr a
  | _, _, .lst h l => .lst (e _ _ h) (HasL.mono e l)
  | _, _, .tup h l => .tup (e _ _ h) (HasL.mono e l)
  | _, _, .frz h l => .frz (sql_mono e h) (HasL.mono e l)
  | _, _, .ins h l => .ins (e _ _ h) (HasF.mono e l)
theorem HasL.mono (e : Ex S S') : ∀ {v : List V} {d : List D}, HasL K S v d → HasL K S' v d
  | _, _, .nil => .nil
  | _, _, .cons h l => .cons (Has.mono e h) (HasL.mono e l)
theorem HasF.mono (e : Ex S S') : ∀ {v : List (Str × V)} {d : List (Str × D)}, HasF K S v d → HasF K S' v d
  | _, _, .nil => .nil
  | _, _, .cons h l => .cons (Has.mono e h) (HasF.mono e l)
end
theorem HasL.length : ∀ {vs : List V} {ds : List D}, HasL K S vs ds → vs.length = ds.length
  | _, _, .nil => rfl
  | _, _, .cons _ l => congrArg (· + 1) l.length
theorem HasL.get : ∀ {vs : List V} {ds : List D} {i : Nat} {d : D}, HasL K S vs ds → ds[i]? = some d → ∃ v, vs[i]? = some v ∧ Has K S v d
  | _, _, _, _, .nil, e => by simp at e
  | _, _, 0, _, .cons h _, e => by
    simp at e
    subst e
    exact ⟨_, rfl, h⟩
  | _, _, i + 1, d, .cons _ l, e => by
    obtain ⟨v, h1, h2⟩ := HasL.get (i := i) (d := d) l (by simpa using e)
    exact ⟨v, by simpa using h1, h2⟩
theorem HasL.get' : ∀ {vs : List V} {ds : List D} {i : Nat} {v : V}, HasL K S vs ds → vs[i]? = some v → ∃ d, ds[i]? = some d ∧ Has K S v d
  | _, _, _, _, .nil, e => by simp at e
  | _, _, 0, _, .cons h _, e => by
    simp at e
    subst e
    exact ⟨_, rfl, h⟩
  | _, _, i + 1, v, .cons _ l, e => by
    obtain ⟨d, h1, h2⟩ := HasL.get' (i := i) (v := v) l (by simpa using e)
    exact ⟨d, by simpa using h1, h2⟩
theorem HasL.append : ∀ {vs ws : List V} {ds es : List D}, HasL K S vs ds → HasL K S ws es → HasL K S (vs ++ ws) (ds ++ es)
  | _, _, _, _, .nil, h => h
  | _, _, _, _, .cons h l, h2 => .cons h (l.append h2)
theorem HasL.take : ∀ (n : Nat) {vs : List V} {ds : List D}, HasL K S vs ds → HasL K S (vs.take n) (ds.take n)
  | 0, _, _, _ => .nil
  | n + 1, _, _, .nil => .nil
  | n + 1, _, _, .cons h l => .cons h (HasL.take n l)
theorem HasL.drop : ∀ (n : Nat) {vs : List V} {ds : List D}, HasL K S vs ds → HasL K S (vs.drop n) (ds.drop n)
  | 0, _, _, h => h
  | n + 1, _, _, .nil => .nil
  | n + 1, _, _, .cons _ l => HasL.drop n l
theorem HasL.set : ∀ (j : Nat) {vs : List V} {ds : List D} {v : V} {d : D}, Has K S v d → HasL K S vs ds → HasL K S (vs.set j v) (ds.set j d)
  | _, _, _, _, _, _, .nil => .nil
  | 0, _, _, _, _, h, .cons _ l => .cons h l
  | j + 1, _, _, _, _, h, .cons q l => .cons q (HasL.set j h l)
theorem HasL.snoc {vs : List V} {ds : List D} {v : V} {d : D} (l : HasL K S vs ds) (h : Has K S v d) : HasL K S (vs ++ [v]) (ds ++ [d]) := l.append (.cons h .nil)
/-- whole numbers -/
theorem HasL.ints : ∀ {vs : List V} {ns : List Int}, HasL K S vs (ns.map D.int) → vs = ns.map V.int
  | _, [], h => by
    cases h
    rfl
  | _, n :: r, h => by
    cases h with
    | cons h l =>
      cases h
      rw [HasL.ints l]
      rfl
theorem HasL.ofInts : ∀ ns : List Int, HasL K S (ns.map V.int) (ns.map D.int)
  | [] => .nil
  | n :: r => .cons (.int n) (HasL.ofInts r)
theorem HasF.lookup : ∀ {vs : List (Str × V)} {fs : List (Str × D)} {f : Str} {d : D}, HasF K S vs fs → fs.lookup f = some d → ∃ v, vs.lookup f = some v ∧ Has K S v d
  | _, _, _, _, .nil, e => by simp at e
  | _, _, f, d, .cons (f := g) (v := w) (d := x) h l, e => by
    by_cases hf : f = g
    · subst hf
      simp [List.lookup] at e ⊢
      subst e
      exact h
    · have q : (f == g) = false := by simpa using hf
      simp [List.lookup, q] at e ⊢
      exact HasF.lookup l e
theorem HasF.lookup_none : ∀ {vs : List (Str × V)} {fs : List (Str × D)} {f : Str}, HasF K S vs fs → fs.lookup f = none → vs.lookup f = none
  | _, _, _, .nil, _ => rfl
  | _, _, f, .cons (f := g) (v := w) (d := x) h l, e => by
    by_cases hf : f = g
    · subst hf
      simp [List.lookup] at e
    · have q : (f == g) = false := by simpa using hf
      have e2 : ∀ r, List.lookup f ((g, x) :: r) = r.lookup f := fun r => by simp [List.lookup, q]
      have e3 : ∀ r, List.lookup f ((g, w) :: r) = r.lookup f := fun r => by simp [List.lookup, q]
      rw [e2] at e
      rw [e3]
      exact HasF.lookup_none l e
theorem HasF.length : ∀ {vs : List (Str × V)} {ds : List (Str × D)}, HasF K S vs ds → vs.length = ds.length
  | _, _, .nil => rfl
  | _, _, .cons _ l => congrArg (· + 1) l.length
/-- a field is stored -/
def putD (f : Str) (d : D) : List (Str × D) → List (Str × D)
  | [] => [(f, d)]
  | (g, x) :: r => if g = f then (f, d) :: r else (g, x) :: putD f d r
theorem HasF.put {f : Str} {v : V} {d : D} (h : Has K S v d) : ∀ {vs : List (Str × V)} {fs : List (Str × D)}, HasF K S vs fs → HasF K S (putF f v vs) (putD f d fs)
  | _, _, .nil => .cons h .nil
  | _, _, .cons (f := g) (v := w) (d := x) q l => by
    by_cases hf : g = f
    · have e1 : ∀ r, putF f v ((g, w) :: r) = (f, v) :: r := fun r => by
        unfold putF
        rw [if_pos hf, hf]
      have e2 : ∀ r, putD f d ((g, x) :: r) = (f, d) :: r := fun r => by
        unfold putD
        rw [if_pos hf]
      rw [e1, e2]
      exact .cons h l
    · have e1 : ∀ r, putF f v ((g, w) :: r) = (g, w) :: putF f v r := fun r => by
        rw [putF]
        rw [if_neg hf]
      have e2 : ∀ r, putD f d ((g, x) :: r) = (g, x) :: putD f d r := fun r => by
        rw [putD]
        rw [if_neg hf]
      rw [e1, e2]
      exact .cons q (HasF.put h l)
end

/-! ## the state: what stays (S) within the heap (H), and what changes, by name -/
def Own (K : PySem.W.Frag) (H S : Hp) (a : Addr) : OD → Prop
  | .lst ds => S a = none ∧ ∃ xs, H a = some (.lst xs) ∧ HasL K S xs ds
  | .ins C fs => S a = none ∧ ∃ dx vs, H a = some (.ins C dx vs) ∧ HasF K S vs fs
theorem Own.off {K : PySem.W.Frag} {H S : Hp} {a : Addr} {o : OD} (h : Own K H S a o) : S a = none := by
  cases o with
  | lst ds => exact h.1
  | ins C fs => exact h.1
theorem Own.there {K : PySem.W.Frag} {H S : Hp} {a : Addr} {o : OD} (h : Own K H S a o) : ∃ u, H a = some u := by
  cases o with
  | lst ds => obtain ⟨_, xs, e, _⟩ := h; exact ⟨_, e⟩
  | ins C fs => obtain ⟨_, dx, vs, e, _⟩ := h; exact ⟨_, e⟩
structure Wd (K : PySem.W.Frag) (W : Om) (H S : Hp) : Prop where
  sub : Ex S H
  own : ∀ p ∈ W, Own K H S p.1 p.2
  nd : (dom W).Nodup
structure Step (W : Om) (H S : Hp) (W' : Om) (H' S' : Hp) : Prop where
  keep : ∀ a o, a ∉ dom W → H a = some o → H' a = some o
  grow : Ex S S'
  new : ∀ a o, S' a = some o → S a = some o ∨ H a = none ∨ a ∈ dom W
  dm : ∀ a ∈ dom W', a ∈ dom W ∨ H a = none
section
variable {K : PySem.W.Frag} {W W1 W2 Wc Wr Wc' : Om} {H H1 H2 S S1 S2 : Hp}
theorem Step.refl (W : Om) (H S : Hp) : Step W H S W H S := ⟨fun _ _ _ h => h, Ex.refl S, fun _ _ h => .inl h, fun _ h => .inl h⟩
theorem Step.back (a : Step W H S W1 H1 S1) {b : Addr} (h : H1 b = none) : H b = none ∨ b ∈ dom W := by
  by_cases hb : b ∈ dom W
  · exact .inr hb
  · cases q : H b with
    | none => exact .inl rfl
    | some o =>
      rw [a.keep b o hb q] at h
      cases h
theorem Step.trans (a : Step W H S W1 H1 S1) (b : Step W1 H1 S1 W2 H2 S2) : Step W H S W2 H2 S2 where
  keep := fun c o hc e => b.keep c o (fun z => by
    rcases a.dm c z with q | q
    · exact hc q
    · rw [q] at e
      cases e) (a.keep c o hc e)
  grow := a.grow.trans b.grow
  new := fun c o e => by
    rcases b.new c o e with q | q | q
    · exact a.new c o q
    · exact .inr (a.back q)
    · exact .inr (a.dm c q).symm
  dm := fun c hc => by
    rcases b.dm c hc with q | q
    · exact a.dm c q
    · exact (a.back q).symm
theorem Step.perm {W' : Om} (a : Step W H S W1 H1 S1) (p : W'.Perm W) : Step W' H S W1 H1 S1 :=
  have q : ∀ c, c ∈ dom W' ↔ c ∈ dom W := fun c => (p.map (·.1)).mem_iff
  ⟨fun c o hc => a.keep c o fun z => hc ((q c).mpr z), a.grow, fun c o e => (a.new c o e).imp_right (Or.imp_right (q c).mpr), fun c hc => (a.dm c hc).imp_left (q c).mpr⟩
theorem Wd.perm {W' : Om} (w : Wd K W H S) (p : W'.Perm W) : Wd K W' H S := ⟨w.sub, fun q hq => w.own q (p.mem_iff.mp hq), (List.Perm.nodup_iff (l₁ := dom W') (l₂ := dom W) (p.map Prod.fst)).mpr w.nd⟩
theorem dom_append : dom (Wc ++ Wr) = dom Wc ++ dom Wr := List.map_append
theorem Wd.left (w : Wd K (Wc ++ Wr) H S) : Wd K Wc H S :=
  ⟨w.sub, fun p hp => w.own p (List.mem_append_left _ hp), (List.nodup_append.mp (by have := w.nd; rwa [dom_append] at this)).1⟩
theorem mem_dom {p : Addr × OD} {W : Om} (h : p ∈ W) : p.1 ∈ dom W := List.mem_map_of_mem h
theorem dom_mem {a : Addr} {W : Om} (h : a ∈ dom W) : ∃ o, (a, o) ∈ W := by
  obtain ⟨p, hp, rfl⟩ := List.mem_map.mp h
  exact ⟨p.2, hp⟩
theorem Own.step (hc : Own K H S a o) (st : Step Wc H S W1 H1 S1) (h : a ∉ dom Wc) : Own K H1 S1 a o := by
  have off : S1 a = none := by
    cases q : S1 a with
    | none => rfl
    | some u =>
      rcases st.new a u q with z | z | z
      · rw [hc.off] at z
        cases z
      · obtain ⟨v, e⟩ := hc.there
        rw [e] at z
        cases z
      · exact absurd z h
  cases o with
  | lst ds =>
    obtain ⟨_, xs, e, l⟩ := hc
    exact ⟨off, xs, st.keep a _ h e, l.mono st.grow⟩
  | ins C fs =>
    obtain ⟨_, dx, vs, e, l⟩ := hc
    exact ⟨off, dx, vs, st.keep a _ h e, l.mono st.grow⟩
/-- the frame: what a part does, the rest as it was -/
theorem Wd.frame (w : Wd K (Wc ++ Wr) H S) (st : Step Wc H S Wc' H1 S1) (w1 : Wd K Wc' H1 S1) : Wd K (Wc' ++ Wr) H1 S1 ∧ Step (Wc ++ Wr) H S (Wc' ++ Wr) H1 S1 := by
  have nd := w.nd
  rw [dom_append] at nd
  obtain ⟨n1, n2, n3⟩ := List.nodup_append.mp nd
  refine ⟨⟨w1.sub, fun p hp => ?_, ?_⟩, ⟨fun a o ha e => st.keep a o (fun z => ha (by rw [dom_append]; exact List.mem_append_left _ z)) e, st.grow, fun a o e => (st.new a o e).imp_right (Or.imp_right fun z => by rw [dom_append]; exact List.mem_append_left _ z), fun a ha => ?_⟩⟩
  · rcases List.mem_append.mp hp with h | h
    · exact w1.own p h
    · exact (w.own p (List.mem_append_right _ h)).step st fun z => n3 _ z _ (mem_dom h) rfl
  · rw [dom_append]
    refine List.nodup_append.mpr ⟨w1.nd, n2, fun a ha b hb e => ?_⟩
    subst e
    rcases st.dm a ha with q | q
    · exact n3 a q a hb rfl
    · obtain ⟨o, ho⟩ := dom_mem hb
      obtain ⟨u, e⟩ := (w.own _ (List.mem_append_right _ ho)).there
      rw [q] at e
      cases e
  · rw [dom_append] at ha ⊢
    rcases List.mem_append.mp ha with h | h
    · exact (st.dm a h).imp_left (List.mem_append_left _)
    · exact .inl (List.mem_append_right _ h)
/-- a new object that stays -/
theorem Wd.newS {p : Addr} {o : HO} (w : Wd K W H S) (hp : H p = none) : Wd K W (upd H p o) (upd S p o) ∧ Step W H S W (upd H p o) (upd S p o) := by
  have sp : S p = none := by
    cases q : S p with
    | none => rfl
    | some u =>
      rw [w.sub p u q] at hp
      cases hp
  have st : Step [] H S [] (upd H p o) (upd S p o) := by
    refine ⟨fun a u _ e => by rw [upd_ne (ne_of_none e hp)]; exact e, fun a u e => by rw [upd_ne (ne_of_none e sp)]; exact e, fun a u e => ?_, fun a ha => nomatch ha⟩
    by_cases h : a = p
    · subst h
      exact .inr (.inl hp)
    · rw [upd_ne h] at e
      exact .inl e
  have w0 : Wd K [] (upd H p o) (upd S p o) := by
    refine ⟨fun a u e => ?_, fun q hq => (nomatch hq), List.nodup_nil⟩
    by_cases h : a = p
    · subst h
      rw [upd_same] at e ⊢
      exact e
    · rw [upd_ne h] at e ⊢
      exact w.sub a u e
  have r := Wd.frame (Wc := []) (Wr := W) w st w0
  exact r
/-- a new object that may change -/
theorem Wd.newO {p : Addr} {o : HO} {d : OD} (w : Wd K W H S) (hp : H p = none) (hd : ∀ H', H' p = some o → S p = none → Own K H' S p d) : Wd K ((p, d) :: W) (upd H p o) S ∧ Step W H S ((p, d) :: W) (upd H p o) S := by
  have sp : S p = none := by
    cases q : S p with
    | none => rfl
    | some u =>
      rw [w.sub p u q] at hp
      cases hp
  have st : Step [] H S [(p, d)] (upd H p o) S :=
    ⟨fun a u _ e => by rw [upd_ne (ne_of_none e hp)]; exact e, Ex.refl S, fun a u e => .inl e, fun a ha => by
      have : a = p := by simpa [dom] using ha
      subst this
      exact .inr hp⟩
  have w0 : Wd K [(p, d)] (upd H p o) S := by
    refine ⟨fun a u e => by rw [upd_ne (ne_of_none (w.sub a u e) hp)]; exact w.sub a u e, fun q hq => ?_, by simp [dom]⟩
    have : q = (p, d) := by simpa using hq
    subst this
    exact hd _ upd_same sp
  exact Wd.frame (Wc := []) (Wr := W) w st w0
/-- what changes is changed -/
theorem Wd.setO {p : Addr} {o : HO} {d d' : OD} (w : Wd K ((p, d) :: W) H S) (hd : ∀ H', H' p = some o → S p = none → Own K H' S p d') : Wd K ((p, d') :: W) (upd H p o) S ∧ Step ((p, d) :: W) H S ((p, d') :: W) (upd H p o) S := by
  have sp : S p = none := (w.own _ List.mem_cons_self).off
  have st : Step [(p, d)] H S [(p, d')] (upd H p o) S := by
    refine ⟨fun a u ha e => ?_, Ex.refl S, fun a u e => .inl e, fun a ha => .inl ha⟩
    have : a ≠ p := fun z => ha (by simp [dom, z])
    rw [upd_ne this]
    exact e
  have w0 : Wd K [(p, d')] (upd H p o) S := by
    refine ⟨fun a u e => ?_, fun q hq => ?_, by simp [dom]⟩
    · have : a ≠ p := fun z => by rw [z, sp] at e; cases e
      rw [upd_ne this]
      exact w.sub a u e
    · have : q = (p, d') := by simpa using hq
      subst this
      exact hd _ upd_same sp
  exact Wd.frame (Wc := [(p, d)]) (Wr := W) w st w0
/-- what changed stays from now on -/
theorem Wd.stay {p : Addr} {o : HO} {d : OD} (w : Wd K ((p, d) :: W) H S) (hp : H p = some o) : Wd K W H (upd S p o) ∧ Step ((p, d) :: W) H S W H (upd S p o) := by
  have sp : S p = none := (w.own _ List.mem_cons_self).off
  have st : Step [(p, d)] H S [] H (upd S p o) := by
    refine ⟨fun a u _ e => e, fun a u e => by rw [upd_ne (fun z => by rw [z, sp] at e; cases e)]; exact e, fun a u e => ?_, fun a ha => nomatch ha⟩
    by_cases h : a = p
    · exact .inr (.inr (by simp [dom, h]))
    · rw [upd_ne h] at e
      exact .inl e
  have w0 : Wd K [] H (upd S p o) := by
    refine ⟨fun a u e => ?_, fun q hq => (nomatch hq), List.nodup_nil⟩
    by_cases h : a = p
    · subst h
      rw [upd_same] at e
      rw [← e]
      exact hp
    · rw [upd_ne h] at e
      exact w.sub a u e
  exact Wd.frame (Wc := [(p, d)]) (Wr := W) w st w0
end

/-! ## slots, exceptions -/
structure Sl (K : PySem.W.Frag) (G : Ga) (σ : L2.St) (S : Hp) : Prop where
  len : G.length = σ.length
  at_ : ∀ (i : Nat) (d : D), G[i]? = some (some d) → ∃ v, σ[i]? = some (some v) ∧ Has K S v d
/-- the wish of an exception: over the heap, and by data: its class, its words -/
structure XW where
  E : XK
  A : Addr → Str → Om → Prop
/-- no exception -/
abbrev X0 : XW := ⟨E0, fun _ _ _ => False⟩
def xdOf (m : Str) : HO := .xd [(("words" : Str), .str m)]
def XC (K : PySem.W.Frag) (x : XW) (W : Om) (H S : Hp) : Prop := ∀ C m W' H' S' d, Step W H S W' H' S' → Wd K W' H' S' → H' d = some (xdOf m) → S' d = none → d ∉ dom W' → x.A C m W' → x.E (.ref C) (some d) H'
structure Now (K : PySem.W.Frag) (x : XW) (G : Ga) (σ : L2.St) (W : Om) (H S : Hp) : Prop where
  w : Wd K W H S
  s : Sl K G σ S
  x : XC K x W H S
section
variable {K : PySem.W.Frag} {x : XW} {G : Ga} {σ : L2.St} {W W' : Om} {H H' S S' : Hp}
theorem Sl.mono (s : Sl K G σ S) (e : Ex S S') : Sl K G σ S' := ⟨s.len, fun i d h => let ⟨v, a, b⟩ := s.at_ i d h; ⟨v, a, b.mono e⟩⟩
theorem Sl.set {v : V} {d : D} (s : Sl K G σ S) (i : Nat) (h : Has K S v d) : Sl K (G.set i (some d)) (σ.set i (some v)) S := by
  refine ⟨by rw [List.length_set, List.length_set]; exact s.len, fun j e hj => ?_⟩
  by_cases q : i = j
  · subst q
    by_cases hi : i < G.length
    · rw [List.getElem?_set_self hi] at hj
      cases hj
      exact ⟨v, by rw [List.getElem?_set_self (by rw [← s.len]; exact hi)], h⟩
    · rw [List.getElem?_eq_none (by rw [List.length_set]; omega)] at hj
      cases hj
  · rw [List.getElem?_set_ne q] at hj ⊢
    exact s.at_ j e hj
theorem XC.step (x0 : XC K x W H S) (st : Step W H S W' H' S') : XC K x W' H' S' := fun C m W2 H2 S2 d st2 w2 => x0 C m W2 H2 S2 d (st.trans st2) w2
theorem Now.step (n : Now K x G σ W H S) (st : Step W H S W' H' S') (w : Wd K W' H' S') : Now K x G σ W' H' S' := ⟨w, n.s.mono st.grow, n.x.step st⟩
theorem Now.set {v : V} {d : D} (n : Now K x G σ W H S) (i : Nat) (h : Has K S v d) : Now K x (G.set i (some d)) (σ.set i (some v)) W H S := ⟨n.w, n.s.set i h, n.x⟩
/-- slots are forgotten -/
def Fgt (G G' : Ga) : Prop := G'.length = G.length ∧ ∀ (i : Nat) (d : D), G'[i]? = some (some d) → G[i]? = some (some d)
theorem Now.forget {G' : Ga} (n : Now K x G σ W H S) (f : Fgt G G') : Now K x G' σ W H S := ⟨n.w, ⟨f.1.trans n.s.len, fun i d h => n.s.at_ i d (f.2 i d h)⟩, n.x⟩
theorem xc0 : XC K X0 W H S := fun _ _ _ _ _ _ _ _ _ _ _ z => z.elim
end
theorem Fgt.refl (G : Ga) : Fgt G G := ⟨rfl, fun _ _ h => h⟩
theorem Fgt.nil : Fgt [] [] := Fgt.refl _
theorem Fgt.cons {o o' : Option D} {G G' : Ga} (h : o' = o ∨ o' = none) (r : Fgt G G') : Fgt (o :: G) (o' :: G') := by
  refine ⟨congrArg (· + 1) r.1, fun i d e => ?_⟩
  cases i with
  | zero =>
    rcases h with h | h
    · rw [h] at e
      exact e
    · rw [h] at e
      simp at e
  | succ i => exact r.2 i d (by simpa using e)
theorem Fgt.keep {o : Option D} {G G' : Ga} (r : Fgt G G') : Fgt (o :: G) (o :: G') := .cons (.inl rfl) r
theorem Fgt.drop {o : Option D} {G G' : Ga} (r : Fgt G G') : Fgt (o :: G) (none :: G') := .cons (.inr rfl) r

/-! ## abstract readings -/
abbrev AE := Ga → Om → (D → Om → Prop) → Prop
abbrev AA := Ga → Om → (List D → Om → Prop) → Prop
abbrev AT := Ga → Om → (Bool → Om → Prop) → Prop
abbrev AO := Ga → Om → (Option Int → Om → Prop) → Prop
structure AEnds where
  nx : Ga → Om → Prop
  rt : D → Om → Prop
  bk : Ga → Om → Prop := fun _ _ => False
  ct : Ga → Om → Prop := fun _ _ => False
abbrev AS := AEnds → Ga → Om → Prop
abbrev AG := D → Ga → Om → (Ga → Om → Prop) → Prop
abbrev AGs := List D → Ga → Om → (Ga → Om → Prop) → Prop
/-- what a loop walks: the items -/
abbrev AI := Ga → Om → (List D → Om → Prop) → Prop
/-- a def by data -/
abbrev ASp := List D → Om → (D → Om → Prop) → (Addr → Str → Om → Prop) → Prop

section
variable (K : PySem.W.Frag) (x : XW)
def RefE (t : TE) (a : AE) : Prop := ∀ (G : Ga) (σ : L2.St) (W : Om) (H S : Hp) (AQ : D → Om → Prop) (Q : VK), Now K x G σ W H S → a G W AQ →
  (∀ d W' v H' S', Step W H S W' H' S' → Wd K W' H' S' → Has K S' v d → AQ d W' → Q v H') → t σ H Q
def RefA (t : TA) (a : AA) : Prop := ∀ (G : Ga) (σ : L2.St) (W : Om) (H S : Hp) (AQ : List D → Om → Prop) (Q : List V → Hp → Prop), Now K x G σ W H S → a G W AQ →
  (∀ ds W' vs H' S', Step W H S W' H' S' → Wd K W' H' S' → HasL K S' vs ds → AQ ds W' → Q vs H') → t σ H Q
def RefT (t : TT) (a : AT) : Prop := ∀ (G : Ga) (σ : L2.St) (W : Om) (H S : Hp) (AQ : Bool → Om → Prop) (Q : Bool → Hp → Prop), Now K x G σ W H S → a G W AQ →
  (∀ b W' H' S', Step W H S W' H' S' → Wd K W' H' S' → AQ b W' → Q b H') → t σ H Q
def RefO (t : TO) (a : AO) : Prop := ∀ (G : Ga) (σ : L2.St) (W : Om) (H S : Hp) (AQ : Option Int → Om → Prop) (Q : Option Int → Hp → Prop), Now K x G σ W H S → a G W AQ →
  (∀ b W' H' S', Step W H S W' H' S' → Wd K W' H' S' → AQ b W' → Q b H') → t σ H Q
structure Fit (W : Om) (H S : Hp) (A : AEnds) (Z : Ends) : Prop where
  nx : ∀ G' σ' W' H' S', Step W H S W' H' S' → Now K x G' σ' W' H' S' → A.nx G' W' → Z.nx σ' H'
  rt : ∀ d v W' H' S', Step W H S W' H' S' → Wd K W' H' S' → Has K S' v d → A.rt d W' → Z.rt v H'
  bk : ∀ G' σ' W' H' S', Step W H S W' H' S' → Now K x G' σ' W' H' S' → A.bk G' W' → Z.bk σ' H'
  ct : ∀ G' σ' W' H' S', Step W H S W' H' S' → Now K x G' σ' W' H' S' → A.ct G' W' → Z.ct σ' H'
def RefS (t : TS) (a : AS) : Prop := ∀ (G : Ga) (σ : L2.St) (W : Om) (H S : Hp) (A : AEnds) (Z : Ends), Now K x G σ W H S → a A G W → Fit K x W H S A Z → t Z σ H
def RefG (t : TG) (a : AG) : Prop := ∀ (G : Ga) (σ : L2.St) (W : Om) (H S : Hp) (v : V) (d : D) (AQ : Ga → Om → Prop) (Q : L2.St → Hp → Prop), Now K x G σ W H S → Has K S v d → a d G W AQ →
  (∀ G' σ' W' H' S', Step W H S W' H' S' → Now K x G' σ' W' H' S' → AQ G' W' → Q σ' H') → t v σ H Q
def RefGs (t : TGs) (a : AGs) : Prop := ∀ (G : Ga) (σ : L2.St) (W : Om) (H S : Hp) (vs : List V) (ds : List D) (AQ : Ga → Om → Prop) (Q : L2.St → Hp → Prop), Now K x G σ W H S → HasL K S vs ds → a ds G W AQ →
  (∀ G' σ' W' H' S', Step W H S W' H' S' → Now K x G' σ' W' H' S' → AQ G' W' → Q σ' H') → t vs σ H Q
/-- the iterator yields these items, whatever grows -/
def Items (S : Hp) (J : It) (ds : List D) : Prop := ∃ (P : Hp → Prop) (Y : Nat → Hp → V → Hp → Prop), L2.Walk J ds.length P Y ∧ (∀ S' H, Ex S S' → Ex S' H → P H) ∧
  ∀ i H v H' S' (d : D), Y i H v H' → Ex S S' → Ex S' H → ds[i]? = some d → ∃ S2, (∀ W, Wd K W H S' → Wd K W H' S2 ∧ Step W H S' W H' S2) ∧ Has K S2 v d
def RefI (t : TI) (a : AI) : Prop := ∀ (G : Ga) (σ : L2.St) (W : Om) (H S : Hp) (AQ : List D → Om → Prop) (R : It → Hp → Prop), Now K x G σ W H S → a G W AQ →
  (∀ ds W' J H' S', Step W H S W' H' S' → Wd K W' H' S' → Items K S' J ds → AQ ds W' → R J H') → t σ H R
end

/-! ## judgements -/
structure DE (X : Cx) (x : XW) (e : Expr) (a : AE) : Prop where
  ex : ∃ t, PE X e t ∧ RefE X.K x t a
structure DA (X : Cx) (x : XW) (e : List Expr) (a : AA) : Prop where
  ex : ∃ t, PA X e t ∧ RefA X.K x t a
structure DT (X : Cx) (x : XW) (e : Expr) (a : AT) : Prop where
  ex : ∃ t, PT X e t ∧ RefT X.K x t a
structure DW (X : Cx) (x : XW) (e : Expr) (a : AT) : Prop where
  ex : ∃ t, PW X e t ∧ RefT X.K x t a
structure DO (X : Cx) (x : XW) (e : Option Expr) (a : AO) : Prop where
  ex : ∃ t, PO X e t ∧ RefO X.K x t a
structure DS (X : Cx) (x : XW) (s : Stmt) (a : AS) : Prop where
  ex : ∃ t, PS X s t ∧ RefS X.K x t a
structure DSs (X : Cx) (x : XW) (s : List Stmt) (a : AS) : Prop where
  ex : ∃ t, PSs X s t ∧ RefS X.K x t a
structure DG (X : Cx) (x : XW) (e : Expr) (a : AG) : Prop where
  ex : ∃ t, PG X e t ∧ RefG X.K x t a
structure DGs (X : Cx) (x : XW) (e : List Expr) (a : AGs) : Prop where
  ex : ∃ t, PGs X e t ∧ RefGs X.K x t a
structure DI (X : Cx) (x : XW) (tg e : Expr) (a : AI) : Prop where
  ex : ∃ t, PI X tg e t ∧ RefI X.K x t a

/-! ## promises -/
def toSp (K : PySem.W.Frag) (ap : ASp) : Sp := fun vs H Q E => ∃ (S : Hp) (ds : List D) (W : Om) (AQ : D → Om → Prop) (AX : Addr → Str → Om → Prop), Wd K W H S ∧ HasL K S vs ds ∧ ap ds W AQ AX ∧
  (∀ d W' v H' S', Step W H S W' H' S' → Wd K W' H' S' → Has K S' v d → AQ d W' → Q v H') ∧ XC K ⟨E, AX⟩ W H S
/-- a def without effects -/
@[simp] def pureSp (p : List D → (D → Prop) → Prop) : ASp := fun ds W Q _ => W = [] ∧ p ds fun d => Q d []
/-- .. that may raise -/
@[simp] def pureX (p : List D → (D → Prop) → (Addr → Str → Prop) → Prop) : ASp := fun ds W Q X => W = [] ∧ p ds (fun d => Q d []) fun C m => X C m []
end Hd
end

section
set_option maxHeartbeats 4000000
/-! # Hd: the rules -/
namespace Hd
open PySem PySem.Spec PyProof.Rows L2

/-! ## abstract readings of expressions -/
@[simp] def aVar (i : Nat) : AE := fun G W Q => match G[i]? with
  | some (some d) => Q d W
  | _ => False
@[simp] def aC (d : D) : AE := fun _ W Q => Q d W
abbrev AR2 := D → D → (D → Prop) → Prop
abbrev AR1 := D → (D → Prop) → Prop
@[simp] def aOp (r : AR2) (a b : AE) : AE := fun G W Q => a G W fun x W1 => b G W1 fun y W2 => r x y fun d => Q d W2
@[simp] def aUn (r : AR1) (a : AE) : AE := fun G W Q => a G W fun x W1 => r x fun d => Q d W1
@[simp] def aNil : AA := fun _ W Q => Q [] W
@[simp] def aCons (a : AE) (r : AA) : AA := fun G W Q => a G W fun x W1 => r G W1 fun xs W2 => Q (x :: xs) W2
@[simp] def aTup (a : AA) : AE := fun G W Q => a G W fun xs W1 => xs.length ≤ 1000 ∧ Q (.tup xs) W1
@[simp] def aLst (a : AA) : AE := fun G W Q => a G W fun xs W1 => xs.length ≤ 1000 ∧ Q (.lst xs) W1
/-- a new list that is to change -/
@[simp] def aLstO (a : AA) : AE := fun G W Q => a G W fun xs W1 => xs.length ≤ 1000 ∧ ∀ p, p ∉ dom W1 → Q (.adr p) ((p, .lst xs) :: W1)
/-- what changed stays from now on -/
@[simp] def aFrz (a : AE) : AE := fun G W Q => a G W fun x W1 => match x with
  | .adr p => ∃ xs Wr, W1.Perm ((p, .lst xs) :: Wr) ∧ Q (.lst xs) Wr
  | _ => False
/-- a builtin of values -/
@[simp] def aCB (r : List D → (D → Prop) → Prop) (a : AA) : AE := fun G W Q => a G W fun xs W1 => r xs fun d => Q d W1
@[simp] def aFld (C : Addr) (ns : List Str) (i : Nat) (a : AE) : AE := fun G W Q => a G W fun x W1 => match x with
  | .ins C' fs => C' = C ∧ fs.map (·.1) = ns ∧ (match fs[i]? with
    | some (_, d) => Q d W1
    | none => False)
  | _ => False
@[simp] def aFldO (C : Addr) (ns : List Str) (i : Nat) (a : AE) : AE := fun G W Q => a G W fun x W1 => match x with
  | .adr p => ∃ fs, (p, OD.ins C fs) ∈ W1 ∧ fs.map (·.1) = ns ∧ (match fs[i]? with
    | some (_, d) => Q d W1
    | none => False)
  | _ => False
/-- an item of a list that changes -/
@[simp] def aIxO (a b : AE) : AE := fun G W Q => a G W fun x W1 => b G W1 fun y W2 => match x, y with
  | .adr p, .int i => ∃ xs, (p, OD.lst xs) ∈ W2 ∧ 0 ≤ i ∧ (match xs[i.toNat]? with
    | some d => Q d W2
    | none => False)
  | _, _ => False
/-- a new list out of two, that is to change -/
@[simp] def aCatO (a b : AE) : AE := fun G W Q => a G W fun x W1 => b G W1 fun y W2 => match x, y with
  | .lst xs, .lst ys => xs.length + ys.length ≤ 16000000 ∧ ∀ p, p ∉ dom W2 → Q (.adr p) ((p, .lst (xs ++ ys)) :: W2)
  | _, _ => False
/-- list(e), that is to change -/
@[simp] def aListO (a : AE) : AE := fun G W Q => a G W fun x W1 => match x with
  | .lst xs => ∀ p, p ∉ dom W1 → Q (.adr p) ((p, .lst xs) :: W1)
  | _ => False

/-! ### operations -/
@[simp] def oAdd : AR2 := fun x y Q => match x, y with
  | .int i, .int j => Q (.int (i + j))
  | .lst xs, .lst ys => xs.length + ys.length ≤ 16000000 ∧ Q (.lst (xs ++ ys))
  | _, _ => False
@[simp] def oInt (f : Int → Int → D) (c : Int → Int → Prop) : AR2 := fun x y Q => match x, y with
  | .int i, .int j => c i j ∧ Q (f i j)
  | _, _ => False
@[simp] def oSub : AR2 := fun x y Q => match x, y with
  | .int i, .int j => Q (.int (i - j))
  | _, _ => False
@[simp] def oMul : AR2 := fun x y Q => match x, y with
  | .int i, .int j => ((-(2 ^ 64) < i ∧ i < 2 ^ 64) ∨ (-(2 ^ 64) < j ∧ j < 2 ^ 64)) ∧ Q (.int (i * j))
  | _, _ => False
@[simp] def oFdv : AR2 := fun x y Q => match x, y with
  | .int i, .int j => (0 < j ∧ j.natAbs < 2 ^ 100) ∧ Q (.int (i / j))
  | _, _ => False
@[simp] def oPow : AR2 := fun x y Q => match x, y with
  | .int i, .int j => (0 ≤ j ∧ j ≤ 1000000 ∧ i.natAbs < 2 ^ 64) ∧ Q (.int (i ^ j.toNat))
  | _, _ => False
@[simp] def oLt : AR2 := fun x y Q => match x, y with
  | .int i, .int j => Q (.bl (decide (i < j)))
  | _, _ => False
@[simp] def oLe : AR2 := fun x y Q => match x, y with
  | .int i, .int j => Q (.bl (decide (i ≤ j)))
  | _, _ => False
@[simp] def oGt : AR2 := fun x y Q => match x, y with
  | .int i, .int j => Q (.bl (decide (j < i)))
  | _, _ => False
@[simp] def oGe : AR2 := fun x y Q => match x, y with
  | .int i, .int j => Q (.bl (decide (j ≤ i)))
  | _, _ => False
@[simp] def oEq : AR2 := fun x y Q => match x, y with
  | .int i, .int j => Q (.bl (decide (i = j)))
  | .lst xs, .lst ys => ∃ ns ms : List Int, xs = ns.map D.int ∧ ys = ms.map D.int ∧ Q (.bl (decide (ns = ms)))
  | .tup xs, .tup ys => ∃ ns ms : List Int, xs = ns.map D.int ∧ ys = ms.map D.int ∧ Q (.bl (decide (ns = ms)))
  | _, _ => False
@[simp] def oNe : AR2 := fun x y Q => match x, y with
  | .int i, .int j => Q (.bl (!decide (i = j)))
  | _, _ => False
@[simp] def oNeg : AR1 := fun x Q => match x with
  | .int i => Q (.int (-i))
  | _ => False
@[simp] def oIx : AR2 := fun x y Q => match x, y with
  | .lst xs, .int i => 0 ≤ i ∧ (match xs[i.toNat]? with
    | some d => Q d
    | none => False)
  | .tup xs, .int i => 0 ≤ i ∧ (match xs[i.toNat]? with
    | some d => Q d
    | none => False)
  | .frz xs, .int i => 0 ≤ i ∧ (match xs[i.toNat]? with
    | some d => Q d
    | none => False)
  | _, _ => False
@[simp] def cLen : List D → (D → Prop) → Prop := fun xs Q => match xs with
  | [.lst ys] => Q (.int ys.length)
  | [.tup ys] => Q (.int ys.length)
  | [.frz ys] => Q (.int ys.length)
  | [.str z] => z.length ≤ 1000000 ∧ Q (.int z.length)
  | _ => False
@[simp] def cAbs : List D → (D → Prop) → Prop := fun xs Q => match xs with
  | [.int i] => Q (.int (if i < 0 then -i else i))
  | _ => False
@[simp] def cMax : List D → (D → Prop) → Prop := fun xs Q => match xs with
  | [.int i, .int j] => Q (.int (if j > i then j else i))
  | _ => False
@[simp] def cOrd : List D → (D → Prop) → Prop := fun xs Q => match xs with
  | [.str z] => z.length = 1 ∧ Q (.int (z.cps.getD 0 0 : Nat))
  | _ => False
@[simp] def cSum : List D → (D → Prop) → Prop := fun xs Q => match xs with
  | [.lst ys] => ∃ ns : List Int, ys = ns.map D.int ∧ Q (.int ns.sum)
  | _ => False
@[simp] def cList : List D → (D → Prop) → Prop := fun xs Q => match xs with
  | [.lst ys] => Q (.lst ys)
  | _ => False

/-! ### tests -/
@[simp] def aB (a : AE) : AT := fun G W Q => a G W fun x W1 => match x with
  | .bl b => Q b W1
  | _ => False
@[simp] def aAnd (t u : AT) : AT := fun G W Q => t G W fun b W1 => if b = true then u G W1 Q else Q false W1
@[simp] def aOr (t u : AT) : AT := fun G W Q => t G W fun b W1 => if b = true then Q true W1 else u G W1 Q
@[simp] def aNot (t : AT) : AT := fun G W Q => t G W fun b W1 => Q (!b) W1
@[simp] def aYes : AT := fun _ W Q => Q true W
@[simp] def aAndV (a b : AE) : AE := fun G W Q => a G W fun x W1 => match x with
  | .bl c => if c = true then b G W1 Q else Q (.bl false) W1
  | _ => False
@[simp] def aOrV (a b : AE) : AE := fun G W Q => a G W fun x W1 => match x with
  | .bl c => if c = true then Q (.bl true) W1 else b G W1 Q
  | _ => False

/-! ### slices -/
def cutD (xs : List D) (lo hi : Option Int) : List D := (xs.drop (HT.sIx xs.length 0 lo)).take (HT.sIx xs.length xs.length hi - HT.sIx xs.length 0 lo)
@[simp] def aNoP : AO := fun _ W Q => Q none W
@[simp] def aPart (a : AE) : AO := fun G W Q => a G W fun x W1 => match x with
  | .int i => Q (some i) W1
  | _ => False
@[simp] def aSl (a : AE) (lo hi : AO) : AE := fun G W Q => a G W fun x W1 => lo G W1 fun l W2 => hi G W2 fun h W3 => match x with
  | .lst xs => Q (.lst (cutD xs l h)) W3
  | .frz xs => Q (.lst (cutD xs l h)) W3
  | _ => False

section
variable {K : PySem.W.Frag} {x : XW}
theorem ref_var (i : Nat) : RefE K x (tVar i) (aVar i) := fun G σ W H S AQ Q n a k => by
  unfold aVar at a
  split at a
  · rename_i d e
    obtain ⟨v, h1, h2⟩ := n.s.at_ i d e
    exact ⟨v, h1, k d W v H S (Step.refl W H S) n.w h2 a⟩
  · exact a.elim
theorem ref_c {v : V} {d : D} (h : ∀ S, Has K S v d) : RefE K x (tC v) (aC d) := fun G σ W H S AQ Q n a k => k d W v H S (Step.refl W H S) n.w (h S) a
/-- an operation of values -/
def RefR2 (K : PySem.W.Frag) (r : R2) (a : AR2) : Prop := ∀ (W : Om) (H S : Hp) (v u : V) (d e : D) (AQ : D → Prop) (Q : VK), Wd K W H S → Has K S v d → Has K S u e → a d e AQ →
  (∀ z w H' S', Step W H S W H' S' → Wd K W H' S' → Has K S' w z → AQ z → Q w H') → r v u H Q
theorem ref_op {r : R2} {ar : AR2} {ta tb : TE} {a b : AE} (hr : RefR2 K r ar) (ha : RefE K x ta a) (hb : RefE K x tb b) : RefE K x (tOp r ta tb) (aOp ar a b) := fun G σ W H S AQ Q n h k =>
  ha G σ W H S _ _ n h fun d W1 v H1 S1 st1 w1 hv h1 => hb G σ W1 H1 S1 _ _ (n.step st1 w1) h1 fun e W2 u H2 S2 st2 w2 hu h2 =>
    hr W2 H2 S2 v u d e _ _ w2 (hv.mono st2.grow) hu h2 fun z w H3 S3 st3 w3 hw q => k z W2 w H3 S3 ((st1.trans st2).trans st3) w3 hw q
theorem ref_un {r : V → Hp → VK → Prop} {ar : AR1} {ta : TE} {a : AE} (hr : ∀ (W : Om) (H S : Hp) (v : V) (d : D) (AQ : D → Prop) (Q : VK), Wd K W H S → Has K S v d → ar d AQ → (∀ z w, Has K S w z → AQ z → Q w H) → r v H Q) (ha : RefE K x ta a) :
    RefE K x (tUn r ta) (aUn ar a) := fun G σ W H S AQ Q n h k =>
  ha G σ W H S _ _ n h fun d W1 v H1 S1 st1 w1 hv h1 => hr W1 H1 S1 v d _ _ w1 hv h1 fun z w hw q => k z W1 w H1 S1 st1 w1 hw q
theorem ref_nil : RefA K x tNil aNil := fun G σ W H S AQ Q n h k => k [] W [] H S (Step.refl W H S) n.w .nil h
theorem ref_cons {ta : TE} {tr : TA} {a : AE} {r : AA} (ha : RefE K x ta a) (hr : RefA K x tr r) : RefA K x (tCons ta tr) (aCons a r) := fun G σ W H S AQ Q n h k =>
  ha G σ W H S _ _ n h fun d W1 v H1 S1 st1 w1 hv h1 => hr G σ W1 H1 S1 _ _ (n.step st1 w1) h1 fun ds W2 vs H2 S2 st2 w2 hs h2 => k (d :: ds) W2 (v :: vs) H2 S2 (st1.trans st2) w2 (.cons (hv.mono st2.grow) hs) h2
theorem line_of1000 {n : Nat} (h : n ≤ 1000) : n ≤ sizeLine := by rw [sizeLine_eq]; omega
theorem line_of16 {n : Nat} (h : n ≤ 16000000) : n ≤ sizeLine := by rw [sizeLine_eq]; omega
theorem ref_tup {t : TA} {a : AA} (ha : RefA K x t a) : RefE K x (tTup t) (aTup a) := fun G σ W H S AQ Q n h k =>
  ha G σ W H S _ _ n h fun ds W1 vs H1 S1 st1 w1 hv ⟨hl, q⟩ => ⟨line_of1000 (by rw [hv.length]; exact hl), fun p hp => by
    obtain ⟨w2, st2⟩ := w1.newS (o := .tup vs) hp
    exact k _ W1 _ _ _ (st1.trans st2) w2 (.tup upd_same (hv.mono st2.grow)) q⟩
theorem ref_lst {t : TA} {a : AA} (ha : RefA K x t a) : RefE K x (tLst t) (aLst a) := fun G σ W H S AQ Q n h k =>
  ha G σ W H S _ _ n h fun ds W1 vs H1 S1 st1 w1 hv ⟨hl, q⟩ => ⟨line_of1000 (by rw [hv.length]; exact hl), fun p hp => by
    obtain ⟨w2, st2⟩ := w1.newS (o := .lst vs) hp
    exact k _ W1 _ _ _ (st1.trans st2) w2 (.lst upd_same (hv.mono st2.grow)) q⟩
theorem dom_new {W : Om} {H S : Hp} {p : Addr} (w : Wd K W H S) (hp : H p = none) : p ∉ dom W := fun z => by
  obtain ⟨o, ho⟩ := dom_mem z
  obtain ⟨u, e⟩ := (w.own _ ho).there
  rw [hp] at e
  cases e
theorem ref_lstO {t : TA} {a : AA} (ha : RefA K x t a) : RefE K x (tLst t) (aLstO a) := fun G σ W H S AQ Q n h k =>
  ha G σ W H S _ _ n h fun ds W1 vs H1 S1 st1 w1 hv ⟨hl, q⟩ => ⟨line_of1000 (by rw [hv.length]; exact hl), fun p hp => by
    obtain ⟨w2, st2⟩ := w1.newO (o := .lst vs) (d := .lst ds) hp fun H' e s => ⟨s, vs, e, hv⟩
    exact k _ _ _ _ _ (st1.trans st2) w2 (.adr p) (q p (dom_new w1 hp))⟩
theorem ref_frz {t : TE} {a : AE} (ha : RefE K x t a) : RefE K x t (aFrz a) := fun G σ W H S AQ Q n h k =>
  ha G σ W H S _ _ n h fun d W1 v H1 S1 st1 w1 hv q => by
    cases d with
    | adr p =>
      obtain ⟨xs, Wr, pm, q⟩ := q
      cases hv
      have w2 := w1.perm pm.symm
      obtain ⟨_, vs, e, l⟩ := w2.own _ List.mem_cons_self
      obtain ⟨w3, st3⟩ := w2.stay e
      exact k _ Wr _ _ _ (st1.trans (st3.perm pm)) w3 (.lst upd_same (l.mono st3.grow)) q
    | _ => exact q.elim
theorem ref_cb {r : List V → Hp → VK → Prop} {ar : List D → (D → Prop) → Prop} {t : TA} {a : AA} (hr : ∀ (W : Om) (H S : Hp) (vs : List V) (ds : List D) (AQ : D → Prop) (Q : VK), Wd K W H S → HasL K S vs ds → ar ds AQ →
    (∀ z w H' S', Step W H S W H' S' → Wd K W H' S' → Has K S' w z → AQ z → Q w H') → r vs H Q) (ha : RefA K x t a) : RefE K x (tCB r t) (aCB ar a) := fun G σ W H S AQ Q n h k =>
  ha G σ W H S _ _ n h fun ds W1 vs H1 S1 st1 w1 hv h1 => hr W1 H1 S1 vs ds _ _ w1 hv h1 fun z w H2 S2 st2 w2 hw q => k z W1 w H2 S2 (st1.trans st2) w2 hw q
/-- fields by place -/
theorem lookup_at {α : Type} : ∀ {fs : List (Str × α)} {ns : List Str} {i : Nat} {f g : Str} {d : α}, fs.map (·.1) = ns → ns.Nodup → ns[i]? = some f → fs[i]? = some (g, d) → fs.lookup f = some d
  | [], _, i, f, g, d, _, _, _, h => by simp at h
  | (g0, d0) :: r, ns, i, f, g, d, e, nd, hn, h => by
    subst e
    cases i with
    | zero =>
      simp at hn h
      obtain ⟨rfl, rfl⟩ := h
      subst hn
      simp [List.lookup]
    | succ i =>
      simp at hn h nd
      have ne : (f == g0) = false := by
        refine beq_eq_false_iff_ne.mpr fun z => ?_
        subst z
        obtain ⟨y, hy⟩ := hn
        exact nd.1 _ (List.mem_of_getElem? hy)
      have e2 : List.lookup f ((g0, d0) :: r) = r.lookup f := by simp [List.lookup, ne]
      rw [e2]
      exact lookup_at (fs := r) (ns := r.map (·.1)) (i := i) (g := g) rfl nd.2 (by simpa using hn) h
theorem ref_fld {C : Addr} {ns : List Str} {i : Nat} {f : Str} {t : TE} {a : AE} (c : Cls K C) (na : NoAttr K C f) (nd : ns.Nodup) (hf : ns[i]? = some f) (ha : RefE K x t a) : RefE K x (tFld K t f) (aFld C ns i a) := fun G σ W H S AQ Q n h k =>
  ha G σ W H S _ _ n h fun d W1 v H1 S1 st1 w1 hv q => by
    cases d with
    | ins C' fs =>
      obtain ⟨rfl, e, q⟩ := q
      split at q
      · rename_i g d he
        cases hv with
        | @ins p _ dx vs _ hp l =>
          obtain ⟨u, h1, h2⟩ := l.lookup (lookup_at e nd hf he)
          exact ⟨p, C', dx, vs, u, rfl, w1.sub _ _ hp, c, na, h1, k d W1 u H1 S1 st1 w1 h2 q⟩
      · exact q.elim
    | _ => exact q.elim
theorem ref_fldO {C : Addr} {ns : List Str} {i : Nat} {f : Str} {t : TE} {a : AE} (c : Cls K C) (na : NoAttr K C f) (nd : ns.Nodup) (hf : ns[i]? = some f) (ha : RefE K x t a) : RefE K x (tFld K t f) (aFldO C ns i a) := fun G σ W H S AQ Q n h k =>
  ha G σ W H S _ _ n h fun d W1 v H1 S1 st1 w1 hv q => by
    cases d with
    | adr p =>
      obtain ⟨fs, hm, e, q⟩ := q
      split at q
      · rename_i g d he
        cases hv
        obtain ⟨_, dx, vs, hp, l⟩ := w1.own _ hm
        obtain ⟨u, h1, h2⟩ := l.lookup (lookup_at e nd hf he)
        exact ⟨p, C, dx, vs, u, rfl, hp, c, na, h1, k d W1 u H1 S1 st1 w1 h2 q⟩
      · exact q.elim
    | _ => exact q.elim

/-! ### operations of values -/
theorem atI_of {α : Type} {xs : List α} {i : Int} {v : α} (h0 : 0 ≤ i) (h : xs[i.toNat]? = some v) : atI xs i = some v := by
  have e : i = (i.toNat : Int) := by omega
  rw [e]
  exact atI_nat h
theorem r2_ints {g : Int → Int → V} {f : Int → Int → D} {C : Int → Int → Prop} (hg : ∀ S i j, Has K S (g i j) (f i j)) : RefR2 K (rI C g) (oInt f C) := fun W H S v u d e AQ Q w hv hu h k => by
  unfold oInt at h
  split at h
  · rename_i i j
    cases hv
    cases hu
    exact ⟨i, j, rfl, rfl, h.1, k _ _ H S (Step.refl W H S) w (hg S i j) h.2⟩
  · exact h.elim
theorem r2_add : RefR2 K (fun x y H Q => rI0 (fun i j => .int (i + j)) x y H Q ∨ rCat x y H Q) oAdd := fun W H S v u d e AQ Q w hv hu h k => by
  unfold oAdd at h
  split at h
  · rename_i i j
    cases hv
    cases hu
    exact .inl ⟨i, j, rfl, rfl, k _ _ H S (Step.refl W H S) w (.int _) h⟩
  · rename_i xs ys
    cases hv with
    | lst h1 l1 =>
      cases hu with
      | lst h2 l2 =>
        refine .inr ⟨_, _, _, _, rfl, rfl, w.sub _ _ h1, w.sub _ _ h2, line_of16 (by rw [l1.length, l2.length]; exact h.1), fun p hp => ?_⟩
        obtain ⟨w2, st2⟩ := w.newS hp
        exact k _ _ _ _ st2 w2 (.lst upd_same ((l1.append l2).mono st2.grow)) h.2
  · exact h.elim
theorem r2_int0 {g : Int → Int → V} {f : Int → Int → D} {o : AR2} (hg : ∀ S i j, Has K S (g i j) (f i j)) (ho : ∀ d e AQ, o d e AQ → ∃ i j, d = .int i ∧ e = .int j ∧ AQ (f i j)) : RefR2 K (rI0 g) o := fun W H S v u d e AQ Q w hv hu h k => by
  obtain ⟨i, j, rfl, rfl, q⟩ := ho d e AQ h
  cases hv
  cases hu
  exact ⟨i, j, rfl, rfl, k _ _ H S (Step.refl W H S) w (hg S i j) q⟩
theorem r2_intC {g : Int → Int → V} {f : Int → Int → D} {C : Int → Int → Prop} {o : AR2} (hg : ∀ S i j, Has K S (g i j) (f i j)) (ho : ∀ d e AQ, o d e AQ → ∃ i j, d = .int i ∧ e = .int j ∧ C i j ∧ AQ (f i j)) : RefR2 K (rI C g) o := fun W H S v u d e AQ Q w hv hu h k => by
  obtain ⟨i, j, rfl, rfl, hc, q⟩ := ho d e AQ h
  cases hv
  cases hu
  exact ⟨i, j, rfl, rfl, hc, k _ _ H S (Step.refl W H S) w (hg S i j) q⟩
theorem o_int {P : Int → Int → (D → Prop) → Prop} {o : AR2} (ho : o = fun x y Q => match x, y with
  | .int i, .int j => P i j Q
  | _, _ => False) {d e : D} {AQ : D → Prop} (h : o d e AQ) : ∃ i j, d = .int i ∧ e = .int j ∧ P i j AQ := by
  subst ho
  cases d <;> cases e <;> first | exact h.elim | exact ⟨_, _, rfl, rfl, h⟩
theorem r2_sub : RefR2 K (rI0 fun i j => .int (i - j)) oSub := r2_int0 (f := fun i j => .int (i - j)) (fun _ _ _ => .int _) fun d e AQ h => o_int (P := fun i j Q => Q (.int (i - j))) rfl h
theorem r2_lt : RefR2 K (rI0 fun i j => .bl (decide (i < j))) oLt := r2_int0 (f := fun i j => .bl (decide (i < j))) (fun _ _ _ => .bl _) fun d e AQ h => o_int (P := fun i j Q => Q (.bl (decide (i < j)))) rfl h
theorem r2_le : RefR2 K (rI0 fun i j => .bl (decide (i ≤ j))) oLe := r2_int0 (f := fun i j => .bl (decide (i ≤ j))) (fun _ _ _ => .bl _) fun d e AQ h => o_int (P := fun i j Q => Q (.bl (decide (i ≤ j)))) rfl h
theorem r2_gt : RefR2 K (rI0 fun i j => .bl (decide (j < i))) oGt := r2_int0 (f := fun i j => .bl (decide (j < i))) (fun _ _ _ => .bl _) fun d e AQ h => o_int (P := fun i j Q => Q (.bl (decide (j < i)))) rfl h
theorem r2_ge : RefR2 K (rI0 fun i j => .bl (decide (j ≤ i))) oGe := r2_int0 (f := fun i j => .bl (decide (j ≤ i))) (fun _ _ _ => .bl _) fun d e AQ h => o_int (P := fun i j Q => Q (.bl (decide (j ≤ i)))) rfl h
theorem r2_mul : RefR2 K (rI CMul fun i j => .int (i * j)) oMul := r2_intC (f := fun i j => .int (i * j)) (fun _ _ _ => .int _) fun d e AQ h => o_int (P := fun i j Q => CMul i j ∧ Q (.int (i * j))) rfl h
theorem r2_pow : RefR2 K (rI CPow fun i j => .int (i ^ j.toNat)) oPow := r2_intC (f := fun i j => .int (i ^ j.toNat)) (fun _ _ _ => .int _) fun d e AQ h => o_int (P := fun i j Q => CPow i j ∧ Q (.int (i ^ j.toNat))) rfl h
theorem r2_fdv : RefR2 K (rI CDivW fun i j => .int (i / j)) oFdv := r2_intC (f := fun i j => .int (i / j)) (fun _ _ _ => .int _) fun d e AQ h => by
  obtain ⟨i, j, rfl, rfl, ⟨h1, h2⟩, q⟩ := o_int (P := fun i j Q => (0 < j ∧ j.natAbs < 2 ^ 100) ∧ Q (.int (i / j))) rfl h
  exact ⟨i, j, rfl, rfl, wide_div h1 h2 (by decide) (by decide), q⟩
theorem dp_ints {S H : Hp} (e : Ex S H) : ∀ {vs : List V} {ns : List Int}, HasL K S vs (ns.map D.int) → DpAll K H vs (ns.map PyData.int)
  | _, [], h => by
    cases h
    exact .nil
  | _, n :: r, h => by
    cases h with
    | cons h l =>
      cases h
      exact .cons (.int n) (dp_ints e l)
theorem eqvAll_ints : ∀ ns ms : List Int, PyData.eqvAll (ns.map PyData.int) (ms.map PyData.int) = decide (ns = ms)
  | [], [] => by simp [PyData.eqvAll]
  | [], _ :: _ => by simp [PyData.eqvAll]
  | _ :: _, [] => by simp [PyData.eqvAll]
  | n :: r, m :: t => by
    have ih := eqvAll_ints r t
    by_cases h : n = m
    · subst h
      simp [PyData.eqvAll, PyData.eqv, ih]
    · simp [PyData.eqvAll, PyData.eqv, h]
theorem canLay_ints : ∀ ns : List Int, PyData.canLayAll0 (ns.map PyData.int) = true
  | [] => by simp [PyData.canLayAll0]
  | n :: r => by simp [PyData.canLayAll0, PyData.canLay0, canLay_ints r]
theorem depthAll_ints : ∀ ns : List Int, PyData.depthAll (ns.map PyData.int) ≤ 1
  | [] => by simp [PyData.depthAll]
  | n :: r => by
    have := depthAll_ints r
    simp [PyData.depthAll, PyData.depth]
    omega
theorem shaped_ints (ns : List Int) : SeqAt.shaped (.list (ns.map PyData.int)) = true ∧ SeqAt.shaped (.tuple (ns.map PyData.int)) = true := by
  have h1 := canLay_ints ns
  have h2 := depthAll_ints ns
  refine ⟨Bool.and_eq_true_iff.mpr ⟨by simpa only [PyData.canLay0] using h1, decide_eq_true ?_⟩, Bool.and_eq_true_iff.mpr ⟨by simpa only [PyData.canLay0] using h1, decide_eq_true ?_⟩⟩
  · simp only [PyData.depth]
    omega
  · simp only [PyData.depth]
    omega
theorem r2_eq : RefR2 K (fun x y H Q => rEq x y H Q ∨ rEqD K x y H Q) oEq := fun W H S v u d e AQ Q w hv hu h k => by
  unfold oEq at h
  split at h
  · rename_i i j
    cases hv
    cases hu
    refine .inl ⟨rfl, k _ _ H S (Step.refl W H S) w (.bl _) ?_⟩
    have e : decide (V.int i = V.int j) = decide (i = j) := by simp
    rw [e]
    exact h
  · obtain ⟨ns, ms, rfl, rfl, q⟩ := h
    cases hv with
    | lst h1 l1 =>
      cases hu with
      | lst h2 l2 =>
        refine .inr ⟨_, _, .lst (SqL.of (w.sub _ _ h1)) (dp_ints w.sub l1), .lst (SqL.of (w.sub _ _ h2)) (dp_ints w.sub l2), (shaped_ints ns).1, (shaped_ints ms).1, k _ _ H S (Step.refl W H S) w (.bl _) ?_⟩
        simp only [PyData.eqv, eqvAll_ints]
        exact q
  · obtain ⟨ns, ms, rfl, rfl, q⟩ := h
    cases hv with
    | tup h1 l1 =>
      cases hu with
      | tup h2 l2 =>
        refine .inr ⟨_, _, .tup (SqT.of (w.sub _ _ h1)) (dp_ints w.sub l1), .tup (SqT.of (w.sub _ _ h2)) (dp_ints w.sub l2), (shaped_ints ns).2, (shaped_ints ms).2, k _ _ H S (Step.refl W H S) w (.bl _) ?_⟩
        simp only [PyData.eqv, eqvAll_ints]
        exact q
  · exact h.elim
theorem r2_ne : RefR2 K rNe oNe := fun W H S v u d e AQ Q w hv hu h k => by
  unfold oNe at h
  split at h
  · rename_i i j
    cases hv
    cases hu
    refine ⟨rfl, k _ _ H S (Step.refl W H S) w (.bl _) ?_⟩
    have e : decide (V.int i = V.int j) = decide (i = j) := by simp
    rw [e]
    exact h
  · exact h.elim
theorem r2_ix : RefR2 K (rIx K) oIx := fun W H S v u d e AQ Q w hv hu h k => by
  unfold oIx at h
  split at h
  · obtain ⟨h0, h⟩ := h
    split at h
    · rename_i xs i _ z he
      cases hv with
      | lst h1 l1 =>
        cases hu
        obtain ⟨y, e1, e2⟩ := l1.get he
        exact .inl ⟨_, _, _, y, rfl, rfl, SqL.of (w.sub _ _ h1), atI_of h0 e1, k _ _ H S (Step.refl W H S) w e2 h⟩
    · exact h.elim
  · obtain ⟨h0, h⟩ := h
    split at h
    · rename_i xs i _ z he
      cases hv with
      | tup h1 l1 =>
        cases hu
        obtain ⟨y, e1, e2⟩ := l1.get he
        exact .inr (.inl ⟨_, _, _, y, rfl, rfl, SqT.of (w.sub _ _ h1), atI_of h0 e1, k _ _ H S (Step.refl W H S) w e2 h⟩)
    · exact h.elim
  · obtain ⟨h0, h⟩ := h
    split at h
    · rename_i xs i _ z he
      cases hv with
      | frz h1 l1 =>
        cases hu
        obtain ⟨y, e1, e2⟩ := l1.get he
        exact .inl ⟨_, _, _, y, rfl, rfl, sql_mono w.sub h1, atI_of h0 e1, k _ _ H S (Step.refl W H S) w e2 h⟩
    · exact h.elim
  · exact h.elim
theorem ref_neg {t : TE} {a : AE} (ha : RefE K x t a) : RefE K x (tUn (rU fun i => .int (-i)) t) (aUn oNeg a) := ref_un (fun W H S v d AQ Q w hv h k => by
  cases d with
  | int i =>
    cases hv
    exact ⟨i, rfl, k _ _ (.int _) h⟩
  | _ => exact h.elim) ha
theorem ref_ixO {ta tb : TE} {a b : AE} (ha : RefE K x ta a) (hb : RefE K x tb b) : RefE K x (tOp (rIx K) ta tb) (aIxO a b) := fun G σ W H S AQ Q n h k =>
  ha G σ W H S _ _ n h fun d W1 v H1 S1 st1 w1 hv h1 => hb G σ W1 H1 S1 _ _ (n.step st1 w1) h1 fun e W2 u H2 S2 st2 w2 hu h2 => by
    unfold Hd.aIxO at h
    split at h2
    · obtain ⟨xs, hm, h0, h2⟩ := h2
      split at h2
      · rename_i z he
        cases hv
        cases hu
        obtain ⟨_, vs, hp, l⟩ := w2.own _ hm
        obtain ⟨y, e1, e2⟩ := l.get he
        exact .inl ⟨_, _, _, y, rfl, rfl, SqL.of hp, atI_of h0 e1, k _ _ _ H2 S2 (st1.trans st2) w2 e2 h2⟩
      · exact h2.elim
    · exact h2.elim
theorem ref_catO {ta tb : TE} {a b : AE} (ha : RefE K x ta a) (hb : RefE K x tb b) : RefE K x (tOp (fun x y H Q => rI0 (fun i j => .int (i + j)) x y H Q ∨ rCat x y H Q) ta tb) (aCatO a b) := fun G σ W H S AQ Q n h k =>
  ha G σ W H S _ _ n h fun d W1 v H1 S1 st1 w1 hv h1 => hb G σ W1 H1 S1 _ _ (n.step st1 w1) h1 fun e W2 u H2 S2 st2 w2 hu h2 => by
    split at h2
    · obtain ⟨hz, h2⟩ := h2
      cases hv with
      | lst e1 l1 =>
        cases hu with
        | lst e2 l2 =>
          have l1 := l1.mono st2.grow
          refine .inr ⟨_, _, _, _, rfl, rfl, w2.sub _ _ (st2.grow _ _ e1), w2.sub _ _ e2, line_of16 (by rw [l1.length, l2.length]; exact hz), fun p hp => ?_⟩
          obtain ⟨w3, st3⟩ := w2.newO (d := .lst _) hp fun H' e s => ⟨s, _, e, l1.append l2⟩
          exact k _ _ _ _ _ ((st1.trans st2).trans st3) w3 (.adr p) (h2 p (dom_new w2 hp))
    · exact h2.elim
end
end Hd
end

section
set_option maxHeartbeats 4000000
/-! # Hd: builtins, tests, slices, iterators, targets, statements, loops -/
namespace Hd
open PySem PySem.Spec PyProof.Rows L2

section
variable {K : PySem.W.Frag} {x : XW}
/-! ### builtins -/
theorem hl_nil {S : Hp} {vs : List V} (h : HasL K S vs []) : vs = [] := by
  cases h
  rfl
theorem rc_len (W : Om) (H S : Hp) (vs : List V) (ds : List D) (AQ : D → Prop) (Q : VK) (w : Wd K W H S) (hv : HasL K S vs ds) (h : cLen ds AQ) (k : ∀ z w H' S', Step W H S W H' S' → Wd K W H' S' → Has K S' w z → AQ z → Q w H') :
    ∃ x n, vs = [x] ∧ LenV K x H n ∧ Q (.int n) H := by
  have r := Step.refl W H S
  unfold cLen at h
  split at h
  · cases hv with
    | cons h1 t =>
      obtain rfl := hl_nil t
      cases h1 with
      | lst e l => exact ⟨_, _, rfl, .inl ⟨_, SqL.of (w.sub _ _ e), l.length.symm⟩, k _ _ H S r w (.int _) h⟩
  · cases hv with
    | cons h1 t =>
      obtain rfl := hl_nil t
      cases h1 with
      | tup e l => exact ⟨_, _, rfl, .inr ⟨_, SqT.of (w.sub _ _ e), l.length.symm⟩, k _ _ H S r w (.int _) h⟩
  · cases hv with
    | cons h1 t =>
      obtain rfl := hl_nil t
      cases h1 with
      | frz e l => exact ⟨_, _, rfl, .inl ⟨_, sql_mono w.sub e, l.length.symm⟩, k _ _ H S r w (.int _) h⟩
  · cases hv with
    | cons h1 t =>
      obtain rfl := hl_nil t
      cases h1
      exact ⟨_, _, rfl, ⟨line_of16 (by omega), rfl⟩, k _ _ H S r w (.int _) h.2⟩
  · exact h.elim
theorem rc_abs (W : Om) (H S : Hp) (vs : List V) (ds : List D) (AQ : D → Prop) (Q : VK) (w : Wd K W H S) (hv : HasL K S vs ds) (h : cAbs ds AQ) (k : ∀ z w H' S', Step W H S W H' S' → Wd K W H' S' → Has K S' w z → AQ z → Q w H') :
    ∃ i, vs = [.int i] ∧ Q (.int (if i < 0 then -i else i)) H := by
  unfold cAbs at h
  split at h
  · cases hv with
    | cons h1 t =>
      obtain rfl := hl_nil t
      cases h1
      exact ⟨_, rfl, k _ _ H S (Step.refl W H S) w (.int _) h⟩
  · exact h.elim
theorem rc_max (W : Om) (H S : Hp) (vs : List V) (ds : List D) (AQ : D → Prop) (Q : VK) (w : Wd K W H S) (hv : HasL K S vs ds) (h : cMax ds AQ) (k : ∀ z w H' S', Step W H S W H' S' → Wd K W H' S' → Has K S' w z → AQ z → Q w H') :
    ∃ i j, vs = [.int i, .int j] ∧ Q (.int (if j > i then j else i)) H := by
  unfold cMax at h
  split at h
  · cases hv with
    | cons h1 t =>
      cases t with
      | cons h2 t =>
        obtain rfl := hl_nil t
        cases h1
        cases h2
        exact ⟨_, _, rfl, k _ _ H S (Step.refl W H S) w (.int _) h⟩
  · exact h.elim
theorem rc_ord (W : Om) (H S : Hp) (vs : List V) (ds : List D) (AQ : D → Prop) (Q : VK) (w : Wd K W H S) (hv : HasL K S vs ds) (h : cOrd ds AQ) (k : ∀ z w H' S', Step W H S W H' S' → Wd K W H' S' → Has K S' w z → AQ z → Q w H') :
    ∃ x, vs = [.str x] ∧ x.length = 1 ∧ Q (.int (x.cps.getD 0 0 : Nat)) H := by
  unfold cOrd at h
  split at h
  · cases hv with
    | cons h1 t =>
      obtain rfl := hl_nil t
      cases h1
      exact ⟨_, rfl, h.1, k _ _ H S (Step.refl W H S) w (.int _) h.2⟩
  · exact h.elim
theorem rc_sum (W : Om) (H S : Hp) (vs : List V) (ds : List D) (AQ : D → Prop) (Q : VK) (w : Wd K W H S) (hv : HasL K S vs ds) (h : cSum ds AQ) (k : ∀ z w H' S', Step W H S W H' S' → Wd K W H' S' → Has K S' w z → AQ z → Q w H') :
    rSum K vs H Q := by
  unfold cSum at h
  split at h
  · obtain ⟨ns, rfl, h⟩ := h
    cases hv with
    | cons h1 t =>
      obtain rfl := hl_nil t
      cases h1 with
      | lst e l =>
        have q := l.ints
        subst q
        exact ⟨_, ns, rfl, SqL.of (w.sub _ _ e), k _ _ H S (Step.refl W H S) w (.int _) h⟩
  · exact h.elim
theorem rc_list (W : Om) (H S : Hp) (vs : List V) (ds : List D) (AQ : D → Prop) (Q : VK) (w : Wd K W H S) (hv : HasL K S vs ds) (h : cList ds AQ) (k : ∀ z w H' S', Step W H S W H' S' → Wd K W H' S' → Has K S' w z → AQ z → Q w H') :
    ∃ p ys, vs = [.ref p] ∧ (SqL K H p ys ∨ SqT K H p ys) ∧ ∀ l, H l = none → Q (.ref l) (upd H l (.lst ys)) := by
  unfold cList at h
  split at h
  · cases hv with
    | cons h1 t =>
      obtain rfl := hl_nil t
      cases h1 with
      | lst e l =>
        refine ⟨_, _, rfl, .inl (SqL.of (w.sub _ _ e)), fun p hp => ?_⟩
        obtain ⟨w2, st2⟩ := w.newS hp
        exact k _ _ _ _ st2 w2 (.lst upd_same (l.mono st2.grow)) h
  · exact h.elim
/-- list(e), that is to change -/
theorem ref_listO {t : TE} {a : AE} (ha : RefE K x t a) : RefE K x (tCB (fun xs H Q => ∃ p ys, xs = [.ref p] ∧ (SqL K H p ys ∨ SqT K H p ys) ∧ ∀ l, H l = none → Q (.ref l) (upd H l (.lst ys))) (tCons t tNil)) (aListO a) := fun G σ W H S AQ Q n h k =>
  ha G σ W H S _ _ n h fun d W1 v H1 S1 st1 w1 hv h1 => by
    split at h1
    · cases hv with
      | lst e l =>
        refine ⟨_, _, rfl, .inl (SqL.of (w1.sub _ _ e)), fun p hp => ?_⟩
        obtain ⟨w2, st2⟩ := w1.newO (o := .lst _) (d := .lst _) hp fun H' e2 s => ⟨s, _, e2, l⟩
        exact k _ _ _ _ _ (st1.trans st2) w2 (.adr p) (h1 p (dom_new w1 hp))
    · exact h1.elim

/-! ### tests -/
theorem ref_test {t : TE} {a : AE} (ha : RefE K x t a) : RefT K x (tTest t) (aB a) := fun G σ W H S AQ Q n h k =>
  ha G σ W H S _ _ n h fun d W1 v H1 S1 st1 w1 hv h1 => by
    cases d with
    | bl b =>
      cases hv
      exact ⟨b, rfl, k b W1 H1 S1 st1 w1 h1⟩
    | _ => exact h1.elim
theorem ref_tB {t : TE} {a : AE} (ha : RefE K x t a) : RefT K x (tB t) (aB a) := fun G σ W H S AQ Q n h k =>
  ha G σ W H S _ _ n h fun d W1 v H1 S1 st1 w1 hv h1 => by
    cases d with
    | bl b =>
      cases hv
      exact ⟨b, rfl, k b W1 H1 S1 st1 w1 h1⟩
    | _ => exact h1.elim
theorem ref_and {t u : TT} {a b : AT} (ha : RefT K x t a) (hb : RefT K x u b) : RefT K x (tAnd t u) (aAnd a b) := fun G σ W H S AQ Q n h k =>
  ha G σ W H S _ _ n h fun c W1 H1 S1 st1 w1 h1 => by
    cases c with
    | true => exact iteT (hb G σ W1 H1 S1 _ _ (n.step st1 w1) (by simpa using h1) fun b2 W2 H2 S2 st2 w2 h2 => k b2 W2 H2 S2 (st1.trans st2) w2 h2)
    | false => exact iteF (k false W1 H1 S1 st1 w1 (by simpa using h1))
theorem ref_or {t u : TT} {a b : AT} (ha : RefT K x t a) (hb : RefT K x u b) : RefT K x (tOr t u) (aOr a b) := fun G σ W H S AQ Q n h k =>
  ha G σ W H S _ _ n h fun c W1 H1 S1 st1 w1 h1 => by
    cases c with
    | false => exact iteF (hb G σ W1 H1 S1 _ _ (n.step st1 w1) (by simpa using h1) fun b2 W2 H2 S2 st2 w2 h2 => k b2 W2 H2 S2 (st1.trans st2) w2 h2)
    | true => exact iteT (k true W1 H1 S1 st1 w1 (by simpa using h1))
theorem ref_not {t : TT} {a : AT} (ha : RefT K x t a) : RefT K x (tNot t) (aNot a) := fun G σ W H S AQ Q n h k =>
  ha G σ W H S _ _ n h fun c W1 H1 S1 st1 w1 h1 => k (!c) W1 H1 S1 st1 w1 h1
theorem ref_yes : RefT K x tYes aYes := fun G σ W H S AQ Q n h k => k true W H S (Step.refl W H S) n.w h
theorem ref_andV {ta tb : TE} {a b : AE} (ha : RefE K x ta a) (hb : RefE K x tb b) : RefE K x (tAndV ta tb) (aAndV a b) := fun G σ W H S AQ Q n h k =>
  ha G σ W H S _ _ n h fun d W1 v H1 S1 st1 w1 hv h1 => by
    cases d with
    | bl c =>
      cases hv
      refine ⟨c, rfl, ?_⟩
      cases c with
      | true => exact iteT (hb G σ W1 H1 S1 _ _ (n.step st1 w1) (by simpa using h1) fun d2 W2 v2 H2 S2 st2 w2 hv2 h2 => k d2 W2 v2 H2 S2 (st1.trans st2) w2 hv2 h2)
      | false => exact iteF (k _ W1 _ H1 S1 st1 w1 (.bl false) (by simpa using h1))
    | _ => exact h1.elim
theorem ref_orV {ta tb : TE} {a b : AE} (ha : RefE K x ta a) (hb : RefE K x tb b) : RefE K x (tOrV ta tb) (aOrV a b) := fun G σ W H S AQ Q n h k =>
  ha G σ W H S _ _ n h fun d W1 v H1 S1 st1 w1 hv h1 => by
    cases d with
    | bl c =>
      cases hv
      refine ⟨c, rfl, ?_⟩
      cases c with
      | false => exact iteF (hb G σ W1 H1 S1 _ _ (n.step st1 w1) (by simpa using h1) fun d2 W2 v2 H2 S2 st2 w2 hv2 h2 => k d2 W2 v2 H2 S2 (st1.trans st2) w2 hv2 h2)
      | true => exact iteT (k _ W1 _ H1 S1 st1 w1 (.bl true) (by simpa using h1))
    | _ => exact h1.elim

/-! ### slices -/
theorem ref_noP : RefO K x tNoPart aNoP := fun G σ W H S AQ Q n h k => k none W H S (Step.refl W H S) n.w h
theorem ref_part {t : TE} {a : AE} (ha : RefE K x t a) : RefO K x (tPart t) (aPart a) := fun G σ W H S AQ Q n h k =>
  ha G σ W H S _ _ n h fun d W1 v H1 S1 st1 w1 hv h1 => by
    cases d with
    | int i =>
      cases hv
      exact ⟨i, rfl, k (some i) W1 H1 S1 st1 w1 h1⟩
    | _ => exact h1.elim
theorem cut_has {S : Hp} {vs : List V} {ds : List D} (l : HasL K S vs ds) (lo hi : Option Int) : HasL K S (cutV vs lo hi) (cutD ds lo hi) := by
  unfold cutV cutD
  rw [l.length]
  exact (l.drop _).take _
theorem ref_sl {t : TE} {a : AE} {tl th : TO} {al ah : AO} (ha : RefE K x t a) (hl : RefO K x tl al) (hh : RefO K x th ah) : RefE K x (tSl (rSlL K) t tl th) (aSl a al ah) := fun G σ W H S AQ Q n h k =>
  ha G σ W H S _ _ n h fun d W1 v H1 S1 st1 w1 hv h1 => hl G σ W1 H1 S1 _ _ (n.step st1 w1) h1 fun l W2 H2 S2 st2 w2 h2 => hh G σ W2 H2 S2 _ _ (n.step (st1.trans st2) w2) h2 fun u W3 H3 S3 st3 w3 h3 => by
    have g := st2.grow.trans st3.grow
    split at h3
    · cases hv with
      | lst e l =>
        refine ⟨_, _, rfl, SqL.of (w3.sub _ _ (g _ _ e)), fun p hp => ?_⟩
        obtain ⟨w4, st4⟩ := w3.newS hp
        exact k _ _ _ _ _ (((st1.trans st2).trans st3).trans st4) w4 (.lst upd_same ((cut_has l _ _).mono (g.trans st4.grow))) h3
    · cases hv with
      | frz e l =>
        refine ⟨_, _, rfl, sql_mono (g.trans w3.sub) e, fun p hp => ?_⟩
        obtain ⟨w4, st4⟩ := w3.newS hp
        exact k _ _ _ _ _ (((st1.trans st2).trans st3).trans st4) w4 (.lst upd_same ((cut_has l _ _).mono (g.trans st4.grow))) h3
    · exact h3.elim

/-! ### texts put together -/
@[simp] def aFmt (a : AE) : AE := fun G W Q => a G W fun d W1 => match d with
  | .int i => (0 ≤ i ∧ i < 1000) ∧ Q (.str (toString i)) W1
  | _ => False
theorem ref_fmt {t : TE} {a : AE} (ha : RefE K x t a) : RefE K x (tFmt t) (aFmt a) := fun G σ W H S AQ Q n h k =>
  ha G σ W H S _ _ n h fun d W1 v H1 S1 st1 w1 hv h1 => by
    cases d with
    | int i =>
      cases hv
      refine .inr ⟨i, rfl, Nat.lt_of_lt_of_le (PySem.Flt.log2_lt_of (n := i.natAbs) (k := 10) (by decide) (by omega)) (by decide), k _ W1 _ H1 S1 st1 w1 (.str _) h1.2⟩
    | _ => exact h1.elim
/-- f'..': the texts one behind the other -/
@[simp] def aJs : List AE → Str → Ga → Om → (Str → Om → Prop) → Prop
  | [], acc, _, W, Q => Q acc W
  | a :: r, acc, G, W, Q => a G W fun d W1 => match d with
    | .str y => (acc ++ y).length ≤ 1000 ∧ aJs r (acc ++ y) G W1 Q
    | _ => False
@[simp] def aJoin (l : List AE) : AE := fun G W Q => aJs l Str.empty G W fun out W1 => Q (.str out) W1
theorem ref_js : ∀ {ts : List TE} {l : List AE} {acc : Str} {G : Ga} {σ : L2.St} {W : Om} {H S : Hp} {AQ : Str → Om → Prop} {Q : Str → Hp → Prop}, Paired (fun t a => RefE K x t a) ts l → Now K x G σ W H S → aJs l acc G W AQ →
    (∀ out W' H' S', Step W H S W' H' S' → Wd K W' H' S' → AQ out W' → Q out H') → tJs ts acc σ H Q
  | _, _, acc, G, σ, W, H, S, AQ, Q, .nil, n, h, k => k acc W H S (Step.refl W H S) n.w h
  | _, _, acc, G, σ, W, H, S, AQ, Q, .cons ha r, n, h, k => ha G σ W H S _ _ n h fun d W1 v H1 S1 st1 w1 hv h1 => by
    cases d with
    | str y =>
      cases hv
      exact ⟨y, rfl, line_of1000 h1.1, ref_js r (n.step st1 w1) h1.2 fun out W2 H2 S2 st2 w2 q => k out W2 H2 S2 (st1.trans st2) w2 q⟩
    | _ => exact h1.elim
theorem ref_join {ts : List TE} {l : List AE} (h : Paired (fun t a => RefE K x t a) ts l) : RefE K x (fun σ H Q => tJs ts Str.empty σ H fun out H1 => Q (.str out) H1) (aJoin l) := fun G σ W H S AQ Q n a k =>
  ref_js h n a fun out W' H' S' st w q => k _ W' _ H' S' st w (.str out) q

/-! ### iterators -/
@[simp] def iListA (a : AE) : AI := fun G W Q => a G W fun d W1 => match d with
  | .lst xs => Q xs W1
  | _ => False
@[simp] def iStrA (a : AE) : AI := fun G W Q => a G W fun d W1 => match d with
  | .str z => Q (z.cps.toList.map fun c => D.str ⟨#[c]⟩) W1
  | _ => False
@[simp] def iRevA' (a : AE) : AI := fun G W Q => a G W fun d W1 => match d with
  | .lst xs => Q xs.reverse W1
  | _ => False
@[simp] def iRng1A (a : AE) : AI := fun G W Q => a G W fun d W1 => match d with
  | .int n => (-(2 ^ 62) ≤ n ∧ n < 2 ^ 62) ∧ Q ((List.range n.toNat).map fun i => D.int (i : Nat)) W1
  | _ => False
@[simp] def iRng2A (a b : AE) : AI := fun G W Q => a G W fun d W1 => b G W1 fun e W2 => match d, e with
  | .int i, .int j => (-(2 ^ 62) ≤ i ∧ i < 2 ^ 62 ∧ -(2 ^ 62) ≤ j ∧ j < 2 ^ 62) ∧ Q ((List.range (j - i).toNat).map fun k => D.int (i + (k : Nat))) W2
  | _, _ => False
/-- range(a, b, -1) -/
@[simp] def iRngD (a b c : AE) : AI := fun G W Q => a G W fun d W1 => b G W1 fun e W2 => c G W2 fun f W3 => match d, e, f with
  | .int i, .int j, .int k => k = -1 ∧ (-(2 ^ 62) ≤ i ∧ i < 2 ^ 62 ∧ -(2 ^ 62) ≤ j ∧ j < 2 ^ 62) ∧ Q ((List.range (i - j).toNat).map fun k => D.int (i - (k : Nat))) W3
  | _, _, _ => False
def enumD (xs : List D) : List D := xs.zipIdx.map fun p => .tup [.int (p.2 : Nat), p.1]
@[simp] def iEnumA (a : AE) : AI := fun G W Q => a G W fun d W1 => match d with
  | .lst xs => Q (enumD xs) W1
  | _ => False
def zipD (xs ys : List D) : List D := List.zipWith (fun a b => .tup [a, b]) xs ys
@[simp] def iZipA (a b : AE) : AI := fun G W Q => a G W fun d W1 => b G W1 fun e W2 => match d, e with
  | .lst xs, .lst ys => Q (zipD xs ys) W2
  | _, _ => False

/-- items that make nothing new -/
theorem items_plain {S : Hp} {J : It} {ds : List D} {n : Nat} (hn : n = ds.length) {P : Hp → Prop} {Y : Nat → Hp → V → Hp → Prop} (w : L2.Walk J n P Y) (hp : ∀ S' H, Ex S S' → Ex S' H → P H)
    (hy : ∀ (i : Nat) H v H' (d : D), Y i H v H' → ds[i]? = some d → H' = H ∧ ∀ S', Ex S S' → Has K S' v d) : Items K S J ds := by
  subst hn
  refine ⟨P, Y, w, hp, fun i H v H' S' d y e1 e2 hd => ?_⟩
  obtain ⟨rfl, q⟩ := hy i H v H' d y hd
  exact ⟨S', fun W w => ⟨w, Step.refl W H' S'⟩, q S' e1⟩
theorem items_pair {S : Hp} {J : It} {ds : List D} {n : Nat} (hn : n = ds.length) {P : Hp → Prop} {xs ys : Nat → Option V} (w : L2.Walk J n P (YPair xs ys)) (hp : ∀ S' H, Ex S S' → Ex S' H → P H)
    (hy : ∀ (i : Nat) (d : D) (u v : V), ds[i]? = some d → xs i = some u → ys i = some v → ∃ a b, d = .tup [a, b] ∧ Has K S u a ∧ Has K S v b) : Items K S J ds := by
  subst hn
  refine ⟨P, _, w, hp, fun i H v H' S' d y e1 e2 hd => ?_⟩
  obtain ⟨T, u, z, rfl, hT, rfl, h1, h2⟩ := y
  obtain ⟨a, b, rfl, ha, hb⟩ := hy i d u z hd h1 h2
  have g : Ex S' (upd S' T (.tup [u, z])) := fun c o e => by
    have ne : c ≠ T := fun q => by
      rw [q] at e
      rw [e2 _ _ e] at hT
      cases hT
    rw [upd_ne ne]
    exact e
  exact ⟨upd S' T (.tup [u, z]), fun W w => w.newS hT, .tup upd_same (.cons ((ha.mono e1).mono g) (.cons ((hb.mono e1).mono g) .nil))⟩
theorem ref_iList {t : TE} {a : AE} (ha : RefE K x t a) : RefI K x (iList K t) (iListA a) := fun G σ W H S AQ R n h k =>
  ha G σ W H S _ _ n h fun d W1 v H1 S1 st1 w1 hv h1 => by
    cases d with
    | lst ds =>
      cases hv with
      | @lst p xs _ e l =>
        refine ⟨p, rfl, ⟨xs, SqL.of (w1.sub _ _ e)⟩, k ds W1 _ H1 S1 st1 w1 (items_plain l.length (walk_list (xs := xs)) (fun S' H' e1 e2 => SqL.of (e2 _ _ (e1 _ _ e))) fun i H' u H'' d y hd => ⟨y.1, fun S' e1 => ?_⟩) h1⟩
        obtain ⟨u2, hu, hh⟩ := l.get hd
        have y2 : xs[i]? = some u := y.2
        rw [hu] at y2
        cases y2
        exact hh.mono e1
    | _ => exact h1.elim
theorem ref_iRev {t : TE} {a : AE} (ha : RefE K x t a) : RefI K x (iRev K (tCons t tNil)) (iRevA' a) := fun G σ W H S AQ R n h k =>
  ha G σ W H S _ _ n h fun d W1 v H1 S1 st1 w1 hv h1 => by
    cases d with
    | lst ds =>
      cases hv with
      | @lst p xs _ e l =>
        refine ⟨p, xs, rfl, SqL.of (w1.sub _ _ e), k ds.reverse W1 _ H1 S1 st1 w1 (items_plain (by rw [List.length_reverse]; exact l.length) (walk_rev (xs := xs)) (fun S' H' e1 e2 => SqL.of (e2 _ _ (e1 _ _ e))) fun i H' u H'' d y hd => ⟨y.1, fun S' e1 => ?_⟩) h1⟩
        have y2 : xs[xs.length - 1 - i]? = some u := y.2
        have hi : i < ds.length := by
          have := (List.getElem?_eq_some_iff.mp hd).1
          rwa [List.length_reverse] at this
        rw [List.getElem?_reverse hi] at hd
        rw [← l.length] at hd
        obtain ⟨u2, hu, hh⟩ := l.get hd
        rw [hu] at y2
        cases y2
        exact hh.mono e1
    | _ => exact h1.elim
theorem ref_iStr {t : TE} {a : AE} (ha : RefE K x t a) : RefI K x (iStr t) (iStrA a) := fun G σ W H S AQ R n h k =>
  ha G σ W H S _ _ n h fun d W1 v H1 S1 st1 w1 hv h1 => by
    cases d with
    | str z =>
      cases hv
      refine ⟨z, rfl, k _ W1 _ H1 S1 st1 w1 (items_plain (by simp) (walk_str (z := z)) (fun S' H' e1 e2 => trivial) fun i H' u H'' d y hd => ?_) h1⟩
      obtain ⟨rfl, c, hc, rfl⟩ := y
      refine ⟨rfl, fun S' e1 => ?_⟩
      rw [List.getElem?_map, Array.getElem?_toList, hc] at hd
      cases hd
      exact .str _
    | _ => exact h1.elim
theorem ref_iRng1 {t : TE} {a : AE} (ha : RefE K x t a) : RefI K x (iRng1 (tCons t tNil)) (iRng1A a) := fun G σ W H S AQ R n h k =>
  ha G σ W H S _ _ n h fun d W1 v H1 S1 st1 w1 hv h1 => by
    cases d with
    | int j =>
      cases hv
      refine ⟨j, rfl, h1.1.1, h1.1.2, k _ W1 _ H1 S1 st1 w1 (items_plain (by simp) (walk_range (lo := 0) (n := j.toNat)) (fun S' H' e1 e2 => trivial) fun i H' u H'' d y hd => ?_) h1.2⟩
      obtain ⟨rfl, rfl⟩ := y
      refine ⟨rfl, fun S' e1 => ?_⟩
      obtain ⟨hi, e⟩ := List.getElem?_eq_some_iff.mp hd
      rw [List.getElem_map, List.getElem_range] at e
      subst e
      have q : (0 : Int) + (i : Nat) = (i : Nat) := Int.zero_add _
      show Has K S' (V.int (0 + (i : Nat))) _
      rw [q]
      exact .int _
    | _ => exact h1.elim
theorem ref_iRng2 {ta tb : TE} {a b : AE} (ha : RefE K x ta a) (hb : RefE K x tb b) : RefI K x (iRng2 (tCons ta (tCons tb tNil))) (iRng2A a b) := fun G σ W H S AQ R n h k =>
  ha G σ W H S _ _ n h fun d W1 v H1 S1 st1 w1 hv h1 => hb G σ W1 H1 S1 _ _ (n.step st1 w1) h1 fun e W2 u H2 S2 st2 w2 hu h2 => by
    split at h2
    · rename_i i j
      cases hv
      cases hu
      refine ⟨i, j, rfl, h2.1, k _ W2 _ H2 S2 (st1.trans st2) w2 (items_plain (by simp) (walk_range (lo := i) (n := (j - i).toNat)) (fun S' H' e1 e2 => trivial) fun m H' u H'' d y hd => ?_) h2.2⟩
      obtain ⟨rfl, rfl⟩ := y
      refine ⟨rfl, fun S' e1 => ?_⟩
      obtain ⟨hi, e⟩ := List.getElem?_eq_some_iff.mp hd
      rw [List.getElem_map, List.getElem_range] at e
      subst e
      exact .int _
    · exact h2.elim
theorem ref_iRngD {ta tb tc : TE} {a b c : AE} (ha : RefE K x ta a) (hb : RefE K x tb b) (hc : RefE K x tc c) : RefI K x (iRng3 (tCons ta (tCons tb (tCons tc tNil)))) (iRngD a b c) := fun G σ W H S AQ R n h k =>
  ha G σ W H S _ _ n h fun d W1 v H1 S1 st1 w1 hv h1 => hb G σ W1 H1 S1 _ _ (n.step st1 w1) h1 fun e W2 u H2 S2 st2 w2 hu h2 => hc G σ W2 H2 S2 _ _ (n.step (st1.trans st2) w2) h2 fun f W3 z H3 S3 st3 w3 hz h3 => by
    split at h3
    · rename_i i j c0
      obtain ⟨rfl, hb, h3⟩ := h3
      cases hv
      cases hu
      cases hz
      refine ⟨i, j, -1, (i - j).toNat, rfl, RgC.neg hb.1 hb.2.1 hb.2.2.1 hb.2.2.2, k _ W3 _ H3 S3 ((st1.trans st2).trans st3) w3 (items_plain (by simp) (walk_rangeC (lo := i) (c := -1) (n := (i - j).toNat)) (fun S' H' e1 e2 => trivial) fun m H' u H'' d y hd => ?_) h3⟩
      obtain ⟨rfl, rfl⟩ := y
      refine ⟨rfl, fun S' e1 => ?_⟩
      obtain ⟨hi, e⟩ := List.getElem?_eq_some_iff.mp hd
      rw [List.getElem_map, List.getElem_range] at e
      subst e
      have q : i + (m : Nat) * (-1) = i - (m : Nat) := by omega
      show Has K S' (V.int (i + (m : Nat) * (-1))) _
      rw [q]
      exact .int _
    · exact h3.elim
theorem ref_iEnum {t : TE} {a : AE} (ha : RefE K x t a) : RefI K x (iEnum K (tCons t tNil)) (iEnumA a) := fun G σ W H S AQ R n h k =>
  ha G σ W H S _ _ n h fun d W1 v H1 S1 st1 w1 hv h1 => by
    cases d with
    | lst ds =>
      cases hv with
      | @lst p xs _ e l =>
        refine ⟨p, xs, rfl, SqL.of (w1.sub _ _ e), k _ W1 _ H1 S1 st1 w1 (items_pair (by simp [enumD, l.length]) (walk_enum (xs := xs)) (fun S' H' e1 e2 => SqL.of (e2 _ _ (e1 _ _ e))) fun i d u v hd h1 h2 => ?_) h1⟩
        unfold enumD at hd
        rw [List.getElem?_map, List.getElem?_zipIdx] at hd
        cases q : ds[i]? with
        | none =>
          rw [q] at hd
          cases hd
        | some z =>
          rw [q] at hd
          cases hd
          obtain ⟨u2, hu, hh⟩ := l.get q
          have h2' : xs[i]? = some v := h2
          rw [hu] at h2'
          cases h2'
          have h1' : (V.int (i : Nat)) = u := Option.some.inj h1
          subst h1'
          exact ⟨_, _, rfl, by simpa using .int (i : Nat), hh⟩
    | _ => exact h1.elim
theorem ref_iZip {ta tb : TE} {a b : AE} (ha : RefE K x ta a) (hb : RefE K x tb b) : RefI K x (iZip K (tCons ta (tCons tb tNil))) (iZipA a b) := fun G σ W H S AQ R n h k =>
  ha G σ W H S _ _ n h fun d W1 v H1 S1 st1 w1 hv h1 => hb G σ W1 H1 S1 _ _ (n.step st1 w1) h1 fun e W2 u H2 S2 st2 w2 hu h2 => by
    split at h2
    · rename_i ds es
      cases hv with
      | @lst p xs _ e1 l1 =>
        cases hu with
        | @lst q ys _ e2 l2 =>
          have l1 := l1.mono st2.grow
          have e1 := st2.grow _ _ e1
          refine ⟨p, q, xs, ys, rfl, SqL.of (w2.sub _ _ e1), SqL.of (w2.sub _ _ e2), k _ W2 _ H2 S2 (st1.trans st2) w2 (items_pair (n := min xs.length ys.length) (by simp [zipD, l1.length, l2.length]) (walk_zip (xs := xs) (ys := ys) rfl) (fun S' H' g1 g2 => ⟨SqL.of (g2 _ _ (g1 _ _ e1)), SqL.of (g2 _ _ (g1 _ _ e2))⟩) fun i d u v hd h1 h2 => ?_) h2⟩
          unfold zipD at hd
          rw [List.getElem?_zipWith] at hd
          have h1' : xs[i]? = some u := h1
          have h2' : ys[i]? = some v := h2
          obtain ⟨z1, q1, k1⟩ := l1.get' h1'
          obtain ⟨z2, q2, k2⟩ := l2.get' h2'
          rw [q1, q2] at hd
          cases hd
          exact ⟨_, _, rfl, k1, k2⟩
    · exact h2.elim
end
end Hd
end

section
set_option maxHeartbeats 4000000
/-! # Hd: targets, statements, loops, comprehensions, calls -/
namespace Hd
open PySem PySem.Spec PyProof.Rows L2

/-! ### targets -/
@[simp] def gNm (i : Nat) : AG := fun d G W Q => Q (G.set i (some d)) W
@[simp] def gN0 : AGs := fun ds G W Q => match ds with
  | [] => Q G W
  | _ => False
@[simp] def gC1 (g : AG) (r : AGs) : AGs := fun ds G W Q => match ds with
  | d :: t => g d G W fun G1 W1 => r t G1 W1 Q
  | [] => False
@[simp] def gTp (n : Nat) (g : AGs) : AG := fun d G W Q => match d with
  | .tup ds => ds.length = n ∧ g ds G W Q
  | _ => False
/-- o[i] = .. of a list that changes -/
@[simp] def gIx (o i : AE) : AG := fun d G W Q => o G W fun a W1 => i G W1 fun b W2 => match a, b with
  | .adr p, .int j => ∃ xs Wr, W2.Perm ((p, .lst xs) :: Wr) ∧ (0 ≤ j ∧ j.toNat < xs.length) ∧ Q G ((p, .lst (xs.set j.toNat d)) :: Wr)
  | _, _ => False

/-! ### statements -/
@[simp] def sNext : AS := fun A G W => A.nx G W
@[simp] def sSeq (s t : AS) : AS := fun A G W => s { A with nx := t A } G W
@[simp] def sDrop (e : AE) : AS := fun A G W => e G W fun _ W1 => A.nx G W1
@[simp] def sRet (e : AE) : AS := fun A G W => e G W A.rt
@[simp] def sAsg (e : AE) (g : AG) : AS := fun A G W => e G W fun d W1 => g d G W1 A.nx
@[simp] def sIf (t : AT) (a b : AS) : AS := fun A G W => t G W fun c W1 => if c = true then a A G W1 else b A G W1
/-- a field by its place: put, or the next one -/
@[simp] def putI {α : Type} : Nat → α → List α → List α
  | _, p, [] => [p]
  | 0, p, _ :: r => p :: r
  | i + 1, p, q :: r => q :: putI i p r
/-- o.f = e of an object that changes -/
@[simp] def sFldA (C : Addr) (ns : List Str) (i : Nat) (f : Str) (o e : AE) : AS := fun A G W => e G W fun d W1 => o G W1 fun q W2 => match q with
  | .adr p => ∃ fs Wr, W2.Perm ((p, .ins C fs) :: Wr) ∧ fs.map (·.1) = ns.take fs.length ∧ i ≤ fs.length ∧ fs.length < 1000 ∧ A.nx G ((p, .ins C (putI i (f, d) fs)) :: Wr)
  | _ => False
/-- o.append(e), o.extend(e) -/
@[simp] def sApp (o e : AE) : AS := fun A G W => o G W fun q W1 => match q with
  | .adr p => (∃ xs, (p, OD.lst xs) ∈ W1) ∧ e G W1 fun d W2 => ∃ xs Wr, W2.Perm ((p, .lst xs) :: Wr) ∧ xs.length < 16000000 ∧ A.nx G ((p, .lst (xs ++ [d])) :: Wr)
  | _ => False
@[simp] def sExt (o e : AE) : AS := fun A G W => o G W fun q W1 => match q with
  | .adr p => (∃ xs, (p, OD.lst xs) ∈ W1) ∧ e G W1 fun d W2 => match d with
    | .lst ys => ∃ xs Wr, W2.Perm ((p, .lst xs) :: Wr) ∧ xs.length + ys.length ≤ 16000000 ∧ A.nx G ((p, .lst (xs ++ ys)) :: Wr)
    | _ => False
  | _ => False
/-- for: turn by turn over the items -/
@[simp] def forD (g : AG) (s : AS) (A : AEnds) : List D → Ga → Om → Prop
  | [], G, W => A.nx G W
  | d :: r, G, W => g d G W fun G1 W1 => s { nx := forD g s A r, rt := A.rt, bk := A.nx, ct := forD g s A r } G1 W1
@[simp] def sFor (i : AI) (g : AG) (s : AS) : AS := fun A G W => i G W fun ds W1 => forD g s A ds G W1
@[simp] def sWhile (t : AT) (s : AS) : AS := fun A G W => ∃ I : Nat → Ga → Om → Prop, (∃ m, I m G W) ∧ ∀ m G W, I m G W →
  t G W fun b W1 => if b = true then s { nx := fun G' W' => ∃ m', m' < m ∧ I m' G' W', rt := A.rt, bk := A.nx, ct := fun G' W' => ∃ m', m' < m ∧ I m' G' W' } G W1 else A.nx G W1
/-- a comprehension -/
@[simp] def wipeG (G : Ga) : List Nat → Ga
  | [] => G
  | i :: r => (wipeG G r).set i none
@[simp] def lcD (g : AG) (t : AT) (e : AE) (G : Ga) (Q : List D → Om → Prop) : List D → List D → Om → Prop
  | [], acc, W => Q acc W
  | d :: r, acc, W => g d G W fun G1 W1 => t G1 W1 fun b W2 => if b = true then e G1 W2 fun y W3 => lcD g t e G Q r (acc ++ [y]) W3 else lcD g t e G Q r acc W2
@[simp] def aLc (i : AI) (g : AG) (t : AT) (e : AE) (vs : List Nat) : AE := fun G W Q => i G W fun ds W1 => ds.length ≤ 1000000 ∧ lcD g t e (wipeG G vs) (fun out W2 => Q (.lst out) W2) ds [] W1

/-! ### calls -/
/-- a def without effects -/
@[simp] def aCallP (p : List D → (D → Prop) → Prop) (a : AA) : AE := fun G W Q => a G W fun ds W1 => p ds fun d => Q d W1
/-- .. that may raise -/
@[simp] def aCallX (x : XW) (p : List D → (D → Prop) → (Addr → Str → Prop) → Prop) (a : AA) : AE := fun G W Q => a G W fun ds W1 => p ds (fun d => Q d W1) fun C m => x.A C m W1
/-- any def that does not raise -/
@[simp] def aCallW (ap : ASp) (a : AA) : AE := fun G W Q => a G W fun ds W1 => ∃ Wc Wr, W1.Perm (Wc ++ Wr) ∧ ap ds Wc (fun d W' => Q d (W' ++ Wr)) fun _ _ _ => False
/-- o.m(..) of an object that changes -/
@[simp] def aMeth (C : Addr) (ns : List Str) (ap : ASp) (o : AE) (a : AA) : AE := fun G W Q => o G W fun q W1 => match q with
  | .adr p => (∃ fs, (p, OD.ins C fs) ∈ W1 ∧ fs.map (·.1) = ns) ∧ a G W1 fun ds W2 => ∃ Wc Wr, W2.Perm (Wc ++ Wr) ∧ ap (.adr p :: ds) Wc (fun d W' => Q d (W' ++ Wr)) fun _ _ _ => False
  | _ => False
/-- C(..): a new object that may change -/
@[simp] def aMake (C : Addr) (ap : ASp) (a : AA) : AE := fun G W Q => a G W fun ds W1 => ∀ p, p ∉ dom W1 → ap (.adr p :: ds) [(p, .ins C [])] (fun d W' => d = .non ∧ Q (.adr p) (W' ++ W1)) fun _ _ _ => False
/-- C(..): a new object that stays -/
@[simp] def aMakeV (C : Addr) (ap : ASp) (a : AA) : AE := fun G W Q => a G W fun ds W1 => ∀ p, p ∉ dom W1 → ap (.adr p :: ds) [(p, .ins C [])] (fun d W' => d = .non ∧ ∃ fs, W' = [(p, .ins C fs)] ∧ Q (.ins C fs) W1) fun _ _ _ => False
/-- raise C(text) -/
@[simp] def sRaise (x : XW) (C : Addr) (e : AE) : AS := fun _ G W => e G W fun d W1 => match d with
  | .str m => x.A C m W1
  | _ => False

section
variable {K : PySem.W.Frag} {x : XW}
theorem rg_nm (i : Nat) : RefG K x (gName i) (gNm i) := fun G σ W H S v d AQ Q n hv h k => k _ _ W H S (Step.refl W H S) (n.set i hv) h
theorem rg_0 : RefGs K x gNil gN0 := fun G σ W H S vs ds AQ Q n hv h k => by
  cases ds with
  | nil =>
    obtain rfl := hl_nil hv
    exact ⟨rfl, k G σ W H S (Step.refl W H S) n h⟩
  | cons _ _ => exact h.elim
theorem rg_1 {g : TG} {r : TGs} {a : AG} {b : AGs} (hg : RefG K x g a) (hr : RefGs K x r b) : RefGs K x (gCons g r) (gC1 a b) := fun G σ W H S vs ds AQ Q n hv h k => by
  cases hv with
  | nil => exact h.elim
  | cons h1 t => exact ⟨_, _, rfl, hg G σ W H S _ _ _ _ n h1 h fun G1 σ1 W1 H1 S1 st1 n1 q1 => hr G1 σ1 W1 H1 S1 _ _ _ _ n1 (t.mono st1.grow) q1 fun G2 σ2 W2 H2 S2 st2 n2 q2 => k G2 σ2 W2 H2 S2 (st1.trans st2) n2 q2⟩
theorem rg_tp {n : Nat} {t : TGs} {a : AGs} (hg : RefGs K x t a) : RefG K x (gTup K n t) (gTp n a) := fun G σ W H S v d AQ Q nw hv h k => by
  cases d with
  | tup ds =>
    cases hv with
    | tup e l => exact ⟨_, _, rfl, SqT.of (nw.w.sub _ _ e), by rw [l.length]; exact h.1, hg G σ W H S _ _ _ _ nw l h.2 k⟩
  | _ => exact h.elim
theorem rg_ix {to ti : TE} {o i : AE} (ho : RefE K x to o) (hi : RefE K x ti i) : RefG K x (gSub to ti rSetL) (gIx o i) := fun G σ W H S v d AQ Q n hv h k =>
  ho G σ W H S _ _ n h fun a W1 u H1 S1 st1 w1 hu h1 => hi G σ W1 H1 S1 _ _ (n.step st1 w1) h1 fun b W2 z H2 S2 st2 w2 hz h2 => by
    split at h2
    · rename_i p j
      obtain ⟨xs, Wr, pm, hj, q⟩ := h2
      cases hu
      cases hz
      have w3 := w2.perm pm.symm
      obtain ⟨s0, vs, e, l⟩ := w3.own _ List.mem_cons_self
      have st := st1.trans st2
      have hs : HasL K S2 (vs.set j.toNat v) (xs.set j.toNat d) := l.set _ (hv.mono st.grow)
      obtain ⟨w4, st4⟩ := w3.setO (o := .lst (vs.set j.toNat v)) (d' := .lst (xs.set j.toNat d)) fun H' e2 s => ⟨s, _, e2, hs⟩
      refine ⟨p, vs, j, j.toNat, rfl, rfl, e, ?_, ?_⟩
      · unfold ixN
        rw [if_pos hj.1, if_pos (by rw [l.length]; omega)]
      · have st5 := st.trans (st4.perm pm)
        exact k G σ _ _ _ st5 (n.step st5 w4) q
    · exact h2.elim

theorem rs_next : RefS K x tNext sNext := fun G σ W H S A Z n h f => f.nx G σ W H S (Step.refl W H S) n h
theorem Fit.step {W W1 : Om} {H H1 S S1 : Hp} {A : AEnds} {Z : Ends} (f : Fit K x W H S A Z) (st : Step W H S W1 H1 S1) : Fit K x W1 H1 S1 A Z :=
  ⟨fun G σ W2 H2 S2 s2 => f.nx G σ W2 H2 S2 (st.trans s2), fun d v W2 H2 S2 s2 => f.rt d v W2 H2 S2 (st.trans s2), fun G σ W2 H2 S2 s2 => f.bk G σ W2 H2 S2 (st.trans s2), fun G σ W2 H2 S2 s2 => f.ct G σ W2 H2 S2 (st.trans s2)⟩
theorem rs_seq {t u : TS} {a b : AS} (h1 : RefS K x t a) (h2 : RefS K x u b) : RefS K x (tSeq t u) (sSeq a b) := fun G σ W H S A Z n h f =>
  h1 G σ W H S _ _ n h ⟨fun G1 σ1 W1 H1 S1 st1 n1 q => h2 G1 σ1 W1 H1 S1 A Z n1 q (f.step st1), f.rt, f.bk, f.ct⟩
theorem rs_drop {t : TE} {a : AE} (ha : RefE K x t a) : RefS K x (tDrop t) (sDrop a) := fun G σ W H S A Z n h f =>
  ha G σ W H S _ _ n h fun d W1 v H1 S1 st1 w1 hv q => f.nx G σ W1 H1 S1 st1 (n.step st1 w1) q
theorem rs_ret {t : TE} {a : AE} (ha : RefE K x t a) : RefS K x (tRet t) (sRet a) := fun G σ W H S A Z n h f =>
  ha G σ W H S _ _ n h fun d W1 v H1 S1 st1 w1 hv q => f.rt d v W1 H1 S1 st1 w1 hv q
theorem rs_asg {t : TE} {a : AE} {g : TG} {b : AG} (ha : RefE K x t a) (hg : RefG K x g b) : RefS K x (tAsg t g) (sAsg a b) := fun G σ W H S A Z n h f =>
  ha G σ W H S _ _ n h fun d W1 v H1 S1 st1 w1 hv q => hg G σ W1 H1 S1 v d _ _ (n.step st1 w1) hv q fun G2 σ2 W2 H2 S2 st2 n2 q2 => f.nx G2 σ2 W2 H2 S2 (st1.trans st2) n2 q2
theorem rs_if {t : TT} {u v : TS} {a : AT} {b c : AS} (ha : RefT K x t a) (hb : RefS K x u b) (hc : RefS K x v c) : RefS K x (tIfS t u v) (sIf a b c) := fun G σ W H S A Z n h f =>
  ha G σ W H S _ _ n h fun k W1 H1 S1 st1 w1 q => by
    cases k with
    | true => exact iteT (hb G σ W1 H1 S1 A Z (n.step st1 w1) (by simpa using q) (f.step st1))
    | false => exact iteF (hc G σ W1 H1 S1 A Z (n.step st1 w1) (by simpa using q) (f.step st1))
theorem put_at {α : Type} : ∀ {fs : List (Str × α)} {ns : List Str} {i : Nat} {f : Str} {d : α}, ns.Nodup → ns[i]? = some f → fs.map (·.1) = ns.take fs.length → i ≤ fs.length → ∀ (P : List (Str × α) → List (Str × α)),
    (P [] = [(f, d)]) → (∀ g z r, P ((g, z) :: r) = if g = f then (f, d) :: r else (g, z) :: P r) → P fs = putI i (f, d) fs
  | [], ns, i, f, d, _, _, _, hi, P, p0, _ => by
    have e : i = 0 := by simpa using hi
    subst e
    rw [p0]
    rfl
  | (g, z) :: r, [], i, f, d, nd, hn, hm, hi, P, p0, p1 => by simp at hn
  | (g, z) :: r, n :: ns, 0, f, d, nd, hn, hm, hi, P, p0, p1 => by
    have e1 : n = f := by simpa using hn
    have e2 : g = n ∧ r.map (·.1) = ns.take r.length := by simpa using hm
    rw [p1, if_pos (e2.1.trans e1)]
    rfl
  | (g, z) :: r, n :: ns, i + 1, f, d, nd, hn, hm, hi, P, p0, p1 => by
    have e2 : g = n ∧ r.map (·.1) = ns.take r.length := by simpa using hm
    obtain ⟨n1, n2⟩ := List.nodup_cons.mp nd
    have hn' : ns[i]? = some f := by simpa using hn
    have ne : ¬ g = f := fun q => n1 (by rw [← e2.1, q]; exact List.mem_of_getElem? hn')
    rw [p1, if_neg ne, put_at (fs := r) (ns := ns) (i := i) (f := f) (d := d) n2 hn' e2.2 (by simpa using hi) P p0 p1]
    rfl
theorem rs_fldA {C : Addr} {ns : List Str} {i : Nat} {f : Str} {to te : TE} {o e : AE} (c : Cls K C) (na : NoAttr K C f) (nd : ns.Nodup) (hf : ns[i]? = some f) (ho : RefE K x to o) (he : RefE K x te e) : RefS K x (sFld K to te f) (sFldA C ns i f o e) := fun G σ W H S A Z n h fi =>
  he G σ W H S _ _ n h fun d W1 v H1 S1 st1 w1 hv h1 => ho G σ W1 H1 S1 _ _ (n.step st1 w1) h1 fun q W2 u H2 S2 st2 w2 hu h2 => by
    cases q with
    | adr p =>
      obtain ⟨fs, Wr, pm, hm, hi, hz, q⟩ := h2
      cases hu
      have w3 := w2.perm pm.symm
      obtain ⟨s0, dx, vs, e1, l⟩ := w3.own _ List.mem_cons_self
      have st := st1.trans st2
      have hput : HasF K S2 (putF f v vs) (putD f d fs) := HasF.put (hv.mono st2.grow) l
      have e2 : putD f d fs = putI i (f, d) fs := put_at nd hf hm hi (putD f d) rfl fun g z r => rfl
      rw [e2] at hput
      obtain ⟨w4, st4⟩ := w3.setO (o := .ins C dx (putF f v vs)) (d' := .ins C (putI i (f, d) fs)) fun H' e s => ⟨s, dx, _, e, hput⟩
      have st5 := st.trans (st4.perm pm)
      exact ⟨p, C, dx, vs, rfl, e1, c, na, by rw [l.length]; exact hz, fi.nx G σ _ _ _ st5 (n.step st5 w4) q⟩
    | _ => exact h2.elim
theorem rs_app {to te : TE} {o e : AE} (ho : RefE K x to o) (he : RefE K x te e) : RefS K x (tDrop (tBM K "list" rAppend to (tCons te tNil))) (sApp o e) := fun G σ W H S A Z n h fi =>
  ho G σ W H S _ _ n h fun q W1 u H1 S1 st1 w1 hu h1 => by
    cases q with
    | adr p =>
      obtain ⟨⟨xs0, hm⟩, h1⟩ := h1
      cases hu
      obtain ⟨_, vs0, e0, _⟩ := w1.own _ hm
      refine ⟨.inl ⟨rfl, vs0, SqL.of e0⟩, he G σ W1 H1 S1 _ _ (n.step st1 w1) h1 fun d W2 v H2 S2 st2 w2 hv h2 => ?_⟩
      obtain ⟨xs, Wr, pm, hz, q⟩ := h2
      have w3 := w2.perm pm.symm
      obtain ⟨s0, vs, e1, l⟩ := w3.own _ List.mem_cons_self
      obtain ⟨w4, st4⟩ := w3.setO (o := .lst (vs ++ [v])) (d' := .lst (xs ++ [d])) fun H' e s => ⟨s, _, e, l.snoc hv⟩
      have st5 := (st1.trans st2).trans (st4.perm pm)
      exact ⟨p, vs, v, rfl, rfl, e1, by rw [l.length, sizeLine_eq]; omega, fi.nx G σ _ _ _ st5 (n.step st5 w4) q⟩
    | _ => exact h1.elim
theorem rs_ext {to te : TE} {o e : AE} (ho : RefE K x to o) (he : RefE K x te e) : RefS K x (tDrop (tBM K "list" rExtend to (tCons te tNil))) (sExt o e) := fun G σ W H S A Z n h fi =>
  ho G σ W H S _ _ n h fun q W1 u H1 S1 st1 w1 hu h1 => by
    cases q with
    | adr p =>
      obtain ⟨⟨xs0, hm⟩, h1⟩ := h1
      cases hu
      obtain ⟨_, vs0, e0, _⟩ := w1.own _ hm
      refine ⟨.inl ⟨rfl, vs0, SqL.of e0⟩, he G σ W1 H1 S1 _ _ (n.step st1 w1) h1 fun d W2 v H2 S2 st2 w2 hv h2 => ?_⟩
      cases d with
      | lst ys =>
        obtain ⟨xs, Wr, pm, hz, q⟩ := h2
        cases hv with
        | lst e2 l2 =>
          have w3 := w2.perm pm.symm
          obtain ⟨s0, vs, e1, l⟩ := w3.own _ List.mem_cons_self
          obtain ⟨w4, st4⟩ := w3.setO (o := .lst (vs ++ _)) (d' := .lst (xs ++ ys)) fun H' e s => ⟨s, _, e, l.append l2⟩
          have st5 := (st1.trans st2).trans (st4.perm pm)
          exact ⟨p, _, vs, _, rfl, rfl, e1, w2.sub _ _ e2, line_of16 (by rw [l.length, l2.length]; exact hz), fi.nx G σ _ _ _ st5 (n.step st5 w4) q⟩
      | _ => exact h2.elim
    | _ => exact h1.elim

/-! ### loops -/
theorem rs_for {wi : TI} {g : TG} {tb : TS} {i : AI} {a : AG} {s : AS} (hi : RefI K x wi i) (hg : RefG K x g a) (hs : RefS K x tb s) : RefS K x (tFor wi g tb) (sFor i a s) := fun G σ W H S A Z n h fi =>
  hi G σ W H S _ _ n h fun ds W1 J H1 S1 st1 w1 it h1 => by
    obtain ⟨P, Y, wk, hp, hy⟩ := it
    refine for_it wk (fun m σ' H' => ∃ G' W' S', Step W H S W' H' S' ∧ Ex S1 S' ∧ Now K x G' σ' W' H' S' ∧ forD a s A (ds.drop m) G' W')
      ⟨G, W1, S1, st1, Ex.refl S1, n.step st1 w1, h1⟩ (fun m σ' H' _ ⟨G', W', S', _, e1, n1, _⟩ => hp S' H' e1 n1.w.sub) ?_ ?_
    · rintro m v σ' H' H'' hm ⟨G', W', S', st, e1, n1, q⟩ y
      have hd : ds[m]? = some ds[m] := List.getElem?_eq_getElem hm
      obtain ⟨S2, k2, hv⟩ := hy m H' v H'' S' ds[m] y e1 n1.w.sub hd
      obtain ⟨w2, st2⟩ := k2 W' n1.w
      rw [List.drop_eq_getElem_cons hm] at q
      have st' := st.trans st2
      refine hg G' σ' W' H'' S2 v ds[m] _ _ (n1.step st2 w2) hv q fun G3 σ3 W3 H3 S3 st3 n3 q3 => ?_
      refine hs G3 σ3 W3 H3 S3 _ _ n3 q3 ⟨fun G4 σ4 W4 H4 S4 st4 n4 q4 => ?_, fun d v W4 H4 S4 st4 w4 hv4 q4 => fi.rt d v W4 H4 S4 ((st'.trans st3).trans st4) w4 hv4 q4, fun G4 σ4 W4 H4 S4 st4 n4 q4 => fi.nx G4 σ4 W4 H4 S4 ((st'.trans st3).trans st4) n4 q4, fun G4 σ4 W4 H4 S4 st4 n4 q4 => ?_⟩
      · exact ⟨G4, W4, S4, (st'.trans st3).trans st4, e1.trans (st2.grow.trans (st3.grow.trans st4.grow)), n4, q4⟩
      · exact ⟨G4, W4, S4, (st'.trans st3).trans st4, e1.trans (st2.grow.trans (st3.grow.trans st4.grow)), n4, q4⟩
    · rintro σ' H' ⟨G', W', S', st, e1, n1, q⟩
      rw [List.drop_length] at q
      exact fi.nx G' σ' W' H' S' st n1 q
theorem rs_while {c : TT} {tb : TS} {t : AT} {s : AS} (ht : RefT K x c t) (hs : RefS K x tb s) : RefS K x (tWhile c tb) (sWhile t s) := fun G σ W H S A Z n h fi => by
  obtain ⟨I, ⟨m0, h0⟩, hI⟩ := h
  refine ⟨fun m σ' H' => ∃ G' W' S', Step W H S W' H' S' ∧ Now K x G' σ' W' H' S' ∧ I m G' W', ⟨m0, G, W, S, Step.refl W H S, n, h0⟩, ?_⟩
  rintro m σ' H' ⟨G', W', S', st, n1, q⟩
  refine ht G' σ' W' H' S' _ _ n1 (hI m G' W' q) fun b W2 H2 S2 st2 w2 q2 => ?_
  cases b with
  | false => exact iteF (fi.nx G' σ' W2 H2 S2 (st.trans st2) (n1.step st2 w2) (by simpa using q2))
  | true =>
    refine iteT ⟨fun σ3 H3 => ∃ m', m' < m ∧ ∃ G3 W3 S3, Step W H S W3 H3 S3 ∧ Now K x G3 σ3 W3 H3 S3 ∧ I m' G3 W3, fun σ3 H3 ⟨m', l, r⟩ => ⟨m', l, r⟩, ?_⟩
    have st' := st.trans st2
    have q2' : s { nx := fun G' W' => ∃ m', m' < m ∧ I m' G' W', rt := A.rt, bk := A.nx, ct := fun G' W' => ∃ m', m' < m ∧ I m' G' W' } G' W2 := by simpa using q2
    refine hs G' σ' W2 H2 S2 _ _ (n1.step st2 w2) q2' ⟨fun G4 σ4 W4 H4 S4 st4 n4 q4 => ?_, fun d v W4 H4 S4 st4 w4 hv4 q4 => fi.rt d v W4 H4 S4 (st'.trans st4) w4 hv4 q4, fun G4 σ4 W4 H4 S4 st4 n4 q4 => fi.nx G4 σ4 W4 H4 S4 (st'.trans st4) n4 q4, fun G4 σ4 W4 H4 S4 st4 n4 q4 => ?_⟩
    · obtain ⟨m', l, r⟩ := q4
      exact ⟨m', l, G4, W4, S4, st'.trans st4, n4, r⟩
    · obtain ⟨m', l, r⟩ := q4
      exact ⟨m', l, G4, W4, S4, st'.trans st4, n4, r⟩

/-! ### comprehensions -/
theorem wipe_sl {S : Hp} {G : Ga} {σ : L2.St} (s : Sl K G σ S) : ∀ vs : List Nat, Sl K (wipeG G vs) (wipe σ vs) S
  | [] => s
  | i :: r => by
    have ih := wipe_sl s r
    refine ⟨?_, fun j d h => ?_⟩
    · have e1 := ih.len
      show ((wipeG G r).set i none).length = _
      rw [List.length_set, e1, wipe_length, wipe_length]
    · have h' : ((wipeG G r).set i none)[j]? = some (some d) := h
      have hij : i ≠ j := fun z => by
        subst z
        by_cases hl : i < (wipeG G r).length
        · rw [List.getElem?_set_self hl] at h'
          cases h'
        · rw [List.getElem?_eq_none (by rw [List.length_set]; omega)] at h'
          cases h'
      rw [List.getElem?_set_ne hij] at h'
      obtain ⟨v, h1, h2⟩ := ih.at_ j d h'
      refine ⟨v, ?_, h2⟩
      show ((wipe σ r).set i none)[j]? = _
      rw [List.getElem?_set_ne hij]
      exact h1
/-- the target stays within the comprehension's own names -/
def OwnG (g : TG) (vs : List Nat) : Prop := ∀ v σ H (Q : L2.St → Hp → Prop), g v σ H Q → g v σ H fun σ' H' => wipe σ' vs = wipe σ vs ∧ Q σ' H'
theorem wipe_wipe (σ : L2.St) (vs : List Nat) : wipe (wipe σ vs) vs = wipe σ vs := by
  apply List.ext_getElem?
  intro i
  by_cases h : i ∈ vs
  · have q : ∀ (τ : L2.St) (l : List Nat), i ∈ l → (wipe τ l)[i]? = if i < τ.length then some none else none := by
      intro τ l
      induction l with
      | nil =>
        intro h
        cases h
      | cons j r ih =>
        intro h
        show ((wipe τ r).set j none)[i]? = _
        by_cases hj : j = i
        · subst hj
          by_cases hl : j < τ.length
          · rw [if_pos hl, List.getElem?_set_self (by rw [wipe_length]; exact hl)]
          · rw [if_neg hl, List.getElem?_eq_none (by rw [List.length_set, wipe_length]; omega)]
        · rw [List.getElem?_set_ne hj]
          rcases List.mem_cons.mp h with z | z
          · exact absurd z.symm hj
          · exact ih z
    rw [q _ _ h, q _ _ h, wipe_length]
  · rw [wipe_out h]
theorem wipe_set {σ : L2.St} {i : Nat} {o : Option V} {vs : List Nat} (h : i ∈ vs) : wipe (σ.set i o) vs = wipe σ vs := by
  apply List.ext_getElem?
  intro j
  by_cases hj : j ∈ vs
  · have q : ∀ (τ : L2.St) (l : List Nat), j ∈ l → (wipe τ l)[j]? = if j < τ.length then some none else none := by
      intro τ l
      induction l with
      | nil =>
        intro h
        cases h
      | cons a r ih =>
        intro h
        show ((wipe τ r).set a none)[j]? = _
        by_cases ha : a = j
        · subst ha
          by_cases hl : a < τ.length
          · rw [if_pos hl, List.getElem?_set_self (by rw [wipe_length]; exact hl)]
          · rw [if_neg hl, List.getElem?_eq_none (by rw [List.length_set, wipe_length]; omega)]
        · rw [List.getElem?_set_ne ha]
          rcases List.mem_cons.mp h with z | z
          · exact absurd z.symm ha
          · exact ih z
    rw [q _ _ hj, q _ _ hj, List.length_set]
  · have ne : i ≠ j := fun z => hj (z ▸ h)
    rw [wipe_out hj, wipe_out hj, List.getElem?_set_ne ne]
theorem own_nm {i : Nat} {vs : List Nat} (h : i ∈ vs) : OwnG (gName i) vs := fun v σ H Q q => ⟨wipe_set h, q⟩
theorem own_tp2 {n i j : Nat} {vs : List Nat} (hi : i ∈ vs) (hj : j ∈ vs) : OwnG (gTup K n (gCons (gName i) (gCons (gName j) gNil))) vs := fun v σ H Q q => by
  obtain ⟨a, xs, e, h1, h2, u, r, e2, u2, r2, e3, e4, q⟩ := q
  exact ⟨a, xs, e, h1, h2, u, r, e2, u2, r2, e3, e4, by rw [wipe_set hj, wipe_set hi], q⟩
theorem Wd.hid {W : Om} {H S : Hp} {p : Addr} {o : HO} (w : Wd K W H S) (hs : S p = none) (hp : p ∉ dom W) : Wd K W (upd H p o) S := by
  refine ⟨fun b u q => ?_, fun q hq => ?_, w.nd⟩
  · rw [upd_ne (fun z => by rw [z, hs] at q; cases q)]
    exact w.sub b u q
  · have ne : q.1 ≠ p := fun z => hp (z ▸ mem_dom hq)
    have h := w.own q hq
    revert h
    cases q.2 with
    | lst ds =>
      rintro ⟨s0, vs, e, l⟩
      exact ⟨s0, vs, by rw [upd_ne ne]; exact e, l⟩
    | ins C fs =>
      rintro ⟨s0, dx, vs, e, l⟩
      exact ⟨s0, dx, vs, by rw [upd_ne ne]; exact e, l⟩
theorem Step.hid {W W' : Om} {H S H' S' : Hp} {p : Addr} {o : HO} (st : Step W H S W' H' S') (hp : H p = none) : Step W H S W' (upd H' p o) S' :=
  ⟨fun a u ha e => by rw [upd_ne (ne_of_none e hp)]; exact st.keep a u ha e, st.grow, st.new, st.dm⟩
theorem Wd.rest {W : Om} {H S : Hp} {p : Addr} {o : HO} (w : Wd K W H S) (hs : S p = none) (hp : p ∉ dom W) (hH : H p = some o) : Wd K W H (upd S p o) := by
  have g : Ex S (upd S p o) := fun a u q => by rw [upd_ne (fun z => by rw [z, hs] at q; cases q)]; exact q
  refine ⟨fun b u q => ?_, fun q hq => ?_, w.nd⟩
  · by_cases h : b = p
    · subst h
      rw [upd_same] at q
      rw [← q]
      exact hH
    · rw [upd_ne h] at q
      exact w.sub b u q
  · have ne : q.1 ≠ p := fun z => hp (z ▸ mem_dom hq)
    have h := w.own q hq
    revert h
    cases q.2 with
    | lst ds =>
      rintro ⟨s0, vs, e, l⟩
      exact ⟨by rw [upd_ne ne]; exact s0, vs, e, l.mono g⟩
    | ins C fs =>
      rintro ⟨s0, dx, vs, e, l⟩
      exact ⟨by rw [upd_ne ne]; exact s0, dx, vs, e, l.mono g⟩
theorem Step.rest {W W' : Om} {H S H' S' : Hp} {p : Addr} {o : HO} (st : Step W H S W' H' S') (hp : H p = none) (hs : S' p = none) : Step W H S W' H' (upd S' p o) := by
  refine ⟨st.keep, fun a u q => ?_, fun a u q => ?_, st.dm⟩
  · have q' := st.grow a u q
    rw [upd_ne (fun z => by rw [z, hs] at q'; cases q')]
    exact q'
  · by_cases h : a = p
    · rw [h]
      exact .inr (.inl hp)
    · rw [upd_ne h] at q
      exact st.new a u q
/-- what is made apart stays apart -/
theorem apart {Wa Wb : Om} {Ha Sa Hb Sb : Hp} {p : Addr} {o : HO} (s : Step Wa Ha Sa Wb Hb Sb) (e1 : Ha p = some o) (e2 : Sa p = none) (e3 : p ∉ dom Wa) : Hb p = some o ∧ Sb p = none ∧ p ∉ dom Wb := by
  refine ⟨s.keep _ _ e3 e1, ?_, fun z => ?_⟩
  · cases q : Sb p with
    | none => rfl
    | some u =>
      rcases s.new _ _ q with z | z | z
      · rw [e2] at z
        cases z
      · rw [e1] at z
        cases z
      · exact absurd z e3
  · rcases s.dm _ z with y | y
    · exact e3 y
    · rw [e1] at y
      cases y
/-- between two turns of a comprehension -/
structure LcP (K : PySem.W.Frag) (W1 : Om) (H1 S1 : Hp) (Dl : Addr) (L : List D → Om → Prop) (m : Nat) (H' : Hp) (W' : Om) (S' : Hp) (acc : List D) (vsd : List V) : Prop where
  st : Step W1 H1 S1 W' H' S'
  w : Wd K W' H' S'
  s : S' Dl = none
  d : Dl ∉ dom W'
  h : H' Dl = some (.lst vsd)
  l : HasL K S' vsd acc
  z : acc.length ≤ m
  q : L acc W'
theorem ref_lc {wi : TI} {g : TG} {tt : TT} {te : TE} {vs : List Nat} {i : AI} {a : AG} {t : AT} {e : AE} (hi : RefI K x wi i) (hg : RefG K x g a) (hw : OwnG g vs) (ht : RefT K x tt t) (he : RefE K x te e) : RefE K x (tLc wi g tt te vs) (aLc i a t e vs) := fun G σ W H S AQ Q n h k =>
  hi G σ W H S _ _ n h fun ds W1 J H1 S1 st1 w1 it h1 => by
    obtain ⟨hz, h1⟩ := h1
    obtain ⟨P, Y, wk, hp, hy⟩ := it
    intro Dl hD
    have Dn : S1 Dl = none := by
      cases q : S1 Dl with
      | none => rfl
      | some u =>
        rw [w1.sub _ _ q] at hD
        cases hD
    have L : Nat → List D → Om → Prop := fun m acc W' => lcD a t e (wipeG G vs) (fun out W2 => AQ (.lst out) W2) (ds.drop m) acc W'
    refine lc_it wk (vs := vs) (fun m H' => ∃ W' S' acc vsd, LcP K W1 H1 S1 Dl (fun acc W' => lcD a t e (wipeG G vs) (fun out W2 => AQ (.lst out) W2) (ds.drop m) acc W') m H' W' S' acc vsd)
      ⟨W1, S1, [], [], (Step.refl _ _ _).hid hD, w1.hid Dn (dom_new w1 hD), Dn, dom_new w1 hD, upd_same, .nil, Nat.le_refl _, h1⟩ (fun m H' _ ⟨W', S', acc, vsd, p⟩ => hp S' H' p.st.grow p.w.sub) ?_ ?_
    · rintro m v H' H'' hm ⟨W', S', acc, vsd, p⟩ y
      have hd : ds[m]? = some ds[m] := List.getElem?_eq_getElem hm
      obtain ⟨S2, k2, hv⟩ := hy m H' v H'' S' ds[m] y p.st.grow p.w.sub hd
      obtain ⟨w2, st2⟩ := k2 W' p.w
      have q := p.q
      rw [List.drop_eq_getElem_cons hm] at q
      obtain ⟨a1, a2, a3⟩ := apart st2 p.h p.s p.d
      have st12 := st1.trans (p.st.trans st2)
      have nw : Now K x (wipeG G vs) (wipe σ vs) W' H'' S2 := ⟨w2, wipe_sl (n.s.mono st12.grow) vs, n.x.step st12⟩
      have z : g v (wipe σ vs) H'' fun σ2 H2 => tt σ2 H2 fun b H3 => if b = true then te σ2 H3 fun y H4 => ∃ acc, H4 Dl = some (.lst acc) ∧ acc.length < sizeLine ∧ ∃ W' S' acc1 vsd, LcP K W1 H1 S1 Dl (fun acc W' => lcD a t e (wipeG G vs) (fun out W2 => AQ (.lst out) W2) (ds.drop (m + 1)) acc W') (m + 1) (upd H4 Dl (.lst (acc ++ [y]))) W' S' acc1 vsd
          else ∃ W' S' acc1 vsd, LcP K W1 H1 S1 Dl (fun acc W' => lcD a t e (wipeG G vs) (fun out W2 => AQ (.lst out) W2) (ds.drop (m + 1)) acc W') (m + 1) H3 W' S' acc1 vsd := by
        refine hg _ (wipe σ vs) W' H'' S2 v ds[m] _ _ nw hv q fun G3 σ3 W3 H3 S3 st3 n3 q3 => ?_
        obtain ⟨b1, b2, b3⟩ := apart st3 a1 a2 a3
        refine ht G3 σ3 W3 H3 S3 _ _ n3 q3 fun b W4 H4 S4 st4 w4 q4 => ?_
        obtain ⟨c1, c2, c3⟩ := apart st4 b1 b2 b3
        have n4 := n3.step st4 w4
        have stA := (p.st.trans st2).trans (st3.trans st4)
        have lA := p.l.mono (st2.grow.trans (st3.grow.trans st4.grow))
        cases b with
        | false => exact iteF ⟨W4, S4, acc, vsd, stA, w4, c2, c3, c1, lA, Nat.le_succ_of_le p.z, by simpa using q4⟩
        | true =>
          have q4' : e G3 W4 fun y W3 => lcD a t e (wipeG G vs) (fun out W2 => AQ (.lst out) W2) (ds.drop (m + 1)) (acc ++ [y]) W3 := by simpa using q4
          refine iteT (he G3 σ3 W4 H4 S4 _ _ n4 q4' fun d5 W5 u H5 S5 st5 w5 hu q5 => ?_)
          obtain ⟨d1, d2, d3⟩ := apart st5 c1 c2 c3
          have l5 := (lA.mono st5.grow).snoc hu
          refine ⟨vsd, d1, by rw [p.l.length, sizeLine_eq]; have := p.z; omega, W5, S5, acc ++ [d5], vsd ++ [u], (stA.trans st5).hid hD, w5.hid d2 d3, d2, d3, upd_same, l5, ?_, q5⟩
          rw [List.length_append]
          exact Nat.add_le_add_right p.z 1
      have z2 := hw _ _ _ _ z
      rw [wipe_wipe] at z2
      exact z2
    · rintro H' ⟨W', S', acc, vsd, p⟩
      have q := p.q
      rw [List.drop_length] at q
      have w' := p.w.rest p.s p.d p.h
      have st' := p.st.rest (o := .lst vsd) hD p.s
      exact k _ W' _ _ _ (st1.trans st') w' (.lst upd_same (p.l.mono fun b u q => by rw [upd_ne (fun z => by rw [z, p.s] at q; cases q)]; exact q)) q
end
end Hd
end

section
set_option maxHeartbeats 4000000
/-! # Hd: calls, defs -/
namespace Hd
open PySem PySem.Spec PyProof.Rows L2

section
variable {K : PySem.W.Frag} {x : XW}
theorem Wd.right {Wc Wr : Om} {H S : Hp} (w : Wd K (Wc ++ Wr) H S) : Wd K Wr H S :=
  ⟨w.sub, fun p hp => w.own p (List.mem_append_right _ hp), (List.nodup_append.mp (by have := w.nd; rwa [dom_append] at this)).2.1⟩
theorem Wd.nil {W : Om} {H S : Hp} (w : Wd K W H S) : Wd K [] H S := ⟨w.sub, fun _ h => (nomatch h), List.nodup_nil⟩
/-- a def without effects: what was owned is owned -/
theorem pure_frame {W W' : Om} {H S H' S' : Hp} (w : Wd K W H S) (st : Step [] H S W' H' S') (w' : Wd K W' H' S') : Wd K W H' S' ∧ Step W H S W H' S' := by
  obtain ⟨a, b⟩ := Wd.frame (Wc := []) (Wr := W) w st w'
  exact ⟨a.right, ⟨fun a u ha e => b.keep a u ha e, b.grow, fun a u e => b.new a u e, fun a ha => .inl ha⟩⟩
theorem ref_callP {p : List D → (D → Prop) → Prop} {t : TA} {a : AA} (ha : RefA K x t a) : RefE K x (tCall (toSp K (pureSp p)) [] E0 t) (aCallP p a) := fun G σ W H S AQ Q n h k =>
  ha G σ W H S _ _ n h fun ds W1 vs H1 S1 st1 w1 hv h1 => ⟨S1, ds, [], fun d _ => AQ d W1, fun _ _ _ => False, w1.nil, by rw [List.append_nil]; exact hv, ⟨rfl, h1⟩, fun d W' v H' S' st w' hv' q => by
    obtain ⟨w2, st2⟩ := pure_frame w1 st w'
    exact k d W1 v H' S' (st1.trans st2) w2 hv' q, xc0⟩
theorem ref_callW {ap : ASp} {t : TA} {a : AA} (ha : RefA K x t a) : RefE K x (tCall (toSp K ap) [] E0 t) (aCallW ap a) := fun G σ W H S AQ Q n h k =>
  ha G σ W H S _ _ n h fun ds W1 vs H1 S1 st1 w1 hv h1 => by
    obtain ⟨Wc, Wr, pm, h1⟩ := h1
    have w2 := w1.perm pm.symm
    refine ⟨S1, ds, Wc, _, _, w2.left, by rw [List.append_nil]; exact hv, h1, fun d W' v H' S' st w' hv' q => ?_, xc0⟩
    obtain ⟨w3, st3⟩ := Wd.frame w2 st w'
    exact k d _ v H' S' (st1.trans (st3.perm pm)) w3 hv' q
theorem ref_meth {C : Addr} {ns : List Str} {m : Str} {ap : ASp} {to : TE} {o : AE} {t : TA} {a : AA} (hm : ∀ fs : List (Str × D), fs.map (·.1) = ns → fs.lookup m = none) (ho : RefE K x to o) (ha : RefA K x t a) : RefE K x (tMeth C m (toSp K ap) [] E0 to t) (aMeth C ns ap o a) := fun G σ W H S AQ Q n h k =>
  ho G σ W H S _ _ n h fun q W1 u H1 S1 st1 w1 hu h1 => by
    cases q with
    | adr p =>
      obtain ⟨⟨fs, hf, hn⟩, h1⟩ := h1
      cases hu
      obtain ⟨_, dx, vs0, e0, l0⟩ := w1.own _ hf
      refine ⟨p, dx, vs0, rfl, e0, l0.lookup_none (hm fs hn), ha G σ W1 H1 S1 _ _ (n.step st1 w1) h1 fun ds W2 vs H2 S2 st2 w2 hv h2 => ?_⟩
      obtain ⟨Wc, Wr, pm, h2⟩ := h2
      have w3 := w2.perm pm.symm
      refine ⟨S2, .adr p :: ds, Wc, _, _, w3.left, by rw [List.append_nil]; exact .cons (.adr p) hv, h2, fun d W' v H' S' st w' hv' q => ?_, xc0⟩
      obtain ⟨w4, st4⟩ := Wd.frame w3 st w'
      exact k d _ v H' S' ((st1.trans st2).trans (st4.perm pm)) w4 hv' q
    | _ => exact h1.elim
/-- a new instance and its own dict -/
theorem made {W : Om} {H S : Hp} {p dx C : Addr} (w : Wd K W H S) (hp : H p = none) (hd : H dx = none) (ne : dx ≠ p) : Wd K ((p, .ins C []) :: W) (upd (upd H dx (.own p)) p (.ins C dx [])) S ∧ Step W H S ((p, .ins C []) :: W) (upd (upd H dx (.own p)) p (.ins C dx [])) S ∧ p ∉ dom W := by
  have sd : S dx = none := by
    cases q : S dx with
    | none => rfl
    | some u =>
      rw [w.sub _ _ q] at hd
      cases hd
  have w1 : Wd K W (upd H dx (.own p)) S := w.hid sd (dom_new w hd)
  have st1 : Step W H S W (upd H dx (.own p)) S := (Step.refl W H S).hid hd
  have hp1 : (upd H dx (.own p)) p = none := by rw [upd_ne (Ne.symm ne)]; exact hp
  obtain ⟨w2, st2⟩ := w1.newO (o := .ins C dx []) (d := .ins C []) hp1 fun H' e s => ⟨s, dx, [], e, .nil⟩
  exact ⟨w2, st1.trans st2, dom_new w hp⟩
theorem ref_make {C : Addr} {ap : ASp} {t : TA} {a : AA} (ha : RefA K x t a) : RefE K x (tMake C (toSp K ap) [] E0 t) (aMake C ap a) := fun G σ W H S AQ Q n h k =>
  ha G σ W H S _ _ n h fun ds W1 vs H1 S1 st1 w1 hv h1 => fun p dx hp hd ne => by
    obtain ⟨w2, st2, nd⟩ := made (C := C) w1 hp hd ne
    refine ⟨S1, .adr p :: ds, [(p, .ins C [])], _, _, Wd.left (Wc := [(p, .ins C [])]) w2, by rw [List.append_nil]; exact .cons (.adr p) hv, h1 p nd, fun d W' v H' S' st w' hv' q => ?_, xc0⟩
    obtain ⟨rfl, q⟩ := q
    cases hv'
    obtain ⟨w4, st4⟩ := Wd.frame (Wc := [(p, .ins C [])]) (Wr := W1) w2 st w'
    exact ⟨rfl, k _ _ _ H' S' (st1.trans (st2.trans st4)) w4 (.adr p) q⟩
theorem ref_makeV {C : Addr} {ap : ASp} {t : TA} {a : AA} (ha : RefA K x t a) : RefE K x (tMake C (toSp K ap) [] E0 t) (aMakeV C ap a) := fun G σ W H S AQ Q n h k =>
  ha G σ W H S _ _ n h fun ds W1 vs H1 S1 st1 w1 hv h1 => fun p dx hp hd ne => by
    obtain ⟨w2, st2, nd⟩ := made (C := C) w1 hp hd ne
    refine ⟨S1, .adr p :: ds, [(p, .ins C [])], _, _, Wd.left (Wc := [(p, .ins C [])]) w2, by rw [List.append_nil]; exact .cons (.adr p) hv, h1 p nd, fun d W' v H' S' st w' hv' q => ?_, xc0⟩
    obtain ⟨rfl, fs, rfl, q⟩ := q
    cases hv'
    obtain ⟨w4, st4⟩ := Wd.frame (Wc := [(p, .ins C [])]) (Wr := W1) w2 st w'
    obtain ⟨_, dx', vs', e, l⟩ := w4.own _ List.mem_cons_self
    obtain ⟨w5, st5⟩ := Wd.stay (W := W1) w4 e
    exact ⟨rfl, k _ _ _ H' _ (st1.trans (st2.trans (st4.trans st5))) w5 (.ins upd_same (l.mono st5.grow)) q⟩
/-- what a callee's exception means to the caller -/
theorem xc_frame {Wc Wr : Om} {H S : Hp} (w : Wd K (Wc ++ Wr) H S) (h : XC K x (Wc ++ Wr) H S) : XC K ⟨x.E, fun C m W' => x.A C m (W' ++ Wr)⟩ Wc H S := fun C m W' H' S' d st w' hd sd dd q => by
  obtain ⟨w2, st2⟩ := Wd.frame w st w'
  refine h C m _ H' S' d st2 w2 hd sd (fun z => ?_) q
  rw [dom_append] at z
  rcases List.mem_append.mp z with z | z
  · exact dd z
  · obtain ⟨o, ho⟩ := dom_mem z
    have hw := w2.own _ (List.mem_append_right _ ho)
    cases o with
    | lst ds =>
      obtain ⟨_, vs, e, _⟩ := hw
      rw [hd] at e
      cases e
    | ins C fs =>
      obtain ⟨_, dx, vs, e, _⟩ := hw
      rw [hd] at e
      cases e
theorem xc_pure {W : Om} {H S : Hp} (w : Wd K W H S) (h : XC K x W H S) : XC K ⟨x.E, fun C m _ => x.A C m W⟩ [] H S := fun C m W' H' S' d st w' hd sd dd q => by
  obtain ⟨w2, st2⟩ := pure_frame w st w'
  refine h C m W H' S' d st2 w2 hd sd (fun z => ?_) q
  obtain ⟨o, ho⟩ := dom_mem z
  have hw := w2.own _ ho
  cases o with
  | lst ds =>
    obtain ⟨_, vs, e, _⟩ := hw
    rw [hd] at e
    cases e
  | ins C fs =>
    obtain ⟨_, dx, vs, e, _⟩ := hw
    rw [hd] at e
    cases e
theorem ref_callX {p : List D → (D → Prop) → (Addr → Str → Prop) → Prop} {t : TA} {a : AA} (ha : RefA K x t a) : RefE K x (tCall (toSp K (pureX p)) [] x.E t) (aCallX x p a) := fun G σ W H S AQ Q n h k =>
  ha G σ W H S _ _ n h fun ds W1 vs H1 S1 st1 w1 hv h1 => ⟨S1, ds, [], fun d _ => AQ d W1, fun C m _ => x.A C m W1, w1.nil, by rw [List.append_nil]; exact hv, ⟨rfl, h1⟩, fun d W' v H' S' st w' hv' q => by
    obtain ⟨w2, st2⟩ := pure_frame w1 st w'
    exact k d W1 v H' S' (st1.trans st2) w2 hv' q, xc_pure w1 (n.x.step st1)⟩
end

/-! ### defs that keep their promise -/
section
variable (P : Program) (w : World) (K : PySem.W.Frag) (mg : Str → Option Value) (base : Heap) (CX : CXT)
/-- a def of the module -/
def Cal (k : Nat) (x : Str) (ps : List Str) (ap : ASp) : Prop := ∃ f fd, FnOk P w K mg base CX k f fd ps (toSp K ap) ∧ mg x = some (.ref f) ∧ PySem.W.keepIn K (.ref f) = true ∧ Binds K fd ps []
/-- a method -/
def Mal (k : Nat) (C : Addr) (m : Str) (ps : List Str) (ap : ASp) : Prop := ∃ f fd, FnOk P w K mg base CX k f fd ps (toSp K ap) ∧ Meth K C m f ∧ Binds K fd ps []
/-- an __init__ -/
def Ial (k : Nat) (C : Addr) (ps : List Str) (ap : ASp) : Prop := ∃ f fd, FnOk P w K mg base CX k f fd ps (toSp K ap) ∧ Mk K C f ∧ Binds K fd ps []
end
section
variable {P : Program} {w : World} {K : PySem.W.Frag} {mg : Str → Option Value} {base : Heap} {x qual : Str} {params : Arguments} {body : List Stmt} {scope : Scope} {f : Addr} {N ps : List Str} {ap : ASp} {k : Nat}
/-- the parameters' slots -/
@[simp] def startD (N : List Str) (ds : List D) : Ga := ds.map some ++ List.replicate (N.length - ds.length) none
theorem startD_sl {S : Hp} : ∀ {vs : List V} {ds : List D}, HasL K S vs ds → ∀ n, Sl K (ds.map some ++ List.replicate n none) (vs.map some ++ List.replicate n none) S := fun {vs ds} l n => by
  refine ⟨by simp [l.length], fun i d h => ?_⟩
  by_cases hi : i < ds.length
  · rw [List.getElem?_append_left (by simpa using hi), List.getElem?_map] at h
    rw [List.getElem?_append_left (by simpa [l.length] using hi), List.getElem?_map]
    cases q : ds[i]? with
    | none =>
      rw [q] at h
      cases h
    | some z =>
      rw [q] at h
      cases h
      obtain ⟨v, h1, h2⟩ := l.get q
      exact ⟨v, by rw [h1]; rfl, h2⟩
  · rw [List.getElem?_append_right (by simpa using hi), List.getElem?_replicate] at h
    split at h <;> cases h
theorem start_sl {S : Hp} {vs : List V} {ds : List D} (l : HasL K S vs ds) : Sl K (startD N ds) (L2.start N vs) S := by
  unfold startD L2.start
  rw [l.length]
  exact startD_sl l _
theorem fn_ok {fd : FuncData} (F : FunD K x qual params body scope [] [] f fd) (sc : FnScope N ps scope) (hl : ∀ ds W AQ AX, ap ds W AQ AX → ds.length = ps.length)
    (hb : ∀ (cdv : Value) (A : Around) (outer : List Env) (s : Shared) (H : Hp) (E : XK), Room k (A.deeper (envOfC qual scope s.heap.objs.size f cdv)) →
      ∃ as, DSs (cxOf CX0 P w K mg base N qual scope f cdv A outer s H E).nox X0 body as ∧ ∀ ds W AQ AX, ap ds W AQ AX → as { nx := fun _ W' => AQ .non W', rt := AQ } (startD N ds) W) : FnOk P w K mg base CX0 (k + 1) f fd ps (toSp K ap) := by
  refine F.ok sc (fun vs H Q E ⟨S, ds, W, AQ, AX, w, hv, h, _⟩ => by rw [hv.length]; exact hl ds W AQ AX h) fun cdv A outer s H vs Q E hr ⟨S, ds, W, AQ, AX, w, hv, h, hk, hx⟩ => ?_
  obtain ⟨as, ⟨t, h1, h2⟩, h3⟩ := hb cdv A outer s H E hr
  refine ⟨t, h1.nox, h2 (startD N ds) (L2.start N vs) W H S _ _ ⟨w, start_sl hv, xc0⟩ (h3 ds W AQ AX h) ⟨fun G' σ' W' H' S' st n q => hk .non W' .non H' S' st n.w .non q, fun d v W' H' S' st w hv q => hk d W' v H' S' st w hv q, fun _ _ _ _ _ _ _ q => q.elim, fun _ _ _ _ _ _ _ q => q.elim⟩⟩
/-- one that may raise -/
theorem fn_okX {fd : FuncData} (F : FunD K x qual params body scope [] [] f fd) (sc : FnScope N ps scope) (hl : ∀ ds W AQ AX, ap ds W AQ AX → ds.length = ps.length)
    (hb : ∀ (cdv : Value) (A : Around) (outer : List Env) (s : Shared) (H : Hp) (E : XK) (AX : Addr → Str → Om → Prop), Room k (A.deeper (envOfC qual scope s.heap.objs.size f cdv)) →
      ∃ as, DSs (cxOf (L2N.CX P w) P w K mg base N qual scope f cdv A outer s H E) ⟨E, AX⟩ body as ∧ ∀ ds W AQ, ap ds W AQ AX → as { nx := fun _ W' => AQ .non W', rt := AQ } (startD N ds) W) : FnOk P w K mg base (L2N.CX P w) (k + 1) f fd ps (toSp K ap) := by
  refine F.ok sc (fun vs H Q E ⟨S, ds, W, AQ, AX, w, hv, h, _⟩ => by rw [hv.length]; exact hl ds W AQ AX h) fun cdv A outer s H vs Q E hr ⟨S, ds, W, AQ, AX, w, hv, h, hk, hx⟩ => ?_
  obtain ⟨as, ⟨t, h1, h2⟩, h3⟩ := hb cdv A outer s H E AX hr
  refine ⟨t, h1, h2 (startD N ds) (L2.start N vs) W H S _ _ ⟨w, start_sl hv, hx⟩ (h3 ds W AQ h) ⟨fun G' σ' W' H' S' st n q => hk .non W' .non H' S' st n.w .non q, fun d v W' H' S' st w hv q => hk d W' v H' S' st w hv q, fun _ _ _ _ _ _ _ q => q.elim, fun _ _ _ _ _ _ _ q => q.elim⟩⟩
end

/-! ## the rules as one writes them: the text and its abstract reading at once -/
section
variable {X : Cx} {x : XW} {e a b : Expr} {es : List Expr} {ae aa ab : AE} {al : AA} {pos : Pos}
theorem de_var (i : Nat) {n : Str} (hN : X.N[i]? = some n := by rfl) (hv : Vis X.env.scope n := by first | exact Or.inl rfl | exact Or.inr (Or.inl rfl) | exact Or.inr (Or.inr rfl)) (hd : (n == ("__debug__" : Str)) = false := by decide)
    (hcd : (n == ("__classdict__" : Str)) = false := by decide) : DE X x (.Name n pos) (aVar i) := ⟨⟨_, pe_var hN hv hd hcd, ref_var i⟩⟩
theorem de_int {i j} : DE X x (.Constant (.int i) j pos) (aC (.int i)) := ⟨⟨_, pe_int, ref_c fun _ => .int i⟩⟩
theorem de_bl {i j} : DE X x (.Constant (.bool i) j pos) (aC (.bl i)) := ⟨⟨_, pe_bl, ref_c fun _ => .bl i⟩⟩
theorem de_non {j} : DE X x (.Constant .none j pos) (aC .non) := ⟨⟨_, pe_non, ref_c fun _ => .non⟩⟩
theorem de_str {s j} : DE X x (.Constant (.str s) j pos) (aC (.str s)) := ⟨⟨_, pe_str, ref_c fun _ => .str s⟩⟩
/-- a module's number -/
theorem de_gl {n : Str} {i : Int} (h : ∃ t, X.mg n = some (.int i t)) (hg : Gl X n := by rfl) (hd : (n == ("__debug__" : Str)) = false := by decide) : DE X x (.Name n pos) (aC (.int i)) := by
  obtain ⟨t, e⟩ := h
  exact ⟨⟨_, pe_glob (v := .int i) hg e ⟨t, rfl⟩ hd, ref_c fun _ => .int i⟩⟩
theorem opr_or {X : Cx} {f : Value → Value → Sem Value} {r r' : R2} (h : OpR X f r) (h' : OpR X f r') : OpR X f (fun x y H Q => r x y H Q ∨ r' x y H Q) := fun pins s σ H x y v u Q I rx ry q => by
  rcases q with q | q
  · exact h pins s σ H x y v u Q I rx ry q
  · exact h' pins s σ H x y v u Q I rx ry q
theorem de_add (ha : DE X x a aa) (hb : DE X x b ab) : DE X x (.BinOp a .Add b pos) (aOp oAdd aa ab) := by
  obtain ⟨t, h1, h2⟩ := ha
  obtain ⟨u, h3, h4⟩ := hb
  exact ⟨⟨_, pe_op (opr_or op_add op_cat) h1 h3, ref_op r2_add h2 h4⟩⟩
theorem de_catO (ha : DE X x a aa) (hb : DE X x b ab) : DE X x (.BinOp a .Add b pos) (aCatO aa ab) := by
  obtain ⟨t, h1, h2⟩ := ha
  obtain ⟨u, h3, h4⟩ := hb
  exact ⟨⟨_, pe_op (opr_or op_add op_cat) h1 h3, ref_catO h2 h4⟩⟩
theorem de_sub (ha : DE X x a aa) (hb : DE X x b ab) : DE X x (.BinOp a .Sub b pos) (aOp oSub aa ab) := by
  obtain ⟨t, h1, h2⟩ := ha
  obtain ⟨u, h3, h4⟩ := hb
  exact ⟨⟨_, pe_op op_sub h1 h3, ref_op r2_sub h2 h4⟩⟩
theorem de_mul (ha : DE X x a aa) (hb : DE X x b ab) : DE X x (.BinOp a .Mult b pos) (aOp oMul aa ab) := by
  obtain ⟨t, h1, h2⟩ := ha
  obtain ⟨u, h3, h4⟩ := hb
  exact ⟨⟨_, pe_op op_mul h1 h3, ref_op r2_mul h2 h4⟩⟩
theorem de_fdv (ha : DE X x a aa) (hb : DE X x b ab) : DE X x (.BinOp a .FloorDiv b pos) (aOp oFdv aa ab) := by
  obtain ⟨t, h1, h2⟩ := ha
  obtain ⟨u, h3, h4⟩ := hb
  exact ⟨⟨_, pe_op op_fdivW h1 h3, ref_op r2_fdv h2 h4⟩⟩
theorem de_pow (ha : DE X x a aa) (hb : DE X x b ab) : DE X x (.BinOp a .Pow b pos) (aOp oPow aa ab) := by
  obtain ⟨t, h1, h2⟩ := ha
  obtain ⟨u, h3, h4⟩ := hb
  exact ⟨⟨_, pe_op op_pow h1 h3, ref_op r2_pow h2 h4⟩⟩
theorem de_neg (ha : DE X x a aa) : DE X x (.UnaryOp .USub a pos) (aUn oNeg aa) := by
  obtain ⟨t, h1, h2⟩ := ha
  exact ⟨⟨_, pe_un un_neg h1, ref_neg h2⟩⟩
theorem de_lt (ha : DE X x a aa) (hb : DE X x b ab) : DE X x (.Compare a [.Lt] [b] pos) (aOp oLt aa ab) := by
  obtain ⟨t, h1, h2⟩ := ha
  obtain ⟨u, h3, h4⟩ := hb
  exact ⟨⟨_, pe_cmpR op_lt h1 h3 (nomark _), ref_op r2_lt h2 h4⟩⟩
theorem de_le (ha : DE X x a aa) (hb : DE X x b ab) : DE X x (.Compare a [.LtE] [b] pos) (aOp oLe aa ab) := by
  obtain ⟨t, h1, h2⟩ := ha
  obtain ⟨u, h3, h4⟩ := hb
  exact ⟨⟨_, pe_cmpR op_le h1 h3 (nomark _), ref_op r2_le h2 h4⟩⟩
theorem de_gt (ha : DE X x a aa) (hb : DE X x b ab) : DE X x (.Compare a [.Gt] [b] pos) (aOp oGt aa ab) := by
  obtain ⟨t, h1, h2⟩ := ha
  obtain ⟨u, h3, h4⟩ := hb
  exact ⟨⟨_, pe_cmpR op_gt h1 h3 (nomark _), ref_op r2_gt h2 h4⟩⟩
theorem de_ge (ha : DE X x a aa) (hb : DE X x b ab) : DE X x (.Compare a [.GtE] [b] pos) (aOp oGe aa ab) := by
  obtain ⟨t, h1, h2⟩ := ha
  obtain ⟨u, h3, h4⟩ := hb
  exact ⟨⟨_, pe_cmpR op_ge h1 h3 (nomark _), ref_op r2_ge h2 h4⟩⟩
theorem de_eq {k : Nat} (hr : Room k X.A) (ha : DE X x a aa) (hb : DE X x b ab) : DE X x (.Compare a [.Eq] [b] pos) (aOp oEq aa ab) := by
  obtain ⟨t, h1, h2⟩ := ha
  obtain ⟨u, h3, h4⟩ := hb
  exact ⟨⟨_, pe_cmpR (opr_or op_eq (op_eqD hr.units)) h1 h3 (nomark _), ref_op r2_eq h2 h4⟩⟩
theorem de_ne (ha : DE X x a aa) (hb : DE X x b ab) : DE X x (.Compare a [.NotEq] [b] pos) (aOp oNe aa ab) := by
  obtain ⟨t, h1, h2⟩ := ha
  obtain ⟨u, h3, h4⟩ := hb
  exact ⟨⟨_, pe_cmpR op_ne h1 h3 (nomark _), ref_op r2_ne h2 h4⟩⟩
theorem de_ix (ha : DE X x a aa) (hb : DE X x b ab) (hs : PlainIx b := by intro _ _; rfl) : DE X x (.Subscript a b pos) (aOp oIx aa ab) := by
  obtain ⟨t, h1, h2⟩ := ha
  obtain ⟨u, h3, h4⟩ := hb
  exact ⟨⟨_, pe_ix ix_seq h1 h3 hs, ref_op r2_ix h2 h4⟩⟩
theorem de_ixO (ha : DE X x a aa) (hb : DE X x b ab) (hs : PlainIx b := by intro _ _; rfl) : DE X x (.Subscript a b pos) (aIxO aa ab) := by
  obtain ⟨t, h1, h2⟩ := ha
  obtain ⟨u, h3, h4⟩ := hb
  exact ⟨⟨_, pe_ix ix_seq h1 h3 hs, ref_ixO h2 h4⟩⟩
theorem da_nil : DA X x [] aNil := ⟨⟨_, pa_nil, ref_nil⟩⟩
theorem da_cons (ha : DE X x e ae) (hr : DA X x es al) (hs : starEach (e :: es) X.env = (false, eval e X.env) :: starEach es X.env := by rfl) : DA X x (e :: es) (aCons ae al) := by
  obtain ⟨t, h1, h2⟩ := ha
  obtain ⟨u, h3, h4⟩ := hr
  exact ⟨⟨_, pa_cons h1 h3 hs, ref_cons h2 h4⟩⟩
theorem de_tup {k} (h : DA X x es al) : DE X x (.Tuple es k pos) (aTup al) := by
  obtain ⟨t, h1, h2⟩ := h
  exact ⟨⟨_, pe_tup h1, ref_tup h2⟩⟩
theorem de_lst (h : DA X x es al) : DE X x (.List es pos) (aLst al) := by
  obtain ⟨t, h1, h2⟩ := h
  exact ⟨⟨_, pe_lst h1, ref_lst h2⟩⟩
theorem de_lstO (h : DA X x es al) : DE X x (.List es pos) (aLstO al) := by
  obtain ⟨t, h1, h2⟩ := h
  exact ⟨⟨_, pe_lst h1, ref_lstO h2⟩⟩
theorem de_frz (h : DE X x e ae) : DE X x e (aFrz ae) := by
  obtain ⟨t, h1, h2⟩ := h
  exact ⟨⟨_, h1, ref_frz h2⟩⟩
/-- a class by its facts, its fields' names in order -/
structure ClsF (K : PySem.W.Frag) (C : Addr) (ns : List Str) : Prop where
  c : Cls K C
  no : ∀ f ∈ ns, NoAttr K C f
  nd : ns.Nodup
theorem ClsF.at_ {K : PySem.W.Frag} {C : Addr} {ns : List Str} (h : ClsF K C ns) {i : Nat} {f : Str} (e : ns[i]? = some f) : NoAttr K C f := h.no f (List.mem_of_getElem? e)
theorem de_fld {C : Addr} {ns : List Str} (i : Nat) {f : Str} (c : ClsF X.K C ns) (ha : DE X x e ae) (hf : ns[i]? = some f := by rfl) (hb : attributeBase e f X.env (eval e X.env) = eval e X.env := by rfl) : DE X x (.Attribute e f pos) (aFld C ns i ae) := by
  obtain ⟨t, h1, h2⟩ := ha
  exact ⟨⟨_, pe_fld h1 hb, ref_fld c.c (c.at_ hf) c.nd hf h2⟩⟩
theorem de_fldO {C : Addr} {ns : List Str} (i : Nat) {f : Str} (c : ClsF X.K C ns) (ha : DE X x e ae) (hf : ns[i]? = some f := by rfl) (hb : attributeBase e f X.env (eval e X.env) = eval e X.env := by rfl) : DE X x (.Attribute e f pos) (aFldO C ns i ae) := by
  obtain ⟨t, h1, h2⟩ := ha
  exact ⟨⟨_, pe_fld h1 hb, ref_fldO c.c (c.at_ hf) c.nd hf h2⟩⟩
/-! ### builtins -/
theorem de_len {p} (hm : X.mg "len" = none) (ha : DE X x e ae) (hg : Gl X "len" := by rfl) (hs : starEach [e] X.env = (false, eval e X.env) :: starEach [] X.env := by rfl) (hpl : (backTo pos (starEach [] X.env)).any (·.1) = false := by rfl) : DE X x (.Call (.Name "len" p) [e] [] pos) (aCB cLen (aCons ae aNil)) := by
  obtain ⟨t, h1, h2⟩ := ha
  exact ⟨⟨_, pe_callB call_len hg hm boot_len (pa_cons h1 pa_nil hs) (by decide) (by decide) hs hpl, ref_cb rc_len (ref_cons h2 ref_nil)⟩⟩
theorem de_abs {p} (hm : X.mg "abs" = none) (ha : DE X x e ae) (hg : Gl X "abs" := by rfl) (hs : starEach [e] X.env = (false, eval e X.env) :: starEach [] X.env := by rfl) (hpl : (backTo pos (starEach [] X.env)).any (·.1) = false := by rfl) : DE X x (.Call (.Name "abs" p) [e] [] pos) (aCB cAbs (aCons ae aNil)) := by
  obtain ⟨t, h1, h2⟩ := ha
  exact ⟨⟨_, pe_callB call_abs hg hm (by decide +kernel) (pa_cons h1 pa_nil hs) (by decide) (by decide) hs hpl, ref_cb rc_abs (ref_cons h2 ref_nil)⟩⟩
theorem de_ord {p} (hm : X.mg "ord" = none) (ha : DE X x e ae) (hg : Gl X "ord" := by rfl) (hs : starEach [e] X.env = (false, eval e X.env) :: starEach [] X.env := by rfl) (hpl : (backTo pos (starEach [] X.env)).any (·.1) = false := by rfl) : DE X x (.Call (.Name "ord" p) [e] [] pos) (aCB cOrd (aCons ae aNil)) := by
  obtain ⟨t, h1, h2⟩ := ha
  exact ⟨⟨_, pe_callB call_ord hg hm (by decide +kernel) (pa_cons h1 pa_nil hs) (by decide) (by decide) hs hpl, ref_cb rc_ord (ref_cons h2 ref_nil)⟩⟩
theorem de_sum {p} (hm : X.mg "sum" = none) (ha : DE X x e ae) (hc : X.calm = true := by rfl) (hg : Gl X "sum" := by rfl) (hs : starEach [e] X.env = (false, eval e X.env) :: starEach [] X.env := by rfl) (hpl : (backTo pos (starEach [] X.env)).any (·.1) = false := by rfl) : DE X x (.Call (.Name "sum" p) [e] [] pos) (aCB cSum (aCons ae aNil)) := by
  obtain ⟨t, h1, h2⟩ := ha
  exact ⟨⟨_, pe_callB (cr_sum hc) hg hm (by decide +kernel) (pa_cons h1 pa_nil hs) (by decide) (by decide) hs hpl, ref_cb rc_sum (ref_cons h2 ref_nil)⟩⟩
theorem de_list {p} (hm : X.mg "list" = none) (ha : DE X x e ae) (hg : Gl X "list" := by rfl) (hs : starEach [e] X.env = (false, eval e X.env) :: starEach [] X.env := by rfl) (hpl : (backTo pos (starEach [] X.env)).any (·.1) = false := by rfl) : DE X x (.Call (.Name "list" p) [e] [] pos) (aCB cList (aCons ae aNil)) := by
  obtain ⟨t, h1, h2⟩ := ha
  exact ⟨⟨_, pe_callTy call_list_of hg hm (by decide +kernel) (pa_cons h1 pa_nil hs) (by decide) (by decide) hs hpl, ref_cb rc_list (ref_cons h2 ref_nil)⟩⟩
theorem de_listO {p} (hm : X.mg "list" = none) (ha : DE X x e ae) (hg : Gl X "list" := by rfl) (hs : starEach [e] X.env = (false, eval e X.env) :: starEach [] X.env := by rfl) (hpl : (backTo pos (starEach [] X.env)).any (·.1) = false := by rfl) : DE X x (.Call (.Name "list" p) [e] [] pos) (aListO ae) := by
  obtain ⟨t, h1, h2⟩ := ha
  exact ⟨⟨_, pe_callTy call_list_of hg hm (by decide +kernel) (pa_cons h1 pa_nil hs) (by decide) (by decide) hs hpl, ref_listO h2⟩⟩
theorem de_max {p} (hm : X.mg "max" = none) (ha : DE X x a aa) (hb : DE X x b ab) (hc : X.calm = true := by rfl) (hg : Gl X "max" := by rfl) (hs : starEach [a, b] X.env = (false, eval a X.env) :: starEach [b] X.env := by rfl) (hs2 : starEach [b] X.env = (false, eval b X.env) :: starEach [] X.env := by rfl) (hpl : (backTo pos (starEach [b] X.env)).any (·.1) = false := by rfl) : DE X x (.Call (.Name "max" p) [a, b] [] pos) (aCB cMax (aCons aa (aCons ab aNil))) := by
  obtain ⟨t, h1, h2⟩ := ha
  obtain ⟨u, h3, h4⟩ := hb
  exact ⟨⟨_, pe_callB (call_max2 hc) hg hm (by decide +kernel) (pa_cons h1 (pa_cons h3 pa_nil hs2) hs) (by decide) (by decide) hs hpl, ref_cb rc_max (ref_cons h2 (ref_cons h4 ref_nil))⟩⟩
/-! ### slices, texts -/
theorem do_no : DO X x none aNoP := ⟨⟨_, po_none, ref_noP⟩⟩
theorem do_at (ha : DE X x e ae) : DO X x (some e) (aPart ae) := by
  obtain ⟨t, h1, h2⟩ := ha
  exact ⟨⟨_, po_some h1, ref_part h2⟩⟩
theorem de_sl {lo hi : Option Expr} {al ah : AO} {p2} (ha : DE X x e ae) (hl : DO X x lo al) (hh : DO X x hi ah) : DE X x (.Subscript e (.Slice lo hi none p2) pos) (aSl ae al ah) := by
  obtain ⟨t, h1, h2⟩ := ha
  obtain ⟨u, h3, h4⟩ := hl
  obtain ⟨v, h5, h6⟩ := hh
  exact ⟨⟨_, pe_slice sl_list h1 h3 h5, ref_sl h2 h4 h6⟩⟩
theorem de_fmt (ha : DE X x e ae) : DE X x (.FormattedValue e (-1) none pos) (aFmt ae) := by
  obtain ⟨t, h1, h2⟩ := ha
  exact ⟨⟨_, pe_fmt h1, ref_fmt h2⟩⟩
/-- the parts of a text put together -/
structure DJ (X : Cx) (x : XW) (es : List Expr) (l : List AE) : Prop where
  ex : ∃ ts, PJ X es ts ∧ Paired (fun t a => RefE X.K x t a) ts l
theorem dj_nil : DJ X x [] [] := ⟨⟨[], .nil, .nil⟩⟩
theorem dj_cons {l : List AE} (ha : DE X x e ae) (hr : DJ X x es l) : DJ X x (e :: es) (ae :: l) := by
  obtain ⟨t, h1, h2⟩ := ha
  obtain ⟨u, h3, h4⟩ := hr
  exact ⟨⟨_, .cons h1 h3, .cons h2 h4⟩⟩
theorem de_join {l : List AE} (h : DJ X x (a :: b :: es) l) : DE X x (.JoinedStr (a :: b :: es) pos) (aJoin l) := by
  obtain ⟨t, h1, h2⟩ := h
  exact ⟨⟨_, pe_joined h1, ref_join h2⟩⟩
/-! ### tests -/
theorem dt_of (h : DE X x e ae) (he : ∀ whole, isTrue e X.env whole = (do let v ← whole; standAt e.pos; holding [v] (truthy v)) := by intro _; rfl) : DT X x e (aB ae) := by
  obtain ⟨t, h1, h2⟩ := h
  exact ⟨⟨_, pt_val h1 he, ref_tB h2⟩⟩
theorem dt_lt (ha : DE X x a aa) (hb : DE X x b ab) : DT X x (.Compare a [.Lt] [b] pos) (aB (aOp oLt aa ab)) := by
  obtain ⟨t, h1, h2⟩ := ha
  obtain ⟨u, h3, h4⟩ := hb
  exact ⟨⟨_, pt_cmpR op_lt h1 h3 (nomark _), ref_test (ref_op r2_lt h2 h4)⟩⟩
theorem dt_le (ha : DE X x a aa) (hb : DE X x b ab) : DT X x (.Compare a [.LtE] [b] pos) (aB (aOp oLe aa ab)) := by
  obtain ⟨t, h1, h2⟩ := ha
  obtain ⟨u, h3, h4⟩ := hb
  exact ⟨⟨_, pt_cmpR op_le h1 h3 (nomark _), ref_test (ref_op r2_le h2 h4)⟩⟩
theorem dt_gt (ha : DE X x a aa) (hb : DE X x b ab) : DT X x (.Compare a [.Gt] [b] pos) (aB (aOp oGt aa ab)) := by
  obtain ⟨t, h1, h2⟩ := ha
  obtain ⟨u, h3, h4⟩ := hb
  exact ⟨⟨_, pt_cmpR op_gt h1 h3 (nomark _), ref_test (ref_op r2_gt h2 h4)⟩⟩
theorem dt_ge (ha : DE X x a aa) (hb : DE X x b ab) : DT X x (.Compare a [.GtE] [b] pos) (aB (aOp oGe aa ab)) := by
  obtain ⟨t, h1, h2⟩ := ha
  obtain ⟨u, h3, h4⟩ := hb
  exact ⟨⟨_, pt_cmpR op_ge h1 h3 (nomark _), ref_test (ref_op r2_ge h2 h4)⟩⟩
theorem dt_eq {k : Nat} (hr : Room k X.A) (ha : DE X x a aa) (hb : DE X x b ab) : DT X x (.Compare a [.Eq] [b] pos) (aB (aOp oEq aa ab)) := by
  obtain ⟨t, h1, h2⟩ := ha
  obtain ⟨u, h3, h4⟩ := hb
  exact ⟨⟨_, pt_cmpR (opr_or op_eq (op_eqD hr.units)) h1 h3 (nomark _), ref_test (ref_op r2_eq h2 h4)⟩⟩
theorem dt_ne (ha : DE X x a aa) (hb : DE X x b ab) : DT X x (.Compare a [.NotEq] [b] pos) (aB (aOp oNe aa ab)) := by
  obtain ⟨t, h1, h2⟩ := ha
  obtain ⟨u, h3, h4⟩ := hb
  exact ⟨⟨_, pt_cmpR op_ne h1 h3 (nomark _), ref_test (ref_op r2_ne h2 h4)⟩⟩
theorem dt_not {ta : AT} (ha : DT X x a ta) : DT X x (.UnaryOp .Not a pos) (aNot ta) := by
  obtain ⟨t, h1, h2⟩ := ha
  exact ⟨⟨_, pt_not h1, ref_not h2⟩⟩
theorem dw_and1 {ta : AT} (ha : DT X x a ta) : DW X x (.BoolOp .And [a] pos) ta := by
  obtain ⟨t, h1, h2⟩ := ha
  exact ⟨⟨_, pw_and1 h1, h2⟩⟩
theorem dw_or1 {ta : AT} (ha : DT X x a ta) : DW X x (.BoolOp .Or [a] pos) ta := by
  obtain ⟨t, h1, h2⟩ := ha
  exact ⟨⟨_, pw_or1 h1, h2⟩⟩
theorem dw_and {ta tb : AT} (ha : DT X x a ta) (hb : DW X x (.BoolOp .And (b :: es) pos) tb) : DW X x (.BoolOp .And (a :: b :: es) pos) (aAnd ta tb) := by
  obtain ⟨t, h1, h2⟩ := ha
  obtain ⟨u, h3, h4⟩ := hb
  exact ⟨⟨_, pw_and h1 h3, ref_and h2 h4⟩⟩
theorem dw_or {ta tb : AT} (ha : DT X x a ta) (hb : DW X x (.BoolOp .Or (b :: es) pos) tb) : DW X x (.BoolOp .Or (a :: b :: es) pos) (aOr ta tb) := by
  obtain ⟨t, h1, h2⟩ := ha
  obtain ⟨u, h3, h4⟩ := hb
  exact ⟨⟨_, pw_or h1 h3, ref_or h2 h4⟩⟩
theorem dt_w {ta : AT} (ha : DW X x a ta) : DT X x a ta := by
  obtain ⟨t, h1, h2⟩ := ha
  exact ⟨⟨_, h1.pt, h2⟩⟩
theorem de_one {op} (h : DE X x a aa) : DE X x (.BoolOp op [a] pos) aa := by
  obtain ⟨t, h1, h2⟩ := h
  exact ⟨⟨_, pe_one h1, h2⟩⟩
theorem de_and (ha : DE X x a aa) (hb : DE X x (.BoolOp .And (b :: es) pos) ab) : DE X x (.BoolOp .And (a :: b :: es) pos) (aAndV aa ab) := by
  obtain ⟨t, h1, h2⟩ := ha
  obtain ⟨u, h3, h4⟩ := hb
  exact ⟨⟨_, pe_and h1 h3, ref_andV h2 h4⟩⟩
theorem de_or (ha : DE X x a aa) (hb : DE X x (.BoolOp .Or (b :: es) pos) ab) : DE X x (.BoolOp .Or (a :: b :: es) pos) (aOrV aa ab) := by
  obtain ⟨t, h1, h2⟩ := ha
  obtain ⟨u, h3, h4⟩ := hb
  exact ⟨⟨_, pe_or h1 h3, ref_orV h2 h4⟩⟩
/-! ### targets -/
theorem dg_nm (i : Nat) {n : Str} (hN : X.N.Nodup) (hi : X.N[i]? = some n := by rfl) (hx : Loc X.env.scope n := by first | exact Or.inl rfl | exact Or.inr rfl) (hf : X.fn n = true ∨ X.env.scope.names.lookup n = some .local := by first | exact .inl rfl | exact .inr rfl) : DG X x (.Name n pos) (gNm i) :=
  ⟨⟨_, pg_name hN hi hx hf, rg_nm i⟩⟩
theorem dgs_nil : DGs X x [] gN0 := ⟨⟨_, pgs_nil, rg_0⟩⟩
theorem dgs_cons {g : AG} {r : AGs} (h1 : DG X x e g) (h2 : DGs X x es r) (hs : (assignEach (e :: es) X.env).map (·.2) = assign e X.env :: (assignEach es X.env).map (·.2) := by rfl) : DGs X x (e :: es) (gC1 g r) := by
  obtain ⟨t, a1, a2⟩ := h1
  obtain ⟨u, b1, b2⟩ := h2
  exact ⟨⟨_, pgs_cons a1 b1 hs, rg_1 a2 b2⟩⟩
theorem dg_tp {k n : Nat} {g : AGs} (h : DGs X x es g) (hc : X.calm = true := by rfl) (hn : (assignEach es X.env).length = n := by rfl) (hst : (assignEach es X.env).findIdx? (·.1) = none := by rfl) : DG X x (.Tuple es k pos) (gTp n g) := by
  obtain ⟨t, h1, h2⟩ := h
  exact ⟨⟨_, pg_tup hc h1 hn hst, rg_tp h2⟩⟩
theorem dg_ix (ha : DE X x a aa) (hb : DE X x b ab) (hs : ∀ v, assign (.Subscript a b pos) X.env v = (do
      let ov ← holding [v] (eval a X.env)
      let iv ← holding [v, ov] (eval b X.env)
      standAt pos
      holding [v, ov, iv] (setItem ov iv v)
      release [v, ov, iv] []) := by intro _; rfl) : DG X x (.Subscript a b pos) (gIx aa ab) := by
  obtain ⟨t, h1, h2⟩ := ha
  obtain ⟨u, h3, h4⟩ := hb
  exact ⟨⟨_, pg_sub h1 h3 set_list hs, rg_ix h2 h4⟩⟩
/-! ### statements -/
section
variable {st : Stmt} {sts : List Stmt} {s t : AS}
theorem dss_nil : DSs X x [] sNext := ⟨⟨_, pss_nil, rs_next⟩⟩
theorem dss_cons (h1 : DS X x st s) (h2 : DSs X x sts t) : DSs X x (st :: sts) (sSeq s t) := by
  obtain ⟨u, a1, a2⟩ := h1
  obtain ⟨v, b1, b2⟩ := h2
  exact ⟨⟨_, pss_cons a1 b1, rs_seq a2 b2⟩⟩
theorem dss_one (h1 : DS X x st s) : DSs X x [st] s := by
  obtain ⟨u, a1, a2⟩ := h1
  exact ⟨⟨_, pss_one a1, a2⟩⟩
theorem ds_ret (h : DE X x e ae) : DS X x (.Return (some e) pos) (sRet ae) := by
  obtain ⟨t, h1, h2⟩ := h
  exact ⟨⟨_, ps_ret h1, rs_ret h2⟩⟩
theorem ds_expr (h : DE X x e ae) (hs : swapsWith e none pos.line X.env = pure false := by rfl) : DS X x (.Expr e pos) (sDrop ae) := by
  obtain ⟨t, h1, h2⟩ := h
  exact ⟨⟨_, ps_expr h1 hs, rs_drop h2⟩⟩
theorem ds_asg {tg : Expr} {g : AG} (h : DE X x e ae) (hg : DG X x tg g) (hs : swapsWithSole [tg] e pos.line X.env = pure false := by rfl) (hw : swappedStores [tg] e X.env = pure none := by rfl) (ho : (assignEach [tg] X.env).map (·.2) = [assign tg X.env] := by rfl) : DS X x (.Assign [tg] e pos) (sAsg ae g) := by
  obtain ⟨t, h1, h2⟩ := h
  obtain ⟨u, h3, h4⟩ := hg
  exact ⟨⟨_, ps_asg h1 h3 hs hw ho, rs_asg h2 h4⟩⟩
theorem ds_set (i : Nat) {n : Str} {pos' : Pos} (hN : X.N.Nodup) (h : DE X x e ae) (hi : X.N[i]? = some n := by rfl) (hx : Loc X.env.scope n := by first | exact Or.inl rfl | exact Or.inr rfl) (hs : swapsWith e (some (.Name n pos')) pos.line X.env = pure false := by rfl) (hf : X.fn n = true ∨ X.env.scope.names.lookup n = some .local := by first | exact .inl rfl | exact .inr rfl) :
    DS X x (.Assign [.Name n pos'] e pos) (sAsg ae (gNm i)) := by
  obtain ⟨t, h1, h2⟩ := h
  exact ⟨⟨_, ps_set hN hi hx h1 hs hf, rs_asg h2 (rg_nm i)⟩⟩
theorem ds_fld {C : Addr} {ns : List Str} (i : Nat) {f : Str} {o : Expr} {ao : AE} {pos' : Pos} (c : ClsF X.K C ns) (ho : DE X x o ao) (h : DE X x e ae) (hf : ns[i]? = some f := by rfl) (hs : swapsWith e (some (.Attribute o f pos')) pos.line X.env = pure false := by rfl) : DS X x (.Assign [.Attribute o f pos'] e pos) (sFldA C ns i f ao ae) := by
  obtain ⟨t, h1, h2⟩ := h
  obtain ⟨u, h3, h4⟩ := ho
  exact ⟨⟨_, ps_fld h3 h1 hs, rs_fldA c.c (c.at_ hf) c.nd hf h4 h2⟩⟩
theorem ds_if {c : Expr} {ta : AT} (hc : DT X x c ta) (ha : DSs X x sts s) {sts2 : List Stmt} (hb : DSs X x sts2 t) : DS X x (.If c sts sts2 pos) (sIf ta s t) := by
  obtain ⟨u, a1, a2⟩ := hc
  obtain ⟨v, b1, b2⟩ := ha
  obtain ⟨z, c1, c2⟩ := hb
  exact ⟨⟨_, ps_if a1 b1 c1, rs_if a2 b2 c2⟩⟩
theorem ds_for {tg it : Expr} {i : AI} {g : AG} (hp : PassesOwn (model X.prog X.w) X.A X.env X.xe) (hi : DI X x tg it i) (hg : DG X x tg g) (hb : DSs X x sts s) (hc : X.calm = true := by rfl) (hs : ∀ x, foldedSetIterable it X.env x = pure x := by intro _; rfl) : DS X x (.For tg it sts [] pos) (sFor i g s) := by
  obtain ⟨u, a1, a2⟩ := hi
  obtain ⟨v, b1, b2⟩ := hg
  obtain ⟨z, c1, c2⟩ := hb
  exact ⟨⟨_, ps_for hp hc a1 b1 c1 hs, rs_for a2 b2 c2⟩⟩
theorem ds_while {c : Expr} {ta : AT} (hp : PassesOwn (model X.prog X.w) X.A X.env X.xe) (hc : DT X x c ta) (hb : DSs X x sts s) : DS X x (.While c sts [] pos) (sWhile ta s) := by
  obtain ⟨u, a1, a2⟩ := hc
  obtain ⟨z, c1, c2⟩ := hb
  exact ⟨⟨_, ps_while hp a1 c1, rs_while a2 c2⟩⟩
end
end
end Hd
end

section
set_option maxHeartbeats 4000000
/-! # Hd: methods of lists, iterators, comprehensions, calls, as one writes them -/
namespace Hd
open PySem PySem.Spec PyProof.Rows L2
section
variable {X : Cx} {x : XW} {o e a b c : Expr} {es : List Expr} {ao ae aa ab ac : AE} {al : AA} {pos p apos : Pos}
theorem ds_app (ho : DE X x o ao) (he : DE X x e ae) {q : Pos}
    (hbase : attributeBase o "append" X.env (eval o X.env) = eval o X.env := by rfl)
    (hfew : ((backTo q (starEach [e] X.env)).all (fun x => !x.1) && (backToKw q (keywordEach [] X.env)).all (fun x => x.1.isSome)
      && decide ([e].length + ([] : List Keyword).length + (if ([] : List Keyword).isEmpty then 0 else 1) < 30)) = true := by rfl)
    (hline : (apos.endLine == q.line) = true := by rfl) (hs : starEach [e] X.env = (false, eval e X.env) :: starEach [] X.env := by rfl) (hplain : (backTo q (starEach [] X.env)).any (·.1) = false := by rfl)
    (hw : swapsWith (.Call (.Attribute o "append" apos) [e] [] q) none pos.line X.env = pure false := by rfl) : DS X x (.Expr (.Call (.Attribute o "append" apos) [e] [] q) pos) (sApp ao ae) := by
  obtain ⟨t, h1, h2⟩ := ho
  obtain ⟨u, h3, h4⟩ := he
  exact ⟨⟨_, ps_expr (pe_bm PySem.F.plainAttrs_list PySem.F.slot_list_append PySem.F.type_list_append mt_append h1 (pa_cons h3 pa_nil hs) hbase hfew hline hs hplain) hw, rs_app h2 h4⟩⟩
theorem ds_ext (ho : DE X x o ao) (he : DE X x e ae) {q : Pos}
    (hbase : attributeBase o "extend" X.env (eval o X.env) = eval o X.env := by rfl)
    (hfew : ((backTo q (starEach [e] X.env)).all (fun x => !x.1) && (backToKw q (keywordEach [] X.env)).all (fun x => x.1.isSome)
      && decide ([e].length + ([] : List Keyword).length + (if ([] : List Keyword).isEmpty then 0 else 1) < 30)) = true := by rfl)
    (hline : (apos.endLine == q.line) = true := by rfl) (hs : starEach [e] X.env = (false, eval e X.env) :: starEach [] X.env := by rfl) (hplain : (backTo q (starEach [] X.env)).any (·.1) = false := by rfl)
    (hw : swapsWith (.Call (.Attribute o "extend" apos) [e] [] q) none pos.line X.env = pure false := by rfl) : DS X x (.Expr (.Call (.Attribute o "extend" apos) [e] [] q) pos) (sExt ao ae) := by
  obtain ⟨t, h1, h2⟩ := ho
  obtain ⟨u, h3, h4⟩ := he
  exact ⟨⟨_, ps_expr (pe_bm PySem.F.plainAttrs_list PySem.F.slot_list_extend PySem.F.type_list_extend mt_extend h1 (pa_cons h3 pa_nil hs) hbase hfew hline hs hplain) hw, rs_ext h2 h4⟩⟩
/-! ### iterators -/
variable {tg : Expr}
theorem di_list (h : DE X x e ae) : DI X x tg e (iListA ae) := by
  obtain ⟨t, h1, h2⟩ := h
  exact ⟨⟨_, pi_list h1, ref_iList h2⟩⟩
theorem di_str (h : DE X x e ae) : DI X x tg e (iStrA ae) := by
  obtain ⟨t, h1, h2⟩ := h
  exact ⟨⟨_, pi_str h1, ref_iStr h2⟩⟩
theorem di_rev (hm : X.mg "reversed" = none) (h : DE X x e ae) (hg : Gl X "reversed" := by rfl) (hs : starEach [e] X.env = [(false, eval e X.env)] := by rfl) : DI X x tg (.Call (.Name "reversed" p) [e] [] pos) (iRevA' ae) := by
  obtain ⟨t, h1, h2⟩ := h
  exact ⟨⟨_, pi_reversed hg hm (pa_cons h1 pa_nil hs) hs, ref_iRev h2⟩⟩
theorem di_rng1 (hm : X.mg "range" = none) (h : DE X x e ae) (hg : Gl X "range" := by rfl) (hs : starEach [e] X.env = [(false, eval e X.env)] := by rfl) : DI X x tg (.Call (.Name "range" p) [e] [] pos) (iRng1A ae) := by
  obtain ⟨t, h1, h2⟩ := h
  exact ⟨⟨_, pi_range1 hg hm (pa_cons h1 pa_nil hs) hs, ref_iRng1 h2⟩⟩
theorem di_rng2 (hm : X.mg "range" = none) (h : DE X x a aa) (k : DE X x b ab) (hg : Gl X "range" := by rfl) (hs : starEach [a, b] X.env = [(false, eval a X.env), (false, eval b X.env)] := by rfl) (hs2 : starEach [b] X.env = [(false, eval b X.env)] := by rfl) : DI X x tg (.Call (.Name "range" p) [a, b] [] pos) (iRng2A aa ab) := by
  obtain ⟨t, h1, h2⟩ := h
  obtain ⟨u, h3, h4⟩ := k
  exact ⟨⟨_, pi_range2 hg hm (pa_cons h1 (pa_cons h3 pa_nil hs2) (by rw [hs, hs2])) hs hs2, ref_iRng2 h2 h4⟩⟩
theorem di_rngD (hm : X.mg "range" = none) (h : DE X x a aa) (k : DE X x b ab) (l : DE X x c ac) (hg : Gl X "range" := by rfl)
    (hs : starEach [a, b, c] X.env = (false, eval a X.env) :: starEach [b, c] X.env := by rfl) (hs2 : starEach [b, c] X.env = (false, eval b X.env) :: starEach [c] X.env := by rfl) (hs3 : starEach [c] X.env = [(false, eval c X.env)] := by rfl) (hpl : (backTo pos (starEach [b, c] X.env)).any (·.1) = false := by rfl) : DI X x tg (.Call (.Name "range" p) [a, b, c] [] pos) (iRngD aa ab ac) := by
  obtain ⟨t, h1, h2⟩ := h
  obtain ⟨u, h3, h4⟩ := k
  obtain ⟨v, h5, h6⟩ := l
  exact ⟨⟨_, pi_range3 hg hm (pa_cons h1 (pa_cons h3 (pa_cons h5 pa_nil hs3) hs2) hs) hs hpl, ref_iRngD h2 h4 h6⟩⟩
theorem di_enum {es : List Expr} {k : Nat} {tp : Pos} (hm : X.mg "enumerate" = none) (h : DE X x e ae) (hg : Gl X "enumerate" := by rfl) (hs : starEach [e] X.env = [(false, eval e X.env)] := by rfl) : DI X x (.Tuple es k tp) (.Call (.Name "enumerate" p) [e] [] pos) (iEnumA ae) := by
  obtain ⟨t, h1, h2⟩ := h
  exact ⟨⟨_, pi_enum hg hm (pa_cons h1 pa_nil hs) hs, ref_iEnum h2⟩⟩
theorem di_zip {es : List Expr} {k : Nat} {tp : Pos} (hm : X.mg "zip" = none) (h : DE X x a aa) (k1 : DE X x b ab) (hg : Gl X "zip" := by rfl) (hs : starEach [a, b] X.env = (false, eval a X.env) :: starEach [b] X.env := by rfl) (hs2 : starEach [b] X.env = (false, eval b X.env) :: starEach [] X.env := by rfl) (hpl : (backTo pos (starEach [b] X.env)).any (·.1) = false := by rfl) : DI X x (.Tuple es k tp) (.Call (.Name "zip" p) [a, b] [] pos) (iZipA aa ab) := by
  obtain ⟨t, h1, h2⟩ := h
  obtain ⟨u, h3, h4⟩ := k1
  exact ⟨⟨_, pi_zip hg hm (pa_cons h1 (pa_cons h3 pa_nil hs2) hs) hs hpl, ref_iZip h2 h4⟩⟩
/-! ### comprehensions -/
/-- a block's expression, in whatever frame the block runs -/
theorem blk_e {X : Cx} {x : XW} {scope : Scope} {elt : Expr} {ae : AE} (he : ∀ (s : Shared) (H : Hp) (C : Addr) (cl : List (Str × Addr)) (fp : List Addr), DE (X.blk s H scope (compEnvC scope cl C X.env) fp) x elt ae) :
    ∃ te, (∀ (s : Shared) (H : Hp) (C : Addr) (cl : List (Str × Addr)) (fp : List Addr), PE (X.blk s H scope (compEnvC scope cl C X.env) fp) elt te) ∧ (∀ (s : Shared) (H : Hp) (C : Addr) (cl : List (Str × Addr)) (fp : List Addr), True) ∧ RefE X.K x te ae := by
  refine ⟨fun σ H Q => ∀ (s : Shared) (H0 : Hp) (C : Addr) (cl : List (Str × Addr)) (fp : List Addr) (t : TE), PE (X.blk s H0 scope (compEnvC scope cl C X.env) fp) elt t → RefE X.K x t ae → t σ H Q, fun s H C cl fp => ?_, fun _ _ _ _ _ => trivial, fun G σ W H S AQ Q n h k s H0 C cl fp t h1 h2 => h2 G σ W H S AQ Q n h k⟩
  obtain ⟨t, h1, h2⟩ := he s H C cl fp
  exact ⟨fun pins s' σ H' Q I hq => h1.run pins s' σ H' Q I (hq s H C cl fp t h1 h2)⟩
theorem blk_t {X : Cx} {x : XW} {scope : Scope} {c : Expr} {at_ : AT} (he : ∀ (s : Shared) (H : Hp) (C : Addr) (cl : List (Str × Addr)) (fp : List Addr), DT (X.blk s H scope (compEnvC scope cl C X.env) fp) x c at_) :
    ∃ tt, (∀ (s : Shared) (H : Hp) (C : Addr) (cl : List (Str × Addr)) (fp : List Addr), PT (X.blk s H scope (compEnvC scope cl C X.env) fp) c tt) ∧ RefT X.K x tt at_ := by
  refine ⟨fun σ H Q => ∀ (s : Shared) (H0 : Hp) (C : Addr) (cl : List (Str × Addr)) (fp : List Addr) (t : TT), PT (X.blk s H0 scope (compEnvC scope cl C X.env) fp) c t → RefT X.K x t at_ → t σ H Q, fun s H C cl fp => ?_, fun G σ W H S AQ Q n h k s H0 C cl fp t h1 h2 => h2 G σ W H S AQ Q n h k⟩
  obtain ⟨t, h1, h2⟩ := he s H C cl fp
  exact ⟨fun pins s' σ H' Q I hq => h1.run pins s' σ H' Q I (hq s H C cl fp t h1 h2)⟩
/-- one for over a name, no test -/
theorem de_lc {elt iter : Expr} {scope : Scope} (own : List (Str × Nat)) (i : Nat) {n : Str} {np : Pos} {ai : AI} (hN : X.N.Nodup) (ok : BlkOk X.N X.env.scope scope own) (hi : DI X x (.Name n np) iter ai)
    (hg : ∀ (s : Shared) (H : Hp) (C : Addr) (cl : List (Str × Addr)) (fp : List Addr), PG (X.blk s H scope (compEnvC scope cl C X.env) fp) (.Name n np) (gName i))
    (he : ∀ (s : Shared) (H : Hp) (C : Addr) (cl : List (Str × Addr)) (fp : List Addr), DE (X.blk s H scope (compEnvC scope cl C X.env) fp) x elt ae)
    (ho : i ∈ own.map (·.2) := by decide) (hc : X.calm = true := by rfl) (hs : ∀ x, foldedSetIterable iter X.env x = pure x := by intro _; rfl) : DE X x (.ListComp elt [⟨.Name n np, iter, [], 0⟩] scope pos) (aLc ai (gNm i) aYes ae (own.map (·.2))) := by
  obtain ⟨t, h1, h2⟩ := hi
  obtain ⟨te, h3, _, h4⟩ := blk_e he
  exact ⟨⟨_, pe_lc hc hN h1 ok hg (fun _ _ _ _ _ => pts_nil) h3 hs, ref_lc h2 (rg_nm i) (own_nm ho) ref_yes h4⟩⟩
/-- .. with a test -/
theorem de_lcT {elt iter c : Expr} {scope : Scope} (own : List (Str × Nat)) (i : Nat) {n : Str} {np : Pos} {ai : AI} {at_ : AT} (hN : X.N.Nodup) (ok : BlkOk X.N X.env.scope scope own) (hi : DI X x (.Name n np) iter ai)
    (hg : ∀ (s : Shared) (H : Hp) (C : Addr) (cl : List (Str × Addr)) (fp : List Addr), PG (X.blk s H scope (compEnvC scope cl C X.env) fp) (.Name n np) (gName i))
    (ht : ∀ (s : Shared) (H : Hp) (C : Addr) (cl : List (Str × Addr)) (fp : List Addr), DT (X.blk s H scope (compEnvC scope cl C X.env) fp) x c at_)
    (he : ∀ (s : Shared) (H : Hp) (C : Addr) (cl : List (Str × Addr)) (fp : List Addr), DE (X.blk s H scope (compEnvC scope cl C X.env) fp) x elt ae)
    (ho : i ∈ own.map (·.2) := by decide) (hc : X.calm = true := by rfl) (hs : ∀ x, foldedSetIterable iter X.env x = pure x := by intro _; rfl) : DE X x (.ListComp elt [⟨.Name n np, iter, [c], 0⟩] scope pos) (aLc ai (gNm i) at_ ae (own.map (·.2))) := by
  obtain ⟨t, h1, h2⟩ := hi
  obtain ⟨te, h3, _, h4⟩ := blk_e he
  obtain ⟨tt, h5, h6⟩ := blk_t ht
  exact ⟨⟨_, pe_lc hc hN h1 ok hg (fun s H C cl fp => pts_one (h5 s H C cl fp)) h3 hs, ref_lc h2 (rg_nm i) (own_nm ho) h6 h4⟩⟩
/-- name = [..], one for over a name -/
theorem ds_setLc (k : Nat) {y : Str} {py spos : Pos} {elt iter : Expr} {scope : Scope} (own : List (Str × Nat)) (i : Nat) {n : Str} {np : Pos} {ai : AI} (hN : X.N.Nodup) (hyl : X.env.scope.names.lookup y = some .local)
    (hsw : swapsWith (.ListComp elt [⟨.Name n np, iter, [], 0⟩] scope pos) (some (.Name y py)) spos.line X.env = pure true) (ok : BlkOk X.N X.env.scope scope own) (hi : DI X x (.Name n np) iter ai)
    (hg : ∀ (s : Shared) (H : Hp) (C : Addr) (cl : List (Str × Addr)) (fp : List Addr), PG (X.blk s H scope (compEnvC scope cl C X.env) fp) (.Name n np) (gName i))
    (he : ∀ (s : Shared) (H : Hp) (C : Addr) (cl : List (Str × Addr)) (fp : List Addr), DE (X.blk s H scope (compEnvC scope cl C X.env) fp) x elt ae)
    (hy : X.N[k]? = some y := by rfl) (ho : i ∈ own.map (·.2) := by decide) (hc : X.calm = true := by rfl) (hs : ∀ x, foldedSetIterable iter X.env x = pure x := by intro _; rfl) : DS X x (.Assign [.Name y py] (.ListComp elt [⟨.Name n np, iter, [], 0⟩] scope pos) spos) (sAsg (aLc ai (gNm i) aYes ae (own.map (·.2))) (gNm k)) := by
  obtain ⟨t, h1, h2⟩ := hi
  obtain ⟨te, h3, _, h4⟩ := blk_e he
  exact ⟨⟨_, L2.ps_setLc hc hN hy hyl hsw h1 ok hg (fun _ _ _ _ _ => pts_nil) h3 hs, rs_asg (ref_lc h2 (rg_nm i) (own_nm ho) ref_yes h4) (rg_nm k)⟩⟩
/-- .. over a pair of names -/
theorem ds_setLc2 (k : Nat) {y : Str} {py spos : Pos} {elt iter : Expr} {scope : Scope} (own : List (Str × Nat)) (i j : Nat) {tgs : List Expr} {kk : Nat} {np : Pos} {ai : AI} (hN : X.N.Nodup) (hyl : X.env.scope.names.lookup y = some .local)
    (hsw : swapsWith (.ListComp elt [⟨.Tuple tgs kk np, iter, [], 0⟩] scope pos) (some (.Name y py)) spos.line X.env = pure true) (ok : BlkOk X.N X.env.scope scope own) (hi : DI X x (.Tuple tgs kk np) iter ai)
    (hg : ∀ (s : Shared) (H : Hp) (C : Addr) (cl : List (Str × Addr)) (fp : List Addr), PG (X.blk s H scope (compEnvC scope cl C X.env) fp) (.Tuple tgs kk np) (gTup X.K 2 (gCons (gName i) (gCons (gName j) gNil))))
    (he : ∀ (s : Shared) (H : Hp) (C : Addr) (cl : List (Str × Addr)) (fp : List Addr), DE (X.blk s H scope (compEnvC scope cl C X.env) fp) x elt ae)
    (hy : X.N[k]? = some y := by rfl) (ho : i ∈ own.map (·.2) := by decide) (ho2 : j ∈ own.map (·.2) := by decide) (hc : X.calm = true := by rfl) (hs : ∀ x, foldedSetIterable iter X.env x = pure x := by intro _; rfl) : DS X x (.Assign [.Name y py] (.ListComp elt [⟨.Tuple tgs kk np, iter, [], 0⟩] scope pos) spos) (sAsg (aLc ai (gTp 2 (gC1 (gNm i) (gC1 (gNm j) gN0))) aYes ae (own.map (·.2))) (gNm k)) := by
  obtain ⟨t, h1, h2⟩ := hi
  obtain ⟨te, h3, _, h4⟩ := blk_e he
  exact ⟨⟨_, L2.ps_setLc hc hN hy hyl hsw h1 ok hg (fun _ _ _ _ _ => pts_nil) h3 hs, rs_asg (ref_lc h2 (rg_tp (rg_1 (rg_nm i) (rg_1 (rg_nm j) rg_0))) (own_tp2 ho ho2) ref_yes h4) (rg_nm k)⟩⟩
/-! ### calls -/
section
variable {k j : Nat} {n : Str} {ps : List Str}
theorem de_callP {pf : List D → (D → Prop) → Prop} (F : Cal X.prog X.w X.K X.mg X.base CX0 k n ps (pureSp pf)) (hr : Room k X.A) (ha : DA X x (e :: es) al) (hg : Gl X n := by rfl) (hdb : (n == ("__debug__" : Str)) = false := by decide)
    (he : starEach (e :: es) X.env = (false, eval e X.env) :: starEach es X.env := by rfl) (hpl : (backTo pos (starEach es X.env)).any (·.1) = false := by rfl) : DE X x (.Call (.Name n p) (e :: es) [] pos) (aCallP pf al) := by
  obtain ⟨f, fd, F, hm, hk, hb⟩ := F
  obtain ⟨t, h1, h2⟩ := ha
  exact ⟨⟨_, pe_call F hr hg hm hk hb .nil pass0 h1 hdb he hpl, ref_callP h2⟩⟩
theorem de_callW {ap : ASp} (F : Cal X.prog X.w X.K X.mg X.base CX0 k n ps ap) (hr : Room k X.A) (ha : DA X x (e :: es) al) (hg : Gl X n := by rfl) (hdb : (n == ("__debug__" : Str)) = false := by decide)
    (he : starEach (e :: es) X.env = (false, eval e X.env) :: starEach es X.env := by rfl) (hpl : (backTo pos (starEach es X.env)).any (·.1) = false := by rfl) : DE X x (.Call (.Name n p) (e :: es) [] pos) (aCallW ap al) := by
  obtain ⟨f, fd, F, hm, hk, hb⟩ := F
  obtain ⟨t, h1, h2⟩ := ha
  exact ⟨⟨_, pe_call F hr hg hm hk hb .nil pass0 h1 hdb he hpl, ref_callW h2⟩⟩
theorem de_callX {pf : List D → (D → Prop) → (Addr → Str → Prop) → Prop} (F : Cal X.prog X.w X.K X.mg X.base (L2N.CX X.prog X.w) k n ps (pureX pf)) (hr : Room k X.A) (hx : Passes (L2N.CX X.prog X.w) X x.E) (ha : DA X x (e :: es) al) (hg : Gl X n := by rfl) (hdb : (n == ("__debug__" : Str)) = false := by decide)
    (he : starEach (e :: es) X.env = (false, eval e X.env) :: starEach es X.env := by rfl) (hpl : (backTo pos (starEach es X.env)).any (·.1) = false := by rfl) : DE X x (.Call (.Name n p) (e :: es) [] pos) (aCallX x pf al) := by
  obtain ⟨f, fd, F, hm, hk, hb⟩ := F
  obtain ⟨t, h1, h2⟩ := ha
  exact ⟨⟨_, pe_call F hr hg hm hk hb .nil hx h1 hdb he hpl, ref_callX h2⟩⟩
variable {C : Addr} {ns : List Str} {m : Str} {ap : ASp} {pl : Sem Bool}
theorem de_meth (c : ClsF X.K C ns) (F : Mal X.prog X.w X.K X.mg X.base CX0 k C m ps ap) (hr : Room k X.A) (ho : DE X x o ao) (ha : DA X x (e :: es) al) (hm : ∀ f ∈ ns, (m == f) = false)
    (hst : starEach (e :: es) X.env = (false, eval e X.env) :: starEach es X.env := by rfl) (hpl : (backTo pos (starEach es X.env)).any (·.1) = false := by rfl)
    (ht : eval (.Call (.Attribute o m apos) (e :: es) [] pos) X.env = (do
      let ov ← eval o X.env
      standAt apos.atName
      let (f, first) ← holding [ov] (getMethod ov m pl)
      callWith pos f first (backTo pos (starEach (e :: es) X.env)) (backToKw pos (keywordEach [] X.env))) := by rfl) : DE X x (.Call (.Attribute o m apos) (e :: es) [] pos) (aMeth C ns ap ao al) := by
  obtain ⟨f, fd, F, hM, hb⟩ := F
  obtain ⟨t, h1, h2⟩ := ha
  obtain ⟨u, h3, h4⟩ := ho
  refine ⟨⟨_, pe_meth h3 c.c hM F hr hb .nil pass0 h1 hst hpl ht, ref_meth (fun fs hf => ?_) h4 h2⟩⟩
  have q : ∀ l : List (Str × D), (∀ g ∈ l.map (·.1), (m == g) = false) → l.lookup m = none := by
    intro l
    induction l with
    | nil => intro _; rfl
    | cons z r ih =>
      intro h
      obtain ⟨g, d⟩ := z
      have h0 : (m == g) = false := h g List.mem_cons_self
      simp only [List.lookup, h0]
      exact ih fun g' hg' => h g' (List.mem_cons_of_mem _ hg')
  exact q fs fun g hg => hm g (by rw [hf] at hg; exact hg)
theorem de_meth0 (c : ClsF X.K C ns) (F : Mal X.prog X.w X.K X.mg X.base CX0 k C m ps ap) (hr : Room k X.A) (ho : DE X x o ao) (hm : ∀ f ∈ ns, (m == f) = false)
    (ht : eval (.Call (.Attribute o m apos) [] [] pos) X.env = (do
      let ov ← eval o X.env
      standAt apos.atName
      let (f, first) ← holding [ov] (getMethod ov m pl)
      callWith pos f first (backTo pos (starEach [] X.env)) (backToKw pos (keywordEach [] X.env))) := by rfl) : DE X x (.Call (.Attribute o m apos) [] [] pos) (aMeth C ns ap ao aNil) := by
  obtain ⟨f, fd, F, hM, hb⟩ := F
  obtain ⟨u, h3, h4⟩ := ho
  refine ⟨⟨_, pe_meth0 h3 c.c hM F hr hb .nil pass0 ht, ref_meth (fun fs hf => ?_) h4 ref_nil⟩⟩
  have q : ∀ l : List (Str × D), (∀ g ∈ l.map (·.1), (m == g) = false) → l.lookup m = none := by
    intro l
    induction l with
    | nil => intro _; rfl
    | cons z r ih =>
      intro h
      obtain ⟨g, d⟩ := z
      have h0 : (m == g) = false := h g List.mem_cons_self
      simp only [List.lookup, h0]
      exact ih fun g' hg' => h g' (List.mem_cons_of_mem _ hg')
  exact q fs fun g hg => hm g (by rw [hf] at hg; exact hg)
theorem de_make (F : Ial X.prog X.w X.K X.mg X.base CX0 k C ps ap) (hm : X.mg n = some (.ref C)) (hr : Room (k + 1) X.A) (ha : DA X x (e :: es) al) (hg : Gl X n := by rfl) (hdb : (n == ("__debug__" : Str)) = false := by decide)
    (he : starEach (e :: es) X.env = (false, eval e X.env) :: starEach es X.env := by rfl) (hpl : (backTo pos (starEach es X.env)).any (·.1) = false := by rfl) : DE X x (.Call (.Name n p) (e :: es) [] pos) (aMake C ap al) := by
  obtain ⟨f, fd, F, M, hb⟩ := F
  obtain ⟨t, h1, h2⟩ := ha
  exact ⟨⟨_, pe_make M F hr hg hm hb .nil pass0 h1 hdb he hpl, ref_make h2⟩⟩
theorem de_make0 (F : Ial X.prog X.w X.K X.mg X.base CX0 k C ps ap) (hm : X.mg n = some (.ref C)) (hr : Room (k + 1) X.A) (hg : Gl X n := by rfl) (hdb : (n == ("__debug__" : Str)) = false := by decide) : DE X x (.Call (.Name n p) [] [] pos) (aMake C ap aNil) := by
  obtain ⟨f, fd, F, M, hb⟩ := F
  exact ⟨⟨_, pe_make0 M F hr hg hm hb .nil pass0 hdb, ref_make ref_nil⟩⟩
theorem de_makeV (F : Ial X.prog X.w X.K X.mg X.base CX0 k C ps ap) (hm : X.mg n = some (.ref C)) (hr : Room (k + 1) X.A) (ha : DA X x (e :: es) al) (hg : Gl X n := by rfl) (hdb : (n == ("__debug__" : Str)) = false := by decide)
    (he : starEach (e :: es) X.env = (false, eval e X.env) :: starEach es X.env := by rfl) (hpl : (backTo pos (starEach es X.env)).any (·.1) = false := by rfl) : DE X x (.Call (.Name n p) (e :: es) [] pos) (aMakeV C ap al) := by
  obtain ⟨f, fd, F, M, hb⟩ := F
  obtain ⟨t, h1, h2⟩ := ha
  exact ⟨⟨_, pe_make M F hr hg hm hb .nil pass0 h1 hdb he hpl, ref_makeV h2⟩⟩
end
end
end Hd
end

section
set_option maxHeartbeats 4000000
/-! # Hd: a def of the text, by its reading -/
namespace Hd
open PySem PySem.Spec PyProof.Rows L2
section
variable {P : Program} {w : World} {K : PySem.W.Frag} {mg : Str → Option Value} {base : Heap} {n q : Str} {params : Arguments} {body : List Stmt} {scope : Scope} {f C : Addr} {N ps : List Str} {ap : ASp} {k : Nat}
/-- the arguments bind, one by one -/
abbrev Bd (n q : Str) (params : Arguments) (body : List Stmt) (scope : Scope) (ps : List Str) : Prop := ∀ (kV doc pm : Value) (an : Option Addr) (cdv ct : Value) (us : List Value), us.length = ps.length → bindArgs (PySem.W.fnOf n q params body scope .none kV doc pm an cdv ct) ⟨us, []⟩ = pure (ps.zip us)
/-- the text has the reading, wherever it runs -/
abbrev Rds (P : Program) (w : World) (K : PySem.W.Frag) (mg : Str → Option Value) (base : Heap) (N : List Str) (q : Str) (scope : Scope) (f : Addr) (body : List Stmt) (k : Nat) (rd : AS) : Prop :=
  ∀ (cdv : Value) (A : Around) (outer : List Env) (s : Shared) (H : Hp) (E : XK), Room k (A.deeper (envOfC q scope s.heap.objs.size f cdv)) → DSs (cxOf CX0 P w K mg base N q scope f cdv A outer s H E).nox X0 body rd
abbrev RdsX (P : Program) (w : World) (K : PySem.W.Frag) (mg : Str → Option Value) (base : Heap) (N : List Str) (q : Str) (scope : Scope) (f : Addr) (body : List Stmt) (k : Nat) (rd : XW → AS) : Prop :=
  ∀ (cdv : Value) (A : Around) (outer : List Env) (s : Shared) (H : Hp) (E : XK) (AX : Addr → Str → Om → Prop), Room k (A.deeper (envOfC q scope s.heap.objs.size f cdv)) → DSs (cxOf (L2N.CX P w) P w K mg base N q scope f cdv A outer s H E) ⟨E, AX⟩ body (rd ⟨E, AX⟩)
/-- the data's part: from the promise to the reading -/
abbrev Keeps (N : List Str) (ap : ASp) (rd : AS) : Prop := ∀ ds W AQ AX, ap ds W AQ AX → rd { nx := fun _ W' => AQ .non W', rt := AQ } (startD N ds) W
abbrev KeepsX (N : List Str) (ap : ASp) (rd : XW → AS) : Prop := ∀ ds W AQ (x : XW), ap ds W AQ x.A → rd x { nx := fun _ W' => AQ .non W', rt := AQ } (startD N ds) W
theorem mk_cal {rd : AS} (F : ∃ fd, FunD K n q params body scope [] [] f fd) (hm : mg n = some (.ref f)) (sc : FnScope N ps scope) (hb : Bd n q params body scope ps) (hl : ∀ ds W AQ AX, ap ds W AQ AX → ds.length = ps.length)
    (hd : Rds P w K mg base N q scope f body k rd) (hp : Keeps N ap rd) : Cal P w K mg base CX0 (k + 1) n ps ap := by
  obtain ⟨fd, F⟩ := F
  exact ⟨f, fd, fn_ok F sc hl fun cdv A outer s H E hr => ⟨rd, hd cdv A outer s H E hr, hp⟩, hm, F.kp, F.bindsN hb⟩
theorem mk_calX {rd : XW → AS} (F : ∃ fd, FunD K n q params body scope [] [] f fd) (hm : mg n = some (.ref f)) (sc : FnScope N ps scope) (hb : Bd n q params body scope ps) (hl : ∀ ds W AQ AX, ap ds W AQ AX → ds.length = ps.length)
    (hd : RdsX P w K mg base N q scope f body k rd) (hp : KeepsX N ap rd) : Cal P w K mg base (L2N.CX P w) (k + 1) n ps ap := by
  obtain ⟨fd, F⟩ := F
  exact ⟨f, fd, fn_okX F sc hl fun cdv A outer s H E AX hr => ⟨rd ⟨E, AX⟩, hd cdv A outer s H E AX hr, fun ds W AQ h => hp ds W AQ ⟨E, AX⟩ h⟩, hm, F.kp, F.bindsN hb⟩
theorem mk_mal {rd : AS} {m : Str} (F : ∃ fd, FunD K n q params body scope [] [] f fd) (hm : Meth K C m f) (sc : FnScope N ps scope) (hb : Bd n q params body scope ps) (hl : ∀ ds W AQ AX, ap ds W AQ AX → ds.length = ps.length)
    (hd : Rds P w K mg base N q scope f body k rd) (hp : Keeps N ap rd) : Mal P w K mg base CX0 (k + 1) C m ps ap := by
  obtain ⟨fd, F⟩ := F
  exact ⟨f, fd, fn_ok F sc hl fun cdv A outer s H E hr => ⟨rd, hd cdv A outer s H E hr, hp⟩, hm, F.bindsN hb⟩
theorem mk_malX {rd : XW → AS} {m : Str} (F : ∃ fd, FunD K n q params body scope [] [] f fd) (hm : Meth K C m f) (sc : FnScope N ps scope) (hb : Bd n q params body scope ps) (hl : ∀ ds W AQ AX, ap ds W AQ AX → ds.length = ps.length)
    (hd : RdsX P w K mg base N q scope f body k rd) (hp : KeepsX N ap rd) : Mal P w K mg base (L2N.CX P w) (k + 1) C m ps ap := by
  obtain ⟨fd, F⟩ := F
  exact ⟨f, fd, fn_okX F sc hl fun cdv A outer s H E AX hr => ⟨rd ⟨E, AX⟩, hd cdv A outer s H E AX hr, fun ds W AQ h => hp ds W AQ ⟨E, AX⟩ h⟩, hm, F.bindsN hb⟩
theorem mk_ial {rd : AS} (F : ∃ fd, FunD K n q params body scope [] [] f fd) (hm : Mk K C f) (sc : FnScope N ps scope) (hb : Bd n q params body scope ps) (hl : ∀ ds W AQ AX, ap ds W AQ AX → ds.length = ps.length)
    (hd : Rds P w K mg base N q scope f body k rd) (hp : Keeps N ap rd) : Ial P w K mg base CX0 (k + 1) C ps ap := by
  obtain ⟨fd, F⟩ := F
  exact ⟨f, fd, fn_ok F sc hl fun cdv A outer s H E hr => ⟨rd, hd cdv A outer s H E hr, hp⟩, hm, F.bindsN hb⟩
/-- a def by a plain function of data: what is asked of the arguments is told by p itself -/
theorem pure_keeps {p : List D → (D → Prop) → Prop} {rd : AS} (h : ∀ ds Q, p ds Q → rd { nx := fun _ W' => W' = [] ∧ Q .non, rt := fun d W' => W' = [] ∧ Q d } (startD N ds) []) (mono : ∀ (A B : AEnds) G W, (∀ G W, A.nx G W → B.nx G W) → (∀ d W, A.rt d W → B.rt d W) → rd A G W → rd B G W) : Keeps N (pureSp p) rd := fun ds W AQ AX ⟨hW, hp⟩ => by
  subst hW
  exact mono _ _ _ _ (fun G W q => by obtain ⟨rfl, q⟩ := q; exact q) (fun d W q => by obtain ⟨rfl, q⟩ := q; exact q) (h ds _ hp)
end
/-- a promise by a function on data: the arguments are of the form a, the answer g a -/
def PF {α : Type} (enc : α → List D) (pre : α → Prop) (g : α → D) : List D → (D → Prop) → Prop := fun ds Q => ∃ a, ds = enc a ∧ pre a ∧ Q (g a)
end Hd
end

section
set_option maxHeartbeats 4000000
/-! # Hd: own exceptions of the base Exception, with a field of their own -/
namespace PySem
namespace LowE
open PySem.W PySem.Calls PyProof.Rows PySem.HandSPX Builtin Builtin.ObjectAttr
abbrev exTail : List Value := [.type "Exception", .type "BaseException", .type "object"]
/-! ### the text of __init__ -/
def iA (p1 p2 : Pos) : Arguments := { posonlyargs := [], args := [{ arg := "self", annotation := none, pos := p1 }, { arg := "words", annotation := none, pos := p2 }], vararg := none, kwonlyargs := [], kw_defaults := [], kwarg := none, defaults := [] }
def iB (q1 q2 q3 q4 : Pos) : List Stmt := [.Assign [.Attribute (.Name "self" q1) "words" q2] (.Name "words" q3) q4]
def iS : Scope := { kind := .function, names := [(PySem.Str.ofString "self", .local), (PySem.Str.ofString "words", .local)], isGenerator := false, isCoroutine := false, more := [] }
/-- what the head says of such a class, at C, and of its __init__, at fI -/
structure OwnTxt (K : Frag) (mg : Str → Option Value) (cn qn : Str) (C fI : Addr) : Prop where
  gC : mg cn = some (.ref C)
  cls : ∃ nm q N bs sn sub ab col dd k0 k1 k2 k3 k5, K.lookup C = some (excClassObj nm q C N bs exTail true sn sub ab col dd k0 k1 k2 k3 k5 "Exception.__new__")
  sa : findIn K (.ref C) "__setattr__" = some (some (.builtin "object.__setattr__"))
  ga : findIn K (.ref C) "__getattribute__" = some (some (.builtin "BaseException.__getattribute__"))
  gg : findIn K (.ref C) "__getattr__" = some none
  noN : findIn K (.ref C) "words" = some none
  iC : findIn K (.ref C) "__init__" = some (some (.ref fI))
  tC : typeIn K (.ref fI) = some (.type "function")
  kC : keepIn K (.ref C) = true
  exC : subIn K (.ref C) (.type "BaseException") = some true
  tyC : typeIn K (.ref C) = some (.type "type")
  hdC : hasDictIn K C = true
  fn : ∃ (oc : Value) (od : Option Addr) (kV doc pm : Value) (an : Option Addr) (cdv ct : Value) (osl : Array (Option Value)) (p1 p2 q1 q2 q3 q4 : Pos),
    K.lookup fI = some ⟨oc, od, .func (fnOf "__init__" qn (iA p1 p2) (iB q1 q2 q3 q4) iS .none kV doc pm an cdv ct), osl⟩ ∧ codeIn K cdv qn = true
theorem one_size (v : Value) : [v].length ≤ sizeLine := by
  rw [sizeLine_eq]
  exact (by decide : 1 ≤ 16777216)
theorem ldC {M : Model} {s : Shared} {name : Str} {scope : Scope} {L a : Addr} {cd : Value} {m : Str → Option Value} {x : Str} {pos : Pos} {v : Value} {Q : Value → Shared → Prop} {A : Around} {E : Value → Shared → Prop} (hn : s.heap.Ns L m) (hv : m x = some v) (h : Q v s)
    (hk : scope.kind = .function := by rfl) (hl : (envOfC name scope L a cd).kindOf x = some .local := by rfl) (hd : (x == ("__debug__" : Str)) = false := by decide) :
    wpAny M A (eval (.Name x pos) (envOfC name scope L a cd)) Q E s := wpAny_Name (wpAny_loadName_local hk hl hn hv h) hd
/-- self.name = v on an exception without a dict; its class is of the base Exception -/
theorem osa_ex {prog : Program} {w : World} {A : Around} {R : Result → Shared → Prop} {hp : Heap} {g : Array GenState} {d : Drawn} {t : Nat} {os : OsState} {K : W.Frag} {name : Str} {tk : Tok} {v : Value} {x C : Addr} {fv : Array Value} {cd : ClassData}
    (X : K.In hp) (hx : hp.get? x = some { cls := .ref C, data := .fields fv }) (hcd : W.clsIn K C = some cd) (hm : cd.mro = .ref C :: exTail) (hh : cd.hasDict = true) (ha : W.findIn K (.ref C) name = some none)
    (hq : ∀ h' tk' dx, (∀ b o, b ≠ x → hp.get? b = some o → h'.get? b = some o) → hp.objs.size ≤ dx → dx ≠ x → h'.get? x = some { cls := .ref C, dict := some dx, data := .fields fv } →
      h'.Ns1 dx (fun y => if y = name then some v else none) → R (.ok (.ret .none)) ⟨h', g, d, tk', os⟩) :
    codeAny (model prog w) A (.call (.builtin "object.__setattr__") ⟨[.ref x, .str name tk, v], []⟩) R ⟨hp, g, d, t, os⟩ := by
  have I : W.InstAt hp x { cls := .ref C, data := .fields fv } C none := ⟨hx, rfl, rfl, trivial⟩
  have SF := F.store_object
  have ne : cd.mro.isEmpty = false := by rw [hm]; rfl
  have hob : cd.mro.contains (.type "object") = true := by
    rw [hm, List.contains_cons, show exTail.contains (.type "object") = true from by decide +kernel, Bool.or_true]
  have hps : refuseLoop (.ref x) "__setattr__" cd.mro = pure () := by
    rw [hm, refuseLoop_ref]
    exact F.store_Exception.passes (.ref x)
  have hxs : x ≠ hp.objs.size := Nat.ne_of_lt (Heap.lt_size hx)
  have sub : W.Looks (model prog w) hp (isInstance (.ref x) (.type "object")) true := I.type.andThen (W.looks_mroIn X (by unfold W.mroIn; rw [hcd, Option.bind_some, if_neg (by rw [ne]; decide), hob]))
  refine codeAny_call_builtin SF.slot.plain SF.entry (@W.check_slot (model prog w) _ _ ⟨hp, g, d, t, os⟩ "object.__setattr__" "object" "__setattr__" (.ref x) [.str name tk, v] [] _ SF.kind SF.split sub (SF.args (.ref x) (.str name tk) v) ?_)
  have hmr : W.Looks (model prog w) hp (mroOf (.ref C)) cd.mro := (W.looks_clsIn X hcd).andThen .now
  have L3 : W.Looks (model prog w) hp (storeTaker? none) none := .now
  have hcls : W.Looks (model prog w) hp (classData C) cd := W.looks_clsIn X hcd
  rw [W.osa_eq, refuse_eq]
  refine wpAny_bind (wpAny_bind (I.type.at (wpAny_bind (hmr.at ?_))))
  rw [hps]
  refine wpAny_pure (wpAny_bind (I.type.at (wpAny_bind ((W.looks_findIn X ha).at (wpAny_bind (L3.at ?_))))))
  show wpAny _ _ (storeInOwnDict (.ref x) (.ref C) (.str name tk) name v false) _ _ _
  obtain ⟨nm, bs, mro, ns, qn, hd, sn, sb, ab, col, del⟩ := cd
  dsimp only at hh
  subst hh
  unfold storeInOwnDict ownDictForStores
  repeat (first | with_reducible refine store_in_new ?_ ?_ | with_reducible refine wpAny_loadPart_at hx ?_ | with_reducible refine hcls.at ?_ | wp_step)
  · exact ⟨_, #[], _, (Heap.get?_update_ne _ _ _ _ hxs.symm).trans (Heap.get?_push_at rfl rfl), rfl, fun e he => absurd he (by simp), fun _ => rfl⟩
  · intro h' tk' hn' hs
    have hx₁ : (hp.push { cls := .type "dict", data := .dict #[] }).get? x = some { cls := .ref C, data := .fields fv } := Heap.get?_push_of_some _ hx
    refine hq h' tk' hp.objs.size (fun b o hb ho => ?_) (Nat.le_refl _) hxs.symm ?_ hn'
    · exact (hs.2 b (Nat.ne_of_lt (Heap.lt_size ho))).trans ((Heap.get?_update_ne _ _ _ _ hb).trans (Heap.get?_push_of_some _ ho))
    · exact (hs.2 x hxs).trans (Heap.get?_update_self _ hx₁ rfl)
/-- what __init__ leaves of a fresh exception at x -/
structure InitEnd (h h' : Heap) (x C dx t1 : Addr) (v : Value) : Prop where
  keep : ∀ b o, b ≠ x → h.get? b = some o → h'.get? b = some o
  obj : h'.get? x = some { cls := .ref C, dict := some dx, data := .fields #[.ref t1, .none, .none, .none, .bool false, .none] }
  dbig : h.objs.size ≤ dx
  dne : dx ≠ x
  ns : h'.Ns1 dx (fun y => if y = "words" then some v else none)
/-- a made exception -/
structure OwnMade (h h' : Heap) (e C d : Addr) (v : Value) : Prop where
  keep : ∀ b o, h.get? b = some o → h'.get? b = some o
  new : h.objs.size ≤ e
  obj : ∃ oe vs, h'.get? e = some oe ∧ oe.cls = .ref C ∧ oe.dict = some d ∧ oe.data = .fields vs ∧ vs[1]? = some .none ∧ PXN.CtxN oe
  dbig : h.objs.size ≤ d
  dne : d ≠ e
  ns : h'.Ns1 d (fun y => if y = "words" then some v else none)
section
variable {prog : Program} {w : World} {A : Around} {E : Value → Shared → Prop} {R : Result → Shared → Prop} {s : Shared} {K : Frag} {mg : Str → Option Value} {cn qn : Str} {C fI : Addr}
theorem own_init (T : OwnTxt K mg cn qn C fI) {x t0 : Addr} {v : Value} (X : K.In s.heap) (hlim : s.heap.NoLimit) (hx : s.heap.get? x = some (excO C t0)) (hnx : K.lookup x = none) (hroom : A.depth < recursionLimit)
    (hq : ∀ h' tk dx, InitEnd s.heap h' x C dx t0 v → R (.ok (.ret .none)) { s with heap := h', toks := tk }) :
    codeAny (model prog w) A (.call (.ref fI) ⟨[.ref x, v], []⟩) R s := by
  obtain ⟨oc, od, kV, doc, pm, an, cdv, ct, osl, p1, p2, q1, q2, q3, q4, ho, hcd⟩ := T.fn
  obtain ⟨nm, q, N, bs, sn, sub, ab, col, dd, k0, k1, k2, k3, k5, hC⟩ := T.cls
  have hcl : clsIn K C = some { name := nm, bases := bs, mro := .ref C :: exTail, ns := N, qualname := q, hasDict := true, slotNames := sn, subclasses := sub, abstract := ab, collection := col, hasDel := false } := by unfold clsIn; rw [hC] <;> rfl
  refine Att.call_fn (binds := [("self", .ref x), ("words", v)]) X hlim ho hcd hroom (BindsTo.of_eq (by first | rfl | with_unfolding_all rfl)) (by first | rfl | decide | with_unfolding_all rfl) (fun s₁ IC => ?_) rfl rfl rfl
  obtain ⟨h₁, tk₁, rfl⟩ := IC.toInCall.same
  have k : ∀ b o, s.heap.get? b = some o → h₁.get? b = some o := IC.toInCall.keep
  have hn := IC.toInCall.ns
  have X₁ : K.In h₁ := X.keeps k
  have hx₁ := k _ _ hx
  show wpAny _ _ (execs _ _) _ _ _
  refine wpAny_execs_cons (plainObj_wpAny_Assign_Attribute ?_)
  refine ldC (v := v) hn (by first | rfl | with_unfolding_all rfl | kernel_rfl) (ldC (v := .ref x) hn (by first | rfl | with_unfolding_all rfl | kernel_rfl) ?_)
  refine set_plain X₁ (ox := excO C t0) (od := none) ⟨hx₁, rfl, rfl, trivial⟩ T.sa ?_
  refine osa_ex X₁ hx₁ hcl rfl rfl T.noN (fun h₃ tk₃ dx k₃ dn dne hx₃ hn₃ => ?_)
  show wpAny _ _ (execs _ _) _ _ _
  have z : s.heap.objs.size < h₁.objs.size := hn.lt
  exact wpAny_execs_nil (hq h₃ tk₃ dx ⟨fun b o hb e => k₃ b o hb (k b o e), hx₃, Nat.le_of_lt (Nat.lt_of_lt_of_le z dn), dne, hn₃⟩)
theorem ctx_new {C dx t1 : Addr} : PXN.CtxN { cls := .ref C, dict := some dx, data := .fields #[.ref t1, .none, .none, .none, .bool false, .none] } := fun vs e => by
  cases e
  rfl
theorem own_made (T : OwnTxt K mg cn qn C fI) {v : Value} (X : K.In s.heap) (hlim : s.heap.NoLimit) (hroom : A.depth + 1 < recursionLimit)
    (hq : ∀ h' tk e d, OwnMade s.heap h' e C d v → R (.ok (.ret (.ref e))) { s with heap := h', toks := tk }) :
    codeAny (model prog w) A (.call (.ref C) ⟨[v], []⟩) R s := by
  obtain ⟨nm, q, N, bs, sn, sub, ab, col, dd, k0, k1, k2, k3, k5, hC⟩ := T.cls
  obtain ⟨hp, g, dr, tk, os⟩ := s
  have k : ∀ b o, hp.get? b = some o → ((hp.push (kdv_tup [v])).push (excO C hp.objs.size)).get? b = some o := fun b o e => Heap.get?_push_of_some _ (Heap.get?_push_of_some _ e)
  have hget : ((hp.push (kdv_tup [v])).push (excO C hp.objs.size)).get? (hp.objs.size + 1) = some (excO C hp.objs.size) := by heap_get
  have hnx : K.lookup (hp.objs.size + 1) = none := by
    cases e : K.lookup (hp.objs.size + 1) with
    | none => rfl
    | some o =>
      have z : hp.get? (hp.objs.size + 1) = some o := X _ _ e
      exact absurd (Nat.lt_of_succ_lt (Heap.lt_size z)) (Nat.lt_irrefl _)
  refine call_own F.excBase_Exception (fun X => rfl) (X _ _ hC) (looks_findIn X T.iC) (fun self => bind_fn X self T.tC) (one_size v) ?_
  refine own_init (s := ⟨(hp.push (kdv_tup [v])).push (excO C hp.objs.size), g, dr, tk, os⟩) T (X.keeps k) (hlim.keeps k) hget hnx ?_ fun h' tk' dx ⟨k', hx, dn, dne, hns⟩ => ?_
  · show A.depth + 1 < recursionLimit
    exact hroom
  · have old : ∀ b o, hp.get? b = some o → h'.get? b = some o := fun b o e => k' b o (Nat.ne_of_lt (Nat.lt_succ_of_lt (Heap.lt_size e))) (k b o e)
    have z : hp.objs.size + 1 + 1 ≤ dx := by
      first
        | (simpa only [Heap.size_push] using dn)
        | exact dn
        | (have q := dn; rw [Heap.size_push, Heap.size_push] at q; exact q)
    exact ⟨rfl, hq h' tk' (hp.objs.size + 1) dx ⟨old, Nat.le_succ _, ⟨_, _, hx, rfl, rfl, rfl, rfl, ctx_new⟩, Nat.le_trans (Nat.le_trans (Nat.le_succ _) (Nat.le_succ _)) z, dne, hns⟩⟩
end
end LowE
end PySem
namespace Hd
open PySem PySem.Spec PyProof.Rows L2
theorem relO_words {v : V} {v' : Value} (r : RelV v v') (f : Str) : RelO (List.lookup f [(("words" : Str), v)]) (if f = "words" then some v' else none) := by
  by_cases hw : f = "words"
  · subst hw
    rw [if_pos rfl]
    have q : List.lookup ("words" : Str) [(("words" : Str), v)] = some v := by simp [List.lookup]
    rw [q]
    exact r
  · rw [if_neg hw]
    have qw : (f == ("words" : Str)) = false := by simpa using hw
    have q2 : List.lookup f [(("words" : Str), v)] = none := by simp [List.lookup, qw]
    rw [q2]
    trivial
/-- an object beside what is owned and what stays -/
theorem grown_x {K : PySem.W.Frag} {W : Om} {H S : Hp} {p : Addr} {o : HO} (w : Wd K W H S) (hp : H p = none) : Wd K W (upd H p o) S ∧ Step W H S W (upd H p o) S := by
  have st : Step [] H S [] (upd H p o) S :=
    ⟨fun a u _ e => by rw [upd_ne (ne_of_none e hp)]; exact e, Ex.refl S, fun a u e => .inl e, fun a ha => nomatch ha⟩
  have w0 : Wd K [] (upd H p o) S := ⟨fun a u e => by rw [upd_ne (ne_of_none (w.sub a u e) hp)]; exact w.sub a u e, fun q hq => (nomatch hq), List.nodup_nil⟩
  exact Wd.frame (Wc := []) (Wr := W) w st w0
section
variable {X : Cx} {C fI : Addr} {cn qn : Str}
def tMkX (C : Addr) (ta : TA) : L2.St → Hp → XK → Prop := fun σ H Q => ta σ H fun vs H1 => ∃ v, vs = [v] ∧ ∀ d, H1 d = none → Q (.ref C) (some d) (upd H1 d (.xd [(("words" : Str), v)]))
theorem pmk_x {a : Expr} {ta : TA} {p pos : Pos} {k : Nat} (T : PySem.LowE.OwnTxt X.K X.mg cn qn C fI) (hr : Room k X.A) (hk : 1 ≤ k) (ha : PA X [a] ta) (hg : Gl X cn) (hdb : (cn == ("__debug__" : Str)) = false)
    (he : starEach (a :: []) X.env = (false, eval a X.env) :: starEach [] X.env := by rfl) (hpl : (backTo pos (starEach [] X.env)).any (·.1) = false := by rfl) :
    L2N.PMk X (.Call (.Name cn p) [a] [] pos) (tMkX C ta) := by
  intro pins s σ H Q I h
  refine wpAny_Call_Name_kw (ld_glob I hg T.gC ?_ hdb)
  refine PySem.W.callWith_K (h₀ := X.base) I.ok.mod.kin T.kC (thn (ha.run pos pins s σ H _ I h) fun us s1 hh => ?_) he hpl
  obtain ⟨vs, H1, I1, r1, v, ev, q1⟩ := hh
  subst ev
  refine ⟨I1.kIn, ?_⟩
  cases r1 with
  | cons rv rn =>
    rename_i v' us'
    cases rn
    show wpAny _ _ (call (.ref C) [v']) _ _ _
    have hlim := I1.nolimit
    obtain ⟨hp, g, dr, tk, os⟩ := s1
    refine wpAny_call (PySem.LowE.own_made T I1.kIn hlim (by have := hr.dp; omega) fun h' tk' e d M => ?_)
    show L2N.MkP X pins σ Q (.ref e) ⟨h', g, dr, tk', os⟩
    obtain ⟨oe, fv, hoe, hc, hd, hdat, h1, hctx⟩ := M.obj
    have hns := M.ns
    obtain ⟨G', g1, g2⟩ := restrict h' fun b => decide (b ≠ e)
    have gk : ∀ b, b ≠ e → G'.get? b = h'.get? b := fun b hb => g1 b (decide_eq_true hb)
    have ge : G'.get? e = none := g2 e (by simp)
    have old : ∀ b o, hp.get? b = some o → G'.get? b = some o := fun b o q => (gk b (Nat.ne_of_lt (Nat.lt_of_lt_of_le (Heap.lt_size q) M.new))).trans (M.keep b o q)
    have ob : ObjOk X.prog X.w (upd H1 d (.xd [(("words" : Str), v)])) G' d (.xd [(("words" : Str), v)]) :=
      ⟨_, hns.at (fun o q => (gk d M.dne).trans q), fun f => relO_words rv f⟩
    have J : Inv X pins σ (upd H1 d (.xd [(("words" : Str), v)])) ⟨G', g, dr, tk', os⟩ := I1.laid (t' := tk') old M.dbig ob
    refine ⟨e, oe, fv, ⟨G', g, dr, tk', os⟩, _, .ref C, some d, rfl, J, fun b o q => ?_, ge, hoe, ⟨hc, hd, hctx⟩, hdat, h1, ?_, rfl, I1.bare, raises_own T.exC T.tyC, q1 d (I1.hok.fresh M.dbig)⟩
    · by_cases hb : b = e
      · have q' : G'.get? b = some o := q
        rw [hb, ge] at q'; cases q'
      · exact (gk b hb).symm.trans q
    · rw [upd_ne (Ne.symm M.dne)]
      exact I1.hok.fresh M.new
/-- e.words, e the exception that the suite holds (at a; its class cls, its dict d) -/
def tWordsX (C : Addr) (a : Addr) (cls : Value) (d : Option Addr) (te : TE) : TE := fun σ H Q => te σ H fun x H1 => x = .ref a ∧ cls = .ref C ∧ ∃ (dd : Addr) (v : V), d = some dd ∧ H1 dd = some (.xd [(("words" : Str), v)]) ∧ Q v H1
theorem pe_wordsX {a : Addr} {oe : Obj} {cls : Value} {d : Option Addr} {pn : List (Addr × Obj)} {e : Expr} {te : TE} {pos : Pos} (T : PySem.LowE.OwnTxt X.K X.mg cn qn C fI) (hz : Zc cls d oe) (hf : ∃ vs, oe.data = .fields vs) (he : PE (X.suite a ((a, oe) :: pn)) e te)
    (hb : attributeBase e "words" X.env (eval e X.env) = eval e X.env := by rfl) :
    PE (X.suite a ((a, oe) :: pn)) (.Attribute e "words" pos) (tWordsX C a cls d te) := by
  refine ⟨fun pins s σ H Q I h => ?_⟩
  refine attr_of hb (thn (he.run pins s σ H _ I h) fun u s1 hh => ?_)
  obtain ⟨x, H1, I1, rx, ex, ec, dd, v, ed, ea, q⟩ := hh
  subst ex
  obtain rfl : u = Value.ref a := rx
  subst ec
  subst ed
  obtain ⟨ha, _⟩ := I1.pin (a, oe) (List.mem_append_left _ List.mem_cons_self)
  obtain ⟨vs, hd⟩ := hf
  have hx : ObjOk X.prog X.w H1 s1.heap dd (.xd [(("words" : Str), v)]) := I1.hok dd _ ea
  obtain ⟨mA, hns, hr⟩ := hx
  obtain ⟨od, ho, hl⟩ := lookIn_ns hns
  have l : List.lookup ("words" : Str) [(("words" : Str), v)] = some v := by simp [List.lookup]
  obtain ⟨u, hu, ru⟩ := RelO.some_of (v := v) (o := mA "words") (by rw [← l]; exact hr "words")
  have J : PySem.W.InstAt s1.heap a oe C (some od) := ⟨ha, hz.1, by unfold PySem.W.notCls; rw [hd] <;> rfl, by rw [hz.2]; exact ho⟩
  exact HandSPX.exc_get I1.kIn J T.ga T.gg T.exC (PySem.W.findObj_own T.hdC T.noN rfl (by rw [hl, hu])) (handed_of ru) ⟨v, H1, I1.tok _, ru, q⟩
/-! ### raise C(text) -/
theorem ds_raiseX {x : XW} {a : Expr} {aa : AE} {p pos pos2 : Pos} {k : Nat} (T : PySem.LowE.OwnTxt X.K X.mg cn qn C fI) (hr : Room k X.A) (hk : 1 ≤ k) (hc : X.calm = true) (tk : L2N.Takes X fun cls d _ H => x.E cls d H) (ha : DE X x a aa) (hg : Gl X cn) (hdb : (cn == ("__debug__" : Str)) = false)
    (he : starEach (a :: []) X.env = (false, eval a X.env) :: starEach [] X.env := by rfl) (hpl : (backTo pos (starEach [] X.env)).any (·.1) = false := by rfl) :
    DS X x (.Raise (some (.Call (.Name cn p) [a] [] pos)) none pos2) (sRaise x C aa) := by
  obtain ⟨t, h1, h2⟩ := ha
  refine ⟨⟨_, L2N.ps_raise hc tk (pmk_x T hr hk (pa_cons h1 pa_nil he) hg hdb he hpl), fun G σ W H S A Z n hh f => ?_⟩⟩
  refine h2 G σ W H S _ _ n hh fun d W1 v H1 S1 st1 w1 hv h3 => ?_
  cases d with
  | str m =>
    cases hv
    refine ⟨_, rfl, fun dd hdd => ?_⟩
    have hS : S1 dd = none := by
      cases e : S1 dd with
      | none => rfl
      | some o => rw [w1.sub dd o e] at hdd; cases hdd
    have hW : dd ∉ dom W1 := fun hm => by
      obtain ⟨o, ho⟩ := dom_mem hm
      obtain ⟨u, e⟩ := (w1.own _ ho).there
      rw [hdd] at e
      cases e
    obtain ⟨w2, st2⟩ := grown_x (o := xdOf m) w1 hdd
    exact n.x C m W1 _ S1 dd (st1.trans st2) w2 upd_same hS hW h3
  | _ => exact h3.elim
end
/-! ### what the head tells of such a class -/
def exB (K : PySem.W.Frag) (x : Str) : Bool :=
  (match K.lookup (He.ga K x) with
  | some ⟨.type "type", _, .cls cd, sl⟩ => (match cd.mro, sl.toList with
    | .ref C' :: bm, [_, _, _, _, some (.builtin n), _] => decide (C' = He.ga K x) && (decide (n = "Exception.__new__") && (!cd.hasDel && (cd.hasDict && decide (bm = PySem.LowE.exTail))))
    | _, _ => false)
  | _ => false)
  && (He.eqO (PySem.W.findIn K (.ref (He.ga K x)) "__setattr__") (some (some (.builtin "object.__setattr__")))
  && (He.eqO (PySem.W.findIn K (.ref (He.ga K x)) "__getattribute__") (some (some (.builtin "BaseException.__getattribute__")))
  && (He.eqO (PySem.W.findIn K (.ref (He.ga K x)) "__getattr__") (some none)
  && (He.eqO (PySem.W.findIn K (.ref (He.ga K x)) "words") (some none)
  && (He.eqO (PySem.W.findIn K (.ref (He.ga K x)) "__init__") (some (some (.ref (He.ma K (He.ga K x) "__init__"))))
  && (decide (PySem.W.typeIn K (.ref (He.ma K (He.ga K x) "__init__")) = some (.type "function"))
  && (PySem.W.keepIn K (.ref (He.ga K x))
  && (decide (PySem.W.subIn K (.ref (He.ga K x)) (.type "BaseException") = some true)
  && (decide (PySem.W.typeIn K (.ref (He.ga K x)) = some (.type "type"))
  && PySem.W.hasDictIn K (He.ga K x))))))))))
theorem own_txt {K : PySem.W.Frag} {mg : Str → Option Value} {x qn : Str} {fd : FuncData} (g : mg x = some (.ref (He.ga K x))) (e : exB K x = true) {p1 p2 q1 q2 q3 q4 : Pos}
    (f : FunD K "__init__" qn (PySem.LowE.iA p1 p2) (PySem.LowE.iB q1 q2 q3 q4) PySem.LowE.iS [] [] (He.ma K (He.ga K x) "__init__") fd) : PySem.LowE.OwnTxt K mg x qn (He.ga K x) (He.ma K (He.ga K x) "__init__") := by
  obtain ⟨e0, e⟩ := He.ba e
  obtain ⟨e1, e⟩ := He.ba e
  obtain ⟨e2, e⟩ := He.ba e
  obtain ⟨e3, e⟩ := He.ba e
  obtain ⟨e4, e⟩ := He.ba e
  obtain ⟨e5, e⟩ := He.ba e
  obtain ⟨e6, e⟩ := He.ba e
  obtain ⟨e7, e⟩ := He.ba e
  obtain ⟨e8, e⟩ := He.ba e
  obtain ⟨e9, e10⟩ := He.ba e
  refine ⟨g, ?_, He.eqO_ok e1, He.eqO_ok e2, He.eqO_ok e3, He.eqO_ok e4, He.eqO_ok e5, of_decide_eq_true e6, e7, of_decide_eq_true e8, of_decide_eq_true e9, e10, ?_⟩
  · split at e0
    · rename_i dd cd sl ho
      split at e0
      · rename_i C' bm k0 k1 k2 k3 n k5 hm hs
        obtain ⟨a1, e0⟩ := He.ba e0
        obtain ⟨a2, e0⟩ := He.ba e0
        obtain ⟨a3, e0⟩ := He.ba e0
        obtain ⟨a4, a5⟩ := He.ba e0
        have b1 := of_decide_eq_true a1
        have b2 := of_decide_eq_true a2
        have b5 := of_decide_eq_true a5
        obtain ⟨nm, bs, mro, ns, q, hd, sn, sub, ab, col, del⟩ := cd
        dsimp only at hm a3 a4
        simp only [Bool.not_eq_true'] at a3
        subst hm a3 a4 b1 b2 b5
        have hsl : sl = #[k0, k1, k2, k3, some (.builtin "Exception.__new__"), k5] := by
          obtain ⟨l⟩ := sl
          simp only at hs
          rw [hs]
        subst hsl
        exact ⟨nm, q, ns, bs, sn, sub, ab, col, dd, k0, k1, k2, k3, k5, ho⟩
      · cases e0
    · cases e0
  · obtain ⟨oc, od, dV, kV, doc, pm, an, cdv, ct, osl, rfl, lk, hcd, hd, _⟩ := f.ex
    rcases hd with ⟨_, rfl⟩ | ⟨h, _⟩
    · exact ⟨oc, od, kV, doc, pm, an, cdv, ct, osl, p1, p2, q1, q2, q3, q4, lk, hcd⟩
    · exact absurd rfl h
end Hd
end

section
set_option maxHeartbeats 4000000
/-! # Hd: calls with effects that may raise; a try with several clauses that name the exception -/
namespace L2N
open PySem PySem.Spec PyProof.Rows L2
/-- what the clauses 'except c as n' wish of an exception of the body, one after the other: slot i is n's -/
def wManyAs (K : PySem.W.Frag) (i : Nat) (Wout : WX) (D : Ends) : List (Value × (Addr → Value → Option Addr → TS)) → WX
  | [] => Wout
  | (c, ts) :: r => fun cls d σ H => ∃ b, PySem.W.exmOne K cls c = some b ∧
    (b = true → ∀ a, H a = none → ts a cls d { nx := fun σ' H' => D.nx (σ'.set i none) H', rt := D.rt, bk := fun σ' H' => D.bk (σ'.set i none) H', ct := fun σ' H' => D.ct (σ'.set i none) H' } (σ.set i (some (.ref a))) H) ∧
    (b = false → wManyAs K i Wout D r cls d σ H)
inductive HdsAs (X : Cx) (n : Str) : List ExceptHandler → List (Value × (Addr → Value → Option Addr → TS)) → Prop
  | nil : HdsAs X n [] []
  | cons {x : Str} {c : Value} {ts : Addr → Value → Option Addr → TS} {b₀ : Stmt} {suite : List Stmt} {np pos' : Pos} {hds : List ExceptHandler} {l : List (Value × (Addr → Value → Option Addr → TS))} (hc : Names X x c)
      (hsu : ∀ (a : Addr) (oe : Obj) (cls : Value) (d : Option Addr) (pn : List (Addr × Obj)), Zn cls d oe → (∃ vs, oe.data = .fields vs) → PSs (X.suite a ((a, oe) :: pn)) (b₀ :: suite) (ts a cls d)) (r : HdsAs X n hds l) :
      HdsAs X n (.ExceptHandler (some (.Name x np)) (some n) (b₀ :: suite) pos' :: hds) ((c, ts) :: l)
section
variable {X : Cx} {n : Str} {i : Nat} {body : List Stmt} {h₀ : ExceptHandler} {hds : List ExceptHandler} {l : List (Value × (Addr → Value → Option Addr → TS))} {pos : Pos} {tb : WX → TS} {Wout : WX}
theorem ps_try_asM (hs : X.stack = X.env :: X.outer) (hf : X.env.frame = some X.env.locals) (hN : X.N.Nodup) (hi : X.N[i]? = some n) (hln : X.env.kindOf n = some .local) (tk : Takes X Wout)
    (hb : ∀ (W : WX) (pn : List (Addr × Obj)) (xe : Value → Shared → Prop), Takes (X.tr pn xe) W → PassesOwn (model X.prog X.w) X.A X.env xe → PSs (X.tr pn xe) body (tb W))
    (hh : HdsAs X n (h₀ :: hds) l) : PS X (.Try body (h₀ :: hds) [] [] pos) (fun D σ H => tb (wManyAs X.K i Wout D l) D σ H) := by
  refine ⟨fun pins s σ H D I h => ?_⟩
  have ok := I.ok
  have hfr : X.A.frames = some (X.env :: X.outer) := by rw [ok.frames, hs]
  have hloc : Loc X.env.scope n := .inl hln
  refine wpAny_Try_except ?_
  refine wpAny_mono ((hb (wManyAs X.K i Wout D l) (X.pn ++ pins) (fun e s₁ => wpAny (model X.prog X.w) X.A (noteFrame e X.env) (fun _ s₂ => wpAny (model X.prog X.w) X.A (setFlight e none) (fun _ s₃ =>
    wpAny (model X.prog X.w) X.A (handleBy e X.env (h₀ :: hds)) (SP X pins D) X.xe s₃) X.xe s₂) X.xe s₁) (fun u s' xx => ?_) PassesOwn.looking).run [] s σ H D (I.toTry _) h) (fun f s1 hsp => ?_) (fun e s1 he => he)
  · obtain ⟨a, B, sI, pins', σ', H', cls, d, rfl, J', nb, up, sky, na, os, ag, w⟩ := xx
    have J : Inv X pins σ' H' sI := J'.ofTry ok
    have sky' : Sky B (X.env :: X.outer) a (Zn cls d) X.env.locals s'.heap := by rw [← hs]; exact sky
    show wpAny (model X.prog X.w) X.A (noteFrame (.ref a) X.env) _ _ _
    refine Sky.land Zn.steady hfr hf sky' fun h3 fl3 up3 => ?_
    have J3 : Inv X pins σ' H' { s' with heap := h3 } := J.landed nb fl3.1 (up.trans up3) os ag
    obtain ⟨oe3, vs3, he3, hz3, hd3⟩ := fl3.there
    have notFr : ∀ {h : Heap} {o : Obj} {vs : Array Value}, h.FunFrames B (X.env :: X.outer) → h.get? a = some o → o.data = .fields vs → a ∉ frs (X.env :: X.outer) := fun {h o vs} ff e dd hm => by
      obtain ⟨_, o', e', hnf⟩ := ff.mem hm
      rw [e] at e'; cases e'
      exact hnf _ dd
    have nfr := notFr fl3.2.2.1 he3 hd3
    have nL : a ≠ X.env.locals := fun z => nfr (List.mem_filterMap.mpr ⟨X.env, List.mem_cons_self, by rw [hf, z]⟩)
    have nF : a ∉ X.fs := fun hm => by
      obtain ⟨e, he, q⟩ := List.mem_filterMap.mp hm
      exact nfr (List.mem_filterMap.mpr ⟨e, List.mem_cons_of_mem _ he, q⟩)
    have S3 := J3.suite he3 hd3 na nL nF
    have go : ∀ {hds' : List ExceptHandler} {l' : List (Value × (Addr → Value → Option Addr → TS))}, HdsAs X n hds' l' → wManyAs X.K i Wout D l' cls d σ' H' →
        wpAny (model X.prog X.w) X.A (handleBy (.ref a) X.env hds') (SP X pins D) X.xe { s' with heap := h3 } := by
      intro hds' l' hk
      induction hk with
      | nil =>
        intro w
        refine wpAny_handleBy_nil ?_
        obtain ⟨k1, k2, k3, oe, vs, T, oT, ts', he, hz, hd, h1, hr⟩ := id fl3
        unfold PySem.passOn
        refine wpAny_bind (wpAny_field he hd h1 ?_)
        rw [if_neg (show ¬ ((Value.ref T == Value.none) = true) from by simp)]
        have fin : wpAny (model X.prog X.w) X.A (setFlight (.ref a) X.env.frame) (fun _ s4 => wpAny (model X.prog X.w) X.A (throw (.ref a) : Sem Flow) (SP X pins D) X.xe s4) X.xe { s' with heap := h3 } := by
          rw [hf]
          refine HandSPX.setFlight_upZ fl3 fun h4 hh4 up4 => wpAny_throw (tk _ _ ?_)
          exact ⟨a, B, sI, pins, σ', H', cls, d, rfl, J, nb, (up.trans up3).trans up4, .inr (.inr (by rw [hs]; exact hh4)), na, os, ag, w⟩
        first
          | exact wpAny_bind (wpAny_pure (wpAny_bind fin))
          | exact wpAny_bind fin
      | @cons x c ts b₀ suite np pos' hds2 l2 hc hsu r ih =>
        intro w
        obtain ⟨b, hb1, hyes, hno⟩ := w
        refine wpAny_handleBy_cons (codeAny_handlers_test ?_) (by intro q; cases q)
        have LT : PySem.W.Looks (model X.prog X.w) h3 (typeOf (.ref a)) cls := fun A Q E s k q => wpAny_typeOf_ref (k _ _ he3) (by rw [hz3.1]; exact q)
        have LM := PySem.W.exm_one (M := model X.prog X.w) (J3.kIn) LT hb1
        have test : ∀ {Q : Value → Shared → Prop} {E : Value → Shared → Prop}, Q c { s' with heap := h3 } → wpAny (model X.prog X.w) (X.A.mark (some (.ref a))) (eval (.Name x np) X.env) Q E { s' with heap := h3 } := fun {Q E} q => by
          obtain ⟨hg, hdbg, hm | ⟨hm, hv, hnn⟩⟩ := hc
          · exact ld_glob (X := X.suite a ((a, oe3) :: (X.pn ++ pins))) S3 hg hm q hdbg
          · exact ld_blt (X := X.suite a ((a, oe3) :: (X.pn ++ pins))) S3 hg hm hv q hnn hdbg
        refine test (LM.here ?_)
        cases b with
        | true =>
          refine codeAny_handlers_suite_as ?_
          refine HandSPX.lands_againZ fl3 fun h4 fl4 up4 => ?_
          have J4 : Inv X pins σ' H' { s' with heap := h4 } := J.landed nb fl4.1 ((up.trans up3).trans up4) os ag
          obtain ⟨oe4, vs4, he4, hz4, hd4⟩ := fl4.there
          have S4 := J4.suite he4 hd4 na nL nF
          refine store_ok (X := X.suite a ((a, oe4) :: (X.pn ++ pins))) (v := .ref a) S4 hN hi hloc rfl (fun s5 S5 => ?_) (.inr hln)
          refine wpAny_mono ((hsu a oe4 cls d (X.pn ++ pins) hz4 ⟨_, hd4⟩).run [] s5 _ H' _ S5 (hyes rfl a na)) (fun f s6 hsp => ?_) (fun _ _ z => False.elim z)
          have end_ : ∀ {σ6 : St} {H6 : Hp} {Q : Shared → Prop}, Inv (X.suite a ((a, oe4) :: (X.pn ++ pins))) [] σ6 H6 s6 → (∀ s7, Inv X pins (σ6.set i none) H6 s7 → Q s7) →
              wpAny (model X.prog X.w) X.A (do bindName X.env n .none; unbindBehindTheSuite X.env n pos') (fun _ s7 => Q s7) X.xe s6 := fun {σ6 H6 Q} S6 hq => gone_ok (S6.unsuite ok) hN hi hln hq
          cases f with
          | next =>
            obtain ⟨σ6, H6, S6, q6⟩ := hsp
            exact end_ S6 fun s7 J7 => ⟨_, _, J7, q6⟩
          | brk =>
            obtain ⟨σ6, H6, S6, q6⟩ := hsp
            exact end_ S6 fun s7 J7 => ⟨_, _, J7, q6⟩
          | cont =>
            obtain ⟨σ6, H6, S6, q6⟩ := hsp
            exact end_ S6 fun s7 J7 => ⟨_, _, J7, q6⟩
          | ret u =>
            obtain ⟨v6, σ6, H6, S6, r6, q6⟩ := hsp
            exact end_ S6 fun s7 J7 => ⟨_, _, _, J7, r6, q6⟩
        | false =>
          show wpAny _ X.A (handleBy (.ref a) X.env hds2) _ _ _
          exact ih (hno rfl)
    exact go hh w
  · cases f with
    | next =>
      obtain ⟨σ', H', J', q⟩ := hsp
      exact wpAny_execs_nil ⟨σ', H', J'.ofTry ok, q⟩
    | brk =>
      obtain ⟨σ', H', J', q⟩ := hsp
      exact ⟨σ', H', J'.ofTry ok, q⟩
    | cont =>
      obtain ⟨σ', H', J', q⟩ := hsp
      exact ⟨σ', H', J'.ofTry ok, q⟩
    | ret u =>
      obtain ⟨v, σ', H', J', r, q⟩ := hsp
      exact ⟨v, σ', H', J'.ofTry ok, r, q⟩
end
/-- o.m(e, ..) within a try: what it raises is wished for at the slots as they stand -/
def tMethE (C : Addr) (m : Str) (sp : Sp) (E : L2.St → XK) (ta : TE) (t : TA) : TE := fun σ H Q => tMeth C m sp [] (E σ) ta t σ H Q
theorem pe_methE {X : Cx} {CX : CXT} {k : Nat} {f C : Addr} {fd : FuncData} {ps : List Str} {sp : Sp} {E : L2.St → XK} {m : Str} {pos apos : Pos} {e o : Expr} {es : List Expr} {ta : TE} {t : TA} {pl : Sem Bool} (he : PE X o ta) (c : Cls X.K C) (hm : Meth X.K C m f)
    (F : FnOk X.prog X.w X.K X.mg X.base CX k f fd ps sp) (hr : Room k X.A) (hb : Binds X.K fd ps []) (hx : ∀ σ, PassesAt CX X σ (E σ)) (ha : PA X (e :: es) t)
    (hst : starEach (e :: es) X.env = (false, eval e X.env) :: starEach es X.env := by rfl) (hpl : (backTo pos (starEach es X.env)).any (·.1) = false := by rfl)
    (ht : eval (.Call (.Attribute o m apos) (e :: es) [] pos) X.env = (do
      let ov ← eval o X.env
      standAt apos.atName
      let (f, first) ← holding [ov] (getMethod ov m pl)
      callWith pos f first (backTo pos (starEach (e :: es) X.env)) (backToKw pos (keywordEach [] X.env))) := by rfl) :
    PE X (.Call (.Attribute o m apos) (e :: es) [] pos) (tMethE C m sp E ta t) := by
  refine ⟨fun pins s σ H Q I h => ?_⟩
  refine PySem.W.methodCall_KW (pl := pl) (thn (he.run pins s σ H _ I h) fun u s1 ⟨x, H1, I1, rx, a, dx, fs, ex, ea, l, q⟩ => ?_) ht
  subst ex
  obtain rfl : u = Value.ref a := rx
  refine getmeth_ok I1 ea c hm l ?_
  refine PySem.W.callWith_K (first := [.ref a]) (h₀ := X.base) I.ok.mod.kin hm.kp (thn (ha.run pos pins s1 σ H1 _ I1 q) fun us s2 ⟨vs, H2, I2, r, q2⟩ => ⟨I2.kIn, ?_⟩) hst hpl
  have q3 : sp (.ref a :: (vs ++ [])) H2 Q (E σ) := q2
  rw [List.append_nil] at q3
  exact run_fnS (us := .ref a :: us) (vs := .ref a :: vs) F hr hb (hx σ) I2 (.cons rfl r) q3
end L2N
namespace Hd
open PySem PySem.Spec PyProof.Rows L2
section
variable {K : PySem.W.Frag} {x : XW}
/-- any def, with effects, that may raise -/
@[simp] def aCallWX (x : XW) (ap : ASp) (a : AA) : AE := fun G W Q => a G W fun ds W1 => ∃ Wc Wr, W1.Perm (Wc ++ Wr) ∧ ap ds Wc (fun d W' => Q d (W' ++ Wr)) fun C m W' => x.A C m (W' ++ Wr)
@[simp] def aMethX (x : XW) (C : Addr) (ns : List Str) (ap : ASp) (o : AE) (a : AA) : AE := fun G W Q => o G W fun q W1 => match q with
  | .adr p => (∃ fs, (p, OD.ins C fs) ∈ W1 ∧ fs.map (·.1) = ns) ∧ a G W1 fun ds W2 => ∃ Wc Wr, W2.Perm (Wc ++ Wr) ∧ ap (.adr p :: ds) Wc (fun d W' => Q d (W' ++ Wr)) fun C m W' => x.A C m (W' ++ Wr)
  | _ => False
theorem XC.perm {W W' : Om} {H S : Hp} (h : XC K x W H S) (p : W'.Perm W) : XC K x W' H S := fun C m W2 H2 S2 d st => h C m W2 H2 S2 d (st.perm p.symm)
theorem ref_callWX {ap : ASp} {t : TA} {a : AA} (ha : RefA K x t a) : RefE K x (tCall (toSp K ap) [] x.E t) (aCallWX x ap a) := fun G σ W H S AQ Q n h k =>
  ha G σ W H S _ _ n h fun ds W1 vs H1 S1 st1 w1 hv h1 => by
    obtain ⟨Wc, Wr, pm, h1⟩ := h1
    have w2 := w1.perm pm.symm
    refine ⟨S1, ds, Wc, _, _, w2.left, by rw [List.append_nil]; exact hv, h1, fun d W' v H' S' st w' hv' q => ?_, xc_frame w2 ((n.x.step st1).perm pm.symm)⟩
    obtain ⟨w3, st3⟩ := Wd.frame w2 st w'
    exact k d _ v H' S' (st1.trans (st3.perm pm)) w3 hv' q
theorem ref_methX {C : Addr} {ns : List Str} {m : Str} {ap : ASp} {to : TE} {o : AE} {t : TA} {a : AA} (hm : ∀ fs : List (Str × D), fs.map (·.1) = ns → fs.lookup m = none) (ho : RefE K x to o) (ha : RefA K x t a) : RefE K x (tMeth C m (toSp K ap) [] x.E to t) (aMethX x C ns ap o a) := fun G σ W H S AQ Q n h k =>
  ho G σ W H S _ _ n h fun q W1 u H1 S1 st1 w1 hu h1 => by
    cases q with
    | adr p =>
      obtain ⟨⟨fs, hf, hn⟩, h1⟩ := h1
      cases hu
      obtain ⟨_, dx, vs0, e0, l0⟩ := w1.own _ hf
      refine ⟨p, dx, vs0, rfl, e0, l0.lookup_none (hm fs hn), ha G σ W1 H1 S1 _ _ (n.step st1 w1) h1 fun ds W2 vs H2 S2 st2 w2 hv h2 => ?_⟩
      obtain ⟨Wc, Wr, pm, h2⟩ := h2
      have w3 := w2.perm pm.symm
      refine ⟨S2, .adr p :: ds, Wc, _, _, w3.left, by rw [List.append_nil]; exact .cons (.adr p) hv, h2, fun d W' v H' S' st w' hv' q => ?_, xc_frame w3 ((n.x.step (st1.trans st2)).perm pm.symm)⟩
      obtain ⟨w4, st4⟩ := Wd.frame w3 st w'
      exact k d _ v H' S' ((st1.trans st2).trans (st4.perm pm)) w4 hv' q
    | _ => exact h1.elim
end
section
variable {X : Cx} {x : XW} {k : Nat} {n : Str} {ps : List Str} {e : Expr} {es : List Expr} {al : AA} {p pos : Pos}
theorem de_callWX {ap : ASp} (F : Cal X.prog X.w X.K X.mg X.base (L2N.CX X.prog X.w) k n ps ap) (hr : Room k X.A) (hx : Passes (L2N.CX X.prog X.w) X x.E) (ha : DA X x (e :: es) al) (hg : Gl X n := by rfl) (hdb : (n == ("__debug__" : Str)) = false := by decide)
    (he : starEach (e :: es) X.env = (false, eval e X.env) :: starEach es X.env := by rfl) (hpl : (backTo pos (starEach es X.env)).any (·.1) = false := by rfl) : DE X x (.Call (.Name n p) (e :: es) [] pos) (aCallWX x ap al) := by
  obtain ⟨f, fd, F, hm, hk, hb⟩ := F
  obtain ⟨t, h1, h2⟩ := ha
  exact ⟨⟨_, pe_call F hr hg hm hk hb .nil hx h1 hdb he hpl, ref_callWX h2⟩⟩
end
end Hd
end

section
set_option maxHeartbeats 4000000
/-! # Hd: calls while an exception is handled: a comprehension over a text -/
namespace HotZ
open PySem PySem.Spec PyProof.Rows HotX
section
variable {prog : Program} {w : World} {A : Around} {E : Value → Shared → Prop} {s : Shared}
theorem ascii_end_hot {it x1 : Addr} {x : Str} {t : Tok} {i : Nat} {Q : Option Value → Shared → Prop} (hot : HotAt A x1 s.heap) (hne : x1 ≠ it)
    (hit : s.heap.IsStrIter it "str_ascii_iterator" x t i) (hx : x.cps[i]? = none)
    (hQ : ∀ h', (∀ b o, b ≠ it → s.heap.get? b = some o → h'.get? b = some o) → Q none { s with heap := h' }) : wpAny (model prog w) A (pyNext (.ref it)) Q E s := by
  obtain ⟨o, ho, hc, hd⟩ := id hit
  obtain ⟨hh, o1, vs1, h1, d1, c1⟩ := hot
  unfold pyNext
  refine wpAny_bind (wpAny_attempt (wpAny_callSpecial?_slot (name := Str.ofString "__next__") hit.typeIs F.slot_str_ascii_iterator_next
    (wpAny_call_entry F.slot_str_ascii_iterator_next hit.typeIs F.entry_str_ascii_iterator_next ?_ (F.args_str_ascii_iterator_next_1 _))))
  show wpAny _ _ (field (.ref it) 0 >>= _) _ _ s
  refine wpAny_bind (wpAny_field ho hd (x := .str x t) rfl ?_)
  show wpAny _ _ (field (.ref it) 1 >>= _) _ _ s
  refine wpAny_bind (wpAny_field ho hd (x := .int i 0) rfl ?_)
  simp only [Int.toNat_natCast, hx]
  refine wpAny_bind (wpAny_rule (wpAny_bind (wpAny_setField ho hd (by simp) (wpAny_bind (wpAny_letGo ?_)))))
  show wpAny _ _ (newExc (.type "StopIteration") [] >>= _) _ _ _
  refine wpAny_bind ?_
  simp only [newExc, newTuple]
  refine wpAny_bind (wpAny_newObj_type ?_ (by size_fits))
  refine wpAny_bind (m := firstArgMember _ _) (wpAny_of_eq (a := Value.none) (by first | rfl | (simp only [firstArgMember]; rfl)) ?_)
  refine wpAny_newObj_type ?_ (by size_fits)
  have u1 : ∀ f b ob, b ≠ it → s.heap.get? b = some ob → (s.heap.update it f).get? b = some ob := fun f b ob hb e => by rw [Heap.get?_update_other _ _ (Ne.symm hb)]; exact e
  refine raiseNew_hot ⟨hh, o1, vs1, Heap.get?_push_of_some _ (Heap.get?_push_of_some _ (u1 _ _ _ hne h1)), d1, c1⟩ (Nat.ne_of_lt (Heap.lt_size (Heap.get?_push_of_some _ (u1 _ _ _ hne h1)))) (Heap.get?_push_size _ rfl) rfl (by first | (simp; done) | (simp; omega) | (simp only [Array.size_append]; simp; omega)) ?_
  refine wpAny_bind (wpAny_isInstance (T := "StopIteration") (b := true) ⟨_, Heap.get?_update_self _ (Heap.get?_push_size _ rfl) rfl, rfl⟩ isSubtype_stop ?_)
  refine wpAny_pure (hQ _ fun b ob hb e => ?_)
  rw [Heap.get?_update_other _ _ (Nat.ne_of_gt (Heap.lt_size (Heap.get?_push_of_some _ (u1 _ _ _ hb e))))]
  exact Heap.get?_push_of_some _ (Heap.get?_push_of_some _ (u1 _ _ _ hb e))
theorem wide_end_hot {it x1 : Addr} {x : Str} {t : Tok} {i : Nat} {Q : Option Value → Shared → Prop} (hot : HotAt A x1 s.heap) (hne : x1 ≠ it)
    (hit : s.heap.IsStrIter it "str_iterator" x t i) (hx : x.cps[i]? = none)
    (hQ : ∀ h', (∀ b o, b ≠ it → s.heap.get? b = some o → h'.get? b = some o) → Q none { s with heap := h' }) : wpAny (model prog w) A (pyNext (.ref it)) Q E s := by
  obtain ⟨o, ho, hc, hd⟩ := id hit
  obtain ⟨hh, o1, vs1, h1, d1, c1⟩ := hot
  unfold pyNext
  refine wpAny_bind (wpAny_attempt (wpAny_callSpecial?_slot (name := Str.ofString "__next__") hit.typeIs F.slot_str_iterator_next
    (wpAny_call_entry F.slot_str_iterator_next hit.typeIs F.entry_str_iterator_next ?_ (F.args_str_iterator_next_1 _))))
  show wpAny _ _ (field (.ref it) 0 >>= _) _ _ s
  refine wpAny_bind (wpAny_field ho hd (x := .str x t) rfl ?_)
  show wpAny _ _ (field (.ref it) 1 >>= _) _ _ s
  refine wpAny_bind (wpAny_field ho hd (x := .int i 0) rfl ?_)
  simp only [Int.toNat_natCast, hx]
  refine wpAny_bind (wpAny_rule (wpAny_bind (wpAny_setField ho hd (by simp) (wpAny_bind (wpAny_letGo ?_)))))
  show wpAny _ _ (newExc (.type "StopIteration") [] >>= _) _ _ _
  refine wpAny_bind ?_
  simp only [newExc, newTuple]
  refine wpAny_bind (wpAny_newObj_type ?_ (by size_fits))
  refine wpAny_bind (m := firstArgMember _ _) (wpAny_of_eq (a := Value.none) (by first | rfl | (simp only [firstArgMember]; rfl)) ?_)
  refine wpAny_newObj_type ?_ (by size_fits)
  have u1 : ∀ f b ob, b ≠ it → s.heap.get? b = some ob → (s.heap.update it f).get? b = some ob := fun f b ob hb e => by rw [Heap.get?_update_other _ _ (Ne.symm hb)]; exact e
  refine raiseNew_hot ⟨hh, o1, vs1, Heap.get?_push_of_some _ (Heap.get?_push_of_some _ (u1 _ _ _ hne h1)), d1, c1⟩ (Nat.ne_of_lt (Heap.lt_size (Heap.get?_push_of_some _ (u1 _ _ _ hne h1)))) (Heap.get?_push_size _ rfl) rfl (by first | (simp; done) | (simp; omega) | (simp only [Array.size_append]; simp; omega)) ?_
  refine wpAny_bind (wpAny_isInstance (T := "StopIteration") (b := true) ⟨_, Heap.get?_update_self _ (Heap.get?_push_size _ rfl) rfl, rfl⟩ isSubtype_stop ?_)
  refine wpAny_pure (hQ _ fun b ob hb e => ?_)
  rw [Heap.get?_update_other _ _ (Nat.ne_of_gt (Heap.lt_size (Heap.get?_push_of_some _ (u1 _ _ _ hb e))))]
  exact Heap.get?_push_of_some _ (Heap.get?_push_of_some _ (u1 _ _ _ hb e))
end
end HotZ
namespace L2H
open PySem PySem.Spec PyProof.Rows L2 HotX
/-- the handled exception stood in the context's first state, unreachable since -/
def HotS (X : Cx) (x1 : Addr) : Prop := X.A.handled = some (.ref x1) ∧ (∃ (o : Obj) (vs : Array Value), X.s_0.heap.get? x1 = some o ∧ o.data = .fields vs ∧ vs[2]? = some .none) ∧ X.H_0 x1 = none ∧ x1 ∉ X.fs ∧ x1 ∉ X.ex
theorem HotS.at {X : Cx} {x1 : Addr} {pins : List (Addr × Obj)} {σ : L2.St} {H : Hp} {s : Shared} (c : HotS X x1) (I : Inv X pins σ H s) : HotAt X.A x1 s.heap := by
  obtain ⟨hh, ⟨o, vs, e, d, z⟩, h0, hf, hx⟩ := c
  exact ⟨hh, o, vs, I.base.keep x1 o e h0 hf hx, d, z⟩
structure TurnF (P : Program) (w : World) (K : PySem.W.Frag) (tg : Expr) (J : It) (fp : List Addr) (it : Addr) (tn : Nat → Heap → Prop) : Prop where
  mem : it ∈ fp
  obj : ∀ i h, tn i h → ∀ b ∈ fp, ∃ o, h.get? b = some o ∧ ∀ v, o.data ≠ .cell v
  keep : ∀ i h h', tn i h → (∀ b ∈ fp, ∀ o, h.get? b = some o → h'.get? b = some o) → tn i h'
  item : ∀ (X : Cx), X.prog = P → X.w = w → X.K = K → ∀ (i : Nat) (pins : List (Addr × Obj)) (s : Shared) (σ : L2.St) (H : Hp) (E : Value → Shared → Prop), Inv X pins σ H s → (∀ b ∈ fp, FpOk X pins H b) → tn i s.heap → J.go i H →
    wpAny (model P w) X.A (pyNext (.ref it)) (fun r s1 => ∃ u, r = some u ∧
      wpAny (model P w) X.A (letOwnedTupleGo tg (.ref it) u) (fun _ s2 => ∃ x H', Inv X pins σ H' s2 ∧ RelV x u ∧ J.yld i H x H' ∧ tn (i + 1) s2.heap ∧ ∀ b ∈ fp, H' b = none) E s1) E s
  done : ∀ (X : Cx) (x1 : Addr), X.prog = P → X.w = w → X.K = K → HotS X x1 → ∀ (i : Nat) (pins : List (Addr × Obj)) (s : Shared) (σ : L2.St) (H : Hp) (E : Value → Shared → Prop), Inv X pins σ H s → (∀ b ∈ fp, FpOk X pins H b) → tn i s.heap → J.stop i H →
    wpAny (model P w) X.A (pyNext (.ref it)) (fun r s1 => r = none ∧ Inv X pins σ H s1) E s
  self : ∀ (A : Around) (i : Nat) (s : Shared) (Q : Value → Shared → Prop) (E : Value → Shared → Prop), tn i s.heap → Q (.ref it) s → wpAny (model P w) A (pyIter (.ref it)) Q E s
theorem turn_strF {P : Program} {w : World} {K : PySem.W.Frag} {tg : Expr} (it : Addr) (x : Str) (t : Tok) (ty : String) (hty : ty = "str_ascii_iterator" ∨ ty = "str_iterator") :
    TurnF P w K tg (Its x) [it] it (fun i h => h.IsStrIter it ty x t i) where
  mem := by simp
  obj := fun i h st b hb => by
    have e : b = it := by simpa using hb
    subst e
    obtain ⟨o, e, c, d⟩ := st
    exact ⟨o, e, fun v z => by rw [d] at z; cases z⟩
  keep := fun i h h' st k => let ⟨o, ho, r⟩ := st; ⟨o, k it (by simp) o ho, r⟩
  item := by
    intro X hP hw hK i pins s σ H E I hf st hg
    subst hP hw hK
    obtain ⟨f0, f1, f2, f3, f4, f5⟩ := hf it (by simp)
    have hlt : i < x.cps.size := hg
    have hx : x.cps[i]? = some x.cps[i] := by simp [hlt]
    have hno : ["enumerate", "zip", "dict_itemiterator", "dict_reverseitemiterator", "odict_iterator", "itertools.zip_longest", "itertools.pairwise"].contains ty = false := by
      rcases hty with e | e
      · rw [e]; decide
      · rw [e]; decide
    have go : ∀ h', h'.IsStrIter it ty x t (i + 1) → Heap.SameBut it s.heap h' → ∃ u, some (Value.str ⟨#[x.cps[i]]⟩ s.toks) = some u ∧
        wpAny (model X.prog X.w) X.A (letOwnedTupleGo tg (.ref it) u) (fun _ s2 => ∃ y H', Inv X pins σ H' s2 ∧ RelV y u ∧ (Its x).yld i H y H' ∧ s2.heap.IsStrIter it ty x t (i + 1) ∧ ∀ b ∈ [it], H' b = none) E { s with heap := h', toks := s.toks + 1 } := fun h' st' sb => by
      have I1 : Inv X pins σ H { s with heap := h', toks := s.toks + 1 } := I.turned (fun b o hb e => (sb.2 b hb).trans e) f0 f1 f3 f4 f5
      obtain ⟨oi, e, cc, dd⟩ := id st'
      exact ⟨_, rfl, go_of (s := { s with heap := h', toks := s.toks + 1 }) e cc dd hno ⟨.str ⟨#[x.cps[i]]⟩, H, I1, ⟨s.toks, rfl⟩, ⟨rfl, _, hx, rfl⟩, st', fun b hb => (hf b hb).1⟩⟩
    rcases hty with e | e
    · subst e
      exact wpAny_pyNext_ascii_item st hx go
    · subst e
      exact wpAny_pyNext_wide_item st hx go
  done := by
    intro X x1 hP hw hK hc i pins s σ H E I hf st hg
    subst hP hw hK
    obtain ⟨f0, f1, f2, f3, f4, f5⟩ := hf it (by simp)
    have hx : x.cps[i]? = none := Array.getElem?_eq_none hg
    have hne : x1 ≠ it := by
      obtain ⟨_, ⟨o, vs, e, _, _⟩, _, _, he⟩ := hc
      rintro rfl
      rcases f3 with z | z
      · exact he z
      · exact absurd (Nat.lt_of_lt_of_le (Heap.lt_size e) z) (Nat.lt_irrefl _)
    rcases hty with e | e
    · subst e
      exact HotZ.ascii_end_hot (hc.at I) hne st hx fun h' eb => ⟨rfl, I.turned (t' := s.toks) (fun b o hb e => eb b o hb e) f0 f1 f3 f4 f5⟩
    · subst e
      exact HotZ.wide_end_hot (hc.at I) hne st hx fun h' eb => ⟨rfl, I.turned (t' := s.toks) (fun b o hb e => eb b o hb e) f0 f1 f3 f4 f5⟩
  self := fun A i s Q E st h => by
    rcases hty with e | e
    · rw [e] at st; exact wpAny_pyIter_striter_ascii st h
    · rw [e] at st; exact wpAny_pyIter_striter_wide st h
def PIEF (X : Cx) (pins : List (Addr × Obj)) (σ : L2.St) (tg : Expr) (R : It → Hp → Prop) (itv : Value) (s2 : Shared) : Prop :=
  ∃ (it : Addr) (fp : List Addr) (tn : Nat → Heap → Prop) (J : It) (H' : Hp), itv = .ref it ∧ Inv X pins σ H' s2 ∧ TurnF X.prog X.w X.K tg J fp it tn ∧ tn 0 s2.heap ∧ (∀ b ∈ fp, FpOk X pins H' b) ∧ R J H'
structure PIF (X : Cx) (tg iter : Expr) (wi : TI) : Prop where
  run : ∀ (pins : List (Addr × Obj)) (s : Shared) (σ : L2.St) (H : Hp) (R : It → Hp → Prop), Inv X pins σ H s → wi σ H R →
    wpAny (model X.prog X.w) X.A (eval iter X.env) (fun v s1 => wpAny (model X.prog X.w) X.A (pyIter v) (PIEF X pins σ tg R) X.xe s1) X.xe s
theorem pi_oneF {X : Cx} {tg : Expr} {pins : List (Addr × Obj)} {σ : L2.St} {H : Hp} {s : Shared} {R : It → Hp → Prop} {J : It} {tn : Nat → Heap → Prop} {tk : Nat} (I : Inv X pins σ H s) (o : Obj)
    (T : TurnF X.prog X.w X.K tg J [s.heap.objs.size] s.heap.objs.size tn) (st : tn 0 (s.heap.push o)) (q : R J H) : PIEF X pins σ tg R (.ref s.heap.objs.size) { s with heap := s.heap.push o, toks := tk } := by
  refine ⟨s.heap.objs.size, [s.heap.objs.size], tn, J, H, rfl, I.kept fun b ob e => Heap.get?_push_of_some _ e, T, st, fun b hb => ?_, q⟩
  have e : b = s.heap.objs.size := by simpa using hb
  subst e
  exact I.fpOk (Nat.le_refl _) (I.hok.fresh (Nat.le_refl _))
theorem pi_strF {X : Cx} {tg e : Expr} {te : TE} (he : PE X e te) : PIF X tg e (iStr te) := by
  refine ⟨fun pins s σ H R I h => ?_⟩
  refine thn (he.run pins s σ H _ I h) fun v s1 ⟨y, H1, I1, r1, x, ex, q⟩ => ?_
  subst ex
  obtain ⟨t, rfl⟩ := r1
  cases ha : x.cps.all (· < 128)
  · exact wpAny_pyIter_wide ha (pi_oneF (tk := s1.toks) I1 _ (turn_strF _ x t "str_iterator" (.inr rfl)) ⟨_, Heap.get?_push_size _ rfl, rfl, rfl⟩ q)
  · exact wpAny_pyIter_ascii ha (pi_oneF (tk := s1.toks) I1 _ (turn_strF _ x t "str_ascii_iterator" (.inl rfl)) ⟨_, Heap.get?_push_size _ rfl, rfl, rfl⟩ q)
section
variable {X : Cx}
theorem thnFF {α : Type} {t : Sem α} {Q Q' : α → Shared → Prop} {M : Model} {A : Around} {E : Value → Shared → Prop} {s : Shared} (h : wpAny M A t Q (fun _ _ => False) s) (hQ : ∀ a s, Q a s → Q' a s) : wpAny M A t Q' E s := wpAny_mono h hQ fun _ _ z => False.elim z
/-- a list comprehension as a value, while an exception is handled -/
theorem pe_lcF {elt tg iter : Expr} {ifs : List Expr} {scope : Scope} {own : List (Str × Nat)} {pos : Pos} {wi : TI} {g : TG} {tt : TT} {te : TE} (hc : HotC X) (hN : X.N.Nodup) (hi : PIF X tg iter wi) (ok : BlkOk X.N X.env.scope scope own)
    (hg : ∀ (s : Shared) (H : Hp) (C : Addr) (cl : List (Str × Addr)) (fp : List Addr), PG (X.blk s H scope (compEnvC scope cl C X.env) fp) tg g) (ht : ∀ (s : Shared) (H : Hp) (C : Addr) (cl : List (Str × Addr)) (fp : List Addr), PTs (X.blk s H scope (compEnvC scope cl C X.env) fp) ifs tt)
    (he : ∀ (s : Shared) (H : Hp) (C : Addr) (cl : List (Str × Addr)) (fp : List Addr), PE (X.blk s H scope (compEnvC scope cl C X.env) fp) elt te) (hs : ∀ x, foldedSetIterable iter X.env x = pure x := by intro _; rfl) :
    PE X (.ListComp elt [⟨tg, iter, ifs, 0⟩] scope pos) (tLc wi g tt te (own.map (·.2))) := by
  refine ⟨fun pins s σ H Q I h => ?_⟩
  rw [eval_ListComp]
  have hfree : ∀ y ∈ scope.names, y.2 = .free → ∃ c, X.env.cells.lookup y.1 = some c := fun y hy e => by
    rcases ok.free y hy e with k | k
    · exact I.ok.has _ (.inl k)
    · exact I.ok.has _ (.inr k)
  refine wpAny_comprehension_free (use := none) rfl hs (closure_ok hfree) ok.kind (fun y hy e => by rw [ok.uniq y hy, e])
    (thn (hi.run pins s σ H _ I h) fun xv s1 hx => thn hx fun itv s2 h2 => ?_)
  obtain ⟨it, fp, tn, J, H2, e, I2, T, st2, f2, q⟩ := h2
  subst e
  refine wpAny_newObj_type (newEnv_comp ?_) (by show 0 ≤ sizeLine; decide)
  generalize hD : s2.heap.objs.size = D
  have hDn : H2 D = none := I2.hok.fresh (Nat.le_of_eq hD)
  obtain ⟨W, ⟨m0, w0⟩, turn⟩ := q D hDn
  generalize hs3 : ({ s2 with heap := s2.heap.push { cls := .type "list", data := .seq ([] : List Value).toArray } } : Shared) = s3
  have I3 : Inv X pins σ (upd H2 D (.lst [])) s3 := by
    rw [← hs3]
    refine I2.laid (t' := s2.toks) (fun b o e => Heap.get?_push_of_some _ e) (Nat.le_of_eq hD) ⟨Nat.zero_le _, [], 0, .nil, ?_⟩
    rw [← hD]
    exact Heap.get?_push_size _ rfl
  have h3 : s3.heap = s2.heap.push { cls := .type "list", data := .seq ([] : List Value).toArray } := by rw [← hs3]
  have sz : ∀ b ∈ fp, b < s2.heap.objs.size := fun b hb => by
    obtain ⟨o, e, _⟩ := T.obj _ _ st2 b hb
    exact Heap.lt_size e
  have f3 : ∀ b ∈ fp, FpOk X pins (upd H2 D (.lst [])) b ∧ b < s3.heap.objs.size := fun b hb => by
    have hlt := sz b hb
    refine ⟨⟨?_, (f2 b hb).2⟩, by rw [h3, Heap.size_push]; exact Nat.lt_succ_of_lt hlt⟩
    rw [upd_ne (by rw [← hD]; exact Nat.ne_of_lt hlt)]
    exact (f2 b hb).1
  have st3 : tn 0 s3.heap := T.keep _ _ _ st2 fun b _ o e => by rw [h3]; exact Heap.get?_push_of_some _ e
  have I4 := block_start I3 ok hN f3
  have pg := hg s3 (upd H2 D (.lst [])) s3.heap.objs.size (cellsFrom (s3.heap.objs.size + 1) scope.names (cloFrom X.env.cells scope.names [])) fp
  have pt := ht s3 (upd H2 D (.lst [])) s3.heap.objs.size (cellsFrom (s3.heap.objs.size + 1) scope.names (cloFrom X.env.cells scope.names [])) fp
  have pe := he s3 (upd H2 D (.lst [])) s3.heap.objs.size (cellsFrom (s3.heap.objs.size + 1) scope.names (cloFrom X.env.cells scope.names [])) fp
  show codeAny _ _ (.compStart (.ListComp elt [⟨tg, iter, ifs, 0⟩] scope pos) 0 (.ref it) (.ref D) (compEnvC scope (cellsFrom (s3.heap.objs.size + 1) scope.names (cloFrom X.env.cells scope.names [])) s3.heap.objs.size X.env)) (compPost (model X.prog X.w) X.A X.xe none _ (.ref D) s3.heap.objs.size) { s3 with heap := pushCells (s3.heap.push { cls := .type "dict", data := .dict #[] }) scope.names }
  have nfp : ∀ b ∈ fp, (upd H2 D (.lst [])) b = none := fun b hb => (f3 b hb).1.1
  generalize hce : compEnvC scope (cellsFrom (s3.heap.objs.size + 1) scope.names (cloFrom X.env.cells scope.names [])) s3.heap.objs.size X.env = ce at I4 pg pt pe ⊢
  have cL : ce.locals = s3.heap.objs.size := by subst hce; rfl
  generalize hH3 : upd H2 D (.lst []) = H3 at I3 I4 pg pt pe w0 nfp f3
  -- the handled exception, seen from the block
  obtain ⟨x1, hot⟩ : ∃ x1, HotS (X.blk s3 H3 scope ce fp) x1 := by
    obtain ⟨p, ⟨hh, vs, e1, c1⟩, hp⟩ := hc
    have P1 := I3.pin p (List.mem_append_left _ hp)
    refine ⟨p.1, hh, ⟨p.2, vs, P1.1, e1, c1⟩, P1.2.1, fun z => ?_, fun z => (f3 p.1 z).1.2.2.2.2.2 p (List.mem_append_left _ hp) rfl⟩
    exact (List.mem_cons.mp (I3.stkSub p.1 z)).elim P1.2.2.1 P1.2.2.2.1
  generalize hs4 : ({ s3 with heap := pushCells (s3.heap.push { cls := .type "dict", data := .dict #[] }) scope.names } : Shared) = s4 at I4 ⊢
  have st4 : tn 0 s4.heap := T.keep _ _ _ st3 fun b _ o e => by rw [← hs4]; exact pushCells_keeps _ _ _ _ (Heap.get?_push_of_some _ e)
  have stat : ∀ {σ' : L2.St} {H' : Hp} {s' : Shared}, Inv (X.blk s3 H3 scope ce fp) [] σ' H' s' → (∀ b ∈ fp, H' b = none) → ∀ b ∈ fp, FpOk (X.blk s3 H3 scope ce fp) [] H' b := fun {σ' H' s'} I' hn b hb =>
    ⟨hn b hb, (I'.ok.exf b hb).1, I'.ok.exfs b hb, .inl hb, fun x c e => (I'.ok.exf b hb).2 x c e, fun p hp => absurd (show p ∈ ([] : List (Addr × Obj)) ++ [] from hp) (by simp)⟩
  have loop : codeAny (model X.prog X.w) X.A (.compLoop (.ListComp elt [⟨tg, iter, ifs, 0⟩] scope pos) 0 (.ref it) (.ref D) ce) (compPost (model X.prog X.w) X.A X.xe none (EP X pins σ Q) (.ref D) s3.heap.objs.size) s4 := by
    refine compLoop_any (fun n s' => ∃ i H', Inv (X.blk s3 H3 scope ce fp) [] (wipe σ (own.map (·.2))) H' s' ∧ tn i s'.heap ∧ (∀ b ∈ fp, H' b = none) ∧ W i n H') ?_ m0 ⟨0, H3, I4, st4, nfp, w0⟩
    rintro n s5 ⟨i, H5, I5, st5, n5, w5⟩
    rcases turn i n H5 w5 with ⟨stop, qq⟩ | ⟨go, Nx, hNx, step⟩
    · have td := T.done (X.blk s3 H3 scope ce fp) x1 rfl rfl rfl hot i [] s5 _ H5 (fun _ _ => False) I5 (stat I5 n5) st5 stop
      refine thnFF td fun r s6 ⟨hr, I6⟩ => ?_
      subst hr
      have I7 : Inv X pins σ H5 s6 := I3.call' (ch := fp) I6.os I6.base I6.hok I6.bare fun b hb => ⟨(f3 b hb).1.2.2.2.1, (f3 b hb).1.2.1, (f3 b hb).1.2.2.2.2.1, (f3 b hb).1.2.2.2.2.2⟩
      have nC : H5 s3.heap.objs.size = none := by
        have z : H5 ce.locals = none := I6.free
        rw [cL] at z
        exact z
      obtain ⟨m, hn, _⟩ := I6.loc
      have hn : s6.heap.Ns ce.locals m := hn
      rw [cL] at hn
      refine ⟨m, hn, fun h'' sb => ?_⟩
      obtain ⟨f0, f1, f2, f3, f4, f5⟩ := I3.fpOk (Nat.le_refl _) nC
      exact ⟨.ref D, H5, I7.turned (t' := s6.toks) (fun b o hb e => (sb.2 b hb).trans e) f0 f1 f3 f4 f5, rfl, qq⟩
    · have ti := T.item (X.blk s3 H3 scope ce fp) rfl rfl rfl i [] s5 _ H5 (fun _ _ => False) I5 (stat I5 n5) st5 go
      refine thnFF ti fun r s6 ⟨u, hr, h6⟩ => ?_
      subst hr
      refine thnFF h6 fun _ s7 ⟨x, H7, I7, r7, y7, st7, n7⟩ => ?_
      have I7' := I7.pinned (stat I7 n7) (T.obj _ _ st7)
      refine thnFF (pg.run _ s7 _ H7 x u _ I7' r7 (step x H7 y7)) fun _ s8 ⟨σ8, H8, I8, hw8, q8⟩ => ?_
      refine thnFF (pt.run _ s8 σ8 H8 _ I8 q8) fun b s9 ⟨H9, I9, q9⟩ => ?_
      have fin : ∀ {s' : Shared} {H' : Hp}, Inv (X.blk s3 H3 scope ce fp) ([] ++ pinsAt fp s7.heap) σ8 H' s' → Nx H' → ∃ m, m < n ∧ ∃ i H', Inv (X.blk s3 H3 scope ce fp) [] (wipe σ (own.map (·.2))) H' s' ∧ tn i s'.heap ∧ (∀ b ∈ fp, H' b = none) ∧ W i m H' := fun {s' H'} I' nx => by
        obtain ⟨m', hm, w'⟩ := hNx H' nx
        have pin' : ∀ b ∈ fp, ∀ o, s7.heap.get? b = some o → s'.heap.get? b = some o ∧ H' b = none := fun b hb o e =>
          let z := I'.pin (b, o) (List.mem_append_right _ (List.mem_append_right _ (mem_pinsAt hb e)))
          ⟨z.1, z.2.1⟩
        have hl : (wipe σ (own.map (·.2))).length = σ8.length := by rw [← hw8, wipe_length]
        refine ⟨m', hm, i + 1, H', (I'.unpinned (pins := [])).weak hl (fun j v e => ?_), T.keep _ _ _ st7 fun b hb o e => (pin' b hb o e).1, fun b hb => ?_, w'⟩
        · rw [← hw8] at e
          exact (wipe_some e).1
        · obtain ⟨o, e, _⟩ := T.obj _ _ st7 b hb
          exact (pin' b hb o e).2
      cases b with
      | false =>
        simp only [Bool.false_eq_true, if_false] at q9 ⊢
        exact fin I9 q9
      | true =>
        simp only [if_true] at q9 ⊢
        refine thnFF (pe.run _ s9 σ8 H9 _ I9 q9) fun z s10 ⟨yv, H10, I10, r10, acc, hD10, hz10, nx⟩ => ?_
        exact app_ok (X := X.blk s3 H3 scope ce fp) I10 hD10 hz10 r10 fun s11 I11 => fin I11 nx
  exact codeAny_compStart_list loop (T.self X.A 0 _ _ _ st4 loop)
end
end L2H
namespace Hd
open PySem PySem.Spec PyProof.Rows L2
section
variable {P : Program} {w : World} {K : PySem.W.Frag} {mg : Str → Option Value} {base : Heap} {n q : Str} {params : Arguments} {body : List Stmt} {scope : Scope} {f : Addr} {N ps : List Str} {k : Nat}
/-- a def without effects, called while an exception is handled -/
def CalH (P : Program) (w : World) (K : PySem.W.Frag) (mg : Str → Option Value) (base : Heap) (k : Nat) (n : Str) (ps : List Str) (p : List D → (D → Prop) → Prop) : Prop := ∃ f fd, L2H.FnH P w K mg base CX0 k f fd ps (toSp K (pureSp p)) ∧ mg n = some (.ref f) ∧ PySem.W.keepIn K (.ref f) = true ∧ Binds K fd ps []
abbrev RdsH (P : Program) (w : World) (K : PySem.W.Frag) (mg : Str → Option Value) (base : Heap) (N : List Str) (q : Str) (scope : Scope) (f : Addr) (body : List Stmt) (k : Nat) (rd : AS) : Prop :=
  ∀ (cdv : Value) (A : Around) (outer : List Env) (s : Shared) (H : Hp) (E : XK) (p : Addr × Obj), L2H.Hot1 A p → L2H.RoomH k (A.deeper (envOfC q scope s.heap.objs.size f cdv)) → DSs (L2H.cxH CX0 P w K mg base N q scope f cdv A outer s H E p).nox X0 body rd
theorem mk_calH {rd : AS} {p : List D → (D → Prop) → Prop} (F : ∃ fd, FunD K n q params body scope [] [] f fd) (hm : mg n = some (.ref f)) (sc : FnScope N ps scope) (hb : Bd n q params body scope ps) (hl : ∀ ds Q, p ds Q → ds.length = ps.length)
    (hd : RdsH P w K mg base N q scope f body k rd) (hp : Keeps N (pureSp p) rd) : CalH P w K mg base (k + 1) n ps p := by
  obtain ⟨fd, F⟩ := F
  have F' := F
  obtain ⟨oc, od, dV, kV, doc, pm, an, cdv, ct, osl, rfl, lk, hcd, _, _⟩ := F.ex
  refine ⟨f, _, L2H.fn_ofH lk hcd sc (fun vs H Q E ⟨S, ds, W, AQ, AX, w, hv, h, _⟩ => by rw [hv.length]; exact hl ds _ h.2) fun A outer s H vs Q E pp hot hr ⟨S, ds, W, AQ, AX, w, hv, h, hk, hx⟩ => ?_, hm, F.kp, F'.bindsN hb⟩
  obtain ⟨t, h1, h2⟩ := hd cdv A outer s H E pp hot hr
  exact ⟨t, h1.nox, h2 (startD N ds) (L2.start N vs) W H S _ _ ⟨w, start_sl hv, xc0⟩ (hp ds W AQ AX h) ⟨fun G' σ' W' H' S' st n q => hk .non W' .non H' S' st n.w .non q, fun d v W' H' S' st w hv q => hk d W' v H' S' st w hv q, fun _ _ _ _ _ _ _ q => q.elim, fun _ _ _ _ _ _ _ q => q.elim⟩⟩
end
section
variable {X : Cx} {x : XW} {e : Expr} {es : List Expr} {al : AA} {ae : AE} {k : Nat} {n : Str} {ps : List Str} {p pos : Pos} {sts : List Stmt} {s : AS}
theorem ref_callH {K : PySem.W.Frag} {x : XW} {pf : List D → (D → Prop) → Prop} {t : TA} {a : AA} (ha : RefA K x t a) : RefE K x (tCallS (toSp K (pureSp pf)) (fun _ => E0) t) (aCallP pf a) := fun G σ W H S AQ Q n h k =>
  ha G σ W H S _ _ n h fun ds W1 vs H1 S1 st1 w1 hv h1 => ⟨S1, ds, [], fun d _ => AQ d W1, fun _ _ _ => False, w1.nil, hv, ⟨rfl, h1⟩, fun d W' v H' S' st w' hv' q => by
    obtain ⟨w2, st2⟩ := pure_frame w1 st w'
    exact k d W1 v H' S' (st1.trans st2) w2 hv' q, xc0⟩
theorem de_callH {pf : List D → (D → Prop) → Prop} (F : CalH X.prog X.w X.K X.mg X.base k n ps pf) (hr : L2H.RoomH k X.A) (hc : L2H.HotC X) (ha : DA X x (e :: es) al) (hg : Gl X n := by rfl) (hdb : (n == ("__debug__" : Str)) = false := by decide)
    (he : starEach (e :: es) X.env = (false, eval e X.env) :: starEach es X.env := by rfl) (hpl : (backTo pos (starEach es X.env)).any (·.1) = false := by rfl) : DE X x (.Call (.Name n p) (e :: es) [] pos) (aCallP pf al) := by
  obtain ⟨f, fd, F, hm, hk, hb⟩ := F
  obtain ⟨t, h1, h2⟩ := ha
  exact ⟨⟨_, L2H.pe_callH (E := fun _ => E0) F hr hc hg hm hk hb (fun _ _ _ _ _ _ _ h => h.elim) h1 hdb he hpl, ref_callH h2⟩⟩
theorem ds_forH1 {tg it : Expr} {g : AG} (hp : PassesOwn (model X.prog X.w) X.A X.env X.xe) (hc : L2H.HotC X) (hm : X.mg "range" = none) (hi : DE X x it ae) (hg : DG X x tg g) (hb : DSs X x sts s) (hgl : Gl X "range" := by rfl) (hst : starEach [it] X.env = [(false, eval it X.env)] := by rfl)
    (hs : ∀ x, foldedSetIterable (.Call (.Name "range" p) [it] [] pos) X.env x = pure x := by intro _; rfl) {pos2 : Pos} : DS X x (.For tg (.Call (.Name "range" p) [it] [] pos) sts [] pos2) (sFor (iRng1A ae) g s) := by
  obtain ⟨u, a1, a2⟩ := hi
  obtain ⟨v, b1, b2⟩ := hg
  obtain ⟨z, c1, c2⟩ := hb
  exact ⟨⟨_, L2H.ps_forH hp hc (L2H.pi_range1H hgl hm (pa_cons a1 pa_nil hst) hst) b1 c1 hs, rs_for (ref_iRng1 a2) b2 c2⟩⟩
theorem de_lcHs {elt iter : Expr} {scope : Scope} (own : List (Str × Nat)) (i : Nat) {nm : Str} {np : Pos} {ai ael : AE} (hc : L2H.HotC X) (hN : X.N.Nodup) (ok : BlkOk X.N X.env.scope scope own) (hi : DE X x iter ai)
    (hg : ∀ (s : Shared) (H : Hp) (C : Addr) (cl : List (Str × Addr)) (fp : List Addr), PG (X.blk s H scope (compEnvC scope cl C X.env) fp) (.Name nm np) (gName i))
    (he : ∀ (s : Shared) (H : Hp) (C : Addr) (cl : List (Str × Addr)) (fp : List Addr), DE (X.blk s H scope (compEnvC scope cl C X.env) fp) x elt ael)
    (ho : i ∈ own.map (·.2) := by decide) (hs : ∀ x, foldedSetIterable iter X.env x = pure x := by intro _; rfl) : DE X x (.ListComp elt [⟨.Name nm np, iter, [], 0⟩] scope pos) (aLc (iStrA ai) (gNm i) aYes ael (own.map (·.2))) := by
  obtain ⟨t, h1, h2⟩ := hi
  obtain ⟨te, h3, _, h4⟩ := blk_e he
  exact ⟨⟨_, L2H.pe_lcF hc hN (L2H.pi_strF h1) ok hg (fun _ _ _ _ _ => pts_nil) h3 hs, ref_lc (ref_iStr h2) (rg_nm i) (own_nm ho) ref_yes h4⟩⟩
end
end Hd
end

section
set_option maxHeartbeats 4000000
/-! # The text by places, what the head tells of it -/
namespace Dsn
open PySem PySem.Spec PyProof.Rows L2 Hd

/-! ### the text by places -/
abbrev PW : Program := PySem.Challenge.pw_discountsnearone_s01_answers
def topS (i : Nat) : Stmt := PW.main.body.getD i (.Pass ⟨0, 0, 0, 0⟩)
abbrev s_Value_init : Stmt := inClass (topS 10) 0
abbrev s_read_number : Stmt := topS 11
abbrev s_read_whole : Stmt := topS 12
abbrev s_read_value : Stmt := topS 13
abbrev s_read_parts : Stmt := topS 14
abbrev s_read_arguments : Stmt := topS 15
abbrev s_octets_of : Stmt := topS 16
abbrev s_write_number : Stmt := topS 17
abbrev s_write_truth : Stmt := topS 18
abbrev s_write_whole : Stmt := topS 19
abbrev s_write_text : Stmt := topS 20
abbrev s_write_words : Stmt := topS 21
abbrev s_write_word : Stmt := topS 22
abbrev s_write_list : Stmt := topS 23
abbrev s_write_record : Stmt := topS 24
abbrev s_write_fraction : Stmt := topS 25
abbrev s_write_fractions : Stmt := topS 26
abbrev s_write_again : Stmt := topS 27
abbrev s_write_outcome : Stmt := topS 28
abbrev s_result_parts : Stmt := topS 29
abbrev s_thrown_parts : Stmt := topS 30
abbrev s_write_refusal : Stmt := topS 31
abbrev s_common_divisor : Stmt := topS 33
abbrev s_reduced : Stmt := topS 34
abbrev s_at_fraction : Stmt := topS 35
abbrev s_one_more : Stmt := topS 36
abbrev s_about_one : Stmt := topS 37
abbrev s_is_less : Stmt := topS 38
abbrev s_WrongKind_init : Stmt := inClass (topS 45) 0
abbrev s_OutOfRange_init : Stmt := inClass (topS 46) 0
abbrev s_is_between : Stmt := topS 47
abbrev s_is_pair : Stmt := topS 48
abbrev s_is_transition : Stmt := topS 49
abbrev s_is_state : Stmt := topS 50
abbrev s_transition_of : Stmt := topS 51
abbrev s_system_of : Stmt := topS 52
abbrev s_is_discount : Stmt := topS 53
abbrev s_discount_of : Stmt := topS 54
abbrev s_are_letters : Stmt := topS 55
abbrev s_letters_of : Stmt := topS 56
abbrev s_word_of : Stmt := topS 57
abbrev s_policy_of : Stmt := topS 58
abbrev s_length_of : Stmt := topS 59
abbrev s_all_policies : Stmt := topS 63
abbrev s_first_rewards : Stmt := topS 64
abbrev s_value_polynomial : Stmt := topS 65
abbrev s_value_polynomials : Stmt := topS 66
abbrev s_policy_values : Stmt := topS 67
abbrev s_is_best : Stmt := topS 68
abbrev s_first_best : Stmt := topS 69
abbrev s_optimal_policy : Stmt := topS 70
abbrev s_blackwell_policy : Stmt := topS 71
abbrev s_myopic_policy : Stmt := topS 72
abbrev s_round_sums : Stmt := topS 73
abbrev s_average_rewards : Stmt := topS 74
abbrev s_most_average_rewards : Stmt := topS 75
abbrev s_end_of : Stmt := topS 77
abbrev s_rewards_of : Stmt := topS 78
abbrev s_discounted : Stmt := topS 79
abbrev s_word_reward : Stmt := topS 80
abbrev s_preserves : Stmt := topS 81
abbrev s_is_optimal : Stmt := topS 82
abbrev s_longer_words : Stmt := topS 83
abbrev s_optimal_words : Stmt := topS 84
abbrev s_is_letter : Stmt := topS 90
abbrev s_is_undo : Stmt := topS 91
abbrev s_Walk_init : Stmt := inClass (topS 92) 0
abbrev s_Walk_tell : Stmt := inClass (topS 92) 1
abbrev s_Walk_advance : Stmt := inClass (topS 92) 2
abbrev s_Walk_throw_in : Stmt := inClass (topS 92) 3
abbrev s_Walk_finish : Stmt := inClass (topS 92) 4
abbrev s_Walk_dispose : Stmt := inClass (topS 92) 5
abbrev s_Listing_init : Stmt := inClass (topS 100) 0
abbrev s_Listing_show : Stmt := inClass (topS 100) 1
abbrev s_Listing_end : Stmt := inClass (topS 100) 2
abbrev s_Listing_proceed : Stmt := inClass (topS 100) 3
abbrev s_Listing_skips : Stmt := inClass (topS 100) 4
abbrev s_Listing_next_parts : Stmt := inClass (topS 100) 5
abbrev s_Listing_throw_parts : Stmt := inClass (topS 100) 6
abbrev s_Listing_return_parts : Stmt := inClass (topS 100) 7
abbrev s_Listing_request_parts : Stmt := inClass (topS 100) 8
abbrev s_Listing_advance : Stmt := inClass (topS 100) 9
abbrev s_Listing_throw_in : Stmt := inClass (topS 100) 10
abbrev s_Listing_finish : Stmt := inClass (topS 100) 11
abbrev s_Listing_collect : Stmt := inClass (topS 100) 12
abbrev s_Listing_together : Stmt := inClass (topS 100) 13
abbrev s_Listing_dispose : Stmt := inClass (topS 100) 14
abbrev s_optimal_values : Stmt := topS 102
abbrev s_answer_reward : Stmt := topS 103
abbrev s_answer_values : Stmt := topS 104
abbrev s_answer_optimal : Stmt := topS 105
abbrev s_answer_prefix : Stmt := topS 106
abbrev s_answer_averages : Stmt := topS 107
abbrev s_answer_plain : Stmt := topS 108
abbrev s_new_walk : Stmt := topS 109
abbrev s_new_listing : Stmt := topS 110
abbrev s_answer_walk : Stmt := topS 111
abbrev s_answer_listing : Stmt := topS 112
abbrev s_Library_init : Stmt := inClass (topS 113) 0
abbrev s_Library_returned : Stmt := inClass (topS 113) 1
abbrev s_Library_answer : Stmt := inClass (topS 113) 2
abbrev s_answers : Stmt := topS 115
def d_Value_init : He.DefD := ⟨("Value", some "__init__"), "__init__", "Value.__init__", defArgs s_Value_init, defBody s_Value_init, defScope s_Value_init, [], []⟩
def d_read_number : He.DefD := ⟨("read_number", none), "read_number", "read_number", defArgs s_read_number, defBody s_read_number, defScope s_read_number, [], []⟩
def d_read_whole : He.DefD := ⟨("read_whole", none), "read_whole", "read_whole", defArgs s_read_whole, defBody s_read_whole, defScope s_read_whole, [], []⟩
def d_read_value : He.DefD := ⟨("read_value", none), "read_value", "read_value", defArgs s_read_value, defBody s_read_value, defScope s_read_value, [], []⟩
def d_read_parts : He.DefD := ⟨("read_parts", none), "read_parts", "read_parts", defArgs s_read_parts, defBody s_read_parts, defScope s_read_parts, [], []⟩
def d_read_arguments : He.DefD := ⟨("read_arguments", none), "read_arguments", "read_arguments", defArgs s_read_arguments, defBody s_read_arguments, defScope s_read_arguments, [], []⟩
def d_octets_of : He.DefD := ⟨("octets_of", none), "octets_of", "octets_of", defArgs s_octets_of, defBody s_octets_of, defScope s_octets_of, [], []⟩
def d_write_number : He.DefD := ⟨("write_number", none), "write_number", "write_number", defArgs s_write_number, defBody s_write_number, defScope s_write_number, [], []⟩
def d_write_truth : He.DefD := ⟨("write_truth", none), "write_truth", "write_truth", defArgs s_write_truth, defBody s_write_truth, defScope s_write_truth, [], []⟩
def d_write_whole : He.DefD := ⟨("write_whole", none), "write_whole", "write_whole", defArgs s_write_whole, defBody s_write_whole, defScope s_write_whole, [], []⟩
def d_write_text : He.DefD := ⟨("write_text", none), "write_text", "write_text", defArgs s_write_text, defBody s_write_text, defScope s_write_text, [], []⟩
def d_write_words : He.DefD := ⟨("write_words", none), "write_words", "write_words", defArgs s_write_words, defBody s_write_words, defScope s_write_words, [], []⟩
def d_write_word : He.DefD := ⟨("write_word", none), "write_word", "write_word", defArgs s_write_word, defBody s_write_word, defScope s_write_word, [], []⟩
def d_write_list : He.DefD := ⟨("write_list", none), "write_list", "write_list", defArgs s_write_list, defBody s_write_list, defScope s_write_list, [], []⟩
def d_write_record : He.DefD := ⟨("write_record", none), "write_record", "write_record", defArgs s_write_record, defBody s_write_record, defScope s_write_record, [], []⟩
def d_write_fraction : He.DefD := ⟨("write_fraction", none), "write_fraction", "write_fraction", defArgs s_write_fraction, defBody s_write_fraction, defScope s_write_fraction, [], []⟩
def d_write_fractions : He.DefD := ⟨("write_fractions", none), "write_fractions", "write_fractions", defArgs s_write_fractions, defBody s_write_fractions, defScope s_write_fractions, [], []⟩
def d_write_again : He.DefD := ⟨("write_again", none), "write_again", "write_again", defArgs s_write_again, defBody s_write_again, defScope s_write_again, [], []⟩
def d_write_outcome : He.DefD := ⟨("write_outcome", none), "write_outcome", "write_outcome", defArgs s_write_outcome, defBody s_write_outcome, defScope s_write_outcome, [], []⟩
def d_result_parts : He.DefD := ⟨("result_parts", none), "result_parts", "result_parts", defArgs s_result_parts, defBody s_result_parts, defScope s_result_parts, [], []⟩
def d_thrown_parts : He.DefD := ⟨("thrown_parts", none), "thrown_parts", "thrown_parts", defArgs s_thrown_parts, defBody s_thrown_parts, defScope s_thrown_parts, [], []⟩
def d_write_refusal : He.DefD := ⟨("write_refusal", none), "write_refusal", "write_refusal", defArgs s_write_refusal, defBody s_write_refusal, defScope s_write_refusal, [], []⟩
def d_common_divisor : He.DefD := ⟨("common_divisor", none), "common_divisor", "common_divisor", defArgs s_common_divisor, defBody s_common_divisor, defScope s_common_divisor, [], []⟩
def d_reduced : He.DefD := ⟨("reduced", none), "reduced", "reduced", defArgs s_reduced, defBody s_reduced, defScope s_reduced, [], []⟩
def d_at_fraction : He.DefD := ⟨("at_fraction", none), "at_fraction", "at_fraction", defArgs s_at_fraction, defBody s_at_fraction, defScope s_at_fraction, [], []⟩
def d_one_more : He.DefD := ⟨("one_more", none), "one_more", "one_more", defArgs s_one_more, defBody s_one_more, defScope s_one_more, [], []⟩
def d_about_one : He.DefD := ⟨("about_one", none), "about_one", "about_one", defArgs s_about_one, defBody s_about_one, defScope s_about_one, [], []⟩
def d_is_less : He.DefD := ⟨("is_less", none), "is_less", "is_less", defArgs s_is_less, defBody s_is_less, defScope s_is_less, [], []⟩
def d_WrongKind_init : He.DefD := ⟨("WrongKind", some "__init__"), "__init__", "WrongKind.__init__", defArgs s_WrongKind_init, defBody s_WrongKind_init, defScope s_WrongKind_init, [], []⟩
def d_OutOfRange_init : He.DefD := ⟨("OutOfRange", some "__init__"), "__init__", "OutOfRange.__init__", defArgs s_OutOfRange_init, defBody s_OutOfRange_init, defScope s_OutOfRange_init, [], []⟩
def d_is_between : He.DefD := ⟨("is_between", none), "is_between", "is_between", defArgs s_is_between, defBody s_is_between, defScope s_is_between, [], []⟩
def d_is_pair : He.DefD := ⟨("is_pair", none), "is_pair", "is_pair", defArgs s_is_pair, defBody s_is_pair, defScope s_is_pair, [], []⟩
def d_is_transition : He.DefD := ⟨("is_transition", none), "is_transition", "is_transition", defArgs s_is_transition, defBody s_is_transition, defScope s_is_transition, [], []⟩
def d_is_state : He.DefD := ⟨("is_state", none), "is_state", "is_state", defArgs s_is_state, defBody s_is_state, defScope s_is_state, [], []⟩
def d_transition_of : He.DefD := ⟨("transition_of", none), "transition_of", "transition_of", defArgs s_transition_of, defBody s_transition_of, defScope s_transition_of, [], []⟩
def d_system_of : He.DefD := ⟨("system_of", none), "system_of", "system_of", defArgs s_system_of, defBody s_system_of, defScope s_system_of, [], []⟩
def d_is_discount : He.DefD := ⟨("is_discount", none), "is_discount", "is_discount", defArgs s_is_discount, defBody s_is_discount, defScope s_is_discount, [], []⟩
def d_discount_of : He.DefD := ⟨("discount_of", none), "discount_of", "discount_of", defArgs s_discount_of, defBody s_discount_of, defScope s_discount_of, [], []⟩
def d_are_letters : He.DefD := ⟨("are_letters", none), "are_letters", "are_letters", defArgs s_are_letters, defBody s_are_letters, defScope s_are_letters, [], []⟩
def d_letters_of : He.DefD := ⟨("letters_of", none), "letters_of", "letters_of", defArgs s_letters_of, defBody s_letters_of, defScope s_letters_of, [], []⟩
def d_word_of : He.DefD := ⟨("word_of", none), "word_of", "word_of", defArgs s_word_of, defBody s_word_of, defScope s_word_of, [], []⟩
def d_policy_of : He.DefD := ⟨("policy_of", none), "policy_of", "policy_of", defArgs s_policy_of, defBody s_policy_of, defScope s_policy_of, [], []⟩
def d_length_of : He.DefD := ⟨("length_of", none), "length_of", "length_of", defArgs s_length_of, defBody s_length_of, defScope s_length_of, [], []⟩
def d_all_policies : He.DefD := ⟨("all_policies", none), "all_policies", "all_policies", defArgs s_all_policies, defBody s_all_policies, defScope s_all_policies, [], []⟩
def d_first_rewards : He.DefD := ⟨("first_rewards", none), "first_rewards", "first_rewards", defArgs s_first_rewards, defBody s_first_rewards, defScope s_first_rewards, [], []⟩
def d_value_polynomial : He.DefD := ⟨("value_polynomial", none), "value_polynomial", "value_polynomial", defArgs s_value_polynomial, defBody s_value_polynomial, defScope s_value_polynomial, [], []⟩
def d_value_polynomials : He.DefD := ⟨("value_polynomials", none), "value_polynomials", "value_polynomials", defArgs s_value_polynomials, defBody s_value_polynomials, defScope s_value_polynomials, [], []⟩
def d_policy_values : He.DefD := ⟨("policy_values", none), "policy_values", "policy_values", defArgs s_policy_values, defBody s_policy_values, defScope s_policy_values, [], []⟩
def d_is_best : He.DefD := ⟨("is_best", none), "is_best", "is_best", defArgs s_is_best, defBody s_is_best, defScope s_is_best, [], []⟩
def d_first_best : He.DefD := ⟨("first_best", none), "first_best", "first_best", defArgs s_first_best, defBody s_first_best, defScope s_first_best, [], []⟩
def d_optimal_policy : He.DefD := ⟨("optimal_policy", none), "optimal_policy", "optimal_policy", defArgs s_optimal_policy, defBody s_optimal_policy, defScope s_optimal_policy, [], []⟩
def d_blackwell_policy : He.DefD := ⟨("blackwell_policy", none), "blackwell_policy", "blackwell_policy", defArgs s_blackwell_policy, defBody s_blackwell_policy, defScope s_blackwell_policy, [], []⟩
def d_myopic_policy : He.DefD := ⟨("myopic_policy", none), "myopic_policy", "myopic_policy", defArgs s_myopic_policy, defBody s_myopic_policy, defScope s_myopic_policy, [], []⟩
def d_round_sums : He.DefD := ⟨("round_sums", none), "round_sums", "round_sums", defArgs s_round_sums, defBody s_round_sums, defScope s_round_sums, [], []⟩
def d_average_rewards : He.DefD := ⟨("average_rewards", none), "average_rewards", "average_rewards", defArgs s_average_rewards, defBody s_average_rewards, defScope s_average_rewards, [], []⟩
def d_most_average_rewards : He.DefD := ⟨("most_average_rewards", none), "most_average_rewards", "most_average_rewards", defArgs s_most_average_rewards, defBody s_most_average_rewards, defScope s_most_average_rewards, [], []⟩
def d_end_of : He.DefD := ⟨("end_of", none), "end_of", "end_of", defArgs s_end_of, defBody s_end_of, defScope s_end_of, [], []⟩
def d_rewards_of : He.DefD := ⟨("rewards_of", none), "rewards_of", "rewards_of", defArgs s_rewards_of, defBody s_rewards_of, defScope s_rewards_of, [], []⟩
def d_discounted : He.DefD := ⟨("discounted", none), "discounted", "discounted", defArgs s_discounted, defBody s_discounted, defScope s_discounted, [], []⟩
def d_word_reward : He.DefD := ⟨("word_reward", none), "word_reward", "word_reward", defArgs s_word_reward, defBody s_word_reward, defScope s_word_reward, [], []⟩
def d_preserves : He.DefD := ⟨("preserves", none), "preserves", "preserves", defArgs s_preserves, defBody s_preserves, defScope s_preserves, [], []⟩
def d_is_optimal : He.DefD := ⟨("is_optimal", none), "is_optimal", "is_optimal", defArgs s_is_optimal, defBody s_is_optimal, defScope s_is_optimal, [], []⟩
def d_longer_words : He.DefD := ⟨("longer_words", none), "longer_words", "longer_words", defArgs s_longer_words, defBody s_longer_words, defScope s_longer_words, [], []⟩
def d_optimal_words : He.DefD := ⟨("optimal_words", none), "optimal_words", "optimal_words", defArgs s_optimal_words, defBody s_optimal_words, defScope s_optimal_words, [], []⟩
def d_is_letter : He.DefD := ⟨("is_letter", none), "is_letter", "is_letter", defArgs s_is_letter, defBody s_is_letter, defScope s_is_letter, [], []⟩
def d_is_undo : He.DefD := ⟨("is_undo", none), "is_undo", "is_undo", defArgs s_is_undo, defBody s_is_undo, defScope s_is_undo, [], []⟩
def d_Walk_init : He.DefD := ⟨("Walk", some "__init__"), "__init__", "Walk.__init__", defArgs s_Walk_init, defBody s_Walk_init, defScope s_Walk_init, [], []⟩
def d_Walk_tell : He.DefD := ⟨("Walk", some "tell"), "tell", "Walk.tell", defArgs s_Walk_tell, defBody s_Walk_tell, defScope s_Walk_tell, [], []⟩
def d_Walk_advance : He.DefD := ⟨("Walk", some "advance"), "advance", "Walk.advance", defArgs s_Walk_advance, defBody s_Walk_advance, defScope s_Walk_advance, [], []⟩
def d_Walk_throw_in : He.DefD := ⟨("Walk", some "throw_in"), "throw_in", "Walk.throw_in", defArgs s_Walk_throw_in, defBody s_Walk_throw_in, defScope s_Walk_throw_in, [], []⟩
def d_Walk_finish : He.DefD := ⟨("Walk", some "finish"), "finish", "Walk.finish", defArgs s_Walk_finish, defBody s_Walk_finish, defScope s_Walk_finish, [], []⟩
def d_Walk_dispose : He.DefD := ⟨("Walk", some "dispose"), "dispose", "Walk.dispose", defArgs s_Walk_dispose, defBody s_Walk_dispose, defScope s_Walk_dispose, [], []⟩
def d_Listing_init : He.DefD := ⟨("Listing", some "__init__"), "__init__", "Listing.__init__", defArgs s_Listing_init, defBody s_Listing_init, defScope s_Listing_init, [], []⟩
def d_Listing_show : He.DefD := ⟨("Listing", some "show"), "show", "Listing.show", defArgs s_Listing_show, defBody s_Listing_show, defScope s_Listing_show, [], []⟩
def d_Listing_end : He.DefD := ⟨("Listing", some "end"), "end", "Listing.end", defArgs s_Listing_end, defBody s_Listing_end, defScope s_Listing_end, [], []⟩
def d_Listing_proceed : He.DefD := ⟨("Listing", some "proceed"), "proceed", "Listing.proceed", defArgs s_Listing_proceed, defBody s_Listing_proceed, defScope s_Listing_proceed, [], []⟩
def d_Listing_skips : He.DefD := ⟨("Listing", some "skips"), "skips", "Listing.skips", defArgs s_Listing_skips, defBody s_Listing_skips, defScope s_Listing_skips, [], []⟩
def d_Listing_next_parts : He.DefD := ⟨("Listing", some "next_parts"), "next_parts", "Listing.next_parts", defArgs s_Listing_next_parts, defBody s_Listing_next_parts, defScope s_Listing_next_parts, [], []⟩
def d_Listing_throw_parts : He.DefD := ⟨("Listing", some "throw_parts"), "throw_parts", "Listing.throw_parts", defArgs s_Listing_throw_parts, defBody s_Listing_throw_parts, defScope s_Listing_throw_parts, [], []⟩
def d_Listing_return_parts : He.DefD := ⟨("Listing", some "return_parts"), "return_parts", "Listing.return_parts", defArgs s_Listing_return_parts, defBody s_Listing_return_parts, defScope s_Listing_return_parts, [], []⟩
def d_Listing_request_parts : He.DefD := ⟨("Listing", some "request_parts"), "request_parts", "Listing.request_parts", defArgs s_Listing_request_parts, defBody s_Listing_request_parts, defScope s_Listing_request_parts, [], []⟩
def d_Listing_advance : He.DefD := ⟨("Listing", some "advance"), "advance", "Listing.advance", defArgs s_Listing_advance, defBody s_Listing_advance, defScope s_Listing_advance, [], []⟩
def d_Listing_throw_in : He.DefD := ⟨("Listing", some "throw_in"), "throw_in", "Listing.throw_in", defArgs s_Listing_throw_in, defBody s_Listing_throw_in, defScope s_Listing_throw_in, [], []⟩
def d_Listing_finish : He.DefD := ⟨("Listing", some "finish"), "finish", "Listing.finish", defArgs s_Listing_finish, defBody s_Listing_finish, defScope s_Listing_finish, [], []⟩
def d_Listing_collect : He.DefD := ⟨("Listing", some "collect"), "collect", "Listing.collect", defArgs s_Listing_collect, defBody s_Listing_collect, defScope s_Listing_collect, [], []⟩
def d_Listing_together : He.DefD := ⟨("Listing", some "together"), "together", "Listing.together", defArgs s_Listing_together, defBody s_Listing_together, defScope s_Listing_together, [], []⟩
def d_Listing_dispose : He.DefD := ⟨("Listing", some "dispose"), "dispose", "Listing.dispose", defArgs s_Listing_dispose, defBody s_Listing_dispose, defScope s_Listing_dispose, [], []⟩
def d_optimal_values : He.DefD := ⟨("optimal_values", none), "optimal_values", "optimal_values", defArgs s_optimal_values, defBody s_optimal_values, defScope s_optimal_values, [], []⟩
def d_answer_reward : He.DefD := ⟨("answer_reward", none), "answer_reward", "answer_reward", defArgs s_answer_reward, defBody s_answer_reward, defScope s_answer_reward, [], []⟩
def d_answer_values : He.DefD := ⟨("answer_values", none), "answer_values", "answer_values", defArgs s_answer_values, defBody s_answer_values, defScope s_answer_values, [], []⟩
def d_answer_optimal : He.DefD := ⟨("answer_optimal", none), "answer_optimal", "answer_optimal", defArgs s_answer_optimal, defBody s_answer_optimal, defScope s_answer_optimal, [], []⟩
def d_answer_prefix : He.DefD := ⟨("answer_prefix", none), "answer_prefix", "answer_prefix", defArgs s_answer_prefix, defBody s_answer_prefix, defScope s_answer_prefix, [], []⟩
def d_answer_averages : He.DefD := ⟨("answer_averages", none), "answer_averages", "answer_averages", defArgs s_answer_averages, defBody s_answer_averages, defScope s_answer_averages, [], []⟩
def d_answer_plain : He.DefD := ⟨("answer_plain", none), "answer_plain", "answer_plain", defArgs s_answer_plain, defBody s_answer_plain, defScope s_answer_plain, [], []⟩
def d_new_walk : He.DefD := ⟨("new_walk", none), "new_walk", "new_walk", defArgs s_new_walk, defBody s_new_walk, defScope s_new_walk, [], []⟩
def d_new_listing : He.DefD := ⟨("new_listing", none), "new_listing", "new_listing", defArgs s_new_listing, defBody s_new_listing, defScope s_new_listing, [], []⟩
def d_answer_walk : He.DefD := ⟨("answer_walk", none), "answer_walk", "answer_walk", defArgs s_answer_walk, defBody s_answer_walk, defScope s_answer_walk, [], []⟩
def d_answer_listing : He.DefD := ⟨("answer_listing", none), "answer_listing", "answer_listing", defArgs s_answer_listing, defBody s_answer_listing, defScope s_answer_listing, [], []⟩
def d_Library_init : He.DefD := ⟨("Library", some "__init__"), "__init__", "Library.__init__", defArgs s_Library_init, defBody s_Library_init, defScope s_Library_init, [], []⟩
def d_Library_returned : He.DefD := ⟨("Library", some "returned"), "returned", "Library.returned", defArgs s_Library_returned, defBody s_Library_returned, defScope s_Library_returned, [], []⟩
def d_Library_answer : He.DefD := ⟨("Library", some "answer"), "answer", "Library.answer", defArgs s_Library_answer, defBody s_Library_answer, defScope s_Library_answer, [], []⟩
def d_answers : He.DefD := ⟨("answers", none), "answers", "answers", defArgs s_answers, defBody s_answers, defScope s_answers, [], []⟩
def fn0 : List He.DefD := [d_Value_init, d_read_number, d_read_whole, d_read_value, d_read_parts, d_read_arguments, d_octets_of, d_write_number, d_write_truth, d_write_whole, d_write_text, d_write_words, d_write_word, d_write_list, d_write_record, d_write_fraction, d_write_fractions, d_write_again, d_write_outcome, d_result_parts, d_thrown_parts, d_write_refusal, d_common_divisor, d_reduced, d_at_fraction, d_one_more, d_about_one, d_is_less, d_WrongKind_init, d_OutOfRange_init]
def fn1 : List He.DefD := [d_is_between, d_is_pair, d_is_transition, d_is_state, d_transition_of, d_system_of, d_is_discount, d_discount_of, d_are_letters, d_letters_of, d_word_of, d_policy_of, d_length_of, d_all_policies, d_first_rewards, d_value_polynomial, d_value_polynomials, d_policy_values, d_is_best, d_first_best, d_optimal_policy, d_blackwell_policy, d_myopic_policy, d_round_sums, d_average_rewards, d_most_average_rewards, d_end_of, d_rewards_of, d_discounted, d_word_reward]
def fn2 : List He.DefD := [d_preserves, d_is_optimal, d_longer_words, d_optimal_words, d_is_letter, d_is_undo, d_Walk_init, d_Walk_tell, d_Walk_advance, d_Walk_throw_in, d_Walk_finish, d_Walk_dispose, d_Listing_init, d_Listing_show, d_Listing_end, d_Listing_proceed, d_Listing_skips, d_Listing_next_parts, d_Listing_throw_parts, d_Listing_return_parts, d_Listing_request_parts, d_Listing_advance, d_Listing_throw_in, d_Listing_finish, d_Listing_collect, d_Listing_together, d_Listing_dispose, d_optimal_values, d_answer_reward, d_answer_values]
def fn3 : List He.DefD := [d_answer_optimal, d_answer_prefix, d_answer_averages, d_answer_plain, d_new_walk, d_new_listing, d_answer_walk, d_answer_listing, d_Library_init, d_Library_returned, d_Library_answer, d_answers]
def fn : List He.DefD := fn0 ++ fn1 ++ fn2 ++ fn3
def fa0 : List He.Fa := [.glo "read_number", .glo "read_whole", .glo "read_value", .glo "read_parts", .glo "read_arguments", .glo "octets_of", .glo "write_number", .glo "write_truth", .glo "write_whole", .glo "write_text", .glo "write_words", .glo "write_word", .glo "write_list", .glo "write_record", .glo "write_fraction", .glo "write_fractions", .glo "write_again", .glo "write_outcome", .glo "result_parts", .glo "thrown_parts", .glo "write_refusal", .glo "common_divisor", .glo "reduced", .glo "at_fraction", .glo "one_more", .glo "about_one", .glo "is_less", .glo "is_between", .glo "is_pair", .glo "is_transition"]
def fa1 : List He.Fa := [.glo "is_state", .glo "transition_of", .glo "system_of", .glo "is_discount", .glo "discount_of", .glo "are_letters", .glo "letters_of", .glo "word_of", .glo "policy_of", .glo "length_of", .glo "all_policies", .glo "first_rewards", .glo "value_polynomial", .glo "value_polynomials", .glo "policy_values", .glo "is_best", .glo "first_best", .glo "optimal_policy", .glo "blackwell_policy", .glo "myopic_policy", .glo "round_sums", .glo "average_rewards", .glo "most_average_rewards", .glo "end_of", .glo "rewards_of", .glo "discounted", .glo "word_reward", .glo "preserves", .glo "is_optimal", .glo "longer_words"]
def fa2 : List He.Fa := [.glo "optimal_words", .glo "is_letter", .glo "is_undo", .glo "optimal_values", .glo "answer_reward", .glo "answer_values", .glo "answer_optimal", .glo "answer_prefix", .glo "answer_averages", .glo "answer_plain", .glo "new_walk", .glo "new_listing", .glo "answer_walk", .glo "answer_listing", .glo "answers", .glo "Value", .glo "WrongKind", .glo "OutOfRange", .glo "Walk", .glo "Listing", .glo "Library", .free "len", .free "range", .free "enumerate", .free "zip", .free "reversed", .free "abs", .free "max", .free "sum", .free "ord"]
def fa3 : List He.Fa := [.free "list", .int "NOTHING" 0, .int "FALSE" 2, .int "TRUE" 3, .int "INTEGER" 4, .int "TEXT" 6, .int "LIST" 7, .int "RECORD" 8, .int "MOST_ARGUMENTS" 4, .int "LETTER_A" 97, .int "MOST_STATES" 3, .int "MOST_REWARD" 9, .int "MOST_BOTTOM" 6, .int "MOST_LETTERS" 8, .int "MOST_LENGTH" 5, .int "LEAD" 3, .int "ROUND" 6, .int "NOT_STARTED" 0, .int "GOES_ON_walks" 1, .int "HAS_ENDED_walks" 2, .int "MOST_READ" 8, .int "TOLD_NOTHING" 0, .int "GOES_ON_listing" 1, .int "HAS_ENDED_listing" 2, .int "MOST_SKIP" 5, .int "SIGN_T" 116, .int "SIGN_R" 114, .cls "Value", .mkr "Value", .noat "Value" "kind"]
def fa4 : List He.Fa := [.noat "Value" "whole", .noat "Value" "octets", .noat "Value" "parts", .cls "Walk", .mkr "Walk", .noat "Walk" "system", .noat "Walk" "discount", .noat "Walk" "best", .noat "Walk" "phase", .noat "Walk" "letters", .cls "Listing", .mkr "Listing", .noat "Listing" "system", .noat "Listing" "discount", .noat "Listing" "phase", .noat "Listing" "left", .noat "Listing" "told", .noat "Listing" "last", .cls "Library", .mkr "Library", .noat "Library" "walks", .noat "Library" "listings", .meth "Walk" "tell", .meth "Walk" "advance", .meth "Walk" "throw_in", .meth "Walk" "finish", .meth "Walk" "dispose", .meth "Listing" "show", .meth "Listing" "end", .meth "Listing" "proceed"]
def fa5 : List He.Fa := [.meth "Listing" "skips", .meth "Listing" "next_parts", .meth "Listing" "throw_parts", .meth "Listing" "return_parts", .meth "Listing" "request_parts", .meth "Listing" "advance", .meth "Listing" "throw_in", .meth "Listing" "finish", .meth "Listing" "collect", .meth "Listing" "together", .meth "Listing" "dispose", .meth "Library" "returned", .meth "Library" "answer", .noat "WrongKind" "words", .noat "OutOfRange" "words", .exm "WrongKind" "WrongKind" true, .exm "WrongKind" "OutOfRange" false, .exm "OutOfRange" "WrongKind" false, .exm "OutOfRange" "OutOfRange" true]
def fa : List He.Fa := fa0 ++ fa1 ++ fa2 ++ fa3 ++ fa4 ++ fa5
def nsValue : List Str := ["kind", "whole", "octets", "parts"]
def nsWalk : List Str := ["system", "discount", "best", "phase", "letters"]
def nsListing : List Str := ["system", "discount", "phase", "left", "told", "last"]
def nsLibrary : List Str := ["walks", "listings"]
abbrev cValue (K : PySem.W.Frag) : Addr := He.ga K "Value"
abbrev cWalk (K : PySem.W.Frag) : Addr := He.ga K "Walk"
abbrev cListing (K : PySem.W.Frag) : Addr := He.ga K "Listing"
abbrev cLibrary (K : PySem.W.Frag) : Addr := He.ga K "Library"
abbrev cWrongKind (K : PySem.W.Frag) : Addr := He.ga K "WrongKind"
abbrev cOutOfRange (K : PySem.W.Frag) : Addr := He.ga K "OutOfRange"
/-- what the head leaves: the facts, in the part K -/
structure Tx (K : PySem.W.Frag) (mg : Str → Option Value) : Prop where
  says : He.SaysD fa fn K
  at_ : ∃ h : Heap, K.In h ∧ h.Ns mainGlobals mg
  ex1 : exB K "WrongKind" = true
  ex2 : exB K "OutOfRange" = true
section
variable {K : PySem.W.Frag} {mg : Str → Option Value}
theorem Tx.glo (T : Tx K mg) (i : Nat) {x : Str} (h : fa[i]? = some (.glo x) := by rfl) : mg x = some (.ref (He.ga K x)) := by
  obtain ⟨h0, X, G⟩ := T.at_
  exact He.glo_ok X G (T.says.fact i h)
theorem Tx.free (T : Tx K mg) (i : Nat) {x : Str} (h : fa[i]? = some (.free x) := by rfl) : mg x = none := by
  obtain ⟨h0, X, G⟩ := T.at_
  exact He.free_ok X G (T.says.fact i h)
theorem Tx.int (T : Tx K mg) (i : Nat) {x : Str} {v : Int} (h : fa[i]? = some (.int x v) := by rfl) : ∃ t, mg x = some (.int v t) := by
  obtain ⟨h0, X, G⟩ := T.at_
  exact He.int_ok X G (T.says.fact i h)
theorem Tx.g_read_number (T : Tx K mg) : mg "read_number" = some (.ref (He.ga K "read_number")) := T.glo 0
theorem Tx.g_read_whole (T : Tx K mg) : mg "read_whole" = some (.ref (He.ga K "read_whole")) := T.glo 1
theorem Tx.g_read_value (T : Tx K mg) : mg "read_value" = some (.ref (He.ga K "read_value")) := T.glo 2
theorem Tx.g_read_parts (T : Tx K mg) : mg "read_parts" = some (.ref (He.ga K "read_parts")) := T.glo 3
theorem Tx.g_read_arguments (T : Tx K mg) : mg "read_arguments" = some (.ref (He.ga K "read_arguments")) := T.glo 4
theorem Tx.g_octets_of (T : Tx K mg) : mg "octets_of" = some (.ref (He.ga K "octets_of")) := T.glo 5
theorem Tx.g_write_number (T : Tx K mg) : mg "write_number" = some (.ref (He.ga K "write_number")) := T.glo 6
theorem Tx.g_write_truth (T : Tx K mg) : mg "write_truth" = some (.ref (He.ga K "write_truth")) := T.glo 7
theorem Tx.g_write_whole (T : Tx K mg) : mg "write_whole" = some (.ref (He.ga K "write_whole")) := T.glo 8
theorem Tx.g_write_text (T : Tx K mg) : mg "write_text" = some (.ref (He.ga K "write_text")) := T.glo 9
theorem Tx.g_write_words (T : Tx K mg) : mg "write_words" = some (.ref (He.ga K "write_words")) := T.glo 10
theorem Tx.g_write_word (T : Tx K mg) : mg "write_word" = some (.ref (He.ga K "write_word")) := T.glo 11
theorem Tx.g_write_list (T : Tx K mg) : mg "write_list" = some (.ref (He.ga K "write_list")) := T.glo 12
theorem Tx.g_write_record (T : Tx K mg) : mg "write_record" = some (.ref (He.ga K "write_record")) := T.glo 13
theorem Tx.g_write_fraction (T : Tx K mg) : mg "write_fraction" = some (.ref (He.ga K "write_fraction")) := T.glo 14
theorem Tx.g_write_fractions (T : Tx K mg) : mg "write_fractions" = some (.ref (He.ga K "write_fractions")) := T.glo 15
theorem Tx.g_write_again (T : Tx K mg) : mg "write_again" = some (.ref (He.ga K "write_again")) := T.glo 16
theorem Tx.g_write_outcome (T : Tx K mg) : mg "write_outcome" = some (.ref (He.ga K "write_outcome")) := T.glo 17
theorem Tx.g_result_parts (T : Tx K mg) : mg "result_parts" = some (.ref (He.ga K "result_parts")) := T.glo 18
theorem Tx.g_thrown_parts (T : Tx K mg) : mg "thrown_parts" = some (.ref (He.ga K "thrown_parts")) := T.glo 19
theorem Tx.g_write_refusal (T : Tx K mg) : mg "write_refusal" = some (.ref (He.ga K "write_refusal")) := T.glo 20
theorem Tx.g_common_divisor (T : Tx K mg) : mg "common_divisor" = some (.ref (He.ga K "common_divisor")) := T.glo 21
theorem Tx.g_reduced (T : Tx K mg) : mg "reduced" = some (.ref (He.ga K "reduced")) := T.glo 22
theorem Tx.g_at_fraction (T : Tx K mg) : mg "at_fraction" = some (.ref (He.ga K "at_fraction")) := T.glo 23
theorem Tx.g_one_more (T : Tx K mg) : mg "one_more" = some (.ref (He.ga K "one_more")) := T.glo 24
theorem Tx.g_about_one (T : Tx K mg) : mg "about_one" = some (.ref (He.ga K "about_one")) := T.glo 25
theorem Tx.g_is_less (T : Tx K mg) : mg "is_less" = some (.ref (He.ga K "is_less")) := T.glo 26
theorem Tx.g_is_between (T : Tx K mg) : mg "is_between" = some (.ref (He.ga K "is_between")) := T.glo 27
theorem Tx.g_is_pair (T : Tx K mg) : mg "is_pair" = some (.ref (He.ga K "is_pair")) := T.glo 28
theorem Tx.g_is_transition (T : Tx K mg) : mg "is_transition" = some (.ref (He.ga K "is_transition")) := T.glo 29
theorem Tx.g_is_state (T : Tx K mg) : mg "is_state" = some (.ref (He.ga K "is_state")) := T.glo 30
theorem Tx.g_transition_of (T : Tx K mg) : mg "transition_of" = some (.ref (He.ga K "transition_of")) := T.glo 31
theorem Tx.g_system_of (T : Tx K mg) : mg "system_of" = some (.ref (He.ga K "system_of")) := T.glo 32
theorem Tx.g_is_discount (T : Tx K mg) : mg "is_discount" = some (.ref (He.ga K "is_discount")) := T.glo 33
theorem Tx.g_discount_of (T : Tx K mg) : mg "discount_of" = some (.ref (He.ga K "discount_of")) := T.glo 34
theorem Tx.g_are_letters (T : Tx K mg) : mg "are_letters" = some (.ref (He.ga K "are_letters")) := T.glo 35
theorem Tx.g_letters_of (T : Tx K mg) : mg "letters_of" = some (.ref (He.ga K "letters_of")) := T.glo 36
theorem Tx.g_word_of (T : Tx K mg) : mg "word_of" = some (.ref (He.ga K "word_of")) := T.glo 37
theorem Tx.g_policy_of (T : Tx K mg) : mg "policy_of" = some (.ref (He.ga K "policy_of")) := T.glo 38
theorem Tx.g_length_of (T : Tx K mg) : mg "length_of" = some (.ref (He.ga K "length_of")) := T.glo 39
theorem Tx.g_all_policies (T : Tx K mg) : mg "all_policies" = some (.ref (He.ga K "all_policies")) := T.glo 40
theorem Tx.g_first_rewards (T : Tx K mg) : mg "first_rewards" = some (.ref (He.ga K "first_rewards")) := T.glo 41
theorem Tx.g_value_polynomial (T : Tx K mg) : mg "value_polynomial" = some (.ref (He.ga K "value_polynomial")) := T.glo 42
theorem Tx.g_value_polynomials (T : Tx K mg) : mg "value_polynomials" = some (.ref (He.ga K "value_polynomials")) := T.glo 43
theorem Tx.g_policy_values (T : Tx K mg) : mg "policy_values" = some (.ref (He.ga K "policy_values")) := T.glo 44
theorem Tx.g_is_best (T : Tx K mg) : mg "is_best" = some (.ref (He.ga K "is_best")) := T.glo 45
theorem Tx.g_first_best (T : Tx K mg) : mg "first_best" = some (.ref (He.ga K "first_best")) := T.glo 46
theorem Tx.g_optimal_policy (T : Tx K mg) : mg "optimal_policy" = some (.ref (He.ga K "optimal_policy")) := T.glo 47
theorem Tx.g_blackwell_policy (T : Tx K mg) : mg "blackwell_policy" = some (.ref (He.ga K "blackwell_policy")) := T.glo 48
theorem Tx.g_myopic_policy (T : Tx K mg) : mg "myopic_policy" = some (.ref (He.ga K "myopic_policy")) := T.glo 49
theorem Tx.g_round_sums (T : Tx K mg) : mg "round_sums" = some (.ref (He.ga K "round_sums")) := T.glo 50
theorem Tx.g_average_rewards (T : Tx K mg) : mg "average_rewards" = some (.ref (He.ga K "average_rewards")) := T.glo 51
theorem Tx.g_most_average_rewards (T : Tx K mg) : mg "most_average_rewards" = some (.ref (He.ga K "most_average_rewards")) := T.glo 52
theorem Tx.g_end_of (T : Tx K mg) : mg "end_of" = some (.ref (He.ga K "end_of")) := T.glo 53
theorem Tx.g_rewards_of (T : Tx K mg) : mg "rewards_of" = some (.ref (He.ga K "rewards_of")) := T.glo 54
theorem Tx.g_discounted (T : Tx K mg) : mg "discounted" = some (.ref (He.ga K "discounted")) := T.glo 55
theorem Tx.g_word_reward (T : Tx K mg) : mg "word_reward" = some (.ref (He.ga K "word_reward")) := T.glo 56
theorem Tx.g_preserves (T : Tx K mg) : mg "preserves" = some (.ref (He.ga K "preserves")) := T.glo 57
theorem Tx.g_is_optimal (T : Tx K mg) : mg "is_optimal" = some (.ref (He.ga K "is_optimal")) := T.glo 58
theorem Tx.g_longer_words (T : Tx K mg) : mg "longer_words" = some (.ref (He.ga K "longer_words")) := T.glo 59
theorem Tx.g_optimal_words (T : Tx K mg) : mg "optimal_words" = some (.ref (He.ga K "optimal_words")) := T.glo 60
theorem Tx.g_is_letter (T : Tx K mg) : mg "is_letter" = some (.ref (He.ga K "is_letter")) := T.glo 61
theorem Tx.g_is_undo (T : Tx K mg) : mg "is_undo" = some (.ref (He.ga K "is_undo")) := T.glo 62
theorem Tx.g_optimal_values (T : Tx K mg) : mg "optimal_values" = some (.ref (He.ga K "optimal_values")) := T.glo 63
theorem Tx.g_answer_reward (T : Tx K mg) : mg "answer_reward" = some (.ref (He.ga K "answer_reward")) := T.glo 64
theorem Tx.g_answer_values (T : Tx K mg) : mg "answer_values" = some (.ref (He.ga K "answer_values")) := T.glo 65
theorem Tx.g_answer_optimal (T : Tx K mg) : mg "answer_optimal" = some (.ref (He.ga K "answer_optimal")) := T.glo 66
theorem Tx.g_answer_prefix (T : Tx K mg) : mg "answer_prefix" = some (.ref (He.ga K "answer_prefix")) := T.glo 67
theorem Tx.g_answer_averages (T : Tx K mg) : mg "answer_averages" = some (.ref (He.ga K "answer_averages")) := T.glo 68
theorem Tx.g_answer_plain (T : Tx K mg) : mg "answer_plain" = some (.ref (He.ga K "answer_plain")) := T.glo 69
theorem Tx.g_new_walk (T : Tx K mg) : mg "new_walk" = some (.ref (He.ga K "new_walk")) := T.glo 70
theorem Tx.g_new_listing (T : Tx K mg) : mg "new_listing" = some (.ref (He.ga K "new_listing")) := T.glo 71
theorem Tx.g_answer_walk (T : Tx K mg) : mg "answer_walk" = some (.ref (He.ga K "answer_walk")) := T.glo 72
theorem Tx.g_answer_listing (T : Tx K mg) : mg "answer_listing" = some (.ref (He.ga K "answer_listing")) := T.glo 73
theorem Tx.g_answers (T : Tx K mg) : mg "answers" = some (.ref (He.ga K "answers")) := T.glo 74
theorem Tx.g_Value (T : Tx K mg) : mg "Value" = some (.ref (He.ga K "Value")) := T.glo 75
theorem Tx.g_WrongKind (T : Tx K mg) : mg "WrongKind" = some (.ref (He.ga K "WrongKind")) := T.glo 76
theorem Tx.g_OutOfRange (T : Tx K mg) : mg "OutOfRange" = some (.ref (He.ga K "OutOfRange")) := T.glo 77
theorem Tx.g_Walk (T : Tx K mg) : mg "Walk" = some (.ref (He.ga K "Walk")) := T.glo 78
theorem Tx.g_Listing (T : Tx K mg) : mg "Listing" = some (.ref (He.ga K "Listing")) := T.glo 79
theorem Tx.g_Library (T : Tx K mg) : mg "Library" = some (.ref (He.ga K "Library")) := T.glo 80
theorem Tx.b_len (T : Tx K mg) : mg "len" = none := T.free 81
theorem Tx.b_range (T : Tx K mg) : mg "range" = none := T.free 82
theorem Tx.b_enumerate (T : Tx K mg) : mg "enumerate" = none := T.free 83
theorem Tx.b_zip (T : Tx K mg) : mg "zip" = none := T.free 84
theorem Tx.b_reversed (T : Tx K mg) : mg "reversed" = none := T.free 85
theorem Tx.b_abs (T : Tx K mg) : mg "abs" = none := T.free 86
theorem Tx.b_max (T : Tx K mg) : mg "max" = none := T.free 87
theorem Tx.b_sum (T : Tx K mg) : mg "sum" = none := T.free 88
theorem Tx.b_ord (T : Tx K mg) : mg "ord" = none := T.free 89
theorem Tx.b_list (T : Tx K mg) : mg "list" = none := T.free 90
theorem Tx.i_NOTHING (T : Tx K mg) : ∃ t, mg "NOTHING" = some (.int 0 t) := T.int 91
theorem Tx.i_FALSE (T : Tx K mg) : ∃ t, mg "FALSE" = some (.int 2 t) := T.int 92
theorem Tx.i_TRUE (T : Tx K mg) : ∃ t, mg "TRUE" = some (.int 3 t) := T.int 93
theorem Tx.i_INTEGER (T : Tx K mg) : ∃ t, mg "INTEGER" = some (.int 4 t) := T.int 94
theorem Tx.i_TEXT (T : Tx K mg) : ∃ t, mg "TEXT" = some (.int 6 t) := T.int 95
theorem Tx.i_LIST (T : Tx K mg) : ∃ t, mg "LIST" = some (.int 7 t) := T.int 96
theorem Tx.i_RECORD (T : Tx K mg) : ∃ t, mg "RECORD" = some (.int 8 t) := T.int 97
theorem Tx.i_MOST_ARGUMENTS (T : Tx K mg) : ∃ t, mg "MOST_ARGUMENTS" = some (.int 4 t) := T.int 98
theorem Tx.i_LETTER_A (T : Tx K mg) : ∃ t, mg "LETTER_A" = some (.int 97 t) := T.int 99
theorem Tx.i_MOST_STATES (T : Tx K mg) : ∃ t, mg "MOST_STATES" = some (.int 3 t) := T.int 100
theorem Tx.i_MOST_REWARD (T : Tx K mg) : ∃ t, mg "MOST_REWARD" = some (.int 9 t) := T.int 101
theorem Tx.i_MOST_BOTTOM (T : Tx K mg) : ∃ t, mg "MOST_BOTTOM" = some (.int 6 t) := T.int 102
theorem Tx.i_MOST_LETTERS (T : Tx K mg) : ∃ t, mg "MOST_LETTERS" = some (.int 8 t) := T.int 103
theorem Tx.i_MOST_LENGTH (T : Tx K mg) : ∃ t, mg "MOST_LENGTH" = some (.int 5 t) := T.int 104
theorem Tx.i_LEAD (T : Tx K mg) : ∃ t, mg "LEAD" = some (.int 3 t) := T.int 105
theorem Tx.i_ROUND (T : Tx K mg) : ∃ t, mg "ROUND" = some (.int 6 t) := T.int 106
theorem Tx.i_NOT_STARTED (T : Tx K mg) : ∃ t, mg "NOT_STARTED" = some (.int 0 t) := T.int 107
theorem Tx.i_GOES_ON_walks (T : Tx K mg) : ∃ t, mg "GOES_ON_walks" = some (.int 1 t) := T.int 108
theorem Tx.i_HAS_ENDED_walks (T : Tx K mg) : ∃ t, mg "HAS_ENDED_walks" = some (.int 2 t) := T.int 109
theorem Tx.i_MOST_READ (T : Tx K mg) : ∃ t, mg "MOST_READ" = some (.int 8 t) := T.int 110
theorem Tx.i_TOLD_NOTHING (T : Tx K mg) : ∃ t, mg "TOLD_NOTHING" = some (.int 0 t) := T.int 111
theorem Tx.i_GOES_ON_listing (T : Tx K mg) : ∃ t, mg "GOES_ON_listing" = some (.int 1 t) := T.int 112
theorem Tx.i_HAS_ENDED_listing (T : Tx K mg) : ∃ t, mg "HAS_ENDED_listing" = some (.int 2 t) := T.int 113
theorem Tx.i_MOST_SKIP (T : Tx K mg) : ∃ t, mg "MOST_SKIP" = some (.int 5 t) := T.int 114
theorem Tx.i_SIGN_T (T : Tx K mg) : ∃ t, mg "SIGN_T" = some (.int 116 t) := T.int 115
theorem Tx.i_SIGN_R (T : Tx K mg) : ∃ t, mg "SIGN_R" = some (.int 114 t) := T.int 116
theorem Tx.k_Value (T : Tx K mg) : Cls K (cValue K) := He.cls_ok (x := "Value") (T.says.fact 117 rfl)
theorem Tx.mk_Value (T : Tx K mg) : Mk K (cValue K) (He.ma K (cValue K) "__init__") := He.mkr_ok (x := "Value") (T.says.fact 118 rfl)
theorem Tx.n_Value_kind (T : Tx K mg) : NoAttr K (cValue K) "kind" := He.noat_ok (x := "Value") (T.says.fact 119 rfl)
theorem Tx.n_Value_whole (T : Tx K mg) : NoAttr K (cValue K) "whole" := He.noat_ok (x := "Value") (T.says.fact 120 rfl)
theorem Tx.n_Value_octets (T : Tx K mg) : NoAttr K (cValue K) "octets" := He.noat_ok (x := "Value") (T.says.fact 121 rfl)
theorem Tx.n_Value_parts (T : Tx K mg) : NoAttr K (cValue K) "parts" := He.noat_ok (x := "Value") (T.says.fact 122 rfl)
theorem Tx.k_Walk (T : Tx K mg) : Cls K (cWalk K) := He.cls_ok (x := "Walk") (T.says.fact 123 rfl)
theorem Tx.mk_Walk (T : Tx K mg) : Mk K (cWalk K) (He.ma K (cWalk K) "__init__") := He.mkr_ok (x := "Walk") (T.says.fact 124 rfl)
theorem Tx.n_Walk_system (T : Tx K mg) : NoAttr K (cWalk K) "system" := He.noat_ok (x := "Walk") (T.says.fact 125 rfl)
theorem Tx.n_Walk_discount (T : Tx K mg) : NoAttr K (cWalk K) "discount" := He.noat_ok (x := "Walk") (T.says.fact 126 rfl)
theorem Tx.n_Walk_best (T : Tx K mg) : NoAttr K (cWalk K) "best" := He.noat_ok (x := "Walk") (T.says.fact 127 rfl)
theorem Tx.n_Walk_phase (T : Tx K mg) : NoAttr K (cWalk K) "phase" := He.noat_ok (x := "Walk") (T.says.fact 128 rfl)
theorem Tx.n_Walk_letters (T : Tx K mg) : NoAttr K (cWalk K) "letters" := He.noat_ok (x := "Walk") (T.says.fact 129 rfl)
theorem Tx.k_Listing (T : Tx K mg) : Cls K (cListing K) := He.cls_ok (x := "Listing") (T.says.fact 130 rfl)
theorem Tx.mk_Listing (T : Tx K mg) : Mk K (cListing K) (He.ma K (cListing K) "__init__") := He.mkr_ok (x := "Listing") (T.says.fact 131 rfl)
theorem Tx.n_Listing_system (T : Tx K mg) : NoAttr K (cListing K) "system" := He.noat_ok (x := "Listing") (T.says.fact 132 rfl)
theorem Tx.n_Listing_discount (T : Tx K mg) : NoAttr K (cListing K) "discount" := He.noat_ok (x := "Listing") (T.says.fact 133 rfl)
theorem Tx.n_Listing_phase (T : Tx K mg) : NoAttr K (cListing K) "phase" := He.noat_ok (x := "Listing") (T.says.fact 134 rfl)
theorem Tx.n_Listing_left (T : Tx K mg) : NoAttr K (cListing K) "left" := He.noat_ok (x := "Listing") (T.says.fact 135 rfl)
theorem Tx.n_Listing_told (T : Tx K mg) : NoAttr K (cListing K) "told" := He.noat_ok (x := "Listing") (T.says.fact 136 rfl)
theorem Tx.n_Listing_last (T : Tx K mg) : NoAttr K (cListing K) "last" := He.noat_ok (x := "Listing") (T.says.fact 137 rfl)
theorem Tx.k_Library (T : Tx K mg) : Cls K (cLibrary K) := He.cls_ok (x := "Library") (T.says.fact 138 rfl)
theorem Tx.mk_Library (T : Tx K mg) : Mk K (cLibrary K) (He.ma K (cLibrary K) "__init__") := He.mkr_ok (x := "Library") (T.says.fact 139 rfl)
theorem Tx.n_Library_walks (T : Tx K mg) : NoAttr K (cLibrary K) "walks" := He.noat_ok (x := "Library") (T.says.fact 140 rfl)
theorem Tx.n_Library_listings (T : Tx K mg) : NoAttr K (cLibrary K) "listings" := He.noat_ok (x := "Library") (T.says.fact 141 rfl)
theorem Tx.m_Walk_tell (T : Tx K mg) : Meth K (cWalk K) "tell" (He.ma K (cWalk K) "tell") := He.meth_ok (x := "Walk") (T.says.fact 142 rfl)
theorem Tx.m_Walk_advance (T : Tx K mg) : Meth K (cWalk K) "advance" (He.ma K (cWalk K) "advance") := He.meth_ok (x := "Walk") (T.says.fact 143 rfl)
theorem Tx.m_Walk_throw_in (T : Tx K mg) : Meth K (cWalk K) "throw_in" (He.ma K (cWalk K) "throw_in") := He.meth_ok (x := "Walk") (T.says.fact 144 rfl)
theorem Tx.m_Walk_finish (T : Tx K mg) : Meth K (cWalk K) "finish" (He.ma K (cWalk K) "finish") := He.meth_ok (x := "Walk") (T.says.fact 145 rfl)
theorem Tx.m_Walk_dispose (T : Tx K mg) : Meth K (cWalk K) "dispose" (He.ma K (cWalk K) "dispose") := He.meth_ok (x := "Walk") (T.says.fact 146 rfl)
theorem Tx.m_Listing_show (T : Tx K mg) : Meth K (cListing K) "show" (He.ma K (cListing K) "show") := He.meth_ok (x := "Listing") (T.says.fact 147 rfl)
theorem Tx.m_Listing_end (T : Tx K mg) : Meth K (cListing K) "end" (He.ma K (cListing K) "end") := He.meth_ok (x := "Listing") (T.says.fact 148 rfl)
theorem Tx.m_Listing_proceed (T : Tx K mg) : Meth K (cListing K) "proceed" (He.ma K (cListing K) "proceed") := He.meth_ok (x := "Listing") (T.says.fact 149 rfl)
theorem Tx.m_Listing_skips (T : Tx K mg) : Meth K (cListing K) "skips" (He.ma K (cListing K) "skips") := He.meth_ok (x := "Listing") (T.says.fact 150 rfl)
theorem Tx.m_Listing_next_parts (T : Tx K mg) : Meth K (cListing K) "next_parts" (He.ma K (cListing K) "next_parts") := He.meth_ok (x := "Listing") (T.says.fact 151 rfl)
theorem Tx.m_Listing_throw_parts (T : Tx K mg) : Meth K (cListing K) "throw_parts" (He.ma K (cListing K) "throw_parts") := He.meth_ok (x := "Listing") (T.says.fact 152 rfl)
theorem Tx.m_Listing_return_parts (T : Tx K mg) : Meth K (cListing K) "return_parts" (He.ma K (cListing K) "return_parts") := He.meth_ok (x := "Listing") (T.says.fact 153 rfl)
theorem Tx.m_Listing_request_parts (T : Tx K mg) : Meth K (cListing K) "request_parts" (He.ma K (cListing K) "request_parts") := He.meth_ok (x := "Listing") (T.says.fact 154 rfl)
theorem Tx.m_Listing_advance (T : Tx K mg) : Meth K (cListing K) "advance" (He.ma K (cListing K) "advance") := He.meth_ok (x := "Listing") (T.says.fact 155 rfl)
theorem Tx.m_Listing_throw_in (T : Tx K mg) : Meth K (cListing K) "throw_in" (He.ma K (cListing K) "throw_in") := He.meth_ok (x := "Listing") (T.says.fact 156 rfl)
theorem Tx.m_Listing_finish (T : Tx K mg) : Meth K (cListing K) "finish" (He.ma K (cListing K) "finish") := He.meth_ok (x := "Listing") (T.says.fact 157 rfl)
theorem Tx.m_Listing_collect (T : Tx K mg) : Meth K (cListing K) "collect" (He.ma K (cListing K) "collect") := He.meth_ok (x := "Listing") (T.says.fact 158 rfl)
theorem Tx.m_Listing_together (T : Tx K mg) : Meth K (cListing K) "together" (He.ma K (cListing K) "together") := He.meth_ok (x := "Listing") (T.says.fact 159 rfl)
theorem Tx.m_Listing_dispose (T : Tx K mg) : Meth K (cListing K) "dispose" (He.ma K (cListing K) "dispose") := He.meth_ok (x := "Listing") (T.says.fact 160 rfl)
theorem Tx.m_Library_returned (T : Tx K mg) : Meth K (cLibrary K) "returned" (He.ma K (cLibrary K) "returned") := He.meth_ok (x := "Library") (T.says.fact 161 rfl)
theorem Tx.m_Library_answer (T : Tx K mg) : Meth K (cLibrary K) "answer" (He.ma K (cLibrary K) "answer") := He.meth_ok (x := "Library") (T.says.fact 162 rfl)
theorem Tx.c_Value (T : Tx K mg) : ClsF K (cValue K) nsValue := by
  refine ⟨T.k_Value, fun f hf => ?_, by decide +kernel⟩
  rcases List.mem_cons.mp hf with rfl | hf
  · exact T.n_Value_kind
  rcases List.mem_cons.mp hf with rfl | hf
  · exact T.n_Value_whole
  rcases List.mem_cons.mp hf with rfl | hf
  · exact T.n_Value_octets
  rcases List.mem_cons.mp hf with rfl | hf
  · exact T.n_Value_parts
  cases hf
theorem Tx.c_Walk (T : Tx K mg) : ClsF K (cWalk K) nsWalk := by
  refine ⟨T.k_Walk, fun f hf => ?_, by decide +kernel⟩
  rcases List.mem_cons.mp hf with rfl | hf
  · exact T.n_Walk_system
  rcases List.mem_cons.mp hf with rfl | hf
  · exact T.n_Walk_discount
  rcases List.mem_cons.mp hf with rfl | hf
  · exact T.n_Walk_best
  rcases List.mem_cons.mp hf with rfl | hf
  · exact T.n_Walk_phase
  rcases List.mem_cons.mp hf with rfl | hf
  · exact T.n_Walk_letters
  cases hf
theorem Tx.c_Listing (T : Tx K mg) : ClsF K (cListing K) nsListing := by
  refine ⟨T.k_Listing, fun f hf => ?_, by decide +kernel⟩
  rcases List.mem_cons.mp hf with rfl | hf
  · exact T.n_Listing_system
  rcases List.mem_cons.mp hf with rfl | hf
  · exact T.n_Listing_discount
  rcases List.mem_cons.mp hf with rfl | hf
  · exact T.n_Listing_phase
  rcases List.mem_cons.mp hf with rfl | hf
  · exact T.n_Listing_left
  rcases List.mem_cons.mp hf with rfl | hf
  · exact T.n_Listing_told
  rcases List.mem_cons.mp hf with rfl | hf
  · exact T.n_Listing_last
  cases hf
theorem Tx.c_Library (T : Tx K mg) : ClsF K (cLibrary K) nsLibrary := by
  refine ⟨T.k_Library, fun f hf => ?_, by decide +kernel⟩
  rcases List.mem_cons.mp hf with rfl | hf
  · exact T.n_Library_walks
  rcases List.mem_cons.mp hf with rfl | hf
  · exact T.n_Library_listings
  cases hf
theorem Tx.f_Value_init (T : Tx K mg) : ∃ fd, FunD K "__init__" "Value.__init__" (defArgs s_Value_init) (defBody s_Value_init) (defScope s_Value_init) [] [] (He.ma K (He.ga K "Value") "__init__") fd := T.says.def_ 0 (d := d_Value_init) rfl
theorem Tx.f_read_number (T : Tx K mg) : ∃ fd, FunD K "read_number" "read_number" (defArgs s_read_number) (defBody s_read_number) (defScope s_read_number) [] [] (He.ga K "read_number") fd := T.says.def_ 1 (d := d_read_number) rfl
theorem Tx.f_read_whole (T : Tx K mg) : ∃ fd, FunD K "read_whole" "read_whole" (defArgs s_read_whole) (defBody s_read_whole) (defScope s_read_whole) [] [] (He.ga K "read_whole") fd := T.says.def_ 2 (d := d_read_whole) rfl
theorem Tx.f_read_value (T : Tx K mg) : ∃ fd, FunD K "read_value" "read_value" (defArgs s_read_value) (defBody s_read_value) (defScope s_read_value) [] [] (He.ga K "read_value") fd := T.says.def_ 3 (d := d_read_value) rfl
theorem Tx.f_read_parts (T : Tx K mg) : ∃ fd, FunD K "read_parts" "read_parts" (defArgs s_read_parts) (defBody s_read_parts) (defScope s_read_parts) [] [] (He.ga K "read_parts") fd := T.says.def_ 4 (d := d_read_parts) rfl
theorem Tx.f_read_arguments (T : Tx K mg) : ∃ fd, FunD K "read_arguments" "read_arguments" (defArgs s_read_arguments) (defBody s_read_arguments) (defScope s_read_arguments) [] [] (He.ga K "read_arguments") fd := T.says.def_ 5 (d := d_read_arguments) rfl
theorem Tx.f_octets_of (T : Tx K mg) : ∃ fd, FunD K "octets_of" "octets_of" (defArgs s_octets_of) (defBody s_octets_of) (defScope s_octets_of) [] [] (He.ga K "octets_of") fd := T.says.def_ 6 (d := d_octets_of) rfl
theorem Tx.f_write_number (T : Tx K mg) : ∃ fd, FunD K "write_number" "write_number" (defArgs s_write_number) (defBody s_write_number) (defScope s_write_number) [] [] (He.ga K "write_number") fd := T.says.def_ 7 (d := d_write_number) rfl
theorem Tx.f_write_truth (T : Tx K mg) : ∃ fd, FunD K "write_truth" "write_truth" (defArgs s_write_truth) (defBody s_write_truth) (defScope s_write_truth) [] [] (He.ga K "write_truth") fd := T.says.def_ 8 (d := d_write_truth) rfl
theorem Tx.f_write_whole (T : Tx K mg) : ∃ fd, FunD K "write_whole" "write_whole" (defArgs s_write_whole) (defBody s_write_whole) (defScope s_write_whole) [] [] (He.ga K "write_whole") fd := T.says.def_ 9 (d := d_write_whole) rfl
theorem Tx.f_write_text (T : Tx K mg) : ∃ fd, FunD K "write_text" "write_text" (defArgs s_write_text) (defBody s_write_text) (defScope s_write_text) [] [] (He.ga K "write_text") fd := T.says.def_ 10 (d := d_write_text) rfl
theorem Tx.f_write_words (T : Tx K mg) : ∃ fd, FunD K "write_words" "write_words" (defArgs s_write_words) (defBody s_write_words) (defScope s_write_words) [] [] (He.ga K "write_words") fd := T.says.def_ 11 (d := d_write_words) rfl
theorem Tx.f_write_word (T : Tx K mg) : ∃ fd, FunD K "write_word" "write_word" (defArgs s_write_word) (defBody s_write_word) (defScope s_write_word) [] [] (He.ga K "write_word") fd := T.says.def_ 12 (d := d_write_word) rfl
theorem Tx.f_write_list (T : Tx K mg) : ∃ fd, FunD K "write_list" "write_list" (defArgs s_write_list) (defBody s_write_list) (defScope s_write_list) [] [] (He.ga K "write_list") fd := T.says.def_ 13 (d := d_write_list) rfl
theorem Tx.f_write_record (T : Tx K mg) : ∃ fd, FunD K "write_record" "write_record" (defArgs s_write_record) (defBody s_write_record) (defScope s_write_record) [] [] (He.ga K "write_record") fd := T.says.def_ 14 (d := d_write_record) rfl
theorem Tx.f_write_fraction (T : Tx K mg) : ∃ fd, FunD K "write_fraction" "write_fraction" (defArgs s_write_fraction) (defBody s_write_fraction) (defScope s_write_fraction) [] [] (He.ga K "write_fraction") fd := T.says.def_ 15 (d := d_write_fraction) rfl
theorem Tx.f_write_fractions (T : Tx K mg) : ∃ fd, FunD K "write_fractions" "write_fractions" (defArgs s_write_fractions) (defBody s_write_fractions) (defScope s_write_fractions) [] [] (He.ga K "write_fractions") fd := T.says.def_ 16 (d := d_write_fractions) rfl
theorem Tx.f_write_again (T : Tx K mg) : ∃ fd, FunD K "write_again" "write_again" (defArgs s_write_again) (defBody s_write_again) (defScope s_write_again) [] [] (He.ga K "write_again") fd := T.says.def_ 17 (d := d_write_again) rfl
theorem Tx.f_write_outcome (T : Tx K mg) : ∃ fd, FunD K "write_outcome" "write_outcome" (defArgs s_write_outcome) (defBody s_write_outcome) (defScope s_write_outcome) [] [] (He.ga K "write_outcome") fd := T.says.def_ 18 (d := d_write_outcome) rfl
theorem Tx.f_result_parts (T : Tx K mg) : ∃ fd, FunD K "result_parts" "result_parts" (defArgs s_result_parts) (defBody s_result_parts) (defScope s_result_parts) [] [] (He.ga K "result_parts") fd := T.says.def_ 19 (d := d_result_parts) rfl
theorem Tx.f_thrown_parts (T : Tx K mg) : ∃ fd, FunD K "thrown_parts" "thrown_parts" (defArgs s_thrown_parts) (defBody s_thrown_parts) (defScope s_thrown_parts) [] [] (He.ga K "thrown_parts") fd := T.says.def_ 20 (d := d_thrown_parts) rfl
theorem Tx.f_write_refusal (T : Tx K mg) : ∃ fd, FunD K "write_refusal" "write_refusal" (defArgs s_write_refusal) (defBody s_write_refusal) (defScope s_write_refusal) [] [] (He.ga K "write_refusal") fd := T.says.def_ 21 (d := d_write_refusal) rfl
theorem Tx.f_common_divisor (T : Tx K mg) : ∃ fd, FunD K "common_divisor" "common_divisor" (defArgs s_common_divisor) (defBody s_common_divisor) (defScope s_common_divisor) [] [] (He.ga K "common_divisor") fd := T.says.def_ 22 (d := d_common_divisor) rfl
theorem Tx.f_reduced (T : Tx K mg) : ∃ fd, FunD K "reduced" "reduced" (defArgs s_reduced) (defBody s_reduced) (defScope s_reduced) [] [] (He.ga K "reduced") fd := T.says.def_ 23 (d := d_reduced) rfl
theorem Tx.f_at_fraction (T : Tx K mg) : ∃ fd, FunD K "at_fraction" "at_fraction" (defArgs s_at_fraction) (defBody s_at_fraction) (defScope s_at_fraction) [] [] (He.ga K "at_fraction") fd := T.says.def_ 24 (d := d_at_fraction) rfl
theorem Tx.f_one_more (T : Tx K mg) : ∃ fd, FunD K "one_more" "one_more" (defArgs s_one_more) (defBody s_one_more) (defScope s_one_more) [] [] (He.ga K "one_more") fd := T.says.def_ 25 (d := d_one_more) rfl
theorem Tx.f_about_one (T : Tx K mg) : ∃ fd, FunD K "about_one" "about_one" (defArgs s_about_one) (defBody s_about_one) (defScope s_about_one) [] [] (He.ga K "about_one") fd := T.says.def_ 26 (d := d_about_one) rfl
theorem Tx.f_is_less (T : Tx K mg) : ∃ fd, FunD K "is_less" "is_less" (defArgs s_is_less) (defBody s_is_less) (defScope s_is_less) [] [] (He.ga K "is_less") fd := T.says.def_ 27 (d := d_is_less) rfl
theorem Tx.f_WrongKind_init (T : Tx K mg) : ∃ fd, FunD K "__init__" "WrongKind.__init__" (defArgs s_WrongKind_init) (defBody s_WrongKind_init) (defScope s_WrongKind_init) [] [] (He.ma K (He.ga K "WrongKind") "__init__") fd := T.says.def_ 28 (d := d_WrongKind_init) rfl
theorem Tx.x_WrongKind (T : Tx K mg) : PySem.LowE.OwnTxt K mg "WrongKind" "WrongKind.__init__" (cWrongKind K) (He.ma K (cWrongKind K) "__init__") := by
  obtain ⟨fd, f⟩ := T.f_WrongKind_init
  exact own_txt (p1 := ⟨151, 17, 151, 21⟩) (p2 := ⟨151, 23, 151, 28⟩) (q1 := ⟨152, 8, 152, 12⟩) (q2 := ⟨152, 8, 152, 18⟩) (q3 := ⟨152, 21, 152, 26⟩) (q4 := ⟨152, 8, 152, 26⟩) T.g_WrongKind T.ex1 f
theorem Tx.f_OutOfRange_init (T : Tx K mg) : ∃ fd, FunD K "__init__" "OutOfRange.__init__" (defArgs s_OutOfRange_init) (defBody s_OutOfRange_init) (defScope s_OutOfRange_init) [] [] (He.ma K (He.ga K "OutOfRange") "__init__") fd := T.says.def_ 29 (d := d_OutOfRange_init) rfl
theorem Tx.x_OutOfRange (T : Tx K mg) : PySem.LowE.OwnTxt K mg "OutOfRange" "OutOfRange.__init__" (cOutOfRange K) (He.ma K (cOutOfRange K) "__init__") := by
  obtain ⟨fd, f⟩ := T.f_OutOfRange_init
  exact own_txt (p1 := ⟨155, 17, 155, 21⟩) (p2 := ⟨155, 23, 155, 28⟩) (q1 := ⟨156, 8, 156, 12⟩) (q2 := ⟨156, 8, 156, 18⟩) (q3 := ⟨156, 21, 156, 26⟩) (q4 := ⟨156, 8, 156, 26⟩) T.g_OutOfRange T.ex2 f
theorem Tx.f_is_between (T : Tx K mg) : ∃ fd, FunD K "is_between" "is_between" (defArgs s_is_between) (defBody s_is_between) (defScope s_is_between) [] [] (He.ga K "is_between") fd := T.says.def_ 30 (d := d_is_between) rfl
theorem Tx.f_is_pair (T : Tx K mg) : ∃ fd, FunD K "is_pair" "is_pair" (defArgs s_is_pair) (defBody s_is_pair) (defScope s_is_pair) [] [] (He.ga K "is_pair") fd := T.says.def_ 31 (d := d_is_pair) rfl
theorem Tx.f_is_transition (T : Tx K mg) : ∃ fd, FunD K "is_transition" "is_transition" (defArgs s_is_transition) (defBody s_is_transition) (defScope s_is_transition) [] [] (He.ga K "is_transition") fd := T.says.def_ 32 (d := d_is_transition) rfl
theorem Tx.f_is_state (T : Tx K mg) : ∃ fd, FunD K "is_state" "is_state" (defArgs s_is_state) (defBody s_is_state) (defScope s_is_state) [] [] (He.ga K "is_state") fd := T.says.def_ 33 (d := d_is_state) rfl
theorem Tx.f_transition_of (T : Tx K mg) : ∃ fd, FunD K "transition_of" "transition_of" (defArgs s_transition_of) (defBody s_transition_of) (defScope s_transition_of) [] [] (He.ga K "transition_of") fd := T.says.def_ 34 (d := d_transition_of) rfl
theorem Tx.f_system_of (T : Tx K mg) : ∃ fd, FunD K "system_of" "system_of" (defArgs s_system_of) (defBody s_system_of) (defScope s_system_of) [] [] (He.ga K "system_of") fd := T.says.def_ 35 (d := d_system_of) rfl
theorem Tx.f_is_discount (T : Tx K mg) : ∃ fd, FunD K "is_discount" "is_discount" (defArgs s_is_discount) (defBody s_is_discount) (defScope s_is_discount) [] [] (He.ga K "is_discount") fd := T.says.def_ 36 (d := d_is_discount) rfl
theorem Tx.f_discount_of (T : Tx K mg) : ∃ fd, FunD K "discount_of" "discount_of" (defArgs s_discount_of) (defBody s_discount_of) (defScope s_discount_of) [] [] (He.ga K "discount_of") fd := T.says.def_ 37 (d := d_discount_of) rfl
theorem Tx.f_are_letters (T : Tx K mg) : ∃ fd, FunD K "are_letters" "are_letters" (defArgs s_are_letters) (defBody s_are_letters) (defScope s_are_letters) [] [] (He.ga K "are_letters") fd := T.says.def_ 38 (d := d_are_letters) rfl
theorem Tx.f_letters_of (T : Tx K mg) : ∃ fd, FunD K "letters_of" "letters_of" (defArgs s_letters_of) (defBody s_letters_of) (defScope s_letters_of) [] [] (He.ga K "letters_of") fd := T.says.def_ 39 (d := d_letters_of) rfl
theorem Tx.f_word_of (T : Tx K mg) : ∃ fd, FunD K "word_of" "word_of" (defArgs s_word_of) (defBody s_word_of) (defScope s_word_of) [] [] (He.ga K "word_of") fd := T.says.def_ 40 (d := d_word_of) rfl
theorem Tx.f_policy_of (T : Tx K mg) : ∃ fd, FunD K "policy_of" "policy_of" (defArgs s_policy_of) (defBody s_policy_of) (defScope s_policy_of) [] [] (He.ga K "policy_of") fd := T.says.def_ 41 (d := d_policy_of) rfl
theorem Tx.f_length_of (T : Tx K mg) : ∃ fd, FunD K "length_of" "length_of" (defArgs s_length_of) (defBody s_length_of) (defScope s_length_of) [] [] (He.ga K "length_of") fd := T.says.def_ 42 (d := d_length_of) rfl
theorem Tx.f_all_policies (T : Tx K mg) : ∃ fd, FunD K "all_policies" "all_policies" (defArgs s_all_policies) (defBody s_all_policies) (defScope s_all_policies) [] [] (He.ga K "all_policies") fd := T.says.def_ 43 (d := d_all_policies) rfl
theorem Tx.f_first_rewards (T : Tx K mg) : ∃ fd, FunD K "first_rewards" "first_rewards" (defArgs s_first_rewards) (defBody s_first_rewards) (defScope s_first_rewards) [] [] (He.ga K "first_rewards") fd := T.says.def_ 44 (d := d_first_rewards) rfl
theorem Tx.f_value_polynomial (T : Tx K mg) : ∃ fd, FunD K "value_polynomial" "value_polynomial" (defArgs s_value_polynomial) (defBody s_value_polynomial) (defScope s_value_polynomial) [] [] (He.ga K "value_polynomial") fd := T.says.def_ 45 (d := d_value_polynomial) rfl
theorem Tx.f_value_polynomials (T : Tx K mg) : ∃ fd, FunD K "value_polynomials" "value_polynomials" (defArgs s_value_polynomials) (defBody s_value_polynomials) (defScope s_value_polynomials) [] [] (He.ga K "value_polynomials") fd := T.says.def_ 46 (d := d_value_polynomials) rfl
theorem Tx.f_policy_values (T : Tx K mg) : ∃ fd, FunD K "policy_values" "policy_values" (defArgs s_policy_values) (defBody s_policy_values) (defScope s_policy_values) [] [] (He.ga K "policy_values") fd := T.says.def_ 47 (d := d_policy_values) rfl
theorem Tx.f_is_best (T : Tx K mg) : ∃ fd, FunD K "is_best" "is_best" (defArgs s_is_best) (defBody s_is_best) (defScope s_is_best) [] [] (He.ga K "is_best") fd := T.says.def_ 48 (d := d_is_best) rfl
theorem Tx.f_first_best (T : Tx K mg) : ∃ fd, FunD K "first_best" "first_best" (defArgs s_first_best) (defBody s_first_best) (defScope s_first_best) [] [] (He.ga K "first_best") fd := T.says.def_ 49 (d := d_first_best) rfl
theorem Tx.f_optimal_policy (T : Tx K mg) : ∃ fd, FunD K "optimal_policy" "optimal_policy" (defArgs s_optimal_policy) (defBody s_optimal_policy) (defScope s_optimal_policy) [] [] (He.ga K "optimal_policy") fd := T.says.def_ 50 (d := d_optimal_policy) rfl
theorem Tx.f_blackwell_policy (T : Tx K mg) : ∃ fd, FunD K "blackwell_policy" "blackwell_policy" (defArgs s_blackwell_policy) (defBody s_blackwell_policy) (defScope s_blackwell_policy) [] [] (He.ga K "blackwell_policy") fd := T.says.def_ 51 (d := d_blackwell_policy) rfl
theorem Tx.f_myopic_policy (T : Tx K mg) : ∃ fd, FunD K "myopic_policy" "myopic_policy" (defArgs s_myopic_policy) (defBody s_myopic_policy) (defScope s_myopic_policy) [] [] (He.ga K "myopic_policy") fd := T.says.def_ 52 (d := d_myopic_policy) rfl
theorem Tx.f_round_sums (T : Tx K mg) : ∃ fd, FunD K "round_sums" "round_sums" (defArgs s_round_sums) (defBody s_round_sums) (defScope s_round_sums) [] [] (He.ga K "round_sums") fd := T.says.def_ 53 (d := d_round_sums) rfl
theorem Tx.f_average_rewards (T : Tx K mg) : ∃ fd, FunD K "average_rewards" "average_rewards" (defArgs s_average_rewards) (defBody s_average_rewards) (defScope s_average_rewards) [] [] (He.ga K "average_rewards") fd := T.says.def_ 54 (d := d_average_rewards) rfl
theorem Tx.f_most_average_rewards (T : Tx K mg) : ∃ fd, FunD K "most_average_rewards" "most_average_rewards" (defArgs s_most_average_rewards) (defBody s_most_average_rewards) (defScope s_most_average_rewards) [] [] (He.ga K "most_average_rewards") fd := T.says.def_ 55 (d := d_most_average_rewards) rfl
theorem Tx.f_end_of (T : Tx K mg) : ∃ fd, FunD K "end_of" "end_of" (defArgs s_end_of) (defBody s_end_of) (defScope s_end_of) [] [] (He.ga K "end_of") fd := T.says.def_ 56 (d := d_end_of) rfl
theorem Tx.f_rewards_of (T : Tx K mg) : ∃ fd, FunD K "rewards_of" "rewards_of" (defArgs s_rewards_of) (defBody s_rewards_of) (defScope s_rewards_of) [] [] (He.ga K "rewards_of") fd := T.says.def_ 57 (d := d_rewards_of) rfl
theorem Tx.f_discounted (T : Tx K mg) : ∃ fd, FunD K "discounted" "discounted" (defArgs s_discounted) (defBody s_discounted) (defScope s_discounted) [] [] (He.ga K "discounted") fd := T.says.def_ 58 (d := d_discounted) rfl
theorem Tx.f_word_reward (T : Tx K mg) : ∃ fd, FunD K "word_reward" "word_reward" (defArgs s_word_reward) (defBody s_word_reward) (defScope s_word_reward) [] [] (He.ga K "word_reward") fd := T.says.def_ 59 (d := d_word_reward) rfl
theorem Tx.f_preserves (T : Tx K mg) : ∃ fd, FunD K "preserves" "preserves" (defArgs s_preserves) (defBody s_preserves) (defScope s_preserves) [] [] (He.ga K "preserves") fd := T.says.def_ 60 (d := d_preserves) rfl
theorem Tx.f_is_optimal (T : Tx K mg) : ∃ fd, FunD K "is_optimal" "is_optimal" (defArgs s_is_optimal) (defBody s_is_optimal) (defScope s_is_optimal) [] [] (He.ga K "is_optimal") fd := T.says.def_ 61 (d := d_is_optimal) rfl
theorem Tx.f_longer_words (T : Tx K mg) : ∃ fd, FunD K "longer_words" "longer_words" (defArgs s_longer_words) (defBody s_longer_words) (defScope s_longer_words) [] [] (He.ga K "longer_words") fd := T.says.def_ 62 (d := d_longer_words) rfl
theorem Tx.f_optimal_words (T : Tx K mg) : ∃ fd, FunD K "optimal_words" "optimal_words" (defArgs s_optimal_words) (defBody s_optimal_words) (defScope s_optimal_words) [] [] (He.ga K "optimal_words") fd := T.says.def_ 63 (d := d_optimal_words) rfl
theorem Tx.f_is_letter (T : Tx K mg) : ∃ fd, FunD K "is_letter" "is_letter" (defArgs s_is_letter) (defBody s_is_letter) (defScope s_is_letter) [] [] (He.ga K "is_letter") fd := T.says.def_ 64 (d := d_is_letter) rfl
theorem Tx.f_is_undo (T : Tx K mg) : ∃ fd, FunD K "is_undo" "is_undo" (defArgs s_is_undo) (defBody s_is_undo) (defScope s_is_undo) [] [] (He.ga K "is_undo") fd := T.says.def_ 65 (d := d_is_undo) rfl
theorem Tx.f_Walk_init (T : Tx K mg) : ∃ fd, FunD K "__init__" "Walk.__init__" (defArgs s_Walk_init) (defBody s_Walk_init) (defScope s_Walk_init) [] [] (He.ma K (He.ga K "Walk") "__init__") fd := T.says.def_ 66 (d := d_Walk_init) rfl
theorem Tx.f_Walk_tell (T : Tx K mg) : ∃ fd, FunD K "tell" "Walk.tell" (defArgs s_Walk_tell) (defBody s_Walk_tell) (defScope s_Walk_tell) [] [] (He.ma K (He.ga K "Walk") "tell") fd := T.says.def_ 67 (d := d_Walk_tell) rfl
theorem Tx.f_Walk_advance (T : Tx K mg) : ∃ fd, FunD K "advance" "Walk.advance" (defArgs s_Walk_advance) (defBody s_Walk_advance) (defScope s_Walk_advance) [] [] (He.ma K (He.ga K "Walk") "advance") fd := T.says.def_ 68 (d := d_Walk_advance) rfl
theorem Tx.f_Walk_throw_in (T : Tx K mg) : ∃ fd, FunD K "throw_in" "Walk.throw_in" (defArgs s_Walk_throw_in) (defBody s_Walk_throw_in) (defScope s_Walk_throw_in) [] [] (He.ma K (He.ga K "Walk") "throw_in") fd := T.says.def_ 69 (d := d_Walk_throw_in) rfl
theorem Tx.f_Walk_finish (T : Tx K mg) : ∃ fd, FunD K "finish" "Walk.finish" (defArgs s_Walk_finish) (defBody s_Walk_finish) (defScope s_Walk_finish) [] [] (He.ma K (He.ga K "Walk") "finish") fd := T.says.def_ 70 (d := d_Walk_finish) rfl
theorem Tx.f_Walk_dispose (T : Tx K mg) : ∃ fd, FunD K "dispose" "Walk.dispose" (defArgs s_Walk_dispose) (defBody s_Walk_dispose) (defScope s_Walk_dispose) [] [] (He.ma K (He.ga K "Walk") "dispose") fd := T.says.def_ 71 (d := d_Walk_dispose) rfl
theorem Tx.f_Listing_init (T : Tx K mg) : ∃ fd, FunD K "__init__" "Listing.__init__" (defArgs s_Listing_init) (defBody s_Listing_init) (defScope s_Listing_init) [] [] (He.ma K (He.ga K "Listing") "__init__") fd := T.says.def_ 72 (d := d_Listing_init) rfl
theorem Tx.f_Listing_show (T : Tx K mg) : ∃ fd, FunD K "show" "Listing.show" (defArgs s_Listing_show) (defBody s_Listing_show) (defScope s_Listing_show) [] [] (He.ma K (He.ga K "Listing") "show") fd := T.says.def_ 73 (d := d_Listing_show) rfl
theorem Tx.f_Listing_end (T : Tx K mg) : ∃ fd, FunD K "end" "Listing.end" (defArgs s_Listing_end) (defBody s_Listing_end) (defScope s_Listing_end) [] [] (He.ma K (He.ga K "Listing") "end") fd := T.says.def_ 74 (d := d_Listing_end) rfl
theorem Tx.f_Listing_proceed (T : Tx K mg) : ∃ fd, FunD K "proceed" "Listing.proceed" (defArgs s_Listing_proceed) (defBody s_Listing_proceed) (defScope s_Listing_proceed) [] [] (He.ma K (He.ga K "Listing") "proceed") fd := T.says.def_ 75 (d := d_Listing_proceed) rfl
theorem Tx.f_Listing_skips (T : Tx K mg) : ∃ fd, FunD K "skips" "Listing.skips" (defArgs s_Listing_skips) (defBody s_Listing_skips) (defScope s_Listing_skips) [] [] (He.ma K (He.ga K "Listing") "skips") fd := T.says.def_ 76 (d := d_Listing_skips) rfl
theorem Tx.f_Listing_next_parts (T : Tx K mg) : ∃ fd, FunD K "next_parts" "Listing.next_parts" (defArgs s_Listing_next_parts) (defBody s_Listing_next_parts) (defScope s_Listing_next_parts) [] [] (He.ma K (He.ga K "Listing") "next_parts") fd := T.says.def_ 77 (d := d_Listing_next_parts) rfl
theorem Tx.f_Listing_throw_parts (T : Tx K mg) : ∃ fd, FunD K "throw_parts" "Listing.throw_parts" (defArgs s_Listing_throw_parts) (defBody s_Listing_throw_parts) (defScope s_Listing_throw_parts) [] [] (He.ma K (He.ga K "Listing") "throw_parts") fd := T.says.def_ 78 (d := d_Listing_throw_parts) rfl
theorem Tx.f_Listing_return_parts (T : Tx K mg) : ∃ fd, FunD K "return_parts" "Listing.return_parts" (defArgs s_Listing_return_parts) (defBody s_Listing_return_parts) (defScope s_Listing_return_parts) [] [] (He.ma K (He.ga K "Listing") "return_parts") fd := T.says.def_ 79 (d := d_Listing_return_parts) rfl
theorem Tx.f_Listing_request_parts (T : Tx K mg) : ∃ fd, FunD K "request_parts" "Listing.request_parts" (defArgs s_Listing_request_parts) (defBody s_Listing_request_parts) (defScope s_Listing_request_parts) [] [] (He.ma K (He.ga K "Listing") "request_parts") fd := T.says.def_ 80 (d := d_Listing_request_parts) rfl
theorem Tx.f_Listing_advance (T : Tx K mg) : ∃ fd, FunD K "advance" "Listing.advance" (defArgs s_Listing_advance) (defBody s_Listing_advance) (defScope s_Listing_advance) [] [] (He.ma K (He.ga K "Listing") "advance") fd := T.says.def_ 81 (d := d_Listing_advance) rfl
theorem Tx.f_Listing_throw_in (T : Tx K mg) : ∃ fd, FunD K "throw_in" "Listing.throw_in" (defArgs s_Listing_throw_in) (defBody s_Listing_throw_in) (defScope s_Listing_throw_in) [] [] (He.ma K (He.ga K "Listing") "throw_in") fd := T.says.def_ 82 (d := d_Listing_throw_in) rfl
theorem Tx.f_Listing_finish (T : Tx K mg) : ∃ fd, FunD K "finish" "Listing.finish" (defArgs s_Listing_finish) (defBody s_Listing_finish) (defScope s_Listing_finish) [] [] (He.ma K (He.ga K "Listing") "finish") fd := T.says.def_ 83 (d := d_Listing_finish) rfl
theorem Tx.f_Listing_collect (T : Tx K mg) : ∃ fd, FunD K "collect" "Listing.collect" (defArgs s_Listing_collect) (defBody s_Listing_collect) (defScope s_Listing_collect) [] [] (He.ma K (He.ga K "Listing") "collect") fd := T.says.def_ 84 (d := d_Listing_collect) rfl
theorem Tx.f_Listing_together (T : Tx K mg) : ∃ fd, FunD K "together" "Listing.together" (defArgs s_Listing_together) (defBody s_Listing_together) (defScope s_Listing_together) [] [] (He.ma K (He.ga K "Listing") "together") fd := T.says.def_ 85 (d := d_Listing_together) rfl
theorem Tx.f_Listing_dispose (T : Tx K mg) : ∃ fd, FunD K "dispose" "Listing.dispose" (defArgs s_Listing_dispose) (defBody s_Listing_dispose) (defScope s_Listing_dispose) [] [] (He.ma K (He.ga K "Listing") "dispose") fd := T.says.def_ 86 (d := d_Listing_dispose) rfl
theorem Tx.f_optimal_values (T : Tx K mg) : ∃ fd, FunD K "optimal_values" "optimal_values" (defArgs s_optimal_values) (defBody s_optimal_values) (defScope s_optimal_values) [] [] (He.ga K "optimal_values") fd := T.says.def_ 87 (d := d_optimal_values) rfl
theorem Tx.f_answer_reward (T : Tx K mg) : ∃ fd, FunD K "answer_reward" "answer_reward" (defArgs s_answer_reward) (defBody s_answer_reward) (defScope s_answer_reward) [] [] (He.ga K "answer_reward") fd := T.says.def_ 88 (d := d_answer_reward) rfl
theorem Tx.f_answer_values (T : Tx K mg) : ∃ fd, FunD K "answer_values" "answer_values" (defArgs s_answer_values) (defBody s_answer_values) (defScope s_answer_values) [] [] (He.ga K "answer_values") fd := T.says.def_ 89 (d := d_answer_values) rfl
theorem Tx.f_answer_optimal (T : Tx K mg) : ∃ fd, FunD K "answer_optimal" "answer_optimal" (defArgs s_answer_optimal) (defBody s_answer_optimal) (defScope s_answer_optimal) [] [] (He.ga K "answer_optimal") fd := T.says.def_ 90 (d := d_answer_optimal) rfl
theorem Tx.f_answer_prefix (T : Tx K mg) : ∃ fd, FunD K "answer_prefix" "answer_prefix" (defArgs s_answer_prefix) (defBody s_answer_prefix) (defScope s_answer_prefix) [] [] (He.ga K "answer_prefix") fd := T.says.def_ 91 (d := d_answer_prefix) rfl
theorem Tx.f_answer_averages (T : Tx K mg) : ∃ fd, FunD K "answer_averages" "answer_averages" (defArgs s_answer_averages) (defBody s_answer_averages) (defScope s_answer_averages) [] [] (He.ga K "answer_averages") fd := T.says.def_ 92 (d := d_answer_averages) rfl
theorem Tx.f_answer_plain (T : Tx K mg) : ∃ fd, FunD K "answer_plain" "answer_plain" (defArgs s_answer_plain) (defBody s_answer_plain) (defScope s_answer_plain) [] [] (He.ga K "answer_plain") fd := T.says.def_ 93 (d := d_answer_plain) rfl
theorem Tx.f_new_walk (T : Tx K mg) : ∃ fd, FunD K "new_walk" "new_walk" (defArgs s_new_walk) (defBody s_new_walk) (defScope s_new_walk) [] [] (He.ga K "new_walk") fd := T.says.def_ 94 (d := d_new_walk) rfl
theorem Tx.f_new_listing (T : Tx K mg) : ∃ fd, FunD K "new_listing" "new_listing" (defArgs s_new_listing) (defBody s_new_listing) (defScope s_new_listing) [] [] (He.ga K "new_listing") fd := T.says.def_ 95 (d := d_new_listing) rfl
theorem Tx.f_answer_walk (T : Tx K mg) : ∃ fd, FunD K "answer_walk" "answer_walk" (defArgs s_answer_walk) (defBody s_answer_walk) (defScope s_answer_walk) [] [] (He.ga K "answer_walk") fd := T.says.def_ 96 (d := d_answer_walk) rfl
theorem Tx.f_answer_listing (T : Tx K mg) : ∃ fd, FunD K "answer_listing" "answer_listing" (defArgs s_answer_listing) (defBody s_answer_listing) (defScope s_answer_listing) [] [] (He.ga K "answer_listing") fd := T.says.def_ 97 (d := d_answer_listing) rfl
theorem Tx.f_Library_init (T : Tx K mg) : ∃ fd, FunD K "__init__" "Library.__init__" (defArgs s_Library_init) (defBody s_Library_init) (defScope s_Library_init) [] [] (He.ma K (He.ga K "Library") "__init__") fd := T.says.def_ 98 (d := d_Library_init) rfl
theorem Tx.f_Library_returned (T : Tx K mg) : ∃ fd, FunD K "returned" "Library.returned" (defArgs s_Library_returned) (defBody s_Library_returned) (defScope s_Library_returned) [] [] (He.ma K (He.ga K "Library") "returned") fd := T.says.def_ 99 (d := d_Library_returned) rfl
theorem Tx.f_Library_answer (T : Tx K mg) : ∃ fd, FunD K "answer" "Library.answer" (defArgs s_Library_answer) (defBody s_Library_answer) (defScope s_Library_answer) [] [] (He.ma K (He.ga K "Library") "answer") fd := T.says.def_ 100 (d := d_Library_answer) rfl
theorem Tx.f_answers (T : Tx K mg) : ∃ fd, FunD K "answers" "answers" (defArgs s_answers) (defBody s_answers) (defScope s_answers) [] [] (He.ga K "answers") fd := T.says.def_ 101 (d := d_answers) rfl
theorem Tx.e_WrongKind_WrongKind (T : Tx K mg) : PySem.W.exmOne K (.ref (cWrongKind K)) (.ref (cWrongKind K)) = some true := of_decide_eq_true (T.says.fact 165 (f := .exm "WrongKind" "WrongKind" true) rfl)
theorem Tx.e_WrongKind_OutOfRange (T : Tx K mg) : PySem.W.exmOne K (.ref (cWrongKind K)) (.ref (cOutOfRange K)) = some false := of_decide_eq_true (T.says.fact 166 (f := .exm "WrongKind" "OutOfRange" false) rfl)
theorem Tx.e_OutOfRange_WrongKind (T : Tx K mg) : PySem.W.exmOne K (.ref (cOutOfRange K)) (.ref (cWrongKind K)) = some false := of_decide_eq_true (T.says.fact 167 (f := .exm "OutOfRange" "WrongKind" false) rfl)
theorem Tx.e_OutOfRange_OutOfRange (T : Tx K mg) : PySem.W.exmOne K (.ref (cOutOfRange K)) (.ref (cOutOfRange K)) = some true := of_decide_eq_true (T.says.fact 168 (f := .exm "OutOfRange" "OutOfRange" true) rfl)
end
theorem sc_Value_init : FnScope ["self", "kind", "whole", "octets", "parts"] ["self", "kind", "whole", "octets", "parts"] (defScope s_Value_init) := ⟨rfl, rfl, rfl, by decide +kernel, rfl, by decide +kernel, by decide +kernel⟩
theorem sc_read_number : FnScope ["octets", "at", "width", "number", "k"] ["octets", "at", "width"] (defScope s_read_number) := ⟨rfl, rfl, rfl, by decide +kernel, rfl, by decide +kernel, by decide +kernel⟩
theorem sc_read_whole : FnScope ["octets", "at", "number"] ["octets", "at"] (defScope s_read_whole) := ⟨rfl, rfl, rfl, by decide +kernel, rfl, by decide +kernel, by decide +kernel⟩
theorem sc_read_value : FnScope ["octets", "at", "kind", "size"] ["octets", "at"] (defScope s_read_value) := ⟨rfl, rfl, rfl, by decide +kernel, rfl, by decide +kernel, by decide +kernel⟩
theorem sc_read_parts : FnScope ["octets", "at", "kind", "many", "parts", "place", "k", "part"] ["octets", "at", "kind"] (defScope s_read_parts) := ⟨rfl, rfl, rfl, by decide +kernel, rfl, by decide +kernel, by decide +kernel⟩
theorem sc_read_arguments : FnScope ["octets", "arguments", "at", "k", "argument"] ["octets"] (defScope s_read_arguments) := ⟨rfl, rfl, rfl, by decide +kernel, rfl, by decide +kernel, by decide +kernel⟩
theorem sc_octets_of : FnScope ["words", "sign"] ["words"] (defScope s_octets_of) := ⟨rfl, rfl, rfl, by decide +kernel, rfl, by decide +kernel, by decide +kernel⟩
theorem sc_write_number : FnScope ["number", "width", "octets", "rest", "k"] ["number", "width"] (defScope s_write_number) := ⟨rfl, rfl, rfl, by decide +kernel, rfl, by decide +kernel, by decide +kernel⟩
theorem sc_write_truth : FnScope ["truth"] ["truth"] (defScope s_write_truth) := ⟨rfl, rfl, rfl, by decide +kernel, rfl, by decide +kernel, by decide +kernel⟩
theorem sc_write_whole : FnScope ["whole"] ["whole"] (defScope s_write_whole) := ⟨rfl, rfl, rfl, by decide +kernel, rfl, by decide +kernel, by decide +kernel⟩
theorem sc_write_text : FnScope ["octets"] ["octets"] (defScope s_write_text) := ⟨rfl, rfl, rfl, by decide +kernel, rfl, by decide +kernel, by decide +kernel⟩
theorem sc_write_words : FnScope ["words"] ["words"] (defScope s_write_words) := ⟨rfl, rfl, rfl, by decide +kernel, rfl, by decide +kernel, by decide +kernel⟩
theorem sc_write_word : FnScope ["word", "letter"] ["word"] (defScope s_write_word) := ⟨rfl, rfl, rfl, by decide +kernel, rfl, by decide +kernel, by decide +kernel⟩
theorem sc_write_list : FnScope ["parts", "octets", "part"] ["parts"] (defScope s_write_list) := ⟨rfl, rfl, rfl, by decide +kernel, rfl, by decide +kernel, by decide +kernel⟩
theorem sc_write_record : FnScope ["members", "octets", "name", "part"] ["members"] (defScope s_write_record) := ⟨rfl, rfl, rfl, by decide +kernel, rfl, by decide +kernel, by decide +kernel⟩
theorem sc_write_fraction : FnScope ["fraction"] ["fraction"] (defScope s_write_fraction) := ⟨rfl, rfl, rfl, by decide +kernel, rfl, by decide +kernel, by decide +kernel⟩
theorem sc_write_fractions : FnScope ["fractions", "fraction"] ["fractions"] (defScope s_write_fractions) := ⟨rfl, rfl, rfl, by decide +kernel, rfl, by decide +kernel, by decide +kernel⟩
theorem sc_write_again : FnScope ["value"] ["value"] (defScope s_write_again) := ⟨rfl, rfl, rfl, by decide +kernel, rfl, by decide +kernel, by decide +kernel⟩
theorem sc_write_outcome : FnScope ["part", "done"] ["part", "done"] (defScope s_write_outcome) := ⟨rfl, rfl, rfl, by decide +kernel, rfl, by decide +kernel, by decide +kernel⟩
theorem sc_result_parts : FnScope ["part", "done"] ["part", "done"] (defScope s_result_parts) := ⟨rfl, rfl, rfl, by decide +kernel, rfl, by decide +kernel, by decide +kernel⟩
theorem sc_thrown_parts : FnScope ["x"] ["x"] (defScope s_thrown_parts) := ⟨rfl, rfl, rfl, by decide +kernel, rfl, by decide +kernel, by decide +kernel⟩
theorem sc_write_refusal : FnScope ["sort", "words"] ["sort", "words"] (defScope s_write_refusal) := ⟨rfl, rfl, rfl, by decide +kernel, rfl, by decide +kernel, by decide +kernel⟩
theorem sc_common_divisor : FnScope ["one", "other", "big", "small", "rest"] ["one", "other"] (defScope s_common_divisor) := ⟨rfl, rfl, rfl, by decide +kernel, rfl, by decide +kernel, by decide +kernel⟩
theorem sc_reduced : FnScope ["top", "bottom", "divisor"] ["top", "bottom"] (defScope s_reduced) := ⟨rfl, rfl, rfl, by decide +kernel, rfl, by decide +kernel, by decide +kernel⟩
theorem sc_at_fraction : FnScope ["polynomial", "top", "bottom", "number", "weight", "coefficient"] ["polynomial", "top", "bottom"] (defScope s_at_fraction) := ⟨rfl, rfl, rfl, by decide +kernel, rfl, by decide +kernel, by decide +kernel⟩
theorem sc_one_more : FnScope ["shifted", "coefficient", "part", "longer", "k"] ["shifted", "coefficient"] (defScope s_one_more) := ⟨rfl, rfl, rfl, by decide +kernel, rfl, by decide +kernel, by decide +kernel⟩
theorem sc_about_one : FnScope ["polynomial", "shifted", "coefficient"] ["polynomial"] (defScope s_about_one) := ⟨rfl, rfl, rfl, by decide +kernel, rfl, by decide +kernel, by decide +kernel⟩
theorem sc_is_less : FnScope ["one", "other", "mine", "its"] ["one", "other"] (defScope s_is_less) := ⟨rfl, rfl, rfl, by decide +kernel, rfl, by decide +kernel, by decide +kernel⟩
theorem sc_WrongKind_init : FnScope ["self", "words"] ["self", "words"] (defScope s_WrongKind_init) := ⟨rfl, rfl, rfl, by decide +kernel, rfl, by decide +kernel, by decide +kernel⟩
theorem sc_OutOfRange_init : FnScope ["self", "words"] ["self", "words"] (defScope s_OutOfRange_init) := ⟨rfl, rfl, rfl, by decide +kernel, rfl, by decide +kernel, by decide +kernel⟩
theorem sc_is_between : FnScope ["value", "least", "most"] ["value", "least", "most"] (defScope s_is_between) := ⟨rfl, rfl, rfl, by decide +kernel, rfl, by decide +kernel, by decide +kernel⟩
theorem sc_is_pair : FnScope ["value"] ["value"] (defScope s_is_pair) := ⟨rfl, rfl, rfl, by decide +kernel, rfl, by decide +kernel, by decide +kernel⟩
theorem sc_is_transition : FnScope ["value", "many"] ["value", "many"] (defScope s_is_transition) := ⟨rfl, rfl, rfl, by decide +kernel, rfl, by decide +kernel, by decide +kernel⟩
theorem sc_is_state : FnScope ["value", "many"] ["value", "many"] (defScope s_is_state) := ⟨rfl, rfl, rfl, by decide +kernel, rfl, by decide +kernel, by decide +kernel⟩
theorem sc_transition_of : FnScope ["value"] ["value"] (defScope s_transition_of) := ⟨rfl, rfl, rfl, by decide +kernel, rfl, by decide +kernel, by decide +kernel⟩
theorem sc_system_of : FnScope ["value", "many", "at", "part"] ["value"] (defScope s_system_of) := ⟨rfl, rfl, rfl, by decide +kernel, rfl, by decide +kernel, by decide +kernel⟩
theorem sc_is_discount : FnScope ["value", "top", "bottom"] ["value"] (defScope s_is_discount) := ⟨rfl, rfl, rfl, by decide +kernel, rfl, by decide +kernel, by decide +kernel⟩
theorem sc_discount_of : FnScope ["value"] ["value"] (defScope s_discount_of) := ⟨rfl, rfl, rfl, by decide +kernel, rfl, by decide +kernel, by decide +kernel⟩
theorem sc_are_letters : FnScope ["value", "sign"] ["value"] (defScope s_are_letters) := ⟨rfl, rfl, rfl, by decide +kernel, rfl, by decide +kernel, by decide +kernel⟩
theorem sc_letters_of : FnScope ["value", "sign"] ["value"] (defScope s_letters_of) := ⟨rfl, rfl, rfl, by decide +kernel, rfl, by decide +kernel, by decide +kernel⟩
theorem sc_word_of : FnScope ["value"] ["value"] (defScope s_word_of) := ⟨rfl, rfl, rfl, by decide +kernel, rfl, by decide +kernel, by decide +kernel⟩
theorem sc_policy_of : FnScope ["value", "many"] ["value", "many"] (defScope s_policy_of) := ⟨rfl, rfl, rfl, by decide +kernel, rfl, by decide +kernel, by decide +kernel⟩
theorem sc_length_of : FnScope ["value"] ["value"] (defScope s_length_of) := ⟨rfl, rfl, rfl, by decide +kernel, rfl, by decide +kernel, by decide +kernel⟩
theorem sc_all_policies : FnScope ["many", "policies", "k", "longer", "policy"] ["many"] (defScope s_all_policies) := ⟨rfl, rfl, rfl, by decide +kernel, rfl, by decide +kernel, by decide +kernel⟩
theorem sc_first_rewards : FnScope ["system", "policy", "start", "rewards", "state", "k", "target", "reward"] ["system", "policy", "start"] (defScope s_first_rewards) := ⟨rfl, rfl, rfl, by decide +kernel, rfl, by decide +kernel, by decide +kernel⟩
theorem sc_value_polynomial : FnScope ["system", "policy", "start", "rewards", "polynomial", "k"] ["system", "policy", "start"] (defScope s_value_polynomial) := ⟨rfl, rfl, rfl, by decide +kernel, rfl, by decide +kernel, by decide +kernel⟩
theorem sc_value_polynomials : FnScope ["system", "policy", "state"] ["system", "policy"] (defScope s_value_polynomials) := ⟨rfl, rfl, rfl, by decide +kernel, rfl, by decide +kernel, by decide +kernel⟩
theorem sc_policy_values : FnScope ["system", "discount", "policy", "top", "bottom", "whole", "polynomials", "polynomial"] ["system", "discount", "policy"] (defScope s_policy_values) := ⟨rfl, rfl, rfl, by decide +kernel, rfl, by decide +kernel, by decide +kernel⟩
theorem sc_is_best : FnScope ["ranks", "rivals", "others", "mine", "its"] ["ranks", "rivals"] (defScope s_is_best) := ⟨rfl, rfl, rfl, by decide +kernel, rfl, by decide +kernel, by decide +kernel⟩
theorem sc_first_best : FnScope ["policies", "rivals", "policy", "ranks"] ["policies", "rivals"] (defScope s_first_best) := ⟨rfl, rfl, rfl, by decide +kernel, rfl, by decide +kernel, by decide +kernel⟩
theorem sc_optimal_policy : FnScope ["system", "discount", "top", "bottom", "policies", "rivals", "policy", "polynomials", "polynomial"] ["system", "discount"] (defScope s_optimal_policy) := ⟨rfl, rfl, rfl, by decide +kernel, rfl, by decide +kernel, by decide +kernel⟩
theorem sc_blackwell_policy : FnScope ["system", "policies", "rivals", "policy", "polynomial"] ["system"] (defScope s_blackwell_policy) := ⟨rfl, rfl, rfl, by decide +kernel, rfl, by decide +kernel, by decide +kernel⟩
theorem sc_myopic_policy : FnScope ["system", "policies", "rivals", "policy"] ["system"] (defScope s_myopic_policy) := ⟨rfl, rfl, rfl, by decide +kernel, rfl, by decide +kernel, by decide +kernel⟩
theorem sc_round_sums : FnScope ["system", "policy", "state"] ["system", "policy"] (defScope s_round_sums) := ⟨rfl, rfl, rfl, by decide +kernel, rfl, by decide +kernel, by decide +kernel⟩
theorem sc_average_rewards : FnScope ["system", "policy", "total"] ["system", "policy"] (defScope s_average_rewards) := ⟨rfl, rfl, rfl, by decide +kernel, rfl, by decide +kernel, by decide +kernel⟩
theorem sc_most_average_rewards : FnScope ["system", "policies", "greatest", "policy", "totals", "total", "so_far"] ["system"] (defScope s_most_average_rewards) := ⟨rfl, rfl, rfl, by decide +kernel, rfl, by decide +kernel, by decide +kernel⟩
theorem sc_end_of : FnScope ["system", "word", "state", "letter"] ["system", "word"] (defScope s_end_of) := ⟨rfl, rfl, rfl, by decide +kernel, rfl, by decide +kernel, by decide +kernel⟩
theorem sc_rewards_of : FnScope ["system", "word", "rewards", "state", "letter", "target", "reward"] ["system", "word"] (defScope s_rewards_of) := ⟨rfl, rfl, rfl, by decide +kernel, rfl, by decide +kernel, by decide +kernel⟩
theorem sc_discounted : FnScope ["rewards", "discount", "behind", "top", "bottom", "reward"] ["rewards", "discount", "behind"] (defScope s_discounted) := ⟨rfl, rfl, rfl, by decide +kernel, rfl, by decide +kernel, by decide +kernel⟩
theorem sc_word_reward : FnScope ["system", "discount", "word"] ["system", "discount", "word"] (defScope s_word_reward) := ⟨rfl, rfl, rfl, by decide +kernel, rfl, by decide +kernel, by decide +kernel⟩
theorem sc_preserves : FnScope ["system", "discount", "best", "state", "letter", "target", "reward"] ["system", "discount", "best", "state", "letter"] (defScope s_preserves) := ⟨rfl, rfl, rfl, by decide +kernel, rfl, by decide +kernel, by decide +kernel⟩
theorem sc_is_optimal : FnScope ["system", "discount", "best", "word", "state", "letter"] ["system", "discount", "best", "word"] (defScope s_is_optimal) := ⟨rfl, rfl, rfl, by decide +kernel, rfl, by decide +kernel, by decide +kernel⟩
theorem sc_longer_words : FnScope ["system", "discount", "best", "words", "longer", "word", "state", "letter"] ["system", "discount", "best", "words"] (defScope s_longer_words) := ⟨rfl, rfl, rfl, by decide +kernel, rfl, by decide +kernel, by decide +kernel⟩
theorem sc_optimal_words : FnScope ["system", "discount", "best", "most", "words", "last", "k"] ["system", "discount", "best", "most"] (defScope s_optimal_words) := ⟨rfl, rfl, rfl, by decide +kernel, rfl, by decide +kernel, by decide +kernel⟩
theorem sc_is_letter : FnScope ["x"] ["x"] (defScope s_is_letter) := ⟨rfl, rfl, rfl, by decide +kernel, rfl, by decide +kernel, by decide +kernel⟩
theorem sc_is_undo : FnScope ["x"] ["x"] (defScope s_is_undo) := ⟨rfl, rfl, rfl, by decide +kernel, rfl, by decide +kernel, by decide +kernel⟩
theorem sc_Walk_init : FnScope ["self", "system", "discount", "best"] ["self", "system", "discount", "best"] (defScope s_Walk_init) := ⟨rfl, rfl, rfl, by decide +kernel, rfl, by decide +kernel, by decide +kernel⟩
theorem sc_Walk_tell : FnScope ["self", "state", "reward", "most"] ["self"] (defScope s_Walk_tell) := ⟨rfl, rfl, rfl, by decide +kernel, rfl, by decide +kernel, by decide +kernel⟩
theorem sc_Walk_advance : FnScope ["self", "x"] ["self", "x"] (defScope s_Walk_advance) := ⟨rfl, rfl, rfl, by decide +kernel, rfl, by decide +kernel, by decide +kernel⟩
theorem sc_Walk_throw_in : FnScope ["self", "x"] ["self", "x"] (defScope s_Walk_throw_in) := ⟨rfl, rfl, rfl, by decide +kernel, rfl, by decide +kernel, by decide +kernel⟩
theorem sc_Walk_finish : FnScope ["self", "x"] ["self", "x"] (defScope s_Walk_finish) := ⟨rfl, rfl, rfl, by decide +kernel, rfl, by decide +kernel, by decide +kernel⟩
theorem sc_Walk_dispose : FnScope ["self"] ["self"] (defScope s_Walk_dispose) := ⟨rfl, rfl, rfl, by decide +kernel, rfl, by decide +kernel, by decide +kernel⟩
theorem sc_Listing_init : FnScope ["self", "system", "discount", "words"] ["self", "system", "discount", "words"] (defScope s_Listing_init) := ⟨rfl, rfl, rfl, by decide +kernel, rfl, by decide +kernel, by decide +kernel⟩
theorem sc_Listing_show : FnScope ["self", "word", "reward"] ["self", "word"] (defScope s_Listing_show) := ⟨rfl, rfl, rfl, by decide +kernel, rfl, by decide +kernel, by decide +kernel⟩
theorem sc_Listing_end : FnScope ["self"] ["self"] (defScope s_Listing_end) := ⟨rfl, rfl, rfl, by decide +kernel, rfl, by decide +kernel, by decide +kernel⟩
theorem sc_Listing_proceed : FnScope ["self", "word"] ["self"] (defScope s_Listing_proceed) := ⟨rfl, rfl, rfl, by decide +kernel, rfl, by decide +kernel, by decide +kernel⟩
theorem sc_Listing_skips : FnScope ["self", "x"] ["self", "x"] (defScope s_Listing_skips) := ⟨rfl, rfl, rfl, by decide +kernel, rfl, by decide +kernel, by decide +kernel⟩
theorem sc_Listing_next_parts : FnScope ["self", "part", "done"] ["self"] (defScope s_Listing_next_parts) := ⟨rfl, rfl, rfl, by decide +kernel, rfl, by decide +kernel, by decide +kernel⟩
theorem sc_Listing_throw_parts : FnScope ["self", "x", "word"] ["self", "x"] (defScope s_Listing_throw_parts) := ⟨rfl, rfl, rfl, by decide +kernel, rfl, by decide +kernel, by decide +kernel⟩
theorem sc_Listing_return_parts : FnScope ["self", "x"] ["self", "x"] (defScope s_Listing_return_parts) := ⟨rfl, rfl, rfl, by decide +kernel, rfl, by decide +kernel, by decide +kernel⟩
theorem sc_Listing_request_parts : FnScope ["self", "sign", "x"] ["self", "sign", "x"] (defScope s_Listing_request_parts) := ⟨rfl, rfl, rfl, by decide +kernel, rfl, by decide +kernel, by decide +kernel⟩
theorem sc_Listing_advance : FnScope ["self", "part", "done"] ["self"] (defScope s_Listing_advance) := ⟨rfl, rfl, rfl, by decide +kernel, rfl, by decide +kernel, by decide +kernel⟩
theorem sc_Listing_throw_in : FnScope ["self", "x"] ["self", "x"] (defScope s_Listing_throw_in) := ⟨rfl, rfl, rfl, by decide +kernel, rfl, by decide +kernel, by decide +kernel⟩
theorem sc_Listing_finish : FnScope ["self", "x"] ["self", "x"] (defScope s_Listing_finish) := ⟨rfl, rfl, rfl, by decide +kernel, rfl, by decide +kernel, by decide +kernel⟩
theorem sc_Listing_collect : FnScope ["self", "records", "word"] ["self"] (defScope s_Listing_collect) := ⟨rfl, rfl, rfl, by decide +kernel, rfl, by decide +kernel, by decide +kernel⟩
theorem sc_Listing_together : FnScope ["self", "requests", "x", "answers", "place", "sign"] ["self", "requests", "x"] (defScope s_Listing_together) := ⟨rfl, rfl, rfl, by decide +kernel, rfl, by decide +kernel, by decide +kernel⟩
theorem sc_Listing_dispose : FnScope ["self"] ["self"] (defScope s_Listing_dispose) := ⟨rfl, rfl, rfl, by decide +kernel, rfl, by decide +kernel, by decide +kernel⟩
theorem sc_optimal_values : FnScope ["system", "discount"] ["system", "discount"] (defScope s_optimal_values) := ⟨rfl, rfl, rfl, by decide +kernel, rfl, by decide +kernel, by decide +kernel⟩
theorem sc_answer_reward : FnScope ["arguments", "system", "discount", "word", "reward"] ["arguments"] (defScope s_answer_reward) := ⟨rfl, rfl, rfl, by decide +kernel, rfl, by decide +kernel, by decide +kernel⟩
theorem sc_answer_values : FnScope ["arguments", "system", "discount", "policy"] ["arguments"] (defScope s_answer_values) := ⟨rfl, rfl, rfl, by decide +kernel, rfl, by decide +kernel, by decide +kernel⟩
theorem sc_answer_optimal : FnScope ["arguments", "system", "discount", "policy", "best"] ["arguments"] (defScope s_answer_optimal) := ⟨rfl, rfl, rfl, by decide +kernel, rfl, by decide +kernel, by decide +kernel⟩
theorem sc_answer_prefix : FnScope ["arguments", "system", "discount", "word"] ["arguments"] (defScope s_answer_prefix) := ⟨rfl, rfl, rfl, by decide +kernel, rfl, by decide +kernel, by decide +kernel⟩
theorem sc_answer_averages : FnScope ["arguments", "system", "policy"] ["arguments"] (defScope s_answer_averages) := ⟨rfl, rfl, rfl, by decide +kernel, rfl, by decide +kernel, by decide +kernel⟩
theorem sc_answer_plain : FnScope ["door", "arguments"] ["door", "arguments"] (defScope s_answer_plain) := ⟨rfl, rfl, rfl, by decide +kernel, rfl, by decide +kernel, by decide +kernel⟩
theorem sc_new_walk : FnScope ["arguments", "system", "discount"] ["arguments"] (defScope s_new_walk) := ⟨rfl, rfl, rfl, by decide +kernel, rfl, by decide +kernel, by decide +kernel⟩
theorem sc_new_listing : FnScope ["arguments", "system", "discount", "most", "words"] ["arguments"] (defScope s_new_listing) := ⟨rfl, rfl, rfl, by decide +kernel, rfl, by decide +kernel, by decide +kernel⟩
theorem sc_answer_walk : FnScope ["door", "walk", "x"] ["door", "walk", "x"] (defScope s_answer_walk) := ⟨rfl, rfl, rfl, by decide +kernel, rfl, by decide +kernel, by decide +kernel⟩
theorem sc_answer_listing : FnScope ["door", "listing", "arguments"] ["door", "listing", "arguments"] (defScope s_answer_listing) := ⟨rfl, rfl, rfl, by decide +kernel, rfl, by decide +kernel, by decide +kernel⟩
theorem sc_Library_init : FnScope ["self"] ["self"] (defScope s_Library_init) := ⟨rfl, rfl, rfl, by decide +kernel, rfl, by decide +kernel, by decide +kernel⟩
theorem sc_Library_returned : FnScope ["self", "door", "arguments", "slot"] ["self", "door", "arguments"] (defScope s_Library_returned) := ⟨rfl, rfl, rfl, by decide +kernel, rfl, by decide +kernel, by decide +kernel⟩
theorem sc_Library_answer : FnScope ["self", "request", "door", "arguments", "e"] ["self", "request"] (defScope s_Library_answer) := ⟨rfl, rfl, rfl, by decide +kernel, rfl, by decide +kernel, by decide +kernel⟩
theorem sc_answers : FnScope ["calls", "library", "out", "at", "size", "answer"] ["calls"] (defScope s_answers) := ⟨rfl, rfl, rfl, by decide +kernel, rfl, by decide +kernel, by decide +kernel⟩
end Dsn
end

section
set_option maxHeartbeats 4000000
/-! # The octets: how values are read and written -/
namespace Dsn
open PySem PySem.Spec PyProof.Rows L2 Hd
/-! ### words -/
abbrev iL (l : List Int) : D := .lst (l.map D.int)
/-- numbers by their octets, the lowest first -/
def numL : List Int → Int
  | [] => 0
  | a :: r => a + 256 * numL r
/-- a number in so many octets -/
def wN : Nat → Int → List Int
  | 0, _ => []
  | k + 1, n => (n - n / 256 * 256) :: wN k (n / 256)
theorem numL_append : ∀ (l r : List Int), numL (l ++ r) = numL l + 256 ^ l.length * numL r
  | [], r => by simp [numL]
  | a :: l, r => by
    show a + 256 * numL (l ++ r) = a + 256 * numL l + 256 ^ (l.length + 1) * numL r
    rw [numL_append l r, Int.pow_succ, Int.mul_add, Int.mul_comm (256 ^ l.length) 256, Int.mul_assoc, Int.add_assoc]
/-! ### read_number -/
def p_read_number : List D → (D → Prop) → Prop := fun ds Q => ∃ (os : List Int) (at_ w : Nat), ds = [iL os, .int at_, .int w] ∧ at_ + w ≤ os.length ∧ w ≤ 100 ∧ Q (.int (numL ((os.drop at_).take w)))
theorem down_range (w : Nat) : (List.range ((w : Int) - 1 - (-1)).toNat).map (fun (k : Nat) => D.int ((w : Int) - 1 - (k : Nat))) = ((List.range w).map fun (k : Nat) => D.int (k : Nat)).reverse := by
  have e : ((w : Int) - 1 - (-1)).toNat = w := by omega
  rw [e]
  apply List.ext_getElem
  · simp
  · intro i h1 h2
    simp at h1
    simp only [List.getElem_map, List.getElem_range, List.getElem_reverse, List.length_range, List.length_map]
    congr 1
    omega
theorem read_number_loop {A : AEnds} (os : List Int) (at_ w : Nat) : ∀ (j : Nat) (num : Int) (k : Option D), at_ + j ≤ os.length → (∀ k', A.nx [some (iL os), some (.int at_), some (.int w), some (.int (numL ((os.drop at_).take j) + 256 ^ j * num)), k'] []) →
    forD (gNm 4) (sAsg (aOp oAdd (aOp oMul (aVar 3) (aC (.int 256))) (aOp oIx (aVar 0) (aOp oAdd (aVar 1) (aVar 4)))) (gNm 3)) A ((List.range j).map fun (k : Nat) => D.int (k : Nat)).reverse [some (iL os), some (.int at_), some (.int w), some (.int num), k] []
  | 0, num, k, _, h => by
    have := h k
    simpa [numL] using this
  | j + 1, num, k, hj, h => by
    rw [List.range_succ, List.map_append, List.reverse_append]
    simp only [List.reverse_cons, List.reverse_nil, List.nil_append, List.map_cons, List.map_nil, List.singleton_append]
    have hlt : at_ + j < os.length := by omega
    have e1 : ((at_ : Int) + (j : Nat)).toNat = at_ + j := by omega
    have e2 : (os.map D.int)[at_ + j]? = some (.int os[at_ + j]) := by simp [hlt]
    simp [e1, e2]
    refine ⟨by omega, read_number_loop os at_ w j _ _ (by omega) fun k' => ?_⟩
    have e3 : (os.drop at_).take (j + 1) = (os.drop at_).take j ++ [os[at_ + j]] := by
      rw [List.take_succ]
      simp [hlt]
    have e4 : ((os.drop at_).take j).length = j := by simp; omega
    have h' := h k'
    rw [e3, numL_append, e4] at h'
    have e5 : numL ((os.drop at_).take j) + 256 ^ j * (num * 256 + os[at_ + j]) = numL ((os.drop at_).take j) + 256 ^ j * numL [os[at_ + j]] + 256 ^ (j + 1) * num := by
      simp only [numL, Int.pow_succ]
      rw [Int.mul_add, Int.mul_zero, Int.add_zero]
      have : 256 ^ j * 256 * num = 256 ^ j * (num * 256) := by rw [Int.mul_assoc, Int.mul_comm 256 num]
      rw [this]
      omega
    rw [e5]
    exact h'
def rd_read_number : AS :=
  (sSeq (sAsg (aC (.int 0)) (gNm 3))
    (sSeq (sFor (iRngD (aOp oSub (aVar 2) (aC (.int 1))) (aUn oNeg (aC (.int 1))) (aUn oNeg (aC (.int 1)))) (gNm 4) (sAsg (aOp oAdd (aOp oMul (aVar 3) (aC (.int 256))) (aOp oIx (aVar 0) (aOp oAdd (aVar 1) (aVar 4)))) (gNm 3)))
    (sRet (aVar 3))))
theorem dv_read_number {P : Program} {w : World} {K : PySem.W.Frag} {mg : Str → Option Value} {base : Heap} (T : Tx K mg) : Rds P w K mg base ["octets", "at", "width", "number", "k"] "read_number" (defScope s_read_number) (He.ga K "read_number") (defBody s_read_number) 0 (rd_read_number) := by
  intro cdv A outer s H E hr
  exact (dss_cons (ds_set 3 sc_read_number.nd (de_int))
    (dss_cons (ds_for PassesOwn.never (di_rngD T.b_range (de_sub (de_var 2) (de_int)) (de_neg (de_int)) (de_neg (de_int))) (dg_nm 4 sc_read_number.nd) (dss_one (ds_set 3 sc_read_number.nd (de_add (de_mul (de_var 3) (de_int)) (de_ix (de_var 0) (de_add (de_var 1) (de_var 4)))))))
    (dss_one (ds_ret (de_var 3)))))
theorem keep_read_number : Keeps ["octets", "at", "width", "number", "k"] (pureSp p_read_number) rd_read_number := by
  rintro ds W AQ AX ⟨rfl, os, at_, w, rfl, h1, h2, hQ⟩
  have e := down_range w
  have e2 : ((w : Int) - 1 - (-1)).toNat = w := by omega
  rw [e2] at e
  simp [rd_read_number, e]
  refine ⟨by omega, read_number_loop os at_ w w 0 none h1 fun k' => ?_⟩
  simpa using hQ
/-! ### read_whole -/
def p_read_whole : List D → (D → Prop) → Prop := fun ds Q => ∃ (os : List Int) (at_ : Nat), ds = [iL os, .int at_] ∧ at_ + 8 ≤ os.length ∧ Q (.int (if 2 ^ 63 ≤ numL ((os.drop at_).take 8) then numL ((os.drop at_).take 8) - 2 ^ 64 else numL ((os.drop at_).take 8)))
def rd_read_whole : AS :=
  (sSeq (sAsg (aCallP p_read_number (aCons (aVar 0) (aCons (aVar 1) (aCons (aC (.int 8)) aNil)))) (gNm 2))
    (sSeq (sIf (aB (aOp oGe (aVar 2) (aOp oPow (aC (.int 2)) (aC (.int 63))))) (sRet (aOp oSub (aVar 2) (aOp oPow (aC (.int 2)) (aC (.int 64))))) sNext)
    (sRet (aVar 2))))
theorem dv_read_whole {P : Program} {w : World} {K : PySem.W.Frag} {mg : Str → Option Value} {base : Heap} (T : Tx K mg)
    (F_read_number : Cal P w K mg base CX0 1 "read_number" ["octets", "at", "width"] (pureSp p_read_number)) : Rds P w K mg base ["octets", "at", "number"] "read_whole" (defScope s_read_whole) (He.ga K "read_whole") (defBody s_read_whole) 1 (rd_read_whole) := by
  intro cdv A outer s H E hr
  exact (dss_cons (ds_set 2 sc_read_whole.nd (de_callP F_read_number (hr.mono (by decide)) (da_cons (de_var 0) (da_cons (de_var 1) (da_cons (de_int) da_nil)))))
    (dss_cons (ds_if (dt_ge (de_var 2) (de_pow (de_int) (de_int))) (dss_one (ds_ret (de_sub (de_var 2) (de_pow (de_int) (de_int))))) dss_nil)
    (dss_one (ds_ret (de_var 2)))))
theorem keep_read_whole : Keeps ["octets", "at", "number"] (pureSp p_read_whole) rd_read_whole := by
  rintro ds W AQ AX ⟨rfl, os, at_, rfl, h1, hQ⟩
  simp [rd_read_whole]
  refine ⟨os, at_, 8, rfl, h1, by omega, ?_⟩
  simp
  split
  · rename_i h
    rw [if_pos (by omega)] at hQ
    exact hQ
  · rename_i h
    rw [if_neg (by omega)] at hQ
    exact hQ
/-! ### writing -/
/-- the signs of a written text -/
def octs (s : Str) : List Int := s.cps.toList.map fun c => ((c : Nat) : Int)
def wText (os : List Int) : List Int := 6 :: (wN 4 os.length ++ os)
def wList (ps : List (List Int)) : List Int := 7 :: (wN 4 ps.length ++ ps.flatten)
def wMem (m : Str × List Int) : List Int := wN 4 m.1.length ++ (octs m.1 ++ m.2)
def wRec (ms : List (Str × List Int)) : List Int := 8 :: (wN 4 ms.length ++ ms.flatMap wMem)
def wTr (b : Bool) : List Int := [if b then 3 else 2]
def wInt (i : Int) : List Int := 4 :: wN 8 i
def wFrac (q : Int × Int) : List Int := wList [wInt q.1, wInt q.2]
abbrev fD (q : Int × Int) : D := .tup [.int q.1, .int q.2]
abbrev eW (w : List Nat) : D := .lst (w.map fun (c : Nat) => D.int (c : Int))
theorem wN_length : ∀ (k : Nat) (n : Int), (wN k n).length = k
  | 0, _ => rfl
  | k + 1, n => congrArg (· + 1) (wN_length k _)
def p_octets_of : List D → (D → Prop) → Prop := fun ds Q => ∃ s : Str, ds = [.str s] ∧ s.length ≤ 1000 ∧ Q (iL (octs s))
def p_write_number : List D → (D → Prop) → Prop := fun ds Q => ∃ (n : Int) (w : Nat), ds = [.int n, .int w] ∧ w ≤ 100 ∧ Q (iL (wN w n))
def p_write_truth : List D → (D → Prop) → Prop := fun ds Q => ∃ b : Bool, ds = [.bl b] ∧ Q (iL (wTr b))
def p_write_whole : List D → (D → Prop) → Prop := fun ds Q => ∃ i : Int, ds = [.int i] ∧ Q (iL (wInt i))
def p_write_text : List D → (D → Prop) → Prop := fun ds Q => ∃ os : List Int, ds = [iL os] ∧ os.length ≤ 1000000 ∧ Q (iL (wText os))
def p_write_words : List D → (D → Prop) → Prop := fun ds Q => ∃ s : Str, ds = [.str s] ∧ s.length ≤ 1000 ∧ Q (iL (wText (octs s)))
def p_write_word : List D → (D → Prop) → Prop := fun ds Q => ∃ w : List Nat, ds = [eW w] ∧ w.length ≤ 1000 ∧ Q (iL (wText (w.map fun (c : Nat) => 97 + (c : Int))))
def p_write_list : List D → (D → Prop) → Prop := fun ds Q => ∃ ps : List (List Int), ds = [.lst (ps.map fun p => iL p)] ∧ ps.flatten.length ≤ 1000000 ∧ Q (iL (wList ps))
def p_write_record : List D → (D → Prop) → Prop := fun ds Q => ∃ ms : List (Str × List Int), ds = [.lst (ms.map fun m => .tup [.str m.1, iL m.2])] ∧ (∀ m ∈ ms, m.1.length ≤ 100) ∧ (ms.flatMap wMem).length ≤ 1000000 ∧ Q (iL (wRec ms))
def p_write_fraction : List D → (D → Prop) → Prop := fun ds Q => ∃ q : Int × Int, ds = [fD q] ∧ Q (iL (wFrac q))
def p_write_fractions : List D → (D → Prop) → Prop := fun ds Q => ∃ qs : List (Int × Int), ds = [.lst (qs.map fD)] ∧ qs.length ≤ 100 ∧ Q (iL (wList (qs.map wFrac)))
def p_write_outcome : List D → (D → Prop) → Prop := fun ds Q => ∃ (p : List Int) (b : Bool), ds = [iL p, .bl b] ∧ p.length ≤ 100000 ∧ Q (iL (wRec [("value", p), ("done", wTr b)]))
def p_result_parts : List D → (D → Prop) → Prop := fun ds Q => ∃ (p : List Int) (b : Bool), ds = [iL p, .bl b] ∧ Q (.lst [iL (wText (octs "result")), iL p, iL (wTr b)])
def p_write_refusal : List D → (D → Prop) → Prop := fun ds Q => ∃ (i : Int) (s : Str), ds = [.int i, .str s] ∧ s.length ≤ 1000 ∧ Q (iL (1 :: i :: (wN 4 s.length ++ octs s)))
def rd_octets_of : AS :=
  (sRet (aLc (iStrA (aVar 0)) (gNm 1) aYes (aCB cOrd (aCons (aVar 1) aNil)) [1]))
theorem dv_octets_of {P : Program} {w : World} {K : PySem.W.Frag} {mg : Str → Option Value} {base : Heap} (T : Tx K mg) : Rds P w K mg base ["words", "sign"] "octets_of" (defScope s_octets_of) (He.ga K "octets_of") (defBody s_octets_of) 0 (rd_octets_of) := by
  intro cdv A outer s H E hr
  exact (dss_one (ds_ret (de_lc [("sign", 1)] 1 sc_octets_of.nd (blkOk_by (own := [("sign", 1)]) (N := ["words", "sign"]) (sc := defScope s_octets_of) (by decide +kernel)) (di_str (de_var 0)) (fun _ _ _ _ _ => pg_name (i := 1) sc_octets_of.nd rfl (Or.inl rfl)) (fun _ _ _ _ _ => (de_ord T.b_ord (de_var 1))))))
def rd_write_number : AS :=
  (sSeq (sAsg (aLstO aNil) (gNm 2))
    (sSeq (sAsg (aVar 0) (gNm 3))
    (sSeq (sFor (iRng1A (aVar 1)) (gNm 4) (sSeq (sApp (aVar 2) (aOp oSub (aVar 3) (aOp oMul (aOp oFdv (aVar 3) (aC (.int 256))) (aC (.int 256)))))
    (sAsg (aOp oFdv (aVar 3) (aC (.int 256))) (gNm 3))))
    (sRet (aFrz (aVar 2))))))
theorem dv_write_number {P : Program} {w : World} {K : PySem.W.Frag} {mg : Str → Option Value} {base : Heap} (T : Tx K mg) : Rds P w K mg base ["number", "width", "octets", "rest", "k"] "write_number" (defScope s_write_number) (He.ga K "write_number") (defBody s_write_number) 0 (rd_write_number) := by
  intro cdv A outer s H E hr
  exact (dss_cons (ds_set 2 sc_write_number.nd (de_lstO da_nil))
    (dss_cons (ds_set 3 sc_write_number.nd (de_var 0))
    (dss_cons (ds_for PassesOwn.never (di_rng1 T.b_range (de_var 1)) (dg_nm 4 sc_write_number.nd) (dss_cons (ds_app (de_var 2) (de_sub (de_var 3) (de_mul (de_fdv (de_var 3) (de_int)) (de_int))))
    (dss_one (ds_set 3 sc_write_number.nd (de_fdv (de_var 3) (de_int))))))
    (dss_one (ds_ret (de_frz (de_var 2)))))))
def rd_write_truth : AS :=
  (sSeq (sIf (aB (aVar 0)) (sRet (aLst (aCons (aC (.int 3)) aNil))) sNext)
    (sRet (aLst (aCons (aC (.int 2)) aNil))))
theorem dv_write_truth {P : Program} {w : World} {K : PySem.W.Frag} {mg : Str → Option Value} {base : Heap} (T : Tx K mg) : Rds P w K mg base ["truth"] "write_truth" (defScope s_write_truth) (He.ga K "write_truth") (defBody s_write_truth) 0 (rd_write_truth) := by
  intro cdv A outer s H E hr
  exact (dss_cons (ds_if (dt_of (de_var 0)) (dss_one (ds_ret (de_lst (da_cons (de_gl T.i_TRUE) da_nil)))) dss_nil)
    (dss_one (ds_ret (de_lst (da_cons (de_gl T.i_FALSE) da_nil)))))
def rd_write_whole : AS :=
  (sRet (aOp oAdd (aLst (aCons (aC (.int 4)) aNil)) (aCallP p_write_number (aCons (aVar 0) (aCons (aC (.int 8)) aNil)))))
theorem dv_write_whole {P : Program} {w : World} {K : PySem.W.Frag} {mg : Str → Option Value} {base : Heap} (T : Tx K mg)
    (F_write_number : Cal P w K mg base CX0 1 "write_number" ["number", "width"] (pureSp p_write_number)) : Rds P w K mg base ["whole"] "write_whole" (defScope s_write_whole) (He.ga K "write_whole") (defBody s_write_whole) 1 (rd_write_whole) := by
  intro cdv A outer s H E hr
  exact (dss_one (ds_ret (de_add (de_lst (da_cons (de_gl T.i_INTEGER) da_nil)) (de_callP F_write_number (hr.mono (by decide)) (da_cons (de_var 0) (da_cons (de_int) da_nil))))))
def rd_write_text : AS :=
  (sRet (aOp oAdd (aOp oAdd (aLst (aCons (aC (.int 6)) aNil)) (aCallP p_write_number (aCons (aCB cLen (aCons (aVar 0) aNil)) (aCons (aC (.int 4)) aNil)))) (aVar 0)))
theorem dv_write_text {P : Program} {w : World} {K : PySem.W.Frag} {mg : Str → Option Value} {base : Heap} (T : Tx K mg)
    (F_write_number : Cal P w K mg base CX0 1 "write_number" ["number", "width"] (pureSp p_write_number)) : Rds P w K mg base ["octets"] "write_text" (defScope s_write_text) (He.ga K "write_text") (defBody s_write_text) 1 (rd_write_text) := by
  intro cdv A outer s H E hr
  exact (dss_one (ds_ret (de_add (de_add (de_lst (da_cons (de_gl T.i_TEXT) da_nil)) (de_callP F_write_number (hr.mono (by decide)) (da_cons (de_len T.b_len (de_var 0)) (da_cons (de_int) da_nil)))) (de_var 0))))
def rd_write_words : AS :=
  (sRet (aCallP p_write_text (aCons (aCallP p_octets_of (aCons (aVar 0) aNil)) aNil)))
theorem dv_write_words {P : Program} {w : World} {K : PySem.W.Frag} {mg : Str → Option Value} {base : Heap} (T : Tx K mg)
    (F_octets_of : Cal P w K mg base CX0 1 "octets_of" ["words"] (pureSp p_octets_of))
    (F_write_text : Cal P w K mg base CX0 2 "write_text" ["octets"] (pureSp p_write_text)) : Rds P w K mg base ["words"] "write_words" (defScope s_write_words) (He.ga K "write_words") (defBody s_write_words) 2 (rd_write_words) := by
  intro cdv A outer s H E hr
  exact (dss_one (ds_ret (de_callP F_write_text (hr.mono (by decide)) (da_cons (de_callP F_octets_of (hr.mono (by decide)) (da_cons (de_var 0) da_nil)) da_nil))))
def rd_write_word : AS :=
  (sRet (aCallP p_write_text (aCons (aLc (iListA (aVar 0)) (gNm 1) aYes (aOp oAdd (aC (.int 97)) (aVar 1)) [1]) aNil)))
theorem dv_write_word {P : Program} {w : World} {K : PySem.W.Frag} {mg : Str → Option Value} {base : Heap} (T : Tx K mg)
    (F_write_text : Cal P w K mg base CX0 2 "write_text" ["octets"] (pureSp p_write_text)) : Rds P w K mg base ["word", "letter"] "write_word" (defScope s_write_word) (He.ga K "write_word") (defBody s_write_word) 2 (rd_write_word) := by
  intro cdv A outer s H E hr
  exact (dss_one (ds_ret (de_callP F_write_text (hr.mono (by decide)) (da_cons (de_lc [("letter", 1)] 1 sc_write_word.nd (blkOk_by (own := [("letter", 1)]) (N := ["word", "letter"]) (sc := defScope s_write_word) (by decide +kernel)) (di_list (de_var 0)) (fun _ _ _ _ _ => pg_name (i := 1) sc_write_word.nd rfl (Or.inl rfl)) (fun _ _ _ _ _ => (de_add (de_gl T.i_LETTER_A) (de_var 1)))) da_nil))))
def rd_write_list : AS :=
  (sSeq (sAsg (aCatO (aLst (aCons (aC (.int 7)) aNil)) (aCallP p_write_number (aCons (aCB cLen (aCons (aVar 0) aNil)) (aCons (aC (.int 4)) aNil)))) (gNm 1))
    (sSeq (sFor (iListA (aVar 0)) (gNm 2) (sExt (aVar 1) (aVar 2)))
    (sRet (aFrz (aVar 1)))))
theorem dv_write_list {P : Program} {w : World} {K : PySem.W.Frag} {mg : Str → Option Value} {base : Heap} (T : Tx K mg)
    (F_write_number : Cal P w K mg base CX0 1 "write_number" ["number", "width"] (pureSp p_write_number)) : Rds P w K mg base ["parts", "octets", "part"] "write_list" (defScope s_write_list) (He.ga K "write_list") (defBody s_write_list) 1 (rd_write_list) := by
  intro cdv A outer s H E hr
  exact (dss_cons (ds_set 1 sc_write_list.nd (de_catO (de_lst (da_cons (de_gl T.i_LIST) da_nil)) (de_callP F_write_number (hr.mono (by decide)) (da_cons (de_len T.b_len (de_var 0)) (da_cons (de_int) da_nil)))))
    (dss_cons (ds_for PassesOwn.never (di_list (de_var 0)) (dg_nm 2 sc_write_list.nd) (dss_one (ds_ext (de_var 1) (de_var 2))))
    (dss_one (ds_ret (de_frz (de_var 1))))))
def rd_write_record : AS :=
  (sSeq (sAsg (aCatO (aLst (aCons (aC (.int 8)) aNil)) (aCallP p_write_number (aCons (aCB cLen (aCons (aVar 0) aNil)) (aCons (aC (.int 4)) aNil)))) (gNm 1))
    (sSeq (sFor (iListA (aVar 0)) (gTp 2 (gC1 (gNm 2) (gC1 (gNm 3) gN0))) (sSeq (sExt (aVar 1) (aCallP p_write_number (aCons (aCB cLen (aCons (aVar 2) aNil)) (aCons (aC (.int 4)) aNil))))
    (sSeq (sExt (aVar 1) (aCallP p_octets_of (aCons (aVar 2) aNil)))
    (sExt (aVar 1) (aVar 3)))))
    (sRet (aFrz (aVar 1)))))
theorem dv_write_record {P : Program} {w : World} {K : PySem.W.Frag} {mg : Str → Option Value} {base : Heap} (T : Tx K mg)
    (F_write_number : Cal P w K mg base CX0 1 "write_number" ["number", "width"] (pureSp p_write_number))
    (F_octets_of : Cal P w K mg base CX0 1 "octets_of" ["words"] (pureSp p_octets_of)) : Rds P w K mg base ["members", "octets", "name", "part"] "write_record" (defScope s_write_record) (He.ga K "write_record") (defBody s_write_record) 1 (rd_write_record) := by
  intro cdv A outer s H E hr
  exact (dss_cons (ds_set 1 sc_write_record.nd (de_catO (de_lst (da_cons (de_gl T.i_RECORD) da_nil)) (de_callP F_write_number (hr.mono (by decide)) (da_cons (de_len T.b_len (de_var 0)) (da_cons (de_int) da_nil)))))
    (dss_cons (ds_for PassesOwn.never (di_list (de_var 0)) (dg_tp (dgs_cons (dg_nm 2 sc_write_record.nd) (dgs_cons (dg_nm 3 sc_write_record.nd) dgs_nil))) (dss_cons (ds_ext (de_var 1) (de_callP F_write_number (hr.mono (by decide)) (da_cons (de_len T.b_len (de_var 2)) (da_cons (de_int) da_nil))))
    (dss_cons (ds_ext (de_var 1) (de_callP F_octets_of (hr.mono (by decide)) (da_cons (de_var 2) da_nil)))
    (dss_one (ds_ext (de_var 1) (de_var 3))))))
    (dss_one (ds_ret (de_frz (de_var 1))))))
def rd_write_fraction : AS :=
  (sRet (aCallP p_write_list (aCons (aLst (aCons (aCallP p_write_whole (aCons (aOp oIx (aVar 0) (aC (.int 0))) aNil)) (aCons (aCallP p_write_whole (aCons (aOp oIx (aVar 0) (aC (.int 1))) aNil)) aNil))) aNil)))
theorem dv_write_fraction {P : Program} {w : World} {K : PySem.W.Frag} {mg : Str → Option Value} {base : Heap} (T : Tx K mg)
    (F_write_whole : Cal P w K mg base CX0 2 "write_whole" ["whole"] (pureSp p_write_whole))
    (F_write_list : Cal P w K mg base CX0 2 "write_list" ["parts"] (pureSp p_write_list)) : Rds P w K mg base ["fraction"] "write_fraction" (defScope s_write_fraction) (He.ga K "write_fraction") (defBody s_write_fraction) 2 (rd_write_fraction) := by
  intro cdv A outer s H E hr
  exact (dss_one (ds_ret (de_callP F_write_list (hr.mono (by decide)) (da_cons (de_lst (da_cons (de_callP F_write_whole (hr.mono (by decide)) (da_cons (de_ix (de_var 0) (de_int)) da_nil)) (da_cons (de_callP F_write_whole (hr.mono (by decide)) (da_cons (de_ix (de_var 0) (de_int)) da_nil)) da_nil))) da_nil))))
def rd_write_fractions : AS :=
  (sRet (aCallP p_write_list (aCons (aLc (iListA (aVar 0)) (gNm 1) aYes (aCallP p_write_fraction (aCons (aVar 1) aNil)) [1]) aNil)))
theorem dv_write_fractions {P : Program} {w : World} {K : PySem.W.Frag} {mg : Str → Option Value} {base : Heap} (T : Tx K mg)
    (F_write_fraction : Cal P w K mg base CX0 3 "write_fraction" ["fraction"] (pureSp p_write_fraction))
    (F_write_list : Cal P w K mg base CX0 2 "write_list" ["parts"] (pureSp p_write_list)) : Rds P w K mg base ["fractions", "fraction"] "write_fractions" (defScope s_write_fractions) (He.ga K "write_fractions") (defBody s_write_fractions) 3 (rd_write_fractions) := by
  intro cdv A outer s H E hr
  exact (dss_one (ds_ret (de_callP F_write_list (hr.mono (by decide)) (da_cons (de_lc [("fraction", 1)] 1 sc_write_fractions.nd (blkOk_by (own := [("fraction", 1)]) (N := ["fractions", "fraction"]) (sc := defScope s_write_fractions) (by decide +kernel)) (di_list (de_var 0)) (fun _ _ _ _ _ => pg_name (i := 1) sc_write_fractions.nd rfl (Or.inl rfl)) (fun _ _ _ _ _ => (de_callP F_write_fraction (hr.mono (by decide)) (da_cons (de_var 1) da_nil)))) da_nil))))
def rd_write_outcome : AS :=
  (sRet (aCallP p_write_record (aCons (aLst (aCons (aTup (aCons (aC (.str "value")) (aCons (aVar 0) aNil))) (aCons (aTup (aCons (aC (.str "done")) (aCons (aCallP p_write_truth (aCons (aVar 1) aNil)) aNil))) aNil))) aNil)))
theorem dv_write_outcome {P : Program} {w : World} {K : PySem.W.Frag} {mg : Str → Option Value} {base : Heap} (T : Tx K mg)
    (F_write_truth : Cal P w K mg base CX0 1 "write_truth" ["truth"] (pureSp p_write_truth))
    (F_write_record : Cal P w K mg base CX0 2 "write_record" ["members"] (pureSp p_write_record)) : Rds P w K mg base ["part", "done"] "write_outcome" (defScope s_write_outcome) (He.ga K "write_outcome") (defBody s_write_outcome) 2 (rd_write_outcome) := by
  intro cdv A outer s H E hr
  exact (dss_one (ds_ret (de_callP F_write_record (hr.mono (by decide)) (da_cons (de_lst (da_cons (de_tup (da_cons (de_str) (da_cons (de_var 0) da_nil))) (da_cons (de_tup (da_cons (de_str) (da_cons (de_callP F_write_truth (hr.mono (by decide)) (da_cons (de_var 1) da_nil)) da_nil))) da_nil))) da_nil))))
def rd_result_parts : AS :=
  (sRet (aLst (aCons (aCallP p_write_words (aCons (aC (.str "result")) aNil)) (aCons (aVar 0) (aCons (aCallP p_write_truth (aCons (aVar 1) aNil)) aNil)))))
theorem dv_result_parts {P : Program} {w : World} {K : PySem.W.Frag} {mg : Str → Option Value} {base : Heap} (T : Tx K mg)
    (F_write_truth : Cal P w K mg base CX0 1 "write_truth" ["truth"] (pureSp p_write_truth))
    (F_write_words : Cal P w K mg base CX0 3 "write_words" ["words"] (pureSp p_write_words)) : Rds P w K mg base ["part", "done"] "result_parts" (defScope s_result_parts) (He.ga K "result_parts") (defBody s_result_parts) 3 (rd_result_parts) := by
  intro cdv A outer s H E hr
  exact (dss_one (ds_ret (de_lst (da_cons (de_callP F_write_words (hr.mono (by decide)) (da_cons (de_str) da_nil)) (da_cons (de_var 0) (da_cons (de_callP F_write_truth (hr.mono (by decide)) (da_cons (de_var 1) da_nil)) da_nil))))))
def rd_write_refusal : AS :=
  (sRet (aOp oAdd (aOp oAdd (aLst (aCons (aC (.int 1)) (aCons (aVar 0) aNil))) (aCallP p_write_number (aCons (aCB cLen (aCons (aVar 1) aNil)) (aCons (aC (.int 4)) aNil)))) (aCallP p_octets_of (aCons (aVar 1) aNil))))
theorem dv_write_refusal {P : Program} {w : World} {K : PySem.W.Frag} {mg : Str → Option Value} {base : Heap} (T : Tx K mg)
    (F_write_number : Cal P w K mg base CX0 1 "write_number" ["number", "width"] (pureSp p_write_number))
    (F_octets_of : Cal P w K mg base CX0 1 "octets_of" ["words"] (pureSp p_octets_of)) : Rds P w K mg base ["sort", "words"] "write_refusal" (defScope s_write_refusal) (He.ga K "write_refusal") (defBody s_write_refusal) 1 (rd_write_refusal) := by
  intro cdv A outer s H E hr
  exact (dss_one (ds_ret (de_add (de_add (de_lst (da_cons (de_int) (da_cons (de_var 0) da_nil))) (de_callP F_write_number (hr.mono (by decide)) (da_cons (de_len T.b_len (de_var 1)) (da_cons (de_int) da_nil)))) (de_callP F_octets_of (hr.mono (by decide)) (da_cons (de_var 1) da_nil)))))
/-! #### a comprehension whose element is one value -/
theorem lc_map {g : AG} {e : AE} {G : Ga} {Q : List D → Om → Prop} {W : Om} (f : D → D) : ∀ (ds acc : List D), (∀ d ∈ ds, ∀ R : D → Om → Prop, R (f d) W → g d G W fun G1 W1 => e G1 W1 R) → Q (acc ++ ds.map f) W → lcD g aYes e G Q ds acc W
  | [], acc, _, h => by simpa using h
  | d :: r, acc, hs, h => by
    have step := hs d List.mem_cons_self (fun y W3 => lcD g aYes e G Q r (acc ++ [y]) W3) (lc_map f r (acc ++ [f d]) (fun d' hd' => hs d' (List.mem_cons_of_mem _ hd')) (by simpa using h))
    show g d G W fun G1 W1 => aYes G1 W1 fun b W2 => if b = true then e G1 W2 fun y W3 => lcD g aYes e G Q r (acc ++ [y]) W3 else lcD g aYes e G Q r acc W2
    simpa using step
theorem keep_octets_of : Keeps ["words", "sign"] (pureSp p_octets_of) rd_octets_of := by
  rintro ds W AQ AX ⟨rfl, s, rfl, h1, hQ⟩
  simp [rd_octets_of]
  refine ⟨by have : s.cps.size = s.length := rfl
             omega, ?_⟩
  refine lc_map (fun d => match d with | .str z => .int (z.cps.getD 0 0 : Nat) | _ => .non) _ _ (fun d hd R hR => ?_) ?_
  · simp only [List.mem_map] at hd
    obtain ⟨c, hc, rfl⟩ := hd
    simp
    exact ⟨rfl, hR⟩
  · simpa [octs, iL, Function.comp_def] using hQ
theorem write_number_loop {A : AEnds} (n w : D) (p : Addr) : ∀ (ks : List D) (acc : List Int) (rest : Int) (k : Option D), acc.length + ks.length ≤ 1000 → (∀ rest' k', A.nx [some n, some w, some (.adr p), some rest', k'] [(p, .lst ((acc ++ wN ks.length rest).map D.int))]) →
    forD (gNm 4) (sSeq (sApp (aVar 2) (aOp oSub (aVar 3) (aOp oMul (aOp oFdv (aVar 3) (aC (.int 256))) (aC (.int 256))))) (sAsg (aOp oFdv (aVar 3) (aC (.int 256))) (gNm 3))) A ks [some n, some w, some (.adr p), some (.int rest), k] [(p, .lst (acc.map D.int))]
  | [], acc, rest, k, _, h => by
    have := h (.int rest) k
    simpa [wN] using this
  | d :: ks, acc, rest, k, hl, h => by
    simp
    refine ⟨acc.map D.int, [], ⟨rfl, rfl⟩, by simp at hl ⊢; omega, ?_⟩
    have e : acc.map D.int ++ [D.int (rest - rest / 256 * 256)] = (acc ++ [rest - rest / 256 * 256]).map D.int := by simp
    rw [e]
    refine write_number_loop n w p ks _ _ _ (by simp at hl ⊢; omega) fun rest' k' => ?_
    have := h rest' k'
    simpa [wN] using this
theorem keep_write_number : Keeps ["number", "width", "octets", "rest", "k"] (pureSp p_write_number) rd_write_number := by
  rintro ds W AQ AX ⟨rfl, n, w, rfl, h1, hQ⟩
  simp [rd_write_number]
  intro p hp
  refine ⟨by omega, write_number_loop _ _ p _ [] n none (by simp; omega) fun rest' k' => ?_⟩
  simp
  exact ⟨_, _, ⟨rfl, rfl⟩, by simpa using hQ⟩
theorem keep_write_truth : Keeps ["truth"] (pureSp p_write_truth) rd_write_truth := by
  rintro ds W AQ AX ⟨rfl, b, rfl, hQ⟩
  cases b
  · simpa [rd_write_truth, wTr, iL] using hQ
  · simpa [rd_write_truth, wTr, iL] using hQ
theorem keep_write_whole : Keeps ["whole"] (pureSp p_write_whole) rd_write_whole := by
  rintro ds W AQ AX ⟨rfl, i, rfl, hQ⟩
  simp [rd_write_whole]
  refine ⟨i, 8, rfl, by omega, ?_⟩
  simpa [wInt, iL, wN_length] using hQ
theorem keep_write_text : Keeps ["octets"] (pureSp p_write_text) rd_write_text := by
  rintro ds W AQ AX ⟨rfl, os, rfl, h1, hQ⟩
  simp [rd_write_text]
  refine ⟨os.length, 4, by simp, by omega, ?_⟩
  simp [wN_length]
  refine ⟨by omega, ?_⟩
  simpa [wText, iL] using hQ
theorem octs_length (s : Str) : (octs s).length = s.length := by simp [octs, Str.length]
theorem keep_write_words : Keeps ["words"] (pureSp p_write_words) rd_write_words := by
  rintro ds W AQ AX ⟨rfl, s, rfl, h1, hQ⟩
  simp [rd_write_words]
  refine ⟨s, rfl, h1, octs s, rfl, by rw [octs_length]; omega, hQ⟩
theorem keep_write_word : Keeps ["word", "letter"] (pureSp p_write_word) rd_write_word := by
  rintro ds W AQ AX ⟨rfl, w, rfl, h1, hQ⟩
  simp [rd_write_word]
  refine ⟨by omega, lc_map (fun d => match d with | .int z => .int (97 + z) | _ => .non) _ _ (fun d hd R hR => ?_) ?_⟩
  · simp only [List.mem_map] at hd
    obtain ⟨c, hc, rfl⟩ := hd
    simpa using hR
  · refine ⟨w.map fun (c : Nat) => 97 + (c : Int), ?_, by simp; omega, hQ⟩
    simp [iL, Function.comp_def]
theorem write_list_loop {A : AEnds} (d0 : D) (p : Addr) : ∀ (ps : List (List Int)) (acc : List Int) (k : Option D), acc.length + ps.flatten.length ≤ 2000000 → (∀ k', A.nx [some d0, some (.adr p), k'] [(p, .lst ((acc ++ ps.flatten).map D.int))]) →
    forD (gNm 2) (sExt (aVar 1) (aVar 2)) A (ps.map fun p => iL p) [some d0, some (.adr p), k] [(p, .lst (acc.map D.int))]
  | [], acc, k, _, h => by simpa using h k
  | q :: ps, acc, k, hl, h => by
    simp [iL]
    refine ⟨acc.map D.int, [], ⟨rfl, rfl⟩, by simp at hl ⊢; omega, ?_⟩
    rw [← List.map_append]
    have := write_list_loop d0 p ps (acc ++ q) (some (iL q)) (by simp at hl ⊢; omega) fun k' => by simpa using h k'
    simpa [iL] using this
theorem keep_write_list : Keeps ["parts", "octets", "part"] (pureSp p_write_list) rd_write_list := by
  rintro ds W AQ AX ⟨rfl, ps, rfl, h1, hQ⟩
  simp [rd_write_list]
  refine ⟨ps.length, 4, by simp, by omega, ?_⟩
  simp [wN_length]
  intro p hp
  have e : [D.int 7] ++ (wN 4 ↑ps.length).map D.int = (7 :: wN 4 ↑ps.length).map D.int := rfl
  have := write_list_loop (A := ⟨sRet (aFrz (aVar 1)) { nx := fun x W' => AQ D.non W', rt := AQ }, AQ, fun _ _ => False, fun _ _ => False⟩) (.lst (ps.map fun p => iL p)) p ps (7 :: wN 4 ↑ps.length) none (by rw [List.length_cons, wN_length]; omega) fun k' => by
    simp
    exact ⟨_, _, ⟨rfl, rfl⟩, by simpa [wList, iL] using hQ⟩
  simpa [iL] using this
theorem write_record_loop {A : AEnds} (d0 : D) (p : Addr) : ∀ (ms : List (Str × List Int)) (acc : List Int) (k l : Option D), (∀ m ∈ ms, m.1.length ≤ 100) → acc.length + (ms.flatMap wMem).length ≤ 2000000 → (∀ k' l', A.nx [some d0, some (.adr p), k', l'] [(p, .lst ((acc ++ ms.flatMap wMem).map D.int))]) →
    forD (gTp 2 (gC1 (gNm 2) (gC1 (gNm 3) gN0))) (sSeq (sExt (aVar 1) (aCallP p_write_number (aCons (aCB cLen (aCons (aVar 2) aNil)) (aCons (aC (.int 4)) aNil))))
    (sSeq (sExt (aVar 1) (aCallP p_octets_of (aCons (aVar 2) aNil)))
    (sExt (aVar 1) (aVar 3)))) A (ms.map fun m => .tup [.str m.1, iL m.2]) [some d0, some (.adr p), k, l] [(p, .lst (acc.map D.int))]
  | [], acc, k, l, _, _, h => by simpa using h k l
  | m :: ms, acc, k, l, hm, hl, h => by
    have m1 := hm m List.mem_cons_self
    have el : (wMem m).length = 4 + m.1.length + m.2.length := by simp [wMem, wN_length, octs_length]; omega
    rw [List.flatMap_cons, List.length_append, el] at hl
    simp [iL]
    refine ⟨by omega, m.1.length, 4, by simp, by omega, acc.map D.int, [], ⟨rfl, rfl⟩, by simp [wN_length]; omega, ?_⟩
    simp
    refine ⟨m.1, rfl, by omega, ?_⟩
    simp
    refine ⟨_, _, ⟨rfl, rfl⟩, by simp [wN_length, octs_length]; omega, _, _, .refl _, by simp [wN_length, octs_length]; omega, ?_⟩
    have := write_record_loop d0 p ms (acc ++ wMem m) (some (.str m.1)) (some (iL m.2)) (fun m' h' => hm m' (List.mem_cons_of_mem _ h')) (by rw [List.length_append, el]; omega) fun k' l' => by simpa using h k' l'
    simpa [iL, wMem, Function.comp_def] using this
theorem keep_write_record : Keeps ["members", "octets", "name", "part"] (pureSp p_write_record) rd_write_record := by
  rintro ds W AQ AX ⟨rfl, ms, rfl, h0, h1, hQ⟩
  simp [rd_write_record]
  have hz : ms.length ≤ (ms.flatMap wMem).length := by
    clear h0 h1 hQ
    induction ms with
    | nil => simp
    | cons m r ih =>
      rw [List.flatMap_cons, List.length_append]
      have : 1 ≤ (wMem m).length := by simp [wMem, wN_length]; omega
      simp only [List.length_cons]
      omega
  refine ⟨ms.length, 4, by simp, by omega, ?_⟩
  simp [wN_length]
  intro p hp
  have := write_record_loop (A := ⟨sRet (aFrz (aVar 1)) { nx := fun x W' => AQ D.non W', rt := AQ }, AQ, fun _ _ => False, fun _ _ => False⟩) (.lst (ms.map fun m => .tup [.str m.1, iL m.2])) p ms (8 :: wN 4 ↑ms.length) none none h0 (by rw [List.length_cons, wN_length]; omega) fun k' l' => by
    simp
    exact ⟨_, _, ⟨rfl, rfl⟩, by simpa [wRec, iL] using hQ⟩
  simpa [iL] using this
theorem keep_write_fraction : Keeps ["fraction"] (pureSp p_write_fraction) rd_write_fraction := by
  rintro ds W AQ AX ⟨rfl, q, rfl, hQ⟩
  simp [rd_write_fraction]
  refine ⟨q.1, rfl, ?_⟩
  simp
  refine ⟨q.2, rfl, ?_⟩
  simp
  exact ⟨[wInt q.1, wInt q.2], by simp, by simp [wInt, wN_length], hQ⟩
theorem wFrac_length (q : Int × Int) : (wFrac q).length = 23 := by simp [wFrac, wList, wInt, wN_length]
theorem flat_const {α : Type} {n : Nat} : ∀ (l : List (List α)), (∀ q ∈ l, q.length = n) → l.flatten.length = n * l.length
  | [], _ => by simp
  | a :: r, h => by
    rw [List.flatten_cons, List.length_append, flat_const r fun q hq => h q (List.mem_cons_of_mem _ hq), h a List.mem_cons_self, List.length_cons, Nat.mul_succ]
    omega
theorem keep_write_fractions : Keeps ["fractions", "fraction"] (pureSp p_write_fractions) rd_write_fractions := by
  rintro ds W AQ AX ⟨rfl, qs, rfl, h1, hQ⟩
  simp [rd_write_fractions]
  have hz : (qs.map wFrac).flatten.length ≤ 1000000 := by
    rw [flat_const (n := 23) _ (by simp only [List.mem_map]; rintro _ ⟨q, _, rfl⟩; exact wFrac_length q), List.length_map]
    omega
  refine ⟨by omega, lc_map (fun d => match d with | .tup [.int a, .int b] => iL (wFrac (a, b)) | _ => .non) _ _ (fun d hd R hR => ?_) ?_⟩
  · simp only [List.mem_map] at hd
    obtain ⟨c, hc, rfl⟩ := hd
    simp
    exact ⟨c, rfl, hR⟩
  · refine ⟨qs.map wFrac, ?_, hz, hQ⟩
    simp [Function.comp_def]
theorem keep_write_outcome : Keeps ["part", "done"] (pureSp p_write_outcome) rd_write_outcome := by
  rintro ds W AQ AX ⟨rfl, p, b, rfl, h1, hQ⟩
  simp [rd_write_outcome]
  refine ⟨b, rfl, ?_⟩
  simp
  have e1 : ("value" : Str).length = 5 := by decide +kernel
  have e2 : ("done" : Str).length = 4 := by decide +kernel
  refine ⟨[("value", p), ("done", wTr b)], by simp, by simp [e1, e2], ?_, hQ⟩
  simp [wMem, wN_length, octs_length, e1, e2, wTr]
  omega
theorem keep_result_parts : Keeps ["part", "done"] (pureSp p_result_parts) rd_result_parts := by
  rintro ds W AQ AX ⟨rfl, p, b, rfl, hQ⟩
  simp [rd_result_parts]
  have e1 : ("result" : Str).length = 6 := by decide +kernel
  refine ⟨"result", rfl, by omega, ?_⟩
  simp
  exact ⟨b, rfl, hQ⟩
theorem keep_write_refusal : Keeps ["sort", "words"] (pureSp p_write_refusal) rd_write_refusal := by
  rintro ds W AQ AX ⟨rfl, i, s, rfl, h1, hQ⟩
  simp [rd_write_refusal]
  refine ⟨by have : s.cps.size = s.length := rfl
             omega, s.length, 4, by simp, by omega, ?_⟩
  simp [wN_length]
  refine ⟨s, rfl, h1, ?_⟩
  simp [octs_length]
  refine ⟨by simp [wN_length]; omega, ?_⟩
  simpa [iL] using hQ
end Dsn
end

section
set_option maxHeartbeats 4000000
/-! # Values read out of octets -/
namespace Dsn
open PySem PySem.Spec PyProof.Rows L2 Hd
/-! ### octets -/
def oI (b : List UInt8) : List Int := b.map fun x => ((x.toNat : Nat) : Int)
theorem oI_length (b : List UInt8) : (oI b).length = b.length := by simp [oI]
theorem oI_append (a b : List UInt8) : oI (a ++ b) = oI a ++ oI b := by simp [oI]
theorem oI_drop (n : Nat) (b : List UInt8) : (oI b).drop n = oI (b.drop n) := by simp [oI, List.map_drop]
theorem oI_take (n : Nat) (b : List UInt8) : (oI b).take n = oI (b.take n) := by simp [oI, List.map_take]
theorem numL_oI : ∀ b : List UInt8, numL (oI b) = (RWire.numOf b : Nat)
  | [] => rfl
  | a :: r => by
    show ((a.toNat : Nat) : Int) + 256 * numL (oI r) = _
    rw [numL_oI r]
    simp [RWire.numOf]
theorem numOf_lt : ∀ b : List UInt8, RWire.numOf b < 256 ^ b.length
  | [] => by simp [RWire.numOf]
  | a :: r => by
    have h1 := numOf_lt r
    have h2 : a.toNat < 256 := a.toNat_lt
    simp only [RWire.numOf, List.length_cons, Nat.pow_succ]
    omega
theorem front_spec : ∀ {k : Nat} {b p r : List UInt8}, RWire.front k b = some (p, r) → b = p ++ r ∧ p.length = k
  | 0, b, p, r, h => by
    simp [RWire.front] at h
    obtain ⟨rfl, rfl⟩ := h
    simp
  | k + 1, [], p, r, h => by simp [RWire.front] at h
  | k + 1, a :: b, p, r, h => by
    simp only [RWire.front] at h
    split at h
    · cases h
    · rename_i q hq
      obtain ⟨p', r'⟩ := q
      have ih := front_spec hq
      simp at h
      obtain ⟨rfl, rfl⟩ := h
      simp [ih.1, ih.2]
theorem readNum_spec {k n : Nat} {b r : List UInt8} (h : RWire.readNum k b = some (n, r)) : ∃ p, b = p ++ r ∧ p.length = k ∧ n = RWire.numOf p := by
  unfold RWire.readNum at h
  split at h
  · cases h
  · rename_i p hp
    obtain ⟨p, r'⟩ := p
    simp at h
    obtain ⟨rfl, rfl⟩ := h
    obtain ⟨h1, h2⟩ := front_spec hp
    exact ⟨p, h1, h2, rfl⟩
/-! ### values as data -/
abbrev vO (C : Addr) (k w : Int) (o : List Int) (p : List D) : D := .ins C [("kind", .int k), ("whole", .int w), ("octets", iL o), ("parts", .lst p)]
mutual
def encV (C : Addr) : RWire.Value → D
  | .nothing => vO C 0 0 [] []
  | .null => vO C 1 0 [] []
  | .bool b => vO C (if b then 3 else 2) 0 [] []
  | .int i => vO C 4 i [] []
  | .big _ => vO C 5 0 [] []
  | .text u => vO C 6 0 (oI u) []
  | .octets _ => vO C 10 0 [] []
  | .wide _ => vO C 11 0 [] []
  | .list l => vO C 7 0 [] (encL C l)
  | .record l => vO C 8 0 [] (encF C l)
def encL (C : Addr) : List RWire.Value → List D
  | [] => []
  | v :: r => encV C v :: encL C r
def encF (C : Addr) : List (RWire.Text × RWire.Value) → List D
  | [] => []
  | e :: r => encV C e.2 :: encF C r
end
/-- the kinds that the document has -/
def okV (v : RWire.Value) : Bool := RWire.noBig v && (RWire.noOctets v && RWire.noWide v)
def okL (l : List RWire.Value) : Bool := RWire.noBigMany l && (RWire.noOctetsMany l && RWire.noWideMany l)
def okF (l : List (RWire.Text × RWire.Value)) : Bool := RWire.noBigEntries l && (RWire.noOctetsEntries l && RWire.noWideEntries l)
theorem okL_cons {v : RWire.Value} {l : List RWire.Value} (h : okL (v :: l) = true) : okV v = true ∧ okL l = true := by
  simp [okL, okV, RWire.noBigMany, RWire.noOctetsMany, RWire.noWideMany] at h ⊢
  obtain ⟨⟨a, b⟩, ⟨c, d⟩, e, f⟩ := h
  exact ⟨⟨a, c, e⟩, b, d, f⟩
theorem okF_cons {e : RWire.Text × RWire.Value} {l : List (RWire.Text × RWire.Value)} (h : okF (e :: l) = true) : okV e.2 = true ∧ okF l = true := by
  simp [okF, okV, RWire.noBigEntries, RWire.noOctetsEntries, RWire.noWideEntries] at h ⊢
  obtain ⟨⟨a, b⟩, ⟨c, d⟩, e, f⟩ := h
  exact ⟨⟨a, c, e⟩, b, d, f⟩
theorem okV_list {l : List RWire.Value} (h : okV (.list l) = true) : okL l = true := by
  simpa [okL, okV, RWire.noBig, RWire.noOctets, RWire.noWide] using h
theorem okV_record {l : List (RWire.Text × RWire.Value)} (h : okV (.record l) = true) : okF l = true := by
  simpa [okF, okV, RWire.noBig, RWire.noOctets, RWire.noWide] using h
/-! ### what is read leaves a rest -/
def Sfx (f : List UInt8 → Option (α × List UInt8)) : Prop := ∀ b v r, f b = some (v, r) → ∃ p, b = p ++ r
theorem sfx_many {α : Type} {f : List UInt8 → Option (α × List UInt8)} (hf : Sfx f) : ∀ (n : Nat) (b : List UInt8) (l : List α) (r : List UInt8), RWire.readMany f n b = some (l, r) → ∃ p, b = p ++ r
  | 0, b, l, r, h => by
    simp [RWire.readMany] at h
    exact ⟨[], by simp [h.2]⟩
  | n + 1, b, l, r, h => by
    simp only [RWire.readMany] at h
    split at h
    · cases h
    · rename_i q hq
      split at h
      · cases h
      · rename_i q2 hq2
        simp at h
        obtain ⟨p1, e1⟩ := hf _ _ _ hq
        obtain ⟨p2, e2⟩ := sfx_many hf n _ _ _ hq2
        exact ⟨p1 ++ p2, by rw [e1, e2, List.append_assoc, h.2]⟩
theorem sfx_num {k : Nat} : Sfx (RWire.readNum k) := fun b v r h => by
  obtain ⟨p, e, _⟩ := readNum_spec h
  exact ⟨p, e⟩
theorem sfx_text : Sfx RWire.readText := fun b v r h => by
  unfold RWire.readText at h
  split at h
  · cases h
  · rename_i q hq
    obtain ⟨p, e⟩ := sfx_num _ _ _ hq
    obtain ⟨e2, _⟩ := front_spec h
    exact ⟨p ++ v, by rw [e, e2, List.append_assoc]⟩
theorem sfx_K {n : Nat} (ih : Sfx (RWire.readF n)) {k : Nat} {b : List UInt8} {v : RWire.Value} {r : List UInt8} (h : RWire.readKind (RWire.readF n) k b = some (v, r)) : ∃ p, b = p ++ r := by
  unfold RWire.readKind at h
  split at h
  · simp at h; exact ⟨[], by simp [h.2]⟩
  · simp at h; exact ⟨[], by simp [h.2]⟩
  · simp at h; exact ⟨[], by simp [h.2]⟩
  · simp at h; exact ⟨[], by simp [h.2]⟩
  · unfold RWire.readInt at h
    split at h
    · cases h
    · rename_i q hq
      split at h
      · simp at h
        obtain ⟨p, e⟩ := sfx_num _ _ _ hq
        exact ⟨p, by rw [e, h.2]⟩
      · cases h
  · cases b with
    | nil => simp [RWire.readBig] at h
    | cons s b =>
      simp only [RWire.readBig] at h
      split at h
      · cases h
      · rename_i q hq
        split at h
        · cases h
        · rename_i q2 hq2
          split at h
          · cases h
          · simp at h
            obtain ⟨p, e⟩ := sfx_num _ _ _ hq
            obtain ⟨e2, _⟩ := front_spec hq2
            exact ⟨s :: (p ++ q2.1), by rw [e, e2, h.2]; simp⟩
  · unfold RWire.readWords at h
    split at h
    · cases h
    · rename_i q hq
      simp at h
      obtain ⟨p, e⟩ := sfx_text _ _ _ hq
      exact ⟨p, by rw [e, h.2]⟩
  · unfold RWire.readList at h
    split at h
    · cases h
    · rename_i q hq
      split at h
      · cases h
      · rename_i q2 hq2
        simp at h
        obtain ⟨p, e⟩ := sfx_num _ _ _ hq
        obtain ⟨p2, e2⟩ := sfx_many ih _ _ _ _ hq2
        exact ⟨p ++ p2, by rw [e, e2, List.append_assoc, h.2]⟩
  · unfold RWire.readRecord at h
    split at h
    · cases h
    · rename_i q hq
      split at h
      · cases h
      · rename_i q2 hq2
        split at h
        · simp at h
          have he : Sfx (RWire.readEntry (RWire.readF n)) := fun b v r h => by
            unfold RWire.readEntry at h
            split at h
            · cases h
            · rename_i q hq
              split at h
              · cases h
              · rename_i q2 hq2
                simp at h
                obtain ⟨p, e⟩ := sfx_text _ _ _ hq
                obtain ⟨p2, e2⟩ := ih _ _ _ hq2
                exact ⟨p ++ p2, by rw [e, e2, List.append_assoc, h.2]⟩
          obtain ⟨p, e⟩ := sfx_num _ _ _ hq
          obtain ⟨p2, e2⟩ := sfx_many he _ _ _ _ hq2
          exact ⟨p ++ p2, by rw [e, e2, List.append_assoc, h.2]⟩
        · cases h
  · unfold RWire.readOctets at h
    split at h
    · cases h
    · rename_i q hq
      simp at h
      obtain ⟨p, e⟩ := sfx_text _ _ _ hq
      exact ⟨p, by rw [e, h.2]⟩
  · unfold RWire.readWide at h
    split at h
    · cases h
    · rename_i q hq
      split at h
      · cases h
      · rename_i q2 hq2
        split at h
        · simp at h
          have hs : ∀ (n : Nat) (b : List UInt8) (l : List UInt16) (r : List UInt8), RWire.readSigns n b = some (l, r) → ∃ p, b = p ++ r := by
            intro n
            induction n with
            | zero =>
              intro b l r h
              simp [RWire.readSigns] at h
              exact ⟨[], by simp [h.2]⟩
            | succ n ih =>
              intro b l r h
              match b, h with
              | [], h => simp [RWire.readSigns] at h
              | [a], h => simp [RWire.readSigns] at h
              | a :: c :: b, h =>
                simp only [RWire.readSigns] at h
                split at h
                · cases h
                · rename_i q hq
                  simp at h
                  obtain ⟨p, e⟩ := ih _ _ _ hq
                  exact ⟨a :: c :: p, by rw [e, h.2]; rfl⟩
          obtain ⟨p, e⟩ := sfx_num _ _ _ hq
          obtain ⟨p2, e2⟩ := hs _ _ _ _ hq2
          exact ⟨p ++ p2, by rw [e, e2, List.append_assoc, h.2]⟩
        · cases h
  · cases h

theorem sfx_F : ∀ n, Sfx (RWire.readF n)
  | 0 => fun b v r h => by simp [RWire.readF] at h
  | n + 1 => fun b v r h => by
    cases b with
    | nil => simp [RWire.readF] at h
    | cons k b =>
      simp only [RWire.readF] at h
      obtain ⟨p, e⟩ := sfx_K (sfx_F n) h
      exact ⟨k :: p, by rw [e]; rfl⟩
/-- each thing read takes an octet at least -/
def Eats (f : List UInt8 → Option (α × List UInt8)) : Prop := ∀ b v r, f b = some (v, r) → r.length < b.length
theorem eats_F (d : Nat) : Eats (RWire.readF d) := fun b v r h => by
  cases d with
  | zero => simp [RWire.readF] at h
  | succ d =>
    cases b with
    | nil => simp [RWire.readF] at h
    | cons k b =>
      simp only [RWire.readF] at h
      obtain ⟨p, e⟩ := sfx_K (sfx_F d) h
      rw [e]
      simp
      omega
theorem eats_E (d : Nat) : Eats (RWire.readEntry (RWire.readF d)) := fun b v r h => by
  unfold RWire.readEntry at h
  split at h
  · cases h
  · rename_i q hq
    split at h
    · cases h
    · rename_i q2 hq2
      simp at h
      obtain ⟨p, e⟩ := sfx_text _ _ _ hq
      have h1 := eats_F d _ _ _ hq2
      rw [h.2] at h1
      rw [e, List.length_append]
      omega
/-! ### Value.__init__ -/
def p_Value_init (K : PySem.W.Frag) : ASp := fun ds W Q _ => ∃ p k w o q, ds = [.adr p, k, w, o, q] ∧ W = [(p, .ins (cValue K) [])] ∧ Q .non [(p, .ins (cValue K) [("kind", k), ("whole", w), ("octets", o), ("parts", q)])]
@[simp] theorem init_V (K : PySem.W.Frag) (p : Addr) (k w o q : D) (Q : D → Om → Prop) (X : Addr → Str → Om → Prop) : p_Value_init K [.adr p, k, w, o, q] [(p, .ins (cValue K) [])] Q X ↔ Q .non [(p, .ins (cValue K) [("kind", k), ("whole", w), ("octets", o), ("parts", q)])] := by
  constructor
  · rintro ⟨p', k', w', o', q', e, _, h⟩
    simp at e
    obtain ⟨rfl, rfl, rfl, rfl, rfl⟩ := e
    exact h
  · intro h
    exact ⟨p, k, w, o, q, rfl, rfl, h⟩
def rd_Value_init (K : PySem.W.Frag) : AS :=
  (sSeq (sFldA (cValue K) nsValue 0 "kind" (aVar 0) (aVar 1))
    (sSeq (sFldA (cValue K) nsValue 1 "whole" (aVar 0) (aVar 2))
    (sSeq (sFldA (cValue K) nsValue 2 "octets" (aVar 0) (aVar 3))
    (sFldA (cValue K) nsValue 3 "parts" (aVar 0) (aVar 4)))))
theorem dv_Value_init {P : Program} {w : World} {K : PySem.W.Frag} {mg : Str → Option Value} {base : Heap} (T : Tx K mg) : Rds P w K mg base ["self", "kind", "whole", "octets", "parts"] "Value.__init__" (defScope s_Value_init) (He.ma K (cValue K) "__init__") (defBody s_Value_init) 0 (rd_Value_init K) := by
  intro cdv A outer s H E hr
  exact (dss_cons (ds_fld 0 T.c_Value (de_var 0) (de_var 1))
    (dss_cons (ds_fld 1 T.c_Value (de_var 0) (de_var 2))
    (dss_cons (ds_fld 2 T.c_Value (de_var 0) (de_var 3))
    (dss_one (ds_fld 3 T.c_Value (de_var 0) (de_var 4))))))
theorem keep_Value_init (K : PySem.W.Frag) : Keeps ["self", "kind", "whole", "octets", "parts"] (p_Value_init K) (rd_Value_init K) := by
  rintro ds W AQ AX ⟨p, k, w, o, q, rfl, rfl, hQ⟩
  simp [rd_Value_init, nsValue]
  refine ⟨[], [], ⟨rfl, rfl⟩, rfl, by simp, ?_⟩
  simp
  refine ⟨_, _, ⟨rfl, rfl⟩, rfl, by simp, by simp, ?_⟩
  simp
  refine ⟨_, _, ⟨rfl, rfl⟩, rfl, by simp, by simp, ?_⟩
  simp
  exact ⟨_, _, ⟨rfl, rfl⟩, rfl, by simp, by simp, hQ⟩
end Dsn
end

section
set_option maxHeartbeats 4000000
/-! # read_value, read_parts, read_arguments -/
namespace Dsn
open PySem PySem.Spec PyProof.Rows L2 Hd
def p_read_value (d : Nat) (C : Addr) : List D → (D → Prop) → Prop := fun ds Q => ∃ (b : List UInt8) (at_ : Nat) (v : RWire.Value) (r : List UInt8), ds = [iL (oI b), .int at_] ∧ at_ ≤ b.length ∧ b.length ≤ 100000 ∧ RWire.readF d (b.drop at_) = some (v, r) ∧ okV v = true ∧
  Q (.tup [encV C v, .int ((b.length - r.length : Nat) : Int)])
def p_read_parts (d : Nat) (C : Addr) : List D → (D → Prop) → Prop := fun ds Q => ∃ (b : List UInt8) (at_ k many : Nat) (r0 : List UInt8), ds = [iL (oI b), .int at_, .int k] ∧ at_ + 1 ≤ b.length ∧ b.length ≤ 100000 ∧ RWire.readNum 4 (b.drop (at_ + 1)) = some (many, r0) ∧
  ((k = 7 ∧ ∃ l r, RWire.readMany (RWire.readF d) many r0 = some (l, r) ∧ okL l = true ∧ Q (.tup [encV C (.list l), .int ((b.length - r.length : Nat) : Int)])) ∨
   (k = 8 ∧ ∃ l r, RWire.readMany (RWire.readEntry (RWire.readF d)) many r0 = some (l, r) ∧ okF l = true ∧ Q (.tup [encV C (.record l), .int ((b.length - r.length : Nat) : Int)])))
/-- a row of octets is read at its place -/
theorem at_num {b p r : List UInt8} {at_ : Nat} (h : b.drop at_ = p ++ r) (hl : at_ ≤ b.length) : at_ + p.length ≤ b.length ∧ numL (((oI b).drop at_).take p.length) = (RWire.numOf p : Nat) ∧ b.drop (at_ + p.length) = r ∧ b.length - r.length = at_ + p.length ∧ r.length ≤ b.length := by
  have e1 : (b.drop at_).length = p.length + r.length := by rw [h, List.length_append]
  rw [List.length_drop] at e1
  refine ⟨by omega, ?_, ?_, by omega, by omega⟩
  · rw [oI_drop, h, oI_take, List.take_left, numL_oI]
  · rw [← List.drop_drop, h, List.drop_left]
def rd_read_value (K : PySem.W.Frag) (d : Nat) : AS :=
  (sSeq (sAsg (aOp oIx (aVar 0) (aVar 1)) (gNm 2))
    (sSeq (sIf (aB (aOp oEq (aVar 2) (aC (.int 4)))) (sRet (aTup (aCons (aMakeV (cValue K) (p_Value_init K) (aCons (aVar 2) (aCons (aCallP p_read_whole (aCons (aVar 0) (aCons (aOp oAdd (aVar 1) (aC (.int 1))) aNil))) (aCons (aLst aNil) (aCons (aLst aNil) aNil))))) (aCons (aOp oAdd (aVar 1) (aC (.int 9))) aNil)))) sNext)
    (sSeq (sIf (aB (aOp oEq (aVar 2) (aC (.int 6)))) (sSeq (sAsg (aCallP p_read_number (aCons (aVar 0) (aCons (aOp oAdd (aVar 1) (aC (.int 1))) (aCons (aC (.int 4)) aNil)))) (gNm 3))
    (sRet (aTup (aCons (aMakeV (cValue K) (p_Value_init K) (aCons (aVar 2) (aCons (aC (.int 0)) (aCons (aSl (aVar 0) (aPart (aOp oAdd (aVar 1) (aC (.int 5)))) (aPart (aOp oAdd (aOp oAdd (aVar 1) (aC (.int 5))) (aVar 3)))) (aCons (aLst aNil) aNil))))) (aCons (aOp oAdd (aOp oAdd (aVar 1) (aC (.int 5))) (aVar 3)) aNil))))) sNext)
    (sSeq (sIf (aOr (aB (aOp oEq (aVar 2) (aC (.int 7)))) (aB (aOp oEq (aVar 2) (aC (.int 8))))) (sRet (aCallP (p_read_parts d (cValue K)) (aCons (aVar 0) (aCons (aVar 1) (aCons (aVar 2) aNil))))) sNext)
    (sRet (aTup (aCons (aMakeV (cValue K) (p_Value_init K) (aCons (aVar 2) (aCons (aC (.int 0)) (aCons (aLst aNil) (aCons (aLst aNil) aNil))))) (aCons (aOp oAdd (aVar 1) (aC (.int 1))) aNil))))))))
theorem dv_read_value {P : Program} {w : World} {K : PySem.W.Frag} {mg : Str → Option Value} {base : Heap} {jp : Nat} {k : Nat} {d : Nat} (T : Tx K mg) (h_jp : jp ≤ k) (h1 : 5 ≤ k)
    (F_read_whole : Cal P w K mg base CX0 2 "read_whole" ["octets", "at"] (pureSp p_read_whole))
    (F_Value_init : Ial P w K mg base CX0 1 (cValue K) ["self", "kind", "whole", "octets", "parts"] (p_Value_init K))
    (F_read_number : Cal P w K mg base CX0 1 "read_number" ["octets", "at", "width"] (pureSp p_read_number))
    (F_read_parts : Cal P w K mg base CX0 jp "read_parts" ["octets", "at", "kind"] (pureSp (p_read_parts d (cValue K)))) : Rds P w K mg base ["octets", "at", "kind", "size"] "read_value" (defScope s_read_value) (He.ga K "read_value") (defBody s_read_value) k (rd_read_value K d) := by
  intro cdv A outer s H E hr
  exact (dss_cons (ds_set 2 sc_read_value.nd (de_ix (de_var 0) (de_var 1)))
    (dss_cons (ds_if (dt_eq hr (de_var 2) (de_gl T.i_INTEGER)) (dss_one (ds_ret (de_tup (da_cons (de_makeV F_Value_init T.g_Value (hr.mono (by omega)) (da_cons (de_var 2) (da_cons (de_callP F_read_whole (hr.mono (by omega)) (da_cons (de_var 0) (da_cons (de_add (de_var 1) (de_int)) da_nil))) (da_cons (de_lst da_nil) (da_cons (de_lst da_nil) da_nil))))) (da_cons (de_add (de_var 1) (de_int)) da_nil))))) dss_nil)
    (dss_cons (ds_if (dt_eq hr (de_var 2) (de_gl T.i_TEXT)) (dss_cons (ds_set 3 sc_read_value.nd (de_callP F_read_number (hr.mono (by omega)) (da_cons (de_var 0) (da_cons (de_add (de_var 1) (de_int)) (da_cons (de_int) da_nil)))))
    (dss_one (ds_ret (de_tup (da_cons (de_makeV F_Value_init T.g_Value (hr.mono (by omega)) (da_cons (de_var 2) (da_cons (de_int) (da_cons (de_sl (de_var 0) (do_at (de_add (de_var 1) (de_int))) (do_at (de_add (de_add (de_var 1) (de_int)) (de_var 3)))) (da_cons (de_lst da_nil) da_nil))))) (da_cons (de_add (de_add (de_var 1) (de_int)) (de_var 3)) da_nil)))))) dss_nil)
    (dss_cons (ds_if (dt_w (dw_or (dt_eq hr (de_var 2) (de_gl T.i_LIST)) (dw_or1 (dt_eq hr (de_var 2) (de_gl T.i_RECORD))))) (dss_one (ds_ret (de_callP F_read_parts (hr.mono (by omega)) (da_cons (de_var 0) (da_cons (de_var 1) (da_cons (de_var 2) da_nil)))))) dss_nil)
    (dss_one (ds_ret (de_tup (da_cons (de_makeV F_Value_init T.g_Value (hr.mono (by omega)) (da_cons (de_var 2) (da_cons (de_int) (da_cons (de_lst da_nil) (da_cons (de_lst da_nil) da_nil))))) (da_cons (de_add (de_var 1) (de_int)) da_nil)))))))))
def rd_read_parts (K : PySem.W.Frag) (d : Nat) : AS :=
  (sSeq (sAsg (aCallP p_read_number (aCons (aVar 0) (aCons (aOp oAdd (aVar 1) (aC (.int 1))) (aCons (aC (.int 4)) aNil)))) (gNm 3))
    (sSeq (sAsg (aLstO aNil) (gNm 4))
    (sSeq (sAsg (aOp oAdd (aVar 1) (aC (.int 5))) (gNm 5))
    (sSeq (sFor (iRng1A (aVar 3)) (gNm 6) (sSeq (sIf (aB (aOp oEq (aVar 2) (aC (.int 8)))) (sAsg (aOp oAdd (aOp oAdd (aVar 5) (aC (.int 4))) (aCallP p_read_number (aCons (aVar 0) (aCons (aVar 5) (aCons (aC (.int 4)) aNil))))) (gNm 5)) sNext)
    (sSeq (sAsg (aCallP (p_read_value d (cValue K)) (aCons (aVar 0) (aCons (aVar 5) aNil))) (gTp 2 (gC1 (gNm 7) (gC1 (gNm 5) gN0))))
    (sApp (aVar 4) (aVar 7)))))
    (sRet (aTup (aCons (aMakeV (cValue K) (p_Value_init K) (aCons (aVar 2) (aCons (aC (.int 0)) (aCons (aLst aNil) (aCons (aFrz (aVar 4)) aNil))))) (aCons (aVar 5) aNil))))))))
theorem dv_read_parts {P : Program} {w : World} {K : PySem.W.Frag} {mg : Str → Option Value} {base : Heap} {jv : Nat} {k : Nat} {d : Nat} (T : Tx K mg) (h_jv : jv ≤ k) (h1 : 5 ≤ k)
    (F_read_number : Cal P w K mg base CX0 1 "read_number" ["octets", "at", "width"] (pureSp p_read_number))
    (F_read_value : Cal P w K mg base CX0 jv "read_value" ["octets", "at"] (pureSp (p_read_value d (cValue K))))
    (F_Value_init : Ial P w K mg base CX0 1 (cValue K) ["self", "kind", "whole", "octets", "parts"] (p_Value_init K)) : Rds P w K mg base ["octets", "at", "kind", "many", "parts", "place", "k", "part"] "read_parts" (defScope s_read_parts) (He.ga K "read_parts") (defBody s_read_parts) k (rd_read_parts K d) := by
  intro cdv A outer s H E hr
  exact (dss_cons (ds_set 3 sc_read_parts.nd (de_callP F_read_number (hr.mono (by omega)) (da_cons (de_var 0) (da_cons (de_add (de_var 1) (de_int)) (da_cons (de_int) da_nil)))))
    (dss_cons (ds_set 4 sc_read_parts.nd (de_lstO da_nil))
    (dss_cons (ds_set 5 sc_read_parts.nd (de_add (de_var 1) (de_int)))
    (dss_cons (ds_for PassesOwn.never (di_rng1 T.b_range (de_var 3)) (dg_nm 6 sc_read_parts.nd) (dss_cons (ds_if (dt_eq hr (de_var 2) (de_gl T.i_RECORD)) (dss_one (ds_set 5 sc_read_parts.nd (de_add (de_add (de_var 5) (de_int)) (de_callP F_read_number (hr.mono (by omega)) (da_cons (de_var 0) (da_cons (de_var 5) (da_cons (de_int) da_nil))))))) dss_nil)
    (dss_cons (ds_asg (de_callP F_read_value (hr.mono (by omega)) (da_cons (de_var 0) (da_cons (de_var 5) da_nil))) (dg_tp (dgs_cons (dg_nm 7 sc_read_parts.nd) (dgs_cons (dg_nm 5 sc_read_parts.nd) dgs_nil))))
    (dss_one (ds_app (de_var 4) (de_var 7))))))
    (dss_one (ds_ret (de_tup (da_cons (de_makeV F_Value_init T.g_Value (hr.mono (by omega)) (da_cons (de_var 2) (da_cons (de_int) (da_cons (de_lst da_nil) (da_cons (de_frz (de_var 4)) da_nil))))) (da_cons (de_var 5) da_nil)))))))))
def rd_read_arguments (K : PySem.W.Frag) : AS :=
  (sSeq (sAsg (aLstO aNil) (gNm 1))
    (sSeq (sAsg (aC (.int 3)) (gNm 2))
    (sSeq (sFor (iRng1A (aOp oIx (aVar 0) (aC (.int 2)))) (gNm 3) (sSeq (sAsg (aCallP (p_read_value 32 (cValue K)) (aCons (aVar 0) (aCons (aVar 2) aNil))) (gTp 2 (gC1 (gNm 4) (gC1 (gNm 2) gN0))))
    (sApp (aVar 1) (aVar 4))))
    (sSeq (sFor (iRng2A (aOp oIx (aVar 0) (aC (.int 2))) (aC (.int 4))) (gNm 3) (sApp (aVar 1) (aMakeV (cValue K) (p_Value_init K) (aCons (aC (.int 0)) (aCons (aC (.int 0)) (aCons (aLst aNil) (aCons (aLst aNil) aNil)))))))
    (sRet (aFrz (aVar 1)))))))
theorem dv_read_arguments {P : Program} {w : World} {K : PySem.W.Frag} {mg : Str → Option Value} {base : Heap} (T : Tx K mg)
    (F_read_value : Cal P w K mg base CX0 80 "read_value" ["octets", "at"] (pureSp (p_read_value 32 (cValue K))))
    (F_Value_init : Ial P w K mg base CX0 1 (cValue K) ["self", "kind", "whole", "octets", "parts"] (p_Value_init K)) : Rds P w K mg base ["octets", "arguments", "at", "k", "argument"] "read_arguments" (defScope s_read_arguments) (He.ga K "read_arguments") (defBody s_read_arguments) 80 (rd_read_arguments K) := by
  intro cdv A outer s H E hr
  exact (dss_cons (ds_set 1 sc_read_arguments.nd (de_lstO da_nil))
    (dss_cons (ds_set 2 sc_read_arguments.nd (de_int))
    (dss_cons (ds_for PassesOwn.never (di_rng1 T.b_range (de_ix (de_var 0) (de_int))) (dg_nm 3 sc_read_arguments.nd) (dss_cons (ds_asg (de_callP F_read_value (hr.mono (by decide)) (da_cons (de_var 0) (da_cons (de_var 2) da_nil))) (dg_tp (dgs_cons (dg_nm 4 sc_read_arguments.nd) (dgs_cons (dg_nm 2 sc_read_arguments.nd) dgs_nil))))
    (dss_one (ds_app (de_var 1) (de_var 4)))))
    (dss_cons (ds_for PassesOwn.never (di_rng2 T.b_range (de_ix (de_var 0) (de_int)) (de_gl T.i_MOST_ARGUMENTS)) (dg_nm 3 sc_read_arguments.nd) (dss_one (ds_app (de_var 1) (de_makeV F_Value_init T.g_Value (hr.mono (by decide)) (da_cons (de_gl T.i_NOTHING) (da_cons (de_int) (da_cons (de_lst da_nil) (da_cons (de_lst da_nil) da_nil))))))))
    (dss_one (ds_ret (de_frz (de_var 1))))))))
/-- the pass over a list's values -/
theorem parts7_loop {A : AEnds} {K : PySem.W.Frag} {d : Nat} {b : List UInt8} (hb : b.length ≤ 100000) (o1 o3 : Option D) (p : Addr) : ∀ (m : Nat) (ks : List D) (rem r : List UInt8) (l : List RWire.Value) (acc : List D) (pl : Nat) (k part : Option D), ks.length = m → RWire.readMany (RWire.readF d) m rem = some (l, r) → okL l = true → b.drop pl = rem → pl ≤ b.length →
    acc.length + l.length ≤ 200000 → (∀ k' part', A.nx [some (iL (oI b)), o1, some (.int 7), o3, some (.adr p), some (.int ((b.length - r.length : Nat) : Int)), k', part'] [(p, .lst (acc ++ encL (cValue K) l))]) →
    forD (gNm 6) (sSeq (sIf (aB (aOp oEq (aVar 2) (aC (.int 8)))) (sAsg (aOp oAdd (aOp oAdd (aVar 5) (aC (.int 4))) (aCallP p_read_number (aCons (aVar 0) (aCons (aVar 5) (aCons (aC (.int 4)) aNil))))) (gNm 5)) sNext)
      (sSeq (sAsg (aCallP (p_read_value d (cValue K)) (aCons (aVar 0) (aCons (aVar 5) aNil))) (gTp 2 (gC1 (gNm 7) (gC1 (gNm 5) gN0)))) (sApp (aVar 4) (aVar 7)))) A ks [some (iL (oI b)), o1, some (.int 7), o3, some (.adr p), some (.int pl), k, part] [(p, .lst acc)]
  | 0, [], rem, r, l, acc, pl, k, part, _, h, _, hr, hp, _, hA => by
    simp [RWire.readMany] at h
    obtain ⟨rfl, rfl⟩ := h
    have e : b.length - rem.length = pl := by rw [← hr, List.length_drop]; omega
    rw [e] at hA
    simpa [encL] using hA k part
  | m + 1, kk :: ks, rem, r, l, acc, pl, k, part, hk, h, ho, hr, hp, hz, hA => by
    simp only [RWire.readMany] at h
    split at h
    · cases h
    · rename_i q hq
      obtain ⟨v, r1⟩ := q
      split at h
      · cases h
      · rename_i q2 hq2
        obtain ⟨l2, r2⟩ := q2
        simp at h
        obtain ⟨rfl, rfl⟩ := h
        obtain ⟨ov, ol⟩ := okL_cons ho
        obtain ⟨p1, e1⟩ := sfx_F d _ _ _ hq
        obtain ⟨a1, a2, a3, a4, a5⟩ := at_num (hr.trans e1) hp
        simp
        refine ⟨b, pl, v, r1, rfl, hp, hb, by rw [hr]; exact hq, ov, ?_⟩
        simp
        refine ⟨acc, [], ⟨rfl, rfl⟩, by simp at hz; omega, ?_⟩
        rw [a4]
        refine parts7_loop hb o1 o3 p m ks r1 r2 l2 _ _ _ _ (by simpa using hk) hq2 ol a3 a1 (by simp at hz ⊢; omega) fun k' part' => ?_
        simpa [encL] using hA k' part'
theorem parts8_loop {A : AEnds} {K : PySem.W.Frag} {d : Nat} {b : List UInt8} (hb : b.length ≤ 100000) (o1 o3 : Option D) (p : Addr) : ∀ (m : Nat) (ks : List D) (rem r : List UInt8) (l : List (RWire.Text × RWire.Value)) (acc : List D) (pl : Nat) (k part : Option D), ks.length = m → RWire.readMany (RWire.readEntry (RWire.readF d)) m rem = some (l, r) → okF l = true → b.drop pl = rem → pl ≤ b.length →
    acc.length + l.length ≤ 200000 → (∀ k' part', A.nx [some (iL (oI b)), o1, some (.int 8), o3, some (.adr p), some (.int ((b.length - r.length : Nat) : Int)), k', part'] [(p, .lst (acc ++ encF (cValue K) l))]) →
    forD (gNm 6) (sSeq (sIf (aB (aOp oEq (aVar 2) (aC (.int 8)))) (sAsg (aOp oAdd (aOp oAdd (aVar 5) (aC (.int 4))) (aCallP p_read_number (aCons (aVar 0) (aCons (aVar 5) (aCons (aC (.int 4)) aNil))))) (gNm 5)) sNext)
      (sSeq (sAsg (aCallP (p_read_value d (cValue K)) (aCons (aVar 0) (aCons (aVar 5) aNil))) (gTp 2 (gC1 (gNm 7) (gC1 (gNm 5) gN0)))) (sApp (aVar 4) (aVar 7)))) A ks [some (iL (oI b)), o1, some (.int 8), o3, some (.adr p), some (.int pl), k, part] [(p, .lst acc)]
  | 0, [], rem, r, l, acc, pl, k, part, _, h, _, hr, hp, _, hA => by
    simp [RWire.readMany] at h
    obtain ⟨rfl, rfl⟩ := h
    have e : b.length - rem.length = pl := by rw [← hr, List.length_drop]; omega
    rw [e] at hA
    simpa [encF] using hA k part
  | m + 1, kk :: ks, rem, r, l, acc, pl, k, part, hk, h, ho, hr, hp, hz, hA => by
    simp only [RWire.readMany] at h
    split at h
    · cases h
    · rename_i q hq
      obtain ⟨⟨t, v⟩, r1⟩ := q
      split at h
      · cases h
      · rename_i q2 hq2
        obtain ⟨l2, r2⟩ := q2
        simp at h
        obtain ⟨rfl, rfl⟩ := h
        obtain ⟨ov, ol⟩ := okF_cons ho
        -- the entry
        unfold RWire.readEntry at hq
        split at hq
        · cases hq
        · rename_i q3 hq3
          obtain ⟨t', r3⟩ := q3
          split at hq
          · cases hq
          · rename_i q4 hq4
            obtain ⟨v', r4⟩ := q4
            simp at hq
            obtain ⟨⟨rfl, rfl⟩, rfl⟩ := hq
            unfold RWire.readText at hq3
            split at hq3
            · cases hq3
            · rename_i q5 hq5
              obtain ⟨sz, r5⟩ := q5
              obtain ⟨p5, e5, l5, n5⟩ := readNum_spec hq5
              obtain ⟨e6, l6⟩ := front_spec hq3
              obtain ⟨a1, a2, a3, a4, a5⟩ := at_num (hr.trans e5) hp
              have a3' : b.drop (pl + 4) = t' ++ r3 := by rw [← l5, a3]; exact e6
              obtain ⟨b1, b2, b3, b4, b5⟩ := at_num a3' (by omega)
              obtain ⟨p7, e7⟩ := sfx_F d _ _ _ hq4
              have l6' : t'.length = sz := l6
              rw [l6'] at b1 b3 b4
              obtain ⟨c1, c2, c3, c4, c5⟩ := at_num (b3.trans e7) b1
              simp
              refine ⟨oI b, pl, 4, rfl, by rw [oI_length]; omega, by omega, ?_⟩
              simp
              rw [← l5, a2, ← n5, l5]
              refine ⟨b, pl + 4 + sz, v', r4, by simp, b1, hb, by rw [b3]; exact hq4, ov, ?_⟩
              simp
              refine ⟨acc, [], ⟨rfl, rfl⟩, by simp at hz; omega, ?_⟩
              rw [c4]
              refine parts8_loop hb o1 o3 p m ks r4 r2 l2 _ _ _ _ (by simpa using hk) hq2 ol c3 c1 (by simp at hz ⊢; omega) fun k' part' => ?_
              simpa [encF] using hA k' part'
theorem many_len {α : Type} {f : List UInt8 → Option (α × List UInt8)} : ∀ {n : Nat} {b : List UInt8} {l : List α} {r : List UInt8}, RWire.readMany f n b = some (l, r) → l.length = n
  | 0, b, l, r, h => by
    simp [RWire.readMany] at h
    simp [h.1.symm]
  | n + 1, b, l, r, h => by
    simp only [RWire.readMany] at h
    split at h
    · cases h
    · rename_i q hq
      split at h
      · cases h
      · rename_i q2 hq2
        simp at h
        obtain ⟨rfl, _⟩ := h
        simp [many_len hq2]
theorem many_eats {α : Type} {f : List UInt8 → Option (α × List UInt8)} (hf : Eats f) : ∀ {n : Nat} {b : List UInt8} {l : List α} {r : List UInt8}, RWire.readMany f n b = some (l, r) → n + r.length ≤ b.length
  | 0, b, l, r, h => by
    simp [RWire.readMany] at h
    simp [h.2]
  | n + 1, b, l, r, h => by
    simp only [RWire.readMany] at h
    split at h
    · cases h
    · rename_i q hq
      split at h
      · cases h
      · rename_i q2 hq2
        simp at h
        have h1 := hf _ _ _ hq
        have h2 := many_eats hf hq2
        rw [h.2] at h2
        omega
theorem keep_read_parts (K : PySem.W.Frag) (d : Nat) : Keeps ["octets", "at", "kind", "many", "parts", "place", "k", "part"] (pureSp (p_read_parts d (cValue K))) (rd_read_parts K d) := by
  rintro ds W AQ AX ⟨rfl, b, at_, k, many, r0, rfl, h1, h2, h3, h4⟩
  obtain ⟨p5, e5, l5, n5⟩ := readNum_spec h3
  obtain ⟨a1, a2, a3, a4, a5⟩ := at_num e5 h1
  have nl := numOf_lt p5
  rw [l5] at nl
  simp [rd_read_parts]
  refine ⟨oI b, at_ + 1, 4, by simp, by rw [oI_length]; omega, by omega, ?_⟩
  simp
  intro p hp
  rw [l5] at a2
  rw [a2, ← n5]
  refine ⟨by omega, ?_⟩
  have dr : b.drop (at_ + 1 + 4) = r0 := by rw [← l5]; exact a3
  have e0 : ((at_ : Int) + 5) = ((at_ + 1 + 4 : Nat) : Int) := by omega
  rw [e0]
  rcases h4 with ⟨rfl, l, r, hm, ho, hQ⟩ | ⟨rfl, l, r, hm, ho, hQ⟩
  · have ln := many_len hm
    have le := many_eats (eats_F d) hm
    refine parts7_loop h2 (some (.int at_)) (some (.int many)) p many ((List.range many).map fun i => D.int (i : Nat)) r0 r l [] (at_ + 1 + 4) none none (by simp) hm ho dr (by rw [← l5]; exact a1) (by simp; omega) fun k' part' => ?_
    simp
    exact ⟨_, _, ⟨rfl, rfl⟩, fun _ _ => by simpa [encV, vO, iL] using hQ⟩
  · have ln := many_len hm
    have le := many_eats (eats_E d) hm
    refine parts8_loop h2 (some (.int at_)) (some (.int many)) p many ((List.range many).map fun i => D.int (i : Nat)) r0 r l [] (at_ + 1 + 4) none none (by simp) hm ho dr (by rw [← l5]; exact a1) (by simp; omega) fun k' part' => ?_
    simp
    exact ⟨_, _, ⟨rfl, rfl⟩, fun _ _ => by simpa [encV, vO, iL] using hQ⟩
theorem at_one {b : List UInt8} {at_ : Nat} {k : UInt8} {r : List UInt8} (h : b.drop at_ = k :: r) : ((oI b).map D.int)[at_]? = some (.int (k.toNat : Nat)) ∧ at_ + 1 ≤ b.length ∧ b.drop (at_ + 1) = r := by
  have hl : at_ < b.length := by
    have := congrArg List.length h
    rw [List.length_drop, List.length_cons] at this
    omega
  have e := List.drop_eq_getElem_cons hl
  rw [h] at e
  injection e with e1 e2
  refine ⟨by simp [oI, hl, e1], hl, e2.symm⟩
theorem intOf_eq (n : Nat) : RWire.intOf n = if (2 : Int) ^ 63 ≤ (n : Int) then (n : Int) - 2 ^ 64 else (n : Int) := by
  unfold RWire.intOf RWire.wordMost
  by_cases h : n < 9223372036854775808
  · rw [if_pos (by simpa using h), if_neg (by omega)]
    rfl
  · rw [if_neg (by simpa using h), if_pos (by omega)]
    show (n : Int) - _ = _
    omega
theorem cut_nat (xs : List D) (a c : Nat) (h1 : a ≤ c) (h2 : c ≤ xs.length) : Hd.cutD xs (some (a : Int)) (some (c : Int)) = (xs.drop a).take (c - a) := by
  unfold Hd.cutD
  rw [HT.sIx_nat, HT.sIx_nat]
  rw [Nat.min_eq_left h2, Nat.min_eq_left (Nat.le_trans h1 h2)]
theorem keep_read_value (K : PySem.W.Frag) (d : Nat) : Keeps ["octets", "at", "kind", "size"] (pureSp (p_read_value (d + 1) (cValue K))) (rd_read_value K d) := by
  rintro ds W AQ AX ⟨rfl, b, at_, v, r, rfl, h1, h2, h3, ho, hQ⟩
  cases hb : b.drop at_ with
  | nil =>
    rw [hb] at h3
    simp [RWire.readF] at h3
  | cons k rem =>
    rw [hb] at h3
    simp only [RWire.readF] at h3
    obtain ⟨g1, g2, g3⟩ := at_one hb
    have i0 : ((at_ : Int)).toNat = at_ := by omega
    simp [rd_read_value, g1, i0]
    unfold RWire.readKind at h3
    split at h3
    · rename_i hk
      simp at h3
      obtain ⟨rfl, rfl⟩ := h3
      have e : b.length - rem.length = at_ + 1 := by rw [← g3, List.length_drop]; omega
      rw [e] at hQ
      simp [hk]
      intro p hp
      simpa [encV, vO, iL] using hQ
    · rename_i hk
      simp at h3
      obtain ⟨rfl, rfl⟩ := h3
      have e : b.length - rem.length = at_ + 1 := by rw [← g3, List.length_drop]; omega
      rw [e] at hQ
      simp [hk]
      intro p hp
      simpa [encV, vO, iL] using hQ
    · rename_i hk
      simp at h3
      obtain ⟨rfl, rfl⟩ := h3
      have e : b.length - rem.length = at_ + 1 := by rw [← g3, List.length_drop]; omega
      rw [e] at hQ
      simp [hk]
      intro p hp
      simpa [encV, vO, iL] using hQ
    · rename_i hk
      simp at h3
      obtain ⟨rfl, rfl⟩ := h3
      have e : b.length - rem.length = at_ + 1 := by rw [← g3, List.length_drop]; omega
      rw [e] at hQ
      simp [hk]
      intro p hp
      simpa [encV, vO, iL] using hQ
    · rename_i hk
      unfold RWire.readInt at h3
      split at h3
      · cases h3
      · rename_i q hq
        obtain ⟨n, r1⟩ := q
        split at h3
        · simp at h3
          obtain ⟨rfl, rfl⟩ := h3
          obtain ⟨p5, e5, l5, n5⟩ := readNum_spec hq
          obtain ⟨a1, a2, a3, a4, a5⟩ := at_num (g3.trans e5) g2
          rw [l5] at a2 a4 a1
          simp [hk]
          refine ⟨oI b, at_ + 1, by simp, by rw [oI_length]; omega, ?_⟩
          simp
          intro p hp
          rw [a4] at hQ
          rw [a2, ← n5]
          have e0 : ((at_ : Int) + 9) = ((at_ + 1 + 8 : Nat) : Int) := by omega
          rw [e0]
          simpa [encV, vO, iL, intOf_eq] using hQ
        · cases h3
    · cases rem with
      | nil => simp [RWire.readBig] at h3
      | cons s rem =>
        simp only [RWire.readBig] at h3
        split at h3
        · cases h3
        · split at h3
          · cases h3
          · split at h3
            · cases h3
            · simp at h3
              obtain ⟨rfl, _⟩ := h3
              simp [okV, RWire.noBig] at ho
    · rename_i hk
      unfold RWire.readWords at h3
      split at h3
      · cases h3
      · rename_i q hq
        obtain ⟨u, r1⟩ := q
        simp at h3
        obtain ⟨rfl, rfl⟩ := h3
        unfold RWire.readText at hq
        split at hq
        · cases hq
        · rename_i q5 hq5
          obtain ⟨sz, r5⟩ := q5
          obtain ⟨p5, e5, l5, n5⟩ := readNum_spec hq5
          obtain ⟨e6, l6⟩ := front_spec hq
          have l6' : u.length = sz := l6
          obtain ⟨a1, a2, a3, a4, a5⟩ := at_num (g3.trans e5) g2
          rw [l5] at a1 a2 a3 a4
          have a3' : b.drop (at_ + 1 + 4) = u ++ r1 := a3.trans e6
          obtain ⟨b1, b2, b3, b4, b5⟩ := at_num a3' (by omega)
          simp [hk]
          refine ⟨oI b, at_ + 1, 4, by simp, by rw [oI_length]; omega, by omega, ?_⟩
          simp
          intro p hp
          rw [a2, ← n5]
          rw [b4] at hQ
          have e0 : ((at_ : Int) + 5) = ((at_ + 1 + 4 : Nat) : Int) := by omega
          have e1 : ((at_ : Int) + 5 + (sz : Nat)) = ((at_ + 1 + 4 + u.length : Nat) : Int) := by omega
          rw [e1, e0, cut_nat _ _ _ (by omega) (by simp [oI_length]; omega)]
          have e2 : ((oI b).map D.int).drop (at_ + 1 + 4) = (oI (u ++ r1)).map D.int := by rw [← List.map_drop, oI_drop, a3']
          have e3 : at_ + 1 + 4 + u.length - (at_ + 1 + 4) = u.length := by omega
          have e4 : ((oI (u ++ r1)).map D.int).take u.length = (oI u).map D.int := by
            rw [oI_append, List.map_append, List.take_left' (by simp [oI_length])]
          rw [e2, e3, e4]
          simpa [encV, vO, iL] using hQ
    · rename_i hk
      unfold RWire.readList at h3
      split at h3
      · cases h3
      · rename_i q hq
        obtain ⟨many, r0⟩ := q
        split at h3
        · cases h3
        · rename_i q2 hq2
          obtain ⟨l, r2⟩ := q2
          simp at h3
          obtain ⟨rfl, rfl⟩ := h3
          simp [hk]
          exact ⟨b, at_, 7, many, r0, rfl, g2, h2, by rw [g3]; exact hq, .inl ⟨rfl, l, r2, hq2, okV_list ho, hQ⟩⟩
    · rename_i hk
      unfold RWire.readRecord at h3
      split at h3
      · cases h3
      · rename_i q hq
        obtain ⟨many, r0⟩ := q
        split at h3
        · cases h3
        · rename_i q2 hq2
          obtain ⟨l, r2⟩ := q2
          split at h3
          · simp at h3
            obtain ⟨rfl, rfl⟩ := h3
            simp [hk]
            exact ⟨b, at_, 8, many, r0, rfl, g2, h2, by rw [g3]; exact hq, .inr ⟨rfl, l, r2, hq2, okV_record ho, hQ⟩⟩
          · cases h3
    · unfold RWire.readOctets at h3
      split at h3
      · cases h3
      · simp at h3
        obtain ⟨rfl, _⟩ := h3
        simp [okV, RWire.noOctets] at ho
    · unfold RWire.readWide at h3
      split at h3
      · cases h3
      · split at h3
        · cases h3
        · split at h3
          · simp at h3
            obtain ⟨rfl, _⟩ := h3
            simp [okV, RWire.noWide] at ho
          · cases h3
    · cases h3
def p_read_arguments (C : Addr) : List D → (D → Prop) → Prop := fun ds Q => ∃ (b : List UInt8) (door : Nat) (l : List RWire.Value), ds = [iL (oI b)] ∧ b.length ≤ 100000 ∧ RWire.readRequest b = some (door, l) ∧ okL l = true ∧
  Q (.lst (encL C l ++ List.replicate (4 - l.length) (encV C .nothing)))
theorem args_loop {A : AEnds} {K : PySem.W.Frag} {b : List UInt8} (hb : b.length ≤ 100000) (p : Addr) : ∀ (m : Nat) (ks : List D) (rem r : List UInt8) (l : List RWire.Value) (acc : List D) (pl : Nat) (k part : Option D), ks.length = m → RWire.readMany (RWire.readF 32) m rem = some (l, r) → okL l = true → b.drop pl = rem → pl ≤ b.length →
    acc.length + l.length ≤ 200000 → (∀ pl' k' part', A.nx [some (iL (oI b)), some (.adr p), pl', k', part'] [(p, .lst (acc ++ encL (cValue K) l))]) →
    forD (gNm 3) (sSeq (sAsg (aCallP (p_read_value 32 (cValue K)) (aCons (aVar 0) (aCons (aVar 2) aNil))) (gTp 2 (gC1 (gNm 4) (gC1 (gNm 2) gN0))))
    (sApp (aVar 1) (aVar 4))) A ks [some (iL (oI b)), some (.adr p), some (.int pl), k, part] [(p, .lst acc)]
  | 0, [], rem, r, l, acc, pl, k, part, _, h, _, hr, hp, _, hA => by
    simp [RWire.readMany] at h
    obtain ⟨rfl, rfl⟩ := h
    simpa [encL] using hA (some (.int pl)) k part
  | m + 1, kk :: ks, rem, r, l, acc, pl, k, part, hk, h, ho, hr, hp, hz, hA => by
    simp only [RWire.readMany] at h
    split at h
    · cases h
    · rename_i q hq
      obtain ⟨v, r1⟩ := q
      split at h
      · cases h
      · rename_i q2 hq2
        obtain ⟨l2, r2⟩ := q2
        simp at h
        obtain ⟨rfl, rfl⟩ := h
        obtain ⟨ov, ol⟩ := okL_cons ho
        obtain ⟨p1, e1⟩ := sfx_F 32 _ _ _ hq
        obtain ⟨a1, a2, a3, a4, a5⟩ := at_num (hr.trans e1) hp
        simp
        refine ⟨b, pl, v, r1, rfl, hp, hb, by rw [hr]; exact hq, ov, ?_⟩
        simp
        refine ⟨acc, [], ⟨rfl, rfl⟩, by simp at hz; omega, ?_⟩
        rw [a4]
        refine args_loop hb p m ks r1 r2 l2 _ _ _ _ (by simpa using hk) hq2 ol a3 a1 (by simp at hz ⊢; omega) fun pl' k' part' => ?_
        simpa [encL] using hA pl' k' part'
theorem fill_loop {A : AEnds} {K : PySem.W.Frag} (o0 o2 o4 : Option D) (p : Addr) : ∀ (ks : List D) (acc : List D) (k : Option D), acc.length + ks.length ≤ 200000 → (∀ k', A.nx [o0, some (.adr p), o2, k', o4] [(p, .lst (acc ++ List.replicate ks.length (encV (cValue K) .nothing)))]) →
    forD (gNm 3) (sApp (aVar 1) (aMakeV (cValue K) (p_Value_init K) (aCons (aC (.int 0)) (aCons (aC (.int 0)) (aCons (aLst aNil) (aCons (aLst aNil) aNil)))))) A ks [o0, some (.adr p), o2, k, o4] [(p, .lst acc)]
  | [], acc, k, _, hA => by simpa using hA k
  | d :: ks, acc, k, hz, hA => by
    simp
    intro p1 hp1
    refine ⟨acc, [], ⟨rfl, rfl⟩, by simp at hz; omega, ?_⟩
    refine fill_loop o0 o2 o4 p ks _ _ (by simp at hz ⊢; omega) fun k' => ?_
    have := hA k'
    simpa [encV, vO, iL, List.replicate_succ] using this
theorem keep_read_arguments (K : PySem.W.Frag) : Keeps ["octets", "arguments", "at", "k", "argument"] (pureSp (p_read_arguments (cValue K))) (rd_read_arguments K) := by
  rintro ds W AQ AX ⟨rfl, b, door, l, rfl, hb, hr, ho, hQ⟩
  match b, hr with
  | [], hr => simp [RWire.readRequest] at hr
  | [_], hr => simp [RWire.readRequest] at hr
  | [_, _], hr => simp [RWire.readRequest] at hr
  | x :: y :: n :: rem, hr =>
    simp only [RWire.readRequest] at hr
    split at hr
    · cases hr
    · rename_i l' hl
      simp at hr
      obtain ⟨rfl, rfl⟩ := hr
      unfold RWire.readArgs at hl
      split at hl
      · rename_i l2 hm
        simp at hl
        subst hl
        have ln := many_len hm
        have lt : n.toNat < 256 := n.toNat_lt
        simp [rd_read_arguments, oI]
        intro p hp
        refine ⟨by omega, ?_⟩
        have e0 : D.int 3 = D.int ((3 : Nat) : Int) := rfl
        rw [e0]
        refine args_loop (b := x :: y :: n :: rem) hb p n.toNat _ rem [] l2 [] 3 none none (by simp) hm ho rfl (by simp) (by simp; omega) fun pl' k' part' => ?_
        simp
        refine ⟨by simp [oI]; omega, ?_⟩
        have el : ∀ l : List RWire.Value, (encL (cValue K) l).length = l.length := by
          intro l
          induction l with
          | nil => rfl
          | cons v r ih =>
            show (encL (cValue K) r).length + 1 = _
            rw [ih]
            rfl
        refine fill_loop _ _ _ p _ _ _ (by simp [el]; omega) fun k'' => ?_
        have e9 : (List.map (fun (k : Nat) => D.int ((fun x : UInt8 => ((x.toNat : Nat) : Int)) n + (k : Nat))) (List.range (4 - (fun x : UInt8 => ((x.toNat : Nat) : Int)) n).toNat)).length = 4 - l2.length := by
          simp
          omega
        rw [e9]
        simp
        exact ⟨_, _, ⟨rfl, rfl⟩, hQ⟩
      · cases hl
/-! ### what is handed back as it was -/
/-- neither a list nor a record -/
def primV : RWire.Value → Bool
  | .list _ => false
  | .record _ => false
  | _ => true
def wAgain : RWire.Value → List Int
  | .nothing => [0]
  | .null => [1]
  | .bool b => [if b then 3 else 2]
  | .int i => wInt i
  | .text u => wText (oI u)
  | _ => []
def p_write_again (C : Addr) : List D → (D → Prop) → Prop := fun ds Q => ∃ v : RWire.Value, ds = [encV C v] ∧ primV v = true ∧ okV v = true ∧ (∀ u, v = .text u → u.length ≤ 100000) ∧ Q (iL (wAgain v))
def p_thrown_parts (C : Addr) : List D → (D → Prop) → Prop := fun ds Q => ∃ v : RWire.Value, ds = [encV C v] ∧ primV v = true ∧ okV v = true ∧ (∀ u, v = .text u → u.length ≤ 100000) ∧ Q (.lst [iL (wText (octs "thrown")), iL (wAgain v)])
def rd_write_again (K : PySem.W.Frag) : AS :=
  (sSeq (sIf (aB (aOp oEq (aFld (cValue K) nsValue 0 (aVar 0)) (aC (.int 4)))) (sRet (aCallP p_write_whole (aCons (aFld (cValue K) nsValue 1 (aVar 0)) aNil))) sNext)
    (sSeq (sIf (aB (aOp oEq (aFld (cValue K) nsValue 0 (aVar 0)) (aC (.int 6)))) (sRet (aCallP p_write_text (aCons (aFld (cValue K) nsValue 2 (aVar 0)) aNil))) sNext)
    (sRet (aLst (aCons (aFld (cValue K) nsValue 0 (aVar 0)) aNil)))))
theorem dv_write_again {P : Program} {w : World} {K : PySem.W.Frag} {mg : Str → Option Value} {base : Heap} (T : Tx K mg)
    (F_write_whole : Cal P w K mg base CX0 2 "write_whole" ["whole"] (pureSp p_write_whole))
    (F_write_text : Cal P w K mg base CX0 2 "write_text" ["octets"] (pureSp p_write_text)) : Rds P w K mg base ["value"] "write_again" (defScope s_write_again) (He.ga K "write_again") (defBody s_write_again) 2 (rd_write_again K) := by
  intro cdv A outer s H E hr
  exact (dss_cons (ds_if (dt_eq hr (de_fld 0 T.c_Value (de_var 0)) (de_gl T.i_INTEGER)) (dss_one (ds_ret (de_callP F_write_whole (hr.mono (by decide)) (da_cons (de_fld 1 T.c_Value (de_var 0)) da_nil)))) dss_nil)
    (dss_cons (ds_if (dt_eq hr (de_fld 0 T.c_Value (de_var 0)) (de_gl T.i_TEXT)) (dss_one (ds_ret (de_callP F_write_text (hr.mono (by decide)) (da_cons (de_fld 2 T.c_Value (de_var 0)) da_nil)))) dss_nil)
    (dss_one (ds_ret (de_lst (da_cons (de_fld 0 T.c_Value (de_var 0)) da_nil))))))
def rd_thrown_parts (K : PySem.W.Frag) : AS :=
  (sRet (aLst (aCons (aCallP p_write_words (aCons (aC (.str "thrown")) aNil)) (aCons (aCallP (p_write_again (cValue K)) (aCons (aVar 0) aNil)) aNil))))
theorem dv_thrown_parts {P : Program} {w : World} {K : PySem.W.Frag} {mg : Str → Option Value} {base : Heap} (T : Tx K mg)
    (F_write_again : Cal P w K mg base CX0 3 "write_again" ["value"] (pureSp (p_write_again (cValue K))))
    (F_write_words : Cal P w K mg base CX0 3 "write_words" ["words"] (pureSp p_write_words)) : Rds P w K mg base ["x"] "thrown_parts" (defScope s_thrown_parts) (He.ga K "thrown_parts") (defBody s_thrown_parts) 3 (rd_thrown_parts K) := by
  intro cdv A outer s H E hr
  exact (dss_one (ds_ret (de_lst (da_cons (de_callP F_write_words (hr.mono (by decide)) (da_cons (de_str) da_nil)) (da_cons (de_callP F_write_again (hr.mono (by decide)) (da_cons (de_var 0) da_nil)) da_nil)))))
theorem keep_write_again (K : PySem.W.Frag) : Keeps ["value"] (pureSp (p_write_again (cValue K))) (rd_write_again K) := by
  rintro ds W AQ AX ⟨rfl, v, rfl, hp, ho, hu, hQ⟩
  cases v with
  | nothing => simpa [rd_write_again, encV, vO, nsValue, iL, wAgain] using hQ
  | null => simpa [rd_write_again, encV, vO, nsValue, iL, wAgain] using hQ
  | bool b => cases b <;> simpa [rd_write_again, encV, vO, nsValue, iL, wAgain] using hQ
  | int i =>
    simp [rd_write_again, encV, vO, nsValue, iL]
    exact ⟨i, rfl, hQ⟩
  | text u =>
    simp [rd_write_again, encV, vO, nsValue, iL]
    exact ⟨oI u, rfl, by rw [oI_length]; have := hu u rfl; omega, hQ⟩
  | list l => cases hp
  | record l => cases hp
  | big i => simp [okV, RWire.noBig] at ho
  | octets u => simp [okV, RWire.noOctets] at ho
  | wide u => simp [okV, RWire.noWide] at ho
theorem keep_thrown_parts (K : PySem.W.Frag) : Keeps ["x"] (pureSp (p_thrown_parts (cValue K))) (rd_thrown_parts K) := by
  rintro ds W AQ AX ⟨rfl, v, rfl, hp, ho, hu, hQ⟩
  simp [rd_thrown_parts]
  refine ⟨"thrown", rfl, by decide +kernel, v, rfl, hp, ho, hu, hQ⟩
end Dsn
end

section
set_option maxHeartbeats 4000000
/-! # Fractions and polynomials -/
namespace Dsn
open PySem PySem.Spec PyProof.Rows L2 Hd
def rD (t : Int) (b : Nat) : Int × Int := (t / (Nat.gcd t.natAbs b : Nat), (b : Int) / (Nat.gcd t.natAbs b : Nat))
def atF (top bottom : Int) : List Int → Int
  | [] => 0
  | c :: r => atF top bottom r * top + c * bottom ^ r.length
def oneMore : List Int → Int → List Int
  | [], c => [c]
  | a :: r, c => (c + a) :: oneMore r (0 - a)
def aboutOne : List Int → List Int
  | [] => []
  | c :: r => oneMore (aboutOne r) c
def isLess : List Int → List Int → Bool
  | x :: xs, y :: ys => if x = y then isLess xs ys else decide (x < y)
  | _, _ => false
def p_common_divisor : List D → (D → Prop) → Prop := fun ds Q => ∃ a b : Nat, ds = [.int a, .int b] ∧ b < 2 ^ 62 ∧ Q (.int (Nat.gcd a b : Nat))
def p_reduced : List D → (D → Prop) → Prop := fun ds Q => ∃ (t : Int) (b : Nat), ds = [.int t, .int b] ∧ 0 < b ∧ b < 2 ^ 62 ∧ Q (fD (rD t b))
def p_at_fraction : List D → (D → Prop) → Prop := fun ds Q => ∃ (p : List Int) (t b : Nat), ds = [iL p, .int t, .int b] ∧ p.length ≤ 10 ∧ t ≤ 6 ∧ b ≤ 6 ∧ Q (.int (atF t b p))
def p_one_more : List D → (D → Prop) → Prop := fun ds Q => ∃ (s : List Int) (c : Int), ds = [iL s, .int c] ∧ s.length ≤ 100 ∧ Q (iL (oneMore s c))
def p_about_one : List D → (D → Prop) → Prop := fun ds Q => ∃ p : List Int, ds = [iL p] ∧ p.length ≤ 100 ∧ Q (iL (aboutOne p))
def p_is_less : List D → (D → Prop) → Prop := fun ds Q => ∃ a b : List Int, ds = [iL a, iL b] ∧ Q (.bl (isLess a b))
def rd_common_divisor : AS :=
  (sSeq (sAsg (aVar 0) (gNm 2))
    (sSeq (sAsg (aVar 1) (gNm 3))
    (sSeq (sWhile (aB (aOp oGt (aVar 3) (aC (.int 0)))) (sSeq (sAsg (aOp oSub (aVar 2) (aOp oMul (aOp oFdv (aVar 2) (aVar 3)) (aVar 3))) (gNm 4))
    (sSeq (sAsg (aVar 3) (gNm 2))
    (sAsg (aVar 4) (gNm 3)))))
    (sRet (aVar 2)))))
theorem dv_common_divisor {P : Program} {w : World} {K : PySem.W.Frag} {mg : Str → Option Value} {base : Heap} (T : Tx K mg) : Rds P w K mg base ["one", "other", "big", "small", "rest"] "common_divisor" (defScope s_common_divisor) (He.ga K "common_divisor") (defBody s_common_divisor) 0 (rd_common_divisor) := by
  intro cdv A outer s H E hr
  exact (dss_cons (ds_set 2 sc_common_divisor.nd (de_var 0))
    (dss_cons (ds_set 3 sc_common_divisor.nd (de_var 1))
    (dss_cons (ds_while PassesOwn.never (dt_gt (de_var 3) (de_int)) (dss_cons (ds_set 4 sc_common_divisor.nd (de_sub (de_var 2) (de_mul (de_fdv (de_var 2) (de_var 3)) (de_var 3))))
    (dss_cons (ds_set 2 sc_common_divisor.nd (de_var 3))
    (dss_one (ds_set 3 sc_common_divisor.nd (de_var 4))))))
    (dss_one (ds_ret (de_var 2))))))
def rd_reduced : AS :=
  (sSeq (sAsg (aCallP p_common_divisor (aCons (aCB cAbs (aCons (aVar 0) aNil)) (aCons (aVar 1) aNil))) (gNm 2))
    (sRet (aTup (aCons (aOp oFdv (aVar 0) (aVar 2)) (aCons (aOp oFdv (aVar 1) (aVar 2)) aNil)))))
theorem dv_reduced {P : Program} {w : World} {K : PySem.W.Frag} {mg : Str → Option Value} {base : Heap} (T : Tx K mg)
    (F_common_divisor : Cal P w K mg base CX0 1 "common_divisor" ["one", "other"] (pureSp p_common_divisor)) : Rds P w K mg base ["top", "bottom", "divisor"] "reduced" (defScope s_reduced) (He.ga K "reduced") (defBody s_reduced) 1 (rd_reduced) := by
  intro cdv A outer s H E hr
  exact (dss_cons (ds_set 2 sc_reduced.nd (de_callP F_common_divisor (hr.mono (by decide)) (da_cons (de_abs T.b_abs (de_var 0)) (da_cons (de_var 1) da_nil))))
    (dss_one (ds_ret (de_tup (da_cons (de_fdv (de_var 0) (de_var 2)) (da_cons (de_fdv (de_var 1) (de_var 2)) da_nil))))))
def rd_at_fraction : AS :=
  (sSeq (sAsg (aC (.int 0)) (gNm 3))
    (sSeq (sAsg (aC (.int 1)) (gNm 4))
    (sSeq (sFor (iRevA' (aVar 0)) (gNm 5) (sSeq (sAsg (aOp oAdd (aOp oMul (aVar 3) (aVar 1)) (aOp oMul (aVar 5) (aVar 4))) (gNm 3))
    (sAsg (aOp oMul (aVar 4) (aVar 2)) (gNm 4))))
    (sRet (aVar 3)))))
theorem dv_at_fraction {P : Program} {w : World} {K : PySem.W.Frag} {mg : Str → Option Value} {base : Heap} (T : Tx K mg) : Rds P w K mg base ["polynomial", "top", "bottom", "number", "weight", "coefficient"] "at_fraction" (defScope s_at_fraction) (He.ga K "at_fraction") (defBody s_at_fraction) 0 (rd_at_fraction) := by
  intro cdv A outer s H E hr
  exact (dss_cons (ds_set 3 sc_at_fraction.nd (de_int))
    (dss_cons (ds_set 4 sc_at_fraction.nd (de_int))
    (dss_cons (ds_for PassesOwn.never (di_rev T.b_reversed (de_var 0)) (dg_nm 5 sc_at_fraction.nd) (dss_cons (ds_set 3 sc_at_fraction.nd (de_add (de_mul (de_var 3) (de_var 1)) (de_mul (de_var 5) (de_var 4))))
    (dss_one (ds_set 4 sc_at_fraction.nd (de_mul (de_var 4) (de_var 2))))))
    (dss_one (ds_ret (de_var 3))))))
def rd_one_more : AS :=
  (sSeq (sAsg (aCatO (aLst (aCons (aVar 1) aNil)) (aLc (iListA (aVar 0)) (gNm 2) aYes (aC (.int 0)) [2])) (gNm 3))
    (sSeq (sFor (iEnumA (aVar 0)) (gTp 2 (gC1 (gNm 4) (gC1 (gNm 2) gN0))) (sSeq (sAsg (aOp oAdd (aIxO (aVar 3) (aVar 4)) (aVar 2)) (gIx (aVar 3) (aVar 4)))
    (sAsg (aOp oSub (aIxO (aVar 3) (aOp oAdd (aVar 4) (aC (.int 1)))) (aVar 2)) (gIx (aVar 3) (aOp oAdd (aVar 4) (aC (.int 1)))))))
    (sRet (aFrz (aVar 3)))))
theorem dv_one_more {P : Program} {w : World} {K : PySem.W.Frag} {mg : Str → Option Value} {base : Heap} (T : Tx K mg) : Rds P w K mg base ["shifted", "coefficient", "part", "longer", "k"] "one_more" (defScope s_one_more) (He.ga K "one_more") (defBody s_one_more) 0 (rd_one_more) := by
  intro cdv A outer s H E hr
  exact (dss_cons (ds_set 3 sc_one_more.nd (de_catO (de_lst (da_cons (de_var 1) da_nil)) (de_lc [("part", 2)] 2 sc_one_more.nd (blkOk_by (own := [("part", 2)]) (N := ["shifted", "coefficient", "part", "longer", "k"]) (sc := defScope s_one_more) (by decide +kernel)) (di_list (de_var 0)) (fun _ _ _ _ _ => pg_name (i := 2) sc_one_more.nd rfl (Or.inl rfl)) (fun _ _ _ _ _ => (de_int)))))
    (dss_cons (ds_for PassesOwn.never (di_enum T.b_enumerate (de_var 0)) (dg_tp (dgs_cons (dg_nm 4 sc_one_more.nd) (dgs_cons (dg_nm 2 sc_one_more.nd) dgs_nil))) (dss_cons (ds_asg (de_add (de_ixO (de_var 3) (de_var 4)) (de_var 2)) (dg_ix (de_var 3) (de_var 4)))
    (dss_one (ds_asg (de_sub (de_ixO (de_var 3) (de_add (de_var 4) (de_int))) (de_var 2)) (dg_ix (de_var 3) (de_add (de_var 4) (de_int)))))))
    (dss_one (ds_ret (de_frz (de_var 3))))))
def rd_about_one : AS :=
  (sSeq (sAsg (aLst aNil) (gNm 1))
    (sSeq (sFor (iRevA' (aVar 0)) (gNm 2) (sAsg (aCallP p_one_more (aCons (aVar 1) (aCons (aVar 2) aNil))) (gNm 1)))
    (sRet (aVar 1))))
theorem dv_about_one {P : Program} {w : World} {K : PySem.W.Frag} {mg : Str → Option Value} {base : Heap} (T : Tx K mg)
    (F_one_more : Cal P w K mg base CX0 1 "one_more" ["shifted", "coefficient"] (pureSp p_one_more)) : Rds P w K mg base ["polynomial", "shifted", "coefficient"] "about_one" (defScope s_about_one) (He.ga K "about_one") (defBody s_about_one) 1 (rd_about_one) := by
  intro cdv A outer s H E hr
  exact (dss_cons (ds_set 1 sc_about_one.nd (de_lst da_nil))
    (dss_cons (ds_for PassesOwn.never (di_rev T.b_reversed (de_var 0)) (dg_nm 2 sc_about_one.nd) (dss_one (ds_set 1 sc_about_one.nd (de_callP F_one_more (hr.mono (by decide)) (da_cons (de_var 1) (da_cons (de_var 2) da_nil))))))
    (dss_one (ds_ret (de_var 1)))))
def rd_is_less : AS :=
  (sSeq (sFor (iZipA (aVar 0) (aVar 1)) (gTp 2 (gC1 (gNm 2) (gC1 (gNm 3) gN0))) (sIf (aB (aOp oNe (aVar 2) (aVar 3))) (sRet (aOp oLt (aVar 2) (aVar 3))) sNext))
    (sRet (aC (.bl false))))
theorem dv_is_less {P : Program} {w : World} {K : PySem.W.Frag} {mg : Str → Option Value} {base : Heap} (T : Tx K mg) : Rds P w K mg base ["one", "other", "mine", "its"] "is_less" (defScope s_is_less) (He.ga K "is_less") (defBody s_is_less) 0 (rd_is_less) := by
  intro cdv A outer s H E hr
  exact (dss_cons (ds_for PassesOwn.never (di_zip T.b_zip (de_var 0) (de_var 1)) (dg_tp (dgs_cons (dg_nm 2 sc_is_less.nd) (dgs_cons (dg_nm 3 sc_is_less.nd) dgs_nil))) (dss_one (ds_if (dt_ne (de_var 2) (de_var 3)) (dss_one (ds_ret (de_lt (de_var 2) (de_var 3)))) dss_nil)))
    (dss_one (ds_ret (de_bl))))
theorem keep_common_divisor : Keeps ["one", "other", "big", "small", "rest"] (pureSp p_common_divisor) rd_common_divisor := by
  rintro ds W AQ AX ⟨rfl, a, b, rfl, hb, hQ⟩
  simp [rd_common_divisor, -sWhile]
  refine ⟨fun m G W => ∃ (big : Nat) (rest : Option D), m < 2 ^ 62 ∧ Nat.gcd big m = Nat.gcd a b ∧ G = [some (.int a), some (.int b), some (.int big), some (.int m), rest] ∧ W = [], ⟨b, a, none, hb, rfl, rfl, rfl⟩, ?_⟩
  rintro m G W ⟨big, rest, hm, hg, rfl, rfl⟩
  simp
  by_cases h : 0 < m
  · rw [if_pos h]
    have e : (big : Int) - (big : Int) / (m : Int) * (m : Int) = ((big % m : Nat) : Int) := by
      have h1 := Int.mul_ediv_add_emod (big : Int) (m : Int)
      rw [Int.mul_comm] at h1
      have h2 : ((big % m : Nat) : Int) = (big : Int) % (m : Int) := Int.natCast_emod big m
      omega
    have lt := Nat.mod_lt big h
    exact ⟨⟨h, by omega⟩, .inr ⟨by omega, by omega⟩, big % m, lt, by omega, m, by rw [Nat.gcd_comm, ← Nat.gcd_rec, Nat.gcd_comm]; exact hg, rfl, e⟩
  · rw [if_neg h]
    have : m = 0 := by omega
    subst this
    rw [Nat.gcd_zero_right] at hg
    rw [hg]
    exact hQ
theorem keep_reduced : Keeps ["top", "bottom", "divisor"] (pureSp p_reduced) rd_reduced := by
  rintro ds W AQ AX ⟨rfl, t, b, rfl, h0, hb, hQ⟩
  simp [rd_reduced]
  have e : (if t < 0 then -t else t) = (t.natAbs : Int) := by split <;> omega
  rw [e]
  refine ⟨t.natAbs, b, rfl, hb, ?_⟩
  have g0 : 0 < Nat.gcd t.natAbs b := Nat.gcd_pos_of_pos_right _ h0
  have g1 : Nat.gcd t.natAbs b ≤ b := Nat.gcd_le_right _ h0
  simp
  exact ⟨⟨.inr h0, by omega⟩, hQ⟩
theorem pow6 (b n : Nat) (hb : b ≤ 6) (hn : n ≤ 10) : (b : Int) ^ n < 2 ^ 64 ∧ -(2 ^ 64) < (b : Int) ^ n := by
  have h1 : b ^ n ≤ 6 ^ 10 := Nat.le_trans (Nat.pow_le_pow_left hb n) (Nat.pow_le_pow_right (by decide) hn)
  have h2 : (6 : Nat) ^ 10 < 2 ^ 64 := by decide
  have e : (b : Int) ^ n = ((b ^ n : Nat) : Int) := by simp
  rw [e]
  omega
theorem at_fraction_loop {A : AEnds} (d0 : D) (t b : Nat) (ht : t ≤ 6) (hb : b ≤ 6) : ∀ (qs r : List Int) (k : Option D), qs.length + r.length ≤ 10 → (∀ w k', A.nx [some d0, some (.int t), some (.int b), some (.int (atF t b (qs.reverse ++ r))), w, k'] []) →
    forD (gNm 5) (sSeq (sAsg (aOp oAdd (aOp oMul (aVar 3) (aVar 1)) (aOp oMul (aVar 5) (aVar 4))) (gNm 3)) (sAsg (aOp oMul (aVar 4) (aVar 2)) (gNm 4))) A (qs.map D.int) [some d0, some (.int t), some (.int b), some (.int (atF t b r)), some (.int ((b : Int) ^ r.length)), k] []
  | [], r, k, _, h => by simpa using h (some (.int ((b : Int) ^ r.length))) k
  | c :: qs, r, k, hl, h => by
    have q := pow6 b r.length hb (by simp at hl; omega)
    simp
    refine ⟨.inr ⟨by omega, by omega⟩, .inr ⟨by simpa using q.2, by simpa using q.1⟩, .inr ⟨by omega, by omega⟩, ?_⟩
    have := at_fraction_loop d0 t b ht hb qs (c :: r) (some (.int c)) (by simp at hl ⊢; omega) fun w k' => by simpa using h w k'
    simpa [atF, Int.pow_succ] using this
theorem keep_at_fraction : Keeps ["polynomial", "top", "bottom", "number", "weight", "coefficient"] (pureSp p_at_fraction) rd_at_fraction := by
  rintro ds W AQ AX ⟨rfl, p, t, b, rfl, h1, h2, h3, hQ⟩
  simp [rd_at_fraction]
  rw [← List.map_reverse]
  have := at_fraction_loop (A := ⟨sRet (aVar 3) { nx := fun x W' => AQ D.non W', rt := AQ }, AQ, fun _ _ => False, fun _ _ => False⟩) (iL p) t b h2 h3 p.reverse [] none (by simpa using h1) fun w k' => by simpa using hQ
  simpa [atF] using this
theorem one_more_loop {A : AEnds} (d0 d1 o2 o5 : Option D) (p : Addr) : ∀ (s done : List Int) (x : Int) (part k : Option D), (∀ part' k', A.nx [d0, d1, part', some (.adr p), k'] [(p, .lst ((done ++ oneMore s x).map D.int))]) →
    forD (gTp 2 (gC1 (gNm 4) (gC1 (gNm 2) gN0))) (sSeq (sAsg (aOp oAdd (aIxO (aVar 3) (aVar 4)) (aVar 2)) (gIx (aVar 3) (aVar 4))) (sAsg (aOp oSub (aIxO (aVar 3) (aOp oAdd (aVar 4) (aC (.int 1)))) (aVar 2)) (gIx (aVar 3) (aOp oAdd (aVar 4) (aC (.int 1)))))) A
      ((s.zipIdx done.length).map fun q => .tup [.int (q.2 : Nat), .int q.1]) [d0, d1, part, some (.adr p), k] [(p, .lst ((done ++ x :: List.replicate s.length 0).map D.int))]
  | [], done, x, part, k, h => by simpa [oneMore] using h part k
  | a :: s, done, x, part, k, h => by
    have e1 : ((done ++ x :: List.replicate (s.length + 1) 0).map D.int)[done.length]? = some (.int x) := by simp
    have e2 : (((done ++ x :: List.replicate (s.length + 1) 0).map D.int).set done.length (.int (x + a))) = (done ++ (x + a) :: List.replicate (s.length + 1) 0).map D.int := by
      rw [List.map_append, List.set_append_right _ _ (by simp)]
      simp
    have e3 : ((done ++ (x + a) :: List.replicate (s.length + 1) 0).map D.int)[done.length + 1]? = some (.int 0) := by
      rw [List.map_append, List.getElem?_append_right (by simp)]
      simp
    have e4 : (((done ++ (x + a) :: List.replicate (s.length + 1) 0).map D.int).set (done.length + 1) (.int (0 - a))) = ((done ++ [x + a]) ++ (0 - a) :: List.replicate s.length 0).map D.int := by
      rw [List.map_append, List.set_append_right _ _ (by simp)]
      simp [List.replicate_succ]
    have i1 : ((done.length : Int) + 1).toNat = done.length + 1 := by omega
    have ih := one_more_loop d0 d1 o2 o5 p s (done ++ [x + a]) (0 - a) (some (.int a)) (some (.int done.length)) fun part' k' => by
      have := h part' k'
      simpa [oneMore] using this
    have ll : (done ++ [x + a]).length = done.length + 1 := by simp
    rw [ll] at ih
    simp only [List.zipIdx_cons, List.map_cons, List.length_cons]
    simp [-List.map_append, -List.map_cons, e1]
    have e5 : ((done ++ x :: List.replicate (s.length + 1) 0).map D.int)[done.length + 1]? = some (.int 0) := by
      rw [List.map_append, List.getElem?_append_right (by simp)]
      simp
    refine ⟨_, _, ⟨rfl, rfl⟩, by simp, .inl ⟨by omega, ?_⟩⟩
    rw [e5, e2]
    refine ⟨_, _, .refl _, ⟨by omega, by simp⟩, ?_⟩
    rw [e4]
    exact ih
theorem keep_one_more : Keeps ["shifted", "coefficient", "part", "longer", "k"] (pureSp p_one_more) rd_one_more := by
  rintro ds W AQ AX ⟨rfl, s, c, rfl, h1, hQ⟩
  simp [rd_one_more]
  refine ⟨by omega, lc_map (fun _ => .int 0) _ _ (fun d hd R hR => by simpa using hR) ?_⟩
  simp
  refine ⟨by omega, fun p hp => ?_⟩
  have := one_more_loop (A := ⟨sRet (aFrz (aVar 3)) { nx := fun x W' => AQ D.non W', rt := AQ }, AQ, fun _ _ => False, fun _ _ => False⟩) (some (iL s)) (some (.int c)) none none p s [] c none none fun part' k' => by
    simp
    exact ⟨_, _, ⟨rfl, rfl⟩, by simpa [iL] using hQ⟩
  have e : ((s.zipIdx 0).map fun q : Int × Nat => D.tup [.int (q.2 : Nat), .int q.1]) = enumD (s.map D.int) := by
    simp [enumD, List.zipIdx_map, Function.comp_def]
  have e2 : ([] ++ c :: List.replicate s.length 0).map D.int = .int c :: s.map fun _ => .int 0 := by
    rw [List.map_const']
    simp
  simp only [List.length_nil] at this
  rw [e, e2] at this
  simpa [Function.comp_def, enumD] using this
theorem oneMore_length : ∀ (s : List Int) (c : Int), (oneMore s c).length = s.length + 1
  | [], _ => rfl
  | a :: r, c => by simp [oneMore, oneMore_length r]
theorem aboutOne_length : ∀ p : List Int, (aboutOne p).length = p.length
  | [] => rfl
  | c :: r => by simp [aboutOne, oneMore_length, aboutOne_length r]
theorem about_one_loop {A : AEnds} (d0 : D) : ∀ (qs r : List Int) (k : Option D), qs.length + r.length ≤ 100 → (∀ k', A.nx [some d0, some (iL (aboutOne (qs.reverse ++ r))), k'] []) →
    forD (gNm 2) (sAsg (aCallP p_one_more (aCons (aVar 1) (aCons (aVar 2) aNil))) (gNm 1)) A (qs.map D.int) [some d0, some (iL (aboutOne r)), k] []
  | [], r, k, _, h => by simpa using h k
  | c :: qs, r, k, hl, h => by
    simp
    refine ⟨aboutOne r, c, rfl, by rw [aboutOne_length]; simp at hl; omega, ?_⟩
    exact about_one_loop d0 qs (c :: r) (some (.int c)) (by simp at hl ⊢; omega) fun k' => by simpa using h k'
theorem keep_about_one : Keeps ["polynomial", "shifted", "coefficient"] (pureSp p_about_one) rd_about_one := by
  rintro ds W AQ AX ⟨rfl, p, rfl, h1, hQ⟩
  simp [rd_about_one]
  rw [← List.map_reverse]
  have := about_one_loop (A := ⟨sRet (aVar 1) { nx := fun x W' => AQ D.non W', rt := AQ }, AQ, fun _ _ => False, fun _ _ => False⟩) (iL p) p.reverse [] none (by simpa using h1) fun k' => by simpa using hQ
  simpa [aboutOne, iL] using this
theorem is_less_loop {A : AEnds} (d0 d1 : Option D) : ∀ (a b : List Int) (k l : Option D), (∀ k' l', isLess a b = false → A.nx [d0, d1, k', l'] []) → (A.rt (.bl (isLess a b)) []) →
    forD (gTp 2 (gC1 (gNm 2) (gC1 (gNm 3) gN0))) (sIf (aB (aOp oNe (aVar 2) (aVar 3))) (sRet (aOp oLt (aVar 2) (aVar 3))) sNext) A (List.zipWith (fun a b => D.tup [D.int a, D.int b]) a b) [d0, d1, k, l] []
  | [], _, k, l, h, _ => by simpa [isLess, zipD] using h k l
  | _ :: _, [], k, l, h, _ => by simpa [isLess, zipD] using h k l
  | x :: a, y :: b, k, l, h, hr => by
    simp [zipD]
    by_cases e : x = y
    · subst e
      rw [if_pos rfl]
      exact is_less_loop d0 d1 a b _ _ (fun k' l' z => h k' l' (by simpa [isLess] using z)) (by simpa [isLess] using hr)
    · rw [if_neg e]
      simpa [isLess, e] using hr
theorem keep_is_less : Keeps ["one", "other", "mine", "its"] (pureSp p_is_less) rd_is_less := by
  rintro ds W AQ AX ⟨rfl, a, b, rfl, hQ⟩
  simp [rd_is_less, zipD]
  exact is_less_loop _ _ a b none none (fun k' l' e => by rw [e] at hQ; simpa using hQ) hQ
end Dsn
end

section
set_option maxHeartbeats 4000000
/-! # Policies -/
namespace Dsn
open PySem PySem.Spec PyProof.Rows L2 Hd
abbrev Sys := R7284d.Spec.System
abbrev Dis := R7284d.Spec.Discount
abbrev Pol := R7284d.Spec.Policy
abbrev wordsL := R7284d.Spec.wordsOfLength
abbrev trD (e : Nat × Int) : D := .tup [.int (e.1 : Int), .int e.2]
abbrev encSys (t : Sys) : D := .lst (t.map fun e => .tup [trD e.1, trD e.2])
abbrev encDis (g : Dis) : D := .tup [.int (g.1 : Int), .int (g.2 : Int)]
structure OkS (t : Sys) : Prop where
  pos : 1 ≤ t.length
  le : t.length ≤ 3
  tg : ∀ e ∈ t, e.1.1 < t.length ∧ e.2.1 < t.length
  rw : ∀ e ∈ t, (-9 ≤ e.1.2 ∧ e.1.2 ≤ 9) ∧ (-9 ≤ e.2.2 ∧ e.2.2 ≤ 9)
structure OkP (n : Nat) (f : Pol) : Prop where
  len : f.length = n
  two : ∀ c ∈ f, c < 2
structure OkD (g : Dis) : Prop where
  p0 : 0 < g.1
  p1 : g.1 < g.2
  p2 : g.2 ≤ 6
/-- the rewards of a policy's walk -/
def rwd (t : Sys) (f : Pol) (p : Nat) : List Int := R7284d.Spec.rewardsBy t f (R7284d.Spec.statesBy t f 9 p)
def vpoly (t : Sys) (f : Pol) (p : Nat) : List Int := (((rwd t f p).set 6 ((rwd t f p).getD 6 0 - (rwd t f p).getD 0 0)).set 7 ((rwd t f p).getD 7 0 - (rwd t f p).getD 1 0)).set 8 ((rwd t f p).getD 8 0 - (rwd t f p).getD 2 0)
def wholeN (g : Dis) : Nat := g.2 ^ 8 - g.2 ^ 2 * g.1 ^ 6
def pvals (t : Sys) (g : Dis) (f : Pol) : List (Int × Int) := (List.range t.length).map fun p => rD (atF g.1 g.2 (vpoly t f p)) (wholeN g)
abbrev Rk := List (List Int)
abbrev rkD (r : Rk) : D := .lst (r.map fun l => iL l)
def isBest (rk : Rk) (rv : List Rk) : Bool := rv.all fun o => (List.zipWith (fun m i => !isLess m i) rk o).all id
def firstBest (ps : List Pol) (rv : List Rk) : Pol := (((ps.zip rv).find? fun q => isBest q.2 rv).map (·.1)).getD (ps.headD [])
def optRanks (t : Sys) (g : Dis) (f : Pol) : Rk := (List.range t.length).map fun p => [atF g.1 g.2 (vpoly t f p)]
def blaRanks (t : Sys) (f : Pol) : Rk := (List.range t.length).map fun p => aboutOne (vpoly t f p)
def myoRanks (t : Sys) (f : Pol) : Rk := (List.range t.length).map fun p => vpoly t f p
def pols (t : Sys) : List Pol := wordsL t.length
def optPol (t : Sys) (g : Dis) : Pol := firstBest (pols t) ((pols t).map (optRanks t g))
def blaPol (t : Sys) : Pol := firstBest (pols t) ((pols t).map (blaRanks t))
def myoPol (t : Sys) : Pol := firstBest (pols t) ((pols t).map (myoRanks t))
def rsums (t : Sys) (f : Pol) : List Int := (List.range t.length).map fun p => ((rwd t f p).drop 3).sum
def avgs (t : Sys) (f : Pol) : List (Int × Int) := (rsums t f).map fun s => rD s 6
def mx (i j : Int) : Int := if j > i then j else i
def maxSums (t : Sys) : List Int := (pols t).foldl (fun g f => List.zipWith mx g (rsums t f)) (rsums t ((pols t).headD []))
def maxAvgs (t : Sys) : List (Int × Int) := (maxSums t).map fun s => rD s 6
/-! ### promises -/
def p_all_policies : List D → (D → Prop) → Prop := fun ds Q => ∃ n : Nat, ds = [.int n] ∧ n ≤ 3 ∧ Q (.lst ((wordsL n).map fun w => eW w))
def p_first_rewards : List D → (D → Prop) → Prop := fun ds Q => ∃ (t : Sys) (f : Pol) (p : Nat), ds = [encSys t, eW f, .int p] ∧ OkS t ∧ OkP t.length f ∧ p < t.length ∧ Q (iL (rwd t f p))
def p_value_polynomial : List D → (D → Prop) → Prop := fun ds Q => ∃ (t : Sys) (f : Pol) (p : Nat), ds = [encSys t, eW f, .int p] ∧ OkS t ∧ OkP t.length f ∧ p < t.length ∧ Q (iL (vpoly t f p))
def p_value_polynomials : List D → (D → Prop) → Prop := fun ds Q => ∃ (t : Sys) (f : Pol), ds = [encSys t, eW f] ∧ OkS t ∧ OkP t.length f ∧ Q (rkD (myoRanks t f))
def p_policy_values : List D → (D → Prop) → Prop := fun ds Q => ∃ (t : Sys) (g : Dis) (f : Pol), ds = [encSys t, encDis g, eW f] ∧ OkS t ∧ OkD g ∧ OkP t.length f ∧ Q (.lst ((pvals t g f).map fD))
def p_is_best : List D → (D → Prop) → Prop := fun ds Q => ∃ (rk : Rk) (rv : List Rk), ds = [rkD rk, .lst (rv.map fun o => rkD o)] ∧ Q (.bl (isBest rk rv))
def p_first_best : List D → (D → Prop) → Prop := fun ds Q => ∃ (ps : List Pol) (rv : List Rk), ds = [.lst (ps.map fun w => eW w), .lst (rv.map fun o => rkD o)] ∧ ps ≠ [] ∧ ps.length = rv.length ∧ Q (eW (firstBest ps rv))
def p_optimal_policy : List D → (D → Prop) → Prop := fun ds Q => ∃ (t : Sys) (g : Dis), ds = [encSys t, encDis g] ∧ OkS t ∧ OkD g ∧ Q (eW (optPol t g))
def p_blackwell_policy : List D → (D → Prop) → Prop := fun ds Q => ∃ t : Sys, ds = [encSys t] ∧ OkS t ∧ Q (eW (blaPol t))
def p_myopic_policy : List D → (D → Prop) → Prop := fun ds Q => ∃ t : Sys, ds = [encSys t] ∧ OkS t ∧ Q (eW (myoPol t))
def p_round_sums : List D → (D → Prop) → Prop := fun ds Q => ∃ (t : Sys) (f : Pol), ds = [encSys t, eW f] ∧ OkS t ∧ OkP t.length f ∧ Q (iL (rsums t f))
def p_average_rewards : List D → (D → Prop) → Prop := fun ds Q => ∃ (t : Sys) (f : Pol), ds = [encSys t, eW f] ∧ OkS t ∧ OkP t.length f ∧ Q (.lst ((avgs t f).map fD))
def p_most_average_rewards : List D → (D → Prop) → Prop := fun ds Q => ∃ t : Sys, ds = [encSys t] ∧ OkS t ∧ Q (.lst ((maxAvgs t).map fD))
def rd_all_policies : AS :=
  (sSeq (sAsg (aLst (aCons (aLst aNil) aNil)) (gNm 1))
    (sSeq (sFor (iRng1A (aVar 0)) (gNm 2) (sSeq (sAsg (aLstO aNil) (gNm 3))
    (sSeq (sFor (iListA (aVar 1)) (gNm 4) (sSeq (sApp (aVar 3) (aOp oAdd (aVar 4) (aLst (aCons (aC (.int 0)) aNil))))
    (sApp (aVar 3) (aOp oAdd (aVar 4) (aLst (aCons (aC (.int 1)) aNil))))))
    (sAsg (aFrz (aVar 3)) (gNm 1)))))
    (sRet (aVar 1))))
theorem dv_all_policies {P : Program} {w : World} {K : PySem.W.Frag} {mg : Str → Option Value} {base : Heap} (T : Tx K mg) : Rds P w K mg base ["many", "policies", "k", "longer", "policy"] "all_policies" (defScope s_all_policies) (He.ga K "all_policies") (defBody s_all_policies) 0 (rd_all_policies) := by
  intro cdv A outer s H E hr
  exact (dss_cons (ds_set 1 sc_all_policies.nd (de_lst (da_cons (de_lst da_nil) da_nil)))
    (dss_cons (ds_for PassesOwn.never (di_rng1 T.b_range (de_var 0)) (dg_nm 2 sc_all_policies.nd) (dss_cons (ds_set 3 sc_all_policies.nd (de_lstO da_nil))
    (dss_cons (ds_for PassesOwn.never (di_list (de_var 1)) (dg_nm 4 sc_all_policies.nd) (dss_cons (ds_app (de_var 3) (de_add (de_var 4) (de_lst (da_cons (de_int) da_nil))))
    (dss_one (ds_app (de_var 3) (de_add (de_var 4) (de_lst (da_cons (de_int) da_nil)))))))
    (dss_one (ds_set 1 sc_all_policies.nd (de_frz (de_var 3)))))))
    (dss_one (ds_ret (de_var 1)))))
def rd_first_rewards : AS :=
  (sSeq (sAsg (aLstO aNil) (gNm 3))
    (sSeq (sAsg (aVar 2) (gNm 4))
    (sSeq (sFor (iRng1A (aOp oAdd (aC (.int 3)) (aC (.int 6)))) (gNm 5) (sSeq (sAsg (aOp oIx (aOp oIx (aVar 0) (aVar 4)) (aOp oIx (aVar 1) (aVar 4))) (gTp 2 (gC1 (gNm 6) (gC1 (gNm 7) gN0))))
    (sSeq (sApp (aVar 3) (aVar 7))
    (sAsg (aVar 6) (gNm 4)))))
    (sRet (aFrz (aVar 3))))))
theorem dv_first_rewards {P : Program} {w : World} {K : PySem.W.Frag} {mg : Str → Option Value} {base : Heap} (T : Tx K mg) : Rds P w K mg base ["system", "policy", "start", "rewards", "state", "k", "target", "reward"] "first_rewards" (defScope s_first_rewards) (He.ga K "first_rewards") (defBody s_first_rewards) 0 (rd_first_rewards) := by
  intro cdv A outer s H E hr
  exact (dss_cons (ds_set 3 sc_first_rewards.nd (de_lstO da_nil))
    (dss_cons (ds_set 4 sc_first_rewards.nd (de_var 2))
    (dss_cons (ds_for PassesOwn.never (di_rng1 T.b_range (de_add (de_gl T.i_LEAD) (de_gl T.i_ROUND))) (dg_nm 5 sc_first_rewards.nd) (dss_cons (ds_asg (de_ix (de_ix (de_var 0) (de_var 4)) (de_ix (de_var 1) (de_var 4))) (dg_tp (dgs_cons (dg_nm 6 sc_first_rewards.nd) (dgs_cons (dg_nm 7 sc_first_rewards.nd) dgs_nil))))
    (dss_cons (ds_app (de_var 3) (de_var 7))
    (dss_one (ds_set 4 sc_first_rewards.nd (de_var 6))))))
    (dss_one (ds_ret (de_frz (de_var 3)))))))
def rd_value_polynomial : AS :=
  (sSeq (sAsg (aCallP p_first_rewards (aCons (aVar 0) (aCons (aVar 1) (aCons (aVar 2) aNil)))) (gNm 3))
    (sSeq (sAsg (aListO (aVar 3)) (gNm 4))
    (sSeq (sFor (iRng1A (aC (.int 3))) (gNm 5) (sAsg (aOp oSub (aOp oIx (aVar 3) (aOp oAdd (aC (.int 6)) (aVar 5))) (aOp oIx (aVar 3) (aVar 5))) (gIx (aVar 4) (aOp oAdd (aC (.int 6)) (aVar 5)))))
    (sRet (aFrz (aVar 4))))))
theorem dv_value_polynomial {P : Program} {w : World} {K : PySem.W.Frag} {mg : Str → Option Value} {base : Heap} (T : Tx K mg)
    (F_first_rewards : Cal P w K mg base CX0 1 "first_rewards" ["system", "policy", "start"] (pureSp p_first_rewards)) : Rds P w K mg base ["system", "policy", "start", "rewards", "polynomial", "k"] "value_polynomial" (defScope s_value_polynomial) (He.ga K "value_polynomial") (defBody s_value_polynomial) 1 (rd_value_polynomial) := by
  intro cdv A outer s H E hr
  exact (dss_cons (ds_set 3 sc_value_polynomial.nd (de_callP F_first_rewards (hr.mono (by decide)) (da_cons (de_var 0) (da_cons (de_var 1) (da_cons (de_var 2) da_nil)))))
    (dss_cons (ds_set 4 sc_value_polynomial.nd (de_listO T.b_list (de_var 3)))
    (dss_cons (ds_for PassesOwn.never (di_rng1 T.b_range (de_gl T.i_LEAD)) (dg_nm 5 sc_value_polynomial.nd) (dss_one (ds_asg (de_sub (de_ix (de_var 3) (de_add (de_gl T.i_ROUND) (de_var 5))) (de_ix (de_var 3) (de_var 5))) (dg_ix (de_var 4) (de_add (de_gl T.i_ROUND) (de_var 5))))))
    (dss_one (ds_ret (de_frz (de_var 4)))))))
def rd_value_polynomials : AS :=
  (sRet (aLc (iRng1A (aCB cLen (aCons (aVar 0) aNil))) (gNm 2) aYes (aCallP p_value_polynomial (aCons (aVar 0) (aCons (aVar 1) (aCons (aVar 2) aNil)))) [2]))
theorem dv_value_polynomials {P : Program} {w : World} {K : PySem.W.Frag} {mg : Str → Option Value} {base : Heap} (T : Tx K mg)
    (F_value_polynomial : Cal P w K mg base CX0 2 "value_polynomial" ["system", "policy", "start"] (pureSp p_value_polynomial)) : Rds P w K mg base ["system", "policy", "state"] "value_polynomials" (defScope s_value_polynomials) (He.ga K "value_polynomials") (defBody s_value_polynomials) 2 (rd_value_polynomials) := by
  intro cdv A outer s H E hr
  exact (dss_one (ds_ret (de_lc [("state", 2)] 2 sc_value_polynomials.nd (blkOk_by (own := [("state", 2)]) (N := ["system", "policy", "state"]) (sc := defScope s_value_polynomials) (by decide +kernel)) (di_rng1 T.b_range (de_len T.b_len (de_var 0))) (fun _ _ _ _ _ => pg_name (i := 2) sc_value_polynomials.nd rfl (Or.inl rfl)) (fun _ _ _ _ _ => (de_callP F_value_polynomial (hr.mono (by decide)) (da_cons (de_var 0) (da_cons (de_var 1) (da_cons (de_var 2) da_nil))))))))
def rd_policy_values : AS :=
  (sSeq (sAsg (aVar 1) (gTp 2 (gC1 (gNm 3) (gC1 (gNm 4) gN0))))
    (sSeq (sAsg (aOp oSub (aOp oPow (aVar 4) (aC (.int 8))) (aOp oMul (aOp oPow (aVar 4) (aC (.int 2))) (aOp oPow (aVar 3) (aC (.int 6))))) (gNm 5))
    (sSeq (sAsg (aCallP p_value_polynomials (aCons (aVar 0) (aCons (aVar 2) aNil))) (gNm 6))
    (sRet (aLc (iListA (aVar 6)) (gNm 7) aYes (aCallP p_reduced (aCons (aCallP p_at_fraction (aCons (aVar 7) (aCons (aVar 3) (aCons (aVar 4) aNil)))) (aCons (aVar 5) aNil))) [7])))))
theorem dv_policy_values {P : Program} {w : World} {K : PySem.W.Frag} {mg : Str → Option Value} {base : Heap} (T : Tx K mg)
    (F_value_polynomials : Cal P w K mg base CX0 3 "value_polynomials" ["system", "policy"] (pureSp p_value_polynomials))
    (F_at_fraction : Cal P w K mg base CX0 1 "at_fraction" ["polynomial", "top", "bottom"] (pureSp p_at_fraction))
    (F_reduced : Cal P w K mg base CX0 2 "reduced" ["top", "bottom"] (pureSp p_reduced)) : Rds P w K mg base ["system", "discount", "policy", "top", "bottom", "whole", "polynomials", "polynomial"] "policy_values" (defScope s_policy_values) (He.ga K "policy_values") (defBody s_policy_values) 3 (rd_policy_values) := by
  intro cdv A outer s H E hr
  exact (dss_cons (ds_asg (de_var 1) (dg_tp (dgs_cons (dg_nm 3 sc_policy_values.nd) (dgs_cons (dg_nm 4 sc_policy_values.nd) dgs_nil))))
    (dss_cons (ds_set 5 sc_policy_values.nd (de_sub (de_pow (de_var 4) (de_int)) (de_mul (de_pow (de_var 4) (de_int)) (de_pow (de_var 3) (de_int)))))
    (dss_cons (ds_set 6 sc_policy_values.nd (de_callP F_value_polynomials (hr.mono (by decide)) (da_cons (de_var 0) (da_cons (de_var 2) da_nil))))
    (dss_one (ds_ret (de_lc [("polynomial", 7)] 7 sc_policy_values.nd (blkOk_by (own := [("polynomial", 7)]) (N := ["system", "discount", "policy", "top", "bottom", "whole", "polynomials", "polynomial"]) (sc := defScope s_policy_values) (by decide +kernel)) (di_list (de_var 6)) (fun _ _ _ _ _ => pg_name (i := 7) sc_policy_values.nd rfl (Or.inl rfl)) (fun _ _ _ _ _ => (de_callP F_reduced (hr.mono (by decide)) (da_cons (de_callP F_at_fraction (hr.mono (by decide)) (da_cons (de_var 7) (da_cons (de_var 3) (da_cons (de_var 4) da_nil)))) (da_cons (de_var 5) da_nil))))))))))
def rd_is_best : AS :=
  (sSeq (sFor (iListA (aVar 1)) (gNm 2) (sFor (iZipA (aVar 0) (aVar 2)) (gTp 2 (gC1 (gNm 3) (gC1 (gNm 4) gN0))) (sIf (aB (aCallP p_is_less (aCons (aVar 3) (aCons (aVar 4) aNil)))) (sRet (aC (.bl false))) sNext)))
    (sRet (aC (.bl true))))
theorem dv_is_best {P : Program} {w : World} {K : PySem.W.Frag} {mg : Str → Option Value} {base : Heap} (T : Tx K mg)
    (F_is_less : Cal P w K mg base CX0 1 "is_less" ["one", "other"] (pureSp p_is_less)) : Rds P w K mg base ["ranks", "rivals", "others", "mine", "its"] "is_best" (defScope s_is_best) (He.ga K "is_best") (defBody s_is_best) 1 (rd_is_best) := by
  intro cdv A outer s H E hr
  exact (dss_cons (ds_for PassesOwn.never (di_list (de_var 1)) (dg_nm 2 sc_is_best.nd) (dss_one (ds_for PassesOwn.never (di_zip T.b_zip (de_var 0) (de_var 2)) (dg_tp (dgs_cons (dg_nm 3 sc_is_best.nd) (dgs_cons (dg_nm 4 sc_is_best.nd) dgs_nil))) (dss_one (ds_if (dt_of (de_callP F_is_less (hr.mono (by decide)) (da_cons (de_var 3) (da_cons (de_var 4) da_nil)))) (dss_one (ds_ret (de_bl))) dss_nil)))))
    (dss_one (ds_ret (de_bl))))
def rd_first_best : AS :=
  (sSeq (sFor (iZipA (aVar 0) (aVar 1)) (gTp 2 (gC1 (gNm 2) (gC1 (gNm 3) gN0))) (sIf (aB (aCallP p_is_best (aCons (aVar 3) (aCons (aVar 1) aNil)))) (sRet (aVar 2)) sNext))
    (sRet (aOp oIx (aVar 0) (aC (.int 0)))))
theorem dv_first_best {P : Program} {w : World} {K : PySem.W.Frag} {mg : Str → Option Value} {base : Heap} (T : Tx K mg)
    (F_is_best : Cal P w K mg base CX0 2 "is_best" ["ranks", "rivals"] (pureSp p_is_best)) : Rds P w K mg base ["policies", "rivals", "policy", "ranks"] "first_best" (defScope s_first_best) (He.ga K "first_best") (defBody s_first_best) 2 (rd_first_best) := by
  intro cdv A outer s H E hr
  exact (dss_cons (ds_for PassesOwn.never (di_zip T.b_zip (de_var 0) (de_var 1)) (dg_tp (dgs_cons (dg_nm 2 sc_first_best.nd) (dgs_cons (dg_nm 3 sc_first_best.nd) dgs_nil))) (dss_one (ds_if (dt_of (de_callP F_is_best (hr.mono (by decide)) (da_cons (de_var 3) (da_cons (de_var 1) da_nil)))) (dss_one (ds_ret (de_var 2))) dss_nil)))
    (dss_one (ds_ret (de_ix (de_var 0) (de_int)))))
def rd_optimal_policy : AS :=
  (sSeq (sAsg (aVar 1) (gTp 2 (gC1 (gNm 2) (gC1 (gNm 3) gN0))))
    (sSeq (sAsg (aCallP p_all_policies (aCons (aCB cLen (aCons (aVar 0) aNil)) aNil)) (gNm 4))
    (sSeq (sAsg (aLstO aNil) (gNm 5))
    (sSeq (sFor (iListA (aVar 4)) (gNm 6) (sSeq (sAsg (aCallP p_value_polynomials (aCons (aVar 0) (aCons (aVar 6) aNil))) (gNm 7))
    (sApp (aVar 5) (aLc (iListA (aVar 7)) (gNm 8) aYes (aLst (aCons (aCallP p_at_fraction (aCons (aVar 8) (aCons (aVar 2) (aCons (aVar 3) aNil)))) aNil)) [8]))))
    (sRet (aCallP p_first_best (aCons (aVar 4) (aCons (aFrz (aVar 5)) aNil))))))))
theorem dv_optimal_policy {P : Program} {w : World} {K : PySem.W.Frag} {mg : Str → Option Value} {base : Heap} (T : Tx K mg)
    (F_all_policies : Cal P w K mg base CX0 1 "all_policies" ["many"] (pureSp p_all_policies))
    (F_value_polynomials : Cal P w K mg base CX0 3 "value_polynomials" ["system", "policy"] (pureSp p_value_polynomials))
    (F_at_fraction : Cal P w K mg base CX0 1 "at_fraction" ["polynomial", "top", "bottom"] (pureSp p_at_fraction))
    (F_first_best : Cal P w K mg base CX0 3 "first_best" ["policies", "rivals"] (pureSp p_first_best)) : Rds P w K mg base ["system", "discount", "top", "bottom", "policies", "rivals", "policy", "polynomials", "polynomial"] "optimal_policy" (defScope s_optimal_policy) (He.ga K "optimal_policy") (defBody s_optimal_policy) 3 (rd_optimal_policy) := by
  intro cdv A outer s H E hr
  exact (dss_cons (ds_asg (de_var 1) (dg_tp (dgs_cons (dg_nm 2 sc_optimal_policy.nd) (dgs_cons (dg_nm 3 sc_optimal_policy.nd) dgs_nil))))
    (dss_cons (ds_set 4 sc_optimal_policy.nd (de_callP F_all_policies (hr.mono (by decide)) (da_cons (de_len T.b_len (de_var 0)) da_nil)))
    (dss_cons (ds_set 5 sc_optimal_policy.nd (de_lstO da_nil))
    (dss_cons (ds_for PassesOwn.never (di_list (de_var 4)) (dg_nm 6 sc_optimal_policy.nd) (dss_cons (ds_set 7 sc_optimal_policy.nd (de_callP F_value_polynomials (hr.mono (by decide)) (da_cons (de_var 0) (da_cons (de_var 6) da_nil))))
    (dss_one (ds_app (de_var 5) (de_lc [("polynomial", 8)] 8 sc_optimal_policy.nd (blkOk_by (own := [("polynomial", 8)]) (N := ["system", "discount", "top", "bottom", "policies", "rivals", "policy", "polynomials", "polynomial"]) (sc := defScope s_optimal_policy) (by decide +kernel)) (di_list (de_var 7)) (fun _ _ _ _ _ => pg_name (i := 8) sc_optimal_policy.nd rfl (Or.inl rfl)) (fun _ _ _ _ _ => (de_lst (da_cons (de_callP F_at_fraction (hr.mono (by decide)) (da_cons (de_var 8) (da_cons (de_var 2) (da_cons (de_var 3) da_nil)))) da_nil))))))))
    (dss_one (ds_ret (de_callP F_first_best (hr.mono (by decide)) (da_cons (de_var 4) (da_cons (de_frz (de_var 5)) da_nil)))))))))
def rd_blackwell_policy : AS :=
  (sSeq (sAsg (aCallP p_all_policies (aCons (aCB cLen (aCons (aVar 0) aNil)) aNil)) (gNm 1))
    (sSeq (sAsg (aLstO aNil) (gNm 2))
    (sSeq (sFor (iListA (aVar 1)) (gNm 3) (sApp (aVar 2) (aLc (iListA (aCallP p_value_polynomials (aCons (aVar 0) (aCons (aVar 3) aNil)))) (gNm 4) aYes (aCallP p_about_one (aCons (aVar 4) aNil)) [4])))
    (sRet (aCallP p_first_best (aCons (aVar 1) (aCons (aFrz (aVar 2)) aNil)))))))
theorem dv_blackwell_policy {P : Program} {w : World} {K : PySem.W.Frag} {mg : Str → Option Value} {base : Heap} (T : Tx K mg)
    (F_all_policies : Cal P w K mg base CX0 1 "all_policies" ["many"] (pureSp p_all_policies))
    (F_value_polynomials : Cal P w K mg base CX0 3 "value_polynomials" ["system", "policy"] (pureSp p_value_polynomials))
    (F_about_one : Cal P w K mg base CX0 2 "about_one" ["polynomial"] (pureSp p_about_one))
    (F_first_best : Cal P w K mg base CX0 3 "first_best" ["policies", "rivals"] (pureSp p_first_best)) : Rds P w K mg base ["system", "policies", "rivals", "policy", "polynomial"] "blackwell_policy" (defScope s_blackwell_policy) (He.ga K "blackwell_policy") (defBody s_blackwell_policy) 3 (rd_blackwell_policy) := by
  intro cdv A outer s H E hr
  exact (dss_cons (ds_set 1 sc_blackwell_policy.nd (de_callP F_all_policies (hr.mono (by decide)) (da_cons (de_len T.b_len (de_var 0)) da_nil)))
    (dss_cons (ds_set 2 sc_blackwell_policy.nd (de_lstO da_nil))
    (dss_cons (ds_for PassesOwn.never (di_list (de_var 1)) (dg_nm 3 sc_blackwell_policy.nd) (dss_one (ds_app (de_var 2) (de_lc [("polynomial", 4)] 4 sc_blackwell_policy.nd (blkOk_by (own := [("polynomial", 4)]) (N := ["system", "policies", "rivals", "policy", "polynomial"]) (sc := defScope s_blackwell_policy) (by decide +kernel)) (di_list (de_callP F_value_polynomials (hr.mono (by decide)) (da_cons (de_var 0) (da_cons (de_var 3) da_nil)))) (fun _ _ _ _ _ => pg_name (i := 4) sc_blackwell_policy.nd rfl (Or.inl rfl)) (fun _ _ _ _ _ => (de_callP F_about_one (hr.mono (by decide)) (da_cons (de_var 4) da_nil)))))))
    (dss_one (ds_ret (de_callP F_first_best (hr.mono (by decide)) (da_cons (de_var 1) (da_cons (de_frz (de_var 2)) da_nil))))))))
def rd_myopic_policy : AS :=
  (sSeq (sAsg (aCallP p_all_policies (aCons (aCB cLen (aCons (aVar 0) aNil)) aNil)) (gNm 1))
    (sSeq (sAsg (aLc (iListA (aVar 1)) (gNm 3) aYes (aCallP p_value_polynomials (aCons (aVar 0) (aCons (aVar 3) aNil))) [3]) (gNm 2))
    (sRet (aCallP p_first_best (aCons (aVar 1) (aCons (aVar 2) aNil))))))
theorem dv_myopic_policy {P : Program} {w : World} {K : PySem.W.Frag} {mg : Str → Option Value} {base : Heap} (T : Tx K mg)
    (F_all_policies : Cal P w K mg base CX0 1 "all_policies" ["many"] (pureSp p_all_policies))
    (F_value_polynomials : Cal P w K mg base CX0 3 "value_polynomials" ["system", "policy"] (pureSp p_value_polynomials))
    (F_first_best : Cal P w K mg base CX0 3 "first_best" ["policies", "rivals"] (pureSp p_first_best)) : Rds P w K mg base ["system", "policies", "rivals", "policy"] "myopic_policy" (defScope s_myopic_policy) (He.ga K "myopic_policy") (defBody s_myopic_policy) 3 (rd_myopic_policy) := by
  intro cdv A outer s H E hr
  exact (dss_cons (ds_set 1 sc_myopic_policy.nd (de_callP F_all_policies (hr.mono (by decide)) (da_cons (de_len T.b_len (de_var 0)) da_nil)))
    (dss_cons (ds_setLc 2 [("policy", 3)] 3 sc_myopic_policy.nd rfl (sw_true rfl rfl rfl (by decide +kernel)) (blkOk_by (own := [("policy", 3)]) (N := ["system", "policies", "rivals", "policy"]) (sc := defScope s_myopic_policy) (by decide +kernel)) (di_list (de_var 1)) (fun _ _ _ _ _ => pg_name (i := 3) sc_myopic_policy.nd rfl (Or.inl rfl)) (fun _ _ _ _ _ => (de_callP F_value_polynomials (hr.mono (by decide)) (da_cons (de_var 0) (da_cons (de_var 3) da_nil)))))
    (dss_one (ds_ret (de_callP F_first_best (hr.mono (by decide)) (da_cons (de_var 1) (da_cons (de_var 2) da_nil)))))))
def rd_round_sums : AS :=
  (sRet (aLc (iRng1A (aCB cLen (aCons (aVar 0) aNil))) (gNm 2) aYes (aCB cSum (aCons (aSl (aCallP p_first_rewards (aCons (aVar 0) (aCons (aVar 1) (aCons (aVar 2) aNil)))) (aPart (aC (.int 3))) aNoP) aNil)) [2]))
theorem dv_round_sums {P : Program} {w : World} {K : PySem.W.Frag} {mg : Str → Option Value} {base : Heap} (T : Tx K mg)
    (F_first_rewards : Cal P w K mg base CX0 1 "first_rewards" ["system", "policy", "start"] (pureSp p_first_rewards)) : Rds P w K mg base ["system", "policy", "state"] "round_sums" (defScope s_round_sums) (He.ga K "round_sums") (defBody s_round_sums) 1 (rd_round_sums) := by
  intro cdv A outer s H E hr
  exact (dss_one (ds_ret (de_lc [("state", 2)] 2 sc_round_sums.nd (blkOk_by (own := [("state", 2)]) (N := ["system", "policy", "state"]) (sc := defScope s_round_sums) (by decide +kernel)) (di_rng1 T.b_range (de_len T.b_len (de_var 0))) (fun _ _ _ _ _ => pg_name (i := 2) sc_round_sums.nd rfl (Or.inl rfl)) (fun _ _ _ _ _ => (de_sum T.b_sum (de_sl (de_callP F_first_rewards (hr.mono (by decide)) (da_cons (de_var 0) (da_cons (de_var 1) (da_cons (de_var 2) da_nil)))) (do_at (de_gl T.i_LEAD)) do_no))))))
def rd_average_rewards : AS :=
  (sRet (aLc (iListA (aCallP p_round_sums (aCons (aVar 0) (aCons (aVar 1) aNil)))) (gNm 2) aYes (aCallP p_reduced (aCons (aVar 2) (aCons (aC (.int 6)) aNil))) [2]))
theorem dv_average_rewards {P : Program} {w : World} {K : PySem.W.Frag} {mg : Str → Option Value} {base : Heap} (T : Tx K mg)
    (F_round_sums : Cal P w K mg base CX0 2 "round_sums" ["system", "policy"] (pureSp p_round_sums))
    (F_reduced : Cal P w K mg base CX0 2 "reduced" ["top", "bottom"] (pureSp p_reduced)) : Rds P w K mg base ["system", "policy", "total"] "average_rewards" (defScope s_average_rewards) (He.ga K "average_rewards") (defBody s_average_rewards) 2 (rd_average_rewards) := by
  intro cdv A outer s H E hr
  exact (dss_one (ds_ret (de_lc [("total", 2)] 2 sc_average_rewards.nd (blkOk_by (own := [("total", 2)]) (N := ["system", "policy", "total"]) (sc := defScope s_average_rewards) (by decide +kernel)) (di_list (de_callP F_round_sums (hr.mono (by decide)) (da_cons (de_var 0) (da_cons (de_var 1) da_nil)))) (fun _ _ _ _ _ => pg_name (i := 2) sc_average_rewards.nd rfl (Or.inl rfl)) (fun _ _ _ _ _ => (de_callP F_reduced (hr.mono (by decide)) (da_cons (de_var 2) (da_cons (de_gl T.i_ROUND) da_nil)))))))
def rd_most_average_rewards : AS :=
  (sSeq (sAsg (aCallP p_all_policies (aCons (aCB cLen (aCons (aVar 0) aNil)) aNil)) (gNm 1))
    (sSeq (sAsg (aCallP p_round_sums (aCons (aVar 0) (aCons (aOp oIx (aVar 1) (aC (.int 0))) aNil))) (gNm 2))
    (sSeq (sFor (iListA (aVar 1)) (gNm 3) (sSeq (sAsg (aCallP p_round_sums (aCons (aVar 0) (aCons (aVar 3) aNil))) (gNm 4))
    (sAsg (aLc (iZipA (aVar 2) (aVar 4)) (gTp 2 (gC1 (gNm 6) (gC1 (gNm 5) gN0))) aYes (aCB cMax (aCons (aVar 6) (aCons (aVar 5) aNil))) [6, 5]) (gNm 2))))
    (sRet (aLc (iListA (aVar 2)) (gNm 5) aYes (aCallP p_reduced (aCons (aVar 5) (aCons (aC (.int 6)) aNil))) [5])))))
theorem dv_most_average_rewards {P : Program} {w : World} {K : PySem.W.Frag} {mg : Str → Option Value} {base : Heap} (T : Tx K mg)
    (F_all_policies : Cal P w K mg base CX0 1 "all_policies" ["many"] (pureSp p_all_policies))
    (F_round_sums : Cal P w K mg base CX0 2 "round_sums" ["system", "policy"] (pureSp p_round_sums))
    (F_reduced : Cal P w K mg base CX0 2 "reduced" ["top", "bottom"] (pureSp p_reduced)) : Rds P w K mg base ["system", "policies", "greatest", "policy", "totals", "total", "so_far"] "most_average_rewards" (defScope s_most_average_rewards) (He.ga K "most_average_rewards") (defBody s_most_average_rewards) 2 (rd_most_average_rewards) := by
  intro cdv A outer s H E hr
  exact (dss_cons (ds_set 1 sc_most_average_rewards.nd (de_callP F_all_policies (hr.mono (by decide)) (da_cons (de_len T.b_len (de_var 0)) da_nil)))
    (dss_cons (ds_set 2 sc_most_average_rewards.nd (de_callP F_round_sums (hr.mono (by decide)) (da_cons (de_var 0) (da_cons (de_ix (de_var 1) (de_int)) da_nil))))
    (dss_cons (ds_for PassesOwn.never (di_list (de_var 1)) (dg_nm 3 sc_most_average_rewards.nd) (dss_cons (ds_set 4 sc_most_average_rewards.nd (de_callP F_round_sums (hr.mono (by decide)) (da_cons (de_var 0) (da_cons (de_var 3) da_nil))))
    (dss_one (ds_setLc2 2 [("so_far", 6), ("total", 5)] 6 5 sc_most_average_rewards.nd rfl (sw_true rfl rfl rfl (by decide +kernel)) (blkOk_by (own := [("so_far", 6), ("total", 5)]) (N := ["system", "policies", "greatest", "policy", "totals", "total", "so_far"]) (sc := defScope s_most_average_rewards) (by decide +kernel)) (di_zip T.b_zip (de_var 2) (de_var 4)) (fun _ _ _ _ _ => pg_tup rfl (pgs_cons (pg_name (i := 6) sc_most_average_rewards.nd rfl (Or.inl rfl)) (pgs_cons (pg_name (i := 5) sc_most_average_rewards.nd rfl (Or.inl rfl)) pgs_nil))) (fun _ _ _ _ _ => (de_max T.b_max (de_var 6) (de_var 5)))))))
    (dss_one (ds_ret (de_lc [("total", 5)] 5 sc_most_average_rewards.nd (blkOk_by (own := [("total", 5)]) (N := ["system", "policies", "greatest", "policy", "totals", "total", "so_far"]) (sc := defScope s_most_average_rewards) (by decide +kernel)) (di_list (de_var 2)) (fun _ _ _ _ _ => pg_name (i := 5) sc_most_average_rewards.nd rfl (Or.inl rfl)) (fun _ _ _ _ _ => (de_callP F_reduced (hr.mono (by decide)) (da_cons (de_var 5) (da_cons (de_gl T.i_ROUND) da_nil))))))))))
/-! ### words of a length -/
theorem words_ok : ∀ (n : Nat) (w : Pol), w ∈ wordsL n → OkP n w
  | 0, w, h => by
    have : w = [] := by simpa [R7284d.Spec.wordsOfLength] using h
    subst this
    exact ⟨rfl, fun c hc => nomatch hc⟩
  | n + 1, w, h => by
    have h' : w ∈ (wordsL n).flatMap fun w => R7284d.Spec.letters.map fun c => w ++ [c] := h
    rw [List.mem_flatMap] at h'
    obtain ⟨v, hv, hw⟩ := h'
    have ih := words_ok n v hv
    simp [R7284d.Spec.letters] at hw
    rcases hw with rfl | rfl
    · exact ⟨by simp [ih.len], fun c hc => by
        rcases List.mem_append.mp hc with z | z
        · exact ih.two c z
        · simp at z; omega⟩
    · exact ⟨by simp [ih.len], fun c hc => by
        rcases List.mem_append.mp hc with z | z
        · exact ih.two c z
        · simp at z; omega⟩
theorem words_length : ∀ n, (wordsL n).length = 2 ^ n
  | 0 => rfl
  | n + 1 => by
    show ((wordsL n).flatMap fun w => R7284d.Spec.letters.map fun c => w ++ [c]).length = _
    rw [List.length_flatMap, Nat.pow_succ, ← words_length n]
    simp [R7284d.Spec.letters, List.map_const', List.sum_replicate_nat]
theorem words_succ (n : Nat) : wordsL (n + 1) = (wordsL n).flatMap fun w => [w ++ [0], w ++ [1]] := rfl
theorem all_policies_inner {A : AEnds} (o0 o1 o2 : Option D) (p : Addr) : ∀ (ws acc : List Pol) (k : Option D), acc.length + ws.length * 2 ≤ 1000 → (∀ w ∈ ws, w.length ≤ 100) → (∀ k', A.nx [o0, o1, o2, some (.adr p), k'] [(p, .lst ((acc ++ ws.flatMap fun w => [w ++ [0], w ++ [1]]).map fun w => eW w))]) →
    forD (gNm 4) (sSeq (sApp (aVar 3) (aOp oAdd (aVar 4) (aLst (aCons (aC (.int 0)) aNil)))) (sApp (aVar 3) (aOp oAdd (aVar 4) (aLst (aCons (aC (.int 1)) aNil))))) A (ws.map fun w => eW w) [o0, o1, o2, some (.adr p), k] [(p, .lst (acc.map fun w => eW w))]
  | [], acc, k, _, _, h => by simpa using h k
  | w :: ws, acc, k, hl, hw, h => by
    have wl := hw w List.mem_cons_self
    simp
    refine ⟨by omega, _, _, ⟨rfl, rfl⟩, by simp at hl ⊢; omega, by omega, _, _, .refl _, by simp at hl ⊢; omega, ?_⟩
    have := all_policies_inner o0 o1 o2 p ws (acc ++ [w ++ [0], w ++ [1]]) (some (eW w)) (by simp at hl ⊢; omega) (fun w' h' => hw w' (List.mem_cons_of_mem _ h')) fun k' => by simpa [eW] using h k'
    simpa [eW] using this
theorem keep_all_policies : Keeps ["many", "policies", "k", "longer", "policy"] (pureSp p_all_policies) rd_all_policies := by
  rintro ds W AQ AX ⟨rfl, n, rfl, hn, hQ⟩
  simp [rd_all_policies]
  refine ⟨by omega, ?_⟩
  have key : ∀ (m j : Nat) (ks : List D) (k l q : Option D), j + m = n → ks.length = m → forD (gNm 2) (sSeq (sAsg (aLstO aNil) (gNm 3))
      (sSeq (sFor (iListA (aVar 1)) (gNm 4) (sSeq (sApp (aVar 3) (aOp oAdd (aVar 4) (aLst (aCons (aC (.int 0)) aNil))))
      (sApp (aVar 3) (aOp oAdd (aVar 4) (aLst (aCons (aC (.int 1)) aNil))))))
      (sAsg (aFrz (aVar 3)) (gNm 1)))) { nx := sRet (aVar 1) { nx := fun x W' => AQ D.non W', rt := AQ }, rt := AQ } ks [some (.int n), some (.lst ((wordsL j).map fun w => eW w)), k, l, q] [] := by
    intro m
    induction m with
    | zero =>
      intro j ks k l q hj hk
      have e1 : ks = [] := List.eq_nil_of_length_eq_zero hk
      have e2 : j = n := by omega
      subst e1 e2
      simpa using hQ
    | succ m ih =>
      intro j ks k l q hj hk
      cases ks with
      | nil => simp at hk
      | cons d ks =>
        simp
        intro p hp
        have lw := words_length j
        have l8 : 2 ^ j ≤ 2 ^ 3 := Nat.pow_le_pow_right (by decide) (by omega)
        refine all_policies_inner _ _ _ p (wordsL j) [] q (by simp only [List.length_nil]; omega) (fun w hw => by rw [(words_ok j w hw).len]; omega) fun q' => ?_
        simp
        refine ⟨_, _, ⟨rfl, rfl⟩, ?_⟩
        have := ih (j + 1) ks (some d) (some (.adr p)) q' (by omega) (by simpa using hk)
        rw [words_succ] at this
        simpa [eW] using this
  have := key n 0 ((List.range n).map fun i => D.int (i : Nat)) none none none (by omega) (by simp)
  simpa [R7284d.Spec.wordsOfLength, eW] using this
end Dsn
end

section
set_option maxHeartbeats 4000000
/-! # Policies: the walks -/
namespace Dsn
open PySem PySem.Spec PyProof.Rows L2 Hd
theorem sys_at {t : Sys} {f : Pol} (hs : OkS t) (hf : OkP t.length f) {s : Nat} (h : s < t.length) : ∃ e c, t[s]? = some e ∧ f[s]? = some c ∧ (c = 0 ∨ c = 1) ∧ f.getD s 0 = c ∧ R7284d.Spec.transitionAt t s 0 = e.1 ∧ R7284d.Spec.transitionAt t s 1 = e.2 ∧ e.1.1 < t.length ∧ e.2.1 < t.length := by
  have h2 : s < f.length := by rw [hf.len]; exact h
  have hc := hf.two f[s] (List.getElem_mem h2)
  have he := hs.tg t[s] (List.getElem_mem h)
  refine ⟨t[s], f[s], by simp [h], by simp [h2], by omega, by simp [h2], ?_, ?_, he.1, he.2⟩
  · simp [R7284d.Spec.transitionAt, h]
  · simp [R7284d.Spec.transitionAt, h]
theorem first_rewards_loop {A : AEnds} {t : Sys} {f : Pol} (hs : OkS t) (hf : OkP t.length f) (o2 : Option D) (ad : Addr) : ∀ (ks : List D) (acc : List Int) (s : Nat) (k tg rw : Option D), s < t.length → acc.length + ks.length ≤ 1000 →
    (∀ x k' tg' rw', A.nx [some (encSys t), some (eW f), o2, some (.adr ad), x, k', tg', rw'] [(ad, .lst ((acc ++ R7284d.Spec.rewardsBy t f (R7284d.Spec.statesBy t f ks.length s)).map D.int))]) →
    forD (gNm 5) (sSeq (sAsg (aOp oIx (aOp oIx (aVar 0) (aVar 4)) (aOp oIx (aVar 1) (aVar 4))) (gTp 2 (gC1 (gNm 6) (gC1 (gNm 7) gN0))))
      (sSeq (sApp (aVar 3) (aVar 7)) (sAsg (aVar 6) (gNm 4)))) A ks [some (encSys t), some (eW f), o2, some (.adr ad), some (.int s), k, tg, rw] [(ad, .lst (acc.map D.int))]
  | [], acc, s, k, tg, rw, _, _, h => by simpa [R7284d.Spec.statesBy, R7284d.Spec.rewardsBy] using h (some (.int s)) k tg rw
  | d :: ks, acc, s, k, tg, rw, h1, hl, h => by
    obtain ⟨e, c, e1, e2, hc, gd, t0, t1, b0, b1⟩ := sys_at hs hf h1
    have go : ∀ (tr : Nat × Int) , R7284d.Spec.transitionAt t s c = tr → tr.1 < t.length → ∀ k' tg' rw', forD (gNm 5) (sSeq (sAsg (aOp oIx (aOp oIx (aVar 0) (aVar 4)) (aOp oIx (aVar 1) (aVar 4))) (gTp 2 (gC1 (gNm 6) (gC1 (gNm 7) gN0)))) (sSeq (sApp (aVar 3) (aVar 7)) (sAsg (aVar 6) (gNm 4)))) A ks [some (encSys t), some (eW f), o2, some (.adr ad), some (.int tr.1), k', tg', rw'] [(ad, .lst ((acc ++ [tr.2]).map D.int))] := by
      intro tr htr hlt k' tg' rw'
      refine first_rewards_loop hs hf o2 ad ks (acc ++ [tr.2]) tr.1 k' tg' rw' hlt (by simp at hl ⊢; omega) fun x k'' tg'' rw'' => ?_
      have := h x k'' tg'' rw''
      simpa [R7284d.Spec.statesBy, R7284d.Spec.rewardsBy, R7284d.Spec.rewardOf, R7284d.Spec.successor, htr, e2, gd] using this
    have la : (acc.map D.int).length < 16000000 := by simp at hl ⊢; omega
    rcases hc with rfl | rfl
    · simp [encSys, eW, e1, e2]
      refine ⟨_, _, ⟨rfl, rfl⟩, la, ?_⟩
      have := go e.1 t0 b0 (some d) (some (.int e.1.1)) (some (.int e.1.2))
      simpa [encSys, eW] using this
    · simp [encSys, eW, e1, e2]
      refine ⟨_, _, ⟨rfl, rfl⟩, la, ?_⟩
      have := go e.2 t1 b1 (some d) (some (.int e.2.1)) (some (.int e.2.2))
      simpa [encSys, eW] using this
theorem keep_first_rewards : Keeps ["system", "policy", "start", "rewards", "state", "k", "target", "reward"] (pureSp p_first_rewards) rd_first_rewards := by
  rintro ds W AQ AX ⟨rfl, t, f, p, rfl, hs, hf, hp, hQ⟩
  simp [rd_first_rewards]
  intro ad had
  have := first_rewards_loop (A := ⟨sRet (aFrz (aVar 3)) { nx := fun x W' => AQ D.non W', rt := AQ }, AQ, fun _ _ => False, fun _ _ => False⟩) hs hf (some (.int p)) ad ((List.range 9).map fun (k : Nat) => D.int k) [] p none none none hp (by simp) fun x k' tg' rw' => by
    simp
    exact ⟨_, _, ⟨rfl, rfl⟩, by simpa [rwd, iL] using hQ⟩
  simp [encSys, eW] at this
  exact this
theorem states_length (t : Sys) (f : Pol) : ∀ n p, (R7284d.Spec.statesBy t f n p).length = n
  | 0, _ => rfl
  | n + 1, p => congrArg (· + 1) (states_length t f n _)
theorem rwd_length (t : Sys) (f : Pol) (p : Nat) : (rwd t f p).length = 9 := by
  simp [rwd, R7284d.Spec.rewardsBy, states_length]
theorem vpoly_length (t : Sys) (f : Pol) (p : Nat) : (vpoly t f p).length = 9 := by
  simp [vpoly, rwd_length]
theorem nine {l : List Int} (h : l.length = 9) : ∃ a b c d e f g i j, l = [a, b, c, d, e, f, g, i, j] := by
  match l, h with
  | [a, b, c, d, e, f, g, i, j], _ => exact ⟨a, b, c, d, e, f, g, i, j, rfl⟩
theorem keep_value_polynomial : Keeps ["system", "policy", "start", "rewards", "polynomial", "k"] (pureSp p_value_polynomial) rd_value_polynomial := by
  rintro ds W AQ AX ⟨rfl, t, f, p, rfl, hs, hf, hp, hQ⟩
  simp [rd_value_polynomial]
  refine ⟨t, f, p, rfl, hs, hf, hp, ?_⟩
  obtain ⟨a, b, c, d, e, g, i, j, k, hr⟩ := nine (rwd_length t f p)
  rw [vpoly, hr] at hQ
  rw [hr]
  simp [List.range, List.range.loop]
  intro ad had
  refine ⟨_, _, ⟨rfl, rfl⟩, by simp, ?_⟩
  simp
  refine ⟨_, _, ⟨rfl, rfl⟩, by simp, _, _, .refl _, by simp, _, _, .refl _, by simpa [iL] using hQ⟩
theorem keep_value_polynomials : Keeps ["system", "policy", "state"] (pureSp p_value_polynomials) rd_value_polynomials := by
  rintro ds W AQ AX ⟨rfl, t, f, rfl, hs, hf, hQ⟩
  simp [rd_value_polynomials]
  have := hs.le
  refine ⟨by omega, by omega, lc_map (fun d => match d with | .int z => iL (vpoly t f z.toNat) | _ => .non) _ _ (fun d hd R hR => ?_) ?_⟩
  · simp only [List.mem_map, List.mem_range] at hd
    obtain ⟨c, hc, rfl⟩ := hd
    simp
    exact ⟨t, f, c, rfl, hs, hf, hc, hR⟩
  · simpa [myoRanks, rkD, Function.comp_def] using hQ
theorem whole_eq {g : Dis} (h : OkD g) : (g.2 : Int) ^ 8 - (g.2 : Int) ^ 2 * (g.1 : Int) ^ 6 = (wholeN g : Nat) ∧ 0 < wholeN g ∧ wholeN g < 2 ^ 62 := by
  obtain ⟨n, d⟩ := g
  have h1 := h.p0
  have h2 := h.p1
  have h3 := h.p2
  simp only [wholeN] at *
  have a : n = 1 ∨ n = 2 ∨ n = 3 ∨ n = 4 ∨ n = 5 := by omega
  have b : d = 2 ∨ d = 3 ∨ d = 4 ∨ d = 5 ∨ d = 6 := by omega
  rcases a with rfl | rfl | rfl | rfl | rfl <;> rcases b with rfl | rfl | rfl | rfl | rfl <;> first | omega | (refine ⟨by decide +kernel, by decide +kernel, by decide +kernel⟩)
theorem keep_policy_values : Keeps ["system", "discount", "policy", "top", "bottom", "whole", "polynomials", "polynomial"] (pureSp p_policy_values) rd_policy_values := by
  rintro ds W AQ AX ⟨rfl, t, g, f, rfl, hs, hg, hf, hQ⟩
  have h1 := hg.p1
  have h2 := hg.p2
  have l3 := hs.le
  obtain ⟨w1, w2, w3⟩ := whole_eq hg
  have q := pow6 g.2 2 h2 (by omega)
  simp [rd_policy_values]
  refine ⟨by omega, by omega, .inl ⟨q.2, q.1⟩, t, f, rfl, hs, hf, ?_⟩
  simp
  refine ⟨by simp [myoRanks]; omega, lc_map (fun d => match d with | .lst l => fD (rD (atF g.1 g.2 (l.map fun d => match d with | .int z => z | _ => 0)) (wholeN g)) | _ => .non) _ _ (fun d hd R hR => ?_) ?_⟩
  · simp only [List.mem_map, myoRanks] at hd
    obtain ⟨_, ⟨c, hc, rfl⟩, rfl⟩ := hd
    simp
    refine ⟨vpoly t f c, g.1, g.2, rfl, by rw [vpoly_length]; omega, by omega, h2, atF g.1 g.2 (vpoly t f c), wholeN g, by rw [← w1], w2, w3, ?_⟩
    simpa [Function.comp_def] using hR
  · simpa [myoRanks, pvals, Function.comp_def] using hQ
end Dsn
end

section
set_option maxHeartbeats 4000000
/-! # Policies: the best ones, averages -/
namespace Dsn
open PySem PySem.Spec PyProof.Rows L2 Hd
theorem is_best_inner {A : AEnds} (o0 o1 o2 : Option D) : ∀ (a b : List (List Int)) (k l : Option D), ((List.zipWith (fun m i => !isLess m i) a b).all id = true → ∀ k' l', A.nx [o0, o1, o2, k', l'] []) → ((List.zipWith (fun m i => !isLess m i) a b).all id = false → A.rt (.bl false) []) →
    forD (gTp 2 (gC1 (gNm 3) (gC1 (gNm 4) gN0))) (sIf (aB (aCallP p_is_less (aCons (aVar 3) (aCons (aVar 4) aNil)))) (sRet (aC (.bl false))) sNext) A (List.zipWith (fun a b => D.tup [iL a, iL b]) a b) [o0, o1, o2, k, l] []
  | [], _, k, l, h, _ => by simpa using h rfl k l
  | _ :: _, [], k, l, h, _ => by simpa using h rfl k l
  | x :: a, y :: b, k, l, h, hr => by
    simp
    refine ⟨x, y, rfl, ?_⟩
    simp
    cases e : isLess x y with
    | true =>
      simp
      exact hr (by simp [e])
    | false =>
      simp
      exact is_best_inner o0 o1 o2 a b _ _ (fun z => h (by simpa [e] using z)) (fun z => hr (by simpa [e] using z))
theorem is_best_loop {A : AEnds} (rk : Rk) (o1 : Option D) : ∀ (rv : List Rk) (o2 k l : Option D), (isBest rk rv = true → ∀ o2' k' l', A.nx [some (rkD rk), o1, o2', k', l'] []) → (isBest rk rv = false → A.rt (.bl false) []) →
    forD (gNm 2) (sFor (iZipA (aVar 0) (aVar 2)) (gTp 2 (gC1 (gNm 3) (gC1 (gNm 4) gN0))) (sIf (aB (aCallP p_is_less (aCons (aVar 3) (aCons (aVar 4) aNil)))) (sRet (aC (.bl false))) sNext)) A (rv.map fun o => rkD o) [some (rkD rk), o1, o2, k, l] []
  | [], o2, k, l, h, _ => by simpa using h rfl o2 k l
  | o :: rv, o2, k, l, h, hr => by
    simp [zipD]
    refine is_best_inner _ _ _ rk o k l (fun e k' l' => ?_) (fun e => hr (by show (List.all (List.zipWith (fun m i => !isLess m i) rk o) id && isBest rk rv) = false; rw [e]; rfl))
    have := is_best_loop rk o1 rv (some (rkD o)) k' l' (fun z => h (by simp [isBest] at z e ⊢; exact ⟨e, z⟩)) (fun z => hr (by simp [isBest] at z e ⊢; exact fun _ => z))
    simpa [zipD] using this
theorem keep_is_best : Keeps ["ranks", "rivals", "others", "mine", "its"] (pureSp p_is_best) rd_is_best := by
  rintro ds W AQ AX ⟨rfl, rk, rv, rfl, hQ⟩
  simp [rd_is_best]
  have := is_best_loop (A := ⟨sRet (aC (.bl true)) { nx := fun x W' => AQ D.non W', rt := AQ }, AQ, fun _ _ => False, fun _ _ => False⟩) rk (some (.lst (rv.map fun o => rkD o))) rv none none none (fun e o2 k l => by simpa [e] using hQ) (fun e => by simpa [e] using hQ)
  simpa [zipD] using this
theorem first_best_loop {A : AEnds} (o0 : Option D) (rv : List Rk) (dflt : Pol) : ∀ (ps : List Pol) (rs : List Rk) (k l : Option D),
    ((ps.zip rs).find? (fun q => isBest q.2 rv) = none → ∀ k' l', A.nx [o0, some (.lst (rv.map fun o => rkD o)), k', l'] []) → (∀ q, (ps.zip rs).find? (fun q => isBest q.2 rv) = some q → A.rt (eW q.1) []) →
    forD (gTp 2 (gC1 (gNm 2) (gC1 (gNm 3) gN0))) (sIf (aB (aCallP p_is_best (aCons (aVar 3) (aCons (aVar 1) aNil)))) (sRet (aVar 2)) sNext) A (List.zipWith (fun a b => D.tup [eW a, rkD b]) ps rs) [o0, some (.lst (rv.map fun o => rkD o)), k, l] []
  | [], _, k, l, h, _ => by simpa using h rfl k l
  | _ :: _, [], k, l, h, _ => by simpa using h rfl k l
  | x :: a, y :: b, k, l, h, hr => by
    simp
    refine ⟨y, rv, rfl, ?_⟩
    simp
    cases e : isBest y rv with
    | true =>
      simp
      exact hr (x, y) (by simp [e])
    | false =>
      simp
      exact first_best_loop o0 rv dflt a b _ _ (fun z => h (by simpa [e] using z)) (fun q z => hr q (by simpa [e] using z))
theorem keep_first_best : Keeps ["policies", "rivals", "policy", "ranks"] (pureSp p_first_best) rd_first_best := by
  rintro ds W AQ AX ⟨rfl, ps, rv, rfl, hn, hl, hQ⟩
  simp [rd_first_best]
  have := first_best_loop (A := ⟨sRet (aOp oIx (aVar 0) (aC (.int 0))) { nx := fun x W' => AQ D.non W', rt := AQ }, AQ, fun _ _ => False, fun _ _ => False⟩) (some (.lst (ps.map fun w => eW w))) rv [] ps rv none none (fun e k l => by
      cases ps with
      | nil => exact (hn rfl).elim
      | cons p ps => simpa [firstBest, e] using hQ) (fun q e => by simpa [firstBest, e] using hQ)
  simpa [zipD, List.zipWith_map] using this
theorem words_ne (n : Nat) : wordsL n ≠ [] := fun e => by
  have := words_length n
  rw [e] at this
  have := Nat.two_pow_pos n
  simp at *
  omega
theorem words_le {n : Nat} (h : n ≤ 3) : (wordsL n).length ≤ 8 := by
  rw [words_length]
  exact Nat.pow_le_pow_right (n := 2) (by decide) h
theorem opt_loop {A : AEnds} {t : Sys} {g : Dis} (hs : OkS t) (hg : OkD g) (o1 o4 : Option D) (ad : Addr) : ∀ (ps : List Pol) (acc : List Rk) (k l m : Option D), (∀ f ∈ ps, OkP t.length f) → acc.length + ps.length ≤ 1000 →
    (∀ k' l' m', A.nx [some (encSys t), o1, some (.int g.1), some (.int g.2), o4, some (.adr ad), k', l', m'] [(ad, .lst ((acc ++ ps.map (optRanks t g)).map fun o => rkD o))]) →
    forD (gNm 6) (sSeq (sAsg (aCallP p_value_polynomials (aCons (aVar 0) (aCons (aVar 6) aNil))) (gNm 7))
      (sApp (aVar 5) (aLc (iListA (aVar 7)) (gNm 8) aYes (aLst (aCons (aCallP p_at_fraction (aCons (aVar 8) (aCons (aVar 2) (aCons (aVar 3) aNil)))) aNil)) [8]))) A (ps.map fun w => eW w) [some (encSys t), o1, some (.int g.1), some (.int g.2), o4, some (.adr ad), k, l, m] [(ad, .lst (acc.map fun o => rkD o))]
  | [], acc, k, l, m, _, _, h => by simpa using h k l m
  | f :: ps, acc, k, l, m, hp, hl, h => by
    have l3 := hs.le
    have h1 := hg.p1
    have h2 := hg.p2
    simp
    refine ⟨t, f, rfl, hs, hp f List.mem_cons_self, ?_⟩
    simp
    refine ⟨by simp [myoRanks]; omega, lc_map (fun d => match d with | .lst l => .lst [.int (atF g.1 g.2 (l.map fun d => match d with | .int z => z | _ => 0))] | _ => .non) _ _ (fun d hd R hR => ?_) ?_⟩
    · simp only [List.mem_map, myoRanks] at hd
      obtain ⟨_, ⟨c, hc, rfl⟩, rfl⟩ := hd
      simp
      exact ⟨vpoly t f c, g.1, g.2, rfl, by rw [vpoly_length]; omega, by omega, h2, by simpa [Function.comp_def] using hR⟩
    · simp
      refine ⟨_, _, ⟨rfl, rfl⟩, by simp at hl ⊢; omega, ?_⟩
      have := opt_loop hs hg o1 o4 ad ps (acc ++ [optRanks t g f]) (some (eW f)) (some (rkD (myoRanks t f))) m (fun f' h' => hp f' (List.mem_cons_of_mem _ h')) (by simp at hl ⊢; omega) fun k' l' m' => by simpa using h k' l' m'
      simpa [myoRanks, optRanks, rkD, iL, Function.comp_def] using this
theorem keep_optimal_policy : Keeps ["system", "discount", "top", "bottom", "policies", "rivals", "policy", "polynomials", "polynomial"] (pureSp p_optimal_policy) rd_optimal_policy := by
  rintro ds W AQ AX ⟨rfl, t, g, rfl, hs, hg, hQ⟩
  have l3 := hs.le
  simp [rd_optimal_policy]
  refine ⟨t.length, rfl, l3, ?_⟩
  simp
  intro ad had
  have := opt_loop (A := ⟨sRet (aCallP p_first_best (aCons (aVar 4) (aCons (aFrz (aVar 5)) aNil))) { nx := fun x W' => AQ D.non W', rt := AQ }, AQ, fun _ _ => False, fun _ _ => False⟩) hs hg (some (encDis g)) (some (.lst ((wordsL t.length).map fun w => eW w))) ad (wordsL t.length) [] none none none (words_ok t.length) (by have := words_le l3; simp; omega) fun k l m => by
    simp
    exact ⟨_, _, ⟨rfl, rfl⟩, wordsL t.length, (wordsL t.length).map (optRanks t g), by simp, words_ne _, by simp, hQ⟩
  simpa using this
theorem bla_loop {A : AEnds} {t : Sys} (hs : OkS t) (o1 : Option D) (ad : Addr) : ∀ (ps : List Pol) (acc : List Rk) (k m : Option D), (∀ f ∈ ps, OkP t.length f) → acc.length + ps.length ≤ 1000 →
    (∀ k' m', A.nx [some (encSys t), o1, some (.adr ad), k', m'] [(ad, .lst ((acc ++ ps.map (blaRanks t)).map fun o => rkD o))]) →
    forD (gNm 3) (sApp (aVar 2) (aLc (iListA (aCallP p_value_polynomials (aCons (aVar 0) (aCons (aVar 3) aNil)))) (gNm 4) aYes (aCallP p_about_one (aCons (aVar 4) aNil)) [4])) A (ps.map fun w => eW w) [some (encSys t), o1, some (.adr ad), k, m] [(ad, .lst (acc.map fun o => rkD o))]
  | [], acc, k, m, _, _, h => by simpa using h k m
  | f :: ps, acc, k, m, hp, hl, h => by
    have l3 := hs.le
    simp
    refine ⟨t, f, rfl, hs, hp f List.mem_cons_self, ?_⟩
    simp
    refine ⟨by simp [myoRanks]; omega, lc_map (fun d => match d with | .lst l => iL (aboutOne (l.map fun d => match d with | .int z => z | _ => 0)) | _ => .non) _ _ (fun d hd R hR => ?_) ?_⟩
    · simp only [List.mem_map, myoRanks] at hd
      obtain ⟨_, ⟨c, hc, rfl⟩, rfl⟩ := hd
      simp
      exact ⟨vpoly t f c, rfl, by rw [vpoly_length]; omega, by simpa [Function.comp_def] using hR⟩
    · simp
      refine ⟨_, _, ⟨rfl, rfl⟩, by simp at hl ⊢; omega, ?_⟩
      have := bla_loop hs o1 ad ps (acc ++ [blaRanks t f]) (some (eW f)) m (fun f' h' => hp f' (List.mem_cons_of_mem _ h')) (by simp at hl ⊢; omega) fun k' m' => by simpa using h k' m'
      simpa [myoRanks, blaRanks, rkD, iL, Function.comp_def] using this
theorem keep_blackwell_policy : Keeps ["system", "policies", "rivals", "policy", "polynomial"] (pureSp p_blackwell_policy) rd_blackwell_policy := by
  rintro ds W AQ AX ⟨rfl, t, rfl, hs, hQ⟩
  have l3 := hs.le
  simp [rd_blackwell_policy]
  refine ⟨t.length, rfl, l3, ?_⟩
  simp
  intro ad had
  have := bla_loop (A := ⟨sRet (aCallP p_first_best (aCons (aVar 1) (aCons (aFrz (aVar 2)) aNil))) { nx := fun x W' => AQ D.non W', rt := AQ }, AQ, fun _ _ => False, fun _ _ => False⟩) hs (some (.lst ((wordsL t.length).map fun w => eW w))) ad (wordsL t.length) [] none none (words_ok t.length) (by have := words_le l3; simp; omega) fun k m => by
    simp
    exact ⟨_, _, ⟨rfl, rfl⟩, wordsL t.length, (wordsL t.length).map (blaRanks t), by simp, words_ne _, by simp, hQ⟩
  simpa using this
/-- the numbers of a list of numbers -/
def nums : D → List Int
  | .lst l => l.map fun d => match d with | .int z => z | _ => 0
  | _ => []
theorem nums_iL (l : List Int) : nums (iL l) = l := by simp [nums, Function.comp_def]
/-- the letters of a policy -/
def lets (d : D) : List Nat := (nums d).map Int.toNat
theorem lets_eW (w : List Nat) : lets (eW w) = w := by simp [lets, nums, Function.comp_def]
theorem keep_myopic_policy : Keeps ["system", "policies", "rivals", "policy"] (pureSp p_myopic_policy) rd_myopic_policy := by
  rintro ds W AQ AX ⟨rfl, t, rfl, hs, hQ⟩
  have l3 := hs.le
  have lw := words_le l3
  simp [rd_myopic_policy]
  refine ⟨t.length, rfl, l3, ?_⟩
  simp
  refine ⟨by omega, lc_map (fun d => rkD (myoRanks t (lets d))) _ _ (fun d hd R hR => ?_) ?_⟩
  · simp only [List.mem_map] at hd
    obtain ⟨w, hw, rfl⟩ := hd
    rw [lets_eW] at hR
    exact ⟨t, w, rfl, hs, words_ok _ w hw, hR⟩
  · refine ⟨wordsL t.length, (wordsL t.length).map (myoRanks t), ?_, words_ne _, by simp, hQ⟩
    simp [Function.comp_def, lets_eW]
theorem keep_round_sums : Keeps ["system", "policy", "state"] (pureSp p_round_sums) rd_round_sums := by
  rintro ds W AQ AX ⟨rfl, t, f, rfl, hs, hf, hQ⟩
  simp [rd_round_sums]
  have := hs.le
  refine ⟨by omega, by omega, lc_map (fun d => match d with | .int z => .int ((rwd t f z.toNat).drop 3).sum | _ => .non) _ _ (fun d hd R hR => ?_) ?_⟩
  · simp only [List.mem_map, List.mem_range] at hd
    obtain ⟨c, hc, rfl⟩ := hd
    simp
    refine ⟨t, f, c, rfl, hs, hf, hc, (rwd t f c).drop 3, ?_, hR⟩
    obtain ⟨a, b, c, d, e, g, i, j, k, hr⟩ := nine (rwd_length t f c)
    rw [hr]
    simp [Hd.cutD, HT.sIx]
  · simpa [rsums, iL, Function.comp_def] using hQ
theorem keep_average_rewards : Keeps ["system", "policy", "total"] (pureSp p_average_rewards) rd_average_rewards := by
  rintro ds W AQ AX ⟨rfl, t, f, rfl, hs, hf, hQ⟩
  simp [rd_average_rewards]
  have := hs.le
  refine ⟨t, f, rfl, hs, hf, ?_⟩
  simp
  refine ⟨by simp [rsums]; omega, lc_map (fun d => match d with | .int z => fD (rD z 6) | _ => .non) _ _ (fun d hd R hR => ?_) ?_⟩
  · simp only [List.mem_map] at hd
    obtain ⟨c, hc, rfl⟩ := hd
    simp
    exact ⟨c, 6, rfl, by decide, by decide, hR⟩
  · simpa [avgs, Function.comp_def] using hQ
theorem rsums_length (t : Sys) (f : Pol) : (rsums t f).length = t.length := by simp [rsums]
theorem most_loop {A : AEnds} {t : Sys} (hs : OkS t) (o1 : Option D) : ∀ (ps : List Pol) (g : List Int) (k l m n : Option D), (∀ f ∈ ps, OkP t.length f) → g.length = t.length →
    (∀ k' l' m' n', A.nx [some (encSys t), o1, some (iL (ps.foldl (fun g f => List.zipWith mx g (rsums t f)) g)), k', l', m', n'] []) →
    forD (gNm 3) (sSeq (sAsg (aCallP p_round_sums (aCons (aVar 0) (aCons (aVar 3) aNil))) (gNm 4))
    (sAsg (aLc (iZipA (aVar 2) (aVar 4)) (gTp 2 (gC1 (gNm 6) (gC1 (gNm 5) gN0))) aYes (aCB cMax (aCons (aVar 6) (aCons (aVar 5) aNil))) [6, 5]) (gNm 2))) A (ps.map fun w => eW w) [some (encSys t), o1, some (iL g), k, l, m, n] []
  | [], g, k, l, m, n, _, _, h => by simpa using h k l m n
  | f :: ps, g, k, l, m, n, hp, hl, h => by
    have l3 := hs.le
    simp
    refine ⟨t, f, rfl, hs, hp f List.mem_cons_self, ?_⟩
    simp [zipD]
    refine ⟨by rw [hl]; omega, lc_map (fun d => match d with | .tup [.int x, .int y] => .int (mx x y) | _ => .non) _ _ (fun d hd R hR => ?_) ?_⟩
    · rw [List.mem_iff_getElem] at hd
      obtain ⟨i, hi, rfl⟩ := hd
      simp at hR ⊢
      exact hR
    · have := most_loop hs o1 ps (List.zipWith mx g (rsums t f)) (some (eW f)) (some (iL (rsums t f))) m n (fun f' h' => hp f' (List.mem_cons_of_mem _ h')) (by simp [rsums_length, hl]) fun k' l' m' n' => by simpa using h k' l' m' n'
      simpa [Function.comp_def, List.map_zipWith, iL] using this
theorem keep_most_average_rewards : Keeps ["system", "policies", "greatest", "policy", "totals", "total", "so_far"] (pureSp p_most_average_rewards) rd_most_average_rewards := by
  rintro ds W AQ AX ⟨rfl, t, rfl, hs, hQ⟩
  have l3 := hs.le
  simp [rd_most_average_rewards]
  refine ⟨t.length, rfl, l3, ?_⟩
  obtain ⟨w, ws, hw⟩ : ∃ w ws, wordsL t.length = w :: ws := by
    cases e : wordsL t.length with
    | nil => exact (words_ne _ e).elim
    | cons w ws => exact ⟨w, ws, rfl⟩
  simp [hw]
  refine ⟨t, w, rfl, hs, words_ok _ w (by rw [hw]; exact List.mem_cons_self), ?_⟩
  have := most_loop (A := ⟨sRet (aLc (iListA (aVar 2)) (gNm 5) aYes (aCallP p_reduced (aCons (aVar 5) (aCons (aC (.int 6)) aNil))) [5]) { nx := fun x W' => AQ D.non W', rt := AQ }, AQ, fun _ _ => False, fun _ _ => False⟩) hs (some (.lst ((w :: ws).map fun w => eW w))) (w :: ws) (rsums t w) none none none none (by rw [← hw]; exact words_ok _) (rsums_length t w) fun k l m n => by
    have hm : maxSums t = (w :: ws).foldl (fun g f => List.zipWith mx g (rsums t f)) (rsums t w) := by
      simp [maxSums, pols, hw]
    rw [← hm]
    have ll : (maxSums t).length = t.length := by
      have : ∀ (l : List Pol) (g : List Int), g.length = t.length → (l.foldl (fun g f => List.zipWith mx g (rsums t f)) g).length = t.length := by
        intro l
        induction l with
        | nil => exact fun g h => h
        | cons a l ih => exact fun g h => ih _ (by simp [rsums_length, h])
      rw [hm]
      exact this _ _ (rsums_length t w)
    simp
    refine ⟨by omega, lc_map (fun d => match d with | .int z => fD (rD z 6) | _ => .non) _ _ (fun d hd R hR => ?_) ?_⟩
    · simp only [List.mem_map] at hd
      obtain ⟨c, hc, rfl⟩ := hd
      simp
      exact ⟨c, 6, rfl, by decide, by decide, hR⟩
    · simpa [maxAvgs, Function.comp_def] using hQ
  simpa using this
end Dsn
end

section
set_option maxHeartbeats 4000000
/-! # Words -/
namespace Dsn
open PySem PySem.Spec PyProof.Rows L2 Hd
abbrev Wrd := R7284d.Spec.Word
def two (w : Wrd) : Prop := ∀ c ∈ w, c < 2
/-- the rewards of a word -/
def wrew (t : Sys) : Nat → Wrd → List Int
  | _, [] => []
  | p, c :: w => R7284d.Spec.rewardOf t p c :: wrew t (R7284d.Spec.successor t p c) w
def dfold (g : Dis) (b : Int × Nat) : List Int → Int × Nat
  | [] => b
  | r :: rs => (r * g.2 * (dfold g b rs).2 + g.1 * (dfold g b rs).1, g.2 * (dfold g b rs).2)
def disc (g : Dis) (rs : List Int) (b : Int × Nat) : Int × Int := rD (dfold g b rs).1 (dfold g b rs).2
/-- a fraction: its denominator as a natural number -/
def frN (q : Int × Int) : Int × Nat := (q.1, q.2.toNat)
structure OkB (t : Sys) (best : List (Int × Int)) : Prop where
  len : best.length = t.length
  den : ∀ q ∈ best, 0 < q.2 ∧ q.2 ≤ 1679616
abbrev bestD (best : List (Int × Int)) : D := .lst (best.map fD)
def wrewF (t : Sys) (g : Dis) (w : Wrd) : Int × Int := disc g (wrew t 0 w) (0, 1)
def presF (t : Sys) (g : Dis) (best : List (Int × Int)) (s c : Nat) : Bool := decide (disc g [R7284d.Spec.rewardOf t s c] (frN (best.getD (R7284d.Spec.successor t s c) (0, 1))) = best.getD s (0, 1))
def isOptF (t : Sys) (g : Dis) (best : List (Int × Int)) : Nat → Wrd → Bool
  | _, [] => true
  | s, c :: w => presF t g best s c && isOptF t g best (R7284d.Spec.successor t s c) w
def longerF (t : Sys) (g : Dis) (best : List (Int × Int)) (ws : List Wrd) : List Wrd := ws.flatMap fun w => ([0, 1].filter fun c => presF t g best (R7284d.Spec.endState t 0 w) c).map fun c => w ++ [c]
def lastF (t : Sys) (g : Dis) (best : List (Int × Int)) : Nat → List Wrd
  | 0 => [[]]
  | n + 1 => longerF t g best (lastF t g best n)
def optWordsF (t : Sys) (g : Dis) (best : List (Int × Int)) : Nat → List Wrd
  | 0 => [[]]
  | n + 1 => optWordsF t g best n ++ lastF t g best (n + 1)
def p_end_of : List D → (D → Prop) → Prop := fun ds Q => ∃ (t : Sys) (w : Wrd), ds = [encSys t, eW w] ∧ OkS t ∧ two w ∧ Q (.int (R7284d.Spec.endState t 0 w : Nat))
def p_rewards_of : List D → (D → Prop) → Prop := fun ds Q => ∃ (t : Sys) (w : Wrd), ds = [encSys t, eW w] ∧ OkS t ∧ two w ∧ w.length ≤ 100 ∧ Q (iL (wrew t 0 w))
def p_discounted : List D → (D → Prop) → Prop := fun ds Q => ∃ (rs : List Int) (g : Dis) (b : Int × Nat), ds = [iL rs, encDis g, .tup [.int b.1, .int (b.2 : Nat)]] ∧ OkD g ∧ rs.length ≤ 8 ∧ 0 < b.2 ∧ b.2 ≤ 1679616 ∧ Q (fD (disc g rs b))
def p_word_reward : List D → (D → Prop) → Prop := fun ds Q => ∃ (t : Sys) (g : Dis) (w : Wrd), ds = [encSys t, encDis g, eW w] ∧ OkS t ∧ OkD g ∧ two w ∧ w.length ≤ 8 ∧ Q (fD (wrewF t g w))
def p_preserves : List D → (D → Prop) → Prop := fun ds Q => ∃ (t : Sys) (g : Dis) (best : List (Int × Int)) (s c : Nat), ds = [encSys t, encDis g, bestD best, .int s, .int c] ∧ OkS t ∧ OkD g ∧ OkB t best ∧ s < t.length ∧ c < 2 ∧ Q (.bl (presF t g best s c))
def p_is_optimal : List D → (D → Prop) → Prop := fun ds Q => ∃ (t : Sys) (g : Dis) (best : List (Int × Int)) (w : Wrd), ds = [encSys t, encDis g, bestD best, eW w] ∧ OkS t ∧ OkD g ∧ OkB t best ∧ two w ∧ Q (.bl (isOptF t g best 0 w))
def p_longer_words : List D → (D → Prop) → Prop := fun ds Q => ∃ (t : Sys) (g : Dis) (best : List (Int × Int)) (ws : List Wrd), ds = [encSys t, encDis g, bestD best, .lst (ws.map fun w => eW w)] ∧ OkS t ∧ OkD g ∧ OkB t best ∧ (∀ w ∈ ws, two w ∧ w.length ≤ 10) ∧ ws.length ≤ 1000 ∧ Q (.lst ((longerF t g best ws).map fun w => eW w))
def p_optimal_words : List D → (D → Prop) → Prop := fun ds Q => ∃ (t : Sys) (g : Dis) (best : List (Int × Int)) (n : Nat), ds = [encSys t, encDis g, bestD best, .int n] ∧ OkS t ∧ OkD g ∧ OkB t best ∧ n ≤ 5 ∧ Q (.lst ((optWordsF t g best n).map fun w => eW w))
def rd_end_of : AS :=
  (sSeq (sAsg (aC (.int 0)) (gNm 2))
    (sSeq (sFor (iListA (aVar 1)) (gNm 3) (sAsg (aOp oIx (aOp oIx (aOp oIx (aVar 0) (aVar 2)) (aVar 3)) (aC (.int 0))) (gNm 2)))
    (sRet (aVar 2))))
theorem dv_end_of {P : Program} {w : World} {K : PySem.W.Frag} {mg : Str → Option Value} {base : Heap} (T : Tx K mg) : Rds P w K mg base ["system", "word", "state", "letter"] "end_of" (defScope s_end_of) (He.ga K "end_of") (defBody s_end_of) 0 (rd_end_of) := by
  intro cdv A outer s H E hr
  exact (dss_cons (ds_set 2 sc_end_of.nd (de_int))
    (dss_cons (ds_for PassesOwn.never (di_list (de_var 1)) (dg_nm 3 sc_end_of.nd) (dss_one (ds_set 2 sc_end_of.nd (de_ix (de_ix (de_ix (de_var 0) (de_var 2)) (de_var 3)) (de_int)))))
    (dss_one (ds_ret (de_var 2)))))
def rd_rewards_of : AS :=
  (sSeq (sAsg (aLstO aNil) (gNm 2))
    (sSeq (sAsg (aC (.int 0)) (gNm 3))
    (sSeq (sFor (iListA (aVar 1)) (gNm 4) (sSeq (sAsg (aOp oIx (aOp oIx (aVar 0) (aVar 3)) (aVar 4)) (gTp 2 (gC1 (gNm 5) (gC1 (gNm 6) gN0))))
    (sSeq (sApp (aVar 2) (aVar 6))
    (sAsg (aVar 5) (gNm 3)))))
    (sRet (aFrz (aVar 2))))))
theorem dv_rewards_of {P : Program} {w : World} {K : PySem.W.Frag} {mg : Str → Option Value} {base : Heap} (T : Tx K mg) : Rds P w K mg base ["system", "word", "rewards", "state", "letter", "target", "reward"] "rewards_of" (defScope s_rewards_of) (He.ga K "rewards_of") (defBody s_rewards_of) 0 (rd_rewards_of) := by
  intro cdv A outer s H E hr
  exact (dss_cons (ds_set 2 sc_rewards_of.nd (de_lstO da_nil))
    (dss_cons (ds_set 3 sc_rewards_of.nd (de_int))
    (dss_cons (ds_for PassesOwn.never (di_list (de_var 1)) (dg_nm 4 sc_rewards_of.nd) (dss_cons (ds_asg (de_ix (de_ix (de_var 0) (de_var 3)) (de_var 4)) (dg_tp (dgs_cons (dg_nm 5 sc_rewards_of.nd) (dgs_cons (dg_nm 6 sc_rewards_of.nd) dgs_nil))))
    (dss_cons (ds_app (de_var 2) (de_var 6))
    (dss_one (ds_set 3 sc_rewards_of.nd (de_var 5))))))
    (dss_one (ds_ret (de_frz (de_var 2)))))))
def rd_discounted : AS :=
  (sSeq (sAsg (aVar 2) (gTp 2 (gC1 (gNm 3) (gC1 (gNm 4) gN0))))
    (sSeq (sFor (iRevA' (aVar 0)) (gNm 5) (sSeq (sAsg (aOp oAdd (aOp oMul (aOp oMul (aVar 5) (aOp oIx (aVar 1) (aC (.int 1)))) (aVar 4)) (aOp oMul (aOp oIx (aVar 1) (aC (.int 0))) (aVar 3))) (gNm 3))
    (sAsg (aOp oMul (aOp oIx (aVar 1) (aC (.int 1))) (aVar 4)) (gNm 4))))
    (sRet (aCallP p_reduced (aCons (aVar 3) (aCons (aVar 4) aNil))))))
theorem dv_discounted {P : Program} {w : World} {K : PySem.W.Frag} {mg : Str → Option Value} {base : Heap} (T : Tx K mg)
    (F_reduced : Cal P w K mg base CX0 2 "reduced" ["top", "bottom"] (pureSp p_reduced)) : Rds P w K mg base ["rewards", "discount", "behind", "top", "bottom", "reward"] "discounted" (defScope s_discounted) (He.ga K "discounted") (defBody s_discounted) 2 (rd_discounted) := by
  intro cdv A outer s H E hr
  exact (dss_cons (ds_asg (de_var 2) (dg_tp (dgs_cons (dg_nm 3 sc_discounted.nd) (dgs_cons (dg_nm 4 sc_discounted.nd) dgs_nil))))
    (dss_cons (ds_for PassesOwn.never (di_rev T.b_reversed (de_var 0)) (dg_nm 5 sc_discounted.nd) (dss_cons (ds_set 3 sc_discounted.nd (de_add (de_mul (de_mul (de_var 5) (de_ix (de_var 1) (de_int))) (de_var 4)) (de_mul (de_ix (de_var 1) (de_int)) (de_var 3))))
    (dss_one (ds_set 4 sc_discounted.nd (de_mul (de_ix (de_var 1) (de_int)) (de_var 4))))))
    (dss_one (ds_ret (de_callP F_reduced (hr.mono (by decide)) (da_cons (de_var 3) (da_cons (de_var 4) da_nil)))))))
def rd_word_reward : AS :=
  (sRet (aCallP p_discounted (aCons (aCallP p_rewards_of (aCons (aVar 0) (aCons (aVar 2) aNil))) (aCons (aVar 1) (aCons (aTup (aCons (aC (.int 0)) (aCons (aC (.int 1)) aNil))) aNil)))))
theorem dv_word_reward {P : Program} {w : World} {K : PySem.W.Frag} {mg : Str → Option Value} {base : Heap} (T : Tx K mg)
    (F_rewards_of : Cal P w K mg base CX0 1 "rewards_of" ["system", "word"] (pureSp p_rewards_of))
    (F_discounted : Cal P w K mg base CX0 3 "discounted" ["rewards", "discount", "behind"] (pureSp p_discounted)) : Rds P w K mg base ["system", "discount", "word"] "word_reward" (defScope s_word_reward) (He.ga K "word_reward") (defBody s_word_reward) 3 (rd_word_reward) := by
  intro cdv A outer s H E hr
  exact (dss_one (ds_ret (de_callP F_discounted (hr.mono (by decide)) (da_cons (de_callP F_rewards_of (hr.mono (by decide)) (da_cons (de_var 0) (da_cons (de_var 2) da_nil))) (da_cons (de_var 1) (da_cons (de_tup (da_cons (de_int) (da_cons (de_int) da_nil))) da_nil))))))
def rd_preserves : AS :=
  (sSeq (sAsg (aOp oIx (aOp oIx (aVar 0) (aVar 3)) (aVar 4)) (gTp 2 (gC1 (gNm 5) (gC1 (gNm 6) gN0))))
    (sRet (aOp oEq (aCallP p_discounted (aCons (aLst (aCons (aVar 6) aNil)) (aCons (aVar 1) (aCons (aOp oIx (aVar 2) (aVar 5)) aNil)))) (aOp oIx (aVar 2) (aVar 3)))))
theorem dv_preserves {P : Program} {w : World} {K : PySem.W.Frag} {mg : Str → Option Value} {base : Heap} (T : Tx K mg)
    (F_discounted : Cal P w K mg base CX0 3 "discounted" ["rewards", "discount", "behind"] (pureSp p_discounted)) : Rds P w K mg base ["system", "discount", "best", "state", "letter", "target", "reward"] "preserves" (defScope s_preserves) (He.ga K "preserves") (defBody s_preserves) 3 (rd_preserves) := by
  intro cdv A outer s H E hr
  exact (dss_cons (ds_asg (de_ix (de_ix (de_var 0) (de_var 3)) (de_var 4)) (dg_tp (dgs_cons (dg_nm 5 sc_preserves.nd) (dgs_cons (dg_nm 6 sc_preserves.nd) dgs_nil))))
    (dss_one (ds_ret (de_eq hr (de_callP F_discounted (hr.mono (by decide)) (da_cons (de_lst (da_cons (de_var 6) da_nil)) (da_cons (de_var 1) (da_cons (de_ix (de_var 2) (de_var 5)) da_nil)))) (de_ix (de_var 2) (de_var 3))))))
def rd_is_optimal : AS :=
  (sSeq (sAsg (aC (.int 0)) (gNm 4))
    (sSeq (sFor (iListA (aVar 3)) (gNm 5) (sSeq (sIf (aNot (aB (aCallP p_preserves (aCons (aVar 0) (aCons (aVar 1) (aCons (aVar 2) (aCons (aVar 4) (aCons (aVar 5) aNil)))))))) (sRet (aC (.bl false))) sNext)
    (sAsg (aOp oIx (aOp oIx (aOp oIx (aVar 0) (aVar 4)) (aVar 5)) (aC (.int 0))) (gNm 4))))
    (sRet (aC (.bl true)))))
theorem dv_is_optimal {P : Program} {w : World} {K : PySem.W.Frag} {mg : Str → Option Value} {base : Heap} (T : Tx K mg)
    (F_preserves : Cal P w K mg base CX0 4 "preserves" ["system", "discount", "best", "state", "letter"] (pureSp p_preserves)) : Rds P w K mg base ["system", "discount", "best", "word", "state", "letter"] "is_optimal" (defScope s_is_optimal) (He.ga K "is_optimal") (defBody s_is_optimal) 4 (rd_is_optimal) := by
  intro cdv A outer s H E hr
  exact (dss_cons (ds_set 4 sc_is_optimal.nd (de_int))
    (dss_cons (ds_for PassesOwn.never (di_list (de_var 3)) (dg_nm 5 sc_is_optimal.nd) (dss_cons (ds_if (dt_not (dt_of (de_callP F_preserves (hr.mono (by decide)) (da_cons (de_var 0) (da_cons (de_var 1) (da_cons (de_var 2) (da_cons (de_var 4) (da_cons (de_var 5) da_nil)))))))) (dss_one (ds_ret (de_bl))) dss_nil)
    (dss_one (ds_set 4 sc_is_optimal.nd (de_ix (de_ix (de_ix (de_var 0) (de_var 4)) (de_var 5)) (de_int))))))
    (dss_one (ds_ret (de_bl)))))
def rd_longer_words : AS :=
  (sSeq (sAsg (aLstO aNil) (gNm 4))
    (sSeq (sFor (iListA (aVar 3)) (gNm 5) (sSeq (sAsg (aCallP p_end_of (aCons (aVar 0) (aCons (aVar 5) aNil))) (gNm 6))
    (sFor (iRng1A (aC (.int 2))) (gNm 7) (sIf (aB (aCallP p_preserves (aCons (aVar 0) (aCons (aVar 1) (aCons (aVar 2) (aCons (aVar 6) (aCons (aVar 7) aNil))))))) (sApp (aVar 4) (aOp oAdd (aVar 5) (aLst (aCons (aVar 7) aNil)))) sNext))))
    (sRet (aFrz (aVar 4)))))
theorem dv_longer_words {P : Program} {w : World} {K : PySem.W.Frag} {mg : Str → Option Value} {base : Heap} (T : Tx K mg)
    (F_end_of : Cal P w K mg base CX0 1 "end_of" ["system", "word"] (pureSp p_end_of))
    (F_preserves : Cal P w K mg base CX0 4 "preserves" ["system", "discount", "best", "state", "letter"] (pureSp p_preserves)) : Rds P w K mg base ["system", "discount", "best", "words", "longer", "word", "state", "letter"] "longer_words" (defScope s_longer_words) (He.ga K "longer_words") (defBody s_longer_words) 4 (rd_longer_words) := by
  intro cdv A outer s H E hr
  exact (dss_cons (ds_set 4 sc_longer_words.nd (de_lstO da_nil))
    (dss_cons (ds_for PassesOwn.never (di_list (de_var 3)) (dg_nm 5 sc_longer_words.nd) (dss_cons (ds_set 6 sc_longer_words.nd (de_callP F_end_of (hr.mono (by decide)) (da_cons (de_var 0) (da_cons (de_var 5) da_nil))))
    (dss_one (ds_for PassesOwn.never (di_rng1 T.b_range (de_int)) (dg_nm 7 sc_longer_words.nd) (dss_one (ds_if (dt_of (de_callP F_preserves (hr.mono (by decide)) (da_cons (de_var 0) (da_cons (de_var 1) (da_cons (de_var 2) (da_cons (de_var 6) (da_cons (de_var 7) da_nil))))))) (dss_one (ds_app (de_var 4) (de_add (de_var 5) (de_lst (da_cons (de_var 7) da_nil))))) dss_nil))))))
    (dss_one (ds_ret (de_frz (de_var 4))))))
def rd_optimal_words : AS :=
  (sSeq (sAsg (aLst (aCons (aLst aNil) aNil)) (gNm 4))
    (sSeq (sAsg (aLst (aCons (aLst aNil) aNil)) (gNm 5))
    (sSeq (sFor (iRng1A (aVar 3)) (gNm 6) (sSeq (sAsg (aCallP p_longer_words (aCons (aVar 0) (aCons (aVar 1) (aCons (aVar 2) (aCons (aVar 5) aNil))))) (gNm 5))
    (sAsg (aOp oAdd (aVar 4) (aVar 5)) (gNm 4))))
    (sRet (aVar 4)))))
theorem dv_optimal_words {P : Program} {w : World} {K : PySem.W.Frag} {mg : Str → Option Value} {base : Heap} (T : Tx K mg)
    (F_longer_words : Cal P w K mg base CX0 5 "longer_words" ["system", "discount", "best", "words"] (pureSp p_longer_words)) : Rds P w K mg base ["system", "discount", "best", "most", "words", "last", "k"] "optimal_words" (defScope s_optimal_words) (He.ga K "optimal_words") (defBody s_optimal_words) 5 (rd_optimal_words) := by
  intro cdv A outer s H E hr
  exact (dss_cons (ds_set 4 sc_optimal_words.nd (de_lst (da_cons (de_lst da_nil) da_nil)))
    (dss_cons (ds_set 5 sc_optimal_words.nd (de_lst (da_cons (de_lst da_nil) da_nil)))
    (dss_cons (ds_for PassesOwn.never (di_rng1 T.b_range (de_var 3)) (dg_nm 6 sc_optimal_words.nd) (dss_cons (ds_set 5 sc_optimal_words.nd (de_callP F_longer_words (hr.mono (by decide)) (da_cons (de_var 0) (da_cons (de_var 1) (da_cons (de_var 2) (da_cons (de_var 5) da_nil))))))
    (dss_one (ds_set 4 sc_optimal_words.nd (de_add (de_var 4) (de_var 5))))))
    (dss_one (ds_ret (de_var 4))))))
theorem sys_at2 {t : Sys} (hs : OkS t) {s : Nat} (h : s < t.length) : ∃ e, t[s]? = some e ∧ R7284d.Spec.transitionAt t s 0 = e.1 ∧ R7284d.Spec.transitionAt t s 1 = e.2 ∧ e.1.1 < t.length ∧ e.2.1 < t.length := by
  have he := hs.tg t[s] (List.getElem_mem h)
  refine ⟨t[s], by simp [h], ?_, ?_, he.1, he.2⟩
  · simp [R7284d.Spec.transitionAt, h]
  · simp [R7284d.Spec.transitionAt, h]
theorem c01 {c : Nat} (h : c < 2) : c = 0 ∨ c = 1 := by omega
theorem end_of_loop {A : AEnds} {t : Sys} (hs : OkS t) (o1 : Option D) : ∀ (w : Wrd) (s : Nat) (k : Option D), s < t.length → two w → (∀ k', A.nx [some (encSys t), o1, some (.int (R7284d.Spec.endState t s w : Nat)), k'] []) →
    forD (gNm 3) (sAsg (aOp oIx (aOp oIx (aOp oIx (aVar 0) (aVar 2)) (aVar 3)) (aC (.int 0))) (gNm 2)) A (w.map fun (c : Nat) => D.int (c : Int)) [some (encSys t), o1, some (.int s), k] []
  | [], s, k, _, _, h => by simpa [R7284d.Spec.endState] using h k
  | c :: w, s, k, h1, hw, h => by
    obtain ⟨e, e1, t0, t1, b0, b1⟩ := sys_at2 hs h1
    have hw' : two w := fun c' h' => hw c' (List.mem_cons_of_mem _ h')
    rcases c01 (hw c List.mem_cons_self) with rfl | rfl
    · simp [encSys, e1]
      have := end_of_loop hs o1 w e.1.1 (some (.int 0)) b0 hw' fun k' => by simpa [R7284d.Spec.endState, R7284d.Spec.successor, t0] using h k'
      simpa [encSys] using this
    · simp [encSys, e1]
      have := end_of_loop hs o1 w e.2.1 (some (.int 1)) b1 hw' fun k' => by simpa [R7284d.Spec.endState, R7284d.Spec.successor, t1] using h k'
      simpa [encSys] using this
theorem keep_end_of : Keeps ["system", "word", "state", "letter"] (pureSp p_end_of) rd_end_of := by
  rintro ds W AQ AX ⟨rfl, t, w, rfl, hs, hw, hQ⟩
  have := hs.pos
  simp [rd_end_of]
  have := end_of_loop (A := ⟨sRet (aVar 2) { nx := fun x W' => AQ D.non W', rt := AQ }, AQ, fun _ _ => False, fun _ _ => False⟩) hs (some (eW w)) w 0 none (by omega) hw fun k' => by simpa using hQ
  simpa using this
theorem rewards_of_loop {A : AEnds} {t : Sys} (hs : OkS t) (o1 : Option D) (ad : Addr) : ∀ (w : Wrd) (acc : List Int) (s : Nat) (k l m : Option D), s < t.length → two w → acc.length + w.length ≤ 1000 →
    (∀ x k' l' m', A.nx [some (encSys t), o1, some (.adr ad), x, k', l', m'] [(ad, .lst ((acc ++ wrew t s w).map D.int))]) →
    forD (gNm 4) (sSeq (sAsg (aOp oIx (aOp oIx (aVar 0) (aVar 3)) (aVar 4)) (gTp 2 (gC1 (gNm 5) (gC1 (gNm 6) gN0))))
    (sSeq (sApp (aVar 2) (aVar 6)) (sAsg (aVar 5) (gNm 3)))) A (w.map fun (c : Nat) => D.int (c : Int)) [some (encSys t), o1, some (.adr ad), some (.int s), k, l, m] [(ad, .lst (acc.map D.int))]
  | [], acc, s, k, l, m, _, _, _, h => by simpa [wrew] using h (some (.int s)) k l m
  | c :: w, acc, s, k, l, m, h1, hw, hl, h => by
    obtain ⟨e, e1, t0, t1, b0, b1⟩ := sys_at2 hs h1
    have hw' : two w := fun c' h' => hw c' (List.mem_cons_of_mem _ h')
    have la : (acc.map D.int).length < 16000000 := by simp at hl ⊢; omega
    have hl' : ∀ z : Int, (acc ++ [z]).length + w.length ≤ 1000 := fun z => by simp at hl ⊢; omega
    rcases c01 (hw c List.mem_cons_self) with rfl | rfl
    · simp [encSys, e1]
      refine ⟨_, _, ⟨rfl, rfl⟩, la, ?_⟩
      have := rewards_of_loop hs o1 ad w (acc ++ [e.1.2]) e.1.1 (some (.int 0)) (some (.int e.1.1)) (some (.int e.1.2)) b0 hw' (hl' _) fun x k' l' m' => by simpa [wrew, R7284d.Spec.rewardOf, R7284d.Spec.successor, t0] using h x k' l' m'
      simpa [encSys] using this
    · simp [encSys, e1]
      refine ⟨_, _, ⟨rfl, rfl⟩, la, ?_⟩
      have := rewards_of_loop hs o1 ad w (acc ++ [e.2.2]) e.2.1 (some (.int 1)) (some (.int e.2.1)) (some (.int e.2.2)) b1 hw' (hl' _) fun x k' l' m' => by simpa [wrew, R7284d.Spec.rewardOf, R7284d.Spec.successor, t1] using h x k' l' m'
      simpa [encSys] using this
theorem keep_rewards_of : Keeps ["system", "word", "rewards", "state", "letter", "target", "reward"] (pureSp p_rewards_of) rd_rewards_of := by
  rintro ds W AQ AX ⟨rfl, t, w, rfl, hs, hw, hl, hQ⟩
  have := hs.pos
  simp [rd_rewards_of]
  intro ad had
  have := rewards_of_loop (A := ⟨sRet (aFrz (aVar 2)) { nx := fun x W' => AQ D.non W', rt := AQ }, AQ, fun _ _ => False, fun _ _ => False⟩) hs (some (eW w)) ad w [] 0 none none none (by omega) hw (by simp; omega) fun x k' l' m' => by
    simp
    exact ⟨_, _, ⟨rfl, rfl⟩, by simpa [iL] using hQ⟩
  simpa using this
theorem dfold_le (g : Dis) (b : Int × Nat) (hg : OkD g) (h0 : 0 < b.2) : ∀ rs : List Int, 0 < (dfold g b rs).2 ∧ (dfold g b rs).2 ≤ 6 ^ rs.length * b.2
  | [] => ⟨h0, by simp [dfold]⟩
  | r :: rs => by
    obtain ⟨h1, h2⟩ := dfold_le g b hg h0 rs
    have := hg.p1
    refine ⟨Nat.mul_pos (by omega) h1, ?_⟩
    have := Nat.mul_le_mul hg.p2 h2
    simp only [dfold, List.length_cons, Nat.pow_succ]
    refine Nat.le_trans this (Nat.le_of_eq ?_)
    rw [Nat.mul_comm (6 ^ rs.length) 6, Nat.mul_assoc]
theorem discounted_loop {A : AEnds} {g : Dis} {b : Int × Nat} (hg : OkD g) (h0 : 0 < b.2) (hb : b.2 ≤ 1679616) (o0 o2 : Option D) : ∀ (qs r : List Int) (k : Option D), qs.length + r.length ≤ 8 →
    (∀ k', A.nx [o0, some (encDis g), o2, some (.int (dfold g b (qs.reverse ++ r)).1), some (.int ((dfold g b (qs.reverse ++ r)).2 : Nat)), k'] []) →
    forD (gNm 5) (sSeq (sAsg (aOp oAdd (aOp oMul (aOp oMul (aVar 5) (aOp oIx (aVar 1) (aC (.int 1)))) (aVar 4)) (aOp oMul (aOp oIx (aVar 1) (aC (.int 0))) (aVar 3))) (gNm 3))
    (sAsg (aOp oMul (aOp oIx (aVar 1) (aC (.int 1))) (aVar 4)) (gNm 4))) A (qs.map D.int) [o0, some (encDis g), o2, some (.int (dfold g b r).1), some (.int ((dfold g b r).2 : Nat)), k] []
  | [], r, k, _, h => by simpa using h k
  | c :: qs, r, k, hl, h => by
    obtain ⟨d1, d2⟩ := dfold_le g b hg h0 r
    have g1 := hg.p1
    have g2 := hg.p2
    have h6 : 6 ^ r.length ≤ 6 ^ 8 := Nat.pow_le_pow_right (by decide) (by simp at hl; omega)
    have h7 : 6 ^ r.length * b.2 ≤ 6 ^ 8 * 1679616 := Nat.mul_le_mul h6 hb
    have h8 : (dfold g b r).2 < 2 ^ 62 := Nat.lt_of_le_of_lt (Nat.le_trans d2 h7) (by decide)
    simp
    refine ⟨.inr (by omega), .inr ⟨by omega, by omega⟩, .inl (by omega), .inl (by omega), ?_⟩
    have := discounted_loop hg h0 hb o0 o2 qs (c :: r) (some (.int c)) (by simp at hl ⊢; omega) fun k' => by simpa using h k'
    simpa [dfold] using this
theorem keep_discounted : Keeps ["rewards", "discount", "behind", "top", "bottom", "reward"] (pureSp p_discounted) rd_discounted := by
  rintro ds W AQ AX ⟨rfl, rs, g, b, rfl, hg, hl, h0, hb, hQ⟩
  simp [rd_discounted]
  rw [← List.map_reverse]
  have := discounted_loop (A := ⟨sRet (aCallP p_reduced (aCons (aVar 3) (aCons (aVar 4) aNil))) { nx := fun x W' => AQ D.non W', rt := AQ }, AQ, fun _ _ => False, fun _ _ => False⟩) hg h0 hb (some (iL rs)) (some (.tup [.int b.1, .int (b.2 : Nat)])) rs.reverse [] none (by simpa using hl) fun k' => by
    obtain ⟨d1, d2⟩ := dfold_le g b hg h0 rs
    have h6 : 6 ^ rs.length ≤ 6 ^ 8 := Nat.pow_le_pow_right (by decide) hl
    have h7 : 6 ^ rs.length * b.2 ≤ 6 ^ 8 * 1679616 := Nat.mul_le_mul h6 hb
    have h8 : (dfold g b rs).2 < 2 ^ 62 := Nat.lt_of_le_of_lt (Nat.le_trans d2 h7) (by decide)
    simp
    exact ⟨_, _, rfl, d1, h8, hQ⟩
  simpa [dfold] using this
theorem wrew_length (t : Sys) : ∀ (p : Nat) (w : Wrd), (wrew t p w).length = w.length
  | _, [] => rfl
  | p, c :: w => congrArg (· + 1) (wrew_length t _ w)
theorem keep_word_reward : Keeps ["system", "discount", "word"] (pureSp p_word_reward) rd_word_reward := by
  rintro ds W AQ AX ⟨rfl, t, g, w, rfl, hs, hg, hw, hl, hQ⟩
  simp [rd_word_reward]
  refine ⟨t, w, rfl, hs, hw, by omega, ?_⟩
  exact ⟨wrew t 0 w, g, (0, 1), rfl, hg, by rw [wrew_length]; exact hl, by decide, by decide, hQ⟩
theorem keep_preserves : Keeps ["system", "discount", "best", "state", "letter", "target", "reward"] (pureSp p_preserves) rd_preserves := by
  rintro ds W AQ AX ⟨rfl, t, g, best, s, c, rfl, hs, hg, hb, h1, hc, hQ⟩
  obtain ⟨e, e1, t0, t1, b0, b1⟩ := sys_at2 hs h1
  have key : ∀ tr : Nat × Int, R7284d.Spec.transitionAt t s c = tr → tr.1 < t.length → ∃ q r, best[tr.1]? = some q ∧ best[s]? = some r ∧ 0 < (frN q).2 ∧ (frN q).2 ≤ 1679616 ∧ 0 ≤ q.2 ∧ presF t g best s c = decide (disc g [tr.2] (frN q) = r) := by
    intro tr htr hlt
    rw [← hb.len] at hlt h1
    have q1 := hb.den best[tr.1] (List.getElem_mem hlt)
    refine ⟨best[tr.1], best[s], by simp [hlt], by simp [h1], by simp [frN]; omega, by simp [frN]; omega, by omega, ?_⟩
    simp [presF, R7284d.Spec.rewardOf, R7284d.Spec.successor, htr, hlt, h1]
  rcases c01 hc with rfl | rfl
  · obtain ⟨q, r, q1, q2, q3, q4, q5, q6⟩ := key e.1 t0 b0
    simp [rd_preserves, e1, q1, q2]
    refine ⟨[e.1.2], g, frN q, by simp [frN, iL]; omega, hg, by simp, q3, q4, ?_⟩
    simp
    refine ⟨[(disc g [e.1.2] (frN q)).1, (disc g [e.1.2] (frN q)).2], by simp, [r.1, r.2], by simp, ?_⟩
    rw [q6] at hQ
    simpa [Prod.ext_iff] using hQ
  · obtain ⟨q, r, q1, q2, q3, q4, q5, q6⟩ := key e.2 t1 b1
    simp [rd_preserves, e1, q1, q2]
    refine ⟨[e.2.2], g, frN q, by simp [frN, iL]; omega, hg, by simp, q3, q4, ?_⟩
    simp
    refine ⟨[(disc g [e.2.2] (frN q)).1, (disc g [e.2.2] (frN q)).2], by simp, [r.1, r.2], by simp, ?_⟩
    rw [q6] at hQ
    simpa [Prod.ext_iff] using hQ
theorem succ_lt {t : Sys} (hs : OkS t) {s c : Nat} (h : s < t.length) (hc : c < 2) : R7284d.Spec.successor t s c < t.length := by
  obtain ⟨e, e1, t0, t1, b0, b1⟩ := sys_at2 hs h
  rcases c01 hc with rfl | rfl
  · rw [R7284d.Spec.successor, t0]; exact b0
  · rw [R7284d.Spec.successor, t1]; exact b1
theorem end_lt {t : Sys} (hs : OkS t) : ∀ (w : Wrd) (s : Nat), s < t.length → two w → R7284d.Spec.endState t s w < t.length
  | [], s, h, _ => h
  | c :: w, s, h, hw => end_lt hs w _ (succ_lt hs h (hw c List.mem_cons_self)) fun c' h' => hw c' (List.mem_cons_of_mem _ h')
theorem is_optimal_loop {A : AEnds} {t : Sys} {g : Dis} {best : List (Int × Int)} (hs : OkS t) (hg : OkD g) (hb : OkB t best) (o3 : Option D) : ∀ (w : Wrd) (s : Nat) (k : Option D), s < t.length → two w → (isOptF t g best s w = true → ∀ x k', A.nx [some (encSys t), some (encDis g), some (bestD best), o3, x, k'] []) → (isOptF t g best s w = false → A.rt (.bl false) []) →
    forD (gNm 5) (sSeq (sIf (aNot (aB (aCallP p_preserves (aCons (aVar 0) (aCons (aVar 1) (aCons (aVar 2) (aCons (aVar 4) (aCons (aVar 5) aNil)))))))) (sRet (aC (.bl false))) sNext)
    (sAsg (aOp oIx (aOp oIx (aOp oIx (aVar 0) (aVar 4)) (aVar 5)) (aC (.int 0))) (gNm 4))) A (w.map fun (c : Nat) => D.int (c : Int)) [some (encSys t), some (encDis g), some (bestD best), o3, some (.int s), k] []
  | [], s, k, _, _, h, _ => by simpa using h rfl (some (.int s)) k
  | c :: w, s, k, h1, hw, h, hr => by
    have hw' : two w := fun c' h' => hw c' (List.mem_cons_of_mem _ h')
    have hc := hw c List.mem_cons_self
    simp
    refine ⟨t, g, best, s, c, rfl, hs, hg, hb, h1, hc, ?_⟩
    obtain ⟨e, e1, t0, t1, b0, b1⟩ := sys_at2 hs h1
    cases ep : presF t g best s c with
    | false =>
      simp
      exact hr (by simp [isOptF, ep])
    | true =>
      rcases c01 hc with rfl | rfl
      · simp [e1]
        exact is_optimal_loop hs hg hb o3 w e.1.1 (some (.int 0)) b0 hw' (fun z => h (by simpa [isOptF, ep, R7284d.Spec.successor, t0] using z)) fun z => hr (by simpa [isOptF, ep, R7284d.Spec.successor, t0] using z)
      · simp [e1]
        exact is_optimal_loop hs hg hb o3 w e.2.1 (some (.int 1)) b1 hw' (fun z => h (by simpa [isOptF, ep, R7284d.Spec.successor, t1] using z)) fun z => hr (by simpa [isOptF, ep, R7284d.Spec.successor, t1] using z)
theorem keep_is_optimal : Keeps ["system", "discount", "best", "word", "state", "letter"] (pureSp p_is_optimal) rd_is_optimal := by
  rintro ds W AQ AX ⟨rfl, t, g, best, w, rfl, hs, hg, hb, hw, hQ⟩
  have := hs.pos
  simp [rd_is_optimal]
  have := is_optimal_loop (A := ⟨sRet (aC (.bl true)) { nx := fun x W' => AQ D.non W', rt := AQ }, AQ, fun _ _ => False, fun _ _ => False⟩) hs hg hb (some (eW w)) w 0 none (by omega) hw (fun e x k => by simpa [e] using hQ) fun e => by simpa [e] using hQ
  simpa using this
theorem longer_length (t : Sys) (g : Dis) (best : List (Int × Int)) : ∀ ws : List Wrd, (longerF t g best ws).length ≤ 2 * ws.length
  | [] => Nat.le_refl _
  | w :: ws => by
    have ih := longer_length t g best ws
    have : ([0, 1].filter fun c => presF t g best (R7284d.Spec.endState t 0 w) c).length ≤ 2 := List.length_filter_le _ _
    simp only [longerF, List.flatMap_cons, List.length_append, List.length_map, List.length_cons] at ih ⊢
    omega
theorem longer_loop {A : AEnds} {t : Sys} {g : Dis} {best : List (Int × Int)} (hs : OkS t) (hg : OkD g) (hb : OkB t best) (o3 : Option D) (ad : Addr) : ∀ (ws acc : List Wrd) (k l m : Option D), (∀ w ∈ ws, two w ∧ w.length ≤ 10) → acc.length + 2 * ws.length ≤ 10000 →
    (∀ k' l' m', A.nx [some (encSys t), some (encDis g), some (bestD best), o3, some (.adr ad), k', l', m'] [(ad, .lst ((acc ++ longerF t g best ws).map fun w => eW w))]) →
    forD (gNm 5) (sSeq (sAsg (aCallP p_end_of (aCons (aVar 0) (aCons (aVar 5) aNil))) (gNm 6))
    (sFor (iRng1A (aC (.int 2))) (gNm 7) (sIf (aB (aCallP p_preserves (aCons (aVar 0) (aCons (aVar 1) (aCons (aVar 2) (aCons (aVar 6) (aCons (aVar 7) aNil))))))) (sApp (aVar 4) (aOp oAdd (aVar 5) (aLst (aCons (aVar 7) aNil)))) sNext))) A (ws.map fun w => eW w) [some (encSys t), some (encDis g), some (bestD best), o3, some (.adr ad), k, l, m] [(ad, .lst (acc.map fun w => eW w))]
  | [], acc, k, l, m, _, _, h => by simpa [longerF] using h k l m
  | w :: ws, acc, k, l, m, hw, hl, h => by
    obtain ⟨hw2, hw10⟩ := hw w List.mem_cons_self
    have hp := hs.pos
    have he := end_lt hs w 0 (by omega) hw2
    have e0 : ∀ (a : Wrd) (ac : List Wrd), List.map (fun w => eW w) ac ++ [D.lst (List.map (fun (k : Nat) => D.int (k : Int)) a ++ [D.int 0])] = List.map (fun w => eW w) (ac ++ [a ++ [0]]) := fun a ac => by simp [eW]
    have e1 : ∀ (a : Wrd) (ac : List Wrd), List.map (fun w => eW w) ac ++ [D.lst (List.map (fun (k : Nat) => D.int (k : Int)) a ++ [D.int 1])] = List.map (fun w => eW w) (ac ++ [a ++ [1]]) := fun a ac => by simp [eW]
    have fin : ∀ cs : List Nat, cs.length ≤ 2 → (acc ++ longerF t g best (w :: ws)) = (acc ++ cs.map fun c => w ++ [c]) ++ longerF t g best ws → ∀ k' l' m', forD (gNm 5) (sSeq (sAsg (aCallP p_end_of (aCons (aVar 0) (aCons (aVar 5) aNil))) (gNm 6))
      (sFor (iRng1A (aC (.int 2))) (gNm 7) (sIf (aB (aCallP p_preserves (aCons (aVar 0) (aCons (aVar 1) (aCons (aVar 2) (aCons (aVar 6) (aCons (aVar 7) aNil))))))) (sApp (aVar 4) (aOp oAdd (aVar 5) (aLst (aCons (aVar 7) aNil)))) sNext))) A (ws.map fun w => eW w) [some (encSys t), some (encDis g), some (bestD best), o3, some (.adr ad), k', l', m'] [(ad, .lst ((acc ++ cs.map fun c => w ++ [c]).map fun w => eW w))] := by
      intro cs hcs heq k' l' m'
      refine longer_loop hs hg hb o3 ad ws _ k' l' m' (fun w' h' => hw w' (List.mem_cons_of_mem _ h')) (by simp at hl ⊢; omega) fun k'' l'' m'' => ?_
      rw [← heq]
      exact h k'' l'' m''
    have la : ∀ (n : Nat), n ≤ 2 → acc.length + n < 16000000 := fun n hn => by simp at hl; omega
    simp
    refine ⟨t, w, rfl, hs, hw2, ?_⟩
    simp [List.range, List.range.loop]
    refine ⟨t, g, best, _, 0, rfl, hs, hg, hb, he, by decide, ?_⟩
    cases p0 : presF t g best (R7284d.Spec.endState t 0 w) 0 with
    | false =>
      simp
      refine ⟨t, g, best, _, 1, rfl, hs, hg, hb, he, by decide, ?_⟩
      cases p1 : presF t g best (R7284d.Spec.endState t 0 w) 1 with
      | false =>
        simp
        have := fin [] (by decide) (by simp [longerF, p0, p1]) (some (eW w)) (some (.int (R7284d.Spec.endState t 0 w : Nat))) (some (.int 1))
        simpa [eW] using this
      | true =>
        simp
        refine ⟨by omega, _, _, ⟨rfl, rfl⟩, by simpa using la 0 (by decide), ?_⟩
        have := fin [1] (by decide) (by simp [longerF, p0, p1]) (some (eW w)) (some (.int (R7284d.Spec.endState t 0 w : Nat))) (some (.int 1))
        simpa [eW] using this
    | true =>
      simp
      refine ⟨by omega, _, _, ⟨rfl, rfl⟩, by simpa using la 0 (by decide), ?_⟩
      refine ⟨t, g, best, _, 1, rfl, hs, hg, hb, he, by decide, ?_⟩
      cases p1 : presF t g best (R7284d.Spec.endState t 0 w) 1 with
      | false =>
        simp
        have := fin [0] (by decide) (by simp [longerF, p0, p1]) (some (eW w)) (some (.int (R7284d.Spec.endState t 0 w : Nat))) (some (.int 1))
        simpa [eW] using this
      | true =>
        simp
        refine ⟨by omega, _, _, ⟨rfl, rfl⟩, by simpa using la 1 (by decide), ?_⟩
        have := fin [0, 1] (by decide) (by simp [longerF, p0, p1]) (some (eW w)) (some (.int (R7284d.Spec.endState t 0 w : Nat))) (some (.int 1))
        simpa [eW] using this
theorem keep_longer_words : Keeps ["system", "discount", "best", "words", "longer", "word", "state", "letter"] (pureSp p_longer_words) rd_longer_words := by
  rintro ds W AQ AX ⟨rfl, t, g, best, ws, rfl, hs, hg, hb, hw, hl, hQ⟩
  simp [rd_longer_words]
  intro ad had
  have := longer_loop (A := ⟨sRet (aFrz (aVar 4)) { nx := fun x W' => AQ D.non W', rt := AQ }, AQ, fun _ _ => False, fun _ _ => False⟩) hs hg hb (some (.lst (ws.map fun w => eW w))) ad ws [] none none none hw (by simp; omega) fun k l m => by
    simp
    exact ⟨_, _, ⟨rfl, rfl⟩, by simpa using hQ⟩
  simpa using this
theorem last_ok (t : Sys) (g : Dis) (best : List (Int × Int)) : ∀ n, (∀ w ∈ lastF t g best n, two w ∧ w.length = n) ∧ (lastF t g best n).length ≤ 2 ^ n
  | 0 => ⟨fun w h => by
      have : w = [] := by simpa [lastF] using h
      subst this
      exact ⟨(fun c hc => nomatch hc), rfl⟩, by simp [lastF]⟩
  | n + 1 => by
    obtain ⟨h1, h2⟩ := last_ok t g best n
    refine ⟨fun w h => ?_, ?_⟩
    · simp only [lastF, longerF, List.mem_flatMap, List.mem_map, List.mem_filter] at h
      obtain ⟨v, hv, c, ⟨hc, _⟩, rfl⟩ := h
      obtain ⟨a, b⟩ := h1 v hv
      refine ⟨fun d hd => ?_, by simp [b]⟩
      rcases List.mem_append.mp hd with z | z
      · exact a d z
      · simp at z hc
        omega
    · have := longer_length t g best (lastF t g best n)
      simp only [lastF, Nat.pow_succ]
      omega
theorem opt_length (t : Sys) (g : Dis) (best : List (Int × Int)) : ∀ n, (optWordsF t g best n).length ≤ 2 ^ (n + 1)
  | 0 => by simp [optWordsF]
  | n + 1 => by
    have h1 := opt_length t g best n
    have h2 := (last_ok t g best (n + 1)).2
    simp only [optWordsF, List.length_append, Nat.pow_succ] at *
    omega
theorem optimal_words_loop {A : AEnds} {t : Sys} {g : Dis} {best : List (Int × Int)} (hs : OkS t) (hg : OkD g) (hb : OkB t best) (o3 : Option D) (n : Nat) (hn : n ≤ 5) : ∀ (m j : Nat) (ks : List D) (k : Option D), j + m = n → ks.length = m → (∀ x k', A.nx [some (encSys t), some (encDis g), some (bestD best), o3, some (.lst ((optWordsF t g best n).map fun w => eW w)), x, k'] []) →
    forD (gNm 6) (sSeq (sAsg (aCallP p_longer_words (aCons (aVar 0) (aCons (aVar 1) (aCons (aVar 2) (aCons (aVar 5) aNil))))) (gNm 5))
    (sAsg (aOp oAdd (aVar 4) (aVar 5)) (gNm 4))) A ks [some (encSys t), some (encDis g), some (bestD best), o3, some (.lst ((optWordsF t g best j).map fun w => eW w)), some (.lst ((lastF t g best j).map fun w => eW w)), k] [] := by
  intro m
  induction m with
  | zero =>
    intro j ks k hj hk h
    have e1 : ks = [] := List.eq_nil_of_length_eq_zero hk
    have e2 : j = n := by omega
    subst e1 e2
    simpa using h _ k
  | succ m ih =>
    intro j ks k hj hk h
    cases ks with
    | nil => simp at hk
    | cons d ks =>
      obtain ⟨h1, h2⟩ := last_ok t g best j
      have h3 := (last_ok t g best (j + 1)).2
      have h4 := opt_length t g best j
      have h5 : 2 ^ (j + 1) ≤ 2 ^ 5 := Nat.pow_le_pow_right (by decide) (by omega)
      have h6 : 2 ^ j ≤ 2 ^ (j + 1) := Nat.pow_le_pow_right (by decide) (by omega)
      simp
      refine ⟨t, g, best, lastF t g best j, rfl, hs, hg, hb, fun w hw => ⟨(h1 w hw).1, by rw [(h1 w hw).2]; omega⟩, by omega, ?_⟩
      simp
      refine ⟨?_, ?_⟩
      · have : (longerF t g best (lastF t g best j)).length = (lastF t g best (j + 1)).length := rfl
        omega
      · have := ih (j + 1) ks (some d) (by omega) (by simpa using hk) h
        simpa [optWordsF, lastF] using this
theorem keep_optimal_words : Keeps ["system", "discount", "best", "most", "words", "last", "k"] (pureSp p_optimal_words) rd_optimal_words := by
  rintro ds W AQ AX ⟨rfl, t, g, best, n, rfl, hs, hg, hb, hn, hQ⟩
  simp [rd_optimal_words]
  refine ⟨by omega, ?_⟩
  have := optimal_words_loop (A := ⟨sRet (aVar 4) { nx := fun x W' => AQ D.non W', rt := AQ }, AQ, fun _ _ => False, fun _ _ => False⟩) hs hg hb (some (.int n)) n hn n 0 ((List.range n).map fun (i : Nat) => D.int (i : Int)) none (by omega) (by simp) fun x k => by simpa using hQ
  simpa [optWordsF, lastF, eW] using this
end Dsn
end

section
set_option maxHeartbeats 4000000
/-! # The checks of arguments -/
namespace Dsn
open PySem PySem.Spec PyProof.Rows L2 Hd
open R7284d.Spec (readSystem readDiscount readWord readPolicy readInteger integerInRange parseState parseTransition parseReward readAll)
abbrev Err := R7284d.Spec.Err
def clsA (K : PySem.W.Frag) : R7284d.Spec.Cls → Addr
  | .typeError => cWrongKind K
  | .rangeError => cOutOfRange K
/-- the text says the message -/
def Msg (e : Err) (m : Str) : Prop := octs m = (e.msg.map fun u => ((u.toNat : Nat) : Int)) ∧ m.length ≤ 1000
def isBetV : RWire.Value → Int → Int → Bool
  | .int i, a, b => decide (a ≤ i ∧ i ≤ b)
  | _, _, _ => false
def isPairV : RWire.Value → Bool
  | .list [_, _] => true
  | _ => false
def isTrV (n : Nat) : RWire.Value → Bool
  | .list [a, b] => isBetV a 0 ((n : Int) - 1) && isBetV b (-9) 9
  | _ => false
def isStV (n : Nat) : RWire.Value → Bool
  | .list [a, b] => isTrV n a && isTrV n b
  | _ => false
def isDisV : RWire.Value → Bool
  | .list [.int i, .int j] => decide (1 ≤ j ∧ j ≤ 6 ∧ 1 ≤ i ∧ i ≤ j - 1 ∧ Nat.gcd i.toNat j.toNat = 1)
  | _ => false
def areLetV : RWire.Value → Bool
  | .text u => u.all fun c => decide (c.toNat = 97 ∨ c.toNat = 98)
  | _ => false
def octV : RWire.Value → List UInt8
  | .text u => u
  | _ => []
def p_is_between (C : Addr) : List D → (D → Prop) → Prop := fun ds Q => ∃ (v : RWire.Value) (a b : Int), ds = [encV C v, .int a, .int b] ∧ okV v = true ∧ Q (.bl (isBetV v a b))
def p_is_pair (C : Addr) : List D → (D → Prop) → Prop := fun ds Q => ∃ v : RWire.Value, ds = [encV C v] ∧ okV v = true ∧ Q (.bl (isPairV v))
def p_is_transition (C : Addr) : List D → (D → Prop) → Prop := fun ds Q => ∃ (v : RWire.Value) (n : Nat), ds = [encV C v, .int n] ∧ okV v = true ∧ Q (.bl (isTrV n v))
def p_is_state (C : Addr) : List D → (D → Prop) → Prop := fun ds Q => ∃ (v : RWire.Value) (n : Nat), ds = [encV C v, .int n] ∧ okV v = true ∧ Q (.bl (isStV n v))
def p_transition_of (C : Addr) : List D → (D → Prop) → Prop := fun ds Q => ∃ i j : Int, ds = [encV C (.list [.int i, .int j])] ∧ Q (.tup [.int i, .int j])
def p_is_discount (C : Addr) : List D → (D → Prop) → Prop := fun ds Q => ∃ v : RWire.Value, ds = [encV C v] ∧ okV v = true ∧ Q (.bl (isDisV v))
def p_are_letters (C : Addr) : List D → (D → Prop) → Prop := fun ds Q => ∃ v : RWire.Value, ds = [encV C v] ∧ okV v = true ∧ Q (.bl (areLetV v))
def p_letters_of (C : Addr) : List D → (D → Prop) → Prop := fun ds Q => ∃ v : RWire.Value, ds = [encV C v] ∧ okV v = true ∧ areLetV v = true ∧ (octV v).length ≤ 1000 ∧ Q (eW ((octV v).map fun c => c.toNat - 97))
/-- what is read of a value, or its refusal -/
def PX {α : Type} (K : PySem.W.Frag) (rd : RWire.Value → Except Err α) (enc : α → D) (more : RWire.Value → List D) : List D → (D → Prop) → (Addr → Str → Prop) → Prop := fun ds Q X =>
  ∃ v : RWire.Value, ds = encV (cValue K) v :: more v ∧ okV v = true ∧ (∀ a, rd v = .ok a → Q (enc a)) ∧ (∀ e, rd v = .error e → ∀ m, Msg e m → X (clsA K e.cls) m)
def p_system_of (K : PySem.W.Frag) : List D → (D → Prop) → (Addr → Str → Prop) → Prop := PX K (fun v => readSystem (Rust.taken v)) encSys fun _ => []
def p_discount_of (K : PySem.W.Frag) : List D → (D → Prop) → (Addr → Str → Prop) → Prop := PX K (fun v => readDiscount (Rust.taken v)) encDis fun _ => []
def p_word_of (K : PySem.W.Frag) : List D → (D → Prop) → (Addr → Str → Prop) → Prop := PX K (fun v => readWord (Rust.taken v)) (fun w => eW w) fun _ => []
def p_policy_of (K : PySem.W.Frag) : List D → (D → Prop) → (Addr → Str → Prop) → Prop := fun ds Q X => ∃ t : Sys, t.length ≤ 3 ∧ PX K (fun v => readPolicy t (Rust.taken v)) (fun w => eW w) (fun _ => [.int (t.length : Nat)]) ds Q X
def p_length_of (K : PySem.W.Frag) : List D → (D → Prop) → (Addr → Str → Prop) → Prop := PX K (fun v => readInteger "maxLength" 0 5 (Rust.taken v)) (fun n => .int (n : Nat)) fun _ => []
def rd_is_between (K : PySem.W.Frag) : AS :=
  (sRet (aAndV (aOp oEq (aFld (cValue K) nsValue 0 (aVar 0)) (aC (.int 4))) (aAndV (aOp oGe (aFld (cValue K) nsValue 1 (aVar 0)) (aVar 1)) (aOp oLe (aFld (cValue K) nsValue 1 (aVar 0)) (aVar 2)))))
theorem dv_is_between {P : Program} {w : World} {K : PySem.W.Frag} {mg : Str → Option Value} {base : Heap} (T : Tx K mg) : Rds P w K mg base ["value", "least", "most"] "is_between" (defScope s_is_between) (He.ga K "is_between") (defBody s_is_between) 0 (rd_is_between K) := by
  intro cdv A outer s H E hr
  exact (dss_one (ds_ret (de_and (de_eq hr (de_fld 0 T.c_Value (de_var 0)) (de_gl T.i_INTEGER)) (de_and (de_ge (de_fld 1 T.c_Value (de_var 0)) (de_var 1)) (de_one (de_le (de_fld 1 T.c_Value (de_var 0)) (de_var 2)))))))
def rd_is_pair (K : PySem.W.Frag) : AS :=
  (sRet (aAndV (aOp oEq (aFld (cValue K) nsValue 0 (aVar 0)) (aC (.int 7))) (aOp oEq (aCB cLen (aCons (aFld (cValue K) nsValue 3 (aVar 0)) aNil)) (aC (.int 2)))))
theorem dv_is_pair {P : Program} {w : World} {K : PySem.W.Frag} {mg : Str → Option Value} {base : Heap} (T : Tx K mg) : Rds P w K mg base ["value"] "is_pair" (defScope s_is_pair) (He.ga K "is_pair") (defBody s_is_pair) 0 (rd_is_pair K) := by
  intro cdv A outer s H E hr
  exact (dss_one (ds_ret (de_and (de_eq hr (de_fld 0 T.c_Value (de_var 0)) (de_gl T.i_LIST)) (de_one (de_eq hr (de_len T.b_len (de_fld 3 T.c_Value (de_var 0))) (de_int))))))
def rd_is_transition (K : PySem.W.Frag) : AS :=
  (sSeq (sIf (aNot (aB (aCallP (p_is_pair (cValue K)) (aCons (aVar 0) aNil)))) (sRet (aC (.bl false))) sNext)
    (sRet (aAndV (aCallP (p_is_between (cValue K)) (aCons (aOp oIx (aFld (cValue K) nsValue 3 (aVar 0)) (aC (.int 0))) (aCons (aC (.int 0)) (aCons (aOp oSub (aVar 1) (aC (.int 1))) aNil)))) (aCallP (p_is_between (cValue K)) (aCons (aOp oIx (aFld (cValue K) nsValue 3 (aVar 0)) (aC (.int 1))) (aCons (aUn oNeg (aC (.int 9))) (aCons (aC (.int 9)) aNil)))))))
theorem dv_is_transition {P : Program} {w : World} {K : PySem.W.Frag} {mg : Str → Option Value} {base : Heap} (T : Tx K mg)
    (F_is_pair : Cal P w K mg base CX0 1 "is_pair" ["value"] (pureSp (p_is_pair (cValue K))))
    (F_is_between : Cal P w K mg base CX0 1 "is_between" ["value", "least", "most"] (pureSp (p_is_between (cValue K)))) : Rds P w K mg base ["value", "many"] "is_transition" (defScope s_is_transition) (He.ga K "is_transition") (defBody s_is_transition) 1 (rd_is_transition K) := by
  intro cdv A outer s H E hr
  exact (dss_cons (ds_if (dt_not (dt_of (de_callP F_is_pair (hr.mono (by decide)) (da_cons (de_var 0) da_nil)))) (dss_one (ds_ret (de_bl))) dss_nil)
    (dss_one (ds_ret (de_and (de_callP F_is_between (hr.mono (by decide)) (da_cons (de_ix (de_fld 3 T.c_Value (de_var 0)) (de_int)) (da_cons (de_int) (da_cons (de_sub (de_var 1) (de_int)) da_nil)))) (de_one (de_callP F_is_between (hr.mono (by decide)) (da_cons (de_ix (de_fld 3 T.c_Value (de_var 0)) (de_int)) (da_cons (de_neg (de_gl T.i_MOST_REWARD)) (da_cons (de_gl T.i_MOST_REWARD) da_nil)))))))))
def rd_is_state (K : PySem.W.Frag) : AS :=
  (sSeq (sIf (aNot (aB (aCallP (p_is_pair (cValue K)) (aCons (aVar 0) aNil)))) (sRet (aC (.bl false))) sNext)
    (sRet (aAndV (aCallP (p_is_transition (cValue K)) (aCons (aOp oIx (aFld (cValue K) nsValue 3 (aVar 0)) (aC (.int 0))) (aCons (aVar 1) aNil))) (aCallP (p_is_transition (cValue K)) (aCons (aOp oIx (aFld (cValue K) nsValue 3 (aVar 0)) (aC (.int 1))) (aCons (aVar 1) aNil))))))
theorem dv_is_state {P : Program} {w : World} {K : PySem.W.Frag} {mg : Str → Option Value} {base : Heap} (T : Tx K mg)
    (F_is_pair : Cal P w K mg base CX0 1 "is_pair" ["value"] (pureSp (p_is_pair (cValue K))))
    (F_is_transition : Cal P w K mg base CX0 2 "is_transition" ["value", "many"] (pureSp (p_is_transition (cValue K)))) : Rds P w K mg base ["value", "many"] "is_state" (defScope s_is_state) (He.ga K "is_state") (defBody s_is_state) 2 (rd_is_state K) := by
  intro cdv A outer s H E hr
  exact (dss_cons (ds_if (dt_not (dt_of (de_callP F_is_pair (hr.mono (by decide)) (da_cons (de_var 0) da_nil)))) (dss_one (ds_ret (de_bl))) dss_nil)
    (dss_one (ds_ret (de_and (de_callP F_is_transition (hr.mono (by decide)) (da_cons (de_ix (de_fld 3 T.c_Value (de_var 0)) (de_int)) (da_cons (de_var 1) da_nil))) (de_one (de_callP F_is_transition (hr.mono (by decide)) (da_cons (de_ix (de_fld 3 T.c_Value (de_var 0)) (de_int)) (da_cons (de_var 1) da_nil))))))))
def rd_transition_of (K : PySem.W.Frag) : AS :=
  (sRet (aTup (aCons (aFld (cValue K) nsValue 1 (aOp oIx (aFld (cValue K) nsValue 3 (aVar 0)) (aC (.int 0)))) (aCons (aFld (cValue K) nsValue 1 (aOp oIx (aFld (cValue K) nsValue 3 (aVar 0)) (aC (.int 1)))) aNil))))
theorem dv_transition_of {P : Program} {w : World} {K : PySem.W.Frag} {mg : Str → Option Value} {base : Heap} (T : Tx K mg) : Rds P w K mg base ["value"] "transition_of" (defScope s_transition_of) (He.ga K "transition_of") (defBody s_transition_of) 0 (rd_transition_of K) := by
  intro cdv A outer s H E hr
  exact (dss_one (ds_ret (de_tup (da_cons (de_fld 1 T.c_Value (de_ix (de_fld 3 T.c_Value (de_var 0)) (de_int))) (da_cons (de_fld 1 T.c_Value (de_ix (de_fld 3 T.c_Value (de_var 0)) (de_int))) da_nil)))))
def rd_system_of (K : PySem.W.Frag) (x : XW) : AS :=
  (sSeq (sIf (aOr (aB (aOp oNe (aFld (cValue K) nsValue 0 (aVar 0)) (aC (.int 7)))) (aOr (aB (aOp oLt (aCB cLen (aCons (aFld (cValue K) nsValue 3 (aVar 0)) aNil)) (aC (.int 1)))) (aB (aOp oGt (aCB cLen (aCons (aFld (cValue K) nsValue 3 (aVar 0)) aNil)) (aC (.int 3)))))) (sRaise x (cWrongKind K) (aC (.str "system must be a list of 1 to 3 states"))) sNext)
    (sSeq (sAsg (aCB cLen (aCons (aFld (cValue K) nsValue 3 (aVar 0)) aNil)) (gNm 1))
    (sSeq (sFor (iEnumA (aFld (cValue K) nsValue 3 (aVar 0))) (gTp 2 (gC1 (gNm 2) (gC1 (gNm 3) gN0))) (sIf (aNot (aB (aCallP (p_is_state (cValue K)) (aCons (aVar 3) (aCons (aVar 1) aNil))))) (sRaise x (cOutOfRange K) (aJoin [(aC (.str "state ")), (aFmt (aVar 2)), (aC (.str " of system is malformed"))])) sNext))
    (sRet (aLc (iListA (aFld (cValue K) nsValue 3 (aVar 0))) (gNm 3) aYes (aTup (aCons (aCallP (p_transition_of (cValue K)) (aCons (aOp oIx (aFld (cValue K) nsValue 3 (aVar 3)) (aC (.int 0))) aNil)) (aCons (aCallP (p_transition_of (cValue K)) (aCons (aOp oIx (aFld (cValue K) nsValue 3 (aVar 3)) (aC (.int 1))) aNil)) aNil))) [3])))))
theorem dv_system_of {P : Program} {w : World} {K : PySem.W.Frag} {mg : Str → Option Value} {base : Heap} (T : Tx K mg)
    (F_is_state : Cal P w K mg base CX0 3 "is_state" ["value", "many"] (pureSp (p_is_state (cValue K))))
    (F_transition_of : Cal P w K mg base CX0 1 "transition_of" ["value"] (pureSp (p_transition_of (cValue K)))) : RdsX P w K mg base ["value", "many", "at", "part"] "system_of" (defScope s_system_of) (He.ga K "system_of") (defBody s_system_of) 3 (rd_system_of K) := by
  intro cdv A outer s H E AX hr
  have hx : Passes (L2N.CX P w) (cxOf (L2N.CX P w) P w K mg base ["value", "many", "at", "part"] "system_of" (defScope s_system_of) (He.ga K "system_of") cdv A outer s H E) E := L2N.passes_call (L2N.takes_of rfl rfl rfl rfl) fun _ _ _ _ h => h
  exact (dss_cons (ds_if (dt_w (dw_or (dt_ne (de_fld 0 T.c_Value (de_var 0)) (de_gl T.i_LIST)) (dw_or (dt_lt (de_len T.b_len (de_fld 3 T.c_Value (de_var 0))) (de_int)) (dw_or1 (dt_gt (de_len T.b_len (de_fld 3 T.c_Value (de_var 0))) (de_gl T.i_MOST_STATES)))))) (dss_one (ds_raiseX T.x_WrongKind hr (by decide) rfl (L2N.takes_of rfl rfl rfl rfl) (de_str) (by rfl) (by decide))) dss_nil)
    (dss_cons (ds_set 1 sc_system_of.nd (de_len T.b_len (de_fld 3 T.c_Value (de_var 0))))
    (dss_cons (ds_for (passes_of rfl) (di_enum T.b_enumerate (de_fld 3 T.c_Value (de_var 0))) (dg_tp (dgs_cons (dg_nm 2 sc_system_of.nd) (dgs_cons (dg_nm 3 sc_system_of.nd) dgs_nil))) (dss_one (ds_if (dt_not (dt_of (de_callP F_is_state (hr.mono (by decide)) (da_cons (de_var 3) (da_cons (de_var 1) da_nil))))) (dss_one (ds_raiseX T.x_OutOfRange hr (by decide) rfl (L2N.takes_of rfl rfl rfl rfl) (de_join (dj_cons (de_str) (dj_cons (de_fmt (de_var 2)) (dj_cons (de_str) dj_nil)))) (by rfl) (by decide))) dss_nil)))
    (dss_one (ds_ret (de_lc [("part", 3)] 3 sc_system_of.nd (blkOk_by (own := [("part", 3)]) (N := ["value", "many", "at", "part"]) (sc := defScope s_system_of) (by decide +kernel)) (di_list (de_fld 3 T.c_Value (de_var 0))) (fun _ _ _ _ _ => pg_name (i := 3) sc_system_of.nd rfl (Or.inl rfl)) (fun _ _ _ _ _ => (de_tup (da_cons (de_callP F_transition_of (hr.mono (by decide)) (da_cons (de_ix (de_fld 3 T.c_Value (de_var 3)) (de_int)) da_nil)) (da_cons (de_callP F_transition_of (hr.mono (by decide)) (da_cons (de_ix (de_fld 3 T.c_Value (de_var 3)) (de_int)) da_nil)) da_nil))))))))))
def rd_is_discount (K : PySem.W.Frag) : AS :=
  (sSeq (sIf (aNot (aB (aCallP (p_is_pair (cValue K)) (aCons (aVar 0) aNil)))) (sRet (aC (.bl false))) sNext)
    (sSeq (sAsg (aOp oIx (aFld (cValue K) nsValue 3 (aVar 0)) (aC (.int 0))) (gNm 1))
    (sSeq (sAsg (aOp oIx (aFld (cValue K) nsValue 3 (aVar 0)) (aC (.int 1))) (gNm 2))
    (sSeq (sIf (aNot (aB (aCallP (p_is_between (cValue K)) (aCons (aVar 2) (aCons (aC (.int 1)) (aCons (aC (.int 6)) aNil)))))) (sRet (aC (.bl false))) sNext)
    (sSeq (sIf (aNot (aB (aCallP (p_is_between (cValue K)) (aCons (aVar 1) (aCons (aC (.int 1)) (aCons (aOp oSub (aFld (cValue K) nsValue 1 (aVar 2)) (aC (.int 1))) aNil)))))) (sRet (aC (.bl false))) sNext)
    (sRet (aOp oEq (aCallP p_common_divisor (aCons (aFld (cValue K) nsValue 1 (aVar 1)) (aCons (aFld (cValue K) nsValue 1 (aVar 2)) aNil))) (aC (.int 1)))))))))
theorem dv_is_discount {P : Program} {w : World} {K : PySem.W.Frag} {mg : Str → Option Value} {base : Heap} (T : Tx K mg)
    (F_is_pair : Cal P w K mg base CX0 1 "is_pair" ["value"] (pureSp (p_is_pair (cValue K))))
    (F_is_between : Cal P w K mg base CX0 1 "is_between" ["value", "least", "most"] (pureSp (p_is_between (cValue K))))
    (F_common_divisor : Cal P w K mg base CX0 1 "common_divisor" ["one", "other"] (pureSp p_common_divisor)) : Rds P w K mg base ["value", "top", "bottom"] "is_discount" (defScope s_is_discount) (He.ga K "is_discount") (defBody s_is_discount) 1 (rd_is_discount K) := by
  intro cdv A outer s H E hr
  exact (dss_cons (ds_if (dt_not (dt_of (de_callP F_is_pair (hr.mono (by decide)) (da_cons (de_var 0) da_nil)))) (dss_one (ds_ret (de_bl))) dss_nil)
    (dss_cons (ds_set 1 sc_is_discount.nd (de_ix (de_fld 3 T.c_Value (de_var 0)) (de_int)))
    (dss_cons (ds_set 2 sc_is_discount.nd (de_ix (de_fld 3 T.c_Value (de_var 0)) (de_int)))
    (dss_cons (ds_if (dt_not (dt_of (de_callP F_is_between (hr.mono (by decide)) (da_cons (de_var 2) (da_cons (de_int) (da_cons (de_gl T.i_MOST_BOTTOM) da_nil)))))) (dss_one (ds_ret (de_bl))) dss_nil)
    (dss_cons (ds_if (dt_not (dt_of (de_callP F_is_between (hr.mono (by decide)) (da_cons (de_var 1) (da_cons (de_int) (da_cons (de_sub (de_fld 1 T.c_Value (de_var 2)) (de_int)) da_nil)))))) (dss_one (ds_ret (de_bl))) dss_nil)
    (dss_one (ds_ret (de_eq hr (de_callP F_common_divisor (hr.mono (by decide)) (da_cons (de_fld 1 T.c_Value (de_var 1)) (da_cons (de_fld 1 T.c_Value (de_var 2)) da_nil))) (de_int)))))))))
def rd_discount_of (K : PySem.W.Frag) (x : XW) : AS :=
  (sSeq (sIf (aNot (aB (aCallP (p_is_discount (cValue K)) (aCons (aVar 0) aNil)))) (sRaise x (cWrongKind K) (aC (.str "discount must be a fraction between 0 and 1 with a denominator of at most 6"))) sNext)
    (sRet (aTup (aCons (aFld (cValue K) nsValue 1 (aOp oIx (aFld (cValue K) nsValue 3 (aVar 0)) (aC (.int 0)))) (aCons (aFld (cValue K) nsValue 1 (aOp oIx (aFld (cValue K) nsValue 3 (aVar 0)) (aC (.int 1)))) aNil)))))
theorem dv_discount_of {P : Program} {w : World} {K : PySem.W.Frag} {mg : Str → Option Value} {base : Heap} (T : Tx K mg)
    (F_is_discount : Cal P w K mg base CX0 2 "is_discount" ["value"] (pureSp (p_is_discount (cValue K)))) : RdsX P w K mg base ["value"] "discount_of" (defScope s_discount_of) (He.ga K "discount_of") (defBody s_discount_of) 2 (rd_discount_of K) := by
  intro cdv A outer s H E AX hr
  have hx : Passes (L2N.CX P w) (cxOf (L2N.CX P w) P w K mg base ["value"] "discount_of" (defScope s_discount_of) (He.ga K "discount_of") cdv A outer s H E) E := L2N.passes_call (L2N.takes_of rfl rfl rfl rfl) fun _ _ _ _ h => h
  exact (dss_cons (ds_if (dt_not (dt_of (de_callP F_is_discount (hr.mono (by decide)) (da_cons (de_var 0) da_nil)))) (dss_one (ds_raiseX T.x_WrongKind hr (by decide) rfl (L2N.takes_of rfl rfl rfl rfl) (de_str) (by rfl) (by decide))) dss_nil)
    (dss_one (ds_ret (de_tup (da_cons (de_fld 1 T.c_Value (de_ix (de_fld 3 T.c_Value (de_var 0)) (de_int))) (da_cons (de_fld 1 T.c_Value (de_ix (de_fld 3 T.c_Value (de_var 0)) (de_int))) da_nil))))))
def rd_are_letters (K : PySem.W.Frag) : AS :=
  (sSeq (sIf (aB (aOp oNe (aFld (cValue K) nsValue 0 (aVar 0)) (aC (.int 6)))) (sRet (aC (.bl false))) sNext)
    (sSeq (sFor (iListA (aFld (cValue K) nsValue 2 (aVar 0))) (gNm 1) (sIf (aAnd (aB (aOp oNe (aVar 1) (aC (.int 97)))) (aB (aOp oNe (aVar 1) (aOp oAdd (aC (.int 97)) (aC (.int 1)))))) (sRet (aC (.bl false))) sNext))
    (sRet (aC (.bl true)))))
theorem dv_are_letters {P : Program} {w : World} {K : PySem.W.Frag} {mg : Str → Option Value} {base : Heap} (T : Tx K mg) : Rds P w K mg base ["value", "sign"] "are_letters" (defScope s_are_letters) (He.ga K "are_letters") (defBody s_are_letters) 0 (rd_are_letters K) := by
  intro cdv A outer s H E hr
  exact (dss_cons (ds_if (dt_ne (de_fld 0 T.c_Value (de_var 0)) (de_gl T.i_TEXT)) (dss_one (ds_ret (de_bl))) dss_nil)
    (dss_cons (ds_for PassesOwn.never (di_list (de_fld 2 T.c_Value (de_var 0))) (dg_nm 1 sc_are_letters.nd) (dss_one (ds_if (dt_w (dw_and (dt_ne (de_var 1) (de_gl T.i_LETTER_A)) (dw_and1 (dt_ne (de_var 1) (de_add (de_gl T.i_LETTER_A) (de_int)))))) (dss_one (ds_ret (de_bl))) dss_nil)))
    (dss_one (ds_ret (de_bl)))))
def rd_letters_of (K : PySem.W.Frag) : AS :=
  (sRet (aLc (iListA (aFld (cValue K) nsValue 2 (aVar 0))) (gNm 1) aYes (aOp oSub (aVar 1) (aC (.int 97))) [1]))
theorem dv_letters_of {P : Program} {w : World} {K : PySem.W.Frag} {mg : Str → Option Value} {base : Heap} (T : Tx K mg) : Rds P w K mg base ["value", "sign"] "letters_of" (defScope s_letters_of) (He.ga K "letters_of") (defBody s_letters_of) 0 (rd_letters_of K) := by
  intro cdv A outer s H E hr
  exact (dss_one (ds_ret (de_lc [("sign", 1)] 1 sc_letters_of.nd (blkOk_by (own := [("sign", 1)]) (N := ["value", "sign"]) (sc := defScope s_letters_of) (by decide +kernel)) (di_list (de_fld 2 T.c_Value (de_var 0))) (fun _ _ _ _ _ => pg_name (i := 1) sc_letters_of.nd rfl (Or.inl rfl)) (fun _ _ _ _ _ => (de_sub (de_var 1) (de_gl T.i_LETTER_A))))))
def rd_word_of (K : PySem.W.Frag) (x : XW) : AS :=
  (sSeq (sIf (aOr (aNot (aB (aCallP (p_are_letters (cValue K)) (aCons (aVar 0) aNil)))) (aB (aOp oGt (aCB cLen (aCons (aFld (cValue K) nsValue 2 (aVar 0)) aNil)) (aC (.int 8))))) (sRaise x (cWrongKind K) (aC (.str "word must be a text of 0 to 8 letters"))) sNext)
    (sRet (aCallP (p_letters_of (cValue K)) (aCons (aVar 0) aNil))))
theorem dv_word_of {P : Program} {w : World} {K : PySem.W.Frag} {mg : Str → Option Value} {base : Heap} (T : Tx K mg)
    (F_are_letters : Cal P w K mg base CX0 1 "are_letters" ["value"] (pureSp (p_are_letters (cValue K))))
    (F_letters_of : Cal P w K mg base CX0 1 "letters_of" ["value"] (pureSp (p_letters_of (cValue K)))) : RdsX P w K mg base ["value"] "word_of" (defScope s_word_of) (He.ga K "word_of") (defBody s_word_of) 1 (rd_word_of K) := by
  intro cdv A outer s H E AX hr
  have hx : Passes (L2N.CX P w) (cxOf (L2N.CX P w) P w K mg base ["value"] "word_of" (defScope s_word_of) (He.ga K "word_of") cdv A outer s H E) E := L2N.passes_call (L2N.takes_of rfl rfl rfl rfl) fun _ _ _ _ h => h
  exact (dss_cons (ds_if (dt_w (dw_or (dt_not (dt_of (de_callP F_are_letters (hr.mono (by decide)) (da_cons (de_var 0) da_nil)))) (dw_or1 (dt_gt (de_len T.b_len (de_fld 2 T.c_Value (de_var 0))) (de_gl T.i_MOST_LETTERS))))) (dss_one (ds_raiseX T.x_WrongKind hr (by decide) rfl (L2N.takes_of rfl rfl rfl rfl) (de_str) (by rfl) (by decide))) dss_nil)
    (dss_one (ds_ret (de_callP F_letters_of (hr.mono (by decide)) (da_cons (de_var 0) da_nil)))))
def rd_policy_of (K : PySem.W.Frag) (x : XW) : AS :=
  (sSeq (sIf (aOr (aNot (aB (aCallP (p_are_letters (cValue K)) (aCons (aVar 0) aNil)))) (aB (aOp oNe (aCB cLen (aCons (aFld (cValue K) nsValue 2 (aVar 0)) aNil)) (aVar 1)))) (sRaise x (cWrongKind K) (aC (.str "policy must be a text with a letter for each state"))) sNext)
    (sRet (aCallP (p_letters_of (cValue K)) (aCons (aVar 0) aNil))))
theorem dv_policy_of {P : Program} {w : World} {K : PySem.W.Frag} {mg : Str → Option Value} {base : Heap} (T : Tx K mg)
    (F_are_letters : Cal P w K mg base CX0 1 "are_letters" ["value"] (pureSp (p_are_letters (cValue K))))
    (F_letters_of : Cal P w K mg base CX0 1 "letters_of" ["value"] (pureSp (p_letters_of (cValue K)))) : RdsX P w K mg base ["value", "many"] "policy_of" (defScope s_policy_of) (He.ga K "policy_of") (defBody s_policy_of) 1 (rd_policy_of K) := by
  intro cdv A outer s H E AX hr
  have hx : Passes (L2N.CX P w) (cxOf (L2N.CX P w) P w K mg base ["value", "many"] "policy_of" (defScope s_policy_of) (He.ga K "policy_of") cdv A outer s H E) E := L2N.passes_call (L2N.takes_of rfl rfl rfl rfl) fun _ _ _ _ h => h
  exact (dss_cons (ds_if (dt_w (dw_or (dt_not (dt_of (de_callP F_are_letters (hr.mono (by decide)) (da_cons (de_var 0) da_nil)))) (dw_or1 (dt_ne (de_len T.b_len (de_fld 2 T.c_Value (de_var 0))) (de_var 1))))) (dss_one (ds_raiseX T.x_WrongKind hr (by decide) rfl (L2N.takes_of rfl rfl rfl rfl) (de_str) (by rfl) (by decide))) dss_nil)
    (dss_one (ds_ret (de_callP F_letters_of (hr.mono (by decide)) (da_cons (de_var 0) da_nil)))))
def rd_length_of (K : PySem.W.Frag) (x : XW) : AS :=
  (sSeq (sIf (aNot (aB (aCallP (p_is_between (cValue K)) (aCons (aVar 0) (aCons (aC (.int 0)) (aCons (aC (.int 5)) aNil)))))) (sRaise x (cOutOfRange K) (aC (.str "maxLength must be an integer from 0 to 5"))) sNext)
    (sRet (aFld (cValue K) nsValue 1 (aVar 0))))
theorem dv_length_of {P : Program} {w : World} {K : PySem.W.Frag} {mg : Str → Option Value} {base : Heap} (T : Tx K mg)
    (F_is_between : Cal P w K mg base CX0 1 "is_between" ["value", "least", "most"] (pureSp (p_is_between (cValue K)))) : RdsX P w K mg base ["value"] "length_of" (defScope s_length_of) (He.ga K "length_of") (defBody s_length_of) 1 (rd_length_of K) := by
  intro cdv A outer s H E AX hr
  have hx : Passes (L2N.CX P w) (cxOf (L2N.CX P w) P w K mg base ["value"] "length_of" (defScope s_length_of) (He.ga K "length_of") cdv A outer s H E) E := L2N.passes_call (L2N.takes_of rfl rfl rfl rfl) fun _ _ _ _ h => h
  exact (dss_cons (ds_if (dt_not (dt_of (de_callP F_is_between (hr.mono (by decide)) (da_cons (de_var 0) (da_cons (de_int) (da_cons (de_gl T.i_MOST_LENGTH) da_nil)))))) (dss_one (ds_raiseX T.x_OutOfRange hr (by decide) rfl (L2N.takes_of rfl rfl rfl rfl) (de_str) (by rfl) (by decide))) dss_nil)
    (dss_one (ds_ret (de_fld 1 T.c_Value (de_var 0)))))
theorem encL_map (C : Addr) : ∀ l : List RWire.Value, encL C l = l.map (encV C)
  | [] => by simp [encL]
  | v :: r => by simp [encL, encL_map C r]
theorem taken_map : ∀ l : List RWire.Value, Rust.takenAll l = l.map Rust.taken
  | [] => by simp [Rust.takenAll]
  | v :: r => by simp [Rust.takenAll, taken_map r]
theorem noBig_of {i : Int} : okV (.big i) = true → False := by simp [okV, RWire.noBig]
theorem noOct_of {u : RWire.Text} : okV (.octets u) = true → False := by simp [okV, RWire.noOctets]
theorem noWide_of {u : List UInt16} : okV (.wide u) = true → False := by simp [okV, RWire.noWide]
theorem keep_is_between (K : PySem.W.Frag) : Keeps ["value", "least", "most"] (pureSp (p_is_between (cValue K))) (rd_is_between K) := by
  rintro ds W AQ AX ⟨rfl, v, a, b, rfl, ho, hQ⟩
  cases v with
  | int i =>
    simp [rd_is_between, encV, vO, nsValue, iL]
    by_cases h1 : a ≤ i
    · simpa [isBetV, h1] using hQ
    · simpa [isBetV, h1] using hQ
  | bool b => cases b <;> simpa [rd_is_between, encV, vO, nsValue, iL, isBetV] using hQ
  | big i => exact (noBig_of ho).elim
  | octets u => exact (noOct_of ho).elim
  | wide u => exact (noWide_of ho).elim
  | _ => simpa [rd_is_between, encV, vO, nsValue, iL, isBetV] using hQ
theorem keep_is_pair (K : PySem.W.Frag) : Keeps ["value"] (pureSp (p_is_pair (cValue K))) (rd_is_pair K) := by
  rintro ds W AQ AX ⟨rfl, v, rfl, ho, hQ⟩
  cases v with
  | list l =>
    have e : isPairV (.list l) = decide ((l.length : Int) = 2) := by
      match l with
      | [] => rfl
      | [_] => rfl
      | [_, _] => rfl
      | _ :: _ :: _ :: r => simp [isPairV]; omega
    rw [e] at hQ
    simpa [rd_is_pair, encV, vO, nsValue, iL, encL_map] using hQ
  | bool b => cases b <;> simpa [rd_is_pair, encV, vO, nsValue, iL, isPairV] using hQ
  | big i => exact (noBig_of ho).elim
  | octets u => exact (noOct_of ho).elim
  | wide u => exact (noWide_of ho).elim
  | _ => simpa [rd_is_pair, encV, vO, nsValue, iL, isPairV] using hQ
theorem pair_cases {v : RWire.Value} (h : isPairV v = true) : ∃ a b, v = .list [a, b] := by
  match v, h with
  | .list [a, b], _ => exact ⟨a, b, rfl⟩
theorem okV_pair {a b : RWire.Value} (h : okV (.list [a, b]) = true) : okV a = true ∧ okV b = true := by
  obtain ⟨h1, h2⟩ := okL_cons (okV_list h)
  exact ⟨h1, (okL_cons h2).1⟩
theorem keep_is_transition (K : PySem.W.Frag) : Keeps ["value", "many"] (pureSp (p_is_transition (cValue K))) (rd_is_transition K) := by
  rintro ds W AQ AX ⟨rfl, v, n, rfl, ho, hQ⟩
  simp [rd_is_transition]
  refine ⟨v, rfl, ho, ?_⟩
  cases hp : isPairV v with
  | false =>
    have : isTrV n v = false := by
      unfold isTrV
      split
      · cases hp
      · rfl
    rw [this] at hQ
    simpa using hQ
  | true =>
    obtain ⟨a, b, rfl⟩ := pair_cases hp
    obtain ⟨oa, ob⟩ := okV_pair ho
    simp [encV, vO, nsValue, iL, encL]
    refine ⟨a, 0, (n : Int) - 1, rfl, oa, ?_⟩
    cases h1 : isBetV a 0 ((n : Int) - 1) with
    | false => simpa [isTrV, h1] using hQ
    | true =>
      simp
      exact ⟨b, -9, 9, rfl, ob, by simpa [isTrV, h1] using hQ⟩
theorem keep_is_state (K : PySem.W.Frag) : Keeps ["value", "many"] (pureSp (p_is_state (cValue K))) (rd_is_state K) := by
  rintro ds W AQ AX ⟨rfl, v, n, rfl, ho, hQ⟩
  simp [rd_is_state]
  refine ⟨v, rfl, ho, ?_⟩
  cases hp : isPairV v with
  | false =>
    have : isStV n v = false := by
      unfold isStV
      split
      · cases hp
      · rfl
    rw [this] at hQ
    simpa using hQ
  | true =>
    obtain ⟨a, b, rfl⟩ := pair_cases hp
    obtain ⟨oa, ob⟩ := okV_pair ho
    simp [encV, vO, nsValue, iL, encL]
    refine ⟨a, n, rfl, oa, ?_⟩
    cases h1 : isTrV n a with
    | false => simpa [isStV, h1] using hQ
    | true =>
      simp
      exact ⟨b, n, rfl, ob, by simpa [isStV, h1] using hQ⟩
theorem keep_transition_of (K : PySem.W.Frag) : Keeps ["value"] (pureSp (p_transition_of (cValue K))) (rd_transition_of K) := by
  rintro ds W AQ AX ⟨rfl, i, j, rfl, hQ⟩
  simpa [rd_transition_of, encV, vO, nsValue, iL, encL] using hQ
theorem keep_is_discount (K : PySem.W.Frag) : Keeps ["value", "top", "bottom"] (pureSp (p_is_discount (cValue K))) (rd_is_discount K) := by
  rintro ds W AQ AX ⟨rfl, v, rfl, ho, hQ⟩
  simp [rd_is_discount]
  refine ⟨v, rfl, ho, ?_⟩
  cases hp : isPairV v with
  | false =>
    have : isDisV v = false := by
      unfold isDisV
      split
      · cases hp
      · rfl
    rw [this] at hQ
    simpa using hQ
  | true =>
    obtain ⟨a, b, rfl⟩ := pair_cases hp
    obtain ⟨oa, ob⟩ := okV_pair ho
    simp [encV, vO, nsValue, iL, encL]
    refine ⟨b, 1, 6, rfl, ob, ?_⟩
    cases h1 : isBetV b 1 6 with
    | false =>
      have : isDisV (.list [a, b]) = false := by
        unfold isDisV
        split
        · rename_i i j h
          simp at h
          obtain ⟨rfl, rfl⟩ := h
          simp [isBetV] at h1 ⊢
          omega
        · rfl
      rw [this] at hQ
      simpa using hQ
    | true =>
      obtain ⟨j, rfl⟩ : ∃ j, b = .int j := by
        cases b with
        | int j => exact ⟨j, rfl⟩
        | _ => cases h1
      simp [encV, vO, nsValue, iL]
      refine ⟨a, 1, j - 1, rfl, oa, ?_⟩
      simp [isBetV] at h1
      cases h2 : isBetV a 1 (j - 1) with
      | false =>
        have : isDisV (.list [a, .int j]) = false := by
          unfold isDisV
          split
          · rename_i i j h
            simp at h
            obtain ⟨rfl, rfl⟩ := h
            simp [isBetV] at h2 ⊢
            omega
          · rfl
        rw [this] at hQ
        simpa using hQ
      | true =>
        obtain ⟨i, rfl⟩ : ∃ i, a = .int i := by
          cases a with
          | int i => exact ⟨i, rfl⟩
          | _ => cases h2
        simp [isBetV] at h2
        simp [encV, vO, nsValue, iL]
        refine ⟨i.toNat, j.toNat, by simp; omega, by omega, ?_⟩
        have : isDisV (.list [.int i, .int j]) = decide (Nat.gcd i.toNat j.toNat = 1) := by
          simp only [isDisV]
          by_cases hg : Nat.gcd i.toNat j.toNat = 1
          · simp [hg]; omega
          · simp [hg]
        rw [this] at hQ
        have e : decide (((Nat.gcd i.toNat j.toNat : Nat) : Int) = 1) = decide (Nat.gcd i.toNat j.toNat = 1) := by
          by_cases hg : Nat.gcd i.toNat j.toNat = 1
          · simp [hg]
          · simp [hg]; omega
        simp
        rw [e]
        exact hQ
theorem are_letters_loop {A : AEnds} (o0 : Option D) : ∀ (u : List UInt8) (k : Option D), ((u.all fun c => decide (c.toNat = 97 ∨ c.toNat = 98)) = true → ∀ k', A.nx [o0, k'] []) → ((u.all fun c => decide (c.toNat = 97 ∨ c.toNat = 98)) = false → A.rt (.bl false) []) →
    forD (gNm 1) (sIf (aAnd (aB (aOp oNe (aVar 1) (aC (.int 97)))) (aB (aOp oNe (aVar 1) (aOp oAdd (aC (.int 97)) (aC (.int 1)))))) (sRet (aC (.bl false))) sNext) A ((oI u).map D.int) [o0, k] []
  | [], k, h, _ => by simpa [oI] using h rfl k
  | c :: u, k, h, hr => by
    have ih := are_letters_loop (A := A) o0 u (some (.int (c.toNat : Nat)))
    simp only [List.all_cons] at h hr
    have e : oI (c :: u) = ((c.toNat : Nat) : Int) :: oI u := rfl
    rw [e]
    by_cases h1 : c.toNat = 97
    · simp [h1] at h hr ih ⊢
      exact ih h hr
    · have n1 : ¬ ((c.toNat : Nat) : Int) = 97 := by omega
      by_cases h2 : c.toNat = 98
      · simp [h2] at h hr ih ⊢
        exact ih h hr
      · have n2 : ¬ ((c.toNat : Nat) : Int) = 98 := by omega
        simp [h1, h2, n1, n2] at h hr ih ⊢
        exact hr
theorem keep_are_letters (K : PySem.W.Frag) : Keeps ["value", "sign"] (pureSp (p_are_letters (cValue K))) (rd_are_letters K) := by
  rintro ds W AQ AX ⟨rfl, v, rfl, ho, hQ⟩
  cases v with
  | text u =>
    simp [rd_are_letters, encV, vO, nsValue]
    have := are_letters_loop (A := ⟨sRet (aC (.bl true)) { nx := fun x W' => AQ D.non W', rt := AQ }, AQ, fun _ _ => False, fun _ _ => False⟩) (some (encV (cValue K) (.text u))) u none (fun e k' => by rw [show areLetV (.text u) = true from e] at hQ; simpa using hQ) fun e => by rw [show areLetV (.text u) = false from e] at hQ; simpa using hQ
    simpa [encV, vO, nsValue] using this
  | bool b => cases b <;> simpa [rd_are_letters, encV, vO, nsValue, iL, areLetV] using hQ
  | big i => exact (noBig_of ho).elim
  | octets u => exact (noOct_of ho).elim
  | wide u => exact (noWide_of ho).elim
  | _ => simpa [rd_are_letters, encV, vO, nsValue, iL, areLetV] using hQ
theorem keep_letters_of (K : PySem.W.Frag) : Keeps ["value", "sign"] (pureSp (p_letters_of (cValue K))) (rd_letters_of K) := by
  rintro ds W AQ AX ⟨rfl, v, rfl, ho, hl, h1, hQ⟩
  cases v with
  | text u =>
    simp [octV] at h1
    simp [areLetV] at hl
    simp [rd_letters_of, encV, vO, nsValue, oI_length]
    refine ⟨by omega, lc_map (fun d => match d with | .int z => .int (z - 97) | _ => .non) _ _ (fun d hd R hR => ?_) ?_⟩
    · simp only [List.mem_map, oI] at hd
      obtain ⟨_, ⟨c, hc, rfl⟩, rfl⟩ := hd
      simpa using hR
    · have e : ((oI u).map D.int).map (fun d => match d with | .int z => D.int (z - 97) | _ => .non) = (u.map fun c => c.toNat - 97).map fun (k : Nat) => D.int (k : Int) := by
        simp only [oI, List.map_map]
        refine List.map_congr_left fun c hc => ?_
        have := hl c hc
        simp
        omega
      simp only [List.nil_append]
      rw [e]
      exact hQ
  | _ => cases hl
/-! ### the refusals -/
theorem int_val {v : RWire.Value} (ho : okV v = true) : R7284d.Spec.integerValue (Rust.taken v) = match v with | .int i => some i | _ => none := by
  cases v with
  | int i => simp [R7284d.Spec.integerValue, Rust.taken, RShim.F64.ofInt, RShim.F64.negZero, RShim.F64.toInt?]
  | big i => exact (noBig_of ho).elim
  | octets u => exact (noOct_of ho).elim
  | wide u => exact (noWide_of ho).elim
  | _ => simp [R7284d.Spec.integerValue, Rust.taken]
theorem bet_iff {v : RWire.Value} (ho : okV v = true) (a b : Nat) : isBetV v a b = (integerInRange a b (Rust.taken v)).isSome := by
  unfold integerInRange
  rw [int_val ho]
  cases v with
  | int i =>
    by_cases h : (a : Int) ≤ i ∧ i ≤ b
    · simp [isBetV, h]
    · simp [isBetV, h]
  | _ => simp [isBetV]
theorem range_int {v : RWire.Value} (ho : okV v = true) {a b n : Nat} (h : integerInRange a b (Rust.taken v) = some n) : v = .int (n : Int) ∧ a ≤ n ∧ n ≤ b := by
  unfold integerInRange at h
  rw [int_val ho] at h
  cases v with
  | int i =>
    simp at h
    obtain ⟨⟨h1, h2⟩, h3⟩ := h
    exact ⟨by congr 1; omega, by omega, by omega⟩
  | _ => simp at h
theorem rew_iff {v : RWire.Value} (ho : okV v = true) : isBetV v (-9) 9 = (parseReward (Rust.taken v)).isSome := by
  unfold parseReward
  rw [int_val ho]
  cases v with
  | int i =>
    by_cases h : (-9 : Int) ≤ i ∧ i ≤ 9
    · simp [isBetV, h]
    · simp [isBetV, h]
  | _ => simp [isBetV]
theorem rew_int {v : RWire.Value} (ho : okV v = true) {z : Int} (h : parseReward (Rust.taken v) = some z) : v = .int z ∧ -9 ≤ z ∧ z ≤ 9 := by
  unfold parseReward at h
  rw [int_val ho] at h
  cases v with
  | int i =>
    simp at h
    obtain ⟨⟨h1, h2⟩, rfl⟩ := h
    exact ⟨rfl, h1, h2⟩
  | _ => simp at h
theorem taken_pair (a b : RWire.Value) : Rust.taken (.list [a, b]) = .arr [Rust.taken a, Rust.taken b] := by simp [Rust.taken, Rust.takenAll]
theorem taken_arr2 {v : RWire.Value} (ho : okV v = true) {x y : R7284d.Spec.Plain} (h : Rust.taken v = .arr [x, y]) : ∃ a b, v = .list [a, b] ∧ x = Rust.taken a ∧ y = Rust.taken b := by
  cases v with
  | list l =>
    simp [Rust.taken, taken_map] at h
    match l, h with
    | [a, b], h =>
      simp at h
      exact ⟨a, b, rfl, h.1.symm, h.2.symm⟩
    | [], h => simp at h
    | [_], h => simp at h
    | _ :: _ :: _ :: _, h => simp at h
  | octets u => exact (noOct_of ho).elim
  | _ => simp [Rust.taken] at h
theorem tr_iff {v : RWire.Value} (ho : okV v = true) {n : Nat} (hn : 1 ≤ n) : isTrV n v = (parseTransition n (Rust.taken v)).isSome := by
  cases hp : isPairV v with
  | true =>
    obtain ⟨a, b, rfl⟩ := pair_cases hp
    obtain ⟨oa, ob⟩ := okV_pair ho
    have e : ((n : Int) - 1) = ((n - 1 : Nat) : Int) := by omega
    rw [taken_pair]
    simp only [isTrV, parseTransition, rew_iff ob, e]
    rw [show (0 : Int) = ((0 : Nat) : Int) from rfl, bet_iff oa]
    cases integerInRange 0 (n - 1) (Rust.taken a) <;> simp
  | false =>
    have h1 : isTrV n v = false := by
      unfold isTrV
      split
      · cases hp
      · rfl
    have h2 : parseTransition n (Rust.taken v) = none := by
      unfold parseTransition
      split
      · rename_i q z e
        obtain ⟨a, b, rfl, _⟩ := taken_arr2 ho e
        cases hp
      · rfl
    rw [h1, h2]
    rfl
theorem tr_int {v : RWire.Value} (ho : okV v = true) {n : Nat} {tr : Nat × Int} (h : parseTransition n (Rust.taken v) = some tr) : v = .list [.int (tr.1 : Nat), .int tr.2] ∧ tr.1 ≤ n - 1 ∧ -9 ≤ tr.2 ∧ tr.2 ≤ 9 := by
  unfold parseTransition at h
  split at h
  · rename_i q z e
    obtain ⟨a, b, rfl, rfl, rfl⟩ := taken_arr2 ho e
    obtain ⟨oa, ob⟩ := okV_pair ho
    cases h1 : integerInRange 0 (n - 1) (Rust.taken a) with
    | none => simp [h1] at h
    | some i =>
      cases h2 : parseReward (Rust.taken b) with
      | none => simp [h1, h2] at h
      | some k =>
        simp [h1, h2] at h
        subst h
        obtain ⟨rfl, _, h3⟩ := range_int oa h1
        obtain ⟨rfl, h4, h5⟩ := rew_int ob h2
        exact ⟨rfl, h3, h4, h5⟩
  · cases h
theorem st_iff {v : RWire.Value} (ho : okV v = true) {n : Nat} (hn : 1 ≤ n) : isStV n v = (parseState n (Rust.taken v)).isSome := by
  cases hp : isPairV v with
  | true =>
    obtain ⟨a, b, rfl⟩ := pair_cases hp
    obtain ⟨oa, ob⟩ := okV_pair ho
    rw [taken_pair]
    simp only [isStV, parseState, tr_iff oa hn, tr_iff ob hn]
    cases parseTransition n (Rust.taken a) <;> simp
  | false =>
    have h1 : isStV n v = false := by
      unfold isStV
      split
      · cases hp
      · rfl
    have h2 : parseState n (Rust.taken v) = none := by
      unfold parseState
      split
      · rename_i q z e
        obtain ⟨a, b, rfl, _⟩ := taken_arr2 ho e
        cases hp
      · rfl
    rw [h1, h2]
    rfl
theorem st_int {v : RWire.Value} (ho : okV v = true) {n : Nat} {s : (Nat × Int) × (Nat × Int)} (h : parseState n (Rust.taken v) = some s) : v = .list [.list [.int (s.1.1 : Nat), .int s.1.2], .list [.int (s.2.1 : Nat), .int s.2.2]] ∧ s.1.1 ≤ n - 1 ∧ s.2.1 ≤ n - 1 ∧ (-9 ≤ s.1.2 ∧ s.1.2 ≤ 9) ∧ (-9 ≤ s.2.2 ∧ s.2.2 ≤ 9) := by
  unfold parseState at h
  split at h
  · rename_i q z e
    obtain ⟨a, b, rfl, rfl, rfl⟩ := taken_arr2 ho e
    obtain ⟨oa, ob⟩ := okV_pair ho
    cases h1 : parseTransition n (Rust.taken a) with
    | none => simp [h1] at h
    | some i =>
      cases h2 : parseTransition n (Rust.taken b) with
      | none => simp [h1, h2] at h
      | some k =>
        simp [h1, h2] at h
        subst h
        obtain ⟨rfl, h3, h4⟩ := tr_int oa h1
        obtain ⟨rfl, h5, h6⟩ := tr_int ob h2
        exact ⟨rfl, h3, h5, h4, h6⟩
  · cases h
theorem lc_mapL {α : Type} {g : AG} {e : AE} {G : Ga} {Q : List D → Om → Prop} {W : Om} (enc f : α → D) : ∀ (l : List α) (acc : List D), (∀ a ∈ l, ∀ R : D → Om → Prop, R (f a) W → g (enc a) G W fun G1 W1 => e G1 W1 R) → Q (acc ++ l.map f) W → lcD g aYes e G Q (l.map enc) acc W
  | [], acc, _, h => by simpa using h
  | a :: r, acc, hs, h => by
    have step := hs a List.mem_cons_self (fun y W3 => lcD g aYes e G Q (r.map enc) (acc ++ [y]) W3) (lc_mapL enc f r (acc ++ [f a]) (fun d' hd' => hs d' (List.mem_cons_of_mem _ hd')) (by simpa using h))
    show g (enc a) G W fun G1 W1 => aYes G1 W1 fun b W2 => if b = true then e G1 W2 fun y W3 => lcD g aYes e G Q (r.map enc) (acc ++ [y]) W3 else lcD g aYes e G Q (r.map enc) acc W2
    simpa using step
/-- a state as a value -/
def stV (s : (Nat × Int) × (Nat × Int)) : RWire.Value := .list [.list [.int (s.1.1 : Nat), .int s.1.2], .list [.int (s.2.1 : Nat), .int s.2.2]]
theorem read_all {n : Nat} : ∀ {l : List RWire.Value} {i : Nat} {t : Sys}, okL l = true → readAll (parseState n) i (l.map Rust.taken) = .ok t → l = t.map stV ∧ ∀ s ∈ t, s.1.1 ≤ n - 1 ∧ s.2.1 ≤ n - 1 ∧ (-9 ≤ s.1.2 ∧ s.1.2 ≤ 9) ∧ (-9 ≤ s.2.2 ∧ s.2.2 ≤ 9)
  | [], i, t, _, h => by
    simp [readAll] at h
    subst h
    exact ⟨rfl, fun _ h => nomatch h⟩
  | v :: l, i, t, ho, h => by
    obtain ⟨ov, ol⟩ := okL_cons ho
    simp only [List.map_cons, readAll] at h
    cases h1 : parseState n (Rust.taken v) with
    | none => simp [h1] at h
    | some s =>
      cases h2 : readAll (parseState n) (i + 1) (l.map Rust.taken) with
      | error j => simp [h1, h2] at h
      | ok t' =>
        simp [h1, h2] at h
        subst h
        obtain ⟨e, hs⟩ := st_int ov h1
        obtain ⟨e2, ht⟩ := read_all ol h2
        refine ⟨by rw [e, e2]; rfl, fun s' h' => ?_⟩
        rcases List.mem_cons.mp h' with rfl | h'
        · exact hs
        · exact ht s' h'
theorem sys_loop {A : AEnds} {K : PySem.W.Frag} {x : XW} (o0 : Option D) (n : Nat) (hn : 1 ≤ n) : ∀ (l : List RWire.Value) (i : Nat) (k p : Option D), okL l = true → i + l.length ≤ 3 →
    (∀ t, readAll (parseState n) i (l.map Rust.taken) = .ok t → ∀ k' p', A.nx [o0, some (.int n), k', p'] []) →
    (∀ j, readAll (parseState n) i (l.map Rust.taken) = .error j → ∀ m, Msg (R7284d.Spec.beyond ("state " ++ toString j ++ " of system is malformed")) m → x.A (cOutOfRange K) m []) →
    forD (gTp 2 (gC1 (gNm 2) (gC1 (gNm 3) gN0))) (sIf (aNot (aB (aCallP (p_is_state (cValue K)) (aCons (aVar 3) (aCons (aVar 1) aNil))))) (sRaise x (cOutOfRange K) (aJoin [(aC (.str "state ")), (aFmt (aVar 2)), (aC (.str " of system is malformed"))])) sNext) A
      ((l.zipIdx i).map fun q => .tup [.int (q.2 : Nat), encV (cValue K) q.1]) [o0, some (.int n), k, p] []
  | [], i, k, p, _, _, h, _ => by simpa using h [] rfl k p
  | v :: l, i, k, p, ho, hl, h, hx => by
    obtain ⟨ov, ol⟩ := okL_cons ho
    simp only [List.length_cons] at hl
    simp only [List.zipIdx_cons, List.map_cons]
    simp
    refine ⟨v, n, rfl, ov, ?_⟩
    rw [st_iff ov hn]
    cases h1 : parseState n (Rust.taken v) with
    | none =>
      have hm := hx i (by simp [readAll, h1])
      have i3 : i = 0 ∨ i = 1 ∨ i = 2 := by omega
      rcases i3 with rfl | rfl | rfl
      · simp
        exact ⟨by decide +kernel, by decide +kernel, by decide +kernel, hm _ ⟨by decide +kernel, by decide +kernel⟩⟩
      · simp
        exact ⟨by decide +kernel, by decide +kernel, by decide +kernel, hm _ ⟨by decide +kernel, by decide +kernel⟩⟩
      · simp
        exact ⟨by decide +kernel, by decide +kernel, by decide +kernel, hm _ ⟨by decide +kernel, by decide +kernel⟩⟩
    | some s =>
      simp
      have := sys_loop (A := A) (K := K) (x := x) o0 n hn l (i + 1) (some (.int i)) (some (encV (cValue K) v)) ol (by omega) (fun t ht => h (s :: t) (by simp [readAll, h1, ht])) (fun j hj => hx j (by simp [readAll, h1, hj]))
      simpa using this
/-- the texts of the refusals -/
theorem keep_system_of (K : PySem.W.Frag) : KeepsX ["value", "many", "at", "part"] (pureX (p_system_of K)) (rd_system_of K) := by
  rintro ds W AQ x ⟨rfl, v, rfl, ho, hq, hx⟩
  have bad : (R7284d.Spec.isArray (Rust.taken v) && decide (1 ≤ (R7284d.Spec.elementsOf (Rust.taken v)).length ∧ (R7284d.Spec.elementsOf (Rust.taken v)).length ≤ 3)) = false → x.A (cWrongKind K) "system must be a list of 1 to 3 states" [] := fun e => by
    refine hx (R7284d.Spec.wrong "system must be a list of 1 to 3 states") ?_ _ ⟨by decide +kernel, by decide +kernel⟩
    show readSystem (Rust.taken v) = _
    unfold readSystem
    rw [e]
    rfl
  cases v with
  | list l =>
    have ol := okV_list ho
    have len : (R7284d.Spec.elementsOf (Rust.taken (.list l))).length = l.length := by simp [Rust.taken, R7284d.Spec.elementsOf, taken_map]
    by_cases hl : 1 ≤ l.length ∧ l.length ≤ 3
    · have e0 : readSystem (Rust.taken (.list l)) = match readAll (parseState l.length) 0 (l.map Rust.taken) with
          | .error i => R7284d.Spec.rangeFailure ("state " ++ toString i ++ " of system is malformed")
          | .ok t => .ok t := by
        simp [readSystem, Rust.taken, R7284d.Spec.isArray, R7284d.Spec.elementsOf, taken_map, hl]
        cases readAll (parseState l.length) 0 (l.map Rust.taken) <;> rfl
      simp [rd_system_of, encV, vO, nsValue, iL, encL_map]
      have c1 : ¬ ((l.length : Int) < 1) := by omega
      have c2 : ¬ ((3 : Int) < l.length) := by omega
      simp [c1, c2]
      have := sys_loop (K := K) (x := x) (A := ⟨sRet (aLc (iListA (aFld (cValue K) nsValue 3 (aVar 0))) (gNm 3) aYes (aTup (aCons (aCallP (p_transition_of (cValue K)) (aCons (aOp oIx (aFld (cValue K) nsValue 3 (aVar 3)) (aC (.int 0))) aNil)) (aCons (aCallP (p_transition_of (cValue K)) (aCons (aOp oIx (aFld (cValue K) nsValue 3 (aVar 3)) (aC (.int 1))) aNil)) aNil))) [3]) { nx := fun x W' => AQ D.non W', rt := AQ }, AQ, fun _ _ => False, fun _ _ => False⟩)
        (some (encV (cValue K) (.list l))) l.length hl.1 l 0 none none ol (by omega) (fun t ht k' p' => by
          obtain ⟨et, hs⟩ := read_all ol ht
          have lt : t.length = l.length := by rw [et, List.length_map]
          have hQ := hq t (by show readSystem (Rust.taken (.list l)) = _; rw [e0, ht])
          have ee : encL (cValue K) l = t.map fun s => encV (cValue K) (stV s) := by rw [encL_map, et, List.map_map]; rfl
          simp [encV, vO, nsValue, iL, ee]
          refine ⟨by omega, ?_⟩
          refine lc_mapL (fun s => encV (cValue K) (stV s)) (fun e => .tup [trD e.1, trD e.2]) t [] (fun s hs R hR => ?_) hQ
          simp [stV, encV, vO, nsValue, iL, encL]
          refine ⟨(s.1.1 : Nat), s.1.2, by simp [encV, vO, iL, encL], ?_⟩
          simp
          exact ⟨(s.2.1 : Nat), s.2.2, by simp [encV, vO, iL, encL], hR⟩)
        (fun j hj m hm => hx _ (by show readSystem (Rust.taken (.list l)) = _; rw [e0, hj]; rfl) m hm)
      have ez : ((l.zipIdx 0).map fun q : RWire.Value × Nat => D.tup [.int (q.2 : Nat), encV (cValue K) q.1]) = enumD (l.map (encV (cValue K))) := by
        simp [enumD, List.zipIdx_map, Function.comp_def]
      rw [ez] at this
      simpa [encV, vO, nsValue, iL, encL_map, enumD, Function.comp_def] using this
    · have := bad (by rw [len]; simp [hl])
      have c : (l.length : Int) < 1 ∨ (3 : Int) < l.length := by omega
      simp [rd_system_of, encV, vO, nsValue, iL, encL_map]
      rcases c with c | c
      · simpa [c] using this
      · by_cases c2 : (l.length : Int) < 1
        · simpa [c2] using this
        · simpa [c, c2] using this
  | bool b =>
    have := bad (by simp [Rust.taken, R7284d.Spec.isArray])
    cases b <;> simpa [rd_system_of, encV, vO, nsValue, iL] using this
  | big i => exact (noBig_of ho).elim
  | octets u => exact (noOct_of ho).elim
  | wide u => exact (noWide_of ho).elim
  | _ =>
    have := bad (by simp [Rust.taken, R7284d.Spec.isArray])
    simpa [rd_system_of, encV, vO, nsValue, iL] using this
end Dsn
end

section
set_option maxHeartbeats 4000000
/-! # The checks of arguments: what they answer -/
namespace Dsn
open PySem PySem.Spec PyProof.Rows L2 Hd
open R7284d.Spec (readSystem readDiscount readWord readPolicy readInteger integerInRange parseState parseTransition parseReward readAll parseWord)
theorem sys_ok {v : RWire.Value} (ho : okV v = true) {t : Sys} (h : readSystem (Rust.taken v) = .ok t) : OkS t := by
  unfold readSystem at h
  split at h
  · cases h
  · rename_i hc
    have hb : R7284d.Spec.isArray (Rust.taken v) = true ∧ 1 ≤ (R7284d.Spec.elementsOf (Rust.taken v)).length ∧ (R7284d.Spec.elementsOf (Rust.taken v)).length ≤ 3 := by
      rw [Bool.not_eq_true, Bool.not_eq_false'] at hc
      obtain ⟨p, q⟩ := Bool.and_eq_true_iff.mp hc
      exact ⟨p, of_decide_eq_true q⟩
    cases v with
    | list l =>
      have e : R7284d.Spec.elementsOf (Rust.taken (.list l)) = l.map Rust.taken := by simp [Rust.taken, R7284d.Spec.elementsOf, taken_map]
      rw [e] at h hb
      split at h
      · cases h
      · rename_i t' ht
        cases h
        obtain ⟨et, hs⟩ := read_all (okV_list ho) ht
        have lt : t.length = (l.map Rust.taken).length := by rw [et, List.length_map, List.length_map]
        rw [← lt] at hs hb
        exact ⟨hb.2.1, hb.2.2, fun e he => ⟨by have := (hs e he).1; omega, by have := (hs e he).2.1; omega⟩, fun e he => ⟨(hs e he).2.2.1, (hs e he).2.2.2⟩⟩
    | octets u => exact (noOct_of ho).elim
    | _ => simp [Rust.taken, R7284d.Spec.isArray] at hb
theorem dis_iff {v : RWire.Value} (ho : okV v = true) : (isDisV v = true → ∃ i n : Nat, v = .list [.int (i : Int), .int (n : Int)] ∧ readDiscount (Rust.taken v) = .ok (i, n)) ∧ (isDisV v = false → readDiscount (Rust.taken v) = .error (R7284d.Spec.wrong "discount must be a fraction between 0 and 1 with a denominator of at most 6")) := by
  refine ⟨fun h => ?_, fun h => ?_⟩
  · unfold isDisV at h
    split at h
    · rename_i i j
      simp at h
      obtain ⟨h1, h2, h3, h4, h5⟩ := h
      refine ⟨i.toNat, j.toNat, by congr 2 <;> simp <;> omega, ?_⟩
      rw [taken_pair]
      obtain ⟨oa, ob⟩ := okV_pair ho
      have a1 : integerInRange 1 5 (Rust.taken (.int i)) = some i.toNat := by
        unfold integerInRange
        rw [int_val oa]
        simp
        omega
      have a2 : integerInRange 2 6 (Rust.taken (.int j)) = some j.toNat := by
        unfold integerInRange
        rw [int_val ob]
        simp
        omega
      unfold readDiscount
      simp only [a1, a2]
      rw [if_pos ⟨by omega, h5⟩]
    · cases h
  · unfold readDiscount
    split
    · rename_i x y e
      obtain ⟨a, b, rfl, rfl, rfl⟩ := taken_arr2 ho e
      obtain ⟨oa, ob⟩ := okV_pair ho
      split
      · rename_i i n h1 h2
        obtain ⟨rfl, r1, r2⟩ := range_int oa h1
        obtain ⟨rfl, r3, r4⟩ := range_int ob h2
        simp [isDisV] at h
        rw [if_neg fun z => h (by omega) (by omega) (by omega) (by omega) z.2]
        rfl
      · rfl
    · rfl
theorem dis_ok {v : RWire.Value} (ho : okV v = true) {g : Dis} (h : readDiscount (Rust.taken v) = .ok g) : OkD g := by
  unfold readDiscount at h
  split at h
  · split at h
    · rename_i x y i n h1 h2
      split at h
      · rename_i hc
        cases h
        rename_i e
        obtain ⟨a, b, rfl, rfl, rfl⟩ := taken_arr2 ho e
        obtain ⟨oa, ob⟩ := okV_pair ho
        obtain ⟨_, r1, r2⟩ := range_int oa h1
        obtain ⟨_, r3, r4⟩ := range_int ob h2
        exact ⟨by omega, hc.1, r4⟩
      · cases h
    · cases h
  · cases h
theorem keep_discount_of (K : PySem.W.Frag) : KeepsX ["value"] (pureX (p_discount_of K)) (rd_discount_of K) := by
  rintro ds W AQ x ⟨rfl, v, rfl, ho, hq, hx⟩
  simp [rd_discount_of]
  refine ⟨v, rfl, ho, ?_⟩
  obtain ⟨d1, d2⟩ := dis_iff ho
  cases hd : isDisV v with
  | true =>
    obtain ⟨i, n, rfl, e⟩ := d1 hd
    have := hq _ e
    simpa [encV, vO, nsValue, iL, encL, encDis] using this
  | false =>
    simp
    exact hx _ (d2 hd) _ ⟨by decide +kernel, by decide +kernel⟩
theorem letters_iff : ∀ u : List UInt8, (R7284d.Spec.lettersOfUnits (u.map Rust.unitOf)) = if (u.all fun c => decide (c.toNat = 97 ∨ c.toNat = 98)) = true then some (u.map fun c => c.toNat - 97) else none
  | [] => by simp [R7284d.Spec.lettersOfUnits]
  | c :: u => by
    have hu : (Rust.unitOf c).toNat = c.toNat := by
      have := c.toNat_lt
      simp [Rust.unitOf]
    simp only [List.map_cons, R7284d.Spec.lettersOfUnits, letters_iff u, R7284d.Spec.letterOfUnit, hu, List.all_cons]
    by_cases h1 : 97 ≤ c.toNat ∧ c.toNat ≤ 98
    · have h2 : c.toNat = 97 ∨ c.toNat = 98 := by omega
      simp only [if_pos h1, decide_eq_true h2, Bool.true_and]
      split <;> simp_all
    · have h2 : ¬ (c.toNat = 97 ∨ c.toNat = 98) := by omega
      simp only [if_neg h1, decide_eq_false h2, Bool.false_and]
      split <;> simp_all
theorem word_iff {v : RWire.Value} (ho : okV v = true) : parseWord (Rust.taken v) = if areLetV v = true then some ((octV v).map fun c => c.toNat - 97) else none := by
  cases v with
  | text u => simpa [parseWord, Rust.taken, areLetV, octV] using letters_iff u
  | octets u => exact (noOct_of ho).elim
  | wide u => exact (noWide_of ho).elim
  | _ => simp [parseWord, Rust.taken, areLetV]
theorem let_text {v : RWire.Value} (h : areLetV v = true) : ∃ u, v = .text u := by
  cases v with
  | text u => exact ⟨u, rfl⟩
  | _ => cases h
theorem let_two {v : RWire.Value} (h : areLetV v = true) : two ((octV v).map fun c => c.toNat - 97) := by
  obtain ⟨u, rfl⟩ := let_text h
  intro c hc
  simp [areLetV] at h
  simp [octV] at hc
  obtain ⟨a, ha, rfl⟩ := hc
  have := h a ha
  omega
theorem keep_word_of (K : PySem.W.Frag) : KeepsX ["value"] (pureX (p_word_of K)) (rd_word_of K) := by
  rintro ds W AQ x ⟨rfl, v, rfl, ho, hq, hx⟩
  simp [rd_word_of]
  refine ⟨v, rfl, ho, ?_⟩
  have e : readWord (Rust.taken v) = (match (if areLetV v = true then some ((octV v).map fun c => c.toNat - 97) else none).bind fun w => if w.length ≤ 8 then some w else none with
      | some w => .ok w
      | none => R7284d.Spec.typeFailure "word must be a text of 0 to 8 letters") := by
    unfold readWord
    rw [word_iff ho]
    rfl
  cases h : areLetV v with
  | false =>
    simp
    simp [h] at e
    exact hx _ e _ ⟨by decide +kernel, by decide +kernel⟩
  | true =>
    obtain ⟨u, rfl⟩ := let_text h
    simp [h, octV] at e
    simp [encV, vO, nsValue, oI_length]
    by_cases hl : u.length ≤ 8
    · have : ¬ (8 : Int) < u.length := by omega
      simp [this]
      simp [hl] at e
      exact ⟨.text u, rfl, ho, h, by simp [octV]; omega, hq _ e⟩
    · have : (8 : Int) < u.length := by omega
      simp [this]
      simp [hl] at e
      exact hx _ e _ ⟨by decide +kernel, by decide +kernel⟩
theorem keep_policy_of (K : PySem.W.Frag) : KeepsX ["value", "many"] (pureX (p_policy_of K)) (rd_policy_of K) := by
  rintro ds W AQ x ⟨rfl, t, ht, v, rfl, ho, hq, hx⟩
  simp [rd_policy_of]
  refine ⟨v, rfl, ho, ?_⟩
  have e : readPolicy t (Rust.taken v) = (match (if areLetV v = true then some ((octV v).map fun c => c.toNat - 97) else none).bind fun w => if w.length = t.length then some w else none with
      | some w => .ok w
      | none => R7284d.Spec.typeFailure "policy must be a text with a letter for each state") := by
    unfold readPolicy
    rw [word_iff ho]
    rfl
  cases h : areLetV v with
  | false =>
    simp
    simp [h] at e
    exact hx _ e _ ⟨by decide +kernel, by decide +kernel⟩
  | true =>
    obtain ⟨u, rfl⟩ := let_text h
    simp [h, octV] at e
    simp [encV, vO, nsValue, oI_length]
    by_cases hl : u.length = t.length
    · simp [hl]
      simp [hl] at e
      exact ⟨.text u, rfl, ho, h, by simp [octV]; omega, hq _ e⟩
    · have : ¬ ((u.length : Int) = t.length) := by omega
      simp [this]
      simp [hl] at e
      exact hx _ e _ ⟨by decide +kernel, by decide +kernel⟩
theorem keep_length_of (K : PySem.W.Frag) : KeepsX ["value"] (pureX (p_length_of K)) (rd_length_of K) := by
  rintro ds W AQ x ⟨rfl, v, rfl, ho, hq, hx⟩
  simp [rd_length_of]
  refine ⟨v, 0, 5, rfl, ho, ?_⟩
  have hb := bet_iff ho 0 5
  cases hr : integerInRange 0 5 (Rust.taken v) with
  | none =>
    rw [hr] at hb
    have hb' : isBetV v 0 5 = false := hb
    simp [hb']
    refine hx (R7284d.Spec.beyond "maxLength must be an integer from 0 to 5") ?_ _ ⟨by decide +kernel, by decide +kernel⟩
    show readInteger "maxLength" 0 5 (Rust.taken v) = _
    unfold readInteger
    rw [hr]
    rfl
  | some n =>
    rw [hr] at hb
    have hb' : isBetV v 0 5 = true := hb
    obtain ⟨rfl, _, _⟩ := range_int ho hr
    have := hq n (by show readInteger "maxLength" 0 5 (Rust.taken _) = _; unfold readInteger; rw [hr])
    simp [hb']
    simpa [encV, vO, nsValue, iL] using this
theorem word_ok {v : RWire.Value} (ho : okV v = true) {w : Wrd} (h : readWord (Rust.taken v) = .ok w) : two w ∧ w.length ≤ 8 := by
  unfold readWord at h
  rw [word_iff ho] at h
  cases hl : areLetV v with
  | false => simp [hl, R7284d.Spec.typeFailure] at h
  | true =>
    simp only [hl, if_true, Option.bind_some] at h
    by_cases h8 : ((octV v).map fun c => c.toNat - 97).length ≤ 8
    · rw [if_pos h8] at h
      cases h
      exact ⟨let_two hl, h8⟩
    · rw [if_neg h8] at h
      cases h
theorem policy_ok {v : RWire.Value} (ho : okV v = true) {t : Sys} {w : Wrd} (h : readPolicy t (Rust.taken v) = .ok w) : OkP t.length w := by
  unfold readPolicy at h
  rw [word_iff ho] at h
  cases hl : areLetV v with
  | false => simp [hl, R7284d.Spec.typeFailure] at h
  | true =>
    simp only [hl, if_true, Option.bind_some] at h
    by_cases h8 : ((octV v).map fun c => c.toNat - 97).length = t.length
    · rw [if_pos h8] at h
      cases h
      exact ⟨h8, let_two hl⟩
    · rw [if_neg h8] at h
      cases h
theorem length_ok {v : RWire.Value} (ho : okV v = true) {n : Nat} (h : readInteger "maxLength" 0 5 (Rust.taken v) = .ok n) : n ≤ 5 := by
  unfold readInteger at h
  split at h
  · rename_i m hm
    cases h
    exact (range_int ho hm).2.2
  · cases h
end Dsn
end

section
set_option maxHeartbeats 4000000
/-! # Walks -/
namespace Dsn
open PySem PySem.Spec PyProof.Rows L2 Hd
structure WalkS where
  t : Sys
  g : Dis
  best : List (Int × Int)
  ph : Nat
  w : Wrd
structure OkW (h : WalkS) : Prop where
  s : OkS h.t
  d : OkD h.g
  b : OkB h.t h.best
  w2 : two h.w
  w8 : h.w.length ≤ 8
abbrev wO (K : PySem.W.Frag) (h : WalkS) : OD := .ins (cWalk K) [("system", encSys h.t), ("discount", encDis h.g), ("best", bestD h.best), ("phase", .int (h.ph : Nat)), ("letters", eW h.w)]
abbrev wWord (w : Wrd) : List Int := wText (w.map fun (c : Nat) => 97 + (c : Int))
abbrev wOut (p : List Int) (b : Bool) : List Int := wRec [("value", p), ("done", wTr b)]
abbrev wRes (p : List Int) (b : Bool) : List Int := wList [wText (octs "result"), p, wTr b]
abbrev wThr (v : RWire.Value) : List Int := wList [wText (octs "thrown"), wAgain v]
def tellF (h : WalkS) : List Int := wRec [("word", wWord h.w), ("state", wInt (R7284d.Spec.endState h.t 0 h.w : Nat)), ("reward", wFrac (wrewF h.t h.g h.w)), ("maxValue", wFrac (disc h.g (wrew h.t 0 h.w) (frN (h.best.getD (R7284d.Spec.endState h.t 0 h.w) (0, 1)))))]
def isLetV : RWire.Value → Bool
  | .text u => decide (oI u = [97] ∨ oI u = [98])
  | _ => false
def isUndoV : RWire.Value → Bool
  | .text u => decide (oI u = octs "undo")
  | _ => false
/-- a primitive value within bounds -/
structure OkX (v : RWire.Value) : Prop where
  ok : okV v = true
  pr : primV v = true
  sz : ∀ u, v = .text u → u.length ≤ 60000
def advF (h : WalkS) (v : RWire.Value) : WalkS × List Int :=
  if h.ph = 2 then (h, wOut [0] true)
  else if h.ph = 0 then ({ h with ph := 1 }, wOut (tellF h) false)
  else if isLetV v = true then
    if h.w.length = 8 then ({ h with ph := 2 }, wOut (wText (octs "complete")) true)
    else ({ h with w := h.w ++ (octV v).map fun c => c.toNat - 97 }, wOut (tellF { h with w := h.w ++ (octV v).map fun c => c.toNat - 97 }) false)
  else (h, wOut (tellF h) false)
def thrF (h : WalkS) (v : RWire.Value) : WalkS × List Int :=
  if h.ph = 1 ∧ 0 < h.w.length ∧ isUndoV v = true then ({ h with w := h.w.take (h.w.length - 1) }, wRes (tellF { h with w := h.w.take (h.w.length - 1) }) false)
  else ({ h with ph := 2 }, wThr v)
def finF (h : WalkS) (v : RWire.Value) : WalkS × List Int := ({ h with ph := 2 }, wOut (wAgain v) true)
def p_is_letter (C : Addr) : List D → (D → Prop) → Prop := fun ds Q => ∃ v : RWire.Value, ds = [encV C v] ∧ okV v = true ∧ Q (.bl (isLetV v))
def p_is_undo (C : Addr) : List D → (D → Prop) → Prop := fun ds Q => ∃ v : RWire.Value, ds = [encV C v] ∧ okV v = true ∧ Q (.bl (isUndoV v))
def p_Walk_init (K : PySem.W.Frag) : ASp := fun ds W Q _ => ∃ p t g b, ds = [.adr p, t, g, b] ∧ W = [(p, .ins (cWalk K) [])] ∧ Q .non [(p, .ins (cWalk K) [("system", t), ("discount", g), ("best", b), ("phase", .int 0), ("letters", .lst [])])]
@[simp] theorem init_W (K : PySem.W.Frag) (p : Addr) (t g b : D) (Q : D → Om → Prop) (X : Addr → Str → Om → Prop) : p_Walk_init K [.adr p, t, g, b] [(p, .ins (cWalk K) [])] Q X ↔ Q .non [(p, .ins (cWalk K) [("system", t), ("discount", g), ("best", b), ("phase", .int 0), ("letters", .lst [])])] := by
  constructor
  · rintro ⟨p', t', g', b', h1, h2, h3⟩
    simp at h1
    obtain ⟨rfl, rfl, rfl, rfl⟩ := h1
    exact h3
  · intro h
    exact ⟨p, t, g, b, rfl, rfl, h⟩
def p_Walk_tell (K : PySem.W.Frag) : ASp := fun ds W Q _ => ∃ p h, ds = [.adr p] ∧ W = [(p, wO K h)] ∧ OkW h ∧ Q (iL (tellF h)) [(p, wO K h)]
def p_Walk_advance (K : PySem.W.Frag) : ASp := fun ds W Q _ => ∃ p h v, ds = [.adr p, encV (cValue K) v] ∧ W = [(p, wO K h)] ∧ OkW h ∧ okV v = true ∧ Q (iL (advF h v).2) [(p, wO K (advF h v).1)]
def p_Walk_throw_in (K : PySem.W.Frag) : ASp := fun ds W Q _ => ∃ p h v, ds = [.adr p, encV (cValue K) v] ∧ W = [(p, wO K h)] ∧ OkW h ∧ OkX v ∧ Q (iL (thrF h v).2) [(p, wO K (thrF h v).1)]
def p_Walk_finish (K : PySem.W.Frag) : ASp := fun ds W Q _ => ∃ p h v, ds = [.adr p, encV (cValue K) v] ∧ W = [(p, wO K h)] ∧ OkX v ∧ Q (iL (finF h v).2) [(p, wO K (finF h v).1)]
def p_Walk_dispose (K : PySem.W.Frag) : ASp := fun ds W Q _ => ∃ p h, ds = [.adr p] ∧ W = [(p, wO K h)] ∧ Q (iL [0]) [(p, wO K { h with ph := 2 })]
def rd_is_letter (K : PySem.W.Frag) : AS :=
  (sRet (aAndV (aOp oEq (aFld (cValue K) nsValue 0 (aVar 0)) (aC (.int 6))) (aOrV (aOp oEq (aFld (cValue K) nsValue 2 (aVar 0)) (aLst (aCons (aC (.int 97)) aNil))) (aOp oEq (aFld (cValue K) nsValue 2 (aVar 0)) (aLst (aCons (aOp oAdd (aC (.int 97)) (aC (.int 1))) aNil))))))
theorem dv_is_letter {P : Program} {w : World} {K : PySem.W.Frag} {mg : Str → Option Value} {base : Heap} (T : Tx K mg) : Rds P w K mg base ["x"] "is_letter" (defScope s_is_letter) (He.ga K "is_letter") (defBody s_is_letter) 0 (rd_is_letter K) := by
  intro cdv A outer s H E hr
  exact (dss_one (ds_ret (de_and (de_eq hr (de_fld 0 T.c_Value (de_var 0)) (de_gl T.i_TEXT)) (de_one (de_or (de_eq hr (de_fld 2 T.c_Value (de_var 0)) (de_lst (da_cons (de_gl T.i_LETTER_A) da_nil))) (de_one (de_eq hr (de_fld 2 T.c_Value (de_var 0)) (de_lst (da_cons (de_add (de_gl T.i_LETTER_A) (de_int)) da_nil)))))))))
def rd_is_undo (K : PySem.W.Frag) : AS :=
  (sRet (aAndV (aOp oEq (aFld (cValue K) nsValue 0 (aVar 0)) (aC (.int 6))) (aOp oEq (aFld (cValue K) nsValue 2 (aVar 0)) (aCallP p_octets_of (aCons (aC (.str "undo")) aNil)))))
theorem dv_is_undo {P : Program} {w : World} {K : PySem.W.Frag} {mg : Str → Option Value} {base : Heap} (T : Tx K mg)
    (F_octets_of : Cal P w K mg base CX0 1 "octets_of" ["words"] (pureSp p_octets_of)) : Rds P w K mg base ["x"] "is_undo" (defScope s_is_undo) (He.ga K "is_undo") (defBody s_is_undo) 1 (rd_is_undo K) := by
  intro cdv A outer s H E hr
  exact (dss_one (ds_ret (de_and (de_eq hr (de_fld 0 T.c_Value (de_var 0)) (de_gl T.i_TEXT)) (de_one (de_eq hr (de_fld 2 T.c_Value (de_var 0)) (de_callP F_octets_of (hr.mono (by decide)) (da_cons (de_str) da_nil)))))))
def rd_Walk_init (K : PySem.W.Frag) : AS :=
  (sSeq (sFldA (cWalk K) nsWalk 0 "system" (aVar 0) (aVar 1))
    (sSeq (sFldA (cWalk K) nsWalk 1 "discount" (aVar 0) (aVar 2))
    (sSeq (sFldA (cWalk K) nsWalk 2 "best" (aVar 0) (aVar 3))
    (sSeq (sFldA (cWalk K) nsWalk 3 "phase" (aVar 0) (aC (.int 0)))
    (sFldA (cWalk K) nsWalk 4 "letters" (aVar 0) (aLst aNil))))))
theorem dv_Walk_init {P : Program} {w : World} {K : PySem.W.Frag} {mg : Str → Option Value} {base : Heap} (T : Tx K mg) : Rds P w K mg base ["self", "system", "discount", "best"] "Walk.__init__" (defScope s_Walk_init) (He.ma K (cWalk K) "__init__") (defBody s_Walk_init) 0 (rd_Walk_init K) := by
  intro cdv A outer s H E hr
  exact (dss_cons (ds_fld 0 T.c_Walk (de_var 0) (de_var 1))
    (dss_cons (ds_fld 1 T.c_Walk (de_var 0) (de_var 2))
    (dss_cons (ds_fld 2 T.c_Walk (de_var 0) (de_var 3))
    (dss_cons (ds_fld 3 T.c_Walk (de_var 0) (de_gl T.i_NOT_STARTED))
    (dss_one (ds_fld 4 T.c_Walk (de_var 0) (de_lst da_nil)))))))
def rd_Walk_tell (K : PySem.W.Frag) : AS :=
  (sSeq (sAsg (aCallP p_end_of (aCons (aFldO (cWalk K) nsWalk 0 (aVar 0)) (aCons (aFldO (cWalk K) nsWalk 4 (aVar 0)) aNil))) (gNm 1))
    (sSeq (sAsg (aCallP p_word_reward (aCons (aFldO (cWalk K) nsWalk 0 (aVar 0)) (aCons (aFldO (cWalk K) nsWalk 1 (aVar 0)) (aCons (aFldO (cWalk K) nsWalk 4 (aVar 0)) aNil)))) (gNm 2))
    (sSeq (sAsg (aCallP p_discounted (aCons (aCallP p_rewards_of (aCons (aFldO (cWalk K) nsWalk 0 (aVar 0)) (aCons (aFldO (cWalk K) nsWalk 4 (aVar 0)) aNil))) (aCons (aFldO (cWalk K) nsWalk 1 (aVar 0)) (aCons (aOp oIx (aFldO (cWalk K) nsWalk 2 (aVar 0)) (aVar 1)) aNil)))) (gNm 3))
    (sRet (aCallP p_write_record (aCons (aLst (aCons (aTup (aCons (aC (.str "word")) (aCons (aCallP p_write_word (aCons (aFldO (cWalk K) nsWalk 4 (aVar 0)) aNil)) aNil))) (aCons (aTup (aCons (aC (.str "state")) (aCons (aCallP p_write_whole (aCons (aVar 1) aNil)) aNil))) (aCons (aTup (aCons (aC (.str "reward")) (aCons (aCallP p_write_fraction (aCons (aVar 2) aNil)) aNil))) (aCons (aTup (aCons (aC (.str "maxValue")) (aCons (aCallP p_write_fraction (aCons (aVar 3) aNil)) aNil))) aNil))))) aNil))))))
theorem dv_Walk_tell {P : Program} {w : World} {K : PySem.W.Frag} {mg : Str → Option Value} {base : Heap} (T : Tx K mg)
    (F_end_of : Cal P w K mg base CX0 1 "end_of" ["system", "word"] (pureSp p_end_of))
    (F_word_reward : Cal P w K mg base CX0 4 "word_reward" ["system", "discount", "word"] (pureSp p_word_reward))
    (F_rewards_of : Cal P w K mg base CX0 1 "rewards_of" ["system", "word"] (pureSp p_rewards_of))
    (F_discounted : Cal P w K mg base CX0 3 "discounted" ["rewards", "discount", "behind"] (pureSp p_discounted))
    (F_write_fraction : Cal P w K mg base CX0 3 "write_fraction" ["fraction"] (pureSp p_write_fraction))
    (F_write_whole : Cal P w K mg base CX0 2 "write_whole" ["whole"] (pureSp p_write_whole))
    (F_write_word : Cal P w K mg base CX0 3 "write_word" ["word"] (pureSp p_write_word))
    (F_write_record : Cal P w K mg base CX0 2 "write_record" ["members"] (pureSp p_write_record)) : Rds P w K mg base ["self", "state", "reward", "most"] "Walk.tell" (defScope s_Walk_tell) (He.ma K (cWalk K) "tell") (defBody s_Walk_tell) 4 (rd_Walk_tell K) := by
  intro cdv A outer s H E hr
  exact (dss_cons (ds_set 1 sc_Walk_tell.nd (de_callP F_end_of (hr.mono (by decide)) (da_cons (de_fldO 0 T.c_Walk (de_var 0)) (da_cons (de_fldO 4 T.c_Walk (de_var 0)) da_nil))))
    (dss_cons (ds_set 2 sc_Walk_tell.nd (de_callP F_word_reward (hr.mono (by decide)) (da_cons (de_fldO 0 T.c_Walk (de_var 0)) (da_cons (de_fldO 1 T.c_Walk (de_var 0)) (da_cons (de_fldO 4 T.c_Walk (de_var 0)) da_nil)))))
    (dss_cons (ds_set 3 sc_Walk_tell.nd (de_callP F_discounted (hr.mono (by decide)) (da_cons (de_callP F_rewards_of (hr.mono (by decide)) (da_cons (de_fldO 0 T.c_Walk (de_var 0)) (da_cons (de_fldO 4 T.c_Walk (de_var 0)) da_nil))) (da_cons (de_fldO 1 T.c_Walk (de_var 0)) (da_cons (de_ix (de_fldO 2 T.c_Walk (de_var 0)) (de_var 1)) da_nil)))))
    (dss_one (ds_ret (de_callP F_write_record (hr.mono (by decide)) (da_cons (de_lst (da_cons (de_tup (da_cons (de_str) (da_cons (de_callP F_write_word (hr.mono (by decide)) (da_cons (de_fldO 4 T.c_Walk (de_var 0)) da_nil)) da_nil))) (da_cons (de_tup (da_cons (de_str) (da_cons (de_callP F_write_whole (hr.mono (by decide)) (da_cons (de_var 1) da_nil)) da_nil))) (da_cons (de_tup (da_cons (de_str) (da_cons (de_callP F_write_fraction (hr.mono (by decide)) (da_cons (de_var 2) da_nil)) da_nil))) (da_cons (de_tup (da_cons (de_str) (da_cons (de_callP F_write_fraction (hr.mono (by decide)) (da_cons (de_var 3) da_nil)) da_nil))) da_nil))))) da_nil)))))))
def rd_Walk_advance (K : PySem.W.Frag) : AS :=
  (sSeq (sIf (aB (aOp oEq (aFldO (cWalk K) nsWalk 3 (aVar 0)) (aC (.int 2)))) (sRet (aCallP p_write_outcome (aCons (aLst (aCons (aC (.int 0)) aNil)) (aCons (aC (.bl true)) aNil)))) sNext)
    (sSeq (sIf (aB (aOp oEq (aFldO (cWalk K) nsWalk 3 (aVar 0)) (aC (.int 0)))) (sSeq (sFldA (cWalk K) nsWalk 3 "phase" (aVar 0) (aC (.int 1)))
    (sRet (aCallP p_write_outcome (aCons (aMeth (cWalk K) nsWalk (p_Walk_tell K) (aVar 0) aNil) (aCons (aC (.bl false)) aNil))))) sNext)
    (sSeq (sIf (aB (aCallP (p_is_letter (cValue K)) (aCons (aVar 1) aNil))) (sSeq (sIf (aB (aOp oEq (aCB cLen (aCons (aFldO (cWalk K) nsWalk 4 (aVar 0)) aNil)) (aC (.int 8)))) (sSeq (sFldA (cWalk K) nsWalk 3 "phase" (aVar 0) (aC (.int 2)))
    (sRet (aCallP p_write_outcome (aCons (aCallP p_write_words (aCons (aC (.str "complete")) aNil)) (aCons (aC (.bl true)) aNil))))) sNext)
    (sFldA (cWalk K) nsWalk 4 "letters" (aVar 0) (aOp oAdd (aFldO (cWalk K) nsWalk 4 (aVar 0)) (aLst (aCons (aOp oSub (aOp oIx (aFld (cValue K) nsValue 2 (aVar 1)) (aC (.int 0))) (aC (.int 97))) aNil))))) sNext)
    (sRet (aCallP p_write_outcome (aCons (aMeth (cWalk K) nsWalk (p_Walk_tell K) (aVar 0) aNil) (aCons (aC (.bl false)) aNil)))))))
theorem dv_Walk_advance {P : Program} {w : World} {K : PySem.W.Frag} {mg : Str → Option Value} {base : Heap} (T : Tx K mg)
    (F_write_outcome : Cal P w K mg base CX0 3 "write_outcome" ["part", "done"] (pureSp p_write_outcome))
    (F_Walk_tell : Mal P w K mg base CX0 5 (cWalk K) "tell" ["self"] (p_Walk_tell K))
    (F_is_letter : Cal P w K mg base CX0 1 "is_letter" ["x"] (pureSp (p_is_letter (cValue K))))
    (F_write_words : Cal P w K mg base CX0 3 "write_words" ["words"] (pureSp p_write_words)) : Rds P w K mg base ["self", "x"] "Walk.advance" (defScope s_Walk_advance) (He.ma K (cWalk K) "advance") (defBody s_Walk_advance) 5 (rd_Walk_advance K) := by
  intro cdv A outer s H E hr
  exact (dss_cons (ds_if (dt_eq hr (de_fldO 3 T.c_Walk (de_var 0)) (de_gl T.i_HAS_ENDED_walks)) (dss_one (ds_ret (de_callP F_write_outcome (hr.mono (by decide)) (da_cons (de_lst (da_cons (de_gl T.i_NOTHING) da_nil)) (da_cons (de_bl) da_nil))))) dss_nil)
    (dss_cons (ds_if (dt_eq hr (de_fldO 3 T.c_Walk (de_var 0)) (de_gl T.i_NOT_STARTED)) (dss_cons (ds_fld 3 T.c_Walk (de_var 0) (de_gl T.i_GOES_ON_walks))
    (dss_one (ds_ret (de_callP F_write_outcome (hr.mono (by decide)) (da_cons (de_meth0 T.c_Walk F_Walk_tell (hr.mono (by decide)) (de_var 0) (by decide +kernel)) (da_cons (de_bl) da_nil)))))) dss_nil)
    (dss_cons (ds_if (dt_of (de_callP F_is_letter (hr.mono (by decide)) (da_cons (de_var 1) da_nil))) (dss_cons (ds_if (dt_eq hr (de_len T.b_len (de_fldO 4 T.c_Walk (de_var 0))) (de_gl T.i_MOST_READ)) (dss_cons (ds_fld 3 T.c_Walk (de_var 0) (de_gl T.i_HAS_ENDED_walks))
    (dss_one (ds_ret (de_callP F_write_outcome (hr.mono (by decide)) (da_cons (de_callP F_write_words (hr.mono (by decide)) (da_cons (de_str) da_nil)) (da_cons (de_bl) da_nil)))))) dss_nil)
    (dss_one (ds_fld 4 T.c_Walk (de_var 0) (de_add (de_fldO 4 T.c_Walk (de_var 0)) (de_lst (da_cons (de_sub (de_ix (de_fld 2 T.c_Value (de_var 1)) (de_int)) (de_gl T.i_LETTER_A)) da_nil)))))) dss_nil)
    (dss_one (ds_ret (de_callP F_write_outcome (hr.mono (by decide)) (da_cons (de_meth0 T.c_Walk F_Walk_tell (hr.mono (by decide)) (de_var 0) (by decide +kernel)) (da_cons (de_bl) da_nil))))))))
def rd_Walk_throw_in (K : PySem.W.Frag) : AS :=
  (sSeq (sIf (aAnd (aB (aOp oEq (aFldO (cWalk K) nsWalk 3 (aVar 0)) (aC (.int 1)))) (aAnd (aB (aOp oGt (aCB cLen (aCons (aFldO (cWalk K) nsWalk 4 (aVar 0)) aNil)) (aC (.int 0)))) (aB (aCallP (p_is_undo (cValue K)) (aCons (aVar 1) aNil))))) (sSeq (sFldA (cWalk K) nsWalk 4 "letters" (aVar 0) (aSl (aFldO (cWalk K) nsWalk 4 (aVar 0)) aNoP (aPart (aOp oSub (aCB cLen (aCons (aFldO (cWalk K) nsWalk 4 (aVar 0)) aNil)) (aC (.int 1))))))
    (sRet (aCallP p_write_list (aCons (aCallP p_result_parts (aCons (aMeth (cWalk K) nsWalk (p_Walk_tell K) (aVar 0) aNil) (aCons (aC (.bl false)) aNil))) aNil)))) sNext)
    (sSeq (sFldA (cWalk K) nsWalk 3 "phase" (aVar 0) (aC (.int 2)))
    (sRet (aCallP p_write_list (aCons (aCallP (p_thrown_parts (cValue K)) (aCons (aVar 1) aNil)) aNil)))))
theorem dv_Walk_throw_in {P : Program} {w : World} {K : PySem.W.Frag} {mg : Str → Option Value} {base : Heap} (T : Tx K mg)
    (F_is_undo : Cal P w K mg base CX0 2 "is_undo" ["x"] (pureSp (p_is_undo (cValue K))))
    (F_Walk_tell : Mal P w K mg base CX0 5 (cWalk K) "tell" ["self"] (p_Walk_tell K))
    (F_result_parts : Cal P w K mg base CX0 4 "result_parts" ["part", "done"] (pureSp p_result_parts))
    (F_write_list : Cal P w K mg base CX0 2 "write_list" ["parts"] (pureSp p_write_list))
    (F_thrown_parts : Cal P w K mg base CX0 4 "thrown_parts" ["x"] (pureSp (p_thrown_parts (cValue K)))) : Rds P w K mg base ["self", "x"] "Walk.throw_in" (defScope s_Walk_throw_in) (He.ma K (cWalk K) "throw_in") (defBody s_Walk_throw_in) 5 (rd_Walk_throw_in K) := by
  intro cdv A outer s H E hr
  exact (dss_cons (ds_if (dt_w (dw_and (dt_eq hr (de_fldO 3 T.c_Walk (de_var 0)) (de_gl T.i_GOES_ON_walks)) (dw_and (dt_gt (de_len T.b_len (de_fldO 4 T.c_Walk (de_var 0))) (de_int)) (dw_and1 (dt_of (de_callP F_is_undo (hr.mono (by decide)) (da_cons (de_var 1) da_nil))))))) (dss_cons (ds_fld 4 T.c_Walk (de_var 0) (de_sl (de_fldO 4 T.c_Walk (de_var 0)) do_no (do_at (de_sub (de_len T.b_len (de_fldO 4 T.c_Walk (de_var 0))) (de_int)))))
    (dss_one (ds_ret (de_callP F_write_list (hr.mono (by decide)) (da_cons (de_callP F_result_parts (hr.mono (by decide)) (da_cons (de_meth0 T.c_Walk F_Walk_tell (hr.mono (by decide)) (de_var 0) (by decide +kernel)) (da_cons (de_bl) da_nil))) da_nil))))) dss_nil)
    (dss_cons (ds_fld 3 T.c_Walk (de_var 0) (de_gl T.i_HAS_ENDED_walks))
    (dss_one (ds_ret (de_callP F_write_list (hr.mono (by decide)) (da_cons (de_callP F_thrown_parts (hr.mono (by decide)) (da_cons (de_var 1) da_nil)) da_nil))))))
def rd_Walk_finish (K : PySem.W.Frag) : AS :=
  (sSeq (sFldA (cWalk K) nsWalk 3 "phase" (aVar 0) (aC (.int 2)))
    (sRet (aCallP p_write_outcome (aCons (aCallP (p_write_again (cValue K)) (aCons (aVar 1) aNil)) (aCons (aC (.bl true)) aNil)))))
theorem dv_Walk_finish {P : Program} {w : World} {K : PySem.W.Frag} {mg : Str → Option Value} {base : Heap} (T : Tx K mg)
    (F_write_again : Cal P w K mg base CX0 3 "write_again" ["value"] (pureSp (p_write_again (cValue K))))
    (F_write_outcome : Cal P w K mg base CX0 3 "write_outcome" ["part", "done"] (pureSp p_write_outcome)) : Rds P w K mg base ["self", "x"] "Walk.finish" (defScope s_Walk_finish) (He.ma K (cWalk K) "finish") (defBody s_Walk_finish) 3 (rd_Walk_finish K) := by
  intro cdv A outer s H E hr
  exact (dss_cons (ds_fld 3 T.c_Walk (de_var 0) (de_gl T.i_HAS_ENDED_walks))
    (dss_one (ds_ret (de_callP F_write_outcome (hr.mono (by decide)) (da_cons (de_callP F_write_again (hr.mono (by decide)) (da_cons (de_var 1) da_nil)) (da_cons (de_bl) da_nil))))))
def rd_Walk_dispose (K : PySem.W.Frag) : AS :=
  (sSeq (sFldA (cWalk K) nsWalk 3 "phase" (aVar 0) (aC (.int 2)))
    (sRet (aLst (aCons (aC (.int 0)) aNil))))
theorem dv_Walk_dispose {P : Program} {w : World} {K : PySem.W.Frag} {mg : Str → Option Value} {base : Heap} (T : Tx K mg) : Rds P w K mg base ["self"] "Walk.dispose" (defScope s_Walk_dispose) (He.ma K (cWalk K) "dispose") (defBody s_Walk_dispose) 0 (rd_Walk_dispose K) := by
  intro cdv A outer s H E hr
  exact (dss_cons (ds_fld 3 T.c_Walk (de_var 0) (de_gl T.i_HAS_ENDED_walks))
    (dss_one (ds_ret (de_lst (da_cons (de_gl T.i_NOTHING) da_nil)))))
theorem keep_is_letter (K : PySem.W.Frag) : Keeps ["x"] (pureSp (p_is_letter (cValue K))) (rd_is_letter K) := by
  rintro ds W AQ AX ⟨rfl, v, rfl, ho, hQ⟩
  cases v with
  | text u =>
    simp [rd_is_letter, encV, vO, nsValue]
    refine ⟨oI u, rfl, [97], rfl, ?_⟩
    by_cases h : oI u = [97]
    · simpa [h, isLetV] using hQ
    · simp [h]
      refine ⟨oI u, rfl, [98], rfl, ?_⟩
      simpa [h, isLetV] using hQ
  | bool b => cases b <;> simpa [rd_is_letter, encV, vO, nsValue, iL, isLetV] using hQ
  | big i => exact (noBig_of ho).elim
  | octets u => exact (noOct_of ho).elim
  | wide u => exact (noWide_of ho).elim
  | _ => simpa [rd_is_letter, encV, vO, nsValue, iL, isLetV] using hQ
theorem keep_is_undo (K : PySem.W.Frag) : Keeps ["x"] (pureSp (p_is_undo (cValue K))) (rd_is_undo K) := by
  rintro ds W AQ AX ⟨rfl, v, rfl, ho, hQ⟩
  cases v with
  | text u =>
    simp [rd_is_undo, encV, vO, nsValue]
    refine ⟨"undo", rfl, by decide +kernel, ?_⟩
    simp
    refine ⟨oI u, rfl, octs "undo", rfl, ?_⟩
    simpa [isUndoV] using hQ
  | bool b => cases b <;> simpa [rd_is_undo, encV, vO, nsValue, iL, isUndoV] using hQ
  | big i => exact (noBig_of ho).elim
  | octets u => exact (noOct_of ho).elim
  | wide u => exact (noWide_of ho).elim
  | _ => simpa [rd_is_undo, encV, vO, nsValue, iL, isUndoV] using hQ
theorem keep_Walk_init (K : PySem.W.Frag) : Keeps ["self", "system", "discount", "best"] (p_Walk_init K) (rd_Walk_init K) := by
  rintro ds W AQ AX ⟨p, t, g, b, rfl, rfl, hQ⟩
  simp [rd_Walk_init, nsWalk]
  refine ⟨_, _, ⟨rfl, rfl⟩, rfl, by simp, _, _, .refl _, rfl, by simp, by simp, _, _, .refl _, rfl, by simp, by simp, _, _, .refl _, rfl, by simp, by simp, _, _, .refl _, rfl, by simp, by simp, hQ⟩
theorem wText_length (os : List Int) : (wText os).length = 5 + os.length := by simp [wText, wN_length]; omega
theorem wInt_length (i : Int) : (wInt i).length = 9 := by simp [wInt, wN_length]
theorem tellF_length (h : WalkS) : (tellF h).length = 104 + h.w.length := by
  have e1 : ("word" : Str).length = 4 := by decide +kernel
  have e2 : ("state" : Str).length = 5 := by decide +kernel
  have e3 : ("reward" : Str).length = 6 := by decide +kernel
  have e4 : ("maxValue" : Str).length = 8 := by decide +kernel
  simp [tellF, wRec, wMem, wN_length, octs_length, wText_length, wInt_length, wFrac_length, e1, e2, e3, e4]
  omega
theorem keep_Walk_tell (K : PySem.W.Frag) : Keeps ["self", "state", "reward", "most"] (p_Walk_tell K) (rd_Walk_tell K) := by
  rintro ds W AQ AX ⟨p, h, rfl, rfl, ho, hQ⟩
  have hp := ho.s.pos
  have he := end_lt ho.s h.w 0 (by omega) ho.w2
  have w8 := ho.w8
  obtain ⟨b1, b2⟩ := ho.b
  have hlt : R7284d.Spec.endState h.t 0 h.w < h.best.length := by omega
  have hd := b2 h.best[R7284d.Spec.endState h.t 0 h.w] (List.getElem_mem hlt)
  have hg : h.best.getD (R7284d.Spec.endState h.t 0 h.w) (0, 1) = h.best[R7284d.Spec.endState h.t 0 h.w] := by simp [hlt]
  simp [rd_Walk_tell, nsWalk]
  refine ⟨h.t, h.w, rfl, ho.s, ho.w2, ?_⟩
  simp
  refine ⟨h.t, h.g, h.w, rfl, ho.s, ho.d, ho.w2, w8, ?_⟩
  simp
  refine ⟨h.t, h.w, rfl, ho.s, ho.w2, by omega, ?_⟩
  have e2 : (h.best.map fD)[R7284d.Spec.endState h.t 0 h.w]? = some (fD h.best[R7284d.Spec.endState h.t 0 h.w]) := by simp [hlt]
  simp [hlt]
  refine ⟨wrew h.t 0 h.w, h.g, frN h.best[R7284d.Spec.endState h.t 0 h.w], by simp [frN]; omega, ho.d, by rw [wrew_length]; exact w8, by simp [frN]; omega, by simp [frN]; omega, ?_⟩
  simp
  refine ⟨h.w, rfl, by omega, ?_⟩
  simp
  refine ⟨_, rfl, ?_⟩
  simp
  refine ⟨_, rfl, ?_⟩
  simp
  refine ⟨_, rfl, ?_⟩
  simp
  have e1 : ("word" : Str).length = 4 := by decide +kernel
  have e2 : ("state" : Str).length = 5 := by decide +kernel
  have e3 : ("reward" : Str).length = 6 := by decide +kernel
  have e4 : ("maxValue" : Str).length = 8 := by decide +kernel
  refine ⟨[("word", wWord h.w), ("state", wInt (R7284d.Spec.endState h.t 0 h.w : Nat)), ("reward", wFrac (wrewF h.t h.g h.w)), ("maxValue", wFrac (disc h.g (wrew h.t 0 h.w) (frN h.best[R7284d.Spec.endState h.t 0 h.w])))], by simp, by simp [e1, e2, e3, e4], ?_, ?_⟩
  · simp [wMem, wN_length, octs_length, wText_length, wInt_length, wFrac_length, e1, e2, e3, e4]
    omega
  · rw [tellF, hg] at hQ
    exact hQ
theorem wOut_ok {p : List Int} (h : p.length ≤ 100000) : p.length ≤ 100000 := h
theorem keep_Walk_advance (K : PySem.W.Frag) : Keeps ["self", "x"] (p_Walk_advance K) (rd_Walk_advance K) := by
  rintro ds W AQ AX ⟨p, ⟨t, g, best, ph, w⟩, v, rfl, rfl, ho, hv, hQ⟩
  have w8 := ho.w8
  simp only at w8
  have ecl : ("complete" : Str).length = 8 := by decide +kernel
  by_cases h2 : ph = 2
  · have c2 : ((ph : Nat) : Int) = 2 := by omega
    simp only [advF, if_pos h2] at hQ
    simp [rd_Walk_advance, nsWalk, c2]
    exact ⟨[0], true, rfl, by simp, by simpa [c2] using hQ⟩
  · have c2 : ¬ ((ph : Nat) : Int) = 2 := by omega
    simp only [advF, if_neg h2] at hQ
    by_cases h0 : ph = 0
    · subst h0
      simp only [if_true] at hQ
      simp [rd_Walk_advance, nsWalk]
      refine ⟨_, _, ⟨rfl, rfl⟩, rfl, by simp, by simp, ?_⟩
      simp
      refine ⟨[_], [], rfl, p, ⟨t, g, best, 1, w⟩, rfl, rfl, ⟨ho.s, ho.d, ho.b, ho.w2, ho.w8⟩, ?_⟩
      simp
      refine ⟨_, _, rfl, by rw [tellF_length]; simp; omega, ?_⟩
      exact hQ
    · have c0 : ¬ ((ph : Nat) : Int) = 0 := by omega
      simp only [if_neg h0] at hQ
      simp [rd_Walk_advance, nsWalk, c2, h0]
      refine ⟨v, rfl, hv, ?_⟩
      cases hl : isLetV v with
      | false =>
        simp only [hl, Bool.false_eq_true, if_false] at hQ
        simp
        refine ⟨[_], [], rfl, p, ⟨t, g, best, ph, w⟩, rfl, rfl, ho, ?_⟩
        simp
        refine ⟨_, _, rfl, by rw [tellF_length]; simp; omega, ?_⟩
        exact hQ
      | true =>
        simp only [hl, if_true] at hQ
        obtain ⟨u, rfl⟩ : ∃ u, v = .text u := by
          cases v with
          | text u => exact ⟨u, rfl⟩
          | _ => cases hl
        obtain ⟨a, rfl, ha⟩ : ∃ a : UInt8, u = [a] ∧ (a.toNat = 97 ∨ a.toNat = 98) := by
          have hl' : oI u = [97] ∨ oI u = [98] := of_decide_eq_true hl
          match u, hl' with
          | [], h => simp [oI] at h
          | [a], h => exact ⟨a, rfl, by simp [oI] at h; omega⟩
          | _ :: _ :: _, h => simp [oI] at h
        by_cases h8 : w.length = 8
        · have c8 : ((w.length : Nat) : Int) = 8 := by omega
          simp only [if_pos h8] at hQ
          simp [c8]
          refine ⟨_, _, ⟨rfl, rfl⟩, rfl, by simp, by simp, ?_⟩
          simp
          refine ⟨"complete", rfl, by omega, ?_⟩
          simp
          refine ⟨_, _, rfl, by rw [wText_length, octs_length]; omega, ?_⟩
          exact hQ
        · have c8 : ¬ ((w.length : Nat) : Int) = 8 := by omega
          simp only [if_neg h8] at hQ
          simp [c8, encV, vO, nsValue, oI]
          refine ⟨by omega, _, _, ⟨rfl, rfl⟩, rfl, by simp, by simp, ?_⟩
          simp
          have ho' : OkW ⟨t, g, best, ph, w ++ [a.toNat - 97]⟩ := ⟨ho.s, ho.d, ho.b, fun c hc => by
            rcases List.mem_append.mp hc with z | z
            · exact ho.w2 c z
            · simp at z; omega, by simp; omega⟩
          have ea : ((a.toNat : Nat) : Int) - 97 = ((a.toNat - 97 : Nat) : Int) := by omega
          refine ⟨[_], [], rfl, p, ⟨t, g, best, ph, w ++ [a.toNat - 97]⟩, rfl, by simp [wO, eW, ea], ho', ?_⟩
          simp
          refine ⟨_, _, rfl, by rw [tellF_length]; simp; omega, ?_⟩
          simpa [octV] using hQ
theorem wRes_len {p : List Int} {b : Bool} (h : p.length ≤ 100000) : ([wText (octs "result"), p, wTr b].flatten).length ≤ 1000000 := by
  have e1 : ("result" : Str).length = 6 := by decide +kernel
  simp [wText_length, octs_length, e1, wTr]
  omega
theorem wAgain_length {v : RWire.Value} (h : OkX v) : (wAgain v).length ≤ 60005 := by
  cases v with
  | text u =>
    have := h.sz u rfl
    simp [wAgain, wText_length, oI_length]
    omega
  | int i => simp [wAgain, wInt_length]
  | _ => simp [wAgain]
theorem keep_Walk_throw_in (K : PySem.W.Frag) : Keeps ["self", "x"] (p_Walk_throw_in K) (rd_Walk_throw_in K) := by
  rintro ds W AQ AX ⟨p, ⟨t, g, best, ph, w⟩, v, rfl, rfl, ho, hx, hQ⟩
  have w8 := ho.w8
  simp only at w8
  have gone : AQ (iL (wThr v)) [(p, wO K ⟨t, g, best, 2, w⟩)] → ∃ fs Wr, ((OD.ins (cWalk K) [("system", encSys t), ("discount", encDis g), ("best", bestD best), ("phase", .int (ph : Nat)), ("letters", eW w)] = OD.ins (cWalk K) fs) ∧ Wr = ([] : Om)) ∧ True := fun _ => ⟨_, _, ⟨rfl, rfl⟩, trivial⟩
  by_cases h1 : ph = 1 ∧ 0 < w.length ∧ isUndoV v = true
  · simp only [thrF, if_pos h1] at hQ
    obtain ⟨rfl, hw, hu⟩ := h1
    have ne : ¬ w = [] := fun z => by subst z; simp at hw
    simp [rd_Walk_throw_in, nsWalk, hw]
    refine ⟨v, rfl, hx.ok, ?_⟩
    rw [hu]
    simp
    have es : Hd.cutD (w.map fun (k : Nat) => D.int (k : Int)) none (some ((w.length : Int) - 1)) = (w.take (w.length - 1)).map fun (k : Nat) => D.int (k : Int) := by
      have : ¬ ((w.length : Int) - 1 < 0) := by omega
      simp [Hd.cutD, HT.sIx, this, List.map_take]
    rw [es]
    refine ⟨_, _, ⟨rfl, rfl⟩, rfl, by simp, by simp, ?_⟩
    simp
    have ho' : OkW ⟨t, g, best, 1, w.take (w.length - 1)⟩ := ⟨ho.s, ho.d, ho.b, fun c hc => ho.w2 c (List.mem_of_mem_take hc), by simp; omega⟩
    refine ⟨[_], [], rfl, p, ⟨t, g, best, 1, w.take (w.length - 1)⟩, rfl, by simp [wO, eW, List.map_take], ho', ?_⟩
    simp
    refine ⟨_, _, rfl, ?_⟩
    simp
    refine ⟨[wText (octs "result"), tellF ⟨t, g, best, 1, w.take (w.length - 1)⟩, wTr false], by simp, wRes_len (by rw [tellF_length]; simp; omega), ?_⟩
    exact hQ
  · simp only [thrF, if_neg h1] at hQ
    have fin : ∃ fs Wr, ([(p, wO K ⟨t, g, best, ph, w⟩)] : Om).Perm ((p, .ins (cWalk K) fs) :: Wr) ∧ True := ⟨_, _, .refl _, trivial⟩
    have rest : (sSeq (sFldA (cWalk K) nsWalk 3 "phase" (aVar 0) (aC (.int 2))) (sRet (aCallP p_write_list (aCons (aCallP (p_thrown_parts (cValue K)) (aCons (aVar 1) aNil)) aNil)))) { nx := fun _ W' => AQ .non W', rt := AQ } [some (.adr p), some (encV (cValue K) v)] [(p, wO K ⟨t, g, best, ph, w⟩)] := by
      simp [nsWalk]
      refine ⟨_, _, ⟨rfl, rfl⟩, rfl, by simp, by simp, ?_⟩
      simp
      refine ⟨v, rfl, hx.pr, hx.ok, fun u e => by have := hx.sz u e; omega, ?_⟩
      simp
      have := wAgain_length hx
      have e1 : ("thrown" : Str).length = 6 := by decide +kernel
      refine ⟨[wText (octs "thrown"), wAgain v], by simp, by simp [wText_length, octs_length, e1]; omega, hQ⟩
    by_cases a1 : ph = 1
    · subst a1
      by_cases a2 : 0 < w.length
      · have ne : ¬ w = [] := fun z => by subst z; simp at a2
        have a3 : isUndoV v = false := by
          cases hu : isUndoV v with
          | false => rfl
          | true => exact (h1 ⟨rfl, a2, hu⟩).elim
        simp [rd_Walk_throw_in, nsWalk, a2]
        refine ⟨v, rfl, hx.ok, ?_⟩
        rw [a3]
        simpa [nsWalk] using rest
      · have ez : w = [] := List.eq_nil_of_length_eq_zero (by omega)
        subst ez
        simp [rd_Walk_throw_in, nsWalk]
        simpa [nsWalk] using rest
    · have c1 : ¬ ((ph : Nat) : Int) = 1 := by omega
      simp [rd_Walk_throw_in, nsWalk, c1, a1]
      simpa [nsWalk] using rest
theorem keep_Walk_finish (K : PySem.W.Frag) : Keeps ["self", "x"] (p_Walk_finish K) (rd_Walk_finish K) := by
  rintro ds W AQ AX ⟨p, ⟨t, g, best, ph, w⟩, v, rfl, rfl, hx, hQ⟩
  simp [rd_Walk_finish, nsWalk]
  refine ⟨_, _, ⟨rfl, rfl⟩, rfl, by simp, by simp, ?_⟩
  simp
  refine ⟨v, rfl, hx.pr, hx.ok, fun u e => by have := hx.sz u e; omega, ?_⟩
  simp
  have := wAgain_length hx
  exact ⟨_, _, rfl, by omega, hQ⟩
theorem keep_Walk_dispose (K : PySem.W.Frag) : Keeps ["self"] (p_Walk_dispose K) (rd_Walk_dispose K) := by
  rintro ds W AQ AX ⟨p, ⟨t, g, best, ph, w⟩, rfl, rfl, hQ⟩
  simp [rd_Walk_dispose, nsWalk]
  exact ⟨_, _, ⟨rfl, rfl⟩, rfl, by simp, by simp, hQ⟩
end Dsn
end

section
set_option maxHeartbeats 4000000
/-! # Listings -/
namespace Dsn
open PySem PySem.Spec PyProof.Rows L2 Hd
structure ListS where
  t : Sys
  g : Dis
  ph : Nat
  left : List Wrd
  told : Nat
  last : Nat
structure OkI (h : ListS) : Prop where
  s : OkS h.t
  d : OkD h.g
  w : ∀ w ∈ h.left, two w ∧ w.length ≤ 8
  n : h.left.length ≤ 70
abbrev lO (K : PySem.W.Frag) (h : ListS) : OD := .ins (cListing K) [("system", encSys h.t), ("discount", encDis h.g), ("phase", .int (h.ph : Nat)), ("left", .lst (h.left.map fun w => eW w)), ("told", .int (h.told : Nat)), ("last", .int (h.last : Nat))]
def showF (t : Sys) (g : Dis) (w : Wrd) : List Int := wRec [("word", wWord w), ("reward", wFrac (wrewF t g w))]
def endL (h : ListS) : ListS := { h with ph := 2, left := [] }
def procF (h : ListS) : ListS × List Int × Bool :=
  if h.ph = 2 then (h, [0], true) else
  match h.left with
  | [] => (endL h, wInt (h.told : Nat), true)
  | w :: r => ({ h with left := r, ph := 1, told := h.told + 1, last := w.length }, showF h.t h.g w, false)
def skipsF (h : ListS) : RWire.Value → Bool
  | .int i => decide (h.ph = 1 ∧ (h.last : Int) < i ∧ i ≤ 5)
  | _ => false
def wholeV : RWire.Value → Int
  | .int i => i
  | _ => 0
def nextPF (h : ListS) : ListS × List (List Int) := ((procF h).1, [wText (octs "result"), (procF h).2.1, wTr (procF h).2.2])
def thrPF (h : ListS) (v : RWire.Value) : ListS × List (List Int) :=
  if skipsF h v = true then nextPF { h with left := h.left.filter fun w => decide (wholeV v ≤ (w.length : Int)) } else (endL h, [wText (octs "thrown"), wAgain v])
def retPF (h : ListS) (v : RWire.Value) : ListS × List (List Int) := (endL h, [wText (octs "result"), wAgain v, wTr true])
def reqPF (h : ListS) (s : Int) (v : RWire.Value) : ListS × List (List Int) := if s = 116 then thrPF h v else if s = 114 then retPF h v else nextPF h
def togF (v : RWire.Value) : Nat → ListS → List Int → ListS × List (List Int)
  | _, h, [] => (h, [])
  | i, h, s :: r => ((togF v (i + 1) (reqPF h s v).1 r).1, wList (wInt (i : Nat) :: (reqPF h s v).2) :: (togF v (i + 1) (reqPF h s v).1 r).2)
abbrev psD (ps : List (List Int)) : D := .lst (ps.map fun p => iL p)
def p_Listing_init (K : PySem.W.Frag) : ASp := fun ds W Q _ => ∃ p t g ws, ds = [.adr p, t, g, .lst ws] ∧ W = [(p, .ins (cListing K) [])] ∧ Q .non [(p, .ins (cListing K) [("system", t), ("discount", g), ("phase", .int 0), ("left", .lst ws), ("told", .int 0), ("last", .int 0)])]
@[simp] theorem init_I (K : PySem.W.Frag) (p : Addr) (t g : D) (ws : List D) (Q : D → Om → Prop) (X : Addr → Str → Om → Prop) : p_Listing_init K [.adr p, t, g, .lst ws] [(p, .ins (cListing K) [])] Q X ↔ Q .non [(p, .ins (cListing K) [("system", t), ("discount", g), ("phase", .int 0), ("left", .lst ws), ("told", .int 0), ("last", .int 0)])] := by
  constructor
  · rintro ⟨p', t', g', b', h1, h2, h3⟩
    simp at h1
    obtain ⟨rfl, rfl, rfl, rfl⟩ := h1
    exact h3
  · intro h
    exact ⟨p, t, g, ws, rfl, rfl, h⟩
def p_Listing_show (K : PySem.W.Frag) : ASp := fun ds W Q _ => ∃ p h w, ds = [.adr p, eW w] ∧ W = [(p, lO K h)] ∧ OkS h.t ∧ OkD h.g ∧ two w ∧ w.length ≤ 8 ∧ Q (iL (showF h.t h.g w)) [(p, lO K h)]
def p_Listing_end (K : PySem.W.Frag) : ASp := fun ds W Q _ => ∃ p h, ds = [.adr p] ∧ W = [(p, lO K h)] ∧ Q .non [(p, lO K (endL h))]
@[simp] theorem end_I (K : PySem.W.Frag) (p : Addr) (h : ListS) (Q : D → Om → Prop) (X : Addr → Str → Om → Prop) (hq : Q .non [(p, lO K (endL h))]) : p_Listing_end K [.adr p] [(p, lO K h)] Q X := ⟨p, h, rfl, rfl, hq⟩
def p_Listing_proceed (K : PySem.W.Frag) : ASp := fun ds W Q _ => ∃ p h, ds = [.adr p] ∧ W = [(p, lO K h)] ∧ OkI h ∧ Q (.tup [iL (procF h).2.1, .bl (procF h).2.2]) [(p, lO K (procF h).1)]
def p_Listing_skips (K : PySem.W.Frag) : ASp := fun ds W Q _ => ∃ p h v, ds = [.adr p, encV (cValue K) v] ∧ W = [(p, lO K h)] ∧ okV v = true ∧ Q (.bl (skipsF h v)) [(p, lO K h)]
def p_Listing_next_parts (K : PySem.W.Frag) : ASp := fun ds W Q _ => ∃ p h, ds = [.adr p] ∧ W = [(p, lO K h)] ∧ OkI h ∧ Q (psD (nextPF h).2) [(p, lO K (nextPF h).1)]
def p_Listing_throw_parts (K : PySem.W.Frag) : ASp := fun ds W Q _ => ∃ p h v, ds = [.adr p, encV (cValue K) v] ∧ W = [(p, lO K h)] ∧ OkI h ∧ OkX v ∧ Q (psD (thrPF h v).2) [(p, lO K (thrPF h v).1)]
def p_Listing_return_parts (K : PySem.W.Frag) : ASp := fun ds W Q _ => ∃ p h v, ds = [.adr p, encV (cValue K) v] ∧ W = [(p, lO K h)] ∧ OkX v ∧ Q (psD (retPF h v).2) [(p, lO K (retPF h v).1)]
def p_Listing_request_parts (K : PySem.W.Frag) : ASp := fun ds W Q _ => ∃ p h s v, ds = [.adr p, .int s, encV (cValue K) v] ∧ W = [(p, lO K h)] ∧ OkI h ∧ OkX v ∧ Q (psD (reqPF h s v).2) [(p, lO K (reqPF h s v).1)]
def p_Listing_advance (K : PySem.W.Frag) : ASp := fun ds W Q _ => ∃ p h, ds = [.adr p] ∧ W = [(p, lO K h)] ∧ OkI h ∧ Q (iL (wOut (procF h).2.1 (procF h).2.2)) [(p, lO K (procF h).1)]
def p_Listing_throw_in (K : PySem.W.Frag) : ASp := fun ds W Q _ => ∃ p h v, ds = [.adr p, encV (cValue K) v] ∧ W = [(p, lO K h)] ∧ OkI h ∧ OkX v ∧ Q (iL (wList (thrPF h v).2)) [(p, lO K (thrPF h v).1)]
def p_Listing_finish (K : PySem.W.Frag) : ASp := fun ds W Q _ => ∃ p h v, ds = [.adr p, encV (cValue K) v] ∧ W = [(p, lO K h)] ∧ OkX v ∧ Q (iL (wOut (wAgain v) true)) [(p, lO K (endL h))]
def p_Listing_collect (K : PySem.W.Frag) : ASp := fun ds W Q _ => ∃ p h, ds = [.adr p] ∧ W = [(p, lO K h)] ∧ OkI h ∧ Q (iL (wList (h.left.map (showF h.t h.g)))) [(p, lO K (endL h))]
def p_Listing_together (K : PySem.W.Frag) : ASp := fun ds W Q _ => ∃ p h r v, ds = [.adr p, iL r, encV (cValue K) v] ∧ W = [(p, lO K h)] ∧ OkI h ∧ OkX v ∧ r.length ≤ 8 ∧ Q (iL (wList (togF v 0 h r).2)) [(p, lO K (togF v 0 h r).1)]
def p_Listing_dispose (K : PySem.W.Frag) : ASp := fun ds W Q _ => ∃ p h, ds = [.adr p] ∧ W = [(p, lO K h)] ∧ Q (iL [0]) [(p, lO K (endL h))]
def rd_Listing_init (K : PySem.W.Frag) : AS :=
  (sSeq (sFldA (cListing K) nsListing 0 "system" (aVar 0) (aVar 1))
    (sSeq (sFldA (cListing K) nsListing 1 "discount" (aVar 0) (aVar 2))
    (sSeq (sFldA (cListing K) nsListing 2 "phase" (aVar 0) (aC (.int 0)))
    (sSeq (sFldA (cListing K) nsListing 3 "left" (aVar 0) (aCB cList (aCons (aVar 3) aNil)))
    (sSeq (sFldA (cListing K) nsListing 4 "told" (aVar 0) (aC (.int 0)))
    (sFldA (cListing K) nsListing 5 "last" (aVar 0) (aC (.int 0))))))))
theorem dv_Listing_init {P : Program} {w : World} {K : PySem.W.Frag} {mg : Str → Option Value} {base : Heap} (T : Tx K mg) : Rds P w K mg base ["self", "system", "discount", "words"] "Listing.__init__" (defScope s_Listing_init) (He.ma K (cListing K) "__init__") (defBody s_Listing_init) 0 (rd_Listing_init K) := by
  intro cdv A outer s H E hr
  exact (dss_cons (ds_fld 0 T.c_Listing (de_var 0) (de_var 1))
    (dss_cons (ds_fld 1 T.c_Listing (de_var 0) (de_var 2))
    (dss_cons (ds_fld 2 T.c_Listing (de_var 0) (de_gl T.i_TOLD_NOTHING))
    (dss_cons (ds_fld 3 T.c_Listing (de_var 0) (de_list T.b_list (de_var 3)))
    (dss_cons (ds_fld 4 T.c_Listing (de_var 0) (de_int))
    (dss_one (ds_fld 5 T.c_Listing (de_var 0) (de_int))))))))
def rd_Listing_show (K : PySem.W.Frag) : AS :=
  (sSeq (sAsg (aCallP p_word_reward (aCons (aFldO (cListing K) nsListing 0 (aVar 0)) (aCons (aFldO (cListing K) nsListing 1 (aVar 0)) (aCons (aVar 1) aNil)))) (gNm 2))
    (sRet (aCallP p_write_record (aCons (aLst (aCons (aTup (aCons (aC (.str "word")) (aCons (aCallP p_write_word (aCons (aVar 1) aNil)) aNil))) (aCons (aTup (aCons (aC (.str "reward")) (aCons (aCallP p_write_fraction (aCons (aVar 2) aNil)) aNil))) aNil))) aNil))))
theorem dv_Listing_show {P : Program} {w : World} {K : PySem.W.Frag} {mg : Str → Option Value} {base : Heap} (T : Tx K mg)
    (F_word_reward : Cal P w K mg base CX0 4 "word_reward" ["system", "discount", "word"] (pureSp p_word_reward))
    (F_write_fraction : Cal P w K mg base CX0 3 "write_fraction" ["fraction"] (pureSp p_write_fraction))
    (F_write_word : Cal P w K mg base CX0 3 "write_word" ["word"] (pureSp p_write_word))
    (F_write_record : Cal P w K mg base CX0 2 "write_record" ["members"] (pureSp p_write_record)) : Rds P w K mg base ["self", "word", "reward"] "Listing.show" (defScope s_Listing_show) (He.ma K (cListing K) "show") (defBody s_Listing_show) 4 (rd_Listing_show K) := by
  intro cdv A outer s H E hr
  exact (dss_cons (ds_set 2 sc_Listing_show.nd (de_callP F_word_reward (hr.mono (by decide)) (da_cons (de_fldO 0 T.c_Listing (de_var 0)) (da_cons (de_fldO 1 T.c_Listing (de_var 0)) (da_cons (de_var 1) da_nil)))))
    (dss_one (ds_ret (de_callP F_write_record (hr.mono (by decide)) (da_cons (de_lst (da_cons (de_tup (da_cons (de_str) (da_cons (de_callP F_write_word (hr.mono (by decide)) (da_cons (de_var 1) da_nil)) da_nil))) (da_cons (de_tup (da_cons (de_str) (da_cons (de_callP F_write_fraction (hr.mono (by decide)) (da_cons (de_var 2) da_nil)) da_nil))) da_nil))) da_nil)))))
def rd_Listing_end (K : PySem.W.Frag) : AS :=
  (sSeq (sFldA (cListing K) nsListing 2 "phase" (aVar 0) (aC (.int 2)))
    (sFldA (cListing K) nsListing 3 "left" (aVar 0) (aLst aNil)))
theorem dv_Listing_end {P : Program} {w : World} {K : PySem.W.Frag} {mg : Str → Option Value} {base : Heap} (T : Tx K mg) : Rds P w K mg base ["self"] "Listing.end" (defScope s_Listing_end) (He.ma K (cListing K) "end") (defBody s_Listing_end) 0 (rd_Listing_end K) := by
  intro cdv A outer s H E hr
  exact (dss_cons (ds_fld 2 T.c_Listing (de_var 0) (de_gl T.i_HAS_ENDED_listing))
    (dss_one (ds_fld 3 T.c_Listing (de_var 0) (de_lst da_nil))))
def rd_Listing_proceed (K : PySem.W.Frag) : AS :=
  (sSeq (sIf (aB (aOp oEq (aFldO (cListing K) nsListing 2 (aVar 0)) (aC (.int 2)))) (sRet (aTup (aCons (aLst (aCons (aC (.int 0)) aNil)) (aCons (aC (.bl true)) aNil)))) sNext)
    (sSeq (sIf (aB (aOp oEq (aCB cLen (aCons (aFldO (cListing K) nsListing 3 (aVar 0)) aNil)) (aC (.int 0)))) (sSeq (sDrop (aMeth (cListing K) nsListing (p_Listing_end K) (aVar 0) aNil))
    (sRet (aTup (aCons (aCallP p_write_whole (aCons (aFldO (cListing K) nsListing 4 (aVar 0)) aNil)) (aCons (aC (.bl true)) aNil))))) sNext)
    (sSeq (sAsg (aOp oIx (aFldO (cListing K) nsListing 3 (aVar 0)) (aC (.int 0))) (gNm 1))
    (sSeq (sFldA (cListing K) nsListing 3 "left" (aVar 0) (aSl (aFldO (cListing K) nsListing 3 (aVar 0)) (aPart (aC (.int 1))) aNoP))
    (sSeq (sFldA (cListing K) nsListing 2 "phase" (aVar 0) (aC (.int 1)))
    (sSeq (sFldA (cListing K) nsListing 4 "told" (aVar 0) (aOp oAdd (aFldO (cListing K) nsListing 4 (aVar 0)) (aC (.int 1))))
    (sSeq (sFldA (cListing K) nsListing 5 "last" (aVar 0) (aCB cLen (aCons (aVar 1) aNil)))
    (sRet (aTup (aCons (aMeth (cListing K) nsListing (p_Listing_show K) (aVar 0) (aCons (aVar 1) aNil)) (aCons (aC (.bl false)) aNil)))))))))))
theorem dv_Listing_proceed {P : Program} {w : World} {K : PySem.W.Frag} {mg : Str → Option Value} {base : Heap} (T : Tx K mg)
    (F_Listing_end : Mal P w K mg base CX0 1 (cListing K) "end" ["self"] (p_Listing_end K))
    (F_write_whole : Cal P w K mg base CX0 2 "write_whole" ["whole"] (pureSp p_write_whole))
    (F_Listing_show : Mal P w K mg base CX0 5 (cListing K) "show" ["self", "word"] (p_Listing_show K)) : Rds P w K mg base ["self", "word"] "Listing.proceed" (defScope s_Listing_proceed) (He.ma K (cListing K) "proceed") (defBody s_Listing_proceed) 5 (rd_Listing_proceed K) := by
  intro cdv A outer s H E hr
  exact (dss_cons (ds_if (dt_eq hr (de_fldO 2 T.c_Listing (de_var 0)) (de_gl T.i_HAS_ENDED_listing)) (dss_one (ds_ret (de_tup (da_cons (de_lst (da_cons (de_gl T.i_NOTHING) da_nil)) (da_cons (de_bl) da_nil))))) dss_nil)
    (dss_cons (ds_if (dt_eq hr (de_len T.b_len (de_fldO 3 T.c_Listing (de_var 0))) (de_int)) (dss_cons (ds_expr (de_meth0 T.c_Listing F_Listing_end (hr.mono (by decide)) (de_var 0) (by decide +kernel)))
    (dss_one (ds_ret (de_tup (da_cons (de_callP F_write_whole (hr.mono (by decide)) (da_cons (de_fldO 4 T.c_Listing (de_var 0)) da_nil)) (da_cons (de_bl) da_nil)))))) dss_nil)
    (dss_cons (ds_set 1 sc_Listing_proceed.nd (de_ix (de_fldO 3 T.c_Listing (de_var 0)) (de_int)))
    (dss_cons (ds_fld 3 T.c_Listing (de_var 0) (de_sl (de_fldO 3 T.c_Listing (de_var 0)) (do_at (de_int)) do_no))
    (dss_cons (ds_fld 2 T.c_Listing (de_var 0) (de_gl T.i_GOES_ON_listing))
    (dss_cons (ds_fld 4 T.c_Listing (de_var 0) (de_add (de_fldO 4 T.c_Listing (de_var 0)) (de_int)))
    (dss_cons (ds_fld 5 T.c_Listing (de_var 0) (de_len T.b_len (de_var 1)))
    (dss_one (ds_ret (de_tup (da_cons (de_meth T.c_Listing F_Listing_show (hr.mono (by decide)) (de_var 0) (da_cons (de_var 1) da_nil) (by decide +kernel)) (da_cons (de_bl) da_nil))))))))))))
def rd_Listing_skips (K : PySem.W.Frag) : AS :=
  (sSeq (sIf (aOr (aB (aOp oNe (aFldO (cListing K) nsListing 2 (aVar 0)) (aC (.int 1)))) (aB (aOp oNe (aFld (cValue K) nsValue 0 (aVar 1)) (aC (.int 4))))) (sRet (aC (.bl false))) sNext)
    (sRet (aAndV (aOp oGt (aFld (cValue K) nsValue 1 (aVar 1)) (aFldO (cListing K) nsListing 5 (aVar 0))) (aOp oLe (aFld (cValue K) nsValue 1 (aVar 1)) (aC (.int 5))))))
theorem dv_Listing_skips {P : Program} {w : World} {K : PySem.W.Frag} {mg : Str → Option Value} {base : Heap} (T : Tx K mg) : Rds P w K mg base ["self", "x"] "Listing.skips" (defScope s_Listing_skips) (He.ma K (cListing K) "skips") (defBody s_Listing_skips) 0 (rd_Listing_skips K) := by
  intro cdv A outer s H E hr
  exact (dss_cons (ds_if (dt_w (dw_or (dt_ne (de_fldO 2 T.c_Listing (de_var 0)) (de_gl T.i_GOES_ON_listing)) (dw_or1 (dt_ne (de_fld 0 T.c_Value (de_var 1)) (de_gl T.i_INTEGER))))) (dss_one (ds_ret (de_bl))) dss_nil)
    (dss_one (ds_ret (de_and (de_gt (de_fld 1 T.c_Value (de_var 1)) (de_fldO 5 T.c_Listing (de_var 0))) (de_one (de_le (de_fld 1 T.c_Value (de_var 1)) (de_gl T.i_MOST_SKIP)))))))
def rd_Listing_next_parts (K : PySem.W.Frag) : AS :=
  (sSeq (sAsg (aMeth (cListing K) nsListing (p_Listing_proceed K) (aVar 0) aNil) (gTp 2 (gC1 (gNm 1) (gC1 (gNm 2) gN0))))
    (sRet (aCallP p_result_parts (aCons (aVar 1) (aCons (aVar 2) aNil)))))
theorem dv_Listing_next_parts {P : Program} {w : World} {K : PySem.W.Frag} {mg : Str → Option Value} {base : Heap} (T : Tx K mg)
    (F_Listing_proceed : Mal P w K mg base CX0 6 (cListing K) "proceed" ["self"] (p_Listing_proceed K))
    (F_result_parts : Cal P w K mg base CX0 4 "result_parts" ["part", "done"] (pureSp p_result_parts)) : Rds P w K mg base ["self", "part", "done"] "Listing.next_parts" (defScope s_Listing_next_parts) (He.ma K (cListing K) "next_parts") (defBody s_Listing_next_parts) 6 (rd_Listing_next_parts K) := by
  intro cdv A outer s H E hr
  exact (dss_cons (ds_asg (de_meth0 T.c_Listing F_Listing_proceed (hr.mono (by decide)) (de_var 0) (by decide +kernel)) (dg_tp (dgs_cons (dg_nm 1 sc_Listing_next_parts.nd) (dgs_cons (dg_nm 2 sc_Listing_next_parts.nd) dgs_nil))))
    (dss_one (ds_ret (de_callP F_result_parts (hr.mono (by decide)) (da_cons (de_var 1) (da_cons (de_var 2) da_nil))))))
def rd_Listing_throw_parts (K : PySem.W.Frag) : AS :=
  (sSeq (sIf (aB (aMeth (cListing K) nsListing (p_Listing_skips K) (aVar 0) (aCons (aVar 1) aNil))) (sSeq (sFldA (cListing K) nsListing 3 "left" (aVar 0) (aLc (iListA (aFldO (cListing K) nsListing 3 (aVar 0))) (gNm 2) (aB (aOp oGe (aCB cLen (aCons (aVar 2) aNil)) (aFld (cValue K) nsValue 1 (aVar 1)))) (aVar 2) [2]))
    (sRet (aMeth (cListing K) nsListing (p_Listing_next_parts K) (aVar 0) aNil))) sNext)
    (sSeq (sDrop (aMeth (cListing K) nsListing (p_Listing_end K) (aVar 0) aNil))
    (sRet (aCallP (p_thrown_parts (cValue K)) (aCons (aVar 1) aNil)))))
theorem dv_Listing_throw_parts {P : Program} {w : World} {K : PySem.W.Frag} {mg : Str → Option Value} {base : Heap} (T : Tx K mg)
    (F_Listing_skips : Mal P w K mg base CX0 1 (cListing K) "skips" ["self", "x"] (p_Listing_skips K))
    (F_Listing_next_parts : Mal P w K mg base CX0 7 (cListing K) "next_parts" ["self"] (p_Listing_next_parts K))
    (F_Listing_end : Mal P w K mg base CX0 1 (cListing K) "end" ["self"] (p_Listing_end K))
    (F_thrown_parts : Cal P w K mg base CX0 4 "thrown_parts" ["x"] (pureSp (p_thrown_parts (cValue K)))) : Rds P w K mg base ["self", "x", "word"] "Listing.throw_parts" (defScope s_Listing_throw_parts) (He.ma K (cListing K) "throw_parts") (defBody s_Listing_throw_parts) 7 (rd_Listing_throw_parts K) := by
  intro cdv A outer s H E hr
  exact (dss_cons (ds_if (dt_of (de_meth T.c_Listing F_Listing_skips (hr.mono (by decide)) (de_var 0) (da_cons (de_var 1) da_nil) (by decide +kernel))) (dss_cons (ds_fld 3 T.c_Listing (de_var 0) (de_lcT [("word", 2)] 2 sc_Listing_throw_parts.nd (blkOk_by (own := [("word", 2)]) (N := ["self", "x", "word"]) (sc := defScope s_Listing_throw_parts) (by decide +kernel)) (di_list (de_fldO 3 T.c_Listing (de_var 0))) (fun _ _ _ _ _ => pg_name (i := 2) sc_Listing_throw_parts.nd rfl (Or.inl rfl)) (fun _ _ _ _ _ => (dt_ge (de_len T.b_len (de_var 2)) (de_fld 1 T.c_Value (de_var 1)))) (fun _ _ _ _ _ => (de_var 2))))
    (dss_one (ds_ret (de_meth0 T.c_Listing F_Listing_next_parts (hr.mono (by decide)) (de_var 0) (by decide +kernel))))) dss_nil)
    (dss_cons (ds_expr (de_meth0 T.c_Listing F_Listing_end (hr.mono (by decide)) (de_var 0) (by decide +kernel)))
    (dss_one (ds_ret (de_callP F_thrown_parts (hr.mono (by decide)) (da_cons (de_var 1) da_nil))))))
def rd_Listing_return_parts (K : PySem.W.Frag) : AS :=
  (sSeq (sDrop (aMeth (cListing K) nsListing (p_Listing_end K) (aVar 0) aNil))
    (sRet (aCallP p_result_parts (aCons (aCallP (p_write_again (cValue K)) (aCons (aVar 1) aNil)) (aCons (aC (.bl true)) aNil)))))
theorem dv_Listing_return_parts {P : Program} {w : World} {K : PySem.W.Frag} {mg : Str → Option Value} {base : Heap} (T : Tx K mg)
    (F_Listing_end : Mal P w K mg base CX0 1 (cListing K) "end" ["self"] (p_Listing_end K))
    (F_write_again : Cal P w K mg base CX0 3 "write_again" ["value"] (pureSp (p_write_again (cValue K))))
    (F_result_parts : Cal P w K mg base CX0 4 "result_parts" ["part", "done"] (pureSp p_result_parts)) : Rds P w K mg base ["self", "x"] "Listing.return_parts" (defScope s_Listing_return_parts) (He.ma K (cListing K) "return_parts") (defBody s_Listing_return_parts) 4 (rd_Listing_return_parts K) := by
  intro cdv A outer s H E hr
  exact (dss_cons (ds_expr (de_meth0 T.c_Listing F_Listing_end (hr.mono (by decide)) (de_var 0) (by decide +kernel)))
    (dss_one (ds_ret (de_callP F_result_parts (hr.mono (by decide)) (da_cons (de_callP F_write_again (hr.mono (by decide)) (da_cons (de_var 1) da_nil)) (da_cons (de_bl) da_nil))))))
def rd_Listing_request_parts (K : PySem.W.Frag) : AS :=
  (sSeq (sIf (aB (aOp oEq (aVar 1) (aC (.int 116)))) (sRet (aMeth (cListing K) nsListing (p_Listing_throw_parts K) (aVar 0) (aCons (aVar 2) aNil))) sNext)
    (sSeq (sIf (aB (aOp oEq (aVar 1) (aC (.int 114)))) (sRet (aMeth (cListing K) nsListing (p_Listing_return_parts K) (aVar 0) (aCons (aVar 2) aNil))) sNext)
    (sRet (aMeth (cListing K) nsListing (p_Listing_next_parts K) (aVar 0) aNil))))
theorem dv_Listing_request_parts {P : Program} {w : World} {K : PySem.W.Frag} {mg : Str → Option Value} {base : Heap} (T : Tx K mg)
    (F_Listing_throw_parts : Mal P w K mg base CX0 8 (cListing K) "throw_parts" ["self", "x"] (p_Listing_throw_parts K))
    (F_Listing_return_parts : Mal P w K mg base CX0 5 (cListing K) "return_parts" ["self", "x"] (p_Listing_return_parts K))
    (F_Listing_next_parts : Mal P w K mg base CX0 7 (cListing K) "next_parts" ["self"] (p_Listing_next_parts K)) : Rds P w K mg base ["self", "sign", "x"] "Listing.request_parts" (defScope s_Listing_request_parts) (He.ma K (cListing K) "request_parts") (defBody s_Listing_request_parts) 8 (rd_Listing_request_parts K) := by
  intro cdv A outer s H E hr
  exact (dss_cons (ds_if (dt_eq hr (de_var 1) (de_gl T.i_SIGN_T)) (dss_one (ds_ret (de_meth T.c_Listing F_Listing_throw_parts (hr.mono (by decide)) (de_var 0) (da_cons (de_var 2) da_nil) (by decide +kernel)))) dss_nil)
    (dss_cons (ds_if (dt_eq hr (de_var 1) (de_gl T.i_SIGN_R)) (dss_one (ds_ret (de_meth T.c_Listing F_Listing_return_parts (hr.mono (by decide)) (de_var 0) (da_cons (de_var 2) da_nil) (by decide +kernel)))) dss_nil)
    (dss_one (ds_ret (de_meth0 T.c_Listing F_Listing_next_parts (hr.mono (by decide)) (de_var 0) (by decide +kernel))))))
def rd_Listing_advance (K : PySem.W.Frag) : AS :=
  (sSeq (sAsg (aMeth (cListing K) nsListing (p_Listing_proceed K) (aVar 0) aNil) (gTp 2 (gC1 (gNm 1) (gC1 (gNm 2) gN0))))
    (sRet (aCallP p_write_outcome (aCons (aVar 1) (aCons (aVar 2) aNil)))))
theorem dv_Listing_advance {P : Program} {w : World} {K : PySem.W.Frag} {mg : Str → Option Value} {base : Heap} (T : Tx K mg)
    (F_Listing_proceed : Mal P w K mg base CX0 6 (cListing K) "proceed" ["self"] (p_Listing_proceed K))
    (F_write_outcome : Cal P w K mg base CX0 3 "write_outcome" ["part", "done"] (pureSp p_write_outcome)) : Rds P w K mg base ["self", "part", "done"] "Listing.advance" (defScope s_Listing_advance) (He.ma K (cListing K) "advance") (defBody s_Listing_advance) 6 (rd_Listing_advance K) := by
  intro cdv A outer s H E hr
  exact (dss_cons (ds_asg (de_meth0 T.c_Listing F_Listing_proceed (hr.mono (by decide)) (de_var 0) (by decide +kernel)) (dg_tp (dgs_cons (dg_nm 1 sc_Listing_advance.nd) (dgs_cons (dg_nm 2 sc_Listing_advance.nd) dgs_nil))))
    (dss_one (ds_ret (de_callP F_write_outcome (hr.mono (by decide)) (da_cons (de_var 1) (da_cons (de_var 2) da_nil))))))
def rd_Listing_throw_in (K : PySem.W.Frag) : AS :=
  (sRet (aCallP p_write_list (aCons (aMeth (cListing K) nsListing (p_Listing_throw_parts K) (aVar 0) (aCons (aVar 1) aNil)) aNil)))
theorem dv_Listing_throw_in {P : Program} {w : World} {K : PySem.W.Frag} {mg : Str → Option Value} {base : Heap} (T : Tx K mg)
    (F_Listing_throw_parts : Mal P w K mg base CX0 8 (cListing K) "throw_parts" ["self", "x"] (p_Listing_throw_parts K))
    (F_write_list : Cal P w K mg base CX0 2 "write_list" ["parts"] (pureSp p_write_list)) : Rds P w K mg base ["self", "x"] "Listing.throw_in" (defScope s_Listing_throw_in) (He.ma K (cListing K) "throw_in") (defBody s_Listing_throw_in) 8 (rd_Listing_throw_in K) := by
  intro cdv A outer s H E hr
  exact (dss_one (ds_ret (de_callP F_write_list (hr.mono (by decide)) (da_cons (de_meth T.c_Listing F_Listing_throw_parts (hr.mono (by decide)) (de_var 0) (da_cons (de_var 1) da_nil) (by decide +kernel)) da_nil))))
def rd_Listing_finish (K : PySem.W.Frag) : AS :=
  (sSeq (sDrop (aMeth (cListing K) nsListing (p_Listing_end K) (aVar 0) aNil))
    (sRet (aCallP p_write_outcome (aCons (aCallP (p_write_again (cValue K)) (aCons (aVar 1) aNil)) (aCons (aC (.bl true)) aNil)))))
theorem dv_Listing_finish {P : Program} {w : World} {K : PySem.W.Frag} {mg : Str → Option Value} {base : Heap} (T : Tx K mg)
    (F_Listing_end : Mal P w K mg base CX0 1 (cListing K) "end" ["self"] (p_Listing_end K))
    (F_write_again : Cal P w K mg base CX0 3 "write_again" ["value"] (pureSp (p_write_again (cValue K))))
    (F_write_outcome : Cal P w K mg base CX0 3 "write_outcome" ["part", "done"] (pureSp p_write_outcome)) : Rds P w K mg base ["self", "x"] "Listing.finish" (defScope s_Listing_finish) (He.ma K (cListing K) "finish") (defBody s_Listing_finish) 3 (rd_Listing_finish K) := by
  intro cdv A outer s H E hr
  exact (dss_cons (ds_expr (de_meth0 T.c_Listing F_Listing_end (hr.mono (by decide)) (de_var 0) (by decide +kernel)))
    (dss_one (ds_ret (de_callP F_write_outcome (hr.mono (by decide)) (da_cons (de_callP F_write_again (hr.mono (by decide)) (da_cons (de_var 1) da_nil)) (da_cons (de_bl) da_nil))))))
def rd_Listing_collect (K : PySem.W.Frag) : AS :=
  (sSeq (sAsg (aLc (iListA (aFldO (cListing K) nsListing 3 (aVar 0))) (gNm 2) aYes (aMeth (cListing K) nsListing (p_Listing_show K) (aVar 0) (aCons (aVar 2) aNil)) [2]) (gNm 1))
    (sSeq (sDrop (aMeth (cListing K) nsListing (p_Listing_end K) (aVar 0) aNil))
    (sRet (aCallP p_write_list (aCons (aVar 1) aNil)))))
theorem dv_Listing_collect {P : Program} {w : World} {K : PySem.W.Frag} {mg : Str → Option Value} {base : Heap} (T : Tx K mg)
    (F_Listing_show : Mal P w K mg base CX0 5 (cListing K) "show" ["self", "word"] (p_Listing_show K))
    (F_Listing_end : Mal P w K mg base CX0 1 (cListing K) "end" ["self"] (p_Listing_end K))
    (F_write_list : Cal P w K mg base CX0 2 "write_list" ["parts"] (pureSp p_write_list)) : Rds P w K mg base ["self", "records", "word"] "Listing.collect" (defScope s_Listing_collect) (He.ma K (cListing K) "collect") (defBody s_Listing_collect) 5 (rd_Listing_collect K) := by
  intro cdv A outer s H E hr
  exact (dss_cons (ds_setLc 1 [("word", 2)] 2 sc_Listing_collect.nd rfl (sw_true rfl rfl rfl (by decide +kernel)) (blkOk_by (own := [("word", 2)]) (N := ["self", "records", "word"]) (sc := defScope s_Listing_collect) (by decide +kernel)) (di_list (de_fldO 3 T.c_Listing (de_var 0))) (fun _ _ _ _ _ => pg_name (i := 2) sc_Listing_collect.nd rfl (Or.inl rfl)) (fun _ _ _ _ _ => (de_meth T.c_Listing F_Listing_show (hr.mono (by decide)) (de_var 0) (da_cons (de_var 2) da_nil) (by decide +kernel))))
    (dss_cons (ds_expr (de_meth0 T.c_Listing F_Listing_end (hr.mono (by decide)) (de_var 0) (by decide +kernel)))
    (dss_one (ds_ret (de_callP F_write_list (hr.mono (by decide)) (da_cons (de_var 1) da_nil))))))
def rd_Listing_together (K : PySem.W.Frag) : AS :=
  (sSeq (sAsg (aLstO aNil) (gNm 3))
    (sSeq (sFor (iEnumA (aVar 1)) (gTp 2 (gC1 (gNm 4) (gC1 (gNm 5) gN0))) (sApp (aVar 3) (aCallP p_write_list (aCons (aOp oAdd (aLst (aCons (aCallP p_write_whole (aCons (aVar 4) aNil)) aNil)) (aMeth (cListing K) nsListing (p_Listing_request_parts K) (aVar 0) (aCons (aVar 5) (aCons (aVar 2) aNil)))) aNil))))
    (sRet (aCallP p_write_list (aCons (aFrz (aVar 3)) aNil)))))
theorem dv_Listing_together {P : Program} {w : World} {K : PySem.W.Frag} {mg : Str → Option Value} {base : Heap} (T : Tx K mg)
    (F_write_whole : Cal P w K mg base CX0 2 "write_whole" ["whole"] (pureSp p_write_whole))
    (F_Listing_request_parts : Mal P w K mg base CX0 9 (cListing K) "request_parts" ["self", "sign", "x"] (p_Listing_request_parts K))
    (F_write_list : Cal P w K mg base CX0 2 "write_list" ["parts"] (pureSp p_write_list)) : Rds P w K mg base ["self", "requests", "x", "answers", "place", "sign"] "Listing.together" (defScope s_Listing_together) (He.ma K (cListing K) "together") (defBody s_Listing_together) 9 (rd_Listing_together K) := by
  intro cdv A outer s H E hr
  exact (dss_cons (ds_set 3 sc_Listing_together.nd (de_lstO da_nil))
    (dss_cons (ds_for PassesOwn.never (di_enum T.b_enumerate (de_var 1)) (dg_tp (dgs_cons (dg_nm 4 sc_Listing_together.nd) (dgs_cons (dg_nm 5 sc_Listing_together.nd) dgs_nil))) (dss_one (ds_app (de_var 3) (de_callP F_write_list (hr.mono (by decide)) (da_cons (de_add (de_lst (da_cons (de_callP F_write_whole (hr.mono (by decide)) (da_cons (de_var 4) da_nil)) da_nil)) (de_meth T.c_Listing F_Listing_request_parts (hr.mono (by decide)) (de_var 0) (da_cons (de_var 5) (da_cons (de_var 2) da_nil)) (by decide +kernel))) da_nil)))))
    (dss_one (ds_ret (de_callP F_write_list (hr.mono (by decide)) (da_cons (de_frz (de_var 3)) da_nil))))))
def rd_Listing_dispose (K : PySem.W.Frag) : AS :=
  (sSeq (sDrop (aMeth (cListing K) nsListing (p_Listing_end K) (aVar 0) aNil))
    (sRet (aLst (aCons (aC (.int 0)) aNil))))
theorem dv_Listing_dispose {P : Program} {w : World} {K : PySem.W.Frag} {mg : Str → Option Value} {base : Heap} (T : Tx K mg)
    (F_Listing_end : Mal P w K mg base CX0 1 (cListing K) "end" ["self"] (p_Listing_end K)) : Rds P w K mg base ["self"] "Listing.dispose" (defScope s_Listing_dispose) (He.ma K (cListing K) "dispose") (defBody s_Listing_dispose) 1 (rd_Listing_dispose K) := by
  intro cdv A outer s H E hr
  exact (dss_cons (ds_expr (de_meth0 T.c_Listing F_Listing_end (hr.mono (by decide)) (de_var 0) (by decide +kernel)))
    (dss_one (ds_ret (de_lst (da_cons (de_gl T.i_NOTHING) da_nil)))))
theorem keep_Listing_init (K : PySem.W.Frag) : Keeps ["self", "system", "discount", "words"] (p_Listing_init K) (rd_Listing_init K) := by
  rintro ds W AQ AX ⟨p, t, g, ws, rfl, rfl, hQ⟩
  simp [rd_Listing_init, nsListing]
  refine ⟨_, _, ⟨rfl, rfl⟩, rfl, by simp, _, _, .refl _, rfl, by simp, by simp, _, _, .refl _, rfl, by simp, by simp, _, _, .refl _, rfl, by simp, by simp, _, _, .refl _, rfl, by simp, by simp, _, _, .refl _, rfl, by simp, by simp, hQ⟩
theorem showF_length (t : Sys) (g : Dis) (w : Wrd) : (showF t g w).length = 51 + w.length := by
  have e1 : ("word" : Str).length = 4 := by decide +kernel
  have e3 : ("reward" : Str).length = 6 := by decide +kernel
  simp [showF, wRec, wMem, wN_length, octs_length, wText_length, wInt_length, wFrac_length, e1, e3]
  omega
theorem keep_Listing_show (K : PySem.W.Frag) : Keeps ["self", "word", "reward"] (p_Listing_show K) (rd_Listing_show K) := by
  rintro ds W AQ AX ⟨p, h, w, rfl, rfl, hs, hd, hw, w8, hQ⟩
  have e1 : ("word" : Str).length = 4 := by decide +kernel
  have e3 : ("reward" : Str).length = 6 := by decide +kernel
  simp [rd_Listing_show, nsListing]
  refine ⟨h.t, h.g, w, rfl, hs, hd, hw, w8, ?_⟩
  simp
  refine ⟨w, rfl, by omega, ?_⟩
  simp
  refine ⟨_, rfl, ?_⟩
  simp
  refine ⟨[("word", wWord w), ("reward", wFrac (wrewF h.t h.g w))], by simp, by simp [e1, e3], ?_, hQ⟩
  simp [wMem, wN_length, octs_length, wText_length, wInt_length, wFrac_length, e1, e3]
  omega
theorem keep_Listing_end (K : PySem.W.Frag) : Keeps ["self"] (p_Listing_end K) (rd_Listing_end K) := by
  rintro ds W AQ AX ⟨p, h, rfl, rfl, hQ⟩
  simp [rd_Listing_end, nsListing]
  exact ⟨_, _, ⟨rfl, rfl⟩, rfl, by simp, by simp, _, _, .refl _, rfl, by simp, by simp, hQ⟩
theorem keep_Listing_proceed (K : PySem.W.Frag) : Keeps ["self", "word"] (p_Listing_proceed K) (rd_Listing_proceed K) := by
  rintro ds W AQ AX ⟨p, ⟨t, g, ph, left, told, last⟩, rfl, rfl, ho, hQ⟩
  by_cases h2 : ph = 2
  · subst h2
    simp [procF] at hQ
    simp [rd_Listing_proceed, nsListing]
    exact hQ
  · have c2 : ¬ ((ph : Nat) : Int) = 2 := by omega
    cases left with
    | nil =>
      simp [procF, h2] at hQ
      simp [rd_Listing_proceed, nsListing, c2]
      refine ⟨[_], [], rfl, p, ⟨t, g, ph, [], told, last⟩, rfl, rfl, ?_⟩
      simp [endL]
      exact ⟨told, rfl, hQ⟩
    | cons w r =>
      simp [procF, h2] at hQ
      obtain ⟨w2, w8⟩ := ho.w w List.mem_cons_self
      have es : Hd.cutD (eW w :: r.map fun w => eW w) (some 1) none = r.map fun w => eW w := by
        simp [Hd.cutD, HT.sIx]
        exact List.take_of_length_le (by simp)
      have hl : ¬ ((r.length : Int) + 1 = 0) := by omega
      simp [rd_Listing_proceed, nsListing, c2, hl, es]
      refine ⟨_, _, ⟨rfl, rfl⟩, rfl, by simp, by simp, _, _, .refl _, rfl, by simp, by simp, ?_⟩
      simp
      refine ⟨_, _, ⟨rfl, rfl⟩, rfl, by simp, by simp, _, _, .refl _, rfl, by simp, by simp, ?_⟩
      simp
      refine ⟨[_], [], rfl, p, ⟨t, g, 1, r, told + 1, w.length⟩, w, rfl, by simp, ho.s, ho.d, w2, w8, ?_⟩
      simpa using hQ
theorem keep_Listing_skips (K : PySem.W.Frag) : Keeps ["self", "x"] (p_Listing_skips K) (rd_Listing_skips K) := by
  rintro ds W AQ AX ⟨p, ⟨t, g, ph, left, told, last⟩, v, rfl, rfl, ho, hQ⟩
  by_cases h1 : ph = 1
  · subst h1
    cases v with
    | int i =>
      simp [rd_Listing_skips, nsListing, encV, vO, nsValue, iL]
      by_cases c : (last : Int) < i
      · simpa [skipsF, c] using hQ
      · simpa [skipsF, c] using hQ
    | bool b => cases b <;> simpa [rd_Listing_skips, nsListing, encV, vO, nsValue, iL, skipsF] using hQ
    | big i => exact (noBig_of ho).elim
    | octets u => exact (noOct_of ho).elim
    | wide u => exact (noWide_of ho).elim
    | _ => simpa [rd_Listing_skips, nsListing, encV, vO, nsValue, iL, skipsF] using hQ
  · have c1 : ¬ ((ph : Nat) : Int) = 1 := by omega
    have : skipsF ⟨t, g, ph, left, told, last⟩ v = false := by
      cases v <;> simp [skipsF, h1]
    rw [this] at hQ
    simp [rd_Listing_skips, nsListing, c1]
    exact hQ
theorem keep_Listing_next_parts (K : PySem.W.Frag) : Keeps ["self", "part", "done"] (p_Listing_next_parts K) (rd_Listing_next_parts K) := by
  rintro ds W AQ AX ⟨p, h, rfl, rfl, ho, hQ⟩
  simp [rd_Listing_next_parts, nsListing]
  refine ⟨[_], [], rfl, p, h, rfl, rfl, ho, ?_⟩
  simp
  exact ⟨_, _, rfl, hQ⟩
theorem filt_left {K : PySem.W.Frag} {G : Ga} {Q : List D → Om → Prop} {W : Om} (v : RWire.Value) (hv : ∃ i, v = .int i) (o0 o3 o4 : Option D) : ∀ (ws acc : List Wrd), Q ((acc ++ ws.filter fun w => decide (wholeV v ≤ (w.length : Int))).map fun w => eW w) W →
    lcD (gNm 2) (aB (aOp oGe (aCB cLen (aCons (aVar 2) aNil)) (aFld (cValue K) nsValue 1 (aVar 1)))) (aVar 2) [o0, some (encV (cValue K) v), o3] Q (ws.map fun w => eW w) (acc.map fun w => eW w) W
  | [], acc, h => by simpa using h
  | w :: ws, acc, h => by
    obtain ⟨i, rfl⟩ := hv
    have ih := filt_left (K := K) (G := G) (Q := Q) (W := W) (.int i) ⟨i, rfl⟩ o0 o3 o4 ws
    by_cases c : i ≤ (w.length : Int)
    · have := ih (acc ++ [w]) (by simpa [wholeV, c] using h)
      simpa [encV, vO, nsValue, iL, c] using this
    · have := ih acc (by simpa [wholeV, c] using h)
      simpa [encV, vO, nsValue, iL, c] using this
theorem keep_Listing_throw_parts (K : PySem.W.Frag) : Keeps ["self", "x", "word"] (p_Listing_throw_parts K) (rd_Listing_throw_parts K) := by
  rintro ds W AQ AX ⟨p, ⟨t, g, ph, left, told, last⟩, v, rfl, rfl, ho, hx, hQ⟩
  simp [rd_Listing_throw_parts, nsListing]
  refine ⟨[_], [], rfl, p, ⟨t, g, ph, left, told, last⟩, v, rfl, rfl, hx.ok, ?_⟩
  cases hk : skipsF ⟨t, g, ph, left, told, last⟩ v with
  | false =>
    simp [thrPF, hk] at hQ
    simp
    refine ⟨[_], [], rfl, p, ⟨t, g, ph, left, told, last⟩, rfl, rfl, ?_⟩
    simp
    exact ⟨v, rfl, hx.pr, hx.ok, fun u e => by have := hx.sz u e; omega, hQ⟩
  | true =>
    simp only [thrPF, hk, if_true] at hQ
    have hv : ∃ i, v = .int i := by
      cases v with
      | int i => exact ⟨i, rfl⟩
      | _ => cases hk
    have hn := ho.n
    simp only at hn
    simp
    refine ⟨by omega, ?_⟩
    have := filt_left (K := K) (G := []) (Q := fun out W2 => ∃ fs Wr, W2.Perm ((p, OD.ins (cListing K) fs) :: Wr) ∧
      (List.map (fun x => x.1) fs = List.take fs.length nsListing ∧ 3 ≤ fs.length ∧ fs.length < 1000 ∧
        ((sRet (aMeth (cListing K) nsListing (p_Listing_next_parts K) (aVar 0) aNil)) { nx := fun _ W' => AQ .non W', rt := AQ } [some (.adr p), some (encV (cValue K) v), none] ((p, OD.ins (cListing K) (putI 3 ("left", D.lst out) fs)) :: Wr))))
      (W := [(p, lO K ⟨t, g, ph, left, told, last⟩)]) v hv (some (.adr p)) none none left [] (by
        refine ⟨_, _, .refl _, rfl, by simp, by simp, ?_⟩
        simp [nsListing]
        refine ⟨[_], [], rfl, p, ⟨t, g, ph, left.filter fun w => decide (wholeV v ≤ (w.length : Int)), told, last⟩, rfl, rfl, ⟨ho.s, ho.d, fun w hw => ho.w w ((List.mem_filter.mp hw).1), Nat.le_trans (List.length_filter_le _ _) hn⟩, ?_⟩
        simpa using hQ)
    simpa [nsListing] using this
theorem keep_Listing_return_parts (K : PySem.W.Frag) : Keeps ["self", "x"] (p_Listing_return_parts K) (rd_Listing_return_parts K) := by
  rintro ds W AQ AX ⟨p, h, v, rfl, rfl, hx, hQ⟩
  simp [rd_Listing_return_parts, nsListing]
  refine ⟨[_], [], rfl, p, h, rfl, rfl, ?_⟩
  simp
  refine ⟨v, rfl, hx.pr, hx.ok, fun u e => by have := hx.sz u e; omega, ?_⟩
  exact ⟨_, _, rfl, hQ⟩
theorem keep_Listing_request_parts (K : PySem.W.Frag) : Keeps ["self", "sign", "x"] (p_Listing_request_parts K) (rd_Listing_request_parts K) := by
  rintro ds W AQ AX ⟨p, h, s, v, rfl, rfl, ho, hx, hQ⟩
  by_cases c1 : s = 116
  · simp only [reqPF, if_pos c1] at hQ
    simp [rd_Listing_request_parts, nsListing, c1]
    exact ⟨[_], [], rfl, p, h, v, rfl, rfl, ho, hx, by simpa using hQ⟩
  · simp only [reqPF, if_neg c1] at hQ
    by_cases c2 : s = 114
    · simp only [if_pos c2] at hQ
      simp [rd_Listing_request_parts, nsListing, c2]
      exact ⟨[_], [], rfl, p, h, v, rfl, rfl, hx, by simpa [c2] using hQ⟩
    · simp only [if_neg c2] at hQ
      simp [rd_Listing_request_parts, nsListing, c1, c2]
      exact ⟨[_], [], rfl, p, h, rfl, rfl, ho, by simpa using hQ⟩
theorem procF_length {h : ListS} (ho : OkI h) : (procF h).2.1.length ≤ 60 := by
  unfold procF
  split
  · simp
  · split
    · simp [wInt_length]
    · rename_i w r e
      have := ho.w w (by rw [e]; exact List.mem_cons_self)
      simp only [showF_length]
      omega
theorem keep_Listing_advance (K : PySem.W.Frag) : Keeps ["self", "part", "done"] (p_Listing_advance K) (rd_Listing_advance K) := by
  rintro ds W AQ AX ⟨p, h, rfl, rfl, ho, hQ⟩
  have := procF_length ho
  simp [rd_Listing_advance, nsListing]
  refine ⟨[_], [], rfl, p, h, rfl, rfl, ho, ?_⟩
  simp
  exact ⟨_, _, rfl, by omega, hQ⟩
theorem reslen : ("result" : Str).length = 6 := by decide +kernel
theorem thrlen : ("thrown" : Str).length = 6 := by decide +kernel
theorem nextPF_length {h : ListS} (ho : OkI h) : (nextPF h).2.flatten.length ≤ 100 := by
  have := procF_length ho
  simp [nextPF, wText_length, octs_length, reslen, wTr]
  omega
theorem skip_ok {h : ListS} (ho : OkI h) (v : RWire.Value) : OkI { h with left := h.left.filter fun w => decide (wholeV v ≤ (w.length : Int)) } :=
  ⟨ho.s, ho.d, fun w hw => ho.w w ((List.mem_filter.mp hw).1), Nat.le_trans (List.length_filter_le _ _) ho.n⟩
theorem thrPF_length {h : ListS} (ho : OkI h) {v : RWire.Value} (hx : OkX v) : (thrPF h v).2.flatten.length ≤ 61000 := by
  have := wAgain_length hx
  unfold thrPF
  split
  · have := nextPF_length (skip_ok ho v)
    omega
  · simp [wText_length, octs_length, thrlen]
    omega
theorem retPF_length (h : ListS) {v : RWire.Value} (hx : OkX v) : (retPF h v).2.flatten.length ≤ 61000 := by
  have := wAgain_length hx
  simp [retPF, wText_length, octs_length, reslen, wTr]
  omega
theorem reqPF_length {h : ListS} (ho : OkI h) (s : Int) {v : RWire.Value} (hx : OkX v) : (reqPF h s v).2.flatten.length ≤ 61000 := by
  unfold reqPF
  split
  · exact thrPF_length ho hx
  · split
    · exact retPF_length h hx
    · have := nextPF_length ho
      omega
theorem endL_ok {h : ListS} (ho : OkI h) : OkI (endL h) := ⟨ho.s, ho.d, (fun _ hw => nomatch hw), Nat.zero_le _⟩
theorem procF_ok {h : ListS} (ho : OkI h) : OkI (procF h).1 := by
  unfold procF
  split
  · exact ho
  · split
    · exact endL_ok ho
    · rename_i w r e
      exact ⟨ho.s, ho.d, fun w' hw => ho.w w' (by rw [e]; exact List.mem_cons_of_mem _ hw), by have := ho.n; rw [e] at this; simp at this ⊢; omega⟩
theorem reqPF_ok {h : ListS} (ho : OkI h) (s : Int) (v : RWire.Value) : OkI (reqPF h s v).1 := by
  unfold reqPF
  split
  · unfold thrPF
    split
    · exact procF_ok (skip_ok ho v)
    · exact endL_ok ho
  · split
    · exact endL_ok ho
    · exact procF_ok ho
theorem keep_Listing_throw_in (K : PySem.W.Frag) : Keeps ["self", "x"] (p_Listing_throw_in K) (rd_Listing_throw_in K) := by
  rintro ds W AQ AX ⟨p, h, v, rfl, rfl, ho, hx, hQ⟩
  have := thrPF_length ho hx
  simp [rd_Listing_throw_in, nsListing]
  refine ⟨[_], [], rfl, p, h, v, rfl, rfl, ho, hx, ?_⟩
  simp
  exact ⟨_, rfl, by omega, hQ⟩
theorem keep_Listing_finish (K : PySem.W.Frag) : Keeps ["self", "x"] (p_Listing_finish K) (rd_Listing_finish K) := by
  rintro ds W AQ AX ⟨p, h, v, rfl, rfl, hx, hQ⟩
  have := wAgain_length hx
  simp [rd_Listing_finish, nsListing]
  refine ⟨[_], [], rfl, p, h, rfl, rfl, ?_⟩
  simp
  refine ⟨v, rfl, hx.pr, hx.ok, fun u e => by have := hx.sz u e; omega, ?_⟩
  exact ⟨_, _, rfl, by omega, hQ⟩
theorem keep_Listing_dispose (K : PySem.W.Frag) : Keeps ["self"] (p_Listing_dispose K) (rd_Listing_dispose K) := by
  rintro ds W AQ AX ⟨p, h, rfl, rfl, hQ⟩
  simp [rd_Listing_dispose, nsListing]
  exact ⟨[_], [], rfl, p, h, rfl, rfl, by simpa [iL] using hQ⟩
theorem flat_le {n : Nat} : ∀ (l : List (List Int)), (∀ q ∈ l, q.length ≤ n) → l.flatten.length ≤ n * l.length
  | [], _ => by simp
  | a :: r, h => by
    have ih := flat_le r fun q hq => h q (List.mem_cons_of_mem _ hq)
    have ha := h a List.mem_cons_self
    rw [List.flatten_cons, List.length_append, List.length_cons, Nat.mul_succ]
    omega
theorem keep_Listing_collect (K : PySem.W.Frag) : Keeps ["self", "records", "word"] (p_Listing_collect K) (rd_Listing_collect K) := by
  rintro ds W AQ AX ⟨p, h, rfl, rfl, ho, hQ⟩
  have hn := ho.n
  simp [rd_Listing_collect, nsListing]
  refine ⟨by omega, lc_mapL (fun w => eW w) (fun w => iL (showF h.t h.g w)) h.left [] (fun w hw R hR => ?_) ?_⟩
  · obtain ⟨w2, w8⟩ := ho.w w hw
    simp
    exact ⟨[_], [], rfl, p, h, w, rfl, rfl, ho.s, ho.d, w2, w8, by simpa using hR⟩
  · simp
    refine ⟨[_], [], rfl, p, h, rfl, rfl, ?_⟩
    simp
    refine ⟨h.left.map (showF h.t h.g), by simp [Function.comp_def], ?_, hQ⟩
    have := flat_le (n := 60) (h.left.map (showF h.t h.g)) (fun q hq => by
      obtain ⟨w, hw, rfl⟩ := List.mem_map.mp hq
      have := (ho.w w hw).2
      rw [showF_length]
      omega)
    simp at this ⊢
    omega
theorem wList_length (ps : List (List Int)) : (wList ps).length = 5 + ps.flatten.length := by simp [wList, wN_length]; omega
theorem tog_loop {K : PySem.W.Frag} {A : AEnds} (p ad : Addr) (v : RWire.Value) (hx : OkX v) (o1 : Option D) : ∀ (r : List Int) (i : Nat) (h : ListS) (acc : List (List Int)) (k l : Option D), OkI h → acc.length + r.length ≤ 1000 →
    (∀ k' l', A.nx [some (.adr p), o1, some (encV (cValue K) v), some (.adr ad), k', l'] [(ad, .lst ((acc ++ (togF v i h r).2).map fun q => iL q)), (p, lO K (togF v i h r).1)]) →
    forD (gTp 2 (gC1 (gNm 4) (gC1 (gNm 5) gN0))) (sApp (aVar 3) (aCallP p_write_list (aCons (aOp oAdd (aLst (aCons (aCallP p_write_whole (aCons (aVar 4) aNil)) aNil)) (aMeth (cListing K) nsListing (p_Listing_request_parts K) (aVar 0) (aCons (aVar 5) (aCons (aVar 2) aNil)))) aNil))) A
      ((r.zipIdx i).map fun q => .tup [.int (q.2 : Nat), .int q.1]) [some (.adr p), o1, some (encV (cValue K) v), some (.adr ad), k, l] [(ad, .lst (acc.map fun q => iL q)), (p, lO K h)]
  | [], i, h, acc, k, l, _, _, hn => by simpa [togF] using hn k l
  | s :: r, i, h, acc, k, l, ho, hl, hn => by
    have hlen := reqPF_length ho s hx
    have hps : (reqPF h s v).2.length ≤ 3 := by
      unfold reqPF
      split
      · unfold thrPF
        split <;> simp [nextPF]
      · split <;> simp [retPF, nextPF]
    simp only [List.zipIdx_cons, List.map_cons]
    simp [nsListing]
    refine ⟨_, rfl, [(p, lO K h)], [(ad, .lst (acc.map fun q => iL q))], List.Perm.swap _ _ _, p, h, s, v, rfl, rfl, ho, hx, ?_⟩
    simp
    refine ⟨by omega, wInt (i : Nat) :: (reqPF h s v).2, by simp, by simp [wInt_length]; simp at hlen; omega, acc.map fun q => iL q, [(p, lO K (reqPF h s v).1)], List.Perm.swap _ _ _, by simp at hl ⊢; omega, ?_⟩
    have := tog_loop (K := K) (A := A) p ad v hx o1 r (i + 1) (reqPF h s v).1 (acc ++ [wList (wInt (i : Nat) :: (reqPF h s v).2)]) (some (.int i)) (some (.int s)) (reqPF_ok ho s v) (by simp at hl ⊢; omega) fun k' l' => by
      simpa [togF] using hn k' l'
    simpa [nsListing] using this
theorem tog_flat (v : RWire.Value) (hx : OkX v) : ∀ (r : List Int) (i : Nat) (h : ListS), OkI h → (togF v i h r).2.flatten.length ≤ 61100 * r.length
  | [], i, h, _ => by simp [togF]
  | s :: r, i, h, ho => by
    have h1 := tog_flat v hx r (i + 1) (reqPF h s v).1 (reqPF_ok ho s v)
    have h2 := reqPF_length ho s hx
    simp only [togF, List.flatten_cons, List.length_append, wList_length, wInt_length, List.length_cons]
    omega
theorem keep_Listing_together (K : PySem.W.Frag) : Keeps ["self", "requests", "x", "answers", "place", "sign"] (p_Listing_together K) (rd_Listing_together K) := by
  rintro ds W AQ AX ⟨p, h, r, v, rfl, rfl, ho, hx, hr, hQ⟩
  simp [rd_Listing_together, nsListing]
  intro ad had
  have hf := tog_flat v hx r 0 h ho
  have := tog_loop (K := K) (A := ⟨sRet (aCallP p_write_list (aCons (aFrz (aVar 3)) aNil)) { nx := fun x W' => AQ D.non W', rt := AQ }, AQ, fun _ _ => False, fun _ _ => False⟩) p ad v hx (some (iL r)) r 0 h [] none none ho (by simp; omega) fun k' l' => by
    simp
    exact ⟨_, _, .refl _, _, rfl, by omega, hQ⟩
  have e : ((r.zipIdx 0).map fun q : Int × Nat => D.tup [.int (q.2 : Nat), .int q.1]) = enumD (r.map D.int) := by
    simp [enumD, List.zipIdx_map, Function.comp_def]
  rw [e] at this
  simpa [nsListing, enumD] using this
end Dsn
end

section
set_option maxHeartbeats 4000000
/-! # Doors without slots -/
namespace Dsn
open PySem PySem.Spec PyProof.Rows L2 Hd
open R7284d.Spec (readSystem readDiscount readWord readPolicy readInteger andThen)
theorem find_mem {α : Type} {p : α → Bool} : ∀ {l : List α} {a : α}, l.find? p = some a → a ∈ l := fun h => List.mem_of_find?_eq_some h
theorem firstBest_mem {ps : List Pol} (rv : List Rk) (h : ps ≠ []) : firstBest ps rv ∈ ps := by
  unfold firstBest
  cases e : (ps.zip rv).find? fun q => isBest q.2 rv with
  | none =>
    cases ps with
    | nil => exact (h rfl).elim
    | cons p ps => simp
  | some q =>
    have := find_mem e
    exact (List.of_mem_zip (a := q.1) (b := q.2) this).1
theorem optPol_ok (t : Sys) (g : Dis) : OkP t.length (optPol t g) := words_ok _ _ (firstBest_mem _ (words_ne _))
theorem blaPol_ok (t : Sys) : OkP t.length (blaPol t) := words_ok _ _ (firstBest_mem _ (words_ne _))
theorem myoPol_ok (t : Sys) : OkP t.length (myoPol t) := words_ok _ _ (firstBest_mem _ (words_ne _))
theorem rD_den {b : Nat} (h : 0 < b) (t : Int) : 0 < (rD t b).2 ∧ (rD t b).2 ≤ b := by
  have g0 : 0 < Nat.gcd t.natAbs b := Nat.gcd_pos_of_pos_right _ h
  have g1 : Nat.gcd t.natAbs b ≤ b := Nat.gcd_le_right _ h
  have h1 : 0 < b / Nat.gcd t.natAbs b := Nat.div_pos g1 g0
  have h2 : b / Nat.gcd t.natAbs b ≤ b := Nat.div_le_self _ _
  have e : (rD t b).2 = ((b / Nat.gcd t.natAbs b : Nat) : Int) := by simp [rD]
  rw [e]
  omega
theorem pvals_ok {t : Sys} {g : Dis} (f : Pol) (hg : OkD g) : OkB t (pvals t g f) := by
  refine ⟨by simp [pvals], fun q hq => ?_⟩
  simp only [pvals, List.mem_map] at hq
  obtain ⟨p, _, rfl⟩ := hq
  obtain ⟨_, w2, w3⟩ := whole_eq hg
  have := rD_den w2 (atF g.1 g.2 (vpoly t f p))
  have h8 : g.2 ^ 8 ≤ 6 ^ 8 := Nat.pow_le_pow_left hg.p2 8
  have : wholeN g ≤ 1679616 := Nat.le_trans (Nat.sub_le _ _) h8
  omega
abbrev bests (t : Sys) (g : Dis) : List (Int × Int) := pvals t g (optPol t g)
abbrev wFracs (qs : List (Int × Int)) : List Int := wList (qs.map wFrac)
abbrev Tk (v : RWire.Value) : R7284d.Spec.Plain := Rust.taken v
def aReward (a b c : RWire.Value) : Except Err (List Int) := andThen (readSystem (Tk a)) fun t => andThen (readDiscount (Tk b)) fun g => andThen (readWord (Tk c)) fun w => .ok (wRec [("state", wInt (R7284d.Spec.endState t 0 w : Nat)), ("reward", wFrac (wrewF t g w))])
def aValues (a b c : RWire.Value) : Except Err (List Int) := andThen (readSystem (Tk a)) fun t => andThen (readDiscount (Tk b)) fun g => andThen (readPolicy t (Tk c)) fun f => .ok (wFracs (pvals t g f))
def aOptimal (a b : RWire.Value) : Except Err (List Int) := andThen (readSystem (Tk a)) fun t => andThen (readDiscount (Tk b)) fun g => .ok (wRec [("policy", wWord (optPol t g)), ("values", wFracs (bests t g))])
def aPrefix (a b c : RWire.Value) : Except Err (List Int) := andThen (readSystem (Tk a)) fun t => andThen (readDiscount (Tk b)) fun g => andThen (readWord (Tk c)) fun w => .ok (wTr (isOptF t g (bests t g) 0 w))
def aAverages (a b : RWire.Value) : Except Err (List Int) := andThen (readSystem (Tk a)) fun t => andThen (readPolicy t (Tk b)) fun f => .ok (wFracs (avgs t f))
def aBla (a : RWire.Value) : Except Err (List Int) := andThen (readSystem (Tk a)) fun t => .ok (wWord (blaPol t))
def aMyo (a : RWire.Value) : Except Err (List Int) := andThen (readSystem (Tk a)) fun t => .ok (wWord (myoPol t))
def aMax (a : RWire.Value) : Except Err (List Int) := andThen (readSystem (Tk a)) fun t => .ok (wFracs (maxAvgs t))
def aPlain (door : Nat) (a b c : RWire.Value) : Except Err (List Int) :=
  if door = 0 then aReward a b c else if door = 1 then aValues a b c else if door = 2 then aOptimal a b else if door = 3 then aPrefix a b c
  else if door = 4 then aBla a else if door = 5 then aMyo a else if door = 6 then aAverages a b else aMax a
/-- octets, or a refusal -/
def PR (K : PySem.W.Frag) (r : Except Err (List Int)) (Q : D → Prop) (X : Addr → Str → Prop) : Prop := (∀ o, r = .ok o → Q (iL o)) ∧ ∀ e, r = .error e → ∀ m, Msg e m → X (clsA K e.cls) m
abbrev argD (K : PySem.W.Frag) (l : List RWire.Value) : D := .lst (l.map (encV (cValue K)))
def p_optimal_values : List D → (D → Prop) → Prop := fun ds Q => ∃ (t : Sys) (g : Dis), ds = [encSys t, encDis g] ∧ OkS t ∧ OkD g ∧ Q (bestD (bests t g))
def p_answer_reward (K : PySem.W.Frag) : List D → (D → Prop) → (Addr → Str → Prop) → Prop := fun ds Q X => ∃ a b c r, ds = [argD K (a :: b :: c :: r)] ∧ okV a = true ∧ okV b = true ∧ okV c = true ∧ PR K (aReward a b c) Q X
def p_answer_values (K : PySem.W.Frag) : List D → (D → Prop) → (Addr → Str → Prop) → Prop := fun ds Q X => ∃ a b c r, ds = [argD K (a :: b :: c :: r)] ∧ okV a = true ∧ okV b = true ∧ okV c = true ∧ PR K (aValues a b c) Q X
def p_answer_optimal (K : PySem.W.Frag) : List D → (D → Prop) → (Addr → Str → Prop) → Prop := fun ds Q X => ∃ a b r, ds = [argD K (a :: b :: r)] ∧ okV a = true ∧ okV b = true ∧ PR K (aOptimal a b) Q X
def p_answer_prefix (K : PySem.W.Frag) : List D → (D → Prop) → (Addr → Str → Prop) → Prop := fun ds Q X => ∃ a b c r, ds = [argD K (a :: b :: c :: r)] ∧ okV a = true ∧ okV b = true ∧ okV c = true ∧ PR K (aPrefix a b c) Q X
def p_answer_averages (K : PySem.W.Frag) : List D → (D → Prop) → (Addr → Str → Prop) → Prop := fun ds Q X => ∃ a b r, ds = [argD K (a :: b :: r)] ∧ okV a = true ∧ okV b = true ∧ PR K (aAverages a b) Q X
def p_answer_plain (K : PySem.W.Frag) : List D → (D → Prop) → (Addr → Str → Prop) → Prop := fun ds Q X => ∃ (door : Nat) (a b c : RWire.Value) (r : List RWire.Value), ds = [.int (door : Nat), argD K (a :: b :: c :: r)] ∧ okV a = true ∧ okV b = true ∧ okV c = true ∧ PR K (aPlain door a b c) Q X
def rd_optimal_values : AS :=
  (sRet (aCallP p_policy_values (aCons (aVar 0) (aCons (aVar 1) (aCons (aCallP p_optimal_policy (aCons (aVar 0) (aCons (aVar 1) aNil))) aNil)))))
theorem dv_optimal_values {P : Program} {w : World} {K : PySem.W.Frag} {mg : Str → Option Value} {base : Heap} (T : Tx K mg)
    (F_optimal_policy : Cal P w K mg base CX0 4 "optimal_policy" ["system", "discount"] (pureSp p_optimal_policy))
    (F_policy_values : Cal P w K mg base CX0 4 "policy_values" ["system", "discount", "policy"] (pureSp p_policy_values)) : Rds P w K mg base ["system", "discount"] "optimal_values" (defScope s_optimal_values) (He.ga K "optimal_values") (defBody s_optimal_values) 4 (rd_optimal_values) := by
  intro cdv A outer s H E hr
  exact (dss_one (ds_ret (de_callP F_policy_values (hr.mono (by decide)) (da_cons (de_var 0) (da_cons (de_var 1) (da_cons (de_callP F_optimal_policy (hr.mono (by decide)) (da_cons (de_var 0) (da_cons (de_var 1) da_nil))) da_nil))))))
def rd_answer_reward (K : PySem.W.Frag) (x : XW) : AS :=
  (sSeq (sAsg (aCallX x (p_system_of K) (aCons (aOp oIx (aVar 0) (aC (.int 0))) aNil)) (gNm 1))
    (sSeq (sAsg (aCallX x (p_discount_of K) (aCons (aOp oIx (aVar 0) (aC (.int 1))) aNil)) (gNm 2))
    (sSeq (sAsg (aCallX x (p_word_of K) (aCons (aOp oIx (aVar 0) (aC (.int 2))) aNil)) (gNm 3))
    (sSeq (sAsg (aCallP p_word_reward (aCons (aVar 1) (aCons (aVar 2) (aCons (aVar 3) aNil)))) (gNm 4))
    (sRet (aCallP p_write_record (aCons (aLst (aCons (aTup (aCons (aC (.str "state")) (aCons (aCallP p_write_whole (aCons (aCallP p_end_of (aCons (aVar 1) (aCons (aVar 3) aNil))) aNil)) aNil))) (aCons (aTup (aCons (aC (.str "reward")) (aCons (aCallP p_write_fraction (aCons (aVar 4) aNil)) aNil))) aNil))) aNil)))))))
theorem dv_answer_reward {P : Program} {w : World} {K : PySem.W.Frag} {mg : Str → Option Value} {base : Heap} (T : Tx K mg)
    (F_system_of : Cal P w K mg base (L2N.CX P w) 4 "system_of" ["value"] (pureX (p_system_of K)))
    (F_discount_of : Cal P w K mg base (L2N.CX P w) 3 "discount_of" ["value"] (pureX (p_discount_of K)))
    (F_word_of : Cal P w K mg base (L2N.CX P w) 2 "word_of" ["value"] (pureX (p_word_of K)))
    (F_word_reward : Cal P w K mg base CX0 4 "word_reward" ["system", "discount", "word"] (pureSp p_word_reward))
    (F_write_fraction : Cal P w K mg base CX0 3 "write_fraction" ["fraction"] (pureSp p_write_fraction))
    (F_end_of : Cal P w K mg base CX0 1 "end_of" ["system", "word"] (pureSp p_end_of))
    (F_write_whole : Cal P w K mg base CX0 2 "write_whole" ["whole"] (pureSp p_write_whole))
    (F_write_record : Cal P w K mg base CX0 2 "write_record" ["members"] (pureSp p_write_record)) : RdsX P w K mg base ["arguments", "system", "discount", "word", "reward"] "answer_reward" (defScope s_answer_reward) (He.ga K "answer_reward") (defBody s_answer_reward) 4 (rd_answer_reward K) := by
  intro cdv A outer s H E AX hr
  have hx : Passes (L2N.CX P w) (cxOf (L2N.CX P w) P w K mg base ["arguments", "system", "discount", "word", "reward"] "answer_reward" (defScope s_answer_reward) (He.ga K "answer_reward") cdv A outer s H E) E := L2N.passes_call (L2N.takes_of rfl rfl rfl rfl) fun _ _ _ _ h => h
  exact (dss_cons (ds_set 1 sc_answer_reward.nd (de_callX F_system_of (hr.mono (by decide)) hx (da_cons (de_ix (de_var 0) (de_int)) da_nil)))
    (dss_cons (ds_set 2 sc_answer_reward.nd (de_callX F_discount_of (hr.mono (by decide)) hx (da_cons (de_ix (de_var 0) (de_int)) da_nil)))
    (dss_cons (ds_set 3 sc_answer_reward.nd (de_callX F_word_of (hr.mono (by decide)) hx (da_cons (de_ix (de_var 0) (de_int)) da_nil)))
    (dss_cons (ds_set 4 sc_answer_reward.nd (de_callP F_word_reward (hr.mono (by decide)) (da_cons (de_var 1) (da_cons (de_var 2) (da_cons (de_var 3) da_nil)))))
    (dss_one (ds_ret (de_callP F_write_record (hr.mono (by decide)) (da_cons (de_lst (da_cons (de_tup (da_cons (de_str) (da_cons (de_callP F_write_whole (hr.mono (by decide)) (da_cons (de_callP F_end_of (hr.mono (by decide)) (da_cons (de_var 1) (da_cons (de_var 3) da_nil))) da_nil)) da_nil))) (da_cons (de_tup (da_cons (de_str) (da_cons (de_callP F_write_fraction (hr.mono (by decide)) (da_cons (de_var 4) da_nil)) da_nil))) da_nil))) da_nil))))))))
def rd_answer_values (K : PySem.W.Frag) (x : XW) : AS :=
  (sSeq (sAsg (aCallX x (p_system_of K) (aCons (aOp oIx (aVar 0) (aC (.int 0))) aNil)) (gNm 1))
    (sSeq (sAsg (aCallX x (p_discount_of K) (aCons (aOp oIx (aVar 0) (aC (.int 1))) aNil)) (gNm 2))
    (sSeq (sAsg (aCallX x (p_policy_of K) (aCons (aOp oIx (aVar 0) (aC (.int 2))) (aCons (aCB cLen (aCons (aVar 1) aNil)) aNil))) (gNm 3))
    (sRet (aCallP p_write_fractions (aCons (aCallP p_policy_values (aCons (aVar 1) (aCons (aVar 2) (aCons (aVar 3) aNil)))) aNil))))))
theorem dv_answer_values {P : Program} {w : World} {K : PySem.W.Frag} {mg : Str → Option Value} {base : Heap} (T : Tx K mg)
    (F_system_of : Cal P w K mg base (L2N.CX P w) 4 "system_of" ["value"] (pureX (p_system_of K)))
    (F_discount_of : Cal P w K mg base (L2N.CX P w) 3 "discount_of" ["value"] (pureX (p_discount_of K)))
    (F_policy_of : Cal P w K mg base (L2N.CX P w) 2 "policy_of" ["value", "many"] (pureX (p_policy_of K)))
    (F_policy_values : Cal P w K mg base CX0 4 "policy_values" ["system", "discount", "policy"] (pureSp p_policy_values))
    (F_write_fractions : Cal P w K mg base CX0 4 "write_fractions" ["fractions"] (pureSp p_write_fractions)) : RdsX P w K mg base ["arguments", "system", "discount", "policy"] "answer_values" (defScope s_answer_values) (He.ga K "answer_values") (defBody s_answer_values) 4 (rd_answer_values K) := by
  intro cdv A outer s H E AX hr
  have hx : Passes (L2N.CX P w) (cxOf (L2N.CX P w) P w K mg base ["arguments", "system", "discount", "policy"] "answer_values" (defScope s_answer_values) (He.ga K "answer_values") cdv A outer s H E) E := L2N.passes_call (L2N.takes_of rfl rfl rfl rfl) fun _ _ _ _ h => h
  exact (dss_cons (ds_set 1 sc_answer_values.nd (de_callX F_system_of (hr.mono (by decide)) hx (da_cons (de_ix (de_var 0) (de_int)) da_nil)))
    (dss_cons (ds_set 2 sc_answer_values.nd (de_callX F_discount_of (hr.mono (by decide)) hx (da_cons (de_ix (de_var 0) (de_int)) da_nil)))
    (dss_cons (ds_set 3 sc_answer_values.nd (de_callX F_policy_of (hr.mono (by decide)) hx (da_cons (de_ix (de_var 0) (de_int)) (da_cons (de_len T.b_len (de_var 1)) da_nil))))
    (dss_one (ds_ret (de_callP F_write_fractions (hr.mono (by decide)) (da_cons (de_callP F_policy_values (hr.mono (by decide)) (da_cons (de_var 1) (da_cons (de_var 2) (da_cons (de_var 3) da_nil)))) da_nil)))))))
def rd_answer_optimal (K : PySem.W.Frag) (x : XW) : AS :=
  (sSeq (sAsg (aCallX x (p_system_of K) (aCons (aOp oIx (aVar 0) (aC (.int 0))) aNil)) (gNm 1))
    (sSeq (sAsg (aCallX x (p_discount_of K) (aCons (aOp oIx (aVar 0) (aC (.int 1))) aNil)) (gNm 2))
    (sSeq (sAsg (aCallP p_optimal_policy (aCons (aVar 1) (aCons (aVar 2) aNil))) (gNm 3))
    (sSeq (sAsg (aCallP p_policy_values (aCons (aVar 1) (aCons (aVar 2) (aCons (aVar 3) aNil)))) (gNm 4))
    (sRet (aCallP p_write_record (aCons (aLst (aCons (aTup (aCons (aC (.str "policy")) (aCons (aCallP p_write_word (aCons (aVar 3) aNil)) aNil))) (aCons (aTup (aCons (aC (.str "values")) (aCons (aCallP p_write_fractions (aCons (aVar 4) aNil)) aNil))) aNil))) aNil)))))))
theorem dv_answer_optimal {P : Program} {w : World} {K : PySem.W.Frag} {mg : Str → Option Value} {base : Heap} (T : Tx K mg)
    (F_system_of : Cal P w K mg base (L2N.CX P w) 4 "system_of" ["value"] (pureX (p_system_of K)))
    (F_discount_of : Cal P w K mg base (L2N.CX P w) 3 "discount_of" ["value"] (pureX (p_discount_of K)))
    (F_optimal_policy : Cal P w K mg base CX0 4 "optimal_policy" ["system", "discount"] (pureSp p_optimal_policy))
    (F_policy_values : Cal P w K mg base CX0 4 "policy_values" ["system", "discount", "policy"] (pureSp p_policy_values))
    (F_write_fractions : Cal P w K mg base CX0 4 "write_fractions" ["fractions"] (pureSp p_write_fractions))
    (F_write_word : Cal P w K mg base CX0 3 "write_word" ["word"] (pureSp p_write_word))
    (F_write_record : Cal P w K mg base CX0 2 "write_record" ["members"] (pureSp p_write_record)) : RdsX P w K mg base ["arguments", "system", "discount", "policy", "best"] "answer_optimal" (defScope s_answer_optimal) (He.ga K "answer_optimal") (defBody s_answer_optimal) 4 (rd_answer_optimal K) := by
  intro cdv A outer s H E AX hr
  have hx : Passes (L2N.CX P w) (cxOf (L2N.CX P w) P w K mg base ["arguments", "system", "discount", "policy", "best"] "answer_optimal" (defScope s_answer_optimal) (He.ga K "answer_optimal") cdv A outer s H E) E := L2N.passes_call (L2N.takes_of rfl rfl rfl rfl) fun _ _ _ _ h => h
  exact (dss_cons (ds_set 1 sc_answer_optimal.nd (de_callX F_system_of (hr.mono (by decide)) hx (da_cons (de_ix (de_var 0) (de_int)) da_nil)))
    (dss_cons (ds_set 2 sc_answer_optimal.nd (de_callX F_discount_of (hr.mono (by decide)) hx (da_cons (de_ix (de_var 0) (de_int)) da_nil)))
    (dss_cons (ds_set 3 sc_answer_optimal.nd (de_callP F_optimal_policy (hr.mono (by decide)) (da_cons (de_var 1) (da_cons (de_var 2) da_nil))))
    (dss_cons (ds_set 4 sc_answer_optimal.nd (de_callP F_policy_values (hr.mono (by decide)) (da_cons (de_var 1) (da_cons (de_var 2) (da_cons (de_var 3) da_nil)))))
    (dss_one (ds_ret (de_callP F_write_record (hr.mono (by decide)) (da_cons (de_lst (da_cons (de_tup (da_cons (de_str) (da_cons (de_callP F_write_word (hr.mono (by decide)) (da_cons (de_var 3) da_nil)) da_nil))) (da_cons (de_tup (da_cons (de_str) (da_cons (de_callP F_write_fractions (hr.mono (by decide)) (da_cons (de_var 4) da_nil)) da_nil))) da_nil))) da_nil))))))))
def rd_answer_prefix (K : PySem.W.Frag) (x : XW) : AS :=
  (sSeq (sAsg (aCallX x (p_system_of K) (aCons (aOp oIx (aVar 0) (aC (.int 0))) aNil)) (gNm 1))
    (sSeq (sAsg (aCallX x (p_discount_of K) (aCons (aOp oIx (aVar 0) (aC (.int 1))) aNil)) (gNm 2))
    (sSeq (sAsg (aCallX x (p_word_of K) (aCons (aOp oIx (aVar 0) (aC (.int 2))) aNil)) (gNm 3))
    (sRet (aCallP p_write_truth (aCons (aCallP p_is_optimal (aCons (aVar 1) (aCons (aVar 2) (aCons (aCallP p_optimal_values (aCons (aVar 1) (aCons (aVar 2) aNil))) (aCons (aVar 3) aNil))))) aNil))))))
theorem dv_answer_prefix {P : Program} {w : World} {K : PySem.W.Frag} {mg : Str → Option Value} {base : Heap} (T : Tx K mg)
    (F_system_of : Cal P w K mg base (L2N.CX P w) 4 "system_of" ["value"] (pureX (p_system_of K)))
    (F_discount_of : Cal P w K mg base (L2N.CX P w) 3 "discount_of" ["value"] (pureX (p_discount_of K)))
    (F_word_of : Cal P w K mg base (L2N.CX P w) 2 "word_of" ["value"] (pureX (p_word_of K)))
    (F_optimal_values : Cal P w K mg base CX0 5 "optimal_values" ["system", "discount"] (pureSp p_optimal_values))
    (F_is_optimal : Cal P w K mg base CX0 5 "is_optimal" ["system", "discount", "best", "word"] (pureSp p_is_optimal))
    (F_write_truth : Cal P w K mg base CX0 1 "write_truth" ["truth"] (pureSp p_write_truth)) : RdsX P w K mg base ["arguments", "system", "discount", "word"] "answer_prefix" (defScope s_answer_prefix) (He.ga K "answer_prefix") (defBody s_answer_prefix) 5 (rd_answer_prefix K) := by
  intro cdv A outer s H E AX hr
  have hx : Passes (L2N.CX P w) (cxOf (L2N.CX P w) P w K mg base ["arguments", "system", "discount", "word"] "answer_prefix" (defScope s_answer_prefix) (He.ga K "answer_prefix") cdv A outer s H E) E := L2N.passes_call (L2N.takes_of rfl rfl rfl rfl) fun _ _ _ _ h => h
  exact (dss_cons (ds_set 1 sc_answer_prefix.nd (de_callX F_system_of (hr.mono (by decide)) hx (da_cons (de_ix (de_var 0) (de_int)) da_nil)))
    (dss_cons (ds_set 2 sc_answer_prefix.nd (de_callX F_discount_of (hr.mono (by decide)) hx (da_cons (de_ix (de_var 0) (de_int)) da_nil)))
    (dss_cons (ds_set 3 sc_answer_prefix.nd (de_callX F_word_of (hr.mono (by decide)) hx (da_cons (de_ix (de_var 0) (de_int)) da_nil)))
    (dss_one (ds_ret (de_callP F_write_truth (hr.mono (by decide)) (da_cons (de_callP F_is_optimal (hr.mono (by decide)) (da_cons (de_var 1) (da_cons (de_var 2) (da_cons (de_callP F_optimal_values (hr.mono (by decide)) (da_cons (de_var 1) (da_cons (de_var 2) da_nil))) (da_cons (de_var 3) da_nil))))) da_nil)))))))
def rd_answer_averages (K : PySem.W.Frag) (x : XW) : AS :=
  (sSeq (sAsg (aCallX x (p_system_of K) (aCons (aOp oIx (aVar 0) (aC (.int 0))) aNil)) (gNm 1))
    (sSeq (sAsg (aCallX x (p_policy_of K) (aCons (aOp oIx (aVar 0) (aC (.int 1))) (aCons (aCB cLen (aCons (aVar 1) aNil)) aNil))) (gNm 2))
    (sRet (aCallP p_write_fractions (aCons (aCallP p_average_rewards (aCons (aVar 1) (aCons (aVar 2) aNil))) aNil)))))
theorem dv_answer_averages {P : Program} {w : World} {K : PySem.W.Frag} {mg : Str → Option Value} {base : Heap} (T : Tx K mg)
    (F_system_of : Cal P w K mg base (L2N.CX P w) 4 "system_of" ["value"] (pureX (p_system_of K)))
    (F_policy_of : Cal P w K mg base (L2N.CX P w) 2 "policy_of" ["value", "many"] (pureX (p_policy_of K)))
    (F_average_rewards : Cal P w K mg base CX0 3 "average_rewards" ["system", "policy"] (pureSp p_average_rewards))
    (F_write_fractions : Cal P w K mg base CX0 4 "write_fractions" ["fractions"] (pureSp p_write_fractions)) : RdsX P w K mg base ["arguments", "system", "policy"] "answer_averages" (defScope s_answer_averages) (He.ga K "answer_averages") (defBody s_answer_averages) 4 (rd_answer_averages K) := by
  intro cdv A outer s H E AX hr
  have hx : Passes (L2N.CX P w) (cxOf (L2N.CX P w) P w K mg base ["arguments", "system", "policy"] "answer_averages" (defScope s_answer_averages) (He.ga K "answer_averages") cdv A outer s H E) E := L2N.passes_call (L2N.takes_of rfl rfl rfl rfl) fun _ _ _ _ h => h
  exact (dss_cons (ds_set 1 sc_answer_averages.nd (de_callX F_system_of (hr.mono (by decide)) hx (da_cons (de_ix (de_var 0) (de_int)) da_nil)))
    (dss_cons (ds_set 2 sc_answer_averages.nd (de_callX F_policy_of (hr.mono (by decide)) hx (da_cons (de_ix (de_var 0) (de_int)) (da_cons (de_len T.b_len (de_var 1)) da_nil))))
    (dss_one (ds_ret (de_callP F_write_fractions (hr.mono (by decide)) (da_cons (de_callP F_average_rewards (hr.mono (by decide)) (da_cons (de_var 1) (da_cons (de_var 2) da_nil))) da_nil))))))
def rd_answer_plain (K : PySem.W.Frag) (x : XW) : AS :=
  (sSeq (sIf (aB (aOp oEq (aVar 0) (aC (.int 0)))) (sRet (aCallX x (p_answer_reward K) (aCons (aVar 1) aNil))) sNext)
    (sSeq (sIf (aB (aOp oEq (aVar 0) (aC (.int 1)))) (sRet (aCallX x (p_answer_values K) (aCons (aVar 1) aNil))) sNext)
    (sSeq (sIf (aB (aOp oEq (aVar 0) (aC (.int 2)))) (sRet (aCallX x (p_answer_optimal K) (aCons (aVar 1) aNil))) sNext)
    (sSeq (sIf (aB (aOp oEq (aVar 0) (aC (.int 3)))) (sRet (aCallX x (p_answer_prefix K) (aCons (aVar 1) aNil))) sNext)
    (sSeq (sIf (aB (aOp oEq (aVar 0) (aC (.int 4)))) (sRet (aCallP p_write_word (aCons (aCallP p_blackwell_policy (aCons (aCallX x (p_system_of K) (aCons (aOp oIx (aVar 1) (aC (.int 0))) aNil)) aNil)) aNil))) sNext)
    (sSeq (sIf (aB (aOp oEq (aVar 0) (aC (.int 5)))) (sRet (aCallP p_write_word (aCons (aCallP p_myopic_policy (aCons (aCallX x (p_system_of K) (aCons (aOp oIx (aVar 1) (aC (.int 0))) aNil)) aNil)) aNil))) sNext)
    (sSeq (sIf (aB (aOp oEq (aVar 0) (aC (.int 6)))) (sRet (aCallX x (p_answer_averages K) (aCons (aVar 1) aNil))) sNext)
    (sRet (aCallP p_write_fractions (aCons (aCallP p_most_average_rewards (aCons (aCallX x (p_system_of K) (aCons (aOp oIx (aVar 1) (aC (.int 0))) aNil)) aNil)) aNil))))))))))
theorem dv_answer_plain {P : Program} {w : World} {K : PySem.W.Frag} {mg : Str → Option Value} {base : Heap} (T : Tx K mg)
    (F_answer_reward : Cal P w K mg base (L2N.CX P w) 5 "answer_reward" ["arguments"] (pureX (p_answer_reward K)))
    (F_answer_values : Cal P w K mg base (L2N.CX P w) 5 "answer_values" ["arguments"] (pureX (p_answer_values K)))
    (F_answer_optimal : Cal P w K mg base (L2N.CX P w) 5 "answer_optimal" ["arguments"] (pureX (p_answer_optimal K)))
    (F_answer_prefix : Cal P w K mg base (L2N.CX P w) 6 "answer_prefix" ["arguments"] (pureX (p_answer_prefix K)))
    (F_system_of : Cal P w K mg base (L2N.CX P w) 4 "system_of" ["value"] (pureX (p_system_of K)))
    (F_blackwell_policy : Cal P w K mg base CX0 4 "blackwell_policy" ["system"] (pureSp p_blackwell_policy))
    (F_write_word : Cal P w K mg base CX0 3 "write_word" ["word"] (pureSp p_write_word))
    (F_myopic_policy : Cal P w K mg base CX0 4 "myopic_policy" ["system"] (pureSp p_myopic_policy))
    (F_answer_averages : Cal P w K mg base (L2N.CX P w) 5 "answer_averages" ["arguments"] (pureX (p_answer_averages K)))
    (F_most_average_rewards : Cal P w K mg base CX0 3 "most_average_rewards" ["system"] (pureSp p_most_average_rewards))
    (F_write_fractions : Cal P w K mg base CX0 4 "write_fractions" ["fractions"] (pureSp p_write_fractions)) : RdsX P w K mg base ["door", "arguments"] "answer_plain" (defScope s_answer_plain) (He.ga K "answer_plain") (defBody s_answer_plain) 6 (rd_answer_plain K) := by
  intro cdv A outer s H E AX hr
  have hx : Passes (L2N.CX P w) (cxOf (L2N.CX P w) P w K mg base ["door", "arguments"] "answer_plain" (defScope s_answer_plain) (He.ga K "answer_plain") cdv A outer s H E) E := L2N.passes_call (L2N.takes_of rfl rfl rfl rfl) fun _ _ _ _ h => h
  exact (dss_cons (ds_if (dt_eq hr (de_var 0) (de_int)) (dss_one (ds_ret (de_callX F_answer_reward (hr.mono (by decide)) hx (da_cons (de_var 1) da_nil)))) dss_nil)
    (dss_cons (ds_if (dt_eq hr (de_var 0) (de_int)) (dss_one (ds_ret (de_callX F_answer_values (hr.mono (by decide)) hx (da_cons (de_var 1) da_nil)))) dss_nil)
    (dss_cons (ds_if (dt_eq hr (de_var 0) (de_int)) (dss_one (ds_ret (de_callX F_answer_optimal (hr.mono (by decide)) hx (da_cons (de_var 1) da_nil)))) dss_nil)
    (dss_cons (ds_if (dt_eq hr (de_var 0) (de_int)) (dss_one (ds_ret (de_callX F_answer_prefix (hr.mono (by decide)) hx (da_cons (de_var 1) da_nil)))) dss_nil)
    (dss_cons (ds_if (dt_eq hr (de_var 0) (de_int)) (dss_one (ds_ret (de_callP F_write_word (hr.mono (by decide)) (da_cons (de_callP F_blackwell_policy (hr.mono (by decide)) (da_cons (de_callX F_system_of (hr.mono (by decide)) hx (da_cons (de_ix (de_var 1) (de_int)) da_nil)) da_nil)) da_nil)))) dss_nil)
    (dss_cons (ds_if (dt_eq hr (de_var 0) (de_int)) (dss_one (ds_ret (de_callP F_write_word (hr.mono (by decide)) (da_cons (de_callP F_myopic_policy (hr.mono (by decide)) (da_cons (de_callX F_system_of (hr.mono (by decide)) hx (da_cons (de_ix (de_var 1) (de_int)) da_nil)) da_nil)) da_nil)))) dss_nil)
    (dss_cons (ds_if (dt_eq hr (de_var 0) (de_int)) (dss_one (ds_ret (de_callX F_answer_averages (hr.mono (by decide)) hx (da_cons (de_var 1) da_nil)))) dss_nil)
    (dss_one (ds_ret (de_callP F_write_fractions (hr.mono (by decide)) (da_cons (de_callP F_most_average_rewards (hr.mono (by decide)) (da_cons (de_callX F_system_of (hr.mono (by decide)) hx (da_cons (de_ix (de_var 1) (de_int)) da_nil)) da_nil)) da_nil)))))))))))
theorem keep_optimal_values : Keeps ["system", "discount"] (pureSp p_optimal_values) rd_optimal_values := by
  rintro ds W AQ AX ⟨rfl, t, g, rfl, hs, hg, hQ⟩
  simp [rd_optimal_values]
  exact ⟨t, g, rfl, hs, hg, t, g, _, rfl, hs, hg, optPol_ok t g, hQ⟩
theorem keep_answer_reward (K : PySem.W.Frag) : KeepsX ["arguments", "system", "discount", "word", "reward"] (pureX (p_answer_reward K)) (rd_answer_reward K) := by
  rintro ds W AQ x ⟨rfl, a, b, c, r, rfl, oa, ob, oc, hq, hx⟩
  have e1 : ("state" : Str).length = 5 := by decide +kernel
  have e2 : ("reward" : Str).length = 6 := by decide +kernel
  simp [rd_answer_reward]
  refine ⟨a, rfl, oa, fun t ht => ?_, fun e he m hm => hx e (by simp only [aReward, Tk, he, andThen]) m hm⟩
  simp
  refine ⟨b, rfl, ob, fun g hg => ?_, fun e he m hm => hx e (by simp only [aReward, Tk, ht, he, andThen]) m hm⟩
  simp
  refine ⟨c, rfl, oc, fun w hw => ?_, fun e he m hm => hx e (by simp only [aReward, Tk, ht, hg, he, andThen]) m hm⟩
  obtain ⟨w2, w8⟩ := word_ok oc hw
  have hQ := hq _ (by simp only [aReward, Tk, ht, hg, hw, andThen]; rfl)
  simp
  refine ⟨t, g, w, rfl, sys_ok oa ht, dis_ok ob hg, w2, w8, ?_⟩
  simp
  refine ⟨t, w, rfl, sys_ok oa ht, w2, ?_⟩
  refine ⟨_, rfl, ?_⟩
  simp
  refine ⟨_, rfl, ?_⟩
  simp
  exact ⟨[("state", wInt (R7284d.Spec.endState t 0 w : Nat)), ("reward", wFrac (wrewF t g w))], by simp, by simp [e1, e2], by simp [wMem, wN_length, octs_length, wInt_length, wFrac_length, e1, e2], hQ⟩
theorem wFracs_length (qs : List (Int × Int)) : (wFracs qs).length = 5 + 23 * qs.length := by
  rw [wList_length, flat_const (n := 23) _ (by simp only [List.mem_map]; rintro _ ⟨q, _, rfl⟩; exact wFrac_length q), List.length_map]
theorem keep_answer_values (K : PySem.W.Frag) : KeepsX ["arguments", "system", "discount", "policy"] (pureX (p_answer_values K)) (rd_answer_values K) := by
  rintro ds W AQ x ⟨rfl, a, b, c, r, rfl, oa, ob, oc, hq, hx⟩
  simp [rd_answer_values]
  refine ⟨a, rfl, oa, fun t ht => ?_, fun e he m hm => hx e (by simp only [aValues, Tk, he, andThen]) m hm⟩
  have hs := sys_ok oa ht
  simp
  refine ⟨b, rfl, ob, fun g hg => ?_, fun e he m hm => hx e (by simp only [aValues, Tk, ht, he, andThen]) m hm⟩
  simp
  refine ⟨t, hs.le, c, rfl, oc, fun f hf => ?_, fun e he m hm => hx e (by simp only [aValues, Tk, ht, hg, he, andThen]) m hm⟩
  have hQ := hq _ (by simp only [aValues, Tk, ht, hg, hf, andThen]; rfl)
  simp
  refine ⟨t, g, f, rfl, hs, dis_ok ob hg, policy_ok oc hf, ?_⟩
  exact ⟨_, rfl, by rw [(pvals_ok f (dis_ok ob hg)).len]; have := hs.le; omega, hQ⟩
theorem keep_answer_optimal (K : PySem.W.Frag) : KeepsX ["arguments", "system", "discount", "policy", "best"] (pureX (p_answer_optimal K)) (rd_answer_optimal K) := by
  rintro ds W AQ x ⟨rfl, a, b, r, rfl, oa, ob, hq, hx⟩
  have e1 : ("policy" : Str).length = 6 := by decide +kernel
  have e2 : ("values" : Str).length = 6 := by decide +kernel
  simp [rd_answer_optimal]
  refine ⟨a, rfl, oa, fun t ht => ?_, fun e he m hm => hx e (by simp only [aOptimal, Tk, he, andThen]) m hm⟩
  have hs := sys_ok oa ht
  simp
  refine ⟨b, rfl, ob, fun g hg => ?_, fun e he m hm => hx e (by simp only [aOptimal, Tk, ht, he, andThen]) m hm⟩
  have hQ := hq _ (by simp only [aOptimal, Tk, ht, hg, andThen]; rfl)
  have hd := dis_ok ob hg
  have ho := optPol_ok t g
  have hl := hs.le
  have hb := (pvals_ok (t := t) (optPol t g) hd).len
  simp
  refine ⟨t, g, rfl, hs, hd, ?_⟩
  simp
  refine ⟨t, g, _, rfl, hs, hd, ho, ?_⟩
  simp
  refine ⟨_, rfl, by rw [ho.len]; omega, ?_⟩
  simp
  refine ⟨_, rfl, by omega, ?_⟩
  simp
  refine ⟨[("policy", wWord (optPol t g)), ("values", wFracs (bests t g))], by simp, by simp [e1, e2], ?_, hQ⟩
  have hw : (wWord (optPol t g)).length ≤ 10 := by rw [wText_length, List.length_map, ho.len]; omega
  have hv : (wFracs (bests t g)).length ≤ 100 := by rw [wFracs_length, hb]; omega
  simp only [List.flatMap_cons, List.flatMap_nil, List.length_append, wMem, wN_length, octs_length, e1, e2, List.length_nil]
  omega
theorem keep_answer_prefix (K : PySem.W.Frag) : KeepsX ["arguments", "system", "discount", "word"] (pureX (p_answer_prefix K)) (rd_answer_prefix K) := by
  rintro ds W AQ x ⟨rfl, a, b, c, r, rfl, oa, ob, oc, hq, hx⟩
  simp [rd_answer_prefix]
  refine ⟨a, rfl, oa, fun t ht => ?_, fun e he m hm => hx e (by simp only [aPrefix, Tk, he, andThen]) m hm⟩
  have hs := sys_ok oa ht
  simp
  refine ⟨b, rfl, ob, fun g hg => ?_, fun e he m hm => hx e (by simp only [aPrefix, Tk, ht, he, andThen]) m hm⟩
  have hd := dis_ok ob hg
  simp
  refine ⟨c, rfl, oc, fun w hw => ?_, fun e he m hm => hx e (by simp only [aPrefix, Tk, ht, hg, he, andThen]) m hm⟩
  have hQ := hq _ (by simp only [aPrefix, Tk, ht, hg, hw, andThen]; rfl)
  simp
  refine ⟨t, g, rfl, hs, hd, ?_⟩
  exact ⟨t, g, _, w, rfl, hs, hd, pvals_ok _ hd, (word_ok oc hw).1, _, rfl, hQ⟩
theorem keep_answer_averages (K : PySem.W.Frag) : KeepsX ["arguments", "system", "policy"] (pureX (p_answer_averages K)) (rd_answer_averages K) := by
  rintro ds W AQ x ⟨rfl, a, b, r, rfl, oa, ob, hq, hx⟩
  simp [rd_answer_averages]
  refine ⟨a, rfl, oa, fun t ht => ?_, fun e he m hm => hx e (by simp only [aAverages, Tk, he, andThen]) m hm⟩
  have hs := sys_ok oa ht
  have hl := hs.le
  simp
  refine ⟨t, hl, b, rfl, ob, fun f hf => ?_, fun e he m hm => hx e (by simp only [aAverages, Tk, ht, he, andThen]) m hm⟩
  have hQ := hq _ (by simp only [aAverages, Tk, ht, hf, andThen]; rfl)
  simp
  refine ⟨t, f, rfl, hs, policy_ok ob hf, ?_⟩
  exact ⟨_, rfl, by simp [avgs, rsums]; omega, hQ⟩
theorem maxSums_length (t : Sys) : (maxSums t).length = t.length := by
  have : ∀ (l : List Pol) (g : List Int), g.length = t.length → (l.foldl (fun g f => List.zipWith mx g (rsums t f)) g).length = t.length := by
    intro l
    induction l with
    | nil => exact fun g h => h
    | cons a l ih => exact fun g h => ih _ (by simp [rsums_length, h])
  exact this _ _ (rsums_length t _)
theorem keep_answer_plain (K : PySem.W.Frag) : KeepsX ["door", "arguments"] (pureX (p_answer_plain K)) (rd_answer_plain K) := by
  rintro ds W AQ x ⟨rfl, door, a, b, c, r, rfl, oa, ob, oc, hp⟩
  by_cases h0 : door = 0
  · subst h0
    simp [rd_answer_plain]
    exact ⟨a, b, c, r, by simp, oa, ob, oc, by simpa [aPlain] using hp⟩
  · have c0 : ¬ ((door : Nat) : Int) = 0 := by omega
    by_cases h1 : door = 1
    · subst h1
      simp [rd_answer_plain]
      exact ⟨a, b, c, r, by simp, oa, ob, oc, by simpa [aPlain] using hp⟩
    · have c1 : ¬ ((door : Nat) : Int) = 1 := by omega
      by_cases h2 : door = 2
      · subst h2
        simp [rd_answer_plain]
        exact ⟨a, b, c :: r, by simp, oa, ob, by simpa [aPlain] using hp⟩
      · have c2 : ¬ ((door : Nat) : Int) = 2 := by omega
        by_cases h3 : door = 3
        · subst h3
          simp [rd_answer_plain]
          exact ⟨a, b, c, r, by simp, oa, ob, oc, by simpa [aPlain] using hp⟩
        · have c3 : ¬ ((door : Nat) : Int) = 3 := by omega
          by_cases h4 : door = 4
          · subst h4
            obtain ⟨hq, hx⟩ := hp
            simp [aPlain] at hq hx
            simp [rd_answer_plain]
            refine ⟨a, rfl, oa, fun t ht => ?_, fun e he m hm => hx e (by simp only [aBla, Tk, he, andThen]) m hm⟩
            have hQ := hq _ (by simp only [aBla, Tk, ht, andThen]; rfl)
            have hl := (sys_ok oa ht).le
            exact ⟨t, rfl, sys_ok oa ht, _, rfl, by rw [(blaPol_ok t).len]; omega, hQ⟩
          · have c4 : ¬ ((door : Nat) : Int) = 4 := by omega
            by_cases h5 : door = 5
            · subst h5
              obtain ⟨hq, hx⟩ := hp
              simp [aPlain] at hq hx
              simp [rd_answer_plain]
              refine ⟨a, rfl, oa, fun t ht => ?_, fun e he m hm => hx e (by simp only [aMyo, Tk, he, andThen]) m hm⟩
              have hQ := hq _ (by simp only [aMyo, Tk, ht, andThen]; rfl)
              have hl := (sys_ok oa ht).le
              exact ⟨t, rfl, sys_ok oa ht, _, rfl, by rw [(myoPol_ok t).len]; omega, hQ⟩
            · have c5 : ¬ ((door : Nat) : Int) = 5 := by omega
              by_cases h6 : door = 6
              · subst h6
                simp [rd_answer_plain]
                exact ⟨a, b, c :: r, by simp, oa, ob, by simpa [aPlain] using hp⟩
              · have c6 : ¬ ((door : Nat) : Int) = 6 := by omega
                obtain ⟨hq, hx⟩ := hp
                simp [aPlain, h0, h1, h2, h3, h4, h5, h6] at hq hx
                simp [rd_answer_plain, h0, c1, c2, c3, c4, c5, c6]
                refine ⟨a, rfl, oa, fun t ht => ?_, fun e he m hm => hx e (by simp only [aMax, Tk, he, andThen]) m hm⟩
                have hQ := hq _ (by simp only [aMax, Tk, ht, andThen]; rfl)
                have hl := (sys_ok oa ht).le
                exact ⟨t, rfl, sys_ok oa ht, _, rfl, by simp [maxAvgs, maxSums_length]; omega, hQ⟩
end Dsn
end

section
set_option maxHeartbeats 4000000
/-! # Doors with slots -/
namespace Dsn
open PySem PySem.Spec PyProof.Rows L2 Hd
open R7284d.Spec (readSystem readDiscount readWord readPolicy readInteger andThen)
def nWalk (a b : RWire.Value) : Except Err (Sys × Dis) := andThen (readSystem (Tk a)) fun t => andThen (readDiscount (Tk b)) fun g => .ok (t, g)
def nList (a b c : RWire.Value) : Except Err (Sys × Dis × Nat) := andThen (readSystem (Tk a)) fun t => andThen (readDiscount (Tk b)) fun g => andThen (readInteger "maxLength" 0 5 (Tk c)) fun n => .ok (t, g, n)
def newW (q : Sys × Dis) : WalkS := ⟨q.1, q.2, bests q.1 q.2, 0, []⟩
def newL (q : Sys × Dis × Nat) : ListS := ⟨q.1, q.2.1, 0, optWordsF q.1 q.2.1 (bests q.1 q.2.1) q.2.2, 0, 0⟩
def walkF (door : Nat) (h : WalkS) (v : RWire.Value) : WalkS × List Int :=
  if door = 9 then advF h v else if door = 10 then thrF h v else if door = 11 then finF h v else if door = 12 then ({ h with ph := 2 }, [0]) else (h, [3])
def listF (door : Nat) (h : ListS) (a b : RWire.Value) : ListS × List Int :=
  if door = 15 then ((procF h).1, wOut (procF h).2.1 (procF h).2.2) else if door = 16 then ((thrPF h a).1, wList (thrPF h a).2) else if door = 17 then (endL h, wOut (wAgain a) true)
  else if door = 18 then (endL h, wList (h.left.map (showF h.t h.g))) else if door = 19 then ((togF b 0 h (oI (octV a))).1, wList (togF b 0 h (oI (octV a))).2) else if door = 20 then (endL h, [0]) else (h, [3])
def p_new_walk (K : PySem.W.Frag) : ASp := fun ds W Q X => ∃ z a b r, ds = [argD K (z :: a :: b :: r)] ∧ W = [] ∧ okV a = true ∧ okV b = true ∧ (∀ q, nWalk a b = .ok q → ∀ p, Q (.adr p) [(p, wO K (newW q))]) ∧ (∀ e, nWalk a b = .error e → ∀ m, Msg e m → X (clsA K e.cls) m [])
def p_new_listing (K : PySem.W.Frag) : ASp := fun ds W Q X => ∃ z a b c r, ds = [argD K (z :: a :: b :: c :: r)] ∧ W = [] ∧ okV a = true ∧ okV b = true ∧ okV c = true ∧ (∀ q, nList a b c = .ok q → ∀ p, Q (.adr p) [(p, lO K (newL q))]) ∧ (∀ e, nList a b c = .error e → ∀ m, Msg e m → X (clsA K e.cls) m [])
def p_answer_walk (K : PySem.W.Frag) : ASp := fun ds W Q _ => ∃ (door : Nat) (p : Addr) (h : WalkS) (v : RWire.Value), ds = [.int (door : Nat), .adr p, encV (cValue K) v] ∧ W = [(p, wO K h)] ∧ OkW h ∧ okV v = true ∧ (door = 10 ∨ door = 11 → OkX v) ∧ Q (iL (walkF door h v).2) [(p, wO K (walkF door h v).1)]
def p_answer_listing (K : PySem.W.Frag) : ASp := fun ds W Q _ => ∃ (door : Nat) (p : Addr) (h : ListS) (z a b : RWire.Value) (r : List RWire.Value), ds = [.int (door : Nat), .adr p, argD K (z :: a :: b :: r)] ∧ W = [(p, lO K h)] ∧ OkI h ∧ (door = 16 ∨ door = 17 → OkX a) ∧ (door = 19 → OkX b ∧ ∃ u, a = .text u ∧ u.length ≤ 8) ∧ Q (iL (listF door h a b).2) [(p, lO K (listF door h a b).1)]
def rd_new_walk (K : PySem.W.Frag) (x : XW) : AS :=
  (sSeq (sAsg (aCallX x (p_system_of K) (aCons (aOp oIx (aVar 0) (aC (.int 1))) aNil)) (gNm 1))
    (sSeq (sAsg (aCallX x (p_discount_of K) (aCons (aOp oIx (aVar 0) (aC (.int 2))) aNil)) (gNm 2))
    (sRet (aMake (cWalk K) (p_Walk_init K) (aCons (aVar 1) (aCons (aVar 2) (aCons (aCallP p_optimal_values (aCons (aVar 1) (aCons (aVar 2) aNil))) aNil)))))))
theorem dv_new_walk {P : Program} {w : World} {K : PySem.W.Frag} {mg : Str → Option Value} {base : Heap} (T : Tx K mg)
    (F_system_of : Cal P w K mg base (L2N.CX P w) 4 "system_of" ["value"] (pureX (p_system_of K)))
    (F_discount_of : Cal P w K mg base (L2N.CX P w) 3 "discount_of" ["value"] (pureX (p_discount_of K)))
    (F_Walk_init : Ial P w K mg base CX0 1 (cWalk K) ["self", "system", "discount", "best"] (p_Walk_init K))
    (F_optimal_values : Cal P w K mg base CX0 5 "optimal_values" ["system", "discount"] (pureSp p_optimal_values)) : RdsX P w K mg base ["arguments", "system", "discount"] "new_walk" (defScope s_new_walk) (He.ga K "new_walk") (defBody s_new_walk) 5 (rd_new_walk K) := by
  intro cdv A outer s H E AX hr
  have hx : Passes (L2N.CX P w) (cxOf (L2N.CX P w) P w K mg base ["arguments", "system", "discount"] "new_walk" (defScope s_new_walk) (He.ga K "new_walk") cdv A outer s H E) E := L2N.passes_call (L2N.takes_of rfl rfl rfl rfl) fun _ _ _ _ h => h
  exact (dss_cons (ds_set 1 sc_new_walk.nd (de_callX F_system_of (hr.mono (by decide)) hx (da_cons (de_ix (de_var 0) (de_int)) da_nil)))
    (dss_cons (ds_set 2 sc_new_walk.nd (de_callX F_discount_of (hr.mono (by decide)) hx (da_cons (de_ix (de_var 0) (de_int)) da_nil)))
    (dss_one (ds_ret (de_make F_Walk_init T.g_Walk (hr.mono (by decide)) (da_cons (de_var 1) (da_cons (de_var 2) (da_cons (de_callP F_optimal_values (hr.mono (by decide)) (da_cons (de_var 1) (da_cons (de_var 2) da_nil))) da_nil))))))))
def rd_new_listing (K : PySem.W.Frag) (x : XW) : AS :=
  (sSeq (sAsg (aCallX x (p_system_of K) (aCons (aOp oIx (aVar 0) (aC (.int 1))) aNil)) (gNm 1))
    (sSeq (sAsg (aCallX x (p_discount_of K) (aCons (aOp oIx (aVar 0) (aC (.int 2))) aNil)) (gNm 2))
    (sSeq (sAsg (aCallX x (p_length_of K) (aCons (aOp oIx (aVar 0) (aC (.int 3))) aNil)) (gNm 3))
    (sSeq (sAsg (aCallP p_optimal_words (aCons (aVar 1) (aCons (aVar 2) (aCons (aCallP p_optimal_values (aCons (aVar 1) (aCons (aVar 2) aNil))) (aCons (aVar 3) aNil))))) (gNm 4))
    (sRet (aMake (cListing K) (p_Listing_init K) (aCons (aVar 1) (aCons (aVar 2) (aCons (aVar 4) aNil)))))))))
theorem dv_new_listing {P : Program} {w : World} {K : PySem.W.Frag} {mg : Str → Option Value} {base : Heap} (T : Tx K mg)
    (F_system_of : Cal P w K mg base (L2N.CX P w) 4 "system_of" ["value"] (pureX (p_system_of K)))
    (F_discount_of : Cal P w K mg base (L2N.CX P w) 3 "discount_of" ["value"] (pureX (p_discount_of K)))
    (F_length_of : Cal P w K mg base (L2N.CX P w) 2 "length_of" ["value"] (pureX (p_length_of K)))
    (F_optimal_values : Cal P w K mg base CX0 5 "optimal_values" ["system", "discount"] (pureSp p_optimal_values))
    (F_optimal_words : Cal P w K mg base CX0 6 "optimal_words" ["system", "discount", "best", "most"] (pureSp p_optimal_words))
    (F_Listing_init : Ial P w K mg base CX0 1 (cListing K) ["self", "system", "discount", "words"] (p_Listing_init K)) : RdsX P w K mg base ["arguments", "system", "discount", "most", "words"] "new_listing" (defScope s_new_listing) (He.ga K "new_listing") (defBody s_new_listing) 6 (rd_new_listing K) := by
  intro cdv A outer s H E AX hr
  have hx : Passes (L2N.CX P w) (cxOf (L2N.CX P w) P w K mg base ["arguments", "system", "discount", "most", "words"] "new_listing" (defScope s_new_listing) (He.ga K "new_listing") cdv A outer s H E) E := L2N.passes_call (L2N.takes_of rfl rfl rfl rfl) fun _ _ _ _ h => h
  exact (dss_cons (ds_set 1 sc_new_listing.nd (de_callX F_system_of (hr.mono (by decide)) hx (da_cons (de_ix (de_var 0) (de_int)) da_nil)))
    (dss_cons (ds_set 2 sc_new_listing.nd (de_callX F_discount_of (hr.mono (by decide)) hx (da_cons (de_ix (de_var 0) (de_int)) da_nil)))
    (dss_cons (ds_set 3 sc_new_listing.nd (de_callX F_length_of (hr.mono (by decide)) hx (da_cons (de_ix (de_var 0) (de_int)) da_nil)))
    (dss_cons (ds_set 4 sc_new_listing.nd (de_callP F_optimal_words (hr.mono (by decide)) (da_cons (de_var 1) (da_cons (de_var 2) (da_cons (de_callP F_optimal_values (hr.mono (by decide)) (da_cons (de_var 1) (da_cons (de_var 2) da_nil))) (da_cons (de_var 3) da_nil))))))
    (dss_one (ds_ret (de_make F_Listing_init T.g_Listing (hr.mono (by decide)) (da_cons (de_var 1) (da_cons (de_var 2) (da_cons (de_var 4) da_nil))))))))))
def rd_answer_walk (K : PySem.W.Frag) : AS :=
  (sSeq (sIf (aB (aOp oEq (aVar 0) (aC (.int 9)))) (sRet (aMeth (cWalk K) nsWalk (p_Walk_advance K) (aVar 1) (aCons (aVar 2) aNil))) sNext)
    (sSeq (sIf (aB (aOp oEq (aVar 0) (aC (.int 10)))) (sRet (aMeth (cWalk K) nsWalk (p_Walk_throw_in K) (aVar 1) (aCons (aVar 2) aNil))) sNext)
    (sSeq (sIf (aB (aOp oEq (aVar 0) (aC (.int 11)))) (sRet (aMeth (cWalk K) nsWalk (p_Walk_finish K) (aVar 1) (aCons (aVar 2) aNil))) sNext)
    (sSeq (sIf (aB (aOp oEq (aVar 0) (aC (.int 12)))) (sRet (aMeth (cWalk K) nsWalk (p_Walk_dispose K) (aVar 1) aNil)) sNext)
    (sRet (aLst (aCons (aC (.int 3)) aNil)))))))
theorem dv_answer_walk {P : Program} {w : World} {K : PySem.W.Frag} {mg : Str → Option Value} {base : Heap} (T : Tx K mg)
    (F_Walk_advance : Mal P w K mg base CX0 6 (cWalk K) "advance" ["self", "x"] (p_Walk_advance K))
    (F_Walk_throw_in : Mal P w K mg base CX0 6 (cWalk K) "throw_in" ["self", "x"] (p_Walk_throw_in K))
    (F_Walk_finish : Mal P w K mg base CX0 4 (cWalk K) "finish" ["self", "x"] (p_Walk_finish K))
    (F_Walk_dispose : Mal P w K mg base CX0 1 (cWalk K) "dispose" ["self"] (p_Walk_dispose K)) : Rds P w K mg base ["door", "walk", "x"] "answer_walk" (defScope s_answer_walk) (He.ga K "answer_walk") (defBody s_answer_walk) 6 (rd_answer_walk K) := by
  intro cdv A outer s H E hr
  exact (dss_cons (ds_if (dt_eq hr (de_var 0) (de_int)) (dss_one (ds_ret (de_meth T.c_Walk F_Walk_advance (hr.mono (by decide)) (de_var 1) (da_cons (de_var 2) da_nil) (by decide +kernel)))) dss_nil)
    (dss_cons (ds_if (dt_eq hr (de_var 0) (de_int)) (dss_one (ds_ret (de_meth T.c_Walk F_Walk_throw_in (hr.mono (by decide)) (de_var 1) (da_cons (de_var 2) da_nil) (by decide +kernel)))) dss_nil)
    (dss_cons (ds_if (dt_eq hr (de_var 0) (de_int)) (dss_one (ds_ret (de_meth T.c_Walk F_Walk_finish (hr.mono (by decide)) (de_var 1) (da_cons (de_var 2) da_nil) (by decide +kernel)))) dss_nil)
    (dss_cons (ds_if (dt_eq hr (de_var 0) (de_int)) (dss_one (ds_ret (de_meth0 T.c_Walk F_Walk_dispose (hr.mono (by decide)) (de_var 1) (by decide +kernel)))) dss_nil)
    (dss_one (ds_ret (de_lst (da_cons (de_gl T.i_TRUE) da_nil))))))))
def rd_answer_listing (K : PySem.W.Frag) : AS :=
  (sSeq (sIf (aB (aOp oEq (aVar 0) (aC (.int 15)))) (sRet (aMeth (cListing K) nsListing (p_Listing_advance K) (aVar 1) aNil)) sNext)
    (sSeq (sIf (aB (aOp oEq (aVar 0) (aC (.int 16)))) (sRet (aMeth (cListing K) nsListing (p_Listing_throw_in K) (aVar 1) (aCons (aOp oIx (aVar 2) (aC (.int 1))) aNil))) sNext)
    (sSeq (sIf (aB (aOp oEq (aVar 0) (aC (.int 17)))) (sRet (aMeth (cListing K) nsListing (p_Listing_finish K) (aVar 1) (aCons (aOp oIx (aVar 2) (aC (.int 1))) aNil))) sNext)
    (sSeq (sIf (aB (aOp oEq (aVar 0) (aC (.int 18)))) (sRet (aMeth (cListing K) nsListing (p_Listing_collect K) (aVar 1) aNil)) sNext)
    (sSeq (sIf (aB (aOp oEq (aVar 0) (aC (.int 19)))) (sRet (aMeth (cListing K) nsListing (p_Listing_together K) (aVar 1) (aCons (aFld (cValue K) nsValue 2 (aOp oIx (aVar 2) (aC (.int 1)))) (aCons (aOp oIx (aVar 2) (aC (.int 2))) aNil)))) sNext)
    (sSeq (sIf (aB (aOp oEq (aVar 0) (aC (.int 20)))) (sRet (aMeth (cListing K) nsListing (p_Listing_dispose K) (aVar 1) aNil)) sNext)
    (sRet (aLst (aCons (aC (.int 3)) aNil)))))))))
theorem dv_answer_listing {P : Program} {w : World} {K : PySem.W.Frag} {mg : Str → Option Value} {base : Heap} (T : Tx K mg)
    (F_Listing_advance : Mal P w K mg base CX0 7 (cListing K) "advance" ["self"] (p_Listing_advance K))
    (F_Listing_throw_in : Mal P w K mg base CX0 9 (cListing K) "throw_in" ["self", "x"] (p_Listing_throw_in K))
    (F_Listing_finish : Mal P w K mg base CX0 4 (cListing K) "finish" ["self", "x"] (p_Listing_finish K))
    (F_Listing_collect : Mal P w K mg base CX0 6 (cListing K) "collect" ["self"] (p_Listing_collect K))
    (F_Listing_together : Mal P w K mg base CX0 10 (cListing K) "together" ["self", "requests", "x"] (p_Listing_together K))
    (F_Listing_dispose : Mal P w K mg base CX0 2 (cListing K) "dispose" ["self"] (p_Listing_dispose K)) : Rds P w K mg base ["door", "listing", "arguments"] "answer_listing" (defScope s_answer_listing) (He.ga K "answer_listing") (defBody s_answer_listing) 10 (rd_answer_listing K) := by
  intro cdv A outer s H E hr
  exact (dss_cons (ds_if (dt_eq hr (de_var 0) (de_int)) (dss_one (ds_ret (de_meth0 T.c_Listing F_Listing_advance (hr.mono (by decide)) (de_var 1) (by decide +kernel)))) dss_nil)
    (dss_cons (ds_if (dt_eq hr (de_var 0) (de_int)) (dss_one (ds_ret (de_meth T.c_Listing F_Listing_throw_in (hr.mono (by decide)) (de_var 1) (da_cons (de_ix (de_var 2) (de_int)) da_nil) (by decide +kernel)))) dss_nil)
    (dss_cons (ds_if (dt_eq hr (de_var 0) (de_int)) (dss_one (ds_ret (de_meth T.c_Listing F_Listing_finish (hr.mono (by decide)) (de_var 1) (da_cons (de_ix (de_var 2) (de_int)) da_nil) (by decide +kernel)))) dss_nil)
    (dss_cons (ds_if (dt_eq hr (de_var 0) (de_int)) (dss_one (ds_ret (de_meth0 T.c_Listing F_Listing_collect (hr.mono (by decide)) (de_var 1) (by decide +kernel)))) dss_nil)
    (dss_cons (ds_if (dt_eq hr (de_var 0) (de_int)) (dss_one (ds_ret (de_meth T.c_Listing F_Listing_together (hr.mono (by decide)) (de_var 1) (da_cons (de_fld 2 T.c_Value (de_ix (de_var 2) (de_int))) (da_cons (de_ix (de_var 2) (de_int)) da_nil)) (by decide +kernel)))) dss_nil)
    (dss_cons (ds_if (dt_eq hr (de_var 0) (de_int)) (dss_one (ds_ret (de_meth0 T.c_Listing F_Listing_dispose (hr.mono (by decide)) (de_var 1) (by decide +kernel)))) dss_nil)
    (dss_one (ds_ret (de_lst (da_cons (de_gl T.i_TRUE) da_nil))))))))))
theorem keep_new_walk (K : PySem.W.Frag) : KeepsX ["arguments", "system", "discount"] (p_new_walk K) (rd_new_walk K) := by
  rintro ds W AQ x ⟨z, a, b, r, rfl, rfl, oa, ob, hq, hx⟩
  simp [rd_new_walk]
  refine ⟨a, rfl, oa, fun t ht => ?_, fun e he m hm => hx e (by simp only [nWalk, Tk, he, andThen]) m hm⟩
  simp
  refine ⟨b, rfl, ob, fun g hg => ?_, fun e he m hm => hx e (by simp only [nWalk, Tk, ht, he, andThen]) m hm⟩
  simp
  refine ⟨t, g, rfl, sys_ok oa ht, dis_ok ob hg, fun p hp => ?_⟩
  exact hq (t, g) (by simp only [nWalk, Tk, ht, hg, andThen]) p
theorem keep_new_listing (K : PySem.W.Frag) : KeepsX ["arguments", "system", "discount", "most", "words"] (p_new_listing K) (rd_new_listing K) := by
  rintro ds W AQ x ⟨z, a, b, c, r, rfl, rfl, oa, ob, oc, hq, hx⟩
  simp [rd_new_listing]
  refine ⟨a, rfl, oa, fun t ht => ?_, fun e he m hm => hx e (by simp only [nList, Tk, he, andThen]) m hm⟩
  have hs := sys_ok oa ht
  simp
  refine ⟨b, rfl, ob, fun g hg => ?_, fun e he m hm => hx e (by simp only [nList, Tk, ht, he, andThen]) m hm⟩
  have hd := dis_ok ob hg
  simp
  refine ⟨c, rfl, oc, fun n hn => ?_, fun e he m hm => hx e (by simp only [nList, Tk, ht, hg, he, andThen]) m hm⟩
  simp
  refine ⟨t, g, rfl, hs, hd, ?_⟩
  refine ⟨t, g, _, n, rfl, hs, hd, pvals_ok _ hd, length_ok oc hn, fun p hp => ?_⟩
  simp
  exact hq (t, g, n) (by simp only [nList, Tk, ht, hg, hn, andThen]) p
theorem keep_answer_walk (K : PySem.W.Frag) : Keeps ["door", "walk", "x"] (p_answer_walk K) (rd_answer_walk K) := by
  rintro ds W AQ AX ⟨door, p, h, v, rfl, rfl, ho, hv, hx, hQ⟩
  by_cases h9 : door = 9
  · subst h9
    simp [rd_answer_walk, nsWalk]
    exact ⟨[_], [], rfl, p, h, v, rfl, rfl, ho, hv, by simpa [walkF] using hQ⟩
  · have c9 : ¬ ((door : Nat) : Int) = 9 := by omega
    by_cases h10 : door = 10
    · subst h10
      simp [rd_answer_walk, nsWalk]
      exact ⟨[_], [], rfl, p, h, v, rfl, rfl, ho, hx (.inl rfl), by simpa [walkF] using hQ⟩
    · have c10 : ¬ ((door : Nat) : Int) = 10 := by omega
      by_cases h11 : door = 11
      · subst h11
        simp [rd_answer_walk, nsWalk]
        exact ⟨[_], [], rfl, p, h, v, rfl, rfl, hx (.inr rfl), by simpa [walkF] using hQ⟩
      · have c11 : ¬ ((door : Nat) : Int) = 11 := by omega
        by_cases h12 : door = 12
        · subst h12
          simp [rd_answer_walk, nsWalk]
          exact ⟨[_], [], rfl, p, h, rfl, rfl, by simpa [walkF] using hQ⟩
        · have c12 : ¬ ((door : Nat) : Int) = 12 := by omega
          simp [walkF, h9, h10, h11, h12] at hQ
          simp [rd_answer_walk, nsWalk, c9, c10, c11, c12]
          exact hQ
theorem keep_answer_listing (K : PySem.W.Frag) : Keeps ["door", "listing", "arguments"] (p_answer_listing K) (rd_answer_listing K) := by
  rintro ds W AQ AX ⟨door, p, h, z, a, b, r, rfl, rfl, ho, hx, ht, hQ⟩
  by_cases h15 : door = 15
  · subst h15
    simp [rd_answer_listing, nsListing]
    exact ⟨[_], [], rfl, p, h, rfl, rfl, ho, by simpa [listF] using hQ⟩
  · have c15 : ¬ ((door : Nat) : Int) = 15 := by omega
    by_cases h16 : door = 16
    · subst h16
      simp [rd_answer_listing, nsListing]
      exact ⟨[_], [], rfl, p, h, a, rfl, rfl, ho, hx (.inl rfl), by simpa [listF] using hQ⟩
    · have c16 : ¬ ((door : Nat) : Int) = 16 := by omega
      by_cases h17 : door = 17
      · subst h17
        simp [rd_answer_listing, nsListing]
        exact ⟨[_], [], rfl, p, h, a, rfl, rfl, hx (.inr rfl), by simpa [listF] using hQ⟩
      · have c17 : ¬ ((door : Nat) : Int) = 17 := by omega
        by_cases h18 : door = 18
        · subst h18
          simp [rd_answer_listing, nsListing]
          exact ⟨[_], [], rfl, p, h, rfl, rfl, ho, by simpa [listF] using hQ⟩
        · have c18 : ¬ ((door : Nat) : Int) = 18 := by omega
          by_cases h19 : door = 19
          · subst h19
            obtain ⟨hb, u, rfl, hu⟩ := ht rfl
            simp [rd_answer_listing, nsListing, encV, vO, nsValue]
            exact ⟨[_], [], rfl, p, h, oI u, b, rfl, rfl, ho, hb, by rw [oI_length]; exact hu, by simpa [listF, octV] using hQ⟩
          · have c19 : ¬ ((door : Nat) : Int) = 19 := by omega
            by_cases h20 : door = 20
            · subst h20
              simp [rd_answer_listing, nsListing]
              exact ⟨[_], [], rfl, p, h, rfl, rfl, by simpa [listF] using hQ⟩
            · have c20 : ¬ ((door : Nat) : Int) = 20 := by omega
              simp [listF, h15, h16, h17, h18, h19, h20] at hQ
              simp [rd_answer_listing, nsListing, c15, c16, c17, c18, c19, c20]
              exact hQ
end Dsn
end

section
set_option maxHeartbeats 4000000
/-! # The library -/
namespace Dsn
open PySem PySem.Spec PyProof.Rows L2 Hd
open R7284d.Spec (andThen)
abbrev WS := List (Option WalkS)
abbrev LS := List (Option ListS)
def slD {α : Type} (as : List (Option (Addr × α))) : List D := as.map fun o => match o with
  | none => .non
  | some q => .adr q.1
def slV {α : Type} (as : List (Option (Addr × α))) : List (Option α) := as.map fun o => o.map (·.2)
def slO {α : Type} (f : α → OD) (as : List (Option (Addr × α))) : Om := as.filterMap fun o => o.map fun q => (q.1, f q.2)
/-- the library's objects: itself, its two lists, what stands in the slots, what is left behind -/
def LibO (K : PySem.W.Frag) (lib : Addr) (ws : WS) (ls : LS) (W : Om) : Prop := ∃ (lw ll : Addr) (as : List (Option (Addr × WalkS))) (bs : List (Option (Addr × ListS))) (G : Om), slV as = ws ∧ slV bs = ls ∧
  W.Perm ((lib, .ins (cLibrary K) [("walks", .adr lw), ("listings", .adr ll)]) :: (lw, .lst (slD as)) :: (ll, .lst (slD bs)) :: (slO (wO K) as ++ (slO (lO K) bs ++ G)))
def slotN (z : RWire.Value) : Nat := (wholeV z).toNat
def libF (ws : WS) (ls : LS) (door : Nat) (z a b c : RWire.Value) : Except Err (WS × LS × List Int) :=
  if door ≤ 7 then andThen (aPlain door z a b) fun o => .ok (ws, ls, o)
  else if door = 8 then andThen (nWalk a b) fun q => .ok (ws.set (slotN z) (some (newW q)), ls, [0])
  else if door ≤ 13 then (match ws.getD (slotN z) none with
    | some h => .ok (ws.set (slotN z) (some (walkF door h a).1), ls, (walkF door h a).2)
    | none => .ok (ws, ls, []))
  else if door = 14 then andThen (nList a b c) fun q => .ok (ws, ls.set (slotN z) (some (newL q)), [0])
  else (match ls.getD (slotN z) none with
    | some h => .ok (ws, ls.set (slotN z) (some (listF door h a b).1), (listF door h a b).2)
    | none => .ok (ws, ls, []))
structure LibOk (ws : WS) (ls : LS) (door : Nat) (z a b c : RWire.Value) : Prop where
  oz : okV z = true
  oa : okV a = true
  ob : okV b = true
  oc : okV c = true
  wl : ws.length = 3
  ll : ls.length = 3
  wo : ∀ h, some h ∈ ws → OkW h
  lo : ∀ h, some h ∈ ls → OkI h
  sl : 8 ≤ door → ∃ i : Nat, z = .int (i : Int) ∧ i < 3
  hw : 9 ≤ door → door ≤ 13 → ∃ h, ws[slotN z]? = some (some h)
  hl : 15 ≤ door → ∃ h, ls[slotN z]? = some (some h)
  ax : door = 10 ∨ door = 11 ∨ door = 16 ∨ door = 17 → OkX a
  tg : door = 19 → OkX b ∧ ∃ u, a = .text u ∧ u.length ≤ 8
def p_Library_init (K : PySem.W.Frag) : ASp := fun ds W Q _ => ∃ lib, ds = [.adr lib] ∧ W = [(lib, .ins (cLibrary K) [])] ∧ ∀ W', LibO K lib [none, none, none] [none, none, none] W' → Q .non W'
def p_Library_returned (K : PySem.W.Frag) : ASp := fun ds W Q X => ∃ (lib : Addr) (ws : WS) (ls : LS) (door : Nat) (z a b c : RWire.Value) (r : List RWire.Value), ds = [.adr lib, .int (door : Nat), argD K (z :: a :: b :: c :: r)] ∧ LibO K lib ws ls W ∧ LibOk ws ls door z a b c ∧
  (∀ q, libF ws ls door z a b c = .ok q → ∀ W', LibO K lib q.1 q.2.1 W' → Q (iL q.2.2) W') ∧ (∀ e, libF ws ls door z a b c = .error e → ∀ m, Msg e m → ∀ W', LibO K lib ws ls W' → X (clsA K e.cls) m W')
def rd_Library_init (K : PySem.W.Frag) : AS :=
  (sSeq (sFldA (cLibrary K) nsLibrary 0 "walks" (aVar 0) (aLstO (aCons (aC .non) (aCons (aC .non) (aCons (aC .non) aNil)))))
    (sFldA (cLibrary K) nsLibrary 1 "listings" (aVar 0) (aLstO (aCons (aC .non) (aCons (aC .non) (aCons (aC .non) aNil))))))
theorem dv_Library_init {P : Program} {w : World} {K : PySem.W.Frag} {mg : Str → Option Value} {base : Heap} (T : Tx K mg) : Rds P w K mg base ["self"] "Library.__init__" (defScope s_Library_init) (He.ma K (cLibrary K) "__init__") (defBody s_Library_init) 0 (rd_Library_init K) := by
  intro cdv A outer s H E hr
  exact (dss_cons (ds_fld 0 T.c_Library (de_var 0) (de_lstO (da_cons (de_non) (da_cons (de_non) (da_cons (de_non) da_nil)))))
    (dss_one (ds_fld 1 T.c_Library (de_var 0) (de_lstO (da_cons (de_non) (da_cons (de_non) (da_cons (de_non) da_nil)))))))
def rd_Library_returned (K : PySem.W.Frag) (x : XW) : AS :=
  (sSeq (sIf (aB (aOp oLe (aVar 1) (aC (.int 7)))) (sRet (aCallX x (p_answer_plain K) (aCons (aVar 1) (aCons (aVar 2) aNil)))) sNext)
    (sSeq (sAsg (aFld (cValue K) nsValue 1 (aOp oIx (aVar 2) (aC (.int 0)))) (gNm 3))
    (sSeq (sIf (aB (aOp oEq (aVar 1) (aC (.int 8)))) (sSeq (sAsg (aCallWX x (p_new_walk K) (aCons (aVar 2) aNil)) (gIx (aFldO (cLibrary K) nsLibrary 0 (aVar 0)) (aVar 3)))
    (sRet (aLst (aCons (aC (.int 0)) aNil)))) sNext)
    (sSeq (sIf (aB (aOp oLe (aVar 1) (aC (.int 13)))) (sRet (aCallW (p_answer_walk K) (aCons (aVar 1) (aCons (aIxO (aFldO (cLibrary K) nsLibrary 0 (aVar 0)) (aVar 3)) (aCons (aOp oIx (aVar 2) (aC (.int 1))) aNil))))) sNext)
    (sSeq (sIf (aB (aOp oEq (aVar 1) (aC (.int 14)))) (sSeq (sAsg (aCallWX x (p_new_listing K) (aCons (aVar 2) aNil)) (gIx (aFldO (cLibrary K) nsLibrary 1 (aVar 0)) (aVar 3)))
    (sRet (aLst (aCons (aC (.int 0)) aNil)))) sNext)
    (sRet (aCallW (p_answer_listing K) (aCons (aVar 1) (aCons (aIxO (aFldO (cLibrary K) nsLibrary 1 (aVar 0)) (aVar 3)) (aCons (aVar 2) aNil))))))))))
theorem dv_Library_returned {P : Program} {w : World} {K : PySem.W.Frag} {mg : Str → Option Value} {base : Heap} (T : Tx K mg)
    (F_answer_plain : Cal P w K mg base (L2N.CX P w) 7 "answer_plain" ["door", "arguments"] (pureX (p_answer_plain K)))
    (F_new_walk : Cal P w K mg base (L2N.CX P w) 6 "new_walk" ["arguments"] ( (p_new_walk K)))
    (F_answer_walk : Cal P w K mg base CX0 7 "answer_walk" ["door", "walk", "x"] ( (p_answer_walk K)))
    (F_new_listing : Cal P w K mg base (L2N.CX P w) 7 "new_listing" ["arguments"] ( (p_new_listing K)))
    (F_answer_listing : Cal P w K mg base CX0 11 "answer_listing" ["door", "listing", "arguments"] ( (p_answer_listing K))) : RdsX P w K mg base ["self", "door", "arguments", "slot"] "Library.returned" (defScope s_Library_returned) (He.ma K (cLibrary K) "returned") (defBody s_Library_returned) 11 (rd_Library_returned K) := by
  intro cdv A outer s H E AX hr
  have hx : Passes (L2N.CX P w) (cxOf (L2N.CX P w) P w K mg base ["self", "door", "arguments", "slot"] "Library.returned" (defScope s_Library_returned) (He.ma K (cLibrary K) "returned") cdv A outer s H E) E := L2N.passes_call (L2N.takes_of rfl rfl rfl rfl) fun _ _ _ _ h => h
  exact (dss_cons (ds_if (dt_le (de_var 1) (de_int)) (dss_one (ds_ret (de_callX F_answer_plain (hr.mono (by decide)) hx (da_cons (de_var 1) (da_cons (de_var 2) da_nil))))) dss_nil)
    (dss_cons (ds_set 3 sc_Library_returned.nd (de_fld 1 T.c_Value (de_ix (de_var 2) (de_int))))
    (dss_cons (ds_if (dt_eq hr (de_var 1) (de_int)) (dss_cons (ds_asg (de_callWX F_new_walk (hr.mono (by decide)) hx (da_cons (de_var 2) da_nil)) (dg_ix (de_fldO 0 T.c_Library (de_var 0)) (de_var 3)))
    (dss_one (ds_ret (de_lst (da_cons (de_gl T.i_NOTHING) da_nil))))) dss_nil)
    (dss_cons (ds_if (dt_le (de_var 1) (de_int)) (dss_one (ds_ret (de_callW F_answer_walk (hr.mono (by decide)) (da_cons (de_var 1) (da_cons (de_ixO (de_fldO 0 T.c_Library (de_var 0)) (de_var 3)) (da_cons (de_ix (de_var 2) (de_int)) da_nil)))))) dss_nil)
    (dss_cons (ds_if (dt_eq hr (de_var 1) (de_int)) (dss_cons (ds_asg (de_callWX F_new_listing (hr.mono (by decide)) hx (da_cons (de_var 2) da_nil)) (dg_ix (de_fldO 1 T.c_Library (de_var 0)) (de_var 3)))
    (dss_one (ds_ret (de_lst (da_cons (de_gl T.i_NOTHING) da_nil))))) dss_nil)
    (dss_one (ds_ret (de_callW F_answer_listing (hr.mono (by decide)) (da_cons (de_var 1) (da_cons (de_ixO (de_fldO 1 T.c_Library (de_var 0)) (de_var 3)) (da_cons (de_var 2) da_nil)))))))))))
theorem keep_Library_init (K : PySem.W.Frag) : Keeps ["self"] (p_Library_init K) (rd_Library_init K) := by
  rintro ds W AQ AX ⟨lib, rfl, rfl, hQ⟩
  simp [rd_Library_init, nsLibrary]
  intro lw hlw
  refine ⟨_, _, List.Perm.swap _ _ _, rfl, by simp, fun ll hll => ?_⟩
  refine ⟨_, _, List.Perm.swap _ _ _, rfl, by simp, by simp, hQ _ ?_⟩
  refine ⟨lw, ll, [none, none, none], [none, none, none], [], rfl, rfl, ?_⟩
  simp [slD, slO]
  exact List.Perm.swap _ _ _
theorem split_at {α : Type} {l : List α} {i : Nat} {x : α} (h : l[i]? = some x) : ∃ u v, l = u ++ x :: v ∧ u.length = i := by
  have hi : i < l.length := by
    rcases Nat.lt_or_ge i l.length with q | q
    · exact q
    · rw [List.getElem?_eq_none q] at h
      cases h
  refine ⟨l.take i, l.drop (i + 1), ?_, by simp; omega⟩
  rw [List.getElem?_eq_getElem hi] at h
  have hx := Option.some.inj h
  rw [← hx, List.getElem_cons_drop, List.take_append_drop]
theorem slV_at {α : Type} {as : List (Option (Addr × α))} {i : Nat} {h : α} (e : (slV as)[i]? = some (some h)) : ∃ p, as[i]? = some (some (p, h)) := by
  unfold slV at e
  rw [List.getElem?_map] at e
  cases q : as[i]? with
  | none => simp [q] at e
  | some o =>
    simp [q] at e
    obtain ⟨p, hp⟩ := e
    exact ⟨p, by rw [hp]⟩
/-- one slot's object ahead; then changed -/
theorem slO_at {α : Type} (f : α → OD) {as : List (Option (Addr × α))} {i : Nat} {p : Addr} {h : α} (e : as[i]? = some (some (p, h))) : ∃ R, (slO f as).Perm ((p, f h) :: R) ∧ (∀ h', (slO f (as.set i (some (p, h')))).Perm ((p, f h') :: R)) ∧ (∀ h', slD (as.set i (some (p, h'))) = slD as) ∧ (∀ h', slV (as.set i (some (p, h'))) = (slV as).set i (some h')) := by
  obtain ⟨u, v, rfl, hu⟩ := split_at e
  refine ⟨slO f u ++ slO f v, ?_, fun h' => ?_, fun h' => ?_, fun h' => ?_⟩
  · simp only [slO, List.filterMap_append, List.filterMap_cons, Option.map_some]
    exact List.perm_middle
  · rw [List.set_append_right _ _ (by omega), hu, Nat.sub_self, List.set_cons_zero]
    simp only [slO, List.filterMap_append, List.filterMap_cons, Option.map_some]
    exact List.perm_middle
  · rw [List.set_append_right _ _ (by omega), hu, Nat.sub_self, List.set_cons_zero]
    simp [slD]
  · simp [slV, List.map_set]
/-- a new object in a slot: what stood there is left behind -/
theorem slO_new {α : Type} (f : α → OD) {as : List (Option (Addr × α))} {i : Nat} (hi : i < as.length) (p : Addr) (h : α) : ∃ G, ((p, f h) :: slO f as).Perm (slO f (as.set i (some (p, h))) ++ G) ∧ slD (as.set i (some (p, h))) = (slD as).set i (.adr p) ∧ slV (as.set i (some (p, h))) = (slV as).set i (some h) := by
  obtain ⟨u, v, e, hu⟩ := split_at (List.getElem?_eq_getElem hi)
  generalize as[i] = o at e
  subst e
  rw [List.set_append_right _ _ (by omega), hu, Nat.sub_self, List.set_cons_zero]
  refine ⟨slO f [o], ?_, by simp [slD, List.set_append_right, hu], by simp [slV, List.set_append_right, hu]⟩
  have e1 : slO f (u ++ o :: v) = slO f u ++ (slO f [o] ++ slO f v) := by
    simp only [slO, ← List.filterMap_append]
    rfl
  have e2 : slO f (u ++ some (p, h) :: v) = slO f u ++ (p, f h) :: slO f v := by
    simp only [slO, List.filterMap_append, List.filterMap_cons, Option.map_some]
  rw [e1, e2]
  refine List.Perm.trans ?_ (List.Perm.append_right _ List.perm_middle.symm)
  refine List.Perm.cons _ ?_
  show (slO f u ++ (slO f [o] ++ slO f v)).Perm ((slO f u ++ slO f v) ++ slO f [o])
  rw [List.append_assoc]
  exact List.Perm.append_left _ List.perm_append_comm
theorem perm4 {α : Type} {a b c n : α} {S : List α} : (b :: n :: a :: c :: S).Perm (a :: b :: c :: n :: S) :=
  (List.Perm.cons b ((List.Perm.swap a n _).trans (List.Perm.cons a (List.Perm.swap c n S)))).trans (List.Perm.swap a b _)
theorem perm4' {α : Type} {a b c n : α} {S : List α} : (c :: n :: a :: b :: S).Perm (a :: b :: c :: n :: S) :=
  ((List.Perm.cons c ((List.Perm.swap a n _).trans (List.Perm.cons a (List.Perm.swap b n S)))).trans (List.Perm.swap a c _)).trans (List.Perm.cons a (List.Perm.swap b c _))
theorem mid3 {α : Type} {a b c n : α} {S : List α} : (a :: b :: c :: n :: S).Perm (n :: a :: b :: c :: S) := List.perm_middle (l₁ := [a, b, c])
section
variable {K : PySem.W.Frag} {lib lw ll : Addr} {as : List (Option (Addr × WalkS))} {bs : List (Option (Addr × ListS))} {G W : Om}
abbrev LibP (K : PySem.W.Frag) (lib lw ll : Addr) (as : List (Option (Addr × WalkS))) (bs : List (Option (Addr × ListS))) (G W : Om) : Prop := W.Perm ((lib, .ins (cLibrary K) [("walks", .adr lw), ("listings", .adr ll)]) :: (lw, .lst (slD as)) :: (ll, .lst (slD bs)) :: (slO (wO K) as ++ (slO (lO K) bs ++ G)))
theorem LibP.o (pm : LibP K lib lw ll as bs G W) : LibO K lib (slV as) (slV bs) W := ⟨lw, ll, as, bs, G, rfl, rfl, pm⟩
theorem LibP.m0 (pm : LibP K lib lw ll as bs G W) : (lib, OD.ins (cLibrary K) [("walks", .adr lw), ("listings", .adr ll)]) ∈ W := pm.mem_iff.mpr (by simp)
theorem LibP.m1 (pm : LibP K lib lw ll as bs G W) : (lw, OD.lst (slD as)) ∈ W := pm.mem_iff.mpr (by simp)
theorem LibP.m2 (pm : LibP K lib lw ll as bs G W) : (ll, OD.lst (slD bs)) ∈ W := pm.mem_iff.mpr (by simp)
theorem LibP.storeW (pm : LibP K lib lw ll as bs G W) {i : Nat} (hi : i < as.length) (p : Addr) (h : WalkS) : ∃ Wr, ((p, wO K h) :: W).Perm ((lw, .lst (slD as)) :: Wr) ∧ LibO K lib ((slV as).set i (some h)) (slV bs) ((lw, .lst ((slD as).set i (.adr p))) :: Wr) := by
  obtain ⟨G2, p1, e1, e2⟩ := slO_new (wO K) hi p h
  refine ⟨(p, wO K h) :: (lib, .ins (cLibrary K) [("walks", .adr lw), ("listings", .adr ll)]) :: (ll, .lst (slD bs)) :: (slO (wO K) as ++ (slO (lO K) bs ++ G)), (List.Perm.cons _ pm).trans (List.perm_middle (l₁ := [_, _])), ?_⟩
  rw [← e1, ← e2]
  refine ⟨lw, ll, _, bs, G2 ++ G, rfl, rfl, perm4.trans (List.Perm.cons _ (List.Perm.cons _ (List.Perm.cons _ ?_)))⟩
  refine (List.Perm.append_right (slO (lO K) bs ++ G) p1).trans ?_
  rw [List.append_assoc]
  refine List.Perm.append_left _ ?_
  rw [← List.append_assoc, ← List.append_assoc]
  exact List.Perm.append_right _ List.perm_append_comm
theorem LibP.storeL (pm : LibP K lib lw ll as bs G W) {i : Nat} (hi : i < bs.length) (p : Addr) (h : ListS) : ∃ Wr, ((p, lO K h) :: W).Perm ((ll, .lst (slD bs)) :: Wr) ∧ LibO K lib (slV as) ((slV bs).set i (some h)) ((ll, .lst ((slD bs).set i (.adr p))) :: Wr) := by
  obtain ⟨G2, p1, e1, e2⟩ := slO_new (lO K) hi p h
  refine ⟨(p, lO K h) :: (lib, .ins (cLibrary K) [("walks", .adr lw), ("listings", .adr ll)]) :: (lw, .lst (slD as)) :: (slO (wO K) as ++ (slO (lO K) bs ++ G)), (List.Perm.cons _ pm).trans (List.perm_middle (l₁ := [_, _, _])), ?_⟩
  rw [← e1, ← e2]
  refine ⟨lw, ll, as, _, G2 ++ G, rfl, rfl, perm4'.trans (List.Perm.cons _ (List.Perm.cons _ (List.Perm.cons _ ?_)))⟩
  refine List.perm_middle.symm.trans (List.Perm.append_left _ ?_)
  refine (List.Perm.append_right G p1).trans ?_
  rw [List.append_assoc]
theorem LibP.useW (pm : LibP K lib lw ll as bs G W) {i : Nat} {p : Addr} {h : WalkS} (e : as[i]? = some (some (p, h))) : ∃ Wr, W.Perm ([(p, wO K h)] ++ Wr) ∧ ∀ h', LibO K lib ((slV as).set i (some h')) (slV bs) ([(p, wO K h')] ++ Wr) := by
  obtain ⟨R, p1, p2, e1, e2⟩ := slO_at (wO K) e
  refine ⟨(lib, .ins (cLibrary K) [("walks", .adr lw), ("listings", .adr ll)]) :: (lw, .lst (slD as)) :: (ll, .lst (slD bs)) :: (R ++ (slO (lO K) bs ++ G)), ?_, fun h' => ?_⟩
  · refine pm.trans (List.Perm.trans ?_ mid3)
    exact List.Perm.cons _ (List.Perm.cons _ (List.Perm.cons _ (List.Perm.append_right _ p1)))
  · rw [← e2, ← e1 h']
    refine ⟨lw, ll, _, bs, G, rfl, rfl, ?_⟩
    refine List.Perm.trans (mid3 (S := R ++ (slO (lO K) bs ++ G))).symm ?_
    exact List.Perm.cons _ (List.Perm.cons _ (List.Perm.cons _ (List.Perm.append_right _ (p2 h').symm)))
theorem LibP.useL (pm : LibP K lib lw ll as bs G W) {i : Nat} {p : Addr} {h : ListS} (e : bs[i]? = some (some (p, h))) : ∃ Wr, W.Perm ([(p, lO K h)] ++ Wr) ∧ ∀ h', LibO K lib (slV as) ((slV bs).set i (some h')) ([(p, lO K h')] ++ Wr) := by
  obtain ⟨R, p1, p2, e1, e2⟩ := slO_at (lO K) e
  refine ⟨(lib, .ins (cLibrary K) [("walks", .adr lw), ("listings", .adr ll)]) :: (lw, .lst (slD as)) :: (ll, .lst (slD bs)) :: (slO (wO K) as ++ (R ++ G)), ?_, fun h' => ?_⟩
  · refine pm.trans (List.Perm.trans ?_ mid3)
    refine List.Perm.cons _ (List.Perm.cons _ (List.Perm.cons _ ?_))
    exact (List.Perm.append_left _ (List.Perm.append_right _ p1)).trans List.perm_middle
  · rw [← e2, ← e1 h']
    refine ⟨lw, ll, as, _, G, rfl, rfl, ?_⟩
    refine List.Perm.trans (mid3 (S := slO (wO K) as ++ (R ++ G))).symm ?_
    refine List.Perm.cons _ (List.Perm.cons _ (List.Perm.cons _ ?_))
    exact List.perm_middle.symm.trans (List.Perm.append_left _ (List.Perm.append_right _ (p2 h').symm))
end
theorem slV_len {α : Type} (as : List (Option (Addr × α))) : (slV as).length = as.length := by simp [slV]
theorem slD_len {α : Type} (as : List (Option (Addr × α))) : (slD as).length = as.length := by simp [slD]
theorem slD_at {α : Type} {as : List (Option (Addr × α))} {i : Nat} {p : Addr} {h : α} (e : as[i]? = some (some (p, h))) : (slD as)[i]? = some (.adr p) := by simp [slD, e]
end Dsn
end

section
set_option maxHeartbeats 4000000
/-! # The library's answers -/
namespace Dsn
open PySem PySem.Spec PyProof.Rows L2 Hd
open R7284d.Spec (andThen)
theorem andThen_ok {α β : Type} {x : Except Err α} {f : α → Except Err β} {a : α} (h : x = .ok a) : andThen x f = f a := by subst h; rfl
theorem andThen_error {α β : Type} {x : Except Err α} {f : α → Except Err β} {e : Err} (h : x = .error e) : andThen x f = .error e := by subst h; rfl
theorem getD_some {α : Type} {l : List (Option α)} {i : Nat} {h : α} (e : l[i]? = some (some h)) : l.getD i none = some h := by
  simp [List.getD, e]
theorem keep_Library_returned (K : PySem.W.Frag) : KeepsX ["self", "door", "arguments", "slot"] (p_Library_returned K) (rd_Library_returned K) := by
  rintro ds W AQ x ⟨lib, ws, ls, door, z, a, b, c, r, rfl, ⟨lw, ll, as, bs, G, rfl, rfl, pm⟩, ok, hq, hx⟩
  have pm : LibP K lib lw ll as bs G W := pm
  have hwl := ok.wl
  have hll := ok.ll
  rw [slV_len] at hwl hll
  by_cases h7 : door ≤ 7
  · have c7 : ((door : Nat) : Int) ≤ 7 := by omega
    have el : libF (slV as) (slV bs) door z a b c = andThen (aPlain door z a b) fun o => .ok (slV as, slV bs, o) := by simp only [libF, if_pos h7]
    rw [el] at hq hx
    simp [rd_Library_returned, c7]
    refine ⟨door, z, a, b, c :: r, by simp, ok.oz, ok.oa, ok.ob, fun o ho => ?_, fun e he m hm => ?_⟩
    · exact hq (slV as, slV bs, o) (andThen_ok ho) W pm.o
    · exact hx e (andThen_error he) m hm W pm.o
  · have c7 : ¬ ((door : Nat) : Int) ≤ 7 := by omega
    obtain ⟨i, rfl, hi⟩ := ok.sl (by omega)
    have esl : slotN (.int (i : Int)) = i := by simp [slotN, wholeV]
    by_cases h8 : door = 8
    · subst h8
      have el : libF (slV as) (slV bs) 8 (.int (i : Int)) a b c = andThen (nWalk a b) fun q => .ok ((slV as).set i (some (newW q)), slV bs, [0]) := by simp [libF, esl]
      rw [el] at hq hx
      simp [rd_Library_returned, nsLibrary, encV, vO, nsValue, iL]
      refine ⟨[], W, .refl _, .int (i : Int), a, b, c :: r, by simp [encV, vO, iL], rfl, ok.oa, ok.ob, fun q hn p => ?_, fun e he m hm => ?_⟩
      · obtain ⟨Wr, p1, p2⟩ := pm.storeW (i := i) (by omega) p (newW q)
        refine ⟨_, .inr pm.m0, rfl, ?_⟩
        simp
        refine ⟨slD as, Wr, p1, by rw [slD_len]; omega, ?_⟩
        exact hq _ (andThen_ok hn) _ p2
      · exact hx e (andThen_error he) m hm W pm.o
    · have c8 : ¬ ((door : Nat) : Int) = 8 := by omega
      by_cases h13 : door ≤ 13
      · have c13 : ((door : Nat) : Int) ≤ 13 := by omega
        obtain ⟨h, hh⟩ := ok.hw (by omega) h13
        rw [esl] at hh
        obtain ⟨p, hp⟩ := slV_at hh
        have el : libF (slV as) (slV bs) door (.int (i : Int)) a b c = .ok ((slV as).set i (some (walkF door h a).1), slV bs, (walkF door h a).2) := by
          simp only [libF, if_neg h7, if_neg h8, if_pos h13, esl, getD_some hh]
        obtain ⟨Wr, p1, p2⟩ := pm.useW hp
        have ho := ok.wo h (List.mem_of_getElem? hh)
        simp [rd_Library_returned, nsLibrary, encV, vO, nsValue, iL, c7, c8, c13]
        refine ⟨_, pm.m0, rfl, ?_⟩
        simp
        refine ⟨slD as, pm.m1, ?_⟩
        simp [slD_at hp]
        refine ⟨[(p, wO K h)], Wr, p1, door, p, h, a, rfl, rfl, ho, ok.oa, fun hd => ok.ax (by omega), ?_⟩
        exact hq _ el _ (p2 _)
      · have c13 : ¬ ((door : Nat) : Int) ≤ 13 := by omega
        by_cases h14 : door = 14
        · subst h14
          have el : libF (slV as) (slV bs) 14 (.int (i : Int)) a b c = andThen (nList a b c) fun q => .ok (slV as, (slV bs).set i (some (newL q)), [0]) := by simp [libF, esl]
          rw [el] at hq hx
          simp [rd_Library_returned, nsLibrary, encV, vO, nsValue, iL]
          refine ⟨[], W, .refl _, .int (i : Int), a, b, c, r, by simp [encV, vO, iL], rfl, ok.oa, ok.ob, ok.oc, fun q hn p => ?_, fun e he m hm => ?_⟩
          · obtain ⟨Wr, p1, p2⟩ := pm.storeL (i := i) (by omega) p (newL q)
            refine ⟨_, .inr pm.m0, rfl, ?_⟩
            simp
            refine ⟨slD bs, Wr, p1, by rw [slD_len]; omega, ?_⟩
            exact hq _ (andThen_ok hn) _ p2
          · exact hx e (andThen_error he) m hm W pm.o
        · have c14 : ¬ ((door : Nat) : Int) = 14 := by omega
          obtain ⟨h, hh⟩ := ok.hl (by omega)
          rw [esl] at hh
          obtain ⟨p, hp⟩ := slV_at hh
          have el : libF (slV as) (slV bs) door (.int (i : Int)) a b c = .ok (slV as, (slV bs).set i (some (listF door h a b).1), (listF door h a b).2) := by
            simp only [libF, if_neg h7, if_neg h8, if_neg h13, if_neg h14, esl, getD_some hh]
          obtain ⟨Wr, p1, p2⟩ := pm.useL hp
          have ho := ok.lo h (List.mem_of_getElem? hh)
          simp [rd_Library_returned, nsLibrary, encV, vO, nsValue, iL, c7, c8, c13, c14]
          refine ⟨_, pm.m0, rfl, ?_⟩
          simp
          refine ⟨slD bs, pm.m2, ?_⟩
          simp [slD_at hp]
          refine ⟨[(p, lO K h)], Wr, p1, door, p, h, .int (i : Int), a, b, c :: r, by simp [encV, vO, iL], rfl, ho, fun hd => ok.ax (by omega), fun hd => ok.tg hd, ?_⟩
          exact hq _ el _ (p2 _)
end Dsn
end

section
set_option maxHeartbeats 4000000
/-! # The refusals' writing while an exception is handled -/
namespace Dsn
open PySem PySem.Spec PyProof.Rows L2 Hd
section
variable {P : Program} {w : World} {K : PySem.W.Frag} {mg : Str → Option Value} {base : Heap}
theorem hotc {N : List Str} {q : Str} {scope : Scope} {f : Addr} {cdv : Value} {A : Around} {outer : List Env} {s : Shared} {H : Hp} {E : XK} {p : Addr × Obj} (h : L2H.Hot1 A p) : L2H.HotC (L2H.cxH CX0 P w K mg base N q scope f cdv A outer s H E p).nox :=
  ⟨p, ⟨h.1, h.2⟩, List.mem_singleton.mpr rfl⟩
theorem dh_octets_of (T : Tx K mg) : RdsH P w K mg base ["words", "sign"] "octets_of" (defScope s_octets_of) (He.ga K "octets_of") (defBody s_octets_of) 0 (rd_octets_of) := by
  intro cdv A outer s H E p hot hr
  have hc := hotc (P := P) (w := w) (K := K) (mg := mg) (base := base) (N := ["words", "sign"]) (q := "octets_of") (scope := defScope s_octets_of) (f := He.ga K "octets_of") (cdv := cdv) (outer := outer) (s := s) (H := H) (E := E) hot
  exact (dss_one (ds_ret (de_lcHs [("sign", 1)] 1 hc sc_octets_of.nd (blkOk_by (own := [("sign", 1)]) (N := ["words", "sign"]) (sc := defScope s_octets_of) (by decide +kernel)) (de_var 0) (fun _ _ _ _ _ => pg_name (i := 1) sc_octets_of.nd rfl (Or.inl rfl)) (fun _ _ _ _ _ => (de_ord T.b_ord (de_var 1))))))
theorem dh_write_number (T : Tx K mg) : RdsH P w K mg base ["number", "width", "octets", "rest", "k"] "write_number" (defScope s_write_number) (He.ga K "write_number") (defBody s_write_number) 0 (rd_write_number) := by
  intro cdv A outer s H E p hot hr
  have hc := hotc (P := P) (w := w) (K := K) (mg := mg) (base := base) (N := ["number", "width", "octets", "rest", "k"]) (q := "write_number") (scope := defScope s_write_number) (f := He.ga K "write_number") (cdv := cdv) (outer := outer) (s := s) (H := H) (E := E) hot
  exact (dss_cons (ds_set 2 sc_write_number.nd (de_lstO da_nil))
    (dss_cons (ds_set 3 sc_write_number.nd (de_var 0))
    (dss_cons (ds_forH1 PassesOwn.never hc T.b_range (de_var 1) (dg_nm 4 sc_write_number.nd) (dss_cons (ds_app (de_var 2) (de_sub (de_var 3) (de_mul (de_fdv (de_var 3) (de_int)) (de_int))))
    (dss_one (ds_set 3 sc_write_number.nd (de_fdv (de_var 3) (de_int))))))
    (dss_one (ds_ret (de_frz (de_var 2)))))))
theorem dh_write_refusal (T : Tx K mg)
    (F_write_number : CalH P w K mg base 1 "write_number" ["number", "width"] p_write_number)
    (F_octets_of : CalH P w K mg base 1 "octets_of" ["words"] p_octets_of) : RdsH P w K mg base ["sort", "words"] "write_refusal" (defScope s_write_refusal) (He.ga K "write_refusal") (defBody s_write_refusal) 1 (rd_write_refusal) := by
  intro cdv A outer s H E p hot hr
  have hc := hotc (P := P) (w := w) (K := K) (mg := mg) (base := base) (N := ["sort", "words"]) (q := "write_refusal") (scope := defScope s_write_refusal) (f := He.ga K "write_refusal") (cdv := cdv) (outer := outer) (s := s) (H := H) (E := E) hot
  exact (dss_one (ds_ret (de_add (de_add (de_lst (da_cons (de_int) (da_cons (de_var 0) da_nil))) (de_callH F_write_number (hr.mono (by decide)) hc (da_cons (de_len T.b_len (de_var 1)) (da_cons (de_int) da_nil)))) (de_callH F_octets_of (hr.mono (by decide)) hc (da_cons (de_var 1) da_nil)))))
theorem calh_write_number (T : Tx K mg) : CalH P w K mg base 1 "write_number" ["number", "width"] p_write_number :=
  mk_calH T.f_write_number T.g_write_number sc_write_number (fun _ _ _ _ _ _ us hl => match us, hl with | [_, _], _ => rfl) (fun ds Q h => by obtain ⟨n, w, rfl, _⟩ := h; rfl) (dh_write_number T) keep_write_number
theorem calh_octets_of (T : Tx K mg) : CalH P w K mg base 1 "octets_of" ["words"] p_octets_of :=
  mk_calH T.f_octets_of T.g_octets_of sc_octets_of (fun _ _ _ _ _ _ us hl => match us, hl with | [_], _ => rfl) (fun ds Q h => by obtain ⟨s, rfl, _⟩ := h; rfl) (dh_octets_of T) keep_octets_of
theorem calh_write_refusal (T : Tx K mg) : CalH P w K mg base 2 "write_refusal" ["sort", "words"] p_write_refusal :=
  mk_calH T.f_write_refusal T.g_write_refusal sc_write_refusal (fun _ _ _ _ _ _ us hl => match us, hl with | [_, _], _ => rfl) (fun ds Q h => by obtain ⟨i, s, rfl, _⟩ := h; rfl) (dh_write_refusal T (calh_write_number T) (calh_octets_of T)) keep_write_refusal
end
end Dsn
end

section
set_option maxHeartbeats 4000000
/-! # The library: a request and its answer -/
namespace Dsn
open PySem PySem.Spec PyProof.Rows L2 Hd
def clsN : R7284d.Spec.Cls → Int
  | .typeError => 1
  | .rangeError => 2
def msgI (e : Err) : List Int := e.msg.map fun u => ((u.toNat : Nat) : Int)
def ansF (ws : WS) (ls : LS) (door : Nat) (z a b c : RWire.Value) : WS × LS × List Int := match libF ws ls door z a b c with
  | .ok q => (q.1, q.2.1, 0 :: q.2.2)
  | .error e => (ws, ls, 1 :: clsN e.cls :: (wN 4 (e.msg.length : Nat) ++ msgI e))
def pad (l : List RWire.Value) : List RWire.Value := l ++ List.replicate (4 - l.length) .nothing
def p_Library_answer (K : PySem.W.Frag) : ASp := fun ds W Q _ => ∃ (lib : Addr) (ws : WS) (ls : LS) (b : List UInt8) (door : Nat) (l : List RWire.Value) (z a b' c : RWire.Value) (r : List RWire.Value), ds = [.adr lib, iL (oI b)] ∧ LibO K lib ws ls W ∧ b.length ≤ 100000 ∧
  RWire.readRequest b = some (door, l) ∧ okL l = true ∧ pad l = z :: a :: b' :: c :: r ∧ LibOk ws ls door z a b' c ∧ (ansF ws ls door z a b' c).2.2.length ≤ 16000000 ∧ ∀ W', LibO K lib (ansF ws ls door z a b' c).1 (ansF ws ls door z a b' c).2.1 W' → Q (iL (ansF ws ls door z a b' c).2.2) W'
/-- the try: what is returned, or the refusal's octets -/
@[simp] def sTryLib (K : PySem.W.Frag) : AS := fun A G W => G.length = 5 ∧ (aOp oAdd (aLst (aCons (aC (.int 0)) aNil)) (aMethX ⟨E0, fun C m W' => (C = cWrongKind K ∧ p_write_refusal [.int 1, .str m] fun d => A.rt d W') ∨ (C = cOutOfRange K ∧ p_write_refusal [.int 2, .str m] fun d => A.rt d W')⟩ (cLibrary K) nsLibrary (p_Library_returned K) (aVar 0) (aCons (aVar 2) (aCons (aVar 3) aNil)))) G W A.rt
def rd_Library_answer (K : PySem.W.Frag) : AS :=
  (sSeq (sAsg (aCallP p_read_number (aCons (aVar 1) (aCons (aC (.int 0)) (aCons (aC (.int 2)) aNil)))) (gNm 2))
    (sSeq (sAsg (aCallP (p_read_arguments (cValue K)) (aCons (aVar 1) aNil)) (gNm 3))
    (sTryLib K)))
/-- the suites -/
def tsRef (K : PySem.W.Frag) (C : Addr) (i : Int) : Addr → Value → Option Addr → TS := fun a cls d => tRet (tCallS (toSp K (pureSp p_write_refusal)) (fun _ => E0) (tCons (tC (.int i)) (tCons (tWordsX C a cls d (tVar 4)) tNil)))
def tbTry (K : PySem.W.Frag) (W : WX) : TS := tRet (tOp (fun x y H Q => rI0 (fun i j => .int (i + j)) x y H Q ∨ rCat x y H Q) (tLst (tCons (tC (.int 0)) tNil)) (L2N.tMethE (cLibrary K) "returned" (toSp K (p_Library_returned K)) (WE W) (tVar 0) (tCons (tVar 2) (tCons (tVar 3) tNil))))
def lsRef (K : PySem.W.Frag) : List (Value × (Addr → Value → Option Addr → TS)) := [(.ref (cWrongKind K), tsRef K (cWrongKind K) 1), (.ref (cOutOfRange K), tsRef K (cOutOfRange K) 2)]
def tTry (K : PySem.W.Frag) : TS := fun D σ H => tbTry K (L2N.wManyAs K 4 (fun _ _ _ _ => False) D (lsRef K)) D σ H
theorem takesN0 {X : Cx} : L2N.Takes X (fun _ _ _ _ => False) := fun _ _ ⟨_, _, _, _, _, _, _, _, _, _, _, _, _, _, _, _, w⟩ => w.elim
section
variable {P : Program} {w : World} {K : PySem.W.Frag} {mg : Str → Option Value} {base : Heap}
theorem suite_ref {W' : Om} {C a d : Addr} {i : Int} {m : Str} {A : AEnds} {Z : Ends} {D' : Ends} {σ : L2.St} {H H' S S' : Hp} {W : Om} (f : Fit K X0 W H S A Z) (st : Step W H S W' H' S') (w' : Wd K W' H' S') (hd : H' d = some (xdOf m)) (hl : 4 < σ.length) (hZ : D'.rt = Z.rt)
    (hp : p_write_refusal [.int i, .str m] fun z => A.rt z W') : tsRef K C i a (.ref C) (some d) D' (σ.set 4 (some (.ref a))) H' := by
  refine ⟨.ref a, by rw [List.getElem?_set_self hl], rfl, rfl, d, .str m, rfl, hd, ?_⟩
  refine ⟨S', [.int i, .str m], [], fun z _ => A.rt z W', fun _ _ _ => False, w'.nil, .cons (.int i) (.cons (.str m) .nil), ⟨rfl, hp⟩, fun z W'' v H'' S'' st'' w'' hv q => ?_, xc0⟩
  rw [hZ]
  obtain ⟨w2, st2⟩ := pure_frame w' st'' w''
  exact f.rt z v W' H'' S'' (st.trans st2) w2 hv q
theorem rs_try (T : Tx K mg) : RefS K X0 (tTry K) (sTryLib K) := fun G σ W H S A Z n hh f => by
  obtain ⟨hl, hh⟩ := hh
  have hl4 : 4 < σ.length := by rw [← n.s.len, hl]; decide
  show (tOp (fun x y H Q => rI0 (fun i j => .int (i + j)) x y H Q ∨ rCat x y H Q) (tLst (tCons (tC (.int 0)) tNil)) (tMeth (cLibrary K) "returned" (toSp K (p_Library_returned K)) [] (WE (L2N.wManyAs K 4 (fun _ _ _ _ => False) Z (lsRef K)) σ) (tVar 0) (tCons (tVar 2) (tCons (tVar 3) tNil)))) σ H Z.rt
  have hm : ∀ fs : List (Str × D), fs.map (·.1) = nsLibrary → fs.lookup ("returned" : Str) = none := fun fs hf => by
    have q : ∀ l : List (Str × D), (∀ g ∈ l.map (·.1), (("returned" : Str) == g) = false) → l.lookup ("returned" : Str) = none := by
      intro l
      induction l with
      | nil => intro _; rfl
      | cons z r ih =>
        intro h
        obtain ⟨g, d⟩ := z
        have h0 : (("returned" : Str) == g) = false := h g List.mem_cons_self
        simp only [List.lookup, h0]
        exact ih fun g' hg' => h g' (List.mem_cons_of_mem _ hg')
    refine q fs fun g hg => ?_
    rw [hf] at hg
    revert g
    decide +kernel
  let x' : XW := ⟨WE (L2N.wManyAs K 4 (fun _ _ _ _ => False) Z (lsRef K)) σ, fun C m W' => (C = cWrongKind K ∧ p_write_refusal [.int 1, .str m] fun d => A.rt d W') ∨ (C = cOutOfRange K ∧ p_write_refusal [.int 2, .str m] fun d => A.rt d W')⟩
  have R : RefE K x' (tOp (fun x y H Q => rI0 (fun i j => .int (i + j)) x y H Q ∨ rCat x y H Q) (tLst (tCons (tC (.int 0)) tNil)) (tMeth (cLibrary K) "returned" (toSp K (p_Library_returned K)) [] x'.E (tVar 0) (tCons (tVar 2) (tCons (tVar 3) tNil)))) (aOp oAdd (aLst (aCons (aC (.int 0)) aNil)) (aMethX x' (cLibrary K) nsLibrary (p_Library_returned K) (aVar 0) (aCons (aVar 2) (aCons (aVar 3) aNil)))) :=
    ref_op r2_add (ref_lst (ref_cons (ref_c fun _ => .int 0) ref_nil)) (ref_methX hm (ref_var 0) (ref_cons (ref_var 2) (ref_cons (ref_var 3) ref_nil)))
  refine R G σ W H S A.rt Z.rt ⟨n.w, n.s, ?_⟩ hh fun d W' v H' S' st w' hv q => f.rt d v W' H' S' st w' hv q
  intro C m W' H' S' d st w' hd sd dd q
  show L2N.wManyAs K 4 (fun _ _ _ _ => False) Z (lsRef K) (.ref C) (some d) σ H'
  rcases q with ⟨rfl, hp⟩ | ⟨rfl, hp⟩
  · exact ⟨true, T.e_WrongKind_WrongKind, fun _ a ha => suite_ref f st w' hd hl4 rfl hp, fun z => nomatch z⟩
  · exact ⟨false, T.e_OutOfRange_WrongKind, (fun z => nomatch z), fun _ => ⟨true, T.e_OutOfRange_OutOfRange, fun _ a ha => suite_ref f st w' hd hl4 rfl hp, fun z => nomatch z⟩⟩
theorem dv_Library_answer (T : Tx K mg)
    (F_read_number : Cal P w K mg base CX0 1 "read_number" ["octets", "at", "width"] (pureSp p_read_number))
    (F_read_arguments : Cal P w K mg base CX0 81 "read_arguments" ["octets"] (pureSp (p_read_arguments (cValue K))))
    (F_Library_returned : Mal P w K mg base (L2N.CX P w) 12 (cLibrary K) "returned" ["self", "door", "arguments"] (p_Library_returned K))
    (F_write_refusal : CalH P w K mg base 2 "write_refusal" ["sort", "words"] p_write_refusal) :
    Rds P w K mg base ["self", "request", "door", "arguments", "e"] "Library.answer" (defScope s_Library_answer) (He.ma K (cLibrary K) "answer") (defBody s_Library_answer) 81 (rd_Library_answer K) := by
  intro cdv A outer s H E hr
  obtain ⟨fr, fdr, Fr, hMr, hbr⟩ := F_Library_returned
  obtain ⟨fw, fdw, Fw, hmw, hkw, hbw⟩ := F_write_refusal
  have hr12 := hr.mono (j := 12) (by decide)
  have hrH : L2H.RoomH 2 _ := L2H.roomH_of (hr.mono (j := 2) (by decide))
  refine (dss_cons (ds_set 2 sc_Library_answer.nd (de_callP F_read_number (hr.mono (by decide)) (da_cons (de_var 1) (da_cons de_int (da_cons de_int da_nil)))))
    (dss_cons (ds_set 3 sc_Library_answer.nd (de_callP F_read_arguments (hr.mono (by decide)) (da_cons (de_var 1) da_nil)))
    (dss_one ⟨⟨tTry K, ?_, rs_try T⟩⟩)))
  refine L2N.ps_try_asM (i := 4) (n := "e") (tb := tbTry K) (l := lsRef K) rfl rfl sc_Library_answer.nd rfl rfl takesN0 (fun W pn xe tk _ => ?_) ?_
  · exact pss_one (ps_ret (pe_op (opr_or op_add op_cat) (pe_lst (pa_cons pe_int pa_nil)) (L2N.pe_methE (pv 0) T.c_Library.c hMr Fr hr12 hbr (fun σ => L2N.passAt tk σ) (by exact (pa_cons (pv 2) (pa_cons (pv 3) pa_nil))))))
  · refine .cons ⟨rfl, by decide, .inl T.x_WrongKind.gC⟩ (fun a oe cls d pn hz hf => ?_) (.cons ⟨rfl, by decide, .inl T.x_OutOfRange.gC⟩ (fun a oe cls d pn hz hf => ?_) .nil)
    · obtain ⟨vs, hvs⟩ := hf
      exact pss_one (ps_ret (L2H.pe_callH (E := fun _ => E0) Fw ⟨hrH.dp, hrH.un⟩ ⟨(a, oe), ⟨rfl, vs, hvs, hz.2.2 vs hvs⟩, List.mem_cons_self⟩ rfl hmw hkw hbw (fun _ _ _ _ _ _ _ h => h.elim) (by exact (pa_cons pe_int (pa_cons (pe_wordsX T.x_WrongKind hz.zc ⟨vs, hvs⟩ (pv 4)) pa_nil)))))
    · obtain ⟨vs, hvs⟩ := hf
      exact pss_one (ps_ret (L2H.pe_callH (E := fun _ => E0) Fw ⟨hrH.dp, hrH.un⟩ ⟨(a, oe), ⟨rfl, vs, hvs, hz.2.2 vs hvs⟩, List.mem_cons_self⟩ rfl hmw hkw hbw (fun _ _ _ _ _ _ _ h => h.elim) (by exact (pa_cons pe_int (pa_cons (pe_wordsX T.x_OutOfRange hz.zc ⟨vs, hvs⟩ (pv 4)) pa_nil)))))
end
theorem req_number {b : List UInt8} {door : Nat} {l : List RWire.Value} (h : RWire.readRequest b = some (door, l)) : 3 ≤ b.length ∧ numL (((oI b).drop 0).take 2) = (door : Int) := by
  match b, h with
  | x :: y :: n :: r, h =>
    refine ⟨by simp, ?_⟩
    simp only [RWire.readRequest] at h
    split at h
    · cases h
    · simp at h
      obtain ⟨rfl, _⟩ := h
      simp [oI, numL]
  | [], h => simp [RWire.readRequest] at h
  | [_], h => simp [RWire.readRequest] at h
  | [_, _], h => simp [RWire.readRequest] at h
theorem pad_enc (K : PySem.W.Frag) (l : List RWire.Value) : D.lst (encL (cValue K) l ++ List.replicate (4 - l.length) (encV (cValue K) .nothing)) = argD K (pad l) := by
  simp [argD, pad, encL_map, List.map_append, List.map_replicate]
theorem keep_Library_answer (K : PySem.W.Frag) : Keeps ["self", "request", "door", "arguments", "e"] (p_Library_answer K) (rd_Library_answer K) := by
  rintro ds W AQ AX ⟨lib, ws, ls, b, door, l, z, a, b', c, r, rfl, hL, hb, hreq, hok, hpad, hlib, hlen, hQ⟩
  obtain ⟨hb3, hnum⟩ := req_number hreq
  simp [rd_Library_answer, -sTryLib]
  refine ⟨oI b, 0, 2, rfl, by rw [oI_length]; omega, by omega, ?_⟩
  simp only [List.drop_zero] at hnum
  simp [-sTryLib]
  rw [hnum]
  refine ⟨b, door, l, rfl, hb, hreq, hok, ?_⟩
  rw [pad_enc, hpad]
  obtain ⟨lw, ll, as, bs, G, h1, h2, pm⟩ := id hL
  have pm : LibP K lib lw ll as bs G W := pm
  refine ⟨rfl, ?_⟩
  simp [nsLibrary, -List.map_cons]
  refine ⟨⟨_, pm.m0, rfl⟩, W, [], by simp, lib, ws, ls, door, z, a, b', c, r, rfl, hL, hlib, fun q hq W' hW' => ?_, fun e he m hm W' hW' => ?_⟩
  · have ea : ansF ws ls door z a b' c = (q.1, q.2.1, 0 :: q.2.2) := by simp only [ansF, hq]
    rw [ea] at hQ hlen
    simp at hlen
    simp
    refine ⟨by omega, ?_⟩
    simpa [iL] using hQ W' hW'
  · have ea : ansF ws ls door z a b' c = (ws, ls, 1 :: clsN e.cls :: (wN 4 (e.msg.length : Nat) ++ msgI e)) := by simp only [ansF, he]
    rw [ea] at hQ
    have hml : m.length = e.msg.length := by
      have := congrArg List.length hm.1
      rw [octs_length, List.length_map] at this
      exact this
    have fin : p_write_refusal [.int (clsN e.cls), .str m] fun d => AQ d (W' ++ []) := by
      refine ⟨clsN e.cls, m, rfl, hm.2, ?_⟩
      rw [hml, hm.1, List.append_nil]
      exact hQ W' hW'
    cases hc : e.cls with
    | typeError =>
      rw [hc] at fin
      exact .inl ⟨rfl, by simpa [clsN] using fin⟩
    | rangeError =>
      rw [hc] at fin
      exact .inr ⟨rfl, by simpa [clsN] using fin⟩
end Dsn
end

section
set_option maxHeartbeats 4000000
/-! # The desk -/
namespace Dsn
open PySem PySem.Spec PyProof.Rows L2 Hd
abbrev Rq := List UInt8
/-- the requests as one list of numbers -/
def flatC (bs : List Rq) : List Int := bs.flatMap fun b => 0 :: ((b.length : Nat) : Int) :: oI b
def reqF (ws : WS) (ls : LS) (b : Rq) : WS × LS × List Int := match RWire.readRequest b with
  | some (door, l) => (match pad l with
    | z :: a :: b' :: c :: _ => ansF ws ls door z a b' c
    | _ => (ws, ls, []))
  | none => (ws, ls, [])
def sesF : WS → LS → List Rq → List Int
  | _, _, [] => []
  | ws, ls, b :: r => (((reqF ws ls b).2.2.length : Nat) : Int) :: ((reqF ws ls b).2.2 ++ sesF (reqF ws ls b).1 (reqF ws ls b).2.1 r)
structure ReqOk (ws : WS) (ls : LS) (b : Rq) : Prop where
  len : b.length ≤ 100000
  ex : ∃ (door : Nat) (l : List RWire.Value) (z a b' c : RWire.Value) (r : List RWire.Value), RWire.readRequest b = some (door, l) ∧ okL l = true ∧ pad l = z :: a :: b' :: c :: r ∧ LibOk ws ls door z a b' c
def SesOk : WS → LS → List Rq → Prop
  | _, _, [] => True
  | ws, ls, b :: r => ReqOk ws ls b ∧ SesOk (reqF ws ls b).1 (reqF ws ls b).2.1 r
def ws0 : WS := [none, none, none]
def ls0 : LS := [none, none, none]
def p_answers (K : PySem.W.Frag) : ASp := fun ds W Q _ => ∃ bs : List Rq, ds = [.frz ((flatC bs).map D.int)] ∧ W = [] ∧ SesOk ws0 ls0 bs ∧ (sesF ws0 ls0 bs).length ≤ 15000000 ∧ ∀ W', Q (iL (sesF ws0 ls0 bs)) W'
def rd_answers (K : PySem.W.Frag) : AS :=
  (sSeq (sAsg (aMake (cLibrary K) (p_Library_init K) aNil) (gNm 1))
    (sSeq (sAsg (aLstO aNil) (gNm 2))
    (sSeq (sAsg (aC (.int 0)) (gNm 3))
    (sSeq (sWhile (aB (aOp oLt (aVar 3) (aCB cLen (aCons (aVar 0) aNil)))) (sSeq (sAsg (aOp oIx (aVar 0) (aOp oAdd (aVar 3) (aC (.int 1)))) (gNm 4))
    (sSeq (sAsg (aMeth (cLibrary K) nsLibrary (p_Library_answer K) (aVar 1) (aCons (aSl (aVar 0) (aPart (aOp oAdd (aVar 3) (aC (.int 2)))) (aPart (aOp oAdd (aOp oAdd (aVar 3) (aC (.int 2))) (aVar 4)))) aNil)) (gNm 5))
    (sSeq (sApp (aVar 2) (aCB cLen (aCons (aVar 5) aNil)))
    (sSeq (sExt (aVar 2) (aVar 5))
    (sAsg (aOp oAdd (aOp oAdd (aVar 3) (aC (.int 2))) (aVar 4)) (gNm 3)))))))
    (sRet (aFrz (aVar 2)))))))
theorem dv_answers {P : Program} {w : World} {K : PySem.W.Frag} {mg : Str → Option Value} {base : Heap} (T : Tx K mg)
    (F_Library_init : Ial P w K mg base CX0 1 (cLibrary K) ["self"] (p_Library_init K))
    (F_Library_answer : Mal P w K mg base CX0 82 (cLibrary K) "answer" ["self", "request"] (p_Library_answer K)) : Rds P w K mg base ["calls", "library", "out", "at", "size", "answer"] "answers" (defScope s_answers) (He.ga K "answers") (defBody s_answers) 82 (rd_answers K) := by
  intro cdv A outer s H E hr
  exact (dss_cons (ds_set 1 sc_answers.nd (de_make0 F_Library_init T.g_Library (hr.mono (by decide))))
    (dss_cons (ds_set 2 sc_answers.nd (de_lstO da_nil))
    (dss_cons (ds_set 3 sc_answers.nd (de_int))
    (dss_cons (ds_while PassesOwn.never (dt_lt (de_var 3) (de_len T.b_len (de_var 0))) (dss_cons (ds_set 4 sc_answers.nd (de_ix (de_var 0) (de_add (de_var 3) (de_int))))
    (dss_cons (ds_set 5 sc_answers.nd (de_meth T.c_Library F_Library_answer (hr.mono (by decide)) (de_var 1) (da_cons (de_sl (de_var 0) (do_at (de_add (de_var 3) (de_int))) (do_at (de_add (de_add (de_var 3) (de_int)) (de_var 4)))) da_nil) (by decide +kernel)))
    (dss_cons (ds_app (de_var 2) (de_len T.b_len (de_var 5)))
    (dss_cons (ds_ext (de_var 2) (de_var 5))
    (dss_one (ds_set 3 sc_answers.nd (de_add (de_add (de_var 3) (de_int)) (de_var 4)))))))))
    (dss_one (ds_ret (de_frz (de_var 2))))))))
theorem flatC_append (a b : List Rq) : flatC (a ++ b) = flatC a ++ flatC b := by simp [flatC]
theorem cut_mid (pre o rest : List D) (x y : D) : Hd.cutD (pre ++ x :: y :: (o ++ rest)) (some ((pre.length : Int) + 2)) (some ((pre.length : Int) + 2 + (o.length : Int))) = o := by
  have h1 : ¬ ((pre.length : Int) + 2 < 0) := by omega
  have h2 : ¬ ((pre.length : Int) + 2 + (o.length : Int) < 0) := by omega
  have e1 : ((pre.length : Int) + 2).toNat = pre.length + 2 := by omega
  have e2 : ((pre.length : Int) + 2 + (o.length : Int)).toNat = pre.length + 2 + o.length := by omega
  simp only [Hd.cutD, HT.sIx, h1, h2, if_false, e1, e2]
  have l1 : min (pre.length + 2) (pre ++ x :: y :: (o ++ rest)).length = pre.length + 2 := by simp
  have l2 : min (pre.length + 2 + o.length) (pre ++ x :: y :: (o ++ rest)).length = pre.length + 2 + o.length := by simp; omega
  simp only [l1, l2]
  have d : (pre ++ x :: y :: (o ++ rest)).drop (pre.length + 2) = o ++ rest := by
    rw [List.drop_append]
    simp
  rw [d]
  have t : pre.length + 2 + o.length - (pre.length + 2) = o.length := by omega
  rw [t, List.take_left]
theorem reqF_eq {ws : WS} {ls : LS} {b : Rq} {door : Nat} {l : List RWire.Value} {z a b' c : RWire.Value} {r : List RWire.Value} (h : RWire.readRequest b = some (door, l)) (hp : pad l = z :: a :: b' :: c :: r) : reqF ws ls b = ansF ws ls door z a b' c := by
  simp only [reqF, h, hp]
/-- the loop's invariant -/
def InvA (K : PySem.W.Frag) (bs : List Rq) (lib ad : Addr) (m : Nat) (G : Ga) (W : Om) : Prop := ∃ (pre rest : List Rq) (ws : WS) (ls : LS) (out : List Int) (Wl : Om) (o4 o5 : Option D), bs = pre ++ rest ∧ m = rest.length ∧ SesOk ws ls rest ∧
    G = [some (.frz ((flatC bs).map D.int)), some (.adr lib), some (.adr ad), some (.int ((flatC pre).length : Nat)), o4, o5] ∧ W.Perm ((ad, .lst (out.map D.int)) :: Wl) ∧ LibO K lib ws ls Wl ∧ sesF ws0 ls0 bs = out ++ sesF ws ls rest
theorem keep_answers (K : PySem.W.Frag) : Keeps ["calls", "library", "out", "at", "size", "answer"] (p_answers K) (rd_answers K) := by
  rintro ds W AQ AX ⟨bs, rfl, rfl, hok, hlen, hQ⟩
  simp [rd_answers, -sWhile]
  refine fun lib hl => ⟨lib, rfl, rfl, fun W1 hL1 => ⟨rfl, fun ad had => ?_⟩⟩
  show sWhile _ _ _ _ _
  refine ⟨InvA K bs lib ad, ⟨bs.length, [], bs, ws0, ls0, [], W1, none, none, rfl, rfl, hok, by simp [flatC], by simp, by simpa [ws0, ls0] using hL1, rfl⟩, ?_⟩
  rintro m G W ⟨pre, rest, ws, ls, out, Wl, o4, o5, rfl, rfl, hs, rfl, hW, hL, hout⟩
  cases rest with
  | nil =>
    have e : ¬ ((flatC pre).length < (flatC (pre ++ [])).length) := by simp
    simp only [List.append_nil] at e hout hQ hlen ⊢
    simp
    refine ⟨_, _, hW, ?_⟩
    simp only [sesF, List.append_nil] at hout
    rw [← hout]
    exact hQ Wl
  | cons b r =>
    obtain ⟨⟨hb, door, l, z, a, b', c, r', hreq, hokl, hpad, hlib⟩, hs'⟩ := hs
    have er := reqF_eq (ws := ws) (ls := ls) hreq hpad
    have f0 : flatC (pre ++ b :: r) = flatC pre ++ 0 :: ((b.length : Nat) : Int) :: (oI b ++ flatC r) := by
      rw [flatC_append]
      simp [flatC]
    have fl : (flatC (pre ++ b :: r)).map D.int = (flatC pre).map D.int ++ .int 0 :: .int ((b.length : Nat) : Int) :: ((oI b).map D.int ++ (flatC r).map D.int) := by
      rw [f0]
      simp
    have lt : (flatC pre).length < (flatC (pre ++ b :: r)).length := by
      rw [f0]
      simp
    have ix : (flatC (pre ++ b :: r))[(flatC pre).length + 1]? = some ((b.length : Nat) : Int) := by
      rw [f0, List.getElem?_append_right (by simp)]
      simp
    have ct := cut_mid ((flatC pre).map D.int) ((oI b).map D.int) ((flatC r).map D.int) (.int 0) (.int ((b.length : Nat) : Int))
    rw [← fl] at ct
    simp only [List.length_map, oI_length] at ct
    have hlen2 : out.length + ((reqF ws ls b).2.2.length + 1 + (sesF (reqF ws ls b).1 (reqF ws ls b).2.1 r).length) ≤ 15000000 := by
      rw [hout] at hlen
      simp [sesF] at hlen
      omega
    have i1 : ((((flatC pre).length : Nat) : Int) + 1).toNat = (flatC pre).length + 1 := by omega
    have i0 : 0 ≤ (((flatC pre).length : Nat) : Int) + 1 := by omega
    obtain ⟨lw, ll, as, bs', G2, h1, h2, pm⟩ := id hL
    have pm : LibP K lib lw ll as bs' G2 Wl := pm
    simp [lt, i1, ix, i0, -List.map_append, nsLibrary]
    rw [ct]
    refine ⟨⟨_, hW.mem_iff.mpr (List.mem_cons_of_mem _ pm.m0), rfl⟩, Wl, [(ad, .lst (out.map D.int))], hW.trans (List.perm_append_comm (l₁ := [(ad, OD.lst (out.map D.int))])), ?_⟩
    refine ⟨lib, ws, ls, b, door, l, z, a, b', c, r', rfl, hL, hb, hreq, hokl, hpad, hlib, by rw [← er]; omega, fun W' hW' => ?_⟩
    rw [← er] at hW' ⊢
    simp
    refine ⟨out.map D.int, W', List.perm_append_comm (l₂ := [(ad, OD.lst (out.map D.int))]), by simp; omega, _, _, .refl _, by simp; omega, ?_⟩
    refine ⟨r.length, by omega, pre ++ [b], r, (reqF ws ls b).1, (reqF ws ls b).2.1, out ++ (((reqF ws ls b).2.2.length : Nat) : Int) :: (reqF ws ls b).2.2, W', some (.int ((b.length : Nat) : Int)), some (iL (reqF ws ls b).2.2), by simp, rfl, hs', ?_, ?_, hW', ?_⟩
    · have e2 : (((flatC (pre ++ [b])).length : Nat) : Int) = ((flatC pre).length : Nat) + 2 + ((b.length : Nat) : Int) := by rw [flatC_append]; simp [flatC, oI_length]; omega
      rw [e2]
    · simp
    · rw [hout]
      simp [sesF]
end Dsn
end

section
set_option maxHeartbeats 4000000
/-! # Each def holds its promise -/
namespace Dsn
open PySem PySem.Spec PyProof.Rows L2 Hd
section
variable {P : Program} {w : World} {K : PySem.W.Frag} {mg : Str → Option Value} {base : Heap}
theorem cal_Library_init (T : Tx K mg) : Ial P w K mg base CX0 1 (cLibrary K) ["self"] (p_Library_init K) :=
  mk_ial T.f_Library_init T.mk_Library sc_Library_init (fun _ _ _ _ _ _ us hl => match us, hl with | [_], _ => rfl) (fun ds W AQ AX h => by repeat (first | (obtain ⟨rfl, _⟩ := h; rfl; done) | (obtain ⟨_, h⟩ := h))) (dv_Library_init T ) (keep_Library_init K)
theorem cal_Listing_end (T : Tx K mg) : Mal P w K mg base CX0 1 (cListing K) "end" ["self"] (p_Listing_end K) :=
  mk_mal T.f_Listing_end T.m_Listing_end sc_Listing_end (fun _ _ _ _ _ _ us hl => match us, hl with | [_], _ => rfl) (fun ds W AQ AX h => by repeat (first | (obtain ⟨rfl, _⟩ := h; rfl; done) | (obtain ⟨_, h⟩ := h))) (dv_Listing_end T ) (keep_Listing_end K)
theorem cal_common_divisor (T : Tx K mg) : Cal P w K mg base CX0 1 "common_divisor" ["one", "other"] (pureSp p_common_divisor) :=
  mk_cal T.f_common_divisor T.g_common_divisor sc_common_divisor (fun _ _ _ _ _ _ us hl => match us, hl with | [_, _], _ => rfl) (fun ds W AQ AX h => by repeat (first | (obtain ⟨rfl, _⟩ := h; rfl; done) | (obtain ⟨_, h⟩ := h))) (dv_common_divisor T ) (keep_common_divisor)
theorem cal_reduced (T : Tx K mg) : Cal P w K mg base CX0 2 "reduced" ["top", "bottom"] (pureSp p_reduced) :=
  mk_cal T.f_reduced T.g_reduced sc_reduced (fun _ _ _ _ _ _ us hl => match us, hl with | [_, _], _ => rfl) (fun ds W AQ AX h => by repeat (first | (obtain ⟨rfl, _⟩ := h; rfl; done) | (obtain ⟨_, h⟩ := h))) (dv_reduced T (cal_common_divisor T)) (keep_reduced)
theorem cal_discounted (T : Tx K mg) : Cal P w K mg base CX0 3 "discounted" ["rewards", "discount", "behind"] (pureSp p_discounted) :=
  mk_cal T.f_discounted T.g_discounted sc_discounted (fun _ _ _ _ _ _ us hl => match us, hl with | [_, _, _], _ => rfl) (fun ds W AQ AX h => by repeat (first | (obtain ⟨rfl, _⟩ := h; rfl; done) | (obtain ⟨_, h⟩ := h))) (dv_discounted T (cal_reduced T)) (keep_discounted)
theorem cal_rewards_of (T : Tx K mg) : Cal P w K mg base CX0 1 "rewards_of" ["system", "word"] (pureSp p_rewards_of) :=
  mk_cal T.f_rewards_of T.g_rewards_of sc_rewards_of (fun _ _ _ _ _ _ us hl => match us, hl with | [_, _], _ => rfl) (fun ds W AQ AX h => by repeat (first | (obtain ⟨rfl, _⟩ := h; rfl; done) | (obtain ⟨_, h⟩ := h))) (dv_rewards_of T ) (keep_rewards_of)
theorem cal_word_reward (T : Tx K mg) : Cal P w K mg base CX0 4 "word_reward" ["system", "discount", "word"] (pureSp p_word_reward) :=
  mk_cal T.f_word_reward T.g_word_reward sc_word_reward (fun _ _ _ _ _ _ us hl => match us, hl with | [_, _, _], _ => rfl) (fun ds W AQ AX h => by repeat (first | (obtain ⟨rfl, _⟩ := h; rfl; done) | (obtain ⟨_, h⟩ := h))) (dv_word_reward T (cal_rewards_of T) (cal_discounted T)) (keep_word_reward)
theorem cal_write_number (T : Tx K mg) : Cal P w K mg base CX0 1 "write_number" ["number", "width"] (pureSp p_write_number) :=
  mk_cal T.f_write_number T.g_write_number sc_write_number (fun _ _ _ _ _ _ us hl => match us, hl with | [_, _], _ => rfl) (fun ds W AQ AX h => by repeat (first | (obtain ⟨rfl, _⟩ := h; rfl; done) | (obtain ⟨_, h⟩ := h))) (dv_write_number T ) (keep_write_number)
theorem cal_write_list (T : Tx K mg) : Cal P w K mg base CX0 2 "write_list" ["parts"] (pureSp p_write_list) :=
  mk_cal T.f_write_list T.g_write_list sc_write_list (fun _ _ _ _ _ _ us hl => match us, hl with | [_], _ => rfl) (fun ds W AQ AX h => by repeat (first | (obtain ⟨rfl, _⟩ := h; rfl; done) | (obtain ⟨_, h⟩ := h))) (dv_write_list T (cal_write_number T)) (keep_write_list)
theorem cal_write_whole (T : Tx K mg) : Cal P w K mg base CX0 2 "write_whole" ["whole"] (pureSp p_write_whole) :=
  mk_cal T.f_write_whole T.g_write_whole sc_write_whole (fun _ _ _ _ _ _ us hl => match us, hl with | [_], _ => rfl) (fun ds W AQ AX h => by repeat (first | (obtain ⟨rfl, _⟩ := h; rfl; done) | (obtain ⟨_, h⟩ := h))) (dv_write_whole T (cal_write_number T)) (keep_write_whole)
theorem cal_write_fraction (T : Tx K mg) : Cal P w K mg base CX0 3 "write_fraction" ["fraction"] (pureSp p_write_fraction) :=
  mk_cal T.f_write_fraction T.g_write_fraction sc_write_fraction (fun _ _ _ _ _ _ us hl => match us, hl with | [_], _ => rfl) (fun ds W AQ AX h => by repeat (first | (obtain ⟨rfl, _⟩ := h; rfl; done) | (obtain ⟨_, h⟩ := h))) (dv_write_fraction T (cal_write_whole T) (cal_write_list T)) (keep_write_fraction)
theorem cal_octets_of (T : Tx K mg) : Cal P w K mg base CX0 1 "octets_of" ["words"] (pureSp p_octets_of) :=
  mk_cal T.f_octets_of T.g_octets_of sc_octets_of (fun _ _ _ _ _ _ us hl => match us, hl with | [_], _ => rfl) (fun ds W AQ AX h => by repeat (first | (obtain ⟨rfl, _⟩ := h; rfl; done) | (obtain ⟨_, h⟩ := h))) (dv_octets_of T ) (keep_octets_of)
theorem cal_write_record (T : Tx K mg) : Cal P w K mg base CX0 2 "write_record" ["members"] (pureSp p_write_record) :=
  mk_cal T.f_write_record T.g_write_record sc_write_record (fun _ _ _ _ _ _ us hl => match us, hl with | [_], _ => rfl) (fun ds W AQ AX h => by repeat (first | (obtain ⟨rfl, _⟩ := h; rfl; done) | (obtain ⟨_, h⟩ := h))) (dv_write_record T (cal_write_number T) (cal_octets_of T)) (keep_write_record)
theorem cal_write_text (T : Tx K mg) : Cal P w K mg base CX0 2 "write_text" ["octets"] (pureSp p_write_text) :=
  mk_cal T.f_write_text T.g_write_text sc_write_text (fun _ _ _ _ _ _ us hl => match us, hl with | [_], _ => rfl) (fun ds W AQ AX h => by repeat (first | (obtain ⟨rfl, _⟩ := h; rfl; done) | (obtain ⟨_, h⟩ := h))) (dv_write_text T (cal_write_number T)) (keep_write_text)
theorem cal_write_word (T : Tx K mg) : Cal P w K mg base CX0 3 "write_word" ["word"] (pureSp p_write_word) :=
  mk_cal T.f_write_word T.g_write_word sc_write_word (fun _ _ _ _ _ _ us hl => match us, hl with | [_], _ => rfl) (fun ds W AQ AX h => by repeat (first | (obtain ⟨rfl, _⟩ := h; rfl; done) | (obtain ⟨_, h⟩ := h))) (dv_write_word T (cal_write_text T)) (keep_write_word)
theorem cal_Listing_show (T : Tx K mg) : Mal P w K mg base CX0 5 (cListing K) "show" ["self", "word"] (p_Listing_show K) :=
  mk_mal T.f_Listing_show T.m_Listing_show sc_Listing_show (fun _ _ _ _ _ _ us hl => match us, hl with | [_, _], _ => rfl) (fun ds W AQ AX h => by repeat (first | (obtain ⟨rfl, _⟩ := h; rfl; done) | (obtain ⟨_, h⟩ := h))) (dv_Listing_show T (cal_word_reward T) (cal_write_fraction T) (cal_write_word T) (cal_write_record T)) (keep_Listing_show K)
theorem cal_Listing_proceed (T : Tx K mg) : Mal P w K mg base CX0 6 (cListing K) "proceed" ["self"] (p_Listing_proceed K) :=
  mk_mal T.f_Listing_proceed T.m_Listing_proceed sc_Listing_proceed (fun _ _ _ _ _ _ us hl => match us, hl with | [_], _ => rfl) (fun ds W AQ AX h => by repeat (first | (obtain ⟨rfl, _⟩ := h; rfl; done) | (obtain ⟨_, h⟩ := h))) (dv_Listing_proceed T (cal_Listing_end T) (cal_write_whole T) (cal_Listing_show T)) (keep_Listing_proceed K)
theorem cal_write_truth (T : Tx K mg) : Cal P w K mg base CX0 1 "write_truth" ["truth"] (pureSp p_write_truth) :=
  mk_cal T.f_write_truth T.g_write_truth sc_write_truth (fun _ _ _ _ _ _ us hl => match us, hl with | [_], _ => rfl) (fun ds W AQ AX h => by repeat (first | (obtain ⟨rfl, _⟩ := h; rfl; done) | (obtain ⟨_, h⟩ := h))) (dv_write_truth T ) (keep_write_truth)
theorem cal_write_outcome (T : Tx K mg) : Cal P w K mg base CX0 3 "write_outcome" ["part", "done"] (pureSp p_write_outcome) :=
  mk_cal T.f_write_outcome T.g_write_outcome sc_write_outcome (fun _ _ _ _ _ _ us hl => match us, hl with | [_, _], _ => rfl) (fun ds W AQ AX h => by repeat (first | (obtain ⟨rfl, _⟩ := h; rfl; done) | (obtain ⟨_, h⟩ := h))) (dv_write_outcome T (cal_write_truth T) (cal_write_record T)) (keep_write_outcome)
theorem cal_Listing_advance (T : Tx K mg) : Mal P w K mg base CX0 7 (cListing K) "advance" ["self"] (p_Listing_advance K) :=
  mk_mal T.f_Listing_advance T.m_Listing_advance sc_Listing_advance (fun _ _ _ _ _ _ us hl => match us, hl with | [_], _ => rfl) (fun ds W AQ AX h => by repeat (first | (obtain ⟨rfl, _⟩ := h; rfl; done) | (obtain ⟨_, h⟩ := h))) (dv_Listing_advance T (cal_Listing_proceed T) (cal_write_outcome T)) (keep_Listing_advance K)
theorem cal_Listing_collect (T : Tx K mg) : Mal P w K mg base CX0 6 (cListing K) "collect" ["self"] (p_Listing_collect K) :=
  mk_mal T.f_Listing_collect T.m_Listing_collect sc_Listing_collect (fun _ _ _ _ _ _ us hl => match us, hl with | [_], _ => rfl) (fun ds W AQ AX h => by repeat (first | (obtain ⟨rfl, _⟩ := h; rfl; done) | (obtain ⟨_, h⟩ := h))) (dv_Listing_collect T (cal_Listing_show T) (cal_Listing_end T) (cal_write_list T)) (keep_Listing_collect K)
theorem cal_Listing_dispose (T : Tx K mg) : Mal P w K mg base CX0 2 (cListing K) "dispose" ["self"] (p_Listing_dispose K) :=
  mk_mal T.f_Listing_dispose T.m_Listing_dispose sc_Listing_dispose (fun _ _ _ _ _ _ us hl => match us, hl with | [_], _ => rfl) (fun ds W AQ AX h => by repeat (first | (obtain ⟨rfl, _⟩ := h; rfl; done) | (obtain ⟨_, h⟩ := h))) (dv_Listing_dispose T (cal_Listing_end T)) (keep_Listing_dispose K)
theorem cal_write_again (T : Tx K mg) : Cal P w K mg base CX0 3 "write_again" ["value"] (pureSp (p_write_again (cValue K))) :=
  mk_cal T.f_write_again T.g_write_again sc_write_again (fun _ _ _ _ _ _ us hl => match us, hl with | [_], _ => rfl) (fun ds W AQ AX h => by repeat (first | (obtain ⟨rfl, _⟩ := h; rfl; done) | (obtain ⟨_, h⟩ := h))) (dv_write_again T (cal_write_whole T) (cal_write_text T)) (keep_write_again K)
theorem cal_Listing_finish (T : Tx K mg) : Mal P w K mg base CX0 4 (cListing K) "finish" ["self", "x"] (p_Listing_finish K) :=
  mk_mal T.f_Listing_finish T.m_Listing_finish sc_Listing_finish (fun _ _ _ _ _ _ us hl => match us, hl with | [_, _], _ => rfl) (fun ds W AQ AX h => by repeat (first | (obtain ⟨rfl, _⟩ := h; rfl; done) | (obtain ⟨_, h⟩ := h))) (dv_Listing_finish T (cal_Listing_end T) (cal_write_again T) (cal_write_outcome T)) (keep_Listing_finish K)
theorem cal_write_words (T : Tx K mg) : Cal P w K mg base CX0 3 "write_words" ["words"] (pureSp p_write_words) :=
  mk_cal T.f_write_words T.g_write_words sc_write_words (fun _ _ _ _ _ _ us hl => match us, hl with | [_], _ => rfl) (fun ds W AQ AX h => by repeat (first | (obtain ⟨rfl, _⟩ := h; rfl; done) | (obtain ⟨_, h⟩ := h))) (dv_write_words T (cal_octets_of T) (cal_write_text T)) (keep_write_words)
theorem cal_result_parts (T : Tx K mg) : Cal P w K mg base CX0 4 "result_parts" ["part", "done"] (pureSp p_result_parts) :=
  mk_cal T.f_result_parts T.g_result_parts sc_result_parts (fun _ _ _ _ _ _ us hl => match us, hl with | [_, _], _ => rfl) (fun ds W AQ AX h => by repeat (first | (obtain ⟨rfl, _⟩ := h; rfl; done) | (obtain ⟨_, h⟩ := h))) (dv_result_parts T (cal_write_truth T) (cal_write_words T)) (keep_result_parts)
theorem cal_Listing_next_parts (T : Tx K mg) : Mal P w K mg base CX0 7 (cListing K) "next_parts" ["self"] (p_Listing_next_parts K) :=
  mk_mal T.f_Listing_next_parts T.m_Listing_next_parts sc_Listing_next_parts (fun _ _ _ _ _ _ us hl => match us, hl with | [_], _ => rfl) (fun ds W AQ AX h => by repeat (first | (obtain ⟨rfl, _⟩ := h; rfl; done) | (obtain ⟨_, h⟩ := h))) (dv_Listing_next_parts T (cal_Listing_proceed T) (cal_result_parts T)) (keep_Listing_next_parts K)
theorem cal_Listing_skips (T : Tx K mg) : Mal P w K mg base CX0 1 (cListing K) "skips" ["self", "x"] (p_Listing_skips K) :=
  mk_mal T.f_Listing_skips T.m_Listing_skips sc_Listing_skips (fun _ _ _ _ _ _ us hl => match us, hl with | [_, _], _ => rfl) (fun ds W AQ AX h => by repeat (first | (obtain ⟨rfl, _⟩ := h; rfl; done) | (obtain ⟨_, h⟩ := h))) (dv_Listing_skips T ) (keep_Listing_skips K)
theorem cal_thrown_parts (T : Tx K mg) : Cal P w K mg base CX0 4 "thrown_parts" ["x"] (pureSp (p_thrown_parts (cValue K))) :=
  mk_cal T.f_thrown_parts T.g_thrown_parts sc_thrown_parts (fun _ _ _ _ _ _ us hl => match us, hl with | [_], _ => rfl) (fun ds W AQ AX h => by repeat (first | (obtain ⟨rfl, _⟩ := h; rfl; done) | (obtain ⟨_, h⟩ := h))) (dv_thrown_parts T (cal_write_again T) (cal_write_words T)) (keep_thrown_parts K)
theorem cal_Listing_throw_parts (T : Tx K mg) : Mal P w K mg base CX0 8 (cListing K) "throw_parts" ["self", "x"] (p_Listing_throw_parts K) :=
  mk_mal T.f_Listing_throw_parts T.m_Listing_throw_parts sc_Listing_throw_parts (fun _ _ _ _ _ _ us hl => match us, hl with | [_, _], _ => rfl) (fun ds W AQ AX h => by repeat (first | (obtain ⟨rfl, _⟩ := h; rfl; done) | (obtain ⟨_, h⟩ := h))) (dv_Listing_throw_parts T (cal_Listing_skips T) (cal_Listing_next_parts T) (cal_Listing_end T) (cal_thrown_parts T)) (keep_Listing_throw_parts K)
theorem cal_Listing_throw_in (T : Tx K mg) : Mal P w K mg base CX0 9 (cListing K) "throw_in" ["self", "x"] (p_Listing_throw_in K) :=
  mk_mal T.f_Listing_throw_in T.m_Listing_throw_in sc_Listing_throw_in (fun _ _ _ _ _ _ us hl => match us, hl with | [_, _], _ => rfl) (fun ds W AQ AX h => by repeat (first | (obtain ⟨rfl, _⟩ := h; rfl; done) | (obtain ⟨_, h⟩ := h))) (dv_Listing_throw_in T (cal_Listing_throw_parts T) (cal_write_list T)) (keep_Listing_throw_in K)
theorem cal_Listing_return_parts (T : Tx K mg) : Mal P w K mg base CX0 5 (cListing K) "return_parts" ["self", "x"] (p_Listing_return_parts K) :=
  mk_mal T.f_Listing_return_parts T.m_Listing_return_parts sc_Listing_return_parts (fun _ _ _ _ _ _ us hl => match us, hl with | [_, _], _ => rfl) (fun ds W AQ AX h => by repeat (first | (obtain ⟨rfl, _⟩ := h; rfl; done) | (obtain ⟨_, h⟩ := h))) (dv_Listing_return_parts T (cal_Listing_end T) (cal_write_again T) (cal_result_parts T)) (keep_Listing_return_parts K)
theorem cal_Listing_request_parts (T : Tx K mg) : Mal P w K mg base CX0 9 (cListing K) "request_parts" ["self", "sign", "x"] (p_Listing_request_parts K) :=
  mk_mal T.f_Listing_request_parts T.m_Listing_request_parts sc_Listing_request_parts (fun _ _ _ _ _ _ us hl => match us, hl with | [_, _, _], _ => rfl) (fun ds W AQ AX h => by repeat (first | (obtain ⟨rfl, _⟩ := h; rfl; done) | (obtain ⟨_, h⟩ := h))) (dv_Listing_request_parts T (cal_Listing_throw_parts T) (cal_Listing_return_parts T) (cal_Listing_next_parts T)) (keep_Listing_request_parts K)
theorem cal_Listing_together (T : Tx K mg) : Mal P w K mg base CX0 10 (cListing K) "together" ["self", "requests", "x"] (p_Listing_together K) :=
  mk_mal T.f_Listing_together T.m_Listing_together sc_Listing_together (fun _ _ _ _ _ _ us hl => match us, hl with | [_, _, _], _ => rfl) (fun ds W AQ AX h => by repeat (first | (obtain ⟨rfl, _⟩ := h; rfl; done) | (obtain ⟨_, h⟩ := h))) (dv_Listing_together T (cal_write_whole T) (cal_Listing_request_parts T) (cal_write_list T)) (keep_Listing_together K)
theorem cal_answer_listing (T : Tx K mg) : Cal P w K mg base CX0 11 "answer_listing" ["door", "listing", "arguments"] ( (p_answer_listing K)) :=
  mk_cal T.f_answer_listing T.g_answer_listing sc_answer_listing (fun _ _ _ _ _ _ us hl => match us, hl with | [_, _, _], _ => rfl) (fun ds W AQ AX h => by repeat (first | (obtain ⟨rfl, _⟩ := h; rfl; done) | (obtain ⟨_, h⟩ := h))) (dv_answer_listing T (cal_Listing_advance T) (cal_Listing_throw_in T) (cal_Listing_finish T) (cal_Listing_collect T) (cal_Listing_together T) (cal_Listing_dispose T)) (keep_answer_listing K)
theorem cal_first_rewards (T : Tx K mg) : Cal P w K mg base CX0 1 "first_rewards" ["system", "policy", "start"] (pureSp p_first_rewards) :=
  mk_cal T.f_first_rewards T.g_first_rewards sc_first_rewards (fun _ _ _ _ _ _ us hl => match us, hl with | [_, _, _], _ => rfl) (fun ds W AQ AX h => by repeat (first | (obtain ⟨rfl, _⟩ := h; rfl; done) | (obtain ⟨_, h⟩ := h))) (dv_first_rewards T ) (keep_first_rewards)
theorem cal_round_sums (T : Tx K mg) : Cal P w K mg base CX0 2 "round_sums" ["system", "policy"] (pureSp p_round_sums) :=
  mk_cal T.f_round_sums T.g_round_sums sc_round_sums (fun _ _ _ _ _ _ us hl => match us, hl with | [_, _], _ => rfl) (fun ds W AQ AX h => by repeat (first | (obtain ⟨rfl, _⟩ := h; rfl; done) | (obtain ⟨_, h⟩ := h))) (dv_round_sums T (cal_first_rewards T)) (keep_round_sums)
theorem cal_average_rewards (T : Tx K mg) : Cal P w K mg base CX0 3 "average_rewards" ["system", "policy"] (pureSp p_average_rewards) :=
  mk_cal T.f_average_rewards T.g_average_rewards sc_average_rewards (fun _ _ _ _ _ _ us hl => match us, hl with | [_, _], _ => rfl) (fun ds W AQ AX h => by repeat (first | (obtain ⟨rfl, _⟩ := h; rfl; done) | (obtain ⟨_, h⟩ := h))) (dv_average_rewards T (cal_round_sums T) (cal_reduced T)) (keep_average_rewards)
theorem cal_are_letters (T : Tx K mg) : Cal P w K mg base CX0 1 "are_letters" ["value"] (pureSp (p_are_letters (cValue K))) :=
  mk_cal T.f_are_letters T.g_are_letters sc_are_letters (fun _ _ _ _ _ _ us hl => match us, hl with | [_], _ => rfl) (fun ds W AQ AX h => by repeat (first | (obtain ⟨rfl, _⟩ := h; rfl; done) | (obtain ⟨_, h⟩ := h))) (dv_are_letters T ) (keep_are_letters K)
theorem cal_letters_of (T : Tx K mg) : Cal P w K mg base CX0 1 "letters_of" ["value"] (pureSp (p_letters_of (cValue K))) :=
  mk_cal T.f_letters_of T.g_letters_of sc_letters_of (fun _ _ _ _ _ _ us hl => match us, hl with | [_], _ => rfl) (fun ds W AQ AX h => by repeat (first | (obtain ⟨rfl, _⟩ := h; rfl; done) | (obtain ⟨_, h⟩ := h))) (dv_letters_of T ) (keep_letters_of K)
theorem cal_policy_of (T : Tx K mg) : Cal P w K mg base (L2N.CX P w) 2 "policy_of" ["value", "many"] (pureX (p_policy_of K)) :=
  mk_calX T.f_policy_of T.g_policy_of sc_policy_of (fun _ _ _ _ _ _ us hl => match us, hl with | [_, _], _ => rfl) (fun ds W AQ AX h => by repeat (first | (obtain ⟨rfl, _⟩ := h; rfl; done) | (obtain ⟨_, h⟩ := h))) (dv_policy_of T (cal_are_letters T) (cal_letters_of T)) (keep_policy_of K)
theorem cal_is_pair (T : Tx K mg) : Cal P w K mg base CX0 1 "is_pair" ["value"] (pureSp (p_is_pair (cValue K))) :=
  mk_cal T.f_is_pair T.g_is_pair sc_is_pair (fun _ _ _ _ _ _ us hl => match us, hl with | [_], _ => rfl) (fun ds W AQ AX h => by repeat (first | (obtain ⟨rfl, _⟩ := h; rfl; done) | (obtain ⟨_, h⟩ := h))) (dv_is_pair T ) (keep_is_pair K)
theorem cal_is_between (T : Tx K mg) : Cal P w K mg base CX0 1 "is_between" ["value", "least", "most"] (pureSp (p_is_between (cValue K))) :=
  mk_cal T.f_is_between T.g_is_between sc_is_between (fun _ _ _ _ _ _ us hl => match us, hl with | [_, _, _], _ => rfl) (fun ds W AQ AX h => by repeat (first | (obtain ⟨rfl, _⟩ := h; rfl; done) | (obtain ⟨_, h⟩ := h))) (dv_is_between T ) (keep_is_between K)
theorem cal_is_transition (T : Tx K mg) : Cal P w K mg base CX0 2 "is_transition" ["value", "many"] (pureSp (p_is_transition (cValue K))) :=
  mk_cal T.f_is_transition T.g_is_transition sc_is_transition (fun _ _ _ _ _ _ us hl => match us, hl with | [_, _], _ => rfl) (fun ds W AQ AX h => by repeat (first | (obtain ⟨rfl, _⟩ := h; rfl; done) | (obtain ⟨_, h⟩ := h))) (dv_is_transition T (cal_is_pair T) (cal_is_between T)) (keep_is_transition K)
theorem cal_is_state (T : Tx K mg) : Cal P w K mg base CX0 3 "is_state" ["value", "many"] (pureSp (p_is_state (cValue K))) :=
  mk_cal T.f_is_state T.g_is_state sc_is_state (fun _ _ _ _ _ _ us hl => match us, hl with | [_, _], _ => rfl) (fun ds W AQ AX h => by repeat (first | (obtain ⟨rfl, _⟩ := h; rfl; done) | (obtain ⟨_, h⟩ := h))) (dv_is_state T (cal_is_pair T) (cal_is_transition T)) (keep_is_state K)
theorem cal_transition_of (T : Tx K mg) : Cal P w K mg base CX0 1 "transition_of" ["value"] (pureSp (p_transition_of (cValue K))) :=
  mk_cal T.f_transition_of T.g_transition_of sc_transition_of (fun _ _ _ _ _ _ us hl => match us, hl with | [_], _ => rfl) (fun ds W AQ AX h => by repeat (first | (obtain ⟨rfl, _⟩ := h; rfl; done) | (obtain ⟨_, h⟩ := h))) (dv_transition_of T ) (keep_transition_of K)
theorem cal_system_of (T : Tx K mg) : Cal P w K mg base (L2N.CX P w) 4 "system_of" ["value"] (pureX (p_system_of K)) :=
  mk_calX T.f_system_of T.g_system_of sc_system_of (fun _ _ _ _ _ _ us hl => match us, hl with | [_], _ => rfl) (fun ds W AQ AX h => by repeat (first | (obtain ⟨rfl, _⟩ := h; rfl; done) | (obtain ⟨_, h⟩ := h))) (dv_system_of T (cal_is_state T) (cal_transition_of T)) (keep_system_of K)
theorem cal_write_fractions (T : Tx K mg) : Cal P w K mg base CX0 4 "write_fractions" ["fractions"] (pureSp p_write_fractions) :=
  mk_cal T.f_write_fractions T.g_write_fractions sc_write_fractions (fun _ _ _ _ _ _ us hl => match us, hl with | [_], _ => rfl) (fun ds W AQ AX h => by repeat (first | (obtain ⟨rfl, _⟩ := h; rfl; done) | (obtain ⟨_, h⟩ := h))) (dv_write_fractions T (cal_write_fraction T) (cal_write_list T)) (keep_write_fractions)
theorem cal_answer_averages (T : Tx K mg) : Cal P w K mg base (L2N.CX P w) 5 "answer_averages" ["arguments"] (pureX (p_answer_averages K)) :=
  mk_calX T.f_answer_averages T.g_answer_averages sc_answer_averages (fun _ _ _ _ _ _ us hl => match us, hl with | [_], _ => rfl) (fun ds W AQ AX h => by repeat (first | (obtain ⟨rfl, _⟩ := h; rfl; done) | (obtain ⟨_, h⟩ := h))) (dv_answer_averages T (cal_system_of T) (cal_policy_of T) (cal_average_rewards T) (cal_write_fractions T)) (keep_answer_averages K)
theorem cal_is_discount (T : Tx K mg) : Cal P w K mg base CX0 2 "is_discount" ["value"] (pureSp (p_is_discount (cValue K))) :=
  mk_cal T.f_is_discount T.g_is_discount sc_is_discount (fun _ _ _ _ _ _ us hl => match us, hl with | [_], _ => rfl) (fun ds W AQ AX h => by repeat (first | (obtain ⟨rfl, _⟩ := h; rfl; done) | (obtain ⟨_, h⟩ := h))) (dv_is_discount T (cal_is_pair T) (cal_is_between T) (cal_common_divisor T)) (keep_is_discount K)
theorem cal_discount_of (T : Tx K mg) : Cal P w K mg base (L2N.CX P w) 3 "discount_of" ["value"] (pureX (p_discount_of K)) :=
  mk_calX T.f_discount_of T.g_discount_of sc_discount_of (fun _ _ _ _ _ _ us hl => match us, hl with | [_], _ => rfl) (fun ds W AQ AX h => by repeat (first | (obtain ⟨rfl, _⟩ := h; rfl; done) | (obtain ⟨_, h⟩ := h))) (dv_discount_of T (cal_is_discount T)) (keep_discount_of K)
theorem cal_all_policies (T : Tx K mg) : Cal P w K mg base CX0 1 "all_policies" ["many"] (pureSp p_all_policies) :=
  mk_cal T.f_all_policies T.g_all_policies sc_all_policies (fun _ _ _ _ _ _ us hl => match us, hl with | [_], _ => rfl) (fun ds W AQ AX h => by repeat (first | (obtain ⟨rfl, _⟩ := h; rfl; done) | (obtain ⟨_, h⟩ := h))) (dv_all_policies T ) (keep_all_policies)
theorem cal_at_fraction (T : Tx K mg) : Cal P w K mg base CX0 1 "at_fraction" ["polynomial", "top", "bottom"] (pureSp p_at_fraction) :=
  mk_cal T.f_at_fraction T.g_at_fraction sc_at_fraction (fun _ _ _ _ _ _ us hl => match us, hl with | [_, _, _], _ => rfl) (fun ds W AQ AX h => by repeat (first | (obtain ⟨rfl, _⟩ := h; rfl; done) | (obtain ⟨_, h⟩ := h))) (dv_at_fraction T ) (keep_at_fraction)
theorem cal_is_less (T : Tx K mg) : Cal P w K mg base CX0 1 "is_less" ["one", "other"] (pureSp p_is_less) :=
  mk_cal T.f_is_less T.g_is_less sc_is_less (fun _ _ _ _ _ _ us hl => match us, hl with | [_, _], _ => rfl) (fun ds W AQ AX h => by repeat (first | (obtain ⟨rfl, _⟩ := h; rfl; done) | (obtain ⟨_, h⟩ := h))) (dv_is_less T ) (keep_is_less)
theorem cal_is_best (T : Tx K mg) : Cal P w K mg base CX0 2 "is_best" ["ranks", "rivals"] (pureSp p_is_best) :=
  mk_cal T.f_is_best T.g_is_best sc_is_best (fun _ _ _ _ _ _ us hl => match us, hl with | [_, _], _ => rfl) (fun ds W AQ AX h => by repeat (first | (obtain ⟨rfl, _⟩ := h; rfl; done) | (obtain ⟨_, h⟩ := h))) (dv_is_best T (cal_is_less T)) (keep_is_best)
theorem cal_first_best (T : Tx K mg) : Cal P w K mg base CX0 3 "first_best" ["policies", "rivals"] (pureSp p_first_best) :=
  mk_cal T.f_first_best T.g_first_best sc_first_best (fun _ _ _ _ _ _ us hl => match us, hl with | [_, _], _ => rfl) (fun ds W AQ AX h => by repeat (first | (obtain ⟨rfl, _⟩ := h; rfl; done) | (obtain ⟨_, h⟩ := h))) (dv_first_best T (cal_is_best T)) (keep_first_best)
theorem cal_value_polynomial (T : Tx K mg) : Cal P w K mg base CX0 2 "value_polynomial" ["system", "policy", "start"] (pureSp p_value_polynomial) :=
  mk_cal T.f_value_polynomial T.g_value_polynomial sc_value_polynomial (fun _ _ _ _ _ _ us hl => match us, hl with | [_, _, _], _ => rfl) (fun ds W AQ AX h => by repeat (first | (obtain ⟨rfl, _⟩ := h; rfl; done) | (obtain ⟨_, h⟩ := h))) (dv_value_polynomial T (cal_first_rewards T)) (keep_value_polynomial)
theorem cal_value_polynomials (T : Tx K mg) : Cal P w K mg base CX0 3 "value_polynomials" ["system", "policy"] (pureSp p_value_polynomials) :=
  mk_cal T.f_value_polynomials T.g_value_polynomials sc_value_polynomials (fun _ _ _ _ _ _ us hl => match us, hl with | [_, _], _ => rfl) (fun ds W AQ AX h => by repeat (first | (obtain ⟨rfl, _⟩ := h; rfl; done) | (obtain ⟨_, h⟩ := h))) (dv_value_polynomials T (cal_value_polynomial T)) (keep_value_polynomials)
theorem cal_optimal_policy (T : Tx K mg) : Cal P w K mg base CX0 4 "optimal_policy" ["system", "discount"] (pureSp p_optimal_policy) :=
  mk_cal T.f_optimal_policy T.g_optimal_policy sc_optimal_policy (fun _ _ _ _ _ _ us hl => match us, hl with | [_, _], _ => rfl) (fun ds W AQ AX h => by repeat (first | (obtain ⟨rfl, _⟩ := h; rfl; done) | (obtain ⟨_, h⟩ := h))) (dv_optimal_policy T (cal_all_policies T) (cal_value_polynomials T) (cal_at_fraction T) (cal_first_best T)) (keep_optimal_policy)
theorem cal_policy_values (T : Tx K mg) : Cal P w K mg base CX0 4 "policy_values" ["system", "discount", "policy"] (pureSp p_policy_values) :=
  mk_cal T.f_policy_values T.g_policy_values sc_policy_values (fun _ _ _ _ _ _ us hl => match us, hl with | [_, _, _], _ => rfl) (fun ds W AQ AX h => by repeat (first | (obtain ⟨rfl, _⟩ := h; rfl; done) | (obtain ⟨_, h⟩ := h))) (dv_policy_values T (cal_value_polynomials T) (cal_at_fraction T) (cal_reduced T)) (keep_policy_values)
theorem cal_answer_optimal (T : Tx K mg) : Cal P w K mg base (L2N.CX P w) 5 "answer_optimal" ["arguments"] (pureX (p_answer_optimal K)) :=
  mk_calX T.f_answer_optimal T.g_answer_optimal sc_answer_optimal (fun _ _ _ _ _ _ us hl => match us, hl with | [_], _ => rfl) (fun ds W AQ AX h => by repeat (first | (obtain ⟨rfl, _⟩ := h; rfl; done) | (obtain ⟨_, h⟩ := h))) (dv_answer_optimal T (cal_system_of T) (cal_discount_of T) (cal_optimal_policy T) (cal_policy_values T) (cal_write_fractions T) (cal_write_word T) (cal_write_record T)) (keep_answer_optimal K)
theorem cal_preserves (T : Tx K mg) : Cal P w K mg base CX0 4 "preserves" ["system", "discount", "best", "state", "letter"] (pureSp p_preserves) :=
  mk_cal T.f_preserves T.g_preserves sc_preserves (fun _ _ _ _ _ _ us hl => match us, hl with | [_, _, _, _, _], _ => rfl) (fun ds W AQ AX h => by repeat (first | (obtain ⟨rfl, _⟩ := h; rfl; done) | (obtain ⟨_, h⟩ := h))) (dv_preserves T (cal_discounted T)) (keep_preserves)
theorem cal_is_optimal (T : Tx K mg) : Cal P w K mg base CX0 5 "is_optimal" ["system", "discount", "best", "word"] (pureSp p_is_optimal) :=
  mk_cal T.f_is_optimal T.g_is_optimal sc_is_optimal (fun _ _ _ _ _ _ us hl => match us, hl with | [_, _, _, _], _ => rfl) (fun ds W AQ AX h => by repeat (first | (obtain ⟨rfl, _⟩ := h; rfl; done) | (obtain ⟨_, h⟩ := h))) (dv_is_optimal T (cal_preserves T)) (keep_is_optimal)
theorem cal_optimal_values (T : Tx K mg) : Cal P w K mg base CX0 5 "optimal_values" ["system", "discount"] (pureSp p_optimal_values) :=
  mk_cal T.f_optimal_values T.g_optimal_values sc_optimal_values (fun _ _ _ _ _ _ us hl => match us, hl with | [_, _], _ => rfl) (fun ds W AQ AX h => by repeat (first | (obtain ⟨rfl, _⟩ := h; rfl; done) | (obtain ⟨_, h⟩ := h))) (dv_optimal_values T (cal_optimal_policy T) (cal_policy_values T)) (keep_optimal_values)
theorem cal_word_of (T : Tx K mg) : Cal P w K mg base (L2N.CX P w) 2 "word_of" ["value"] (pureX (p_word_of K)) :=
  mk_calX T.f_word_of T.g_word_of sc_word_of (fun _ _ _ _ _ _ us hl => match us, hl with | [_], _ => rfl) (fun ds W AQ AX h => by repeat (first | (obtain ⟨rfl, _⟩ := h; rfl; done) | (obtain ⟨_, h⟩ := h))) (dv_word_of T (cal_are_letters T) (cal_letters_of T)) (keep_word_of K)
theorem cal_answer_prefix (T : Tx K mg) : Cal P w K mg base (L2N.CX P w) 6 "answer_prefix" ["arguments"] (pureX (p_answer_prefix K)) :=
  mk_calX T.f_answer_prefix T.g_answer_prefix sc_answer_prefix (fun _ _ _ _ _ _ us hl => match us, hl with | [_], _ => rfl) (fun ds W AQ AX h => by repeat (first | (obtain ⟨rfl, _⟩ := h; rfl; done) | (obtain ⟨_, h⟩ := h))) (dv_answer_prefix T (cal_system_of T) (cal_discount_of T) (cal_word_of T) (cal_optimal_values T) (cal_is_optimal T) (cal_write_truth T)) (keep_answer_prefix K)
theorem cal_end_of (T : Tx K mg) : Cal P w K mg base CX0 1 "end_of" ["system", "word"] (pureSp p_end_of) :=
  mk_cal T.f_end_of T.g_end_of sc_end_of (fun _ _ _ _ _ _ us hl => match us, hl with | [_, _], _ => rfl) (fun ds W AQ AX h => by repeat (first | (obtain ⟨rfl, _⟩ := h; rfl; done) | (obtain ⟨_, h⟩ := h))) (dv_end_of T ) (keep_end_of)
theorem cal_answer_reward (T : Tx K mg) : Cal P w K mg base (L2N.CX P w) 5 "answer_reward" ["arguments"] (pureX (p_answer_reward K)) :=
  mk_calX T.f_answer_reward T.g_answer_reward sc_answer_reward (fun _ _ _ _ _ _ us hl => match us, hl with | [_], _ => rfl) (fun ds W AQ AX h => by repeat (first | (obtain ⟨rfl, _⟩ := h; rfl; done) | (obtain ⟨_, h⟩ := h))) (dv_answer_reward T (cal_system_of T) (cal_discount_of T) (cal_word_of T) (cal_word_reward T) (cal_write_fraction T) (cal_end_of T) (cal_write_whole T) (cal_write_record T)) (keep_answer_reward K)
theorem cal_answer_values (T : Tx K mg) : Cal P w K mg base (L2N.CX P w) 5 "answer_values" ["arguments"] (pureX (p_answer_values K)) :=
  mk_calX T.f_answer_values T.g_answer_values sc_answer_values (fun _ _ _ _ _ _ us hl => match us, hl with | [_], _ => rfl) (fun ds W AQ AX h => by repeat (first | (obtain ⟨rfl, _⟩ := h; rfl; done) | (obtain ⟨_, h⟩ := h))) (dv_answer_values T (cal_system_of T) (cal_discount_of T) (cal_policy_of T) (cal_policy_values T) (cal_write_fractions T)) (keep_answer_values K)
theorem cal_one_more (T : Tx K mg) : Cal P w K mg base CX0 1 "one_more" ["shifted", "coefficient"] (pureSp p_one_more) :=
  mk_cal T.f_one_more T.g_one_more sc_one_more (fun _ _ _ _ _ _ us hl => match us, hl with | [_, _], _ => rfl) (fun ds W AQ AX h => by repeat (first | (obtain ⟨rfl, _⟩ := h; rfl; done) | (obtain ⟨_, h⟩ := h))) (dv_one_more T ) (keep_one_more)
theorem cal_about_one (T : Tx K mg) : Cal P w K mg base CX0 2 "about_one" ["polynomial"] (pureSp p_about_one) :=
  mk_cal T.f_about_one T.g_about_one sc_about_one (fun _ _ _ _ _ _ us hl => match us, hl with | [_], _ => rfl) (fun ds W AQ AX h => by repeat (first | (obtain ⟨rfl, _⟩ := h; rfl; done) | (obtain ⟨_, h⟩ := h))) (dv_about_one T (cal_one_more T)) (keep_about_one)
theorem cal_blackwell_policy (T : Tx K mg) : Cal P w K mg base CX0 4 "blackwell_policy" ["system"] (pureSp p_blackwell_policy) :=
  mk_cal T.f_blackwell_policy T.g_blackwell_policy sc_blackwell_policy (fun _ _ _ _ _ _ us hl => match us, hl with | [_], _ => rfl) (fun ds W AQ AX h => by repeat (first | (obtain ⟨rfl, _⟩ := h; rfl; done) | (obtain ⟨_, h⟩ := h))) (dv_blackwell_policy T (cal_all_policies T) (cal_value_polynomials T) (cal_about_one T) (cal_first_best T)) (keep_blackwell_policy)
theorem cal_most_average_rewards (T : Tx K mg) : Cal P w K mg base CX0 3 "most_average_rewards" ["system"] (pureSp p_most_average_rewards) :=
  mk_cal T.f_most_average_rewards T.g_most_average_rewards sc_most_average_rewards (fun _ _ _ _ _ _ us hl => match us, hl with | [_], _ => rfl) (fun ds W AQ AX h => by repeat (first | (obtain ⟨rfl, _⟩ := h; rfl; done) | (obtain ⟨_, h⟩ := h))) (dv_most_average_rewards T (cal_all_policies T) (cal_round_sums T) (cal_reduced T)) (keep_most_average_rewards)
theorem cal_myopic_policy (T : Tx K mg) : Cal P w K mg base CX0 4 "myopic_policy" ["system"] (pureSp p_myopic_policy) :=
  mk_cal T.f_myopic_policy T.g_myopic_policy sc_myopic_policy (fun _ _ _ _ _ _ us hl => match us, hl with | [_], _ => rfl) (fun ds W AQ AX h => by repeat (first | (obtain ⟨rfl, _⟩ := h; rfl; done) | (obtain ⟨_, h⟩ := h))) (dv_myopic_policy T (cal_all_policies T) (cal_value_polynomials T) (cal_first_best T)) (keep_myopic_policy)
theorem cal_answer_plain (T : Tx K mg) : Cal P w K mg base (L2N.CX P w) 7 "answer_plain" ["door", "arguments"] (pureX (p_answer_plain K)) :=
  mk_calX T.f_answer_plain T.g_answer_plain sc_answer_plain (fun _ _ _ _ _ _ us hl => match us, hl with | [_, _], _ => rfl) (fun ds W AQ AX h => by repeat (first | (obtain ⟨rfl, _⟩ := h; rfl; done) | (obtain ⟨_, h⟩ := h))) (dv_answer_plain T (cal_answer_reward T) (cal_answer_values T) (cal_answer_optimal T) (cal_answer_prefix T) (cal_system_of T) (cal_blackwell_policy T) (cal_write_word T) (cal_myopic_policy T) (cal_answer_averages T) (cal_most_average_rewards T) (cal_write_fractions T)) (keep_answer_plain K)
theorem cal_Walk_tell (T : Tx K mg) : Mal P w K mg base CX0 5 (cWalk K) "tell" ["self"] (p_Walk_tell K) :=
  mk_mal T.f_Walk_tell T.m_Walk_tell sc_Walk_tell (fun _ _ _ _ _ _ us hl => match us, hl with | [_], _ => rfl) (fun ds W AQ AX h => by repeat (first | (obtain ⟨rfl, _⟩ := h; rfl; done) | (obtain ⟨_, h⟩ := h))) (dv_Walk_tell T (cal_end_of T) (cal_word_reward T) (cal_rewards_of T) (cal_discounted T) (cal_write_fraction T) (cal_write_whole T) (cal_write_word T) (cal_write_record T)) (keep_Walk_tell K)
theorem cal_is_letter (T : Tx K mg) : Cal P w K mg base CX0 1 "is_letter" ["x"] (pureSp (p_is_letter (cValue K))) :=
  mk_cal T.f_is_letter T.g_is_letter sc_is_letter (fun _ _ _ _ _ _ us hl => match us, hl with | [_], _ => rfl) (fun ds W AQ AX h => by repeat (first | (obtain ⟨rfl, _⟩ := h; rfl; done) | (obtain ⟨_, h⟩ := h))) (dv_is_letter T ) (keep_is_letter K)
theorem cal_Walk_advance (T : Tx K mg) : Mal P w K mg base CX0 6 (cWalk K) "advance" ["self", "x"] (p_Walk_advance K) :=
  mk_mal T.f_Walk_advance T.m_Walk_advance sc_Walk_advance (fun _ _ _ _ _ _ us hl => match us, hl with | [_, _], _ => rfl) (fun ds W AQ AX h => by repeat (first | (obtain ⟨rfl, _⟩ := h; rfl; done) | (obtain ⟨_, h⟩ := h))) (dv_Walk_advance T (cal_write_outcome T) (cal_Walk_tell T) (cal_is_letter T) (cal_write_words T)) (keep_Walk_advance K)
theorem cal_Walk_dispose (T : Tx K mg) : Mal P w K mg base CX0 1 (cWalk K) "dispose" ["self"] (p_Walk_dispose K) :=
  mk_mal T.f_Walk_dispose T.m_Walk_dispose sc_Walk_dispose (fun _ _ _ _ _ _ us hl => match us, hl with | [_], _ => rfl) (fun ds W AQ AX h => by repeat (first | (obtain ⟨rfl, _⟩ := h; rfl; done) | (obtain ⟨_, h⟩ := h))) (dv_Walk_dispose T ) (keep_Walk_dispose K)
theorem cal_Walk_finish (T : Tx K mg) : Mal P w K mg base CX0 4 (cWalk K) "finish" ["self", "x"] (p_Walk_finish K) :=
  mk_mal T.f_Walk_finish T.m_Walk_finish sc_Walk_finish (fun _ _ _ _ _ _ us hl => match us, hl with | [_, _], _ => rfl) (fun ds W AQ AX h => by repeat (first | (obtain ⟨rfl, _⟩ := h; rfl; done) | (obtain ⟨_, h⟩ := h))) (dv_Walk_finish T (cal_write_again T) (cal_write_outcome T)) (keep_Walk_finish K)
theorem cal_is_undo (T : Tx K mg) : Cal P w K mg base CX0 2 "is_undo" ["x"] (pureSp (p_is_undo (cValue K))) :=
  mk_cal T.f_is_undo T.g_is_undo sc_is_undo (fun _ _ _ _ _ _ us hl => match us, hl with | [_], _ => rfl) (fun ds W AQ AX h => by repeat (first | (obtain ⟨rfl, _⟩ := h; rfl; done) | (obtain ⟨_, h⟩ := h))) (dv_is_undo T (cal_octets_of T)) (keep_is_undo K)
theorem cal_Walk_throw_in (T : Tx K mg) : Mal P w K mg base CX0 6 (cWalk K) "throw_in" ["self", "x"] (p_Walk_throw_in K) :=
  mk_mal T.f_Walk_throw_in T.m_Walk_throw_in sc_Walk_throw_in (fun _ _ _ _ _ _ us hl => match us, hl with | [_, _], _ => rfl) (fun ds W AQ AX h => by repeat (first | (obtain ⟨rfl, _⟩ := h; rfl; done) | (obtain ⟨_, h⟩ := h))) (dv_Walk_throw_in T (cal_is_undo T) (cal_Walk_tell T) (cal_result_parts T) (cal_write_list T) (cal_thrown_parts T)) (keep_Walk_throw_in K)
theorem cal_answer_walk (T : Tx K mg) : Cal P w K mg base CX0 7 "answer_walk" ["door", "walk", "x"] ( (p_answer_walk K)) :=
  mk_cal T.f_answer_walk T.g_answer_walk sc_answer_walk (fun _ _ _ _ _ _ us hl => match us, hl with | [_, _, _], _ => rfl) (fun ds W AQ AX h => by repeat (first | (obtain ⟨rfl, _⟩ := h; rfl; done) | (obtain ⟨_, h⟩ := h))) (dv_answer_walk T (cal_Walk_advance T) (cal_Walk_throw_in T) (cal_Walk_finish T) (cal_Walk_dispose T)) (keep_answer_walk K)
theorem cal_Listing_init (T : Tx K mg) : Ial P w K mg base CX0 1 (cListing K) ["self", "system", "discount", "words"] (p_Listing_init K) :=
  mk_ial T.f_Listing_init T.mk_Listing sc_Listing_init (fun _ _ _ _ _ _ us hl => match us, hl with | [_, _, _, _], _ => rfl) (fun ds W AQ AX h => by repeat (first | (obtain ⟨rfl, _⟩ := h; rfl; done) | (obtain ⟨_, h⟩ := h))) (dv_Listing_init T ) (keep_Listing_init K)
theorem cal_length_of (T : Tx K mg) : Cal P w K mg base (L2N.CX P w) 2 "length_of" ["value"] (pureX (p_length_of K)) :=
  mk_calX T.f_length_of T.g_length_of sc_length_of (fun _ _ _ _ _ _ us hl => match us, hl with | [_], _ => rfl) (fun ds W AQ AX h => by repeat (first | (obtain ⟨rfl, _⟩ := h; rfl; done) | (obtain ⟨_, h⟩ := h))) (dv_length_of T (cal_is_between T)) (keep_length_of K)
theorem cal_longer_words (T : Tx K mg) : Cal P w K mg base CX0 5 "longer_words" ["system", "discount", "best", "words"] (pureSp p_longer_words) :=
  mk_cal T.f_longer_words T.g_longer_words sc_longer_words (fun _ _ _ _ _ _ us hl => match us, hl with | [_, _, _, _], _ => rfl) (fun ds W AQ AX h => by repeat (first | (obtain ⟨rfl, _⟩ := h; rfl; done) | (obtain ⟨_, h⟩ := h))) (dv_longer_words T (cal_end_of T) (cal_preserves T)) (keep_longer_words)
theorem cal_optimal_words (T : Tx K mg) : Cal P w K mg base CX0 6 "optimal_words" ["system", "discount", "best", "most"] (pureSp p_optimal_words) :=
  mk_cal T.f_optimal_words T.g_optimal_words sc_optimal_words (fun _ _ _ _ _ _ us hl => match us, hl with | [_, _, _, _], _ => rfl) (fun ds W AQ AX h => by repeat (first | (obtain ⟨rfl, _⟩ := h; rfl; done) | (obtain ⟨_, h⟩ := h))) (dv_optimal_words T (cal_longer_words T)) (keep_optimal_words)
theorem cal_new_listing (T : Tx K mg) : Cal P w K mg base (L2N.CX P w) 7 "new_listing" ["arguments"] ( (p_new_listing K)) :=
  mk_calX T.f_new_listing T.g_new_listing sc_new_listing (fun _ _ _ _ _ _ us hl => match us, hl with | [_], _ => rfl) (fun ds W AQ AX h => by repeat (first | (obtain ⟨rfl, _⟩ := h; rfl; done) | (obtain ⟨_, h⟩ := h))) (dv_new_listing T (cal_system_of T) (cal_discount_of T) (cal_length_of T) (cal_optimal_values T) (cal_optimal_words T) (cal_Listing_init T)) (keep_new_listing K)
theorem cal_Walk_init (T : Tx K mg) : Ial P w K mg base CX0 1 (cWalk K) ["self", "system", "discount", "best"] (p_Walk_init K) :=
  mk_ial T.f_Walk_init T.mk_Walk sc_Walk_init (fun _ _ _ _ _ _ us hl => match us, hl with | [_, _, _, _], _ => rfl) (fun ds W AQ AX h => by repeat (first | (obtain ⟨rfl, _⟩ := h; rfl; done) | (obtain ⟨_, h⟩ := h))) (dv_Walk_init T ) (keep_Walk_init K)
theorem cal_new_walk (T : Tx K mg) : Cal P w K mg base (L2N.CX P w) 6 "new_walk" ["arguments"] ( (p_new_walk K)) :=
  mk_calX T.f_new_walk T.g_new_walk sc_new_walk (fun _ _ _ _ _ _ us hl => match us, hl with | [_], _ => rfl) (fun ds W AQ AX h => by repeat (first | (obtain ⟨rfl, _⟩ := h; rfl; done) | (obtain ⟨_, h⟩ := h))) (dv_new_walk T (cal_system_of T) (cal_discount_of T) (cal_Walk_init T) (cal_optimal_values T)) (keep_new_walk K)
theorem cal_Library_returned (T : Tx K mg) : Mal P w K mg base (L2N.CX P w) 12 (cLibrary K) "returned" ["self", "door", "arguments"] (p_Library_returned K) :=
  mk_malX T.f_Library_returned T.m_Library_returned sc_Library_returned (fun _ _ _ _ _ _ us hl => match us, hl with | [_, _, _], _ => rfl) (fun ds W AQ AX h => by repeat (first | (obtain ⟨rfl, _⟩ := h; rfl; done) | (obtain ⟨_, h⟩ := h))) (dv_Library_returned T (cal_answer_plain T) (cal_new_walk T) (cal_answer_walk T) (cal_new_listing T) (cal_answer_listing T)) (keep_Library_returned K)
theorem cal_Value_init (T : Tx K mg) : Ial P w K mg base CX0 1 (cValue K) ["self", "kind", "whole", "octets", "parts"] (p_Value_init K) :=
  mk_ial T.f_Value_init T.mk_Value sc_Value_init (fun _ _ _ _ _ _ us hl => match us, hl with | [_, _, _, _, _], _ => rfl) (fun ds W AQ AX h => by repeat (first | (obtain ⟨rfl, _⟩ := h; rfl; done) | (obtain ⟨_, h⟩ := h))) (dv_Value_init T ) (keep_Value_init K)
theorem cal_read_number (T : Tx K mg) : Cal P w K mg base CX0 1 "read_number" ["octets", "at", "width"] (pureSp p_read_number) :=
  mk_cal T.f_read_number T.g_read_number sc_read_number (fun _ _ _ _ _ _ us hl => match us, hl with | [_, _, _], _ => rfl) (fun ds W AQ AX h => by repeat (first | (obtain ⟨rfl, _⟩ := h; rfl; done) | (obtain ⟨_, h⟩ := h))) (dv_read_number T ) (keep_read_number)
theorem cal_read_whole (T : Tx K mg) : Cal P w K mg base CX0 2 "read_whole" ["octets", "at"] (pureSp p_read_whole) :=
  mk_cal T.f_read_whole T.g_read_whole sc_read_whole (fun _ _ _ _ _ _ us hl => match us, hl with | [_, _], _ => rfl) (fun ds W AQ AX h => by repeat (first | (obtain ⟨rfl, _⟩ := h; rfl; done) | (obtain ⟨_, h⟩ := h))) (dv_read_whole T (cal_read_number T)) (keep_read_whole)
/-- reading: by the depth -/
theorem cal_read_value0 (T : Tx K mg) (k : Nat) : Cal P w K mg base CX0 k "read_value" ["octets", "at"] (pureSp (p_read_value 0 (cValue K))) := by
  obtain ⟨fd, F⟩ := T.f_read_value
  have no : ∀ vs H Q E, toSp K (pureSp (p_read_value 0 (cValue K))) vs H Q E → False := fun vs H Q E ⟨_, _, _, _, _, _, _, h, _⟩ => by
    obtain ⟨_, b, at_, v, r, _, _, _, h, _⟩ := h
    cases h
  exact ⟨_, fd, ⟨fun vs H Q E h => (no vs H Q E h).elim, fun A outer s H args us vs Q E hr e0 hb r h => (no vs H Q E h).elim⟩, T.g_read_value, F.kp, F.bindsN fun _ _ _ _ _ _ us hl => match us, hl with | [_, _], _ => rfl⟩
theorem cal_read (T : Tx K mg) : ∀ d : Nat, Cal P w K mg base CX0 (16 + 2 * d) "read_value" ["octets", "at"] (pureSp (p_read_value d (cValue K)))
  | 0 => cal_read_value0 T _
  | d + 1 => by
    have v := cal_read T d
    have p : Cal P w K mg base CX0 (16 + 2 * d + 1) "read_parts" ["octets", "at", "kind"] (pureSp (p_read_parts d (cValue K))) :=
      mk_cal T.f_read_parts T.g_read_parts sc_read_parts (fun _ _ _ _ _ _ us hl => match us, hl with | [_, _, _], _ => rfl) (fun ds W AQ AX h => by repeat (first | (obtain ⟨rfl, _⟩ := h; rfl; done) | (obtain ⟨_, h⟩ := h))) (dv_read_parts T (Nat.le_refl _) (show 5 ≤ 16 + 2 * d by omega) (cal_read_number T) v (cal_Value_init T)) (keep_read_parts K d)
    exact mk_cal T.f_read_value T.g_read_value sc_read_value (fun _ _ _ _ _ _ us hl => match us, hl with | [_, _], _ => rfl) (fun ds W AQ AX h => by repeat (first | (obtain ⟨rfl, _⟩ := h; rfl; done) | (obtain ⟨_, h⟩ := h))) (dv_read_value T (Nat.le_refl _) (show 5 ≤ 16 + 2 * d + 1 by omega) (cal_read_whole T) (cal_Value_init T) (cal_read_number T) p) (keep_read_value K d)
theorem cal_read_value (T : Tx K mg) : Cal P w K mg base CX0 80 "read_value" ["octets", "at"] (pureSp (p_read_value 32 (cValue K))) := cal_read T 32
theorem cal_read_arguments (T : Tx K mg) : Cal P w K mg base CX0 81 "read_arguments" ["octets"] (pureSp (p_read_arguments (cValue K))) :=
  mk_cal T.f_read_arguments T.g_read_arguments sc_read_arguments (fun _ _ _ _ _ _ us hl => match us, hl with | [_], _ => rfl) (fun ds W AQ AX h => by repeat (first | (obtain ⟨rfl, _⟩ := h; rfl; done) | (obtain ⟨_, h⟩ := h))) (dv_read_arguments T (cal_read_value T) (cal_Value_init T)) (keep_read_arguments K)
theorem cal_write_refusal (T : Tx K mg) : Cal P w K mg base CX0 2 "write_refusal" ["sort", "words"] (pureSp p_write_refusal) :=
  mk_cal T.f_write_refusal T.g_write_refusal sc_write_refusal (fun _ _ _ _ _ _ us hl => match us, hl with | [_, _], _ => rfl) (fun ds W AQ AX h => by repeat (first | (obtain ⟨rfl, _⟩ := h; rfl; done) | (obtain ⟨_, h⟩ := h))) (dv_write_refusal T (cal_write_number T) (cal_octets_of T)) (keep_write_refusal)
theorem cal_Library_answer (T : Tx K mg) : Mal P w K mg base CX0 82 (cLibrary K) "answer" ["self", "request"] (p_Library_answer K) :=
  mk_mal T.f_Library_answer T.m_Library_answer sc_Library_answer (fun _ _ _ _ _ _ us hl => match us, hl with | [_, _], _ => rfl) (fun ds W AQ AX h => by repeat (first | (obtain ⟨rfl, _⟩ := h; rfl; done) | (obtain ⟨_, h⟩ := h))) (dv_Library_answer T (cal_read_number T) (cal_read_arguments T) (cal_Library_returned T) (calh_write_refusal T)) (keep_Library_answer K)
theorem cal_answers (T : Tx K mg) : Cal P w K mg base CX0 83 "answers" ["calls"] (p_answers K) :=
  mk_cal T.f_answers T.g_answers sc_answers (fun _ _ _ _ _ _ us hl => match us, hl with | [_], _ => rfl) (fun ds W AQ AX h => by repeat (first | (obtain ⟨rfl, _⟩ := h; rfl; done) | (obtain ⟨_, h⟩ := h))) (dv_answers T (cal_Library_init T) (cal_Library_answer T)) (keep_answers K)
end
end Dsn
end

section
set_option maxHeartbeats 4000000
/-! # The law: the value of a policy is its polynomial over 1 - s ^ 6 -/
namespace Dsn
open R7284d.Spec (ratOfInt discountedTotal policyValue transientAndCycle statesBy rewardsBy rewardOf successor)
def nx (t : Sys) (f : Pol) (p : Nat) : Nat := successor t p (f.getD p 0)
def rw_ (t : Sys) (f : Pol) (p : Nat) : Int := rewardOf t p (f.getD p 0)
abbrev E (l : List Int) (s : Rat) : Rat := discountedTotal s l
theorem ratI (z : Int) : ratOfInt z = (z : Rat) := by
  rw [ratOfInt, Rat.mkRat_eq_div]
  grind
theorem nx_lt {t : Sys} {f : Pol} (hs : OkS t) (hf : OkP t.length f) {p : Nat} (h : p < t.length) : nx t f p < t.length := by
  obtain ⟨e, c, e1, e2, hc, gd, t0, t1, b0, b1⟩ := sys_at hs hf h
  unfold nx successor
  rw [gd]
  rcases hc with rfl | rfl
  · rw [t0]; exact b0
  · rw [t1]; exact b1
/-- what comes before the cycle, and the cycle -/
def tcOf (r : Nat → Int) (l : List Nat) : List Int × List Int :=
  let j := ((List.range l.length).find? fun j => (l.take j).contains (l.getD j 0)).getD 0
  let i := l.idxOf (l.getD j 0)
  ((l.take i).map r, ((l.take j).drop i).map r)
theorem tac_eq (t : Sys) (f : Pol) (p : Nat) : transientAndCycle t f p = tcOf (rw_ t f) (statesBy t f (t.length + 1) p) := rfl
section
variable (r : Nat → Int) (a b c d : Nat)
theorem tc2 : tcOf r [a, a] = ([], [r a]) := by
  simp [tcOf, List.range, List.range.loop, List.idxOf, List.findIdx, List.findIdx.go]
theorem tc3a : tcOf r [a, a, c] = ([], [r a]) := by
  simp [tcOf, List.range, List.range.loop, List.idxOf, List.findIdx, List.findIdx.go]
theorem tc3b (h : b ≠ a) : tcOf r [a, b, a] = ([], [r a, r b]) := by
  have e1_ : (a == b) = false := beq_false_of_ne (Ne.symm h)
  simp [tcOf, List.range, List.range.loop, List.idxOf, List.findIdx, List.findIdx.go, h, Ne.symm h, e1_]
theorem tc3c (h : b ≠ a) : tcOf r [a, b, b] = ([r a], [r b]) := by
  have e1_ : (a == b) = false := beq_false_of_ne (Ne.symm h)
  simp [tcOf, List.range, List.range.loop, List.idxOf, List.findIdx, List.findIdx.go, h, Ne.symm h, e1_]
theorem tc4a : tcOf r [a, a, c, d] = ([], [r a]) := by
  simp [tcOf, List.range, List.range.loop, List.idxOf, List.findIdx, List.findIdx.go]
theorem tc4b (h : b ≠ a) : tcOf r [a, b, a, d] = ([], [r a, r b]) := by
  have e1_ : (a == b) = false := beq_false_of_ne (Ne.symm h)
  simp [tcOf, List.range, List.range.loop, List.idxOf, List.findIdx, List.findIdx.go, h, Ne.symm h, e1_]
theorem tc4c (h : b ≠ a) : tcOf r [a, b, b, d] = ([r a], [r b]) := by
  have e1_ : (a == b) = false := beq_false_of_ne (Ne.symm h)
  simp [tcOf, List.range, List.range.loop, List.idxOf, List.findIdx, List.findIdx.go, h, Ne.symm h, e1_]
theorem tc4d (h : b ≠ a) (h1 : c ≠ a) (h2 : c ≠ b) : tcOf r [a, b, c, a] = ([], [r a, r b, r c]) := by
  have e1_ : (a == b) = false := beq_false_of_ne (Ne.symm h)
  have e2_ : (a == c) = false := beq_false_of_ne (Ne.symm h1)
  have e3_ : (b == c) = false := beq_false_of_ne (Ne.symm h2)
  simp [tcOf, List.range, List.range.loop, List.idxOf, List.findIdx, List.findIdx.go, h, Ne.symm h, h1, h2, Ne.symm h1, Ne.symm h2, e1_, e2_, e3_]
theorem tc4e (h : b ≠ a) (h1 : c ≠ a) (h2 : c ≠ b) : tcOf r [a, b, c, b] = ([r a], [r b, r c]) := by
  have e1_ : (a == b) = false := beq_false_of_ne (Ne.symm h)
  have e2_ : (a == c) = false := beq_false_of_ne (Ne.symm h1)
  have e3_ : (b == c) = false := beq_false_of_ne (Ne.symm h2)
  simp [tcOf, List.range, List.range.loop, List.idxOf, List.findIdx, List.findIdx.go, h, Ne.symm h, h1, h2, Ne.symm h1, Ne.symm h2, e1_, e2_, e3_]
theorem tc4f (h : b ≠ a) (h1 : c ≠ a) (h2 : c ≠ b) : tcOf r [a, b, c, c] = ([r a, r b], [r c]) := by
  have e1_ : (a == b) = false := beq_false_of_ne (Ne.symm h)
  have e2_ : (a == c) = false := beq_false_of_ne (Ne.symm h1)
  have e3_ : (b == c) = false := beq_false_of_ne (Ne.symm h2)
  simp [tcOf, List.range, List.range.loop, List.idxOf, List.findIdx, List.findIdx.go, h, Ne.symm h, h1, h2, Ne.symm h1, Ne.symm h2, e1_, e2_, e3_]
end
/-- where the walk repeats: six ways -/
theorem cyc {t : Sys} {f : Pol} (hs : OkS t) (hf : OkP t.length f) {p : Nat} (h : p < t.length) :
    (nx t f p = p ∧ transientAndCycle t f p = ([], [rw_ t f p])) ∨
    (nx t f (nx t f p) = p ∧ transientAndCycle t f p = ([], [rw_ t f p, rw_ t f (nx t f p)])) ∨
    (nx t f (nx t f p) = nx t f p ∧ transientAndCycle t f p = ([rw_ t f p], [rw_ t f (nx t f p)])) ∨
    (nx t f (nx t f (nx t f p)) = p ∧ transientAndCycle t f p = ([], [rw_ t f p, rw_ t f (nx t f p), rw_ t f (nx t f (nx t f p))])) ∨
    (nx t f (nx t f (nx t f p)) = nx t f p ∧ transientAndCycle t f p = ([rw_ t f p], [rw_ t f (nx t f p), rw_ t f (nx t f (nx t f p))])) ∨
    (nx t f (nx t f (nx t f p)) = nx t f (nx t f p) ∧ transientAndCycle t f p = ([rw_ t f p, rw_ t f (nx t f p)], [rw_ t f (nx t f (nx t f p))])) := by
  have l1 := nx_lt hs hf h
  have l2 := nx_lt hs hf l1
  have l3 := nx_lt hs hf l2
  have hn : t.length = 1 ∨ t.length = 2 ∨ t.length = 3 := by have := hs.pos; have := hs.le; omega
  rw [tac_eq]
  rcases hn with e | e | e
  · have q : statesBy t f (t.length + 1) p = [p, nx t f p] := by rw [e]; rfl
    rw [q]
    have x1 : nx t f p = p := by omega
    refine .inl ⟨x1, ?_⟩
    rw [x1]
    exact tc2 _ _
  · have q : statesBy t f (t.length + 1) p = [p, nx t f p, nx t f (nx t f p)] := by rw [e]; rfl
    rw [q]
    by_cases x1 : nx t f p = p
    · refine .inl ⟨x1, ?_⟩
      rw [x1]
      exact tc3a _ _ _
    · by_cases x2 : nx t f (nx t f p) = p
      · refine .inr (.inl ⟨x2, ?_⟩)
        rw [x2]
        exact tc3b _ _ _ x1
      · have x3 : nx t f (nx t f p) = nx t f p := by omega
        refine .inr (.inr (.inl ⟨x3, ?_⟩))
        rw [x3]
        exact tc3c _ _ _ x1
  · have q : statesBy t f (t.length + 1) p = [p, nx t f p, nx t f (nx t f p), nx t f (nx t f (nx t f p))] := by rw [e]; rfl
    rw [q]
    by_cases x1 : nx t f p = p
    · refine .inl ⟨x1, ?_⟩
      rw [x1]
      exact tc4a _ _ _ _
    · by_cases x2 : nx t f (nx t f p) = p
      · refine .inr (.inl ⟨x2, ?_⟩)
        rw [x2]
        exact tc4b _ _ _ _ x1
      · by_cases x3 : nx t f (nx t f p) = nx t f p
        · refine .inr (.inr (.inl ⟨x3, ?_⟩))
          rw [x3]
          exact tc4c _ _ _ _ x1
        · have y : nx t f (nx t f (nx t f p)) = p ∨ nx t f (nx t f (nx t f p)) = nx t f p ∨ nx t f (nx t f (nx t f p)) = nx t f (nx t f p) := by omega
          rcases y with y | y | y
          · refine .inr (.inr (.inr (.inl ⟨y, ?_⟩)))
            rw [y]
            exact tc4d _ _ _ _ x1 x2 x3
          · refine .inr (.inr (.inr (.inr (.inl ⟨y, ?_⟩))))
            rw [y]
            exact tc4e _ _ _ _ x1 x2 x3
          · refine .inr (.inr (.inr (.inr (.inr ⟨y, ?_⟩))))
            rw [y]
            exact tc4f _ _ _ _ x1 x2 x3
theorem rwd_eq (t : Sys) (f : Pol) (p : Nat) : rwd t f p = [rw_ t f p, rw_ t f (nx t f p), rw_ t f (nx t f (nx t f p)), rw_ t f (nx t f (nx t f (nx t f p))), rw_ t f (nx t f (nx t f (nx t f (nx t f p)))),
    rw_ t f (nx t f (nx t f (nx t f (nx t f (nx t f p))))), rw_ t f (nx t f (nx t f (nx t f (nx t f (nx t f (nx t f p)))))), rw_ t f (nx t f (nx t f (nx t f (nx t f (nx t f (nx t f (nx t f p))))))), rw_ t f (nx t f (nx t f (nx t f (nx t f (nx t f (nx t f (nx t f (nx t f p))))))))] := rfl
theorem one_sub {s : Rat} (h0 : 0 < s) (h1 : s < 1) : 1 - s ≠ 0 ∧ 1 - s ^ 2 ≠ 0 ∧ 1 - s ^ 3 ≠ 0 ∧ 0 < 1 - s ^ 6 := by
  have a : 0 < 1 - s := by grind
  have b : 0 < 1 + s := by grind
  have c : 0 < 1 + s + s * s := by have := Rat.mul_pos h0 h0; grind
  have e2 : 1 - s ^ 2 = (1 - s) * (1 + s) := by grind
  have e3 : 1 - s ^ 3 = (1 - s) * (1 + s + s * s) := by grind
  have p2 := Rat.mul_pos a b
  have p3 := Rat.mul_pos a c
  have d : 0 < 1 + s ^ 3 := by have := Rat.mul_pos (Rat.mul_pos h0 h0) h0; grind
  have e6 : 1 - s ^ 6 = (1 - s ^ 3) * (1 + s ^ 3) := by grind
  have p6 := Rat.mul_pos (e3 ▸ p3 : 0 < 1 - s ^ 3) d
  refine ⟨by grind, by grind, by grind, by grind⟩
theorem div_of {a b c d : Rat} (hb : b ≠ 0) (hd : d ≠ 0) (h : a * d = c * b) : a / b = c / d := by grind
theorem value_poly {t : Sys} {f : Pol} (hs : OkS t) (hf : OkP t.length f) {p : Nat} (h : p < t.length) {s : Rat} (h0 : 0 < s) (h1 : s < 1) : policyValue t s f p = E (vpoly t f p) s / (1 - s ^ 6) := by
  obtain ⟨n1, n2, n3, n6⟩ := one_sub h0 h1
  have n6' : 1 - s ^ 6 ≠ 0 := by grind
  unfold policyValue
  rw [vpoly, rwd_eq]
  rcases cyc hs hf h with ⟨x, q⟩ | ⟨x, q⟩ | ⟨x, q⟩ | ⟨x, q⟩ | ⟨x, q⟩ | ⟨x, q⟩
  · rw [q]
    simp only [x, discountedTotal, ratI, List.set, List.getD, List.length, List.getElem?_cons_zero, List.getElem?_cons_succ, Option.getD_some, Rat.intCast_sub]
    generalize ((rw_ t f p : Int) : Rat) = r0
    refine Eq.trans (b := r0 / (1 - s)) (by grind) (div_of (by grind) n6' (by grind))
  · rw [q]
    simp only [x, discountedTotal, ratI, List.set, List.getD, List.length, List.getElem?_cons_zero, List.getElem?_cons_succ, Option.getD_some, Rat.intCast_sub]
    generalize ((rw_ t f p : Int) : Rat) = r0
    generalize ((rw_ t f (nx t f p) : Int) : Rat) = r1
    refine Eq.trans (b := (r0 + s * r1) / (1 - s ^ 2)) (by grind) (div_of (by grind) n6' (by grind))
  · rw [q]
    simp only [x, discountedTotal, ratI, List.set, List.getD, List.length, List.getElem?_cons_zero, List.getElem?_cons_succ, Option.getD_some, Rat.intCast_sub]
    generalize ((rw_ t f p : Int) : Rat) = r0
    generalize ((rw_ t f (nx t f p) : Int) : Rat) = r1
    refine Eq.trans (b := (r0 * (1 - s) + s * r1) / (1 - s)) (by grind) (div_of (by grind) n6' (by grind))
  · rw [q]
    simp only [x, discountedTotal, ratI, List.set, List.getD, List.length, List.getElem?_cons_zero, List.getElem?_cons_succ, Option.getD_some, Rat.intCast_sub]
    generalize ((rw_ t f p : Int) : Rat) = r0
    generalize ((rw_ t f (nx t f p) : Int) : Rat) = r1
    generalize ((rw_ t f (nx t f (nx t f p)) : Int) : Rat) = r2
    refine Eq.trans (b := (r0 + s * r1 + s ^ 2 * r2) / (1 - s ^ 3)) (by grind) (div_of (by grind) n6' (by grind))
  · rw [q]
    simp only [x, discountedTotal, ratI, List.set, List.getD, List.length, List.getElem?_cons_zero, List.getElem?_cons_succ, Option.getD_some, Rat.intCast_sub]
    generalize ((rw_ t f p : Int) : Rat) = r0
    generalize ((rw_ t f (nx t f p) : Int) : Rat) = r1
    generalize ((rw_ t f (nx t f (nx t f p)) : Int) : Rat) = r2
    refine Eq.trans (b := (r0 * (1 - s ^ 2) + s * (r1 + s * r2)) / (1 - s ^ 2)) (by grind) (div_of (by grind) n6' (by grind))
  · rw [q]
    simp only [x, discountedTotal, ratI, List.set, List.getD, List.length, List.getElem?_cons_zero, List.getElem?_cons_succ, Option.getD_some, Rat.intCast_sub]
    generalize ((rw_ t f p : Int) : Rat) = r0
    generalize ((rw_ t f (nx t f p) : Int) : Rat) = r1
    generalize ((rw_ t f (nx t f (nx t f p)) : Int) : Rat) = r2
    refine Eq.trans (b := ((r0 + s * r1) * (1 - s) + s ^ 2 * r2) / (1 - s)) (by grind) (div_of (by grind) n6' (by grind))
end Dsn
end

section
set_option maxHeartbeats 4000000
/-! # The law: Bellman's equation, values as fractions -/
namespace Dsn
open R7284d.Spec (ratOfInt discountedTotal policyValue transientAndCycle statesBy rewardsBy rewardOf successor ratOfDiscount)
theorem per {t : Sys} {f : Pol} (hs : OkS t) (hf : OkP t.length f) {p : Nat} (h : p < t.length) :
    nx t f (nx t f (nx t f (nx t f (nx t f (nx t f (nx t f (nx t f (nx t f p)))))))) = nx t f (nx t f (nx t f p)) := by
  rcases cyc hs hf h with ⟨x, q⟩ | ⟨x, q⟩ | ⟨x, q⟩ | ⟨x, q⟩ | ⟨x, q⟩ | ⟨x, q⟩ <;> simp only [x]
theorem bellman {t : Sys} {f : Pol} (hs : OkS t) (hf : OkP t.length f) {p : Nat} (h : p < t.length) {s : Rat} (h0 : 0 < s) (h1 : s < 1) : policyValue t s f p = (rw_ t f p : Rat) + s * policyValue t s f (nx t f p) := by
  obtain ⟨n1, n2, n3, n6⟩ := one_sub h0 h1
  have n6' : 1 - s ^ 6 ≠ 0 := by grind
  rw [value_poly hs hf h h0 h1, value_poly hs hf (nx_lt hs hf h) h0 h1, vpoly, vpoly, rwd_eq, rwd_eq, per hs hf h]
  simp only [discountedTotal, ratI, List.set, List.getD, List.length, List.getElem?_cons_zero, List.getElem?_cons_succ, Option.getD_some, Rat.intCast_sub]
  grind
/-- a rational as numerator and denominator -/
def frR (x : Rat) : Int × Int := (x.num, (x.den : Int))
theorem frR_inj {x y : Rat} (h : frR x = frR y) : x = y := by
  simp only [frR, Prod.mk.injEq] at h
  exact Rat.ext h.1 (by omega)
theorem rD_eq {b : Nat} (hb : 0 < b) (t : Int) : rD t b = frR (mkRat t b) := by
  have h : b ≠ 0 := by omega
  simp only [rD, frR, Rat.num_mkRat, Rat.den_mkRat, if_neg h]
  rw [Nat.gcd_comm]
  simp
theorem atF_eq (a b : Nat) {x : Rat} (hx : x * (b : Rat) = (a : Rat)) : ∀ l : List Int, (atF a b l : Rat) * b = (b : Rat) ^ l.length * E l x
  | [] => by
    show ((0 : Int) : Rat) * b = _ * (0 : Rat)
    grind
  | c :: r => by
    have ih := atF_eq a b hx r
    show ((atF a b r * (a : Int) + c * (b : Int) ^ r.length : Int) : Rat) * b = (b : Rat) ^ (r.length + 1) * (ratOfInt c + x * E r x)
    rw [ratI, Rat.intCast_add, Rat.intCast_mul, Rat.intCast_mul, Rat.intCast_pow, Rat.intCast_natCast, Rat.intCast_natCast, Rat.pow_succ]
    generalize (b : Rat) ^ r.length = B at *
    generalize ((atF a b r : Int) : Rat) = A at *
    generalize E r x = X at *
    grind
/-- the discount as a rational -/
def sR (g : Dis) : Rat := ratOfDiscount g
theorem sR_mul {g : Dis} (hg : OkD g) : sR g * (g.2 : Rat) = (g.1 : Rat) := by
  have h := hg.p0
  have h1 := hg.p1
  have hb : (g.2 : Rat) ≠ 0 := by
    intro e
    have : g.2 = 0 := by exact_mod_cast e
    omega
  unfold sR ratOfDiscount
  rw [Rat.mkRat_eq_div]
  show ((Int.ofNat g.1 : Int) : Rat) / (g.2 : Rat) * g.2 = _
  have : ((Int.ofNat g.1 : Int) : Rat) = (g.1 : Rat) := Rat.intCast_natCast _
  rw [this]
  grind
theorem nat_pos {b : Nat} (h : 0 < b) : 0 < (b : Rat) := by exact_mod_cast h
theorem sR_pos {g : Dis} (hg : OkD g) : 0 < sR g ∧ sR g < 1 := by
  have e := sR_mul hg
  have h1 := nat_pos hg.p0
  have h2 := nat_pos (Nat.lt_trans hg.p0 hg.p1)
  have h3 : (g.1 : Rat) < (g.2 : Rat) := by exact_mod_cast hg.p1
  constructor
  · apply Rat.not_le.mp
    intro c
    have := Rat.mul_le_mul_of_nonneg_right c (Rat.le_of_lt h2)
    grind
  · apply Rat.not_le.mp
    intro c
    have := Rat.mul_le_mul_of_nonneg_right c (Rat.le_of_lt h2)
    grind
end Dsn
end

section
set_option maxHeartbeats 4000000
/-! # The law: optimal policies -/
namespace Dsn
open R7284d.Spec (ratOfInt discountedTotal policyValue transientAndCycle statesBy rewardsBy rewardOf successor ratOfDiscount isOptimal optimalPolicyOf allPolicies optimalValue)
theorem atF_vpoly {g : Dis} (hg : OkD g) (t : Sys) (f : Pol) (p : Nat) : (atF g.1 g.2 (vpoly t f p) : Rat) = (g.2 : Rat) ^ 8 * E (vpoly t f p) (sR g) := by
  have e := atF_eq g.1 g.2 (sR_mul hg) (vpoly t f p)
  rw [vpoly_length] at e
  have h2 := nat_pos (Nat.lt_trans hg.p0 hg.p1)
  generalize ((atF g.1 g.2 (vpoly t f p) : Int) : Rat) = A at *
  generalize E (vpoly t f p) (sR g) = X at *
  generalize (g.2 : Rat) = b at *
  have : (A - b ^ 8 * X) * b = 0 := by grind
  grind
theorem whole_rat {g : Dis} (hg : OkD g) : (wholeN g : Rat) = (g.2 : Rat) ^ 8 * (1 - sR g ^ 6) := by
  obtain ⟨w1, w2, w3⟩ := whole_eq hg
  have e : ((wholeN g : Int) : Rat) = (g.2 : Rat) ^ 8 - (g.2 : Rat) ^ 2 * (g.1 : Rat) ^ 6 := by
    rw [← w1, Rat.intCast_sub, Rat.intCast_mul, Rat.intCast_pow, Rat.intCast_pow, Rat.intCast_pow, Rat.intCast_natCast, Rat.intCast_natCast]
  rw [Rat.intCast_natCast] at e
  rw [e, ← sR_mul hg]
  grind
theorem pval_rat {t : Sys} {g : Dis} {f : Pol} (hs : OkS t) (hg : OkD g) (hf : OkP t.length f) {p : Nat} (h : p < t.length) : mkRat (atF g.1 g.2 (vpoly t f p)) (wholeN g) = policyValue t (sR g) f p := by
  obtain ⟨h0, h1⟩ := sR_pos hg
  obtain ⟨n1, n2, n3, n6⟩ := one_sub h0 h1
  have h2 := nat_pos (Nat.lt_trans hg.p0 hg.p1)
  rw [value_poly hs hf h h0 h1, Rat.mkRat_eq_div, atF_vpoly hg, whole_rat hg]
  generalize E (vpoly t f p) (sR g) = X at *
  generalize sR g = s at *
  generalize (g.2 : Rat) = b at *
  have hb : b ^ 8 ≠ 0 := by
    have := Rat.pow_pos (n := 8) h2
    grind
  have n6' : 1 - s ^ 6 ≠ 0 := by grind
  exact div_of (by grind) n6' (by grind)
theorem pvals_eq {t : Sys} {g : Dis} {f : Pol} (hs : OkS t) (hg : OkD g) (hf : OkP t.length f) : pvals t g f = (List.range t.length).map fun p => frR (policyValue t (sR g) f p) := by
  refine List.map_congr_left fun p hp => ?_
  rw [rD_eq (whole_eq hg).2.1, pval_rat hs hg hf (List.mem_range.mp hp)]
/-! ### there is an optimal policy -/
theorem fin_max {α : Type} : ∀ (l : List α) (v : α → Rat), l ≠ [] → ∃ a ∈ l, ∀ b ∈ l, v b ≤ v a
  | [], _, h => (h rfl).elim
  | [a], v, _ => ⟨a, List.mem_cons_self, fun b hb => by
      have : b = a := by simpa using hb
      subst this
      exact Rat.le_refl⟩
  | a :: b :: l, v, _ => by
    obtain ⟨c, hc, hm⟩ := fin_max (b :: l) v (by simp)
    by_cases h : v a ≤ v c
    · refine ⟨c, List.mem_cons_of_mem _ hc, fun d hd => ?_⟩
      rcases List.mem_cons.mp hd with rfl | hd
      · exact h
      · exact hm d hd
    · have h' := Rat.le_of_lt (Rat.not_le.mp h)
      refine ⟨a, List.mem_cons_self, fun d hd => ?_⟩
      rcases List.mem_cons.mp hd with rfl | hd
      · exact Rat.le_refl
      · exact Rat.le_trans (hm d hd) h'
theorem all_words : ∀ (n : Nat) (w : Pol), OkP n w → w ∈ wordsL n
  | 0, w, h => by
    have : w = [] := List.eq_nil_of_length_eq_zero h.len
    subst this
    simp [R7284d.Spec.wordsOfLength]
  | n + 1, w, h => by
    have hne : w ≠ [] := fun e => by have := h.len; rw [e] at this; simp at this
    have e := List.dropLast_concat_getLast hne
    have hv : w.dropLast ∈ wordsL n := all_words n _ ⟨by rw [List.length_dropLast, h.len]; rfl, fun c hc => h.two c ((List.dropLast_sublist w).subset hc)⟩
    have hl := h.two _ (List.getLast_mem hne)
    show w ∈ (wordsL n).flatMap fun w => R7284d.Spec.letters.map fun c => w ++ [c]
    rw [List.mem_flatMap]
    refine ⟨w.dropLast, hv, ?_⟩
    rw [List.mem_map]
    refine ⟨w.getLast hne, ?_, e⟩
    simp [R7284d.Spec.letters]
    omega
theorem exists_opt {t : Sys} (hs : OkS t) {s : Rat} (h0 : 0 < s) (h1 : s < 1) : ∃ f ∈ wordsL t.length, ∀ p, p < t.length → ∀ h ∈ wordsL t.length, policyValue t s h p ≤ policyValue t s f p := by
  -- the greatest values
  have hV : ∀ p : Nat, ∃ h ∈ wordsL t.length, ∀ h' ∈ wordsL t.length, policyValue t s h' p ≤ policyValue t s h p := fun p => fin_max _ (fun h => policyValue t s h p) (words_ne _)
  let V : Nat → Rat := fun p => policyValue t s (Classical.choose (hV p)) p
  have V1 : ∀ p, ∀ h ∈ wordsL t.length, policyValue t s h p ≤ V p := fun p => (Classical.choose_spec (hV p)).2
  have V2 : ∀ p, ∃ h ∈ wordsL t.length, V p = policyValue t s h p := fun p => ⟨_, (Classical.choose_spec (hV p)).1, rfl⟩
  -- the letters that reach them
  let q : Nat → Nat → Rat := fun p c => (rewardOf t p c : Rat) + s * V (successor t p c)
  let f : Pol := (List.range t.length).map fun p => if q p 0 ≤ q p 1 then 1 else 0
  have hf : OkP t.length f := ⟨by simp [f], fun c hc => by
    simp only [f, List.mem_map] at hc
    obtain ⟨p, _, rfl⟩ := hc
    split <;> omega⟩
  have fget : ∀ p, p < t.length → f.getD p 0 = if q p 0 ≤ q p 1 then 1 else 0 := fun p hp => by simp [f, hp]
  have best : ∀ p, p < t.length → ∀ c, c < 2 → q p c ≤ q p (f.getD p 0) := fun p hp c hc => by
    rw [fget p hp]
    rcases c01 hc with rfl | rfl
    · split
      · assumption
      · exact Rat.le_refl
    · split
      · exact Rat.le_refl
      · rename_i h
        exact Rat.le_of_lt (Rat.not_le.mp h)
  -- one turn
  have turn : ∀ p, p < t.length → V p ≤ (rw_ t f p : Rat) + s * V (nx t f p) := fun p hp => by
    obtain ⟨h, hh, e⟩ := V2 p
    have hok := words_ok _ _ hh
    have c2 : h.getD p 0 < 2 := by
      have hl : p < h.length := by rw [hok.len]; exact hp
      have := hok.two h[p] (List.getElem_mem hl)
      simp [hl]
      exact this
    have b := bellman hs hok hp h0 h1
    have m := V1 (nx t h p) h hh
    have m2 := Rat.mul_le_mul_of_nonneg_left m (Rat.le_of_lt h0)
    have g := best p hp _ c2
    have g' : (rewardOf t p (h.getD p 0) : Rat) + s * V (successor t p (h.getD p 0)) ≤ (rewardOf t p (f.getD p 0) : Rat) + s * V (successor t p (f.getD p 0)) := g
    unfold rw_ nx at *
    rw [e, b]
    grind
  -- the differences
  obtain ⟨p0, hp0, hm⟩ := fin_max (List.range t.length) (fun p => V p - policyValue t s f p) (List.ne_nil_of_length_pos (by rw [List.length_range]; exact hs.pos))
  have lt0 := List.mem_range.mp hp0
  have d0 : V p0 - policyValue t s f p0 ≤ 0 := by
    have a := turn p0 lt0
    have b := bellman hs hf lt0 h0 h1
    have c := hm (nx t f p0) (List.mem_range.mpr (nx_lt hs hf lt0))
    have c' : V (nx t f p0) - policyValue t s f (nx t f p0) ≤ V p0 - policyValue t s f p0 := c
    generalize V p0 = v0 at *
    generalize V (nx t f p0) = v1 at *
    generalize policyValue t s f p0 = w0 at *
    generalize policyValue t s f (nx t f p0) = w1 at *
    generalize (rw_ t f p0 : Rat) = r at *
    have e : v0 - w0 ≤ s * (v0 - w0) := by
      have := Rat.mul_le_mul_of_nonneg_left c' (Rat.le_of_lt h0)
      grind
    apply Rat.not_lt.mp
    intro hpos
    have := Rat.mul_lt_mul_of_pos_right h1 hpos
    grind
  refine ⟨f, all_words _ _ hf, fun p hp h hh => ?_⟩
  have a := V1 p h hh
  have b : V p - policyValue t s f p ≤ V p0 - policyValue t s f p0 := hm p (List.mem_range.mpr hp)
  grind
end Dsn
end

section
set_option maxHeartbeats 4000000
/-! # The law: signs of polynomials near 0 -/
namespace Dsn
open R7284d.Spec (ratOfInt discountedTotal signNearZero signOfInt signNearOne expandAtOne addPoly negatePoly shiftPoly timesOneMinusPower binomial)
theorem E_nil (e : Rat) : E [] e = 0 := rfl
theorem E_cons (a : Int) (l : List Int) (e : Rat) : E (a :: l) e = (a : Rat) + e * E l e := by
  show ratOfInt a + e * E l e = _
  rw [ratI]
/-- for all e above 0 that are small enough -/
def Ev (P : Rat → Prop) : Prop := ∃ N : Nat, 0 < N ∧ ∀ e : Rat, 0 < e → e * N < 1 → P e
theorem small {N M : Nat} (h : N ≤ M) {e : Rat} (h0 : 0 < e) (h1 : e * M < 1) : e * N < 1 := by
  have : (N : Rat) ≤ (M : Rat) := by exact_mod_cast h
  have := Rat.mul_le_mul_of_nonneg_left this (Rat.le_of_lt h0)
  grind
theorem Ev.and {P Q : Rat → Prop} (p : Ev P) (q : Ev Q) : Ev fun e => P e ∧ Q e := by
  obtain ⟨N, n0, hp⟩ := p
  obtain ⟨M, m0, hq⟩ := q
  exact ⟨N + M, by omega, fun e h0 h1 => ⟨hp e h0 (small (by omega) h0 h1), hq e h0 (small (by omega) h0 h1)⟩⟩
theorem Ev.imp {P Q : Rat → Prop} (p : Ev P) (h : ∀ e, 0 < e → e < 1 → P e → Q e) : Ev Q := by
  obtain ⟨N, n0, hp⟩ := p
  refine ⟨N, n0, fun e h0 h1 => h e h0 ?_ (hp e h0 h1)⟩
  have := small (N := 1) (M := N) n0 h0 h1
  grind
theorem Ev.ex {P : Rat → Prop} (p : Ev P) : ∃ e, 0 < e ∧ e < 1 ∧ P e := by
  obtain ⟨N, n0, hp⟩ := p
  have hN : (0 : Rat) < ((N + 1 : Nat) : Rat) := nat_pos (by omega)
  have hN2 : ((N + 1 : Nat) : Rat) = (N : Rat) + 1 := by simp
  have i0 : 0 < (((N + 1 : Nat) : Rat))⁻¹ := Rat.inv_pos.mpr hN
  have iM : (((N + 1 : Nat) : Rat))⁻¹ * ((N + 1 : Nat) : Rat) = 1 := Rat.inv_mul_cancel _ (by grind)
  have hN0 := nat_pos n0
  generalize (((N + 1 : Nat) : Rat))⁻¹ = e at *
  have h1 : e * N < 1 := by rw [hN2] at iM; grind
  refine ⟨e, i0, ?_, hp e i0 h1⟩
  have := small (N := 1) (M := N) n0 i0 h1
  grind
theorem Ev.all {α : Type} : ∀ {l : List α} {P : α → Rat → Prop}, (∀ a ∈ l, Ev (P a)) → Ev fun e => ∀ a ∈ l, P a e
  | [], _, _ => ⟨1, by decide, fun _ _ _ a h => nomatch h⟩
  | a :: l, P, h => by
    have h1 := h a List.mem_cons_self
    have h2 := Ev.all (l := l) (P := P) fun b hb => h b (List.mem_cons_of_mem _ hb)
    refine (h1.and h2).imp fun e _ _ ⟨x, y⟩ b hb => ?_
    rcases List.mem_cons.mp hb with rfl | hb
    · exact x
    · exact y b hb
theorem E_bound : ∀ l : List Int, ∃ B : Nat, ∀ e : Rat, 0 < e → e < 1 → -(B : Rat) ≤ E l e ∧ E l e ≤ (B : Rat)
  | [] => ⟨0, fun e _ _ => by rw [E_nil]; simp⟩
  | a :: l => by
    obtain ⟨B, hB⟩ := E_bound l
    refine ⟨a.natAbs + B, fun e h0 h1 => ?_⟩
    obtain ⟨b1, b2⟩ := hB e h0 h1
    have hB0 : (0 : Rat) ≤ (B : Rat) := by exact_mod_cast Nat.zero_le B
    have c1 := Rat.mul_le_mul_of_nonneg_left b1 (Rat.le_of_lt h0)
    have c2 := Rat.mul_le_mul_of_nonneg_left b2 (Rat.le_of_lt h0)
    have c3 : e * (B : Rat) ≤ (B : Rat) := by
      have := Rat.mul_le_mul_of_nonneg_right (Rat.le_of_lt h1) hB0
      grind
    have a1 : (a : Rat) ≤ ((a.natAbs : Nat) : Rat) := by
      have : a ≤ ((a.natAbs : Nat) : Int) := by omega
      have h : ((a : Int) : Rat) ≤ (((a.natAbs : Nat) : Int) : Rat) := by exact_mod_cast this
      rwa [Rat.intCast_natCast] at h
    have a2 : -((a.natAbs : Nat) : Rat) ≤ (a : Rat) := by
      have : -((a.natAbs : Nat) : Int) ≤ a := by omega
      have h : ((-((a.natAbs : Nat) : Int) : Int) : Rat) ≤ ((a : Int) : Rat) := by exact_mod_cast this
      rwa [Rat.intCast_neg, Rat.intCast_natCast] at h
    rw [E_cons]
    have e3 : ((a.natAbs + B : Nat) : Rat) = ((a.natAbs : Nat) : Rat) + (B : Rat) := by simp
    rw [e3]
    constructor <;> grind
theorem sgn_nil : signNearZero [] = 0 := rfl
theorem sgn_zero (l : List Int) : signNearZero (0 :: l) = signNearZero l := by simp [signNearZero]
theorem sgn_cons {a : Int} (h : a ≠ 0) (l : List Int) : signNearZero (a :: l) = signOfInt a := by simp [signNearZero, h]
theorem sgn_ev : ∀ l : List Int, (signNearZero l = 1 ∧ Ev fun e => 0 < E l e) ∨ (signNearZero l = 0 ∧ ∀ e, E l e = 0) ∨ (signNearZero l = -1 ∧ Ev fun e => E l e < 0)
  | [] => .inr (.inl ⟨rfl, fun e => rfl⟩)
  | a :: l => by
    by_cases h : a = 0
    · subst h
      rw [sgn_zero]
      have e0 : ∀ e, E (0 :: l) e = e * E l e := fun e => by rw [E_cons]; grind
      rcases sgn_ev l with ⟨h1, h2⟩ | ⟨h1, h2⟩ | ⟨h1, h2⟩
      · refine .inl ⟨h1, h2.imp fun e h0 _ h => ?_⟩
        rw [e0]
        exact Rat.mul_pos h0 h
      · refine .inr (.inl ⟨h1, fun e => ?_⟩)
        rw [e0, h2 e]
        grind
      · refine .inr (.inr ⟨h1, h2.imp fun e h0 _ h => ?_⟩)
        rw [e0]
        have := Rat.mul_pos h0 (show 0 < -E l e by grind)
        grind
    · rw [sgn_cons h]
      obtain ⟨B, hB⟩ := E_bound l
      have near : Ev fun e => -1 < e * E l e ∧ e * E l e < 1 := ⟨B + 1, by omega, fun e h0 h1 => by
        have l1 : e < 1 := by
          have := small (N := 1) (M := B + 1) (by omega) h0 h1
          grind
        obtain ⟨b1, b2⟩ := hB e h0 l1
        have hB1 : ((B + 1 : Nat) : Rat) = (B : Rat) + 1 := by simp
        rw [hB1] at h1
        have c1 := Rat.mul_le_mul_of_nonneg_left b1 (Rat.le_of_lt h0)
        have c2 := Rat.mul_le_mul_of_nonneg_left b2 (Rat.le_of_lt h0)
        constructor <;> grind⟩
      by_cases hp : 0 < a
      · refine .inl ⟨by simp only [signOfInt]; rw [if_neg (by omega), if_pos hp], near.imp fun e h0 h1 ⟨n1, n2⟩ => ?_⟩
        have : (1 : Rat) ≤ (a : Rat) := by
          have : (1 : Int) ≤ a := by omega
          exact_mod_cast this
        rw [E_cons]
        grind
      · refine .inr (.inr ⟨by simp only [signOfInt]; rw [if_pos (by omega)], near.imp fun e h0 h1 ⟨n1, n2⟩ => ?_⟩)
        have : (a : Rat) ≤ (-1 : Rat) := by
          have : a ≤ (-1 : Int) := by omega
          have h : ((a : Int) : Rat) ≤ (((-1 : Int)) : Rat) := by exact_mod_cast this
          have e1 : (((-1 : Int)) : Rat) = -1 := by rfl
          rwa [e1] at h
        rw [E_cons]
        grind
theorem sgn_nonneg (l : List Int) : 0 ≤ signNearZero l ↔ Ev fun e => 0 ≤ E l e := by
  rcases sgn_ev l with ⟨h1, h2⟩ | ⟨h1, h2⟩ | ⟨h1, h2⟩
  · exact ⟨fun _ => h2.imp fun e _ _ h => Rat.le_of_lt h, fun _ => by omega⟩
  · exact ⟨fun _ => ⟨1, by decide, fun e _ _ => by show 0 ≤ E l e; rw [h2 e]; exact Rat.le_refl⟩, fun _ => by omega⟩
  · refine ⟨fun h => by omega, fun h => ?_⟩
    obtain ⟨e, _, _, x, y⟩ := (h.and h2).ex
    exact absurd x (Rat.not_le.mpr y)
/-- the difference, place by place -/
def subL (a b : List Int) : List Int := List.zipWith (· - ·) a b
theorem E_sub (e : Rat) : ∀ a b : List Int, a.length = b.length → E (subL a b) e = E a e - E b e
  | [], [], _ => by show (0 : Rat) = 0 - 0; grind
  | x :: a, y :: b, h => by
    have ih := E_sub e a b (by simpa using h)
    show E ((x - y) :: subL a b) e = _
    rw [E_cons, E_cons, E_cons, ih, Rat.intCast_sub]
    grind
  | [], _ :: _, h => by simp at h
  | _ :: _, [], h => by simp at h
theorem less_sgn : ∀ a b : List Int, a.length = b.length → (isLess a b = true ↔ signNearZero (subL b a) = 1)
  | [], [], _ => by simp [isLess, subL, signNearZero]
  | x :: a, y :: b, h => by
    show (if x = y then isLess a b else decide (x < y)) = true ↔ signNearZero ((y - x) :: subL b a) = 1
    by_cases e : x = y
    · rw [if_pos e, show y - x = 0 from by omega, sgn_zero]
      exact less_sgn a b (by simpa using h)
    · rw [if_neg e, sgn_cons (by omega)]
      simp only [signOfInt, decide_eq_true_eq]
      constructor
      · intro h
        rw [if_neg (by omega), if_pos (by omega)]
      · intro h
        split at h
        · omega
        · split at h <;> omega
  | [], _ :: _, h => by simp at h
  | _ :: _, [], h => by simp at h
theorem nless (a b : List Int) (h : a.length = b.length) : isLess a b = false ↔ Ev fun e => E b e ≤ E a e := by
  have hl := less_sgn a b h
  have hE : ∀ e, E (subL b a) e = E b e - E a e := fun e => E_sub e b a h.symm
  rcases sgn_ev (subL b a) with ⟨h1, h2⟩ | ⟨h1, h2⟩ | ⟨h1, h2⟩
  · rw [h1] at hl
    refine ⟨fun z => ?_, fun z => ?_⟩
    · rw [hl.mpr rfl] at z
      cases z
    · obtain ⟨e, _, _, x, y⟩ := (z.and h2).ex
      rw [hE e] at y
      exact absurd x (Rat.not_le.mpr (by grind))
  · have : isLess a b = false := by
      cases hz : isLess a b with
      | false => rfl
      | true => have := hl.mp hz; omega
    refine ⟨fun _ => ⟨1, by decide, fun e _ _ => ?_⟩, fun _ => this⟩
    have := h2 e
    rw [hE e] at this
    grind
  · have : isLess a b = false := by
      cases hz : isLess a b with
      | false => rfl
      | true => have := hl.mp hz; omega
    refine ⟨fun _ => h2.imp fun e _ _ h => ?_, fun _ => this⟩
    rw [hE e] at h
    grind
theorem E_add (e : Rat) : ∀ a b : List Int, E (addPoly a b) e = E a e + E b e
  | [], b => by
    have : addPoly [] b = b := by cases b <;> rfl
    rw [this, E_nil]
    grind
  | x :: a, [] => by
    show E (x :: a) e = _
    rw [E_nil]
    grind
  | x :: a, y :: b => by
    show E ((x + y) :: addPoly a b) e = _
    rw [E_cons, E_cons, E_cons, E_add e a b, Rat.intCast_add]
    grind
theorem E_neg (e : Rat) : ∀ a : List Int, E (negatePoly a) e = -E a e
  | [] => by show (0 : Rat) = -0; grind
  | x :: a => by
    show E ((-x) :: negatePoly a) e = _
    rw [E_cons, E_cons, E_neg e a, Rat.intCast_neg]
    grind
theorem E_shift (e : Rat) (a : List Int) : ∀ n : Nat, E (shiftPoly n a) e = e ^ n * E a e
  | 0 => by
    show E a e = _
    rw [Rat.pow_zero]
    grind
  | n + 1 => by
    show E (0 :: shiftPoly n a) e = _
    rw [E_cons, E_shift e a n, Rat.pow_succ]
    grind
theorem E_tomp (e : Rat) (n : Nat) (a : List Int) : E (timesOneMinusPower n a) e = (1 - e ^ n) * E a e := by
  unfold timesOneMinusPower
  rw [E_add, E_neg, E_shift]
  grind
end Dsn
end

section
set_option maxHeartbeats 4000000
/-! # The law: the first best policy -/
namespace Dsn
open R7284d.Spec (ratOfInt discountedTotal policyValue transientAndCycle statesBy rewardsBy rewardOf successor ratOfDiscount isOptimal optimalPolicyOf allPolicies optimalValue signNearZero signNearOne expandAtOne valueDifference valueNumerator optimalNear blackwellPolicyOf myopicPolicyOf addPoly negatePoly shiftPoly timesOneMinusPower binomial)
theorem isBest_iff (n : Nat) (a : Pol → Nat → List Int) (ps : List Pol) (f : Pol) : isBest ((List.range n).map (a f)) (ps.map fun h => (List.range n).map (a h)) = true ↔ ∀ h ∈ ps, ∀ p, p < n → isLess (a f p) (a h p) = false := by
  have e : ∀ h : Pol, List.zipWith (fun m i => !isLess m i) ((List.range n).map (a f)) ((List.range n).map (a h)) = (List.range n).map fun p => !isLess (a f p) (a h p) := fun h => by
    rw [List.zipWith_map]
    rw [List.zipWith_self]
  unfold isBest
  rw [List.all_map, List.all_eq_true]
  constructor
  · intro hh h hm p hp
    have := hh h hm
    simp only [Function.comp] at this
    rw [e, List.all_eq_true] at this
    have := this (!isLess (a f p) (a h p)) (List.mem_map.mpr ⟨p, List.mem_range.mpr hp, rfl⟩)
    simpa using this
  · intro hh h hm
    simp only [Function.comp]
    rw [e, List.all_eq_true]
    intro b hb
    obtain ⟨p, hp, rfl⟩ := List.mem_map.mp hb
    simpa using hh h hm p (List.mem_range.mp hp)
theorem firstBest_find (n : Nat) (a : Pol → Nat → List Int) (ps : List Pol) (P : Pol → Bool) (hP : ∀ f ∈ ps, (P f = true ↔ ∀ h ∈ ps, ∀ p, p < n → isLess (a f p) (a h p) = false)) (hex : ∃ f ∈ ps, P f = true) :
    firstBest ps (ps.map fun h => (List.range n).map (a h)) = (ps.find? P).getD [] := by
  have key : ∀ qs : List Pol, (∀ f ∈ qs, f ∈ ps) → ((qs.zip (qs.map fun h => (List.range n).map (a h))).find? fun q => isBest q.2 (ps.map fun h => (List.range n).map (a h))).map (·.1) = qs.find? P := by
    intro qs
    induction qs with
    | nil => intro _; rfl
    | cons f qs ih =>
      intro hq
      have hf := hq f List.mem_cons_self
      have hb : isBest ((List.range n).map (a f)) (ps.map fun h => (List.range n).map (a h)) = P f := by
        rw [Bool.eq_iff_iff, isBest_iff, hP f hf]
      simp only [List.map_cons, List.zip_cons_cons, List.find?_cons, hb]
      cases P f with
      | true => rfl
      | false => exact ih fun g hg => hq g (List.mem_cons_of_mem _ hg)
  unfold firstBest
  rw [key ps fun f hf => hf]
  obtain ⟨f, hf, hp⟩ := hex
  cases e : ps.find? P with
  | none => exact absurd hp (by have := List.find?_eq_none.mp e f hf; simpa using this)
  | some g => rfl
theorem isOptimal_iff (t : Sys) (s : Rat) (f : Pol) : isOptimal t s f = true ↔ ∀ p, p < t.length → ∀ h ∈ wordsL t.length, policyValue t s h p ≤ policyValue t s f p := by
  unfold isOptimal allPolicies
  rw [List.all_eq_true]
  constructor
  · intro hh p hp h hm
    have := List.all_eq_true.mp (hh p (List.mem_range.mpr hp)) h hm
    simpa using this
  · intro hh p hp
    rw [List.all_eq_true]
    intro h hm
    simpa using hh p (List.mem_range.mp hp) h hm
theorem value_le {t : Sys} (hs : OkS t) {f h : Pol} (hf : OkP t.length f) (hh : OkP t.length h) {p : Nat} (hp : p < t.length) {s : Rat} (h0 : 0 < s) (h1 : s < 1) : policyValue t s h p ≤ policyValue t s f p ↔ E (vpoly t h p) s ≤ E (vpoly t f p) s := by
  obtain ⟨n1, n2, n3, n6⟩ := one_sub h0 h1
  rw [value_poly hs hf hp h0 h1, value_poly hs hh hp h0 h1]
  constructor
  · intro z
    have := Rat.mul_le_mul_of_nonneg_right z (Rat.le_of_lt n6)
    have e1 : E (vpoly t h p) s / (1 - s ^ 6) * (1 - s ^ 6) = E (vpoly t h p) s := by generalize 1 - s ^ 6 = d at *; grind
    have e2 : E (vpoly t f p) s / (1 - s ^ 6) * (1 - s ^ 6) = E (vpoly t f p) s := by generalize 1 - s ^ 6 = d at *; grind
    rwa [e1, e2] at this
  · intro z
    have := Rat.mul_le_mul_of_nonneg_right z (Rat.le_of_lt (Rat.inv_pos.mpr n6))
    rwa [← Rat.div_def, ← Rat.div_def] at this
theorem optPol_eq {t : Sys} {g : Dis} (hs : OkS t) (hg : OkD g) : optPol t g = optimalPolicyOf t (sR g) := by
  obtain ⟨h0, h1⟩ := sR_pos hg
  have h2 := nat_pos (Nat.lt_trans hg.p0 hg.p1)
  have b8 := Rat.pow_pos (n := 8) h2
  unfold optPol optimalPolicyOf
  refine firstBest_find t.length (fun f p => [atF g.1 g.2 (vpoly t f p)]) (wordsL t.length) (isOptimal t (sR g)) (fun f hf => ?_) ?_
  · rw [isOptimal_iff]
    have cmp : ∀ h ∈ wordsL t.length, ∀ p, p < t.length → (isLess [atF g.1 g.2 (vpoly t f p)] [atF g.1 g.2 (vpoly t h p)] = false ↔ policyValue t (sR g) h p ≤ policyValue t (sR g) f p) := fun h hh p hp => by
      rw [value_le hs (words_ok _ _ hf) (words_ok _ _ hh) hp h0 h1]
      have e1 := atF_vpoly hg t f p
      have e2 := atF_vpoly hg t h p
      have l : isLess [atF g.1 g.2 (vpoly t f p)] [atF g.1 g.2 (vpoly t h p)] = false ↔ atF g.1 g.2 (vpoly t h p) ≤ atF g.1 g.2 (vpoly t f p) := by
        simp only [isLess]
        split
        · rename_i e; simp; omega
        · rename_i e; simp
      rw [l, ← Rat.intCast_le_intCast, e1, e2]
      constructor
      · intro z
        apply Rat.not_lt.mp
        intro c
        have := (Rat.mul_lt_mul_left b8).mpr c
        exact absurd z (Rat.not_le.mpr this)
      · intro z
        exact Rat.mul_le_mul_of_nonneg_left z (Rat.le_of_lt b8)
    exact ⟨fun z h hh p hp => (cmp h hh p hp).mpr (z p hp h hh), fun z p hp h hh => (cmp h hh p hp).mp (z h hh p hp)⟩
  · obtain ⟨f, hf, hm⟩ := exists_opt hs h0 h1
    exact ⟨f, hf, (isOptimal_iff t _ f).mpr hm⟩
end Dsn
end

section
set_option maxHeartbeats 4000000
/-! # The law: Blackwell's and the myopic policy -/
namespace Dsn
open R7284d.Spec (ratOfInt discountedTotal policyValue transientAndCycle statesBy rewardsBy rewardOf successor ratOfDiscount isOptimal optimalPolicyOf allPolicies optimalValue signNearZero signNearOne expandAtOne valueDifference valueNumerator optimalNear blackwellPolicyOf myopicPolicyOf addPoly negatePoly shiftPoly timesOneMinusPower binomial)
theorem E_oneMore (e : Rat) : ∀ (s : List Int) (c : Int), E (oneMore s c) e = (c : Rat) + (1 - e) * E s e
  | [], c => by
    show E [c] e = _
    rw [E_cons, E_nil]
    grind
  | a :: r, c => by
    show E ((c + a) :: oneMore r (0 - a)) e = _
    rw [E_cons, E_cons, E_oneMore e r, Rat.intCast_add, Rat.intCast_sub]
    have : ((0 : Int) : Rat) = 0 := rfl
    rw [this]
    grind
theorem E_aboutOne (e : Rat) : ∀ p : List Int, E (aboutOne p) e = E p (1 - e)
  | [] => rfl
  | c :: r => by
    show E (oneMore (aboutOne r) c) e = _
    rw [E_oneMore, E_aboutOne e r, E_cons]
/-! ### the expansion at 1 -/
def Sx : List Int → Nat → Nat → Int
  | [], _, _ => 0
  | a :: l, k, j => a * Int.ofNat (binomial k j) + Sx l (k + 1) j
theorem Sx_zero : ∀ (l : List Int) (k : Nat), Sx l (k + 1) 0 = Sx l k 0
  | [], _ => rfl
  | a :: l, k => by
    show a * Int.ofNat (binomial (k + 1) 0) + Sx l (k + 2) 0 = a * Int.ofNat (binomial k 0) + Sx l (k + 1) 0
    rw [Sx_zero l (k + 1)]
    have h1 : binomial (k + 1) 0 = 1 := by simp [binomial]
    have h2 : binomial k 0 = 1 := by cases k <;> simp [binomial]
    rw [h1, h2]
theorem Sx_succ : ∀ (l : List Int) (k j : Nat), Sx l (k + 1) (j + 1) = Sx l k j + Sx l k (j + 1)
  | [], _, _ => rfl
  | a :: l, k, j => by
    show a * Int.ofNat (binomial (k + 1) (j + 1)) + Sx l (k + 2) (j + 1) = (a * Int.ofNat (binomial k j) + Sx l (k + 1) j) + (a * Int.ofNat (binomial k (j + 1)) + Sx l (k + 1) (j + 1))
    rw [Sx_succ l (k + 1) j]
    have h1 : binomial (k + 1) (j + 1) = binomial k j + binomial k (j + 1) := rfl
    rw [h1]
    have h2 : Int.ofNat (binomial k j + binomial k (j + 1)) = Int.ofNat (binomial k j) + Int.ofNat (binomial k (j + 1)) := rfl
    rw [h2, Int.mul_add]
    omega
theorem zip_sum (j : Nat) : ∀ (p : List Int) (k : Nat), ((p.zipIdx k).map fun e => e.1 * Int.ofNat (binomial e.2 j)).sum = Sx p k j
  | [], _ => rfl
  | a :: p, k => by
    rw [List.zipIdx_cons, List.map_cons, List.sum_cons, zip_sum j p (k + 1)]
    rfl
theorem oneMore_get0 (s : List Int) (c : Int) : (oneMore s c).getD 0 0 = c + s.getD 0 0 := by
  cases s <;> simp [oneMore]
theorem oneMore_get : ∀ (s : List Int) (c : Int) (j : Nat), (oneMore s c).getD (j + 1) 0 = s.getD (j + 1) 0 - s.getD j 0
  | [], c, j => by simp [oneMore]
  | a :: r, c, 0 => by
    show (oneMore r (0 - a)).getD 0 0 = _
    rw [oneMore_get0]
    simp
    omega
  | a :: r, c, j + 1 => by
    show (oneMore r (0 - a)).getD (j + 1) 0 = _
    rw [oneMore_get r (0 - a) j]
    simp
def sg (j : Nat) : Int := if j % 2 = 0 then 1 else -1
theorem sg_succ (j : Nat) : sg (j + 1) = -sg j := by
  unfold sg
  by_cases h : j % 2 = 0
  · rw [if_pos h, if_neg (by omega)]
  · rw [if_neg h, if_pos (by omega)]
    rfl
theorem about_get : ∀ (p : List Int) (j : Nat), (aboutOne p).getD j 0 = sg j * Sx p 0 j
  | [], j => by simp [aboutOne, Sx]
  | c :: r, 0 => by
    show (oneMore (aboutOne r) c).getD 0 0 = sg 0 * (c * Int.ofNat (binomial 0 0) + Sx r 1 0)
    rw [oneMore_get0, about_get r 0, Sx_zero r 0]
    simp [sg, binomial]
  | c :: r, j + 1 => by
    show (oneMore (aboutOne r) c).getD (j + 1) 0 = sg (j + 1) * (c * Int.ofNat (binomial 0 (j + 1)) + Sx r 1 (j + 1))
    rw [oneMore_get, about_get r (j + 1), about_get r j, Sx_succ r 0 j, sg_succ]
    have : binomial 0 (j + 1) = 0 := rfl
    rw [this]
    generalize sg j = a
    generalize Sx r 0 j = x
    generalize Sx r 0 (j + 1) = y
    grind
theorem expand_about (p : List Int) : expandAtOne p = aboutOne p := by
  apply List.ext_getElem
  · simp [expandAtOne, aboutOne_length]
  · intro j h1 h2
    have e := about_get p j
    have g : (aboutOne p).getD j 0 = (aboutOne p)[j] := by simp [h2]
    rw [g] at e
    rw [e]
    simp only [expandAtOne, List.getElem_map, List.getElem_range, zip_sum]
    rfl
/-! ### differences of values -/
theorem pow_lt1 {d : Rat} (h0 : 0 < d) (h1 : d < 1) (q : Nat) (hq : q = 1 ∨ q = 2 ∨ q = 3) : 0 < 1 - d ^ q := by
  have a : 0 < 1 - d := by grind
  have b : 0 < 1 + d := by grind
  have c : 0 < 1 + d + d * d := by have := Rat.mul_pos h0 h0; grind
  have p2 := Rat.mul_pos a b
  have p3 := Rat.mul_pos a c
  rcases hq with rfl | rfl | rfl <;> grind
theorem vnum {t : Sys} {f : Pol} (hs : OkS t) (hf : OkP t.length f) {p : Nat} (hp : p < t.length) {d : Rat} (h0 : 0 < d) (h1 : d < 1) :
    0 < 1 - d ^ (valueNumerator t f p).2 ∧ E (valueNumerator t f p).1 d = (1 - d ^ (valueNumerator t f p).2) * policyValue t d f p := by
  have hq : (transientAndCycle t f p).2.length = 1 ∨ (transientAndCycle t f p).2.length = 2 ∨ (transientAndCycle t f p).2.length = 3 := by
    rcases cyc hs hf hp with ⟨x, q⟩ | ⟨x, q⟩ | ⟨x, q⟩ | ⟨x, q⟩ | ⟨x, q⟩ | ⟨x, q⟩ <;> rw [q] <;> simp
  have hD := pow_lt1 h0 h1 _ hq
  have e1 : (valueNumerator t f p).2 = (transientAndCycle t f p).2.length := rfl
  have e2 : (valueNumerator t f p).1 = addPoly (timesOneMinusPower (transientAndCycle t f p).2.length (transientAndCycle t f p).1) (shiftPoly (transientAndCycle t f p).1.length (transientAndCycle t f p).2) := rfl
  rw [e1, e2]
  refine ⟨hD, ?_⟩
  rw [E_add, E_tomp, E_shift]
  unfold policyValue
  show _ = (1 - d ^ (transientAndCycle t f p).2.length) * (E (transientAndCycle t f p).1 d + d ^ (transientAndCycle t f p).1.length * (E (transientAndCycle t f p).2 d / (1 - d ^ (transientAndCycle t f p).2.length)))
  generalize E (transientAndCycle t f p).1 d = x at *
  generalize E (transientAndCycle t f p).2 d = y at *
  generalize d ^ (transientAndCycle t f p).1.length = z at *
  generalize 1 - d ^ (transientAndCycle t f p).2.length = w at *
  have : w ≠ 0 := by grind
  grind
theorem vdiff {t : Sys} (hs : OkS t) {f h : Pol} (hf : OkP t.length f) (hh : OkP t.length h) {p : Nat} (hp : p < t.length) {d : Rat} (h0 : 0 < d) (h1 : d < 1) : 0 ≤ E (valueDifference t f h p) d ↔ E (vpoly t h p) d ≤ E (vpoly t f p) d := by
  rw [← value_le hs hf hh hp h0 h1]
  obtain ⟨a0, a1⟩ := vnum hs hf hp h0 h1
  obtain ⟨b0, b1⟩ := vnum hs hh hp h0 h1
  have e : E (valueDifference t f h p) d = (1 - d ^ (valueNumerator t h p).2) * E (valueNumerator t f p).1 d + -((1 - d ^ (valueNumerator t f p).2) * E (valueNumerator t h p).1 d) := by
    show E (addPoly (timesOneMinusPower (valueNumerator t h p).2 (valueNumerator t f p).1) (negatePoly (timesOneMinusPower (valueNumerator t f p).2 (valueNumerator t h p).1))) d = _
    rw [E_add, E_neg, E_tomp, E_tomp]
  rw [e, a1, b1]
  generalize 1 - d ^ (valueNumerator t f p).2 = x at *
  generalize 1 - d ^ (valueNumerator t h p).2 = y at *
  generalize policyValue t d f p = u at *
  generalize policyValue t d h p = v at *
  have k := Rat.mul_pos a0 b0
  have e2 : y * (x * u) + -(x * (y * v)) = (x * y) * (u - v) := by grind
  rw [e2]
  constructor
  · intro z
    apply Rat.not_lt.mp
    intro c
    have := Rat.mul_pos k (show 0 < v - u by grind)
    grind
  · intro z
    exact Rat.mul_nonneg (Rat.le_of_lt k) (by grind)
theorem less_ev {a b : List Int} (hl : a.length = b.length) (h : isLess a b = true) : Ev fun e => E a e < E b e := by
  have z := (less_sgn a b hl).mp h
  rcases sgn_ev (subL b a) with ⟨h1, h2⟩ | ⟨h1, h2⟩ | ⟨h1, h2⟩
  · refine h2.imp fun e _ _ q => ?_
    rw [E_sub e b a hl.symm] at q
    grind
  · omega
  · omega
/-- where the policies' values are read along m, as e goes to 0 -/
theorem near_pol {t : Sys} (hs : OkS t) (near : List Int → Int) (A : Pol → Nat → List Int) (m : Rat → Rat) (hm : ∀ e, 0 < e → e < 1 → 0 < m e ∧ m e < 1) (hA : ∀ f p e, E (A f p) e = E (vpoly t f p) (m e)) (hl : ∀ f p, (A f p).length = 9)
    (hn : ∀ l : List Int, 0 ≤ near l ↔ Ev fun e => 0 ≤ E l (m e)) :
    firstBest (wordsL t.length) ((wordsL t.length).map fun h => (List.range t.length).map (A h)) = ((wordsL t.length).find? (optimalNear t near)).getD [] := by
  have nl : ∀ f h p, isLess (A f p) (A h p) = false ↔ Ev fun e => E (vpoly t h p) (m e) ≤ E (vpoly t f p) (m e) := fun f h p => by
    rw [nless _ _ (by rw [hl, hl])]
    constructor
    · intro z
      exact z.imp fun e _ _ q => by rwa [hA, hA] at q
    · intro z
      exact z.imp fun e _ _ q => by rwa [hA, hA]
  have on : ∀ f, optimalNear t near f = true ↔ ∀ p, p < t.length → ∀ h ∈ wordsL t.length, 0 ≤ near (valueDifference t f h p) := fun f => by
    unfold optimalNear allPolicies
    rw [List.all_eq_true]
    constructor
    · intro hh p hp h hm
      have := List.all_eq_true.mp (hh p (List.mem_range.mpr hp)) h hm
      simpa using this
    · intro hh p hp
      rw [List.all_eq_true]
      intro h hm
      simpa using hh p (List.mem_range.mp hp) h hm
  have cmp : ∀ f ∈ wordsL t.length, ∀ h ∈ wordsL t.length, ∀ p, p < t.length → (0 ≤ near (valueDifference t f h p) ↔ isLess (A f p) (A h p) = false) := fun f hf h hh p hp => by
    rw [hn, nl]
    constructor
    · intro z
      exact z.imp fun e h0 h1 q => (vdiff hs (words_ok _ _ hf) (words_ok _ _ hh) hp (hm e h0 h1).1 (hm e h0 h1).2).mp q
    · intro z
      exact z.imp fun e h0 h1 q => (vdiff hs (words_ok _ _ hf) (words_ok _ _ hh) hp (hm e h0 h1).1 (hm e h0 h1).2).mpr q
  refine firstBest_find t.length A (wordsL t.length) (optimalNear t near) (fun f hf => ?_) ?_
  · rw [on]
    exact ⟨fun z h hh p hp => (cmp f hf h hh p hp).mp (z p hp h hh), fun z p hp h hh => (cmp f hf h hh p hp).mpr (z h hh p hp)⟩
  · have all : Ev fun e => ∀ f ∈ wordsL t.length, ∀ h ∈ wordsL t.length, ∀ p ∈ List.range t.length, isLess (A f p) (A h p) = true → E (A f p) e < E (A h p) e :=
      Ev.all fun f _ => Ev.all fun h _ => Ev.all fun p _ => by
        cases c : isLess (A f p) (A h p) with
        | true => exact (less_ev (by rw [hl, hl]) c).imp fun e _ _ q _ => q
        | false => exact ⟨1, by decide, fun e _ _ z => by cases z⟩
    obtain ⟨e, h0, h1, q⟩ := all.ex
    obtain ⟨m0, m1⟩ := hm e h0 h1
    obtain ⟨f, hf, ho⟩ := exists_opt hs m0 m1
    refine ⟨f, hf, (on f).mpr fun p hp h hh => (cmp f hf h hh p hp).mpr ?_⟩
    cases c : isLess (A f p) (A h p) with
    | false => rfl
    | true =>
      have a := q f hf h hh p (List.mem_range.mpr hp) c
      have b := (value_le hs (words_ok _ _ hf) (words_ok _ _ hh) hp m0 m1).mp (ho p hp h hh)
      rw [hA, hA] at a
      exact absurd b (Rat.not_le.mpr a)
theorem blaPol_eq {t : Sys} (hs : OkS t) : blaPol t = blackwellPolicyOf t := by
  refine near_pol hs signNearOne (fun f p => aboutOne (vpoly t f p)) (fun e => 1 - e) (fun e h0 h1 => ⟨by grind, by grind⟩) (fun f p e => E_aboutOne e _) (fun f p => by rw [aboutOne_length, vpoly_length]) fun l => ?_
  unfold signNearOne
  rw [sgn_nonneg, expand_about]
  constructor
  · intro z
    exact z.imp fun e _ _ q => by rwa [E_aboutOne] at q
  · intro z
    exact z.imp fun e _ _ q => by rwa [E_aboutOne]
theorem myoPol_eq {t : Sys} (hs : OkS t) : myoPol t = myopicPolicyOf t :=
  near_pol hs signNearZero (fun f p => vpoly t f p) (fun e => e) (fun e h0 h1 => ⟨h0, h1⟩) (fun f p e => rfl) (fun f p => vpoly_length t f p) fun l => sgn_nonneg l
end Dsn
end

section
set_option maxHeartbeats 4000000
/-! # The law: averages, words -/
namespace Dsn
open R7284d.Spec (ratOfInt discountedTotal discountedSum policyValue transientAndCycle statesBy rewardsBy rewardOf successor ratOfDiscount optimalPolicyOf optimalValue averageReward maxAverage maxRat isOptimalLetter isOptimalWord optimalWords endState letters wordsOfLength allPolicies)
theorem mk_eq {a b : Int} {m n : Nat} (hm : m ≠ 0) (hn : n ≠ 0) (h : a * (n : Int) = b * (m : Int)) : mkRat a m = mkRat b n := (Rat.mkRat_eq_iff hm hn).mpr h
/-! ### averages -/
theorem avg_eq {t : Sys} {f : Pol} (hs : OkS t) (hf : OkP t.length f) {p : Nat} (h : p < t.length) : mkRat ((rwd t f p).drop 3).sum 6 = averageReward t f p := by
  unfold averageReward
  rw [rwd_eq]
  rcases cyc hs hf h with ⟨x, q⟩ | ⟨x, q⟩ | ⟨x, q⟩ | ⟨x, q⟩ | ⟨x, q⟩ | ⟨x, q⟩
  all_goals
    rw [q]
    simp only [x, List.drop_succ_cons, List.drop_zero, List.sum_cons, List.sum_nil, List.length_cons, List.length_nil]
    refine mk_eq (by decide) (by decide) ?_
    simp only [Nat.zero_add, Nat.reduceAdd]
    omega
theorem avgs_eq {t : Sys} {f : Pol} (hs : OkS t) (hf : OkP t.length f) : avgs t f = (List.range t.length).map fun p => frR (averageReward t f p) := by
  unfold avgs rsums
  rw [List.map_map]
  refine List.map_congr_left fun p hp => ?_
  show rD ((rwd t f p).drop 3).sum 6 = _
  rw [rD_eq (by decide), avg_eq hs hf (List.mem_range.mp hp)]
def rsum (t : Sys) (f : Pol) (p : Nat) : Int := ((rwd t f p).drop 3).sum
theorem fold_map (n : Nat) : ∀ (l : List Pol) (t : Sys) (g : Nat → Int), t.length = n → l.foldl (fun g f => List.zipWith mx g (rsums t f)) ((List.range n).map g) = (List.range n).map fun p => l.foldl (fun x f => mx x (rsum t f p)) (g p)
  | [], t, g, _ => rfl
  | f :: l, t, g, e => by
    have e1 : List.zipWith mx ((List.range n).map g) (rsums t f) = (List.range n).map fun p => mx (g p) (rsum t f p) := by
      unfold rsums
      rw [e, List.zipWith_map, List.zipWith_self]
      rfl
    rw [List.foldl_cons, e1, fold_map n l t _ e]
    rfl
theorem mk6_lt (a b : Int) : mkRat a 6 < mkRat b 6 ↔ a < b := by
  rw [Rat.mkRat_eq_div, Rat.mkRat_eq_div, Rat.div_lt_iff (by decide), ← Rat.intCast_lt_intCast]
  have : (((6 : Nat)) : Rat) = 6 := rfl
  rw [this]
  constructor
  · intro h; grind
  · intro h; grind
theorem max_fold (t : Sys) (p : Nat) : ∀ (l : List Pol) (x : Int), mkRat (l.foldl (fun x f => mx x (rsum t f p)) x) 6 = (l.map fun f => mkRat (rsum t f p) 6).foldl (fun x y => if x < y then y else x) (mkRat x 6)
  | [], x => rfl
  | f :: l, x => by
    rw [List.foldl_cons, List.map_cons, List.foldl_cons, max_fold t p l]
    congr 1
    unfold mx
    by_cases c : rsum t f p > x
    · rw [if_pos c, if_pos ((mk6_lt _ _).mpr c)]
    · rw [if_neg c, if_neg fun z => c ((mk6_lt _ _).mp z)]
theorem maxAvgs_eq {t : Sys} (hs : OkS t) : maxAvgs t = (List.range t.length).map fun p => frR (maxAverage t p) := by
  unfold maxAvgs maxSums pols
  have e0 : rsums t ((wordsL t.length).headD []) = (List.range t.length).map fun p => rsum t ((wordsL t.length).headD []) p := rfl
  rw [e0, fold_map t.length (wordsL t.length) t _ rfl, List.map_map]
  refine List.map_congr_left fun p hp => ?_
  show rD _ 6 = _
  rw [rD_eq (by decide), max_fold]
  unfold maxAverage maxRat allPolicies
  have em : (wordsL t.length).map (fun f => mkRat (rsum t f p) 6) = (wordsL t.length).map fun f => averageReward t f p :=
    List.map_congr_left fun f hf => avg_eq hs (words_ok _ _ hf) (List.mem_range.mp hp)
  rw [em]
  congr 2
  cases e : wordsL t.length with
  | nil => exact (words_ne _ e).elim
  | cons f fs =>
    have := avg_eq hs (words_ok _ f (by rw [e]; exact List.mem_cons_self)) (List.mem_range.mp hp)
    have e' : wordsOfLength t.length = f :: fs := e
    rw [e']
    exact this
/-! ### discounted rewards -/
theorem sum_wrew (t : Sys) (s : Rat) : ∀ (w : Wrd) (p : Nat), discountedSum t s p w = E (wrew t p w) s
  | [], _ => rfl
  | c :: w, p => by
    show ratOfInt (rewardOf t p c) + s * discountedSum t s (successor t p c) w = _
    rw [sum_wrew t s w]
    rfl
theorem dfold_rat {g : Dis} (hg : OkD g) {b : Int × Nat} (h0 : 0 < b.2) : ∀ rs : List Int, ((dfold g b rs).1 : Rat) / ((dfold g b rs).2 : Rat) = E rs (sR g) + sR g ^ rs.length * ((b.1 : Rat) / (b.2 : Rat))
  | [] => by
    show (b.1 : Rat) / (b.2 : Rat) = 0 + sR g ^ 0 * _
    rw [Rat.pow_zero]
    grind
  | r :: rs => by
    have ih := dfold_rat hg h0 rs
    have d0 := nat_pos (dfold_le g b hg h0 rs).1
    have h2 := nat_pos (Nat.lt_trans hg.p0 hg.p1)
    have e := sR_mul hg
    show ((r * (g.2 : Int) * ((dfold g b rs).2 : Int) + (g.1 : Int) * (dfold g b rs).1 : Int) : Rat) / ((g.2 * (dfold g b rs).2 : Nat) : Rat) = E (r :: rs) (sR g) + sR g ^ (rs.length + 1) * _
    have c1 : ((g.2 * (dfold g b rs).2 : Nat) : Rat) = (g.2 : Rat) * ((dfold g b rs).2 : Rat) := by simp
    rw [E_cons, Rat.pow_succ, c1, Rat.intCast_add, Rat.intCast_mul, Rat.intCast_mul, Rat.intCast_mul, Rat.intCast_natCast, Rat.intCast_natCast, Rat.intCast_natCast]
    have ih2 : ((dfold g b rs).1 : Rat) = (E rs (sR g) + sR g ^ rs.length * ((b.1 : Rat) / (b.2 : Rat))) * ((dfold g b rs).2 : Rat) := by
      rw [← ih]
      generalize ((dfold g b rs).2 : Rat) = y at *
      grind
    rw [ih2, ← e]
    generalize ((dfold g b rs).2 : Rat) = y at *
    generalize (b.1 : Rat) / (b.2 : Rat) = z at *
    generalize sR g ^ rs.length = w at *
    generalize E rs (sR g) = v at *
    generalize (g.2 : Rat) = u at *
    generalize sR g = s at *
    have hy : y ≠ 0 := by grind
    have hu : u ≠ 0 := by grind
    refine Eq.trans (b := (r : Rat) + s * (v + w * z)) ?_ (by grind)
    have : u * y ≠ 0 := by
      have := Rat.mul_pos h2 d0
      grind
    generalize v + w * z = q
    grind
theorem disc_eq {g : Dis} (hg : OkD g) {b : Int × Nat} (h0 : 0 < b.2) (rs : List Int) : disc g rs b = frR (E rs (sR g) + sR g ^ rs.length * ((b.1 : Rat) / (b.2 : Rat))) := by
  unfold disc
  rw [rD_eq (dfold_le g b hg h0 rs).1, Rat.mkRat_eq_div, dfold_rat hg h0]
theorem wrewF_eq {g : Dis} (hg : OkD g) (t : Sys) (w : Wrd) : wrewF t g w = frR (discountedSum t (sR g) 0 w) := by
  unfold wrewF
  rw [disc_eq hg (by decide), sum_wrew]
  congr 1
  have : ((((0 : Int), (1 : Nat)).1 : Int) : Rat) = 0 := rfl
  rw [this]
  grind
theorem frN_div (x : Rat) : (((frN (frR x)).1 : Int) : Rat) / (((frN (frR x)).2 : Nat) : Rat) = x := by
  have : (frN (frR x)).2 = x.den := by simp [frN, frR]
  rw [this]
  show ((x.num : Int) : Rat) / (x.den : Rat) = x
  rw [← Rat.mkRat_eq_div]
  exact Rat.mkRat_self x
end Dsn
end

section
set_option maxHeartbeats 4000000
/-! # The law: optimal words -/
namespace Dsn
open R7284d.Spec (ratOfInt discountedTotal discountedSum policyValue rewardOf successor ratOfDiscount optimalPolicyOf optimalValue isOptimalLetter isOptimalWord optimalWords endState letters wordsOfLength)
theorem bests_eq {t : Sys} {g : Dis} (hs : OkS t) (hg : OkD g) : bests t g = (List.range t.length).map fun p => frR (optimalValue t (sR g) p) := by
  rw [bests, pvals_eq hs hg (optPol_ok t g), optPol_eq hs hg]
  rfl
theorem bests_get {t : Sys} {g : Dis} (hs : OkS t) (hg : OkD g) {p : Nat} (hp : p < t.length) : (bests t g).getD p (0, 1) = frR (optimalValue t (sR g) p) := by
  rw [bests_eq hs hg]
  simp [hp]
theorem frN_pos (x : Rat) : 0 < (frN (frR x)).2 := by
  have : (frN (frR x)).2 = x.den := by simp [frN, frR]
  rw [this]
  exact x.den_pos
theorem pres_eq {t : Sys} {g : Dis} (hs : OkS t) (hg : OkD g) {p c : Nat} (hp : p < t.length) (hc : c < 2) : presF t g (bests t g) p c = isOptimalLetter t (sR g) p c := by
  unfold presF isOptimalLetter
  rw [bests_get hs hg (succ_lt hs hp hc), bests_get hs hg hp, disc_eq hg (frN_pos _), frN_div]
  have e : E [rewardOf t p c] (sR g) + sR g ^ [rewardOf t p c].length * optimalValue t (sR g) (successor t p c) = ratOfInt (rewardOf t p c) + sR g * optimalValue t (sR g) (successor t p c) := by
    rw [E_cons, E_nil, ratI]
    show _ + _ + sR g ^ (0 + 1) * _ = _
    rw [Rat.pow_succ, Rat.pow_zero]
    grind
  rw [e]
  rw [Bool.eq_iff_iff, decide_eq_true_eq, beq_iff_eq]
  exact ⟨fun h => (frR_inj h).symm, fun h => by rw [h]⟩
theorem isOpt_eq {t : Sys} {g : Dis} (hs : OkS t) (hg : OkD g) : ∀ (w : Wrd) (p : Nat), p < t.length → two w → isOptF t g (bests t g) p w = isOptimalWord t (sR g) p w
  | [], _, _, _ => rfl
  | c :: w, p, hp, hw => by
    have hc := hw c List.mem_cons_self
    show (presF t g (bests t g) p c && isOptF t g (bests t g) (successor t p c) w) = (isOptimalLetter t (sR g) p c && isOptimalWord t (sR g) (successor t p c) w)
    rw [pres_eq hs hg hp hc, isOpt_eq hs hg w _ (succ_lt hs hp hc) fun c' h' => hw c' (List.mem_cons_of_mem _ h')]
theorem optWord_snoc (t : Sys) (s : Rat) (c : Nat) : ∀ (w : Wrd) (p : Nat), isOptimalWord t s p (w ++ [c]) = (isOptimalWord t s p w && isOptimalLetter t s (endState t p w) c)
  | [], p => by
    show (isOptimalLetter t s p c && true) = (true && isOptimalLetter t s p c)
    simp
  | d :: w, p => by
    show (isOptimalLetter t s p d && isOptimalWord t s (successor t p d) (w ++ [c])) = ((isOptimalLetter t s p d && isOptimalWord t s (successor t p d) w) && isOptimalLetter t s (endState t (successor t p d) w) c)
    rw [optWord_snoc t s c w, Bool.and_assoc]
theorem longer_filter {t : Sys} {g : Dis} (hs : OkS t) (hg : OkD g) : ∀ ws : List Wrd, (∀ w ∈ ws, two w) → longerF t g (bests t g) (ws.filter (isOptimalWord t (sR g) 0)) = (ws.flatMap fun w => letters.map fun c => w ++ [c]).filter (isOptimalWord t (sR g) 0)
  | [], _ => rfl
  | w :: ws, h => by
    have ih := longer_filter hs hg ws fun w' h' => h w' (List.mem_cons_of_mem _ h')
    have hw := h w List.mem_cons_self
    have hp := hs.pos
    have he := end_lt hs w 0 (by omega) hw
    have p0 := pres_eq hs hg he (c := 0) (by decide)
    have p1 := pres_eq hs hg he (c := 1) (by decide)
    rw [List.flatMap_cons, List.filter_append, ← ih]
    have hl : (letters.map fun c => w ++ [c]).filter (isOptimalWord t (sR g) 0) = if isOptimalWord t (sR g) 0 w = true then ([0, 1].filter fun c => presF t g (bests t g) (endState t 0 w) c).map fun c => w ++ [c] else [] := by
      simp only [letters, List.map_cons, List.map_nil, List.filter_cons, List.filter_nil, optWord_snoc, p0, p1]
      cases isOptimalWord t (sR g) 0 w <;> cases isOptimalLetter t (sR g) (endState t 0 w) 0 <;> cases isOptimalLetter t (sR g) (endState t 0 w) 1 <;> simp
    rw [hl, List.filter_cons]
    by_cases c : isOptimalWord t (sR g) 0 w = true
    · rw [if_pos c, if_pos c]
      rfl
    · rw [if_neg c, if_neg c]
      rfl
theorem last_eq {t : Sys} {g : Dis} (hs : OkS t) (hg : OkD g) : ∀ n, lastF t g (bests t g) n = (wordsL n).filter (isOptimalWord t (sR g) 0)
  | 0 => rfl
  | n + 1 => by
    show longerF t g (bests t g) (lastF t g (bests t g) n) = ((wordsL n).flatMap fun w => letters.map fun c => w ++ [c]).filter _
    rw [last_eq hs hg n, longer_filter hs hg _ fun w hw => (words_ok n w hw).two]
theorem optWords_eq {t : Sys} {g : Dis} (hs : OkS t) (hg : OkD g) : ∀ n, optWordsF t g (bests t g) n = optimalWords t (sR g) n
  | 0 => by
    show [[]] = ((List.range 1).flatMap fun n => (wordsL n).filter (isOptimalWord t (sR g) 0))
    simp [List.range, List.range.loop, R7284d.Spec.wordsOfLength]
    rfl
  | n + 1 => by
    show optWordsF t g (bests t g) n ++ lastF t g (bests t g) (n + 1) = (List.range (n + 1 + 1)).flatMap _
    rw [optWords_eq hs hg n, last_eq hs hg, List.range_succ, List.flatMap_append]
    simp [optimalWords]
end Dsn
end

section
set_option maxHeartbeats 4000000
/-! # The law: what is written -/
namespace Dsn
open R7284d.Spec (units nat record intValue fractionValue wordValue text)
abbrev Pl := R7284d.Spec.Plain
/-- the octets of a value of the specification -/
def Wp (v : Pl) : List Int := oI (RWire.write (Rust.given v))
theorem low_wN : ∀ (k n : Nat) (i q : Int), i = (n : Int) + q * 256 ^ k → oI (RWire.low k n) = wN k i
  | 0, _, _, _, _ => rfl
  | k + 1, n, i, q, h => by
    have h' : i = (n : Int) + (q * 256 ^ k) * 256 := by rw [h, Int.pow_succ, Int.mul_assoc]
    generalize hQ : q * 256 ^ k = Q at h'
    have hd : i / 256 = ((n / 256 : Nat) : Int) + Q := by
      rw [h', Int.add_mul_ediv_right _ _ (by decide)]
      simp
    have ih := low_wN k (n / 256) (i / 256) q (by rw [hd, hQ])
    show ((((UInt8.ofNat n).toNat : Nat) : Int)) :: oI (RWire.low k (n / 256)) = (i - i / 256 * 256) :: wN k (i / 256)
    rw [ih]
    congr 1
    have e : (UInt8.ofNat n).toNat = n % 256 := by simp
    rw [e]
    omega
theorem low4 (n : Nat) : oI (RWire.low 4 n) = wN 4 (n : Int) := low_wN 4 n n 0 (by simp)
theorem W_int (z : Int) : Wp (intValue z) = wInt z := by
  show oI (4 :: RWire.writeInt z) = 4 :: wN 8 z
  have e : oI (4 :: RWire.writeInt z) = 4 :: oI (RWire.writeInt z) := rfl
  rw [e]
  congr 1
  refine low_wN 8 _ z (z / 18446744073709551616) ?_
  have : (0 : Int) ≤ z % 18446744073709551616 := Int.emod_nonneg _ (by decide)
  show z = (((z % 18446744073709551616).toNat : Nat) : Int) + z / 18446744073709551616 * 256 ^ 8
  have h8 : (256 : Int) ^ 8 = 18446744073709551616 := by decide
  rw [h8]
  omega
theorem W_nat (n : Nat) : Wp (nat n) = wInt (n : Int) := W_int n
theorem W_bool (b : Bool) : Wp (.bool b) = wTr b := by cases b <;> rfl
theorem W_undef : Wp .undef = [0] := rfl
theorem W_str (u : List UInt16) : Wp (.str u) = wText (u.map fun c => ((c.toNat % 256 : Nat) : Int)) := by
  show oI (6 :: (RWire.low 4 (u.map Rust.octetOf).length ++ u.map Rust.octetOf)) = _
  have e : oI (6 :: (RWire.low 4 (u.map Rust.octetOf).length ++ u.map Rust.octetOf)) = 6 :: (oI (RWire.low 4 (u.map Rust.octetOf).length) ++ oI (u.map Rust.octetOf)) := by
    rw [← oI_append]
    rfl
  rw [e, low4]
  have e2 : oI (u.map Rust.octetOf) = u.map fun c => ((c.toNat % 256 : Nat) : Int) := by
    simp only [oI, List.map_map]
    refine List.map_congr_left fun c _ => ?_
    simp [Rust.octetOf]
  rw [e2]
  simp [wText]
theorem given_arr (l : List Pl) : Rust.givenAll l = l.map Rust.given := by
  induction l with
  | nil => simp [Rust.givenAll]
  | cons a l ih => simp [Rust.givenAll, ih]
theorem write_many (l : List RWire.Value) : oI (RWire.writeMany l) = (l.map fun v => oI (RWire.write v)).flatten := by
  induction l with
  | nil => simp [RWire.writeMany, oI]
  | cons a l ih => rw [RWire.writeMany, oI_append, ih]; rfl
theorem W_arr (l : List Pl) : Wp (.arr l) = wList (l.map Wp) := by
  have g : Rust.given (.arr l) = .list (l.map Rust.given) := by rw [Rust.given, given_arr]
  unfold Wp
  rw [g, RWire.write]
  show 7 :: oI (RWire.writeCount (l.map Rust.given).length ++ RWire.writeMany (l.map Rust.given)) = _
  rw [oI_append, write_many]
  show 7 :: (oI (RWire.low 4 (l.map Rust.given).length) ++ _) = _
  rw [low4]
  simp [wList, Function.comp_def]
theorem W_frac (x : Rat) : Wp (fractionValue x) = wFrac (frR x) := by
  show Wp (.arr [intValue x.num, nat x.den]) = _
  rw [W_arr]
  show wList [Wp (intValue x.num), Wp (nat x.den)] = wList [wInt x.num, wInt (x.den : Int)]
  rw [W_int, W_nat]
theorem W_word {w : Wrd} (h : two w) : Wp (wordValue w) = wWord w := by
  show Wp (.str (w.map fun c => UInt16.ofNat (97 + c))) = _
  rw [W_str, List.map_map]
  unfold wWord
  congr 1
  refine List.map_congr_left fun c hc => ?_
  rcases c01 (h c hc) with rfl | rfl <;> decide
/-- a name, as the program writes it -/
def NameOk (s : String) : Prop := octs (PySem.Str.ofString s) = oI ((units s).map Rust.octetOf)
theorem given_fields (l : List (List UInt16 × Pl)) : Rust.givenFields l = l.map fun e => (e.1.map Rust.octetOf, Rust.given e.2) := by
  induction l with
  | nil => simp [Rust.givenFields]
  | cons a l ih => obtain ⟨n, v⟩ := a; simp [Rust.givenFields, ih]
theorem write_entries (l : List (RWire.Text × RWire.Value)) : oI (RWire.writeEntries l) = l.flatMap fun e => wN 4 (e.1.length : Nat) ++ (oI e.1 ++ oI (RWire.write e.2)) := by
  induction l with
  | nil => simp [RWire.writeEntries, oI]
  | cons a l ih =>
    rw [RWire.writeEntries, oI_append, oI_append, ih, List.flatMap_cons]
    show oI (RWire.low 4 a.1.length ++ a.1) ++ _ = _
    rw [oI_append, low4]
    simp
theorem W_record (fs : List (String × Pl)) (h : ∀ f ∈ fs, NameOk f.1) : Wp (record fs) = wRec (fs.map fun f => (PySem.Str.ofString f.1, Wp f.2)) := by
  have g : Rust.given (record fs) = .record (fs.map fun f => ((units f.1).map Rust.octetOf, Rust.given f.2)) := by
    rw [record, Rust.given, given_fields, List.map_map]
    rfl
  unfold Wp
  rw [g, RWire.write]
  show 8 :: oI (RWire.writeCount _ ++ RWire.writeEntries _) = _
  rw [oI_append, write_entries]
  show 8 :: (oI (RWire.low 4 _) ++ _) = _
  rw [low4]
  unfold wRec
  congr 2
  · simp
  · simp only [List.flatMap_map]
    have e : ∀ f ∈ fs, (wN 4 ((((units f.1).map Rust.octetOf).length : Nat)) ++ (oI ((units f.1).map Rust.octetOf) ++ oI (RWire.write (Rust.given f.2)))) = wMem (PySem.Str.ofString f.1, oI (RWire.write (Rust.given f.2))) := fun f hf => by
      have hn := h f hf
      have hl : ((units f.1).map Rust.octetOf).length = (PySem.Str.ofString f.1).length := by
        have := congrArg List.length hn
        rw [octs_length, oI_length] at this
        exact this.symm
      unfold wMem
      rw [hl, ← hn]
    clear h g
    induction fs with
    | nil => rfl
    | cons a l ih =>
      rw [List.flatMap_cons, List.flatMap_cons, e a List.mem_cons_self, ih fun f hf => e f (List.mem_cons_of_mem _ hf)]
theorem W_again {v : RWire.Value} (ho : okV v = true) (hp : primV v = true) : Wp (Rust.taken v) = wAgain v := by
  cases v with
  | nothing => rfl
  | null => rfl
  | bool b => cases b <;> rfl
  | int i => exact W_int i
  | text u =>
    show Wp (.str (u.map Rust.unitOf)) = wText (oI u)
    rw [W_str, List.map_map]
    congr 1
    simp only [oI]
    refine List.map_congr_left fun c _ => ?_
    have := c.toNat_lt
    simp [Rust.unitOf]
    omega
  | list l => cases hp
  | record l => cases hp
  | big i => exact (noBig_of ho).elim
  | octets u => exact (noOct_of ho).elim
  | wide u => exact (noWide_of ho).elim
end Dsn
end

section
set_option maxHeartbeats 4000000
/-! # The law: doors without slots -/
namespace Dsn
open R7284d.Spec (readSystem readDiscount readWord readPolicy readInteger andThen record nat fractionValue wordValue valuePerState rewardFn valuesFn optimalFn optimalPrefixFn blackwellFn myopicFn averagesFn maxAveragesFn withDiscount endState discountedSum ratOfDiscount policyValue optimalValue optimalPolicyOf averageReward maxAverage isOptimalWord blackwellPolicyOf myopicPolicyOf)
def mapW : Except Err Pl → Except Err (List Int)
  | .ok p => .ok (Wp p)
  | .error e => .error e
theorem nm_state : NameOk "state" := by unfold NameOk; decide +kernel
theorem nm_reward : NameOk "reward" := by unfold NameOk; decide +kernel
theorem nm_policy : NameOk "policy" := by unfold NameOk; decide +kernel
theorem nm_values : NameOk "values" := by unfold NameOk; decide +kernel
theorem nm_word : NameOk "word" := by unfold NameOk; decide +kernel
theorem nm_maxValue : NameOk "maxValue" := by unfold NameOk; decide +kernel
theorem nm_value : NameOk "value" := by unfold NameOk; decide +kernel
theorem nm_done : NameOk "done" := by unfold NameOk; decide +kernel
theorem W_rec2 {s1 s2 : String} (h1 : NameOk s1) (h2 : NameOk s2) (a b : Pl) : Wp (record [(s1, a), (s2, b)]) = wRec [(PySem.Str.ofString s1, Wp a), (PySem.Str.ofString s2, Wp b)] := by
  refine W_record _ fun f hf => ?_
  rcases List.mem_cons.mp hf with rfl | hf
  · exact h1
  · rcases List.mem_cons.mp hf with rfl | hf
    · exact h2
    · cases hf
theorem W_per (t : Sys) (f : Nat → Rat) : Wp (valuePerState t f) = wFracs ((List.range t.length).map fun p => frR (f p)) := by
  unfold valuePerState
  rw [W_arr, List.map_map, wFracs, List.map_map]
  congr 1
  exact List.map_congr_left fun p _ => W_frac (f p)
theorem reward_eq {a b c : RWire.Value} (oa : okV a = true) (ob : okV b = true) (oc : okV c = true) : aReward a b c = mapW (rewardFn (Tk a) (Tk b) (Tk c)) := by
  unfold aReward rewardFn withDiscount
  cases ha : readSystem (Tk a) with
  | error e => rfl
  | ok t =>
    cases hb : readDiscount (Tk b) with
    | error e => rfl
    | ok g =>
      cases hc : readWord (Tk c) with
      | error e => rfl
      | ok w =>
        show Except.ok _ = Except.ok (Wp (record [("state", nat (endState t 0 w)), ("reward", fractionValue (discountedSum t (ratOfDiscount g) 0 w))]))
        rw [W_rec2 nm_state nm_reward, W_nat, W_frac, wrewF_eq (dis_ok ob hb)]
        rfl
theorem values_eq {a b c : RWire.Value} (oa : okV a = true) (ob : okV b = true) (oc : okV c = true) : aValues a b c = mapW (valuesFn (Tk a) (Tk b) (Tk c)) := by
  unfold aValues valuesFn withDiscount
  cases ha : readSystem (Tk a) with
  | error e => rfl
  | ok t =>
    cases hb : readDiscount (Tk b) with
    | error e => rfl
    | ok g =>
      cases hc : readPolicy t (Tk c) with
      | error e => simp only [andThen, hc]; rfl
      | ok f =>
        simp only [andThen, hc]
        show Except.ok _ = Except.ok (Wp (valuePerState t (policyValue t (ratOfDiscount g) f)))
        rw [W_per, pvals_eq (sys_ok oa ha) (dis_ok ob hb) (policy_ok oc hc)]
        rfl
theorem optimal_eq {a b : RWire.Value} (oa : okV a = true) (ob : okV b = true) : aOptimal a b = mapW (optimalFn (Tk a) (Tk b)) := by
  unfold aOptimal optimalFn withDiscount
  cases ha : readSystem (Tk a) with
  | error e => rfl
  | ok t =>
    cases hb : readDiscount (Tk b) with
    | error e => rfl
    | ok g =>
      show Except.ok _ = Except.ok (Wp (record [("policy", wordValue (optimalPolicyOf t (ratOfDiscount g))), ("values", valuePerState t (optimalValue t (ratOfDiscount g)))]))
      have e := optPol_eq (sys_ok oa ha) (dis_ok ob hb)
      have h2 := (optPol_ok t g).two
      rw [e] at h2
      have h2' : two (optimalPolicyOf t (ratOfDiscount g)) := h2
      rw [W_rec2 nm_policy nm_values, W_word h2', W_per, bests_eq (sys_ok oa ha) (dis_ok ob hb), e]
      rfl
theorem prefix_eq {a b c : RWire.Value} (oa : okV a = true) (ob : okV b = true) (oc : okV c = true) : aPrefix a b c = mapW (optimalPrefixFn (Tk a) (Tk b) (Tk c)) := by
  unfold aPrefix optimalPrefixFn withDiscount
  cases ha : readSystem (Tk a) with
  | error e => rfl
  | ok t =>
    cases hb : readDiscount (Tk b) with
    | error e => rfl
    | ok g =>
      cases hc : readWord (Tk c) with
      | error e => rfl
      | ok w =>
        have hs := sys_ok oa ha
        have hp := hs.pos
        show Except.ok _ = Except.ok (Wp (.bool (isOptimalWord t (ratOfDiscount g) 0 w)))
        rw [W_bool, isOpt_eq hs (dis_ok ob hb) w 0 (by omega) (word_ok oc hc).1]
        rfl
theorem averages_eq {a b : RWire.Value} (oa : okV a = true) (ob : okV b = true) : aAverages a b = mapW (averagesFn (Tk a) (Tk b)) := by
  unfold aAverages averagesFn
  cases ha : readSystem (Tk a) with
  | error e => rfl
  | ok t =>
    cases hc : readPolicy t (Tk b) with
    | error e => simp only [andThen, hc]; rfl
    | ok f =>
      simp only [andThen, hc]
      show Except.ok _ = Except.ok (Wp (valuePerState t (averageReward t f)))
      rw [W_per, avgs_eq (sys_ok oa ha) (policy_ok ob hc)]
theorem bla_eq {a : RWire.Value} (oa : okV a = true) : aBla a = mapW (blackwellFn (Tk a)) := by
  unfold aBla blackwellFn
  cases ha : readSystem (Tk a) with
  | error e => rfl
  | ok t =>
    show Except.ok _ = Except.ok (Wp (wordValue (blackwellPolicyOf t)))
    have e := blaPol_eq (sys_ok oa ha)
    have h2 := (blaPol_ok t).two
    rw [e] at h2
    rw [W_word h2, e]
theorem myo_eq {a : RWire.Value} (oa : okV a = true) : aMyo a = mapW (myopicFn (Tk a)) := by
  unfold aMyo myopicFn
  cases ha : readSystem (Tk a) with
  | error e => rfl
  | ok t =>
    show Except.ok _ = Except.ok (Wp (wordValue (myopicPolicyOf t)))
    have e := myoPol_eq (sys_ok oa ha)
    have h2 := (myoPol_ok t).two
    rw [e] at h2
    rw [W_word h2, e]
theorem maxa_eq {a : RWire.Value} (oa : okV a = true) : aMax a = mapW (maxAveragesFn (Tk a)) := by
  unfold aMax maxAveragesFn
  cases ha : readSystem (Tk a) with
  | error e => rfl
  | ok t =>
    show Except.ok _ = Except.ok (Wp (valuePerState t (maxAverage t)))
    rw [W_per, maxAvgs_eq (sys_ok oa ha)]
end Dsn
end

section
set_option maxHeartbeats 4000000
/-! # The law: walks -/
namespace Dsn
open R7284d.Spec (record nat fractionValue wordValue endState discountedSum ratOfDiscount optimalValue walkValue walkNext walkThrow walkReturn walkRequest outcomeValue settledValue iteratorResult Outcome Request newWalk createWalk isUndoRequest parseWord units text yieldWalk maxWordLength)
abbrev SW := R7284d.Spec.Walk
structure RelWk (h : SW) (k : WalkS) : Prop where
  t : k.t = h.system
  g : k.g = h.discount
  best : k.best = bests h.system h.discount
  st : (h.state = .notStarted ∧ k.ph = 0 ∧ k.w = []) ∨ (∃ w, h.state = .running w ∧ k.ph = 1 ∧ k.w = w.reverse) ∨ (h.state = .finished ∧ k.ph = 2)
  ok : OkW k
theorem W_text {s : String} (h : NameOk s) : Wp (text s) = wText (octs (PySem.Str.ofString s)) := by
  show Wp (.str (units s)) = _
  rw [W_str, h]
  simp only [oI, List.map_map]
  rfl
theorem nm_result : NameOk "result" := by unfold NameOk; decide +kernel
theorem nm_thrown : NameOk "thrown" := by unfold NameOk; decide +kernel
theorem nm_complete : NameOk "complete" := by unfold NameOk; decide +kernel
theorem W_iter (v : Pl) (b : Bool) : Wp (iteratorResult v b) = wOut (Wp v) b := by
  show Wp (record [("value", v), ("done", .bool b)]) = _
  rw [W_rec2 nm_value nm_done, W_bool]
theorem W_res (v : Pl) (b : Bool) : Wp (.arr [text "result", v, .bool b]) = wRes (Wp v) b := by
  rw [W_arr]
  show wList [Wp (text "result"), Wp v, Wp (.bool b)] = _
  rw [W_text nm_result, W_bool]
theorem W_thr {v : RWire.Value} (ho : okV v = true) (hp : primV v = true) : Wp (.arr [text "thrown", Tk v]) = wThr v := by
  rw [W_arr]
  show wList [Wp (text "thrown"), Wp (Rust.taken v)] = _
  rw [W_text nm_thrown, W_again ho hp]
theorem tell_eq {t : Sys} {g : Dis} {k : WalkS} {w : Wrd} (et : k.t = t) (eg : k.g = g) (eb : k.best = bests t g) (ew : k.w = w) (ok : OkW k) : tellF k = Wp (walkValue t g w) := by
  subst et eg ew
  have hs := ok.s
  have hg := ok.d
  have hp := hs.pos
  have he := end_lt hs k.w 0 (by omega) ok.w2
  have e : walkValue k.t k.g k.w = record [("word", wordValue k.w), ("state", nat (endState k.t 0 k.w)), ("reward", fractionValue (discountedSum k.t (ratOfDiscount k.g) 0 k.w)), ("maxValue", fractionValue (discountedSum k.t (ratOfDiscount k.g) 0 k.w + ratOfDiscount k.g ^ k.w.length * optimalValue k.t (ratOfDiscount k.g) (endState k.t 0 k.w)))] := rfl
  rw [e, W_record _ fun f hf => ?_]
  · show tellF k = wRec [("word", Wp (wordValue k.w)), ("state", Wp (nat (endState k.t 0 k.w))), ("reward", Wp (fractionValue (discountedSum k.t (ratOfDiscount k.g) 0 k.w))), ("maxValue", Wp (fractionValue (discountedSum k.t (ratOfDiscount k.g) 0 k.w + ratOfDiscount k.g ^ k.w.length * optimalValue k.t (ratOfDiscount k.g) (endState k.t 0 k.w))))]
    rw [W_word ok.w2, W_nat, W_frac, W_frac]
    unfold tellF
    rw [eb, bests_get hs hg he, wrewF_eq hg, disc_eq hg (frN_pos _), frN_div, ← sum_wrew, wrew_length]
    rfl
  · simp only [List.mem_cons, List.not_mem_nil, or_false] at hf
    rcases hf with rfl | rfl | rfl | rfl
    · exact nm_word
    · exact nm_state
    · exact nm_reward
    · exact nm_maxValue
theorem isLet_iff {v : RWire.Value} (ho : okV v = true) : (isLetV v = true → ∃ c, c < 2 ∧ parseWord (Tk v) = some [c] ∧ ((octV v).map fun c => c.toNat - 97) = [c]) ∧ (isLetV v = false → ∀ c, parseWord (Tk v) ≠ some [c]) := by
  have pw : parseWord (Tk v) = _ := word_iff ho
  cases v with
  | text u =>
    refine ⟨fun h => ?_, fun h c hc => ?_⟩
    · have h' : oI u = [97] ∨ oI u = [98] := of_decide_eq_true h
      match u, h' with
      | [], h' => simp [oI] at h'
      | [a], h' =>
        have ha : a.toNat = 97 ∨ a.toNat = 98 := by simp [oI] at h'; omega
        refine ⟨a.toNat - 97, by omega, ?_, by simp [octV]⟩
        rw [pw]
        have : areLetV (.text [a]) = true := by simp [areLetV]; exact ha
        rw [if_pos this]
        simp [octV]
      | _ :: _ :: _, h' => simp [oI] at h'
    · rw [pw] at hc
      split at hc
      · rename_i hl
        simp [octV] at hc
        match u, hc with
        | [a], hc =>
          have ha : a.toNat = 97 ∨ a.toNat = 98 := by simp [areLetV] at hl; exact hl
          have : isLetV (.text [a]) = true := by
            simp [isLetV, oI]
            omega
          rw [this] at h
          cases h
        | [], hc => simp at hc
        | _ :: _ :: _, hc => simp at hc
      · cases hc
  | _ =>
    refine ⟨(fun h => by cases h), fun h c hc => ?_⟩
    rw [pw] at hc
    simp [areLetV] at hc
theorem undo_iff {v : RWire.Value} (ho : okV v = true) : isUndoV v = isUndoRequest (Tk v) := by
  have hu : units "undo" = [117, 110, 100, 111] := by decide +kernel
  have hoc : octs "undo" = [117, 110, 100, 111] := by decide +kernel
  cases v with
  | text u =>
    show decide (oI u = octs "undo") = (u.map Rust.unitOf == units "undo")
    rw [hu, hoc, Bool.eq_iff_iff, decide_eq_true_eq, beq_iff_eq]
    constructor
    · intro h
      match u, h with
      | [a, b, c, d], h =>
        simp [oI] at h
        obtain ⟨h1, h2, h3, h4⟩ := h
        have e1 : a = 117 := UInt8.toNat_inj.mp (by have : a.toNat = 117 := by omega
                                                    simpa using this)
        have e2 : b = 110 := UInt8.toNat_inj.mp (by have : b.toNat = 110 := by omega
                                                    simpa using this)
        have e3 : c = 100 := UInt8.toNat_inj.mp (by have : c.toNat = 100 := by omega
                                                    simpa using this)
        have e4 : d = 111 := UInt8.toNat_inj.mp (by have : d.toNat = 111 := by omega
                                                    simpa using this)
        subst e1 e2 e3 e4
        decide
      | [], h => simp [oI] at h
      | [_], h => simp [oI] at h
      | [_, _], h => simp [oI] at h
      | [_, _, _], h => simp [oI] at h
      | _ :: _ :: _ :: _ :: _ :: _, h => simp [oI] at h
    · intro h
      have hn : ∀ x : UInt8, (Rust.unitOf x).toNat = x.toNat := fun x => by
        have := x.toNat_lt
        simp [Rust.unitOf]
      have h' := congrArg (List.map fun x : UInt16 => ((x.toNat : Nat) : Int)) h
      rw [List.map_map] at h'
      have e : (u.map ((fun x : UInt16 => ((x.toNat : Nat) : Int)) ∘ Rust.unitOf)) = oI u := by
        simp only [oI]
        exact List.map_congr_left fun x _ => by simp [hn x]
      rw [e] at h'
      rw [h']
      decide
  | octets u => exact (noOct_of ho).elim
  | wide u => exact (noWide_of ho).elim
  | _ => rfl
theorem RelWk.fin {h : SW} {k : WalkS} (r : RelWk h k) : RelWk { h with state := .finished } { k with ph := 2 } := ⟨r.t, r.g, r.best, .inr (.inr ⟨rfl, rfl⟩), ⟨r.ok.s, r.ok.d, r.ok.b, r.ok.w2, r.ok.w8⟩⟩
theorem RelWk.run {h : SW} {k : WalkS} (r : RelWk h k) (w : Wrd) (h2 : two w) (h8 : w.length ≤ 8) : RelWk { h with state := .running w } { k with ph := 1, w := w.reverse } :=
  ⟨r.t, r.g, r.best, .inr (.inl ⟨w, rfl, rfl, rfl⟩), ⟨r.ok.s, r.ok.d, r.ok.b, fun c hc => h2 c (List.mem_reverse.mp hc), by show w.reverse.length ≤ 8; rw [List.length_reverse]; exact h8⟩⟩
theorem RelWk.tell {h : SW} {k k' : WalkS} (r : RelWk h k) (w : Wrd) (e : k' = { k with ph := 1, w := w.reverse }) (ok : OkW k') : tellF k' = Wp (walkValue h.system h.discount w.reverse) := by
  subst e
  exact tell_eq r.t r.g r.best rfl ok
theorem walk_next {h : SW} {k : WalkS} (r : RelWk h k) {v : RWire.Value} (ho : okV v = true) : RelWk (walkNext h (Tk v)).1 (advF k v).1 ∧ (advF k v).2 = Wp (outcomeValue (.next (Tk v)) (walkNext h (Tk v)).2) := by
  obtain ⟨l1, l2⟩ := isLet_iff ho
  rcases r.st with ⟨hst, hp, hw⟩ | ⟨w, hst, hp, hw⟩ | ⟨hst, hp⟩
  · have e : walkNext h (Tk v) = yieldWalk h [] := by unfold walkNext; rw [hst]
    have a : advF k v = ({ k with ph := 1 }, wOut (tellF k) false) := by
      unfold advF
      rw [if_neg (by omega), if_pos hp]
    have r' := r.run [] (fun c hc => nomatch hc) (by simp)
    have ek : ({ k with ph := 1, w := [].reverse } : WalkS) = { k with ph := 1 } := by
      obtain ⟨t, g, b, ph, w⟩ := k
      simp at hw
      subst hw
      rfl
    rw [e, a]
    refine ⟨by rw [← ek]; exact r', ?_⟩
    show _ = Wp (iteratorResult (walkValue h.system h.discount []) false)
    rw [W_iter]
    have t := tell_eq (w := []) r.t r.g r.best hw r.ok
    rw [t]
  · have e8 : k.w.length = w.length := by rw [hw, List.length_reverse]
    have w2 : two w := fun c hc => r.ok.w2 c (by rw [hw]; exact List.mem_reverse.mpr hc)
    have w8 : w.length ≤ 8 := by rw [← e8]; exact r.ok.w8
    have kk : ({ k with ph := 1, w := w.reverse } : WalkS) = k := by
      obtain ⟨t, g, b, ph, w'⟩ := k
      simp only at hw hp
      subst hw hp
      rfl
    cases hl : isLetV v with
    | true =>
      obtain ⟨c, hc, pw, oc⟩ := l1 hl
      by_cases h8 : k.w.length = 8
      · have e : walkNext h (Tk v) = ({ h with state := .finished }, .result (text "complete") true) := by
          unfold walkNext
          rw [hst, pw]
          show (if maxWordLength ≤ w.length then _ else _) = _
          rw [if_pos (by show 8 ≤ w.length; omega)]
        have a : advF k v = ({ k with ph := 2 }, wOut (wText (octs "complete")) true) := by
          unfold advF
          rw [if_neg (by omega), if_neg (by omega), if_pos hl, if_pos h8]
        rw [e, a]
        refine ⟨r.fin, ?_⟩
        show _ = Wp (iteratorResult (text "complete") true)
        rw [W_iter, W_text nm_complete]
      · have e : walkNext h (Tk v) = yieldWalk h (c :: w) := by
          unfold walkNext
          rw [hst, pw]
          show (if maxWordLength ≤ w.length then _ else _) = _
          rw [if_neg (by show ¬ 8 ≤ w.length; have := r.ok.w8; omega)]
        have a : advF k v = ({ k with w := k.w ++ [c] }, wOut (tellF { k with w := k.w ++ [c] }) false) := by
          unfold advF
          rw [if_neg (by omega), if_neg (by omega), if_pos hl, if_neg h8, oc]
        have ek : ({ k with ph := 1, w := (c :: w).reverse } : WalkS) = { k with w := k.w ++ [c] } := by
          obtain ⟨t, g, b, ph, w'⟩ := k
          simp only at hw hp
          subst hw hp
          simp
        have r' := r.run (c :: w) (fun d hd => by
          rcases List.mem_cons.mp hd with rfl | hd
          · exact hc
          · exact w2 d hd) (by simp; have := r.ok.w8; omega)
        rw [e, a]
        rw [ek] at r'
        refine ⟨r', ?_⟩
        show _ = Wp (iteratorResult (walkValue h.system h.discount (c :: w).reverse) false)
        rw [W_iter, r.tell (c :: w) ek.symm r'.ok]
    | false =>
      have e : walkNext h (Tk v) = yieldWalk h w := by
        unfold walkNext
        rw [hst]
        show (match parseWord (Tk v) with
          | some [c] => _
          | _ => _) = _
        split
        · rename_i c hc
          exact absurd hc (l2 hl c)
        · rfl
      have a : advF k v = (k, wOut (tellF k) false) := by
        unfold advF
        rw [if_neg (by omega), if_neg (by omega), if_neg (by rw [hl]; decide)]
      have r' := r.run w w2 w8
      rw [kk] at r'
      rw [e, a]
      refine ⟨r', ?_⟩
      show _ = Wp (iteratorResult (walkValue h.system h.discount w.reverse) false)
      rw [W_iter, r.tell w kk.symm r.ok]
  · have e : walkNext h (Tk v) = (h, .result .undef true) := by unfold walkNext; rw [hst]
    have a : advF k v = (k, wOut [0] true) := by
      unfold advF
      rw [if_pos hp]
    rw [e, a]
    refine ⟨r, ?_⟩
    show _ = Wp (iteratorResult .undef true)
    rw [W_iter, W_undef]
theorem walk_throw {h : SW} {k : WalkS} (r : RelWk h k) {v : RWire.Value} (ho : okV v = true) (hpr : primV v = true) : RelWk (walkThrow h (Tk v)).1 (thrF k v).1 ∧ (thrF k v).2 = Wp (outcomeValue (.throw (Tk v)) (walkThrow h (Tk v)).2) := by
  have gone : walkThrow h (Tk v) = ({ h with state := .finished }, .thrown (Tk v)) → ¬ (k.ph = 1 ∧ 0 < k.w.length ∧ isUndoV v = true) → RelWk (walkThrow h (Tk v)).1 (thrF k v).1 ∧ (thrF k v).2 = Wp (outcomeValue (.throw (Tk v)) (walkThrow h (Tk v)).2) := fun e n => by
    have a : thrF k v = ({ k with ph := 2 }, wThr v) := by unfold thrF; rw [if_neg n]
    rw [e, a]
    refine ⟨r.fin, ?_⟩
    show _ = Wp (.arr [text "thrown", Tk v])
    rw [W_thr ho hpr]
  rcases r.st with ⟨hst, hp, hw⟩ | ⟨w, hst, hp, hw⟩ | ⟨hst, hp⟩
  · exact gone (by unfold walkThrow; rw [hst]) (by omega)
  · cases w with
    | nil => exact gone (by unfold walkThrow; rw [hst]) (by rw [hw]; simp)
    | cons c w =>
      cases hu : isUndoV v with
      | false =>
        refine gone ?_ (by rw [hu]; simp)
        unfold walkThrow
        rw [hst]
        show (if isUndoRequest (Tk v) = true then _ else _) = _
        rw [← undo_iff ho, if_neg (by rw [hu]; decide)]
      | true =>
        have e : walkThrow h (Tk v) = yieldWalk h w := by
          unfold walkThrow
          rw [hst]
          show (if isUndoRequest (Tk v) = true then _ else _) = _
          rw [← undo_iff ho, if_pos hu]
        have w2 : two w := fun d hd => r.ok.w2 d (by rw [hw]; exact List.mem_reverse.mpr (List.mem_cons_of_mem _ hd))
        have lk : k.w.length = w.length + 1 := by rw [hw]; simp
        have ek : ({ k with ph := 1, w := w.reverse } : WalkS) = { k with w := k.w.take (k.w.length - 1) } := by
          obtain ⟨t, g, b, ph, w'⟩ := k
          simp only at hw hp
          subst hw hp
          simp
        have a : thrF k v = ({ k with w := k.w.take (k.w.length - 1) }, wRes (tellF { k with w := k.w.take (k.w.length - 1) }) false) := by
          unfold thrF
          rw [if_pos ⟨hp, by omega, hu⟩]
        have r' := r.run w w2 (by have := r.ok.w8; omega)
        rw [ek] at r'
        rw [e, a]
        refine ⟨r', ?_⟩
        show _ = Wp (.arr [text "result", walkValue h.system h.discount w.reverse, .bool false])
        rw [W_res, r.tell w ek.symm r'.ok]
  · exact gone (by unfold walkThrow; rw [hst]) (by omega)
theorem walk_ret {h : SW} {k : WalkS} (r : RelWk h k) {v : RWire.Value} (ho : okV v = true) (hpr : primV v = true) : RelWk (walkReturn h (Tk v)).1 (finF k v).1 ∧ (finF k v).2 = Wp (outcomeValue (.ret (Tk v)) (walkReturn h (Tk v)).2) := by
  refine ⟨r.fin, ?_⟩
  show wOut (wAgain v) true = Wp (iteratorResult (Rust.taken v) true)
  rw [W_iter, W_again ho hpr]
theorem walk_new {a b : RWire.Value} (oa : okV a = true) (ob : okV b = true) : (∀ e, createWalk (Tk a) (Tk b) = .error e → nWalk a b = .error e) ∧ (∀ h, createWalk (Tk a) (Tk b) = .ok h → ∃ q, nWalk a b = .ok q ∧ RelWk h (newW q)) := by
  unfold createWalk R7284d.Spec.withDiscount nWalk
  cases ha : R7284d.Spec.readSystem (Tk a) with
  | error e => exact ⟨fun e' h => by cases h; rfl, fun h z => by cases z⟩
  | ok t =>
    cases hb : R7284d.Spec.readDiscount (Tk b) with
    | error e => exact ⟨fun e' h => by cases h; rfl, fun h z => by cases z⟩
    | ok g =>
      refine ⟨(fun e' h => by cases h), fun h z => ?_⟩
      cases z
      have hs := sys_ok oa ha
      have hg := dis_ok ob hb
      exact ⟨(t, g), rfl, rfl, rfl, rfl, .inl ⟨rfl, rfl, rfl⟩, hs, hg, pvals_ok _ hg, (fun c hc => nomatch hc), by simp [newW]⟩
end Dsn
end

section
set_option maxHeartbeats 4000000
/-! # The law: enumerations -/
namespace Dsn
open R7284d.Spec (record nat fractionValue wordValue discountedSum ratOfDiscount wordRecord yieldNext enumerationNext enumerationThrow enumerationReturn enumerationRequest outcomeValue settledValue iteratorResult Outcome Request newEnumeration createEnumeration integerInRange text drainEnumeration answerAll elementsOf requestOfUnit requestsOf optimalWords)
abbrev SE := R7284d.Spec.Enumeration
structure RelEn (h : SE) (k : ListS) : Prop where
  t : k.t = h.system
  g : k.g = h.discount
  told : k.ph ≠ 2 → k.told = h.yielded
  last : k.ph ≠ 2 → k.last = h.lastLength
  st : (h.state = .notStarted ∧ k.ph = 0 ∧ k.left = h.remaining) ∨ (h.state = .running () ∧ k.ph = 1 ∧ k.left = h.remaining) ∨ (h.state = .finished ∧ k.ph = 2 ∧ k.left = [])
  ok : OkI k
theorem show_eq {t : Sys} {g : Dis} (hg : OkD g) {w : Wrd} (h2 : two w) : showF t g w = Wp (wordRecord t g w) := by
  show _ = Wp (record [("word", wordValue w), ("reward", fractionValue (discountedSum t (ratOfDiscount g) 0 w))])
  rw [W_rec2 nm_word nm_reward, W_word h2, W_frac]
  unfold showF
  rw [wrewF_eq hg]
  rfl
theorem RelEn.fin {h : SE} {k : ListS} (r : RelEn h k) : RelEn { h with state := .finished } (endL k) := ⟨r.t, r.g, (fun z => absurd rfl z), (fun z => absurd rfl z), .inr (.inr ⟨rfl, rfl, rfl⟩), endL_ok r.ok⟩
theorem en_yield {h : SE} {k : ListS} {l : List Wrd} (et : k.t = h.system) (eg : k.g = h.discount) (e1 : k.told = h.yielded) (e2 : k.last = h.lastLength) (hp : k.ph ≠ 2) (el : k.left = l) (ok : OkI k) :
    RelEn (yieldNext h l).1 (procF k).1 ∧ ∃ v b, (yieldNext h l).2 = .result v b ∧ (procF k).2 = (Wp v, b) := by
  have ok' := procF_ok ok
  obtain ⟨t, g, ph, left, told, last⟩ := k
  simp only at et eg e1 e2 hp el
  subst et eg e1 e2 el
  cases left with
  | nil =>
    have a : procF ⟨h.system, h.discount, ph, [], h.yielded, h.lastLength⟩ = (endL ⟨h.system, h.discount, ph, [], h.yielded, h.lastLength⟩, wInt (h.yielded : Nat), true) := by
      unfold procF
      rw [if_neg hp]
    rw [a] at ok' ⊢
    refine ⟨⟨rfl, rfl, (fun z => absurd rfl z), (fun z => absurd rfl z), .inr (.inr ⟨rfl, rfl, rfl⟩), ok'⟩, nat h.yielded, true, rfl, ?_⟩
    rw [W_nat]
  | cons w s =>
    have a : procF ⟨h.system, h.discount, ph, w :: s, h.yielded, h.lastLength⟩ = (⟨h.system, h.discount, 1, s, h.yielded + 1, w.length⟩, showF h.system h.discount w, false) := by
      unfold procF
      rw [if_neg hp]
    rw [a] at ok' ⊢
    refine ⟨⟨rfl, rfl, (fun _ => rfl), (fun _ => rfl), .inr (.inl ⟨rfl, rfl, rfl⟩), ok'⟩, wordRecord h.system h.discount w, false, rfl, ?_⟩
    rw [show_eq ok.d (ok.w w List.mem_cons_self).1]
theorem en_next {h : SE} {k : ListS} (r : RelEn h k) : RelEn (enumerationNext h).1 (procF k).1 ∧ ∃ v b, (enumerationNext h).2 = .result v b ∧ (procF k).2 = (Wp v, b) := by
  rcases r.st with ⟨hst, hp, hl⟩ | ⟨hst, hp, hl⟩ | ⟨hst, hp, hl⟩
  · have e : enumerationNext h = yieldNext h h.remaining := by unfold enumerationNext; rw [hst]
    rw [e]
    exact en_yield r.t r.g (r.told (by omega)) (r.last (by omega)) (by omega) hl r.ok
  · have e : enumerationNext h = yieldNext h h.remaining := by unfold enumerationNext; rw [hst]
    rw [e]
    exact en_yield r.t r.g (r.told (by omega)) (r.last (by omega)) (by omega) hl r.ok
  · have e : enumerationNext h = (h, .result .undef true) := by unfold enumerationNext; rw [hst]
    have a : procF k = (k, [0], true) := by unfold procF; rw [if_pos hp]
    rw [e, a]
    exact ⟨r, .undef, true, rfl, by rw [W_undef]⟩
theorem skip_iff {h : SE} {k : ListS} (r : RelEn h k) {v : RWire.Value} (ho : okV v = true) (hst : h.state = .running ()) : (skipsF k v = true → ∃ d : Nat, integerInRange (h.lastLength + 1) 5 (Tk v) = some d ∧ v = .int (d : Int)) ∧ (skipsF k v = false → integerInRange (h.lastLength + 1) 5 (Tk v) = none) := by
  have hp : k.ph = 1 := by
    rcases r.st with ⟨z, _⟩ | ⟨_, hp, _⟩ | ⟨z, _⟩
    · rw [hst] at z; cases z
    · exact hp
    · rw [hst] at z; cases z
  have hb := bet_iff ho (h.lastLength + 1) 5
  cases hr : integerInRange (h.lastLength + 1) 5 (Tk v) with
  | none =>
    refine ⟨fun z => ?_, fun _ => rfl⟩
    have hr' : integerInRange (h.lastLength + 1) 5 (Rust.taken v) = none := hr
    rw [hr'] at hb
    cases v with
    | int i =>
      simp [skipsF, hp, r.last (by omega)] at z
      simp [isBetV] at hb
      omega
    | _ => cases z
  | some d =>
    refine ⟨fun _ => ⟨d, rfl, (range_int ho hr).1⟩, fun z => ?_⟩
    obtain ⟨rfl, h1, h2⟩ := range_int ho hr
    simp [skipsF, hp, r.last (by omega)] at z
    omega
theorem en_throw {h : SE} {k : ListS} (r : RelEn h k) {v : RWire.Value} (ho : okV v = true) (hpr : primV v = true) : RelEn (enumerationThrow h (Tk v)).1 (thrPF k v).1 ∧ (thrPF k v).2 = (elementsOf (settledValue (enumerationThrow h (Tk v)).2)).map Wp ∧ settledValue (enumerationThrow h (Tk v)).2 = .arr (elementsOf (settledValue (enumerationThrow h (Tk v)).2)) := by
  have gone : enumerationThrow h (Tk v) = ({ h with state := .finished }, .thrown (Tk v)) → skipsF k v = false → RelEn (enumerationThrow h (Tk v)).1 (thrPF k v).1 ∧ (thrPF k v).2 = (elementsOf (settledValue (enumerationThrow h (Tk v)).2)).map Wp ∧ settledValue (enumerationThrow h (Tk v)).2 = .arr (elementsOf (settledValue (enumerationThrow h (Tk v)).2)) := fun e n => by
    have a : thrPF k v = (endL k, [wText (octs "thrown"), wAgain v]) := by unfold thrPF; rw [if_neg (by rw [n]; decide)]
    rw [e, a]
    refine ⟨r.fin, ?_, rfl⟩
    show _ = [Wp (text "thrown"), Wp (Rust.taken v)]
    rw [W_text nm_thrown, W_again ho hpr]
  have nosk : k.ph ≠ 1 → skipsF k v = false := fun z => by cases v <;> simp [skipsF, z]
  rcases r.st with ⟨hst, hp, hl⟩ | ⟨hst, hp, hl⟩ | ⟨hst, hp, hl⟩
  · exact gone (by unfold enumerationThrow; rw [hst]) (nosk (by omega))
  · obtain ⟨s1, s2⟩ := skip_iff r ho hst
    cases hk : skipsF k v with
    | false =>
      refine gone ?_ hk
      unfold enumerationThrow
      rw [hst]
      show (match integerInRange (h.lastLength + 1) 5 (Tk v) with
        | some d => _
        | none => _) = _
      rw [s2 hk]
    | true =>
      obtain ⟨d, hd, rfl⟩ := s1 hk
      have e : enumerationThrow h (Tk (.int (d : Int))) = yieldNext h (h.remaining.filter fun w => decide (d ≤ w.length)) := by
        unfold enumerationThrow
        rw [hst]
        show (match integerInRange (h.lastLength + 1) 5 (Tk (.int (d : Int))) with
          | some d => _
          | none => _) = _
        rw [hd]
      have ef : (k.left.filter fun w => decide (wholeV (.int (d : Int)) ≤ (w.length : Int))) = h.remaining.filter fun w => decide (d ≤ w.length) := by
        rw [hl]
        congr 1
        funext w
        simp [wholeV]
      have a : thrPF k (.int (d : Int)) = nextPF { k with left := k.left.filter fun w => decide (wholeV (.int (d : Int)) ≤ (w.length : Int)) } := by
        unfold thrPF
        rw [if_pos hk]
      obtain ⟨y1, w, b, y2, y3⟩ := en_yield (k := { k with left := k.left.filter fun w => decide (wholeV (.int (d : Int)) ≤ (w.length : Int)) }) (l := h.remaining.filter fun w => decide (d ≤ w.length)) r.t r.g (r.told (by omega)) (r.last (by omega)) (by show k.ph ≠ 2; omega) ef (skip_ok r.ok _)
      rw [e, a, y2]
      refine ⟨y1, ?_, rfl⟩
      show [wText (octs "result"), _, wTr _] = [Wp (text "result"), Wp w, Wp (.bool b)]
      rw [y3, W_text nm_result, W_bool]
  · exact gone (by unfold enumerationThrow; rw [hst]) (nosk (by omega))
theorem en_req {h : SE} {k : ListS} (r : RelEn h k) {v : RWire.Value} (ho : okV v = true) (hpr : primV v = true) (u : UInt16) (hu : u.toNat = 110 ∨ u.toNat = 116 ∨ u.toNat = 114) : RelEn (enumerationRequest h (requestOfUnit (Tk v) u)).1 (reqPF k ((u.toNat : Nat) : Int) v).1 ∧
    (reqPF k ((u.toNat : Nat) : Int) v).2 = (elementsOf (settledValue (enumerationRequest h (requestOfUnit (Tk v) u)).2)).map Wp := by
  rcases hu with hu | hu | hu
  · have e : requestOfUnit (Tk v) u = .next .undef := by unfold requestOfUnit; rw [if_pos hu]
    have a : reqPF k ((u.toNat : Nat) : Int) v = nextPF k := by
      unfold reqPF
      rw [hu, if_neg (by decide), if_neg (by decide)]
    obtain ⟨y1, w, b, y2, y3⟩ := en_next r
    rw [e, a]
    refine ⟨y1, ?_⟩
    show [wText (octs "result"), _, wTr _] = (elementsOf (settledValue (enumerationNext h).2)).map Wp
    rw [y2, y3]
    show _ = [Wp (text "result"), Wp w, Wp (.bool b)]
    rw [W_text nm_result, W_bool]
  · have e : requestOfUnit (Tk v) u = .throw (Tk v) := by unfold requestOfUnit; rw [if_neg (by omega), if_pos hu]
    have a : reqPF k ((u.toNat : Nat) : Int) v = thrPF k v := by
      unfold reqPF
      rw [hu, if_pos (by decide)]
    obtain ⟨y1, y2, _⟩ := en_throw r ho hpr
    rw [e, a]
    exact ⟨y1, y2⟩
  · have e : requestOfUnit (Tk v) u = .ret (Tk v) := by unfold requestOfUnit; rw [if_neg (by omega), if_neg (by omega)]
    have a : reqPF k ((u.toNat : Nat) : Int) v = retPF k v := by
      unfold reqPF
      rw [hu, if_neg (by decide), if_pos (by decide)]
    rw [e, a]
    refine ⟨r.fin, ?_⟩
    show [wText (octs "result"), wAgain v, wTr true] = [Wp (text "result"), Wp (Rust.taken v), Wp (.bool true)]
    rw [W_text nm_result, W_again ho hpr, W_bool]
theorem en_all {v : RWire.Value} (ho : okV v = true) (hpr : primV v = true) : ∀ (us : List UInt16) (i : Nat) (h : SE) (k : ListS), RelEn h k → (∀ u ∈ us, u.toNat = 110 ∨ u.toNat = 116 ∨ u.toNat = 114) →
    RelEn (answerAll i h (us.map (requestOfUnit (Tk v)))).1 (togF v i k (us.map fun u => ((u.toNat : Nat) : Int))).1 ∧ (togF v i k (us.map fun u => ((u.toNat : Nat) : Int))).2 = (answerAll i h (us.map (requestOfUnit (Tk v)))).2.map Wp
  | [], i, h, k, r, _ => ⟨r, rfl⟩
  | u :: us, i, h, k, r, hu => by
    obtain ⟨y1, y2⟩ := en_req r ho hpr u (hu u List.mem_cons_self)
    obtain ⟨z1, z2⟩ := en_all ho hpr us (i + 1) _ _ y1 fun u' h' => hu u' (List.mem_cons_of_mem _ h')
    refine ⟨z1, ?_⟩
    show wList (wInt (i : Nat) :: (reqPF k ((u.toNat : Nat) : Int) v).2) :: _ = Wp (.arr (nat i :: elementsOf (settledValue (enumerationRequest h (requestOfUnit (Tk v) u)).2))) :: _
    rw [W_arr, List.map_cons, W_nat, y2, z2]
theorem RelEn.ended {h : SE} {k k' : ListS} (r : RelEn h (endL k')) (ht : k'.t = k.t) (hg : k'.g = k.g) : RelEn h (endL k) := by
  have st : h.state = .finished := by
    rcases r.st with ⟨_, z, _⟩ | ⟨_, z, _⟩ | ⟨z, _⟩
    · cases z
    · cases z
    · exact z
  refine ⟨ht.symm.trans r.t, hg.symm.trans r.g, (fun z => absurd rfl z), (fun z => absurd rfl z), .inr (.inr ⟨st, rfl, rfl⟩), ?_⟩
  have := r.ok
  exact ⟨by have := this.s; rw [show (endL k').t = k.t from ht] at this; exact this, by have := this.d; rw [show (endL k').g = k.g from hg] at this; exact this, (fun _ hw => nomatch hw), Nat.zero_le _⟩
theorem en_drain : ∀ (n : Nat) (h : SE) (k : ListS), RelEn h k → k.left.length < n → RelEn (drainEnumeration n h).1 (endL k) ∧ (drainEnumeration n h).2.map Wp = k.left.map (showF k.t k.g)
  | 0, h, k, r, hl => by omega
  | n + 1, h, k, r, hl => by
    have stop : ∀ z v, enumerationNext h = (z, .result v true) → drainEnumeration (n + 1) h = (z, []) := fun z v e => by
      show (match enumerationNext h with
        | (z, .result v false) => (let y := drainEnumeration n z
          (y.1, v :: y.2))
        | (z, _) => (z, [])) = _
      rw [e]
    have more : ∀ z v, enumerationNext h = (z, .result v false) → drainEnumeration (n + 1) h = ((drainEnumeration n z).1, v :: (drainEnumeration n z).2) := fun z v e => by
      show (match enumerationNext h with
        | (z, .result v false) => (let y := drainEnumeration n z
          (y.1, v :: y.2))
        | (z, _) => (z, [])) = _
      rw [e]
    have act : k.ph ≠ 2 → k.left = h.remaining → enumerationNext h = yieldNext h h.remaining → RelEn (drainEnumeration (n + 1) h).1 (endL k) ∧ (drainEnumeration (n + 1) h).2.map Wp = k.left.map (showF k.t k.g) := fun hp hr e => by
      obtain ⟨y1, w, b, y2, y3⟩ := en_yield r.t r.g (r.told hp) (r.last hp) hp hr r.ok
      cases hrem : h.remaining with
      | nil =>
        rw [hrem] at e
        rw [stop _ _ e, hr, hrem]
        exact ⟨⟨r.t, r.g, (fun z => absurd rfl z), (fun z => absurd rfl z), .inr (.inr ⟨rfl, rfl, rfl⟩), endL_ok r.ok⟩, rfl⟩
      | cons x s =>
        have ek : (procF k).1 = { k with left := s, ph := 1, told := k.told + 1, last := x.length } := by
          unfold procF
          rw [if_neg hp, hr, hrem]
        rw [ek] at y1
        rw [hrem] at e y1
        rw [more _ _ e]
        have hl' : s.length < n := by rw [hr, hrem] at hl; simp at hl; omega
        obtain ⟨z1, z2⟩ := en_drain n _ _ y1 hl'
        refine ⟨z1.ended rfl rfl, ?_⟩
        have z2' : (drainEnumeration n { h with remaining := s, lastLength := x.length, yielded := h.yielded + 1, state := .running () }).2.map Wp = s.map (showF k.t k.g) := z2
        rw [hr, hrem, List.map_cons, List.map_cons, z2']
        congr 1
        have hx := (r.ok.w x (by rw [hr, hrem]; exact List.mem_cons_self)).1
        rw [show_eq r.ok.d hx, r.t, r.g]
    rcases r.st with ⟨hst, hp, hr⟩ | ⟨hst, hp, hr⟩ | ⟨hst, hp, hr⟩
    · exact act (by omega) hr (by unfold enumerationNext; rw [hst])
    · exact act (by omega) hr (by unfold enumerationNext; rw [hst])
    · have e : enumerationNext h = (h, .result .undef true) := by unfold enumerationNext; rw [hst]
      rw [stop _ _ e, hr]
      refine ⟨⟨r.t, r.g, (fun z => absurd rfl z), (fun z => absurd rfl z), .inr (.inr ⟨hst, rfl, rfl⟩), endL_ok r.ok⟩, rfl⟩
theorem en_new {a b c : RWire.Value} (oa : okV a = true) (ob : okV b = true) (oc : okV c = true) : (∀ e, createEnumeration (Tk a) (Tk b) (Tk c) = .error e → nList a b c = .error e) ∧ (∀ h, createEnumeration (Tk a) (Tk b) (Tk c) = .ok h → ∃ q, nList a b c = .ok q ∧ RelEn h (newL q)) := by
  unfold createEnumeration R7284d.Spec.withDiscount nList
  cases ha : R7284d.Spec.readSystem (Tk a) with
  | error e => exact ⟨(fun e' h => by cases h; rfl), fun h z => by cases z⟩
  | ok t =>
    cases hb : R7284d.Spec.readDiscount (Tk b) with
    | error e => exact ⟨(fun e' h => by cases h; rfl), fun h z => by cases z⟩
    | ok g =>
      cases hc : R7284d.Spec.readInteger "maxLength" 0 5 (Tk c) with
      | error e =>
        simp only [R7284d.Spec.andThen, hc]
        exact ⟨(fun e' h => by cases h; rfl), fun h z => by cases z⟩
      | ok n =>
        simp only [R7284d.Spec.andThen, hc]
        refine ⟨(fun e' h => by cases h), fun h z => ?_⟩
        cases z
        have hs := sys_ok oa ha
        have hg := dis_ok ob hb
        have hn := length_ok oc hc
        have el : (newL (t, g, n)).left = optimalWords t (ratOfDiscount g) n := optWords_eq hs hg n
        refine ⟨(t, g, n), rfl, rfl, rfl, (fun _ => rfl), (fun _ => rfl), .inl ⟨rfl, rfl, el⟩, hs, hg, fun w hw => ?_, ?_⟩
        · have hw' : w ∈ optWordsF t g (bests t g) n := hw
          have : ∀ m, w ∈ optWordsF t g (bests t g) m → two w ∧ w.length ≤ m := by
            intro m
            induction m with
            | zero =>
              intro h
              have : w = [] := by simpa [optWordsF] using h
              subst this
              exact ⟨(fun c hc => nomatch hc), Nat.le_refl _⟩
            | succ m ih =>
              intro h
              rcases List.mem_append.mp h with h | h
              · obtain ⟨x, y⟩ := ih h
                exact ⟨x, by omega⟩
              · obtain ⟨x, y⟩ := (last_ok t g (bests t g) (m + 1)).1 w h
                exact ⟨x, by omega⟩
          obtain ⟨x, y⟩ := this n hw'
          exact ⟨x, by omega⟩
        · have := opt_length t g (bests t g) n
          have h64 : 2 ^ (n + 1) ≤ 2 ^ 6 := Nat.pow_le_pow_right (by decide) (by omega)
          show (optWordsF t g (bests t g) n).length ≤ 70
          omega
theorem left_lt {h : SE} {k : ListS} (r : RelEn h k) : k.left.length < 80 := by have := r.ok.n; omega
end Dsn
end

section
set_option maxHeartbeats 4000000
/-! # The law: arguments, answers -/
namespace Dsn
open R7284d.Spec (Call Fn fnOf answer World Ans isPrimitive fits)
theorem ans_ret (p : Pl) : oI (RWire.writeAnswer (Rust.answerOf (.ret p))) = 0 :: Wp p := rfl
theorem narrow_oct : ∀ u : List UInt16, Rust.narrowText u = true → oI (u.map Rust.octetOf) = u.map fun c => ((c.toNat : Nat) : Int)
  | [], _ => rfl
  | c :: u, h => by
    have h' : Nat.blt c.toNat 256 = true ∧ Rust.narrowText u = true := by simpa [Rust.narrowText] using h
    have hc : c.toNat < 256 := by simpa using h'.1
    show (((Rust.octetOf c).toNat : Nat) : Int) :: oI (u.map Rust.octetOf) = _
    rw [narrow_oct u h'.2]
    have : (Rust.octetOf c).toNat = c.toNat := by simp [Rust.octetOf]; omega
    rw [this]
    rfl
def clsN' : R7284d.Spec.Cls → Int
  | .typeError => 1
  | .rangeError => 2
theorem ans_fail (e : Err) (h : Rust.narrowText e.msg = true) : oI (RWire.writeAnswer (Rust.answerOf (.fail e))) = 1 :: clsN' e.cls :: (wN 4 (e.msg.length : Nat) ++ e.msg.map fun u => ((u.toNat : Nat) : Int)) := by
  have e1 : oI (RWire.writeAnswer (Rust.answerOf (.fail e))) = 1 :: (((UInt8.ofNat (Rust.classOf e.cls)).toNat : Nat) : Int) :: (oI (RWire.low 4 (e.msg.map Rust.octetOf).length) ++ oI (e.msg.map Rust.octetOf)) := by
    rw [← oI_append]
    rfl
  rw [e1, low4, narrow_oct _ h, List.length_map]
  cases e.cls <;> rfl
/-! ### arguments -/
theorem okL_of {l : List RWire.Value} (h : Rust.ofKinds l = true) : okL l = true := by
  simp [Rust.ofKinds, Rust.bigTold, Rust.octetsTold, Rust.wideTold] at h
  simp [okL, h]
theorem okL_mem : ∀ {l : List RWire.Value}, okL l = true → ∀ v ∈ l, okV v = true
  | [], _, v, h => nomatch h
  | a :: l, h, v, hv => by
    obtain ⟨h1, h2⟩ := okL_cons h
    rcases List.mem_cons.mp hv with rfl | hv
    · exact h1
    · exact okL_mem h2 v hv
def padL (l : List RWire.Value) : List RWire.Value := l ++ List.replicate (4 - l.length) .nothing
theorem pad4 (l : List RWire.Value) : ∃ z a b c r, padL l = z :: a :: b :: c :: r := by
  match l with
  | [] => exact ⟨_, _, _, _, [], rfl⟩
  | [z] => exact ⟨z, _, _, _, [], rfl⟩
  | [z, a] => exact ⟨z, a, _, _, [], rfl⟩
  | [z, a, b] => exact ⟨z, a, b, _, [], rfl⟩
  | z :: a :: b :: c :: r => exact ⟨z, a, b, c, r, by simp [padL]⟩
theorem pad_ok {l : List RWire.Value} (h : okL l = true) : ∀ v ∈ padL l, okV v = true := fun v hv => by
  rcases List.mem_append.mp hv with h1 | h1
  · exact okL_mem h v h1
  · have : v = .nothing := (List.mem_replicate.mp h1).2
    subst this
    decide
theorem arg_at (l : List RWire.Value) (i : Nat) (hi : i < 4) : Rust.argAt (Rust.takenAll l) i = Rust.taken ((padL l).getD i .nothing) := by
  unfold Rust.argAt padL
  rw [taken_map]
  by_cases h : i < l.length
  · simp [h, List.getElem?_append_left]
  · have h1 : l[i]? = none := List.getElem?_eq_none (by omega)
    have h2 : (l ++ List.replicate (4 - l.length) RWire.Value.nothing)[i]? = some .nothing := by
      rw [List.getElem?_append_right (by omega), List.getElem?_replicate]
      rw [if_pos (by omega)]
    simp [h1, List.getD, h2, Rust.taken]
theorem slot_int {v : RWire.Value} (ho : okV v = true) {s : Nat} (h : Rust.slotOf 2 (Tk v) = some s) : v = .int (s : Int) ∧ s < 3 := by
  cases v with
  | int i =>
    simp [Rust.slotOf, Rust.taken, RShim.F64.ofInt, RShim.F64.negZero, RShim.F64.toInt?] at h
    obtain ⟨⟨h1, h2⟩, h3⟩ := h
    exact ⟨by congr 1; omega, by omega⟩
  | big i => exact (noBig_of ho).elim
  | octets u => exact (noOct_of ho).elim
  | wide u => exact (noWide_of ho).elim
  | _ => simp [Rust.slotOf, Rust.taken] at h
theorem prim_of {v : RWire.Value} (ho : okV v = true) (h : isPrimitive (Tk v) = true) : primV v = true := by
  cases v with
  | list l => simp [Rust.taken, isPrimitive] at h
  | record l => simp [Rust.taken, isPrimitive] at h
  | octets u => exact (noOct_of ho).elim
  | _ => rfl
theorem okX_of {v : RWire.Value} (ho : okV v = true) (h1 : isPrimitive (Tk v) = true) (h2 : fits [Tk v] = true) : OkX v := by
  refine ⟨ho, prim_of ho h1, fun u e => ?_⟩
  subst e
  have h3 : ([Tk (.text u)].map (R7284d.Spec.Plain.size R7284d.Spec.maxDepth)).sum ≤ R7284d.Spec.maxTotalSize := by
    have := (Bool.and_eq_true_iff.mp h2).2
    exact of_decide_eq_true this
  have h4 : ([Tk (.text u)].map (R7284d.Spec.Plain.size R7284d.Spec.maxDepth)).sum = u.length + 1 := by
    simp [Rust.taken, R7284d.Spec.Plain.size]
  rw [h4] at h3
  have : R7284d.Spec.maxTotalSize = 12000 := rfl
  omega
end Dsn
end

section
set_option maxHeartbeats 4000000
/-! # The law: one request -/
namespace Dsn
open R7284d.Spec (Call Fn fnOf answer World Ans isPrimitive fits stepUncounted walkAt enumerationAt setWalk setEnumeration withWalk withEnumeration hasWalk hasEnumeration inputFits requestFits isSlot createWalk createEnumeration outcomeValue settledValue requestsOf answerAll drainEnumeration maxDrained)
def RO {α β : Type} (R : α → β → Prop) : Option α → Option β → Prop
  | none, none => True
  | some a, some b => R a b
  | _, _ => False
structure RelW (w : World) (ws : WS) (ls : LS) : Prop where
  wl : w.walks.length = 3
  el : w.enumerations.length = 3
  wl' : ws.length = 3
  el' : ls.length = 3
  wk : ∀ i, RO RelWk (w.walks.getD i none) (ws.getD i none)
  en : ∀ i, RO RelEn (w.enumerations.getD i none) (ls.getD i none)
theorem getD_set {α : Type} (l : List (Option α)) (i j : Nat) (x : Option α) : (l.set i x).getD j none = if i = j ∧ i < l.length then x else l.getD j none := by
  simp only [List.getD, List.getElem?_set]
  by_cases h : i = j
  · subst h
    by_cases h2 : i < l.length
    · simp [h2]
    · simp [h2, List.getElem?_eq_none (Nat.le_of_not_lt h2)]
  · simp [h]
theorem RO_mem {α β : Type} {R : α → β → Prop} {l : List (Option α)} {m : List (Option β)} (h : ∀ i, RO R (l.getD i none) (m.getD i none)) {b : β} (hb : some b ∈ m) : ∃ a, R a b := by
  obtain ⟨i, hi, e⟩ := List.mem_iff_getElem.mp hb
  have := h i
  have e2 : m.getD i none = some b := by simp [hi, e]
  rw [e2] at this
  cases q : l.getD i none with
  | none => rw [q] at this; exact this.elim
  | some a => rw [q] at this; exact ⟨a, this⟩
theorem RelW.setW {w : World} {ws : WS} {ls : LS} (r : RelW w ws ls) {i : Nat} {h : SW} {k : WalkS} (hk : RelWk h k) : RelW (setWalk w i h) (ws.set i (some k)) ls := by
  refine ⟨by simp [setWalk, r.wl], r.el, by simp [r.wl'], r.el', fun j => ?_, r.en⟩
  show RO RelWk ((w.walks.set i (some h)).getD j none) _
  rw [getD_set, getD_set, r.wl, r.wl']
  split
  · exact hk
  · exact r.wk j
theorem RelW.setE {w : World} {ws : WS} {ls : LS} (r : RelW w ws ls) {i : Nat} {h : SE} {k : ListS} (hk : RelEn h k) : RelW (setEnumeration w i h) ws (ls.set i (some k)) := by
  refine ⟨r.wl, by simp [setEnumeration, r.el], r.wl', by simp [r.el'], r.wk, fun j => ?_⟩
  show RO RelEn ((w.enumerations.set i (some h)).getD j none) _
  rw [getD_set, getD_set, r.el, r.el']
  split
  · exact hk
  · exact r.en j
theorem RelW.count {w : World} {ws : WS} {ls : LS} (r : RelW w ws ls) (n : Nat) : RelW { w with calls := n } ws ls := ⟨r.wl, r.el, r.wl', r.el', r.wk, r.en⟩
/-- the walk in a filled slot -/
theorem RelW.atW {w : World} {ws : WS} {ls : LS} (r : RelW w ws ls) {i : Nat} (h : hasWalk w i = true) : i < 3 ∧ ∃ t k, walkAt w i = some t ∧ ws[i]? = some (some k) ∧ RelWk t k := by
  obtain ⟨h1, h2⟩ := Bool.and_eq_true_iff.mp h
  have hi : i < 3 := of_decide_eq_true h1
  obtain ⟨t, ht⟩ := Option.isSome_iff_exists.mp h2
  have := r.wk i
  rw [show w.walks.getD i none = some t from ht] at this
  cases q : ws.getD i none with
  | none => rw [q] at this; exact this.elim
  | some k =>
    rw [q] at this
    refine ⟨hi, t, k, ht, ?_, this⟩
    have hl : i < ws.length := by rw [r.wl']; exact hi
    simp [hl] at q
    simp [hl, q]
theorem RelW.atE {w : World} {ws : WS} {ls : LS} (r : RelW w ws ls) {i : Nat} (h : hasEnumeration w i = true) : i < 3 ∧ ∃ t k, enumerationAt w i = some t ∧ ls[i]? = some (some k) ∧ RelEn t k := by
  obtain ⟨h1, h2⟩ := Bool.and_eq_true_iff.mp h
  have hi : i < 3 := of_decide_eq_true h1
  obtain ⟨t, ht⟩ := Option.isSome_iff_exists.mp h2
  have := r.en i
  rw [show w.enumerations.getD i none = some t from ht] at this
  cases q : ls.getD i none with
  | none => rw [q] at this; exact this.elim
  | some k =>
    rw [q] at this
    refine ⟨hi, t, k, ht, ?_, this⟩
    have hl : i < ls.length := by rw [r.el']; exact hi
    simp [hl] at q
    simp [hl, q]
/-- what is told of one request -/
def Good (w : World) (ws : WS) (ls : LS) (door : Nat) (z a b c : RWire.Value) (s : World × Ans) : Prop :=
  LibOk ws ls door z a b c ∧ RelW s.1 (ansF ws ls door z a b c).1 (ansF ws ls door z a b c).2.1 ∧ (Rust.tellable s.2 = true → (ansF ws ls door z a b c).2.2 = oI (RWire.writeAnswer (Rust.answerOf s.2)))
theorem tell_fail {e : Err} (h : Rust.tellable (.fail e) = true) : Rust.narrowText e.msg = true := (Bool.and_eq_true_iff.mp h).1
theorem good_ok {w w' : World} {ws ws' : WS} {ls ls' : LS} {door : Nat} {z a b c : RWire.Value} {o : List Int} {p : Pl} (hl : LibOk ws ls door z a b c) (e : libF ws ls door z a b c = .ok (ws', ls', o)) (r : RelW w' ws' ls') (ho : o = Wp p) : Good w ws ls door z a b c (w', .ret p) := by
  have ea : ansF ws ls door z a b c = (ws', ls', 0 :: o) := by simp only [ansF, e]
  refine ⟨hl, ?_, fun _ => ?_⟩
  · rw [ea]; exact r
  · rw [ea, ho, ans_ret]
theorem good_err {w : World} {ws : WS} {ls : LS} {door : Nat} {z a b c : RWire.Value} {e : Err} (hl : LibOk ws ls door z a b c) (he : libF ws ls door z a b c = .error e) (r : RelW w ws ls) : Good w ws ls door z a b c (w, .fail e) := by
  have ea : ansF ws ls door z a b c = (ws, ls, 1 :: clsN e.cls :: (wN 4 (e.msg.length : Nat) ++ msgI e)) := by simp only [ansF, he]
  refine ⟨hl, ?_, fun ht => ?_⟩
  · rw [ea]; exact r
  · rw [ea, ans_fail e (tell_fail ht)]
    cases e.cls <;> rfl
/-- the slots' facts -/
theorem lib_ok {w : World} {ws : WS} {ls : LS} (r : RelW w ws ls) {door : Nat} {z a b c : RWire.Value} (oz : okV z = true) (oa : okV a = true) (ob : okV b = true) (oc : okV c = true)
    (sl : 8 ≤ door → ∃ i : Nat, z = .int (i : Int) ∧ i < 3) (hw : 9 ≤ door → door ≤ 13 → ∃ h, ws[slotN z]? = some (some h)) (hl : 15 ≤ door → ∃ h, ls[slotN z]? = some (some h))
    (ax : door = 10 ∨ door = 11 ∨ door = 16 ∨ door = 17 → OkX a) (tg : door = 19 → OkX b ∧ ∃ u, a = .text u ∧ u.length ≤ 8) : LibOk ws ls door z a b c :=
  ⟨oz, oa, ob, oc, r.wl', r.el', fun h hm => by obtain ⟨t, q⟩ := RO_mem r.wk hm; exact q.ok, fun h hm => by obtain ⟨t, q⟩ := RO_mem r.en hm; exact q.ok, sl, hw, hl, ax, tg⟩
theorem good_plain {w : World} {ws : WS} {ls : LS} (r : RelW w ws ls) {door : Nat} (hd : door ≤ 7) {z a b c : RWire.Value} (oz : okV z = true) (oa : okV a = true) (ob : okV b = true) (oc : okV c = true) {f : Fn} (he : aPlain door z a b = mapW (fnOf f)) :
    Good w ws ls door z a b c (stepUncounted w (.fn f)) := by
  have hl : LibOk ws ls door z a b c := lib_ok r oz oa ob oc (fun h => by omega) (fun h => by omega) (fun h => by omega) (fun h => by omega) (fun h => by omega)
  show Good w ws ls door z a b c (w, answer id (fnOf f))
  cases hf : fnOf f with
  | ok p =>
    rw [hf] at he
    exact good_ok (o := Wp p) hl (by simp only [libF, if_pos hd]; rw [andThen_ok he]) r rfl
  | error e =>
    rw [hf] at he
    exact good_err hl (by simp only [libF, if_pos hd]; rw [andThen_error he]) r
end Dsn
end

section
set_option maxHeartbeats 4000000
/-! # The law: requests with slots -/
namespace Dsn
open R7284d.Spec (Call Fn fnOf answer World Ans isPrimitive fits stepUncounted walkAt enumerationAt setWalk setEnumeration withWalk withEnumeration hasWalk hasEnumeration inputFits requestFits isSlot createWalk createEnumeration outcomeValue settledValue requestsOf answerAll drainEnumeration maxDrained requestOfUnit walkRequest enumerationRequest isRequestString)
section
variable {w : World} {ws : WS} {ls : LS} {z a b c : RWire.Value}
theorem slot_eq (i : Nat) : slotN (.int (i : Int)) = i := by simp [slotN, wholeV]
theorem good_storeW (r : RelW w ws ls) {i : Nat} (hi : i < 3) (oa : okV a = true) (ob : okV b = true) (oc : okV c = true) : Good w ws ls 8 (.int (i : Int)) a b c (stepUncounted w (.storeWalk i (Tk a) (Tk b))) := by
  have hl : LibOk ws ls 8 (.int (i : Int)) a b c := lib_ok r rfl oa ob oc (fun _ => ⟨i, rfl, hi⟩) (fun h => by omega) (fun h => by omega) (fun h => by omega) (fun h => by omega)
  obtain ⟨e1, e2⟩ := walk_new oa ob
  show Good w ws ls 8 (.int (i : Int)) a b c (match createWalk (Tk a) (Tk b) with
    | .ok t => (setWalk w i t, .ret .undef)
    | .error e => (w, .fail e))
  cases hc : createWalk (Tk a) (Tk b) with
  | error e => exact good_err hl (by show Dsn.libF ws ls 8 _ a b c = _; simp only [libF, if_neg (show ¬ 8 ≤ 7 by decide), if_pos]; rw [andThen_error (e1 e hc)]) r
  | ok t =>
    obtain ⟨q, hq, rel⟩ := e2 t hc
    exact good_ok hl (by show Dsn.libF ws ls 8 _ a b c = _; simp only [libF, if_neg (show ¬ 8 ≤ 7 by decide), if_pos]; rw [andThen_ok hq, slot_eq]) (r.setW rel) W_undef.symm
theorem good_storeE (r : RelW w ws ls) {i : Nat} (hi : i < 3) (oa : okV a = true) (ob : okV b = true) (oc : okV c = true) : Good w ws ls 14 (.int (i : Int)) a b c (stepUncounted w (.storeEnumeration i (Tk a) (Tk b) (Tk c))) := by
  have hl : LibOk ws ls 14 (.int (i : Int)) a b c := lib_ok r rfl oa ob oc (fun _ => ⟨i, rfl, hi⟩) (fun h => by omega) (fun h => by omega) (fun h => by omega) (fun h => by omega)
  obtain ⟨e1, e2⟩ := en_new oa ob oc
  have el : libF ws ls 14 (.int (i : Int)) a b c = R7284d.Spec.andThen (nList a b c) fun q => .ok (ws, ls.set i (some (newL q)), [0]) := by
    unfold libF
    rw [if_neg (by decide), if_neg (by decide), if_neg (by decide), if_pos rfl, slot_eq]
  show Good w ws ls 14 (.int (i : Int)) a b c (match createEnumeration (Tk a) (Tk b) (Tk c) with
    | .ok t => (setEnumeration w i t, .ret .undef)
    | .error e => (w, .fail e))
  cases hc : createEnumeration (Tk a) (Tk b) (Tk c) with
  | error e => exact good_err hl (by rw [el, andThen_error (e1 e hc)]) r
  | ok t =>
    obtain ⟨q, hq, rel⟩ := e2 t hc
    exact good_ok hl (by rw [el, andThen_ok hq]) (r.setE rel) W_undef.symm
theorem good_walk (r : RelW w ws ls) {i door : Nat} (h9 : 9 ≤ door) (h13 : door ≤ 13) (oa : okV a = true) (ob : okV b = true) (oc : okV c = true) (hw : hasWalk w i = true) (ax : door = 10 ∨ door = 11 → OkX a) (f : SW → SW × Pl)
    (hf : ∀ t k, RelWk t k → RelWk (f t).1 (walkF door k a).1 ∧ (walkF door k a).2 = Wp (f t).2) : Good w ws ls door (.int (i : Int)) a b c (withWalk w i f) := by
  obtain ⟨hi, t, k, ht, hk, rel⟩ := r.atW hw
  have hl : LibOk ws ls door (.int (i : Int)) a b c := lib_ok r rfl oa ob oc (fun _ => ⟨i, rfl, hi⟩) (fun _ _ => ⟨k, by rw [slot_eq]; exact hk⟩) (fun h => by omega) (fun h => ax (by omega)) (fun h => by omega)
  have e : withWalk w i f = (setWalk w i (f t).1, .ret (f t).2) := by unfold withWalk; rw [ht]
  obtain ⟨f1, f2⟩ := hf t k rel
  rw [e]
  refine good_ok hl ?_ (r.setW f1) f2
  unfold libF
  rw [if_neg (by omega), if_neg (by omega), if_pos h13, slot_eq, getD_some hk]
theorem good_en (r : RelW w ws ls) {i door : Nat} (h15 : 15 ≤ door) (oa : okV a = true) (ob : okV b = true) (oc : okV c = true) (hw : hasEnumeration w i = true) (ax : door = 16 ∨ door = 17 → OkX a) (tg : door = 19 → OkX b ∧ ∃ u, a = .text u ∧ u.length ≤ 8) (f : SE → SE × Pl)
    (hf : ∀ t k, RelEn t k → RelEn (f t).1 (listF door k a b).1 ∧ (listF door k a b).2 = Wp (f t).2) : Good w ws ls door (.int (i : Int)) a b c (withEnumeration w i f) := by
  obtain ⟨hi, t, k, ht, hk, rel⟩ := r.atE hw
  have hl : LibOk ws ls door (.int (i : Int)) a b c := lib_ok r rfl oa ob oc (fun _ => ⟨i, rfl, hi⟩) (fun _ h => by omega) (fun _ => ⟨k, by rw [slot_eq]; exact hk⟩) (fun h => ax (by omega)) tg
  have e : withEnumeration w i f = (setEnumeration w i (f t).1, .ret (f t).2) := by unfold withEnumeration; rw [ht]
  obtain ⟨f1, f2⟩ := hf t k rel
  rw [e]
  refine good_ok hl ?_ (r.setE f1) f2
  unfold libF
  rw [if_neg (by omega), if_neg (by omega), if_neg (by omega), if_neg (by omega), slot_eq, getD_some hk]
theorem good_together (r : RelW w ws ls) {i : Nat} (oa : okV a = true) (ob : okV b = true) (oc : okV c = true) (hw : hasEnumeration w i = true) (h1 : isRequestString (Tk a) = true) (h2 : isPrimitive (Tk b) = true) (h3 : fits [Tk b] = true) :
    Good w ws ls 19 (.int (i : Int)) a b c (stepUncounted w (.requestTogether i (Tk a) (Tk b))) := by
  obtain ⟨u, rfl⟩ : ∃ u, a = .text u := by
    cases a with
    | text u => exact ⟨u, rfl⟩
    | wide u => exact (noWide_of oa).elim
    | _ => simp [Rust.taken, isRequestString] at h1
  have h4 : (1 ≤ u.length ∧ u.length ≤ 8) ∧ ∀ x ∈ u, x.toNat = 110 ∨ x.toNat = 116 ∨ x.toNat = 114 := by
    have hn : ∀ x : UInt8, (Rust.unitOf x).toNat = x.toNat := fun x => by
      have := x.toNat_lt
      simp [Rust.unitOf]
    simp [Rust.taken, isRequestString, hn] at h1
    exact ⟨by omega, fun x hx => by have := h1.2 x hx; omega⟩
  have hx := okX_of ob h2 h3
  refine good_en r (by decide) oa ob oc hw (fun h => by omega) (fun _ => ⟨hx, u, rfl, h4.1.2⟩) _ fun t k rel => ?_
  have hn : ∀ x : UInt8, (Rust.unitOf x).toNat = x.toNat := fun x => by
    have := x.toNat_lt
    simp [Rust.unitOf]
  obtain ⟨y1, y2⟩ := en_all ob hx.pr (u.map Rust.unitOf) 0 t k rel fun x hx => by
    obtain ⟨y, hy, rfl⟩ := List.mem_map.mp hx
    rw [hn]
    exact h4.2 y hy
  have eu : (u.map Rust.unitOf).map (fun x => ((x.toNat : Nat) : Int)) = oI u := by
    rw [List.map_map]
    exact List.map_congr_left fun x _ => by simp [hn x]
  rw [eu] at y1 y2
  have er : requestsOf (Tk (.text u)) (Tk b) = (u.map Rust.unitOf).map (requestOfUnit (Tk b)) := rfl
  have el : listF 19 k (.text u) b = ((togF b 0 k (oI u)).1, wList (togF b 0 k (oI u)).2) := rfl
  rw [el, er]
  exact ⟨y1, by rw [W_arr, y2]⟩
end
end Dsn
end

section
set_option maxHeartbeats 4000000
/-! # The law: the doors -/
namespace Dsn
open R7284d.Spec (Call Fn fnOf answer World Ans isPrimitive fits stepUncounted walkAt enumerationAt setWalk setEnumeration withWalk withEnumeration hasWalk hasEnumeration inputFits requestFits isSlot createWalk createEnumeration outcomeValue settledValue requestsOf answerAll drainEnumeration maxDrained requestOfUnit walkRequest enumerationRequest isRequestString)
theorem taking_some {n : Nat} {l : List Pl} {o : Option Call} {c : Call} (h : Rust.taking n l o = some c) : o = some c := by
  unfold Rust.taking at h
  split at h
  · exact h
  · cases h
theorem slot_some {l : List Pl} {f : Nat → Option Call} {c : Call} (h : (Rust.slotAt l 0 2).bind f = some c) : ∃ s, Rust.slotOf 2 (Rust.argAt l 0) = some s ∧ f s = some c := by
  unfold Rust.slotAt at h
  cases q : Rust.slotOf 2 (Rust.argAt l 0) with
  | none => rw [q] at h; cases h
  | some s => rw [q] at h; exact ⟨s, rfl, h⟩
theorem dispatch {w : World} {ws : WS} {ls : LS} (r : RelW w ws ls) {door : Nat} {l : List RWire.Value} (hok : okL l = true) {call : Call} (hc : Rust.callOf door (Rust.takenAll l) = some call) (hin : inputFits w call = true) :
    ∃ z a b c r', padL l = z :: a :: b :: c :: r' ∧ Good w ws ls door z a b c (stepUncounted w call) := by
  obtain ⟨z, a, b, c, r', hp⟩ := pad4 l
  have ho := pad_ok hok
  rw [hp] at ho
  have oz := ho z (by simp)
  have oa := ho a (by simp)
  have ob := ho b (by simp)
  have oc := ho c (by simp)
  have a0 : Rust.argAt (Rust.takenAll l) 0 = Tk z := by rw [arg_at l 0 (by decide), hp]; rfl
  have a1 : Rust.argAt (Rust.takenAll l) 1 = Tk a := by rw [arg_at l 1 (by decide), hp]; rfl
  have a2 : Rust.argAt (Rust.takenAll l) 2 = Tk b := by rw [arg_at l 2 (by decide), hp]; rfl
  have a3 : Rust.argAt (Rust.takenAll l) 3 = Tk c := by rw [arg_at l 3 (by decide), hp]; rfl
  refine ⟨z, a, b, c, r', hp, ?_⟩
  have slot : ∀ {n : Nat} {f : Nat → Option Call}, Rust.taking n (Rust.takenAll l) ((Rust.slotAt (Rust.takenAll l) 0 2).bind f) = some call → ∃ s : Nat, z = .int (s : Int) ∧ s < 3 ∧ f s = some call := fun {n f} h => by
    obtain ⟨s, h1, h2⟩ := slot_some (taking_some h)
    rw [a0] at h1
    obtain ⟨h3, h4⟩ := slot_int oz h1
    exact ⟨s, h3, h4, h2⟩
  unfold Rust.callOf at hc
  split at hc
  · unfold Rust.calls0 at hc
    split at hc
    · have e := taking_some hc
      rw [a0, a1, a2] at e
      cases e
      exact good_plain r (by decide) oz oa ob oc (reward_eq oz oa ob)
    · have e := taking_some hc
      rw [a0, a1, a2] at e
      cases e
      exact good_plain r (by decide) oz oa ob oc (values_eq oz oa ob)
    · have e := taking_some hc
      rw [a0, a1] at e
      cases e
      exact good_plain r (by decide) oz oa ob oc (optimal_eq oz oa)
    · have e := taking_some hc
      rw [a0, a1, a2] at e
      cases e
      exact good_plain r (by decide) oz oa ob oc (prefix_eq oz oa ob)
    · have e := taking_some hc
      rw [a0] at e
      cases e
      exact good_plain r (by decide) oz oa ob oc (bla_eq oz)
    · have e := taking_some hc
      rw [a0] at e
      cases e
      exact good_plain r (by decide) oz oa ob oc (myo_eq oz)
    · have e := taking_some hc
      rw [a0, a1] at e
      cases e
      exact good_plain r (by decide) oz oa ob oc (averages_eq oz oa)
    · have e := taking_some hc
      rw [a0] at e
      cases e
      exact good_plain r (by decide) oz oa ob oc (maxa_eq oz)
    · obtain ⟨s, rfl, hs, e⟩ := slot hc
      rw [a1, a2] at e
      cases e
      exact good_storeW r hs oa ob oc
    · obtain ⟨s, rfl, hs, e⟩ := slot hc
      rw [a1] at e
      cases e
      obtain ⟨h1, h2⟩ := Bool.and_eq_true_iff.mp hin
      exact good_walk (door := 9) r (by decide) (by decide) oa ob oc h1 (fun h => by omega) _ fun t k rel => walk_next rel oa
    · obtain ⟨s, rfl, hs, e⟩ := slot hc
      rw [a1] at e
      cases e
      obtain ⟨h1, h2⟩ := Bool.and_eq_true_iff.mp hin
      obtain ⟨h3, h4⟩ := Bool.and_eq_true_iff.mp h2
      have hx := okX_of oa h3 h4
      exact good_walk (door := 10) r (by decide) (by decide) oa ob oc h1 (fun _ => hx) _ fun t k rel => walk_throw rel oa hx.pr
    · obtain ⟨s, rfl, hs, e⟩ := slot hc
      rw [a1] at e
      cases e
      obtain ⟨h1, h2⟩ := Bool.and_eq_true_iff.mp hin
      obtain ⟨h3, h4⟩ := Bool.and_eq_true_iff.mp h2
      have hx := okX_of oa h3 h4
      exact good_walk (door := 11) r (by decide) (by decide) oa ob oc h1 (fun _ => hx) _ fun t k rel => walk_ret rel oa hx.pr
    · obtain ⟨s, rfl, hs, e⟩ := slot hc
      cases e
      exact good_walk (door := 12) r (by decide) (by decide) oa ob oc hin (fun h => by omega) _ fun t k rel => ⟨rel.fin, W_undef.symm⟩
    · obtain ⟨s, rfl, hs, e⟩ := slot hc
      cases e
      exact good_walk (door := 13) r (by decide) (by decide) oa ob oc hin (fun h => by omega) _ fun t k rel => ⟨rel, rfl⟩
    · obtain ⟨s, rfl, hs, e⟩ := slot hc
      rw [a1, a2, a3] at e
      cases e
      exact good_storeE r hs oa ob oc
    · obtain ⟨s, rfl, hs, e⟩ := slot hc
      rw [a1] at e
      cases e
      obtain ⟨h1, h2⟩ := Bool.and_eq_true_iff.mp hin
      refine good_en (door := 15) r (by decide) oa ob oc h1 (fun h => by omega) (fun h => by omega) _ fun t k rel => ?_
      obtain ⟨y1, v, b', y2, y3⟩ := en_next rel
      have el : listF 15 k a b = ((procF k).1, wOut (procF k).2.1 (procF k).2.2) := rfl
      rw [el]
      refine ⟨y1, ?_⟩
      show wOut (procF k).2.1 (procF k).2.2 = Wp (outcomeValue (.next (Tk a)) (R7284d.Spec.enumerationNext t).2)
      rw [y2, y3]
      exact (W_iter v b').symm
    · cases hc
  · unfold Rust.calls1 at hc
    split at hc
    · obtain ⟨s, rfl, hs, e⟩ := slot hc
      rw [a1] at e
      cases e
      obtain ⟨h1, h2⟩ := Bool.and_eq_true_iff.mp hin
      obtain ⟨h3, h4⟩ := Bool.and_eq_true_iff.mp h2
      have hx := okX_of oa h3 h4
      refine good_en (door := 16) r (by decide) oa ob oc h1 (fun _ => hx) (fun h => by omega) _ fun t k rel => ?_
      obtain ⟨y1, y2, y3⟩ := en_throw rel oa hx.pr
      have el : listF 16 k a b = ((thrPF k a).1, wList (thrPF k a).2) := rfl
      rw [el]
      refine ⟨y1, ?_⟩
      show wList (thrPF k a).2 = Wp (settledValue (R7284d.Spec.enumerationThrow t (Tk a)).2)
      rw [y3, W_arr, y2]
    · obtain ⟨s, rfl, hs, e⟩ := slot hc
      rw [a1] at e
      cases e
      obtain ⟨h1, h2⟩ := Bool.and_eq_true_iff.mp hin
      obtain ⟨h3, h4⟩ := Bool.and_eq_true_iff.mp h2
      have hx := okX_of oa h3 h4
      refine good_en (door := 17) r (by decide) oa ob oc h1 (fun _ => hx) (fun h => by omega) _ fun t k rel => ?_
      have el : listF 17 k a b = (endL k, wOut (wAgain a) true) := rfl
      rw [el]
      refine ⟨rel.fin, ?_⟩
      show wOut (wAgain a) true = Wp (R7284d.Spec.iteratorResult (Rust.taken a) true)
      rw [W_iter, W_again oa hx.pr]
    · obtain ⟨s, rfl, hs, e⟩ := slot hc
      cases e
      refine good_en (door := 18) r (by decide) oa ob oc hin (fun h => by omega) (fun h => by omega) _ fun t k rel => ?_
      obtain ⟨y1, y2⟩ := en_drain 80 t k rel (left_lt rel)
      have el : listF 18 k a b = (endL k, wList (k.left.map (showF k.t k.g))) := rfl
      rw [el]
      refine ⟨y1, ?_⟩
      show _ = Wp (.arr (drainEnumeration 80 t).2)
      rw [W_arr, y2]
    · obtain ⟨s, rfl, hs, e⟩ := slot hc
      rw [a1, a2] at e
      cases e
      obtain ⟨h1, h4⟩ := Bool.and_eq_true_iff.mp hin
      obtain ⟨h1, h3⟩ := Bool.and_eq_true_iff.mp h1
      obtain ⟨h1, h2⟩ := Bool.and_eq_true_iff.mp h1
      exact good_together r oa ob oc h1 h2 h3 h4
    · obtain ⟨s, rfl, hs, e⟩ := slot hc
      cases e
      exact good_en (door := 20) r (by decide) oa ob oc hin (fun h => by omega) (fun h => by omega) _ fun t k rel => ⟨rel.fin, W_undef.symm⟩
    · obtain ⟨s, rfl, hs, e⟩ := slot hc
      cases e
      exact good_en (door := 21) r (by decide) oa ob oc hin (fun h => by omega) (fun h => by omega) _ fun t k rel => ⟨rel, rfl⟩
    · cases hc
  · cases hc
end Dsn
end

section
set_option maxHeartbeats 4000000
/-! # The law: sessions -/
namespace Dsn
open R7284d.Spec (World stepUncounted)
theorem numbers_oI (l : List UInt8) : Zq93Neutral.numbersOf l = oI l := rfl
theorem pad_padL (l : List RWire.Value) : pad l = padL l := rfl
/-- the specification's session, by octets -/
def sesS : World → List Rq → List Int
  | _, [] => []
  | w, b :: r => ((((Rust.step w b).2.length : Nat)) : Int) :: (oI (Rust.step w b).2 ++ sesS (Rust.step w b).1 r)
theorem ses : ∀ (bs : List Rq) (w : World) (ws : WS) (ls : LS) (left : Nat), RelW w ws ls → (∀ b ∈ bs, b.length ≤ 100000) → Rust.goes w left bs = true → SesOk ws ls bs ∧ sesF ws ls bs = sesS w bs ∧ (sesS w bs).length ≤ left + bs.length
  | [], w, ws, ls, left, _, _, _ => ⟨trivial, rfl, Nat.zero_le _⟩
  | b :: bs, w, ws, ls, left, r, hb, hg => by
    unfold Rust.goes at hg
    cases ha : Rust.asked b with
    | none => rw [ha] at hg; cases hg
    | some c =>
      rw [ha] at hg
      simp only [Bool.and_eq_true] at hg
      obtain ⟨⟨⟨⟨h1, h2⟩, h3⟩, h4⟩, h5⟩ := hg
      have hin : R7284d.Spec.inputFits w c = true := by
        have := (Bool.and_eq_true_iff.mp h1).1
        exact (Bool.and_eq_true_iff.mp this).1
      have es : Rust.step w b = ((R7284d.Spec.step w c).1, RWire.writeAnswer (Rust.answerOf (R7284d.Spec.step w c).2)) := by
        unfold Rust.step
        rw [ha]
        show (if Rust.canBe w c = true then _ else _) = _
        rw [if_pos h1]
      unfold Rust.asked at ha
      cases hr : RWire.readRequest b with
      | none => rw [hr] at ha; cases ha
      | some dl =>
        obtain ⟨door, l⟩ := dl
        rw [hr] at ha
        have ha' : (if Rust.ofKinds l = true then Rust.callOf door (Rust.takenAll l) else none) = some c := ha
        by_cases hk : Rust.ofKinds l = true
        · rw [if_pos hk] at ha'
          have hok := okL_of hk
          obtain ⟨z, a, b', c', r', hp, hl, hrel, hans⟩ := dispatch r hok ha' hin
          have er : reqF ws ls b = ansF ws ls door z a b' c' := reqF_eq hr hp
          have hrel' : RelW (R7284d.Spec.step w c).1 (reqF ws ls b).1 (reqF ws ls b).2.1 := by
            rw [er]
            exact hrel.count _
          have hans' : (reqF ws ls b).2.2 = oI (Rust.step w b).2 := by
            rw [er, es]
            exact hans h2
          have e1 : (Rust.step w b).1 = (R7284d.Spec.step w c).1 := by rw [es]
          rw [e1.symm] at h5 hrel'
          obtain ⟨i1, i2, i3⟩ := ses bs _ _ _ _ hrel' (fun x hx => hb x (List.mem_cons_of_mem _ hx)) h5
          have h4' := Nat.le_of_ble_eq_true h4
          refine ⟨⟨⟨hb b List.mem_cons_self, door, l, z, a, b', c', r', hr, hok, hp, hl⟩, i1⟩, ?_, ?_⟩
          · show _ :: (_ ++ _) = _ :: (_ ++ _)
            rw [i2, hans', oI_length]
          · show (_ :: (_ ++ _)).length ≤ _
            simp only [List.length_cons, List.length_append, oI_length]
            omega
        · rw [if_neg hk] at ha'
          cases ha'
theorem start_rel : RelW Rust.start ws0 ls0 := by
  refine ⟨rfl, rfl, rfl, rfl, fun i => ?_, fun i => ?_⟩
  · match i with
    | 0 => trivial
    | 1 => trivial
    | 2 => trivial
    | n + 3 => trivial
  · match i with
    | 0 => trivial
    | 1 => trivial
    | 2 => trivial
    | n + 3 => trivial
/-! ### the calls as one list -/
theorem shape_some {p : Int} {q : Nat × Nat} (h : PyZq93.shape p = some q) : p = 0 ∧ q = (0, 1) := by
  unfold PyZq93.shape at h
  split at h
  · rename_i e
    cases h
    exact ⟨e, rfl⟩
  · cases h
theorem row_some {l x t : List Int} (h : PyFlat.row l = some (x, t)) : l = ((x.length : Nat) : Int) :: (x ++ t) := by
  unfold PyFlat.row at h
  split at h
  · cases h
  · rename_i n r
    split at h
    · rename_i hn
      cases h
      have : ((r.take n.toNat).length : Int) = n := by rw [List.length_take]; omega
      rw [this, List.take_append_drop]
    · cases h
theorem rows_some {l t : List Int} {xs : List (List Int)} (h : PyFlat.rows 1 l = some (xs, t)) : ∃ x, xs = [x] ∧ l = ((x.length : Nat) : Int) :: (x ++ t) := by
  unfold PyFlat.rows at h
  split at h
  · cases h
  · rename_i x s hr
    simp only [PyFlat.rows] at h
    cases h
    exact ⟨x, rfl, row_some hr⟩
theorem calls_some : ∀ (f : Nat) (l : List Int) (cs : List (List (List Int))), PyFlat.calls PyZq93.shape f l = some cs → ∃ xs : List (List Int), cs.map PyZq93.whole = xs.map (fun x => [x]) ∧ l = xs.flatMap fun x => 0 :: ((x.length : Nat) : Int) :: x
  | f, [], cs, h => by
    have : cs = [] := by
      cases f <;> simp [PyFlat.calls] at h <;> exact h
    subst this
    exact ⟨[], rfl, rfl⟩
  | 0, p :: r, cs, h => by simp [PyFlat.calls] at h
  | f + 1, p :: r, cs, h => by
    unfold PyFlat.calls at h
    cases hc : PyFlat.call PyZq93.shape (p :: r) with
    | none => rw [hc] at h; cases h
    | some ct =>
      obtain ⟨c, t⟩ := ct
      rw [hc] at h
      have h' : (match PyFlat.calls PyZq93.shape f t with
        | none => none
        | some cs => some (c :: cs)) = some cs := h
      cases ht : PyFlat.calls PyZq93.shape f t with
      | none => rw [ht] at h'; cases h'
      | some cs' =>
        rw [ht] at h'
        cases h'
        obtain ⟨xs, e1, e2⟩ := calls_some f t cs' ht
        unfold PyFlat.call at hc
        dsimp only at hc
        cases hs : PyZq93.shape p with
        | none => rw [hs] at hc; cases hc
        | some q =>
          obtain ⟨rfl, rfl⟩ := shape_some hs
          rw [hs] at hc
          have hc' : (if r.length < 0 then none else match PyFlat.rows 1 (r.drop 0) with
            | none => none
            | some (xs, t) => some (((0 : Int) :: r.take 0) :: xs, t)) = some (c, t) := hc
          rw [if_neg (by omega), List.drop_zero] at hc'
          cases hr : PyFlat.rows 1 r with
          | none => rw [hr] at hc'; cases hc'
          | some xt =>
            obtain ⟨ys, t'⟩ := xt
            rw [hr] at hc'
            cases hc'
            obtain ⟨x, rfl, e3⟩ := rows_some hr
            refine ⟨x :: xs, ?_, ?_⟩
            · show PyZq93.whole _ :: _ = [x] :: _
              rw [e1]
              rfl
            · rw [e3, e2]
              simp
theorem bytes_oI : ∀ x : List Int, NeutralIO.bytes x = true → oI (Zq93Neutral.bytesOf x) = x
  | [], _ => rfl
  | n :: x, h => by
    have h' : (0 ≤ n ∧ n ≤ 255) ∧ NeutralIO.bytes x = true := by simpa [NeutralIO.bytes] using h
    show (((UInt8.ofNat n.toNat).toNat : Nat) : Int) :: oI (Zq93Neutral.bytesOf x) = n :: x
    rw [bytes_oI x h'.2]
    congr 1
    simp
    omega
theorem played_told : ∀ (xs : List (List Int)) (w : World), PyFlat.told (PyFlat.played (fun s c => Zq93Neutral.step s (c.headD [])) w (xs.map fun x => [x])) = sesS w (xs.map Zq93Neutral.bytesOf)
  | [], _ => rfl
  | x :: xs, w => by
    show ((Zq93Neutral.numbersOf (Rust.step w (Zq93Neutral.bytesOf x)).2).length : Int) :: (Zq93Neutral.numbersOf (Rust.step w (Zq93Neutral.bytesOf x)).2 ++ PyFlat.told (PyFlat.played _ (Rust.step w (Zq93Neutral.bytesOf x)).1 (xs.map fun x => [x]))) = _
    rw [played_told xs, numbers_oI, oI_length]
    rfl
theorem flat_bytes : ∀ xs : List (List Int), (∀ x ∈ xs, oI (Zq93Neutral.bytesOf x) = x) → (xs.flatMap fun x => 0 :: ((x.length : Nat) : Int) :: x) = flatC (xs.map Zq93Neutral.bytesOf)
  | [], _ => rfl
  | x :: xs, h => by
    have ih := flat_bytes xs fun y hy => h y (List.mem_cons_of_mem _ hy)
    have e : (Zq93Neutral.bytesOf x).length = x.length := by simp [Zq93Neutral.bytesOf]
    show _ = (0 :: (((Zq93Neutral.bytesOf x).length : Nat) : Int) :: oI (Zq93Neutral.bytesOf x)) ++ flatC (xs.map Zq93Neutral.bytesOf)
    rw [List.flatMap_cons, ih, h x List.mem_cons_self, e]
/-- THE LAW: what is asked is a session of requests, what is due is what the program's mirror tells -/
theorem law (l : List Int) (h : PyZq93.answers_asked l = true) : ∃ bs : List Rq, l = flatC bs ∧ SesOk ws0 ls0 bs ∧ (sesF ws0 ls0 bs).length ≤ 15000000 ∧ PyZq93.answers l = sesF ws0 ls0 bs := by
  unfold PyZq93.answers_asked at h
  cases hc : PyZq93.calls l with
  | none => rw [hc] at h; cases h
  | some cs =>
    rw [hc] at h
    have h' : (PyFlat.atMost 200 cs && Zq93Neutral.asked (cs.map fun c => c.headD []) && PyFlat.short 10000000 (PyZq93.answers l)) = true := h
    have h2 := (Bool.and_eq_true_iff.mp (Bool.and_eq_true_iff.mp h').1).2
    have hc0 := hc
    unfold PyZq93.calls at hc
    cases hp : PyFlat.calls PyZq93.shape l.length l with
    | none => rw [hp] at hc; cases hc
    | some cs' =>
      rw [hp] at hc
      cases hc
      obtain ⟨xs, e1, e2⟩ := calls_some _ _ _ hp
      rw [e1] at h2 hc0
      have e3 : (xs.map fun x => [x]).map (fun c : List (List Int) => c.headD []) = xs := by rw [List.map_map]; simp [Function.comp_def]
      rw [e3] at h2
      obtain ⟨b1, b2⟩ := Bool.and_eq_true_iff.mp h2
      obtain ⟨b3, b4⟩ := Bool.and_eq_true_iff.mp b2
      have hby : ∀ x ∈ xs, oI (Zq93Neutral.bytesOf x) = x := fun x hx => bytes_oI x (List.all_eq_true.mp b1 x hx)
      unfold Rust.fits at b4
      simp only [Bool.and_eq_true] at b4
      obtain ⟨⟨⟨f1, f2⟩, f3⟩, f4⟩ := b4
      have hlen : ∀ b ∈ xs.map Zq93Neutral.bytesOf, b.length ≤ 100000 := fun b hb => by
        have := Nat.le_of_ble_eq_true (List.all_eq_true.mp f2 b hb)
        have : Rust.octetsMost = 60000 := rfl
        omega
      have hcnt := Nat.le_of_ble_eq_true f1
      obtain ⟨s1, s2, s3⟩ := ses _ _ _ _ _ start_rel hlen f4
      refine ⟨xs.map Zq93Neutral.bytesOf, ?_, s1, ?_, ?_⟩
      · rw [e2]
        exact flat_bytes xs hby
      · rw [s2]
        have h1 : Rust.requestsMost = 200 := rfl
        have h2 : Rust.answersAllMost = 4000000 := rfl
        omega
      · unfold PyZq93.answers
        rw [hc0, s2]
        exact played_told xs _
end Dsn
end

section
set_option maxHeartbeats 0
/-! # The head: what the import leaves -/
noncomputable section
namespace Dsn
open PySem PySem.Spec PyProof.Rows L2 Hd
abbrev RS : PySem.W.OpenSpec := PySem.Challenge.rw_discountsnearone_s01_answers
abbrev qv : Program := PySem.W.view PW [115]
/-- what an object's text names -/
def lev (g : Addr → Option Obj) (as : List Addr) : List Addr := as.flatMap fun a => match g a with
  | some o => (match o.data with
    | .dict es _ => es.toList.flatMap fun e => He.refV e.val
    | .func fd => He.refV fd.code
    | .cls cd => cd.ns :: []
    | _ => [])
  | none => []
def asX (g : Addr → Option Obj) : List Addr :=
  let l1 := lev g [mainGlobals]
  let l2 := lev g l1
  let l3 := lev g l2
  let l4 := lev g l3
  mainGlobals :: (l1 ++ (l2 ++ (l3 ++ l4)))
/-- the part of the heap that is looked at -/
def kOf (g : Addr → Option Obj) : PySem.W.Frag := He.frG g (asX g)
def KX (s : PySem.W.SharedT) : PySem.W.Frag := kOf (HandSHeadRun.getT s)
def EF (w : World) (os : OsState) : Option PySem.W.SharedT := HandSHeadRun.endF (HandSHeadRun.stepQ (HandSHeadRun.denQ HandSHeadRun.tabQ) RS.prog w) 30000 RS.prog w os
def lo0 : List PySem.Str := ["NOTHING", "FALSE", "TRUE", "INTEGER", "TEXT", "LIST", "RECORD", "MOST_ARGUMENTS", "LETTER_A", "Value", "read_number", "read_whole", "read_value", "read_parts", "read_arguments", "octets_of", "write_number", "write_truth", "write_whole", "write_text"]
def lo1 : List PySem.Str := ["write_words", "write_word", "write_list", "write_record", "write_fraction", "write_fractions", "write_again", "write_outcome", "result_parts", "thrown_parts", "write_refusal", "common_divisor", "reduced", "at_fraction", "one_more", "about_one", "is_less", "MOST_STATES", "MOST_REWARD", "MOST_BOTTOM"]
def lo2 : List PySem.Str := ["MOST_LETTERS", "MOST_LENGTH", "WrongKind", "OutOfRange", "is_between", "is_pair", "is_transition", "is_state", "transition_of", "system_of", "is_discount", "discount_of", "are_letters", "letters_of", "word_of", "policy_of", "length_of", "LEAD", "ROUND", "all_policies"]
def lo3 : List PySem.Str := ["first_rewards", "value_polynomial", "value_polynomials", "policy_values", "is_best", "first_best", "optimal_policy", "blackwell_policy", "myopic_policy", "round_sums", "average_rewards", "most_average_rewards", "end_of", "rewards_of", "discounted", "word_reward", "preserves", "is_optimal", "longer_words", "optimal_words"]
def lo4 : List PySem.Str := ["NOT_STARTED", "GOES_ON_walks", "HAS_ENDED_walks", "MOST_READ", "is_letter", "is_undo", "Walk", "TOLD_NOTHING", "GOES_ON_listing", "HAS_ENDED_listing", "MOST_SKIP", "SIGN_T", "SIGN_R", "Listing", "optimal_values", "answer_reward", "answer_values", "answer_optimal", "answer_prefix", "answer_averages"]
def lo5 : List PySem.Str := ["answer_plain", "new_walk", "new_listing", "answer_walk", "answer_listing", "Library"]
def loose : List PySem.Str := lo0 ++ lo1 ++ lo2 ++ lo3 ++ lo4 ++ lo5
theorem run_a (w : World) : ∀ os : OsState, (EF w os).map (fun s => (HandSHeadRun.looksF RS.prog (PySem.W.boot_heap w.params) s.abs, HandSHeadRun.seenQ qv loose (importedModules RS.prog.main.body) (fun s => PySem.W.xlAt qv [] s && PySem.W.recOk [] s) s.abs)) = some (true, PySem.W.openGood qv loose) := by
  intro os
  kernel_rfl
theorem run_fa (w : World) : ∀ os : OsState, (EF w os).map (fun s => fa.all fun f => f.ok (KX s)) = some true := by
  intro os
  kernel_rfl
theorem run_fn (w : World) : ∀ os : OsState, (EF w os).map (fun s => fn.all fun d => d.ok (KX s)) = some true := by
  intro os
  kernel_rfl
theorem run_ex (w : World) : ∀ os : OsState, (EF w os).map (fun s => (exB (KX s) "WrongKind", exB (KX s) "OutOfRange")) = some (true, true) := by
  intro os
  kernel_rfl
theorem run_w0 (w : World) : ∀ os : OsState, (EF w os).map (fun s => fn0.map fun d => He.fnW (KX s) d.at_) = some (fn0.map He.DefD.val) := by
  intro os
  kernel_rfl
theorem run_w1 (w : World) : ∀ os : OsState, (EF w os).map (fun s => fn1.map fun d => He.fnW (KX s) d.at_) = some (fn1.map He.DefD.val) := by
  intro os
  kernel_rfl
theorem run_w2 (w : World) : ∀ os : OsState, (EF w os).map (fun s => fn2.map fun d => He.fnW (KX s) d.at_) = some (fn2.map He.DefD.val) := by
  intro os
  kernel_rfl
theorem run_w3 (w : World) : ∀ os : OsState, (EF w os).map (fun s => fn3.map fun d => He.fnW (KX s) d.at_) = some (fn3.map He.DefD.val) := by
  intro os
  kernel_rfl
end Dsn
end
end

section
set_option maxHeartbeats 4000000
/-! # The end: the head, the walk and the law together -/
namespace Dsn
open PySem PySem.Spec PyProof.Rows L2 Hd
abbrev AlX : Type := (Bool × Bool) × (Bool × Bool) × List He.FnW
noncomputable def obsX (K : PySem.W.Frag) : AlX := ((fa.all fun f => f.ok K, fn.all fun d => d.ok K), (exB K "WrongKind", exB K "OutOfRange"), fn.map fun d => He.fnW K d.at_)
noncomputable def valX : AlX := ((true, true), (true, true), fn.map He.DefD.val)
noncomputable def YfX (s : Shared) : AlX := obsX (kOf s.heap.get?)
/-- what the import leaves: a part of the heap with all the facts -/
def YPX (_ : World) (h : Heap) : Prop := ∃ K : PySem.W.Frag, K.In h ∧ He.SaysD fa fn K ∧ exB K "WrongKind" = true ∧ exB K "OutOfRange" = true
theorem kx_eq (s : PySem.W.SharedT) : KX s = kOf s.abs.heap.get? := by
  have e : HandSHeadRun.getT s = s.abs.heap.get? := funext (HandSHeadRun.getT_eq s)
  unfold KX
  rw [e]
theorem map_some {α β : Type} {o : Option α} {f : α → β} {b : β} (h : o.map f = some b) {a : α} (e : o = some a) : f a = b := by
  subst e
  exact Option.some.inj h
theorem head_left : PySem.W.LeftO RS.prog qv loose (fun s => PySem.W.xlAt qv [] s && PySem.W.recOk [] s) YfX (fun _ => valX) (30000 + 600) true := by
  refine HandSHeadRun.left_one (M := 30000) (by kernel_rfl) (Nat.ble_eq_true_of_le (by omega)) (fun s => by kernel_rfl) (Nat.ble_eq_true_of_le (by omega)) fun w os => ?_
  rw [HandSHeadRun.endQ_eq]
  have ra := run_a w os
  obtain ⟨s, hs, hv⟩ := Option.map_eq_some_iff.mp ra
  have h1 := map_some (run_fa w os) hs
  have h2 := map_some (run_fn w os) hs
  have h3 := map_some (run_ex w os) hs
  have w0 := map_some (run_w0 w os) hs
  have w1 := map_some (run_w1 w os) hs
  have w2 := map_some (run_w2 w os) hs
  have w3 := map_some (run_w3 w os) hs
  have hs' : HandSHeadRun.endF (HandSHeadRun.stepQ (HandSHeadRun.denQ HandSHeadRun.tabQ) RS.prog w) 30000 RS.prog w os = some s := hs
  rw [hs']
  rw [kx_eq] at h1 h2 h3 w0 w1 w2 w3
  have hy : YfX s.abs = valX := by
    unfold YfX obsX valX
    rw [h1, h2]
    have h31 : exB (kOf s.abs.heap.get?) "WrongKind" = true := congrArg Prod.fst h3
    have h32 : exB (kOf s.abs.heap.get?) "OutOfRange" = true := congrArg Prod.snd h3
    rw [h31, h32]
    have hf : fn.map (fun d => He.fnW (kOf s.abs.heap.get?) d.at_) = fn.map He.DefD.val := by
      unfold fn
      simp only [List.map_append]
      rw [w0, w1, w2, w3]
    rw [hf]
  have hv1 : HandSHeadRun.looksF RS.prog (PySem.W.boot_heap w.params) s.abs = true := congrArg Prod.fst hv
  have hv2 : HandSHeadRun.seenQ qv loose (importedModules RS.prog.main.body) (fun s => PySem.W.xlAt qv [] s && PySem.W.recOk [] s) s.abs = PySem.W.openGood qv loose := congrArg Prod.snd hv
  rw [← HandSHeadRun.seenQ_eq] at hv2
  show some (HandSHeadRun.looksF RS.prog (PySem.W.boot_heap w.params) s.abs, PySem.W.openSeen qv loose (importedModules RS.prog.main.body) (fun s => PySem.W.xlAt qv [] s && PySem.W.recOk [] s) true s.abs, YfX s.abs) = some (true, PySem.W.openGood qv loose, valX)
  rw [hv1, hv2, hy]
theorem head_says (w : World) (s : Shared) (h : YfX s = valX) : YPX w s.heap := by
  have h1 := congrArg (fun z : AlX => z.1.1) h
  have h2 := congrArg (fun z : AlX => z.1.2) h
  have h3 := congrArg (fun z : AlX => z.2.1.1) h
  have h4 := congrArg (fun z : AlX => z.2.1.2) h
  have h5 := congrArg (fun z : AlX => z.2.2) h
  refine ⟨kOf s.heap.get?, He.frG_in, ?_, h3, h4⟩
  have a1 : (fa.all fun f => f.ok (kOf s.heap.get?)) = true := h1
  have a2 : (fn.all fun d => d.ok (kOf s.heap.get?)) = true := h2
  have a3 : fn.map (fun d => He.fnW (kOf s.heap.get?) d.at_) = fn.map He.DefD.val := h5
  show He.obsD fa fn _ = He.valD fn
  unfold He.obsD He.valD
  rw [a1, a2, a3]
  rfl
theorem head_keeps (w : World) (h h' : Heap) (y : YPX w h) (k : ∀ b o, h.get? b = some o → h'.get? b = some o) : YPX w h' := by
  obtain ⟨K, k1, k2⟩ := y
  exact ⟨K, PySem.W.Frag.In.keeps k1 k, k2⟩
/-- the row, from the promise of its def: the part of the heap is there, whichever it is -/
theorem walk_any {r : PySem.W.OpenSpec} {k : Nat} {q : Program} {loose : List Str} {XP : (Str → Option Value) → Heap → Prop} {YP : World → Heap → Prop} {d : DefRec} {CX : CXT} {ps : List Str} {sp : PySem.W.Frag → Sp}
    (hwell : r.wellSaid = true) (hdf : d.params.defaults = []) (hlen : r.args.length = ps.length) (hr : Room k callerA)
    (F : ∀ (w : World) (mg : Str → Option Value) (fa : Addr) (h : Heap), YP w h → h.Ns mainGlobals mg → mg d.name = some (.ref fa) →
      ∃ (K : PySem.W.Frag) (fd : FuncData), K.In h ∧ (∀ (s : Shared) (us : List Value), us.length = ps.length → BindsTo s fd ⟨us, []⟩ (ps.zip us)) ∧
        ∀ base : Heap, K.In base → base.Ns mainGlobals mg → FnOk r.prog w K mg base CX k fa fd ps (sp K))
    (hsp : ∀ (K : PySem.W.Frag) (H : Hp) (xs : List V) (a : PySem.W.Codec.denoteAll r.args), OnlyF H → PySem.W.Codec.withinAll r.args a = true → PySem.W.Codec.app r.args r.asked a = true → DwAll K H xs (PySem.W.Codec.encAll r.args a) →
      sp K xs H (fun v H' => Dw K H' v (r.ret.enc (PySem.W.Codec.app r.args r.f a))) fun _ _ _ => False)
    (hCX : ∀ (H : Hp) (s : Shared) (e : Value) (s' : Shared), CX [] H s (fun _ _ _ => False) e s' → False) :
    PySem.W.WalkOS q loose XP YP r d [] (fun f vs => PySem.call f vs) := by
  intro w s₀ s₁ mg mb G Y fa o pm cd doc dV kV ho hd hcd hD hmg hg args vals as hpre hlay hrd hwl hlo
  obtain ⟨a, e1, e2⟩ := PySem.W.os_pre_some hpre
  obtain ⟨e3, hwi⟩ := PySem.W.Codec.encAll_of_decAll r.args args a e1
  subst e3
  obtain ⟨K, fd, KX, hb, hF⟩ := F w mg fa _ Y G.T.g hmg
  refine PySem.W.enter_call (codeAny_mono (spec_call (R := []) (cl := classAt s₀.heap) (d0 := r.ret.enc (PySem.W.Codec.app r.args r.f a)) KX G.T.g G.T.b G.T.builtins G.T.nolimit hg hwl (pl_encAll _ _) (layable_weight hlay) hr hF hb (by rw [encAll_len]; exact hlen)
    (fun H xs hO hS => hsp K H xs a hO hwi e2 hS) fun H e s' => hCX H s₁ e s') fun r' s' hq => ?_)
  obtain ⟨u, as', rfl, h1, h2, h3, h4⟩ := hq
  exact ⟨.inl ⟨u, _, as', rfl, fun _ => rfl, h1, (PySem.W.OpenSpec.post_iff hwell hwi _ _).mpr rfl, fun z => Bool.noConfusion (show false = true from z)⟩, h2, h3, h4⟩
end Dsn
end

section
set_option maxHeartbeats 4000000
namespace Dsn
open PySem PySem.Spec PyProof.Rows L2 Hd
theorem desk_ok {mg : Str → Option Value} {K : PySem.W.Frag} (T : Tx K mg) (w : World) : ∃ fd : FuncData, (∀ (s : Shared) (us : List Value), us.length = (["calls"] : List Str).length → BindsTo s fd ⟨us, []⟩ ((["calls"] : List Str).zip us)) ∧
    ∀ base : Heap, K.In base → base.Ns mainGlobals mg → FnOk RS.prog w K mg base CX0 83 (He.ga K "answers") fd ["calls"] (toSp K (p_answers K)) := by
  obtain ⟨fd, F⟩ := T.f_answers
  refine ⟨fd, FunD.bindsA (ps := ["calls"]) F fun _ _ _ _ _ _ us hl => match us, hl with | [_], _ => rfl, fun base _ _ => ?_⟩
  exact fn_ok F sc_answers (fun ds W AQ AX h => by obtain ⟨bs, rfl, _⟩ := h; rfl) fun cdv A outer s H E hr => ⟨rd_answers K, dv_answers T (cal_Library_init T) (cal_Library_answer T) cdv A outer s H E hr, keep_answers K⟩
theorem told (K : PySem.W.Frag) (H : Hp) (a : Addr) (l : List Int) (hs : SqL K H a (l.map V.int)) (h : PyZq93.answers_asked l = true) :
    toSp K (p_answers K) [.ref a] H (fun v H' => Dw K H' v (.list ((PyZq93.answers l).map PySem.W.WData.int))) fun _ _ _ => False := by
  obtain ⟨bs, rfl, h1, h2, h3⟩ := law l h
  refine ⟨H, [.frz ((flatC bs).map D.int)], [], fun d _ => d = iL (sesF ws0 ls0 bs), fun _ _ _ => False, ⟨Ex.refl H, fun _ z => (nomatch z), List.nodup_nil⟩, .cons (.frz hs (HasL.ofInts _)) .nil, ⟨bs, rfl, rfl, h1, h2, fun _ => rfl⟩, fun d W' v H' S' st w' hv q => ?_, fun _ _ _ _ _ _ _ _ _ _ _ z => z.elim⟩
  subst q
  rw [h3]
  cases hv with
  | lst e l =>
    have e2 := HasL.ints l
    subst e2
    exact .lst (SqL.of (w'.sub _ _ e)) (dw_ints _)
end Dsn
open PySem PySem.W PySem.Calls PyProof.Rows
theorem PySem.Challenge.cw_discountsnearone_s01_answers_holds : PySem.Challenge.rw_discountsnearone_s01_answers.Holds := by
  w_on
  refine holds_os (r := PySem.Challenge.rw_discountsnearone_s01_answers) (q := Dsn.qv) (loose := Dsn.loose) (XP := XL Dsn.qv []) (YP := Dsn.YPX) (kwd := []) Dsn.head_left Dsn.head_says Dsn.head_keeps
    (fun s z => xl_of s (Bool.and_eq_true_iff.mp z).1) XL.keeps (by rfl) (by rfl) (by rfl) (fun s z => recFacts_of (Bool.and_eq_true_iff.mp z).2) os_shapes (by first | assumption | decide +kernel) (by decide +kernel) ⟨rfl, rfl, rfl, rfl, rfl, by decide +kernel⟩ ?hw ?hc
  case hw => exact ⟨[.list [.int 0, .int 4, .int 4, .int 0, .int 1, .int 0]], by decide +kernel, by decide +kernel⟩
  case hc =>
    refine Dsn.walk_any (r := PySem.Challenge.rw_discountsnearone_s01_answers) (k := 83) (CX := L2.CX0) (ps := ["calls"]) (sp := fun K => Hd.toSp K (Dsn.p_answers K)) (by decide +kernel) rfl rfl ⟨rfl, by decide, by decide⟩ ?F ?S (fun _ _ _ _ z => z)
    case F =>
      intro w mg fa h Y G hmg
      obtain ⟨K, KX, says, x1, x2⟩ := Y
      have T : Dsn.Tx K mg := ⟨says, ⟨h, KX, G⟩, x1, x2⟩
      have e := hmg.symm.trans T.g_answers
      cases e
      obtain ⟨fd, hb, hF⟩ := Dsn.desk_ok T w
      exact ⟨K, fd, KX, hb, hF⟩
    case S =>
      intro K H xs a hO hwi hask hx
      cases hx with
      | cons h1 h2 =>
        cases h2
        cases h1 with
        | lst hs ha =>
          have e := L2.ints_dw a.1 _ ha
          subst e
          exact Dsn.told K H _ a.1 hs hask
end

