import PyProof.Rows.All
import Wide.All
import OpenK.AllK
import Wide.FinOn
import KE.KStateDown
import Lean
import HandS.ForMost
import HandS.Exc
import HandS.ExcOwn
import HandS.WordsExc
import HandS.Defaults
import HandS.Style
import HandS.Flow
import HandS.Strs
import HandS.Conv
import HandS.Deep
import HandS.SortInts
import HandS.TupAny
import HandS.TupMul
import HandS.IsInst
import HandS.More
import HandS.HeadHook3
import HandS.SetFor
import HandS.HeadWalk
import HandS.Head0
import HandS.Head1
import HandS.Head2
import HandS.HeadEnd
import HandS.HeadHook1
import HandS.HeadHook2
import HandS.HeadHook4
import PySem.Challenge.RW_writeorder_k02_what_may_be_there
set_option Elab.async false
set_option linter.all false
set_option autoImplicit false
set_option maxRecDepth 100000
set_option maxHeartbeats 4000000
/-! A layer of plain data over the hand layer: values are trees, what changes stands in a small memory. -/
namespace DL
open PySem PySem.Spec PyProof.Rows L2

/-- plain data; ref: an object that may change (it stands in the memory), a class, a def -/
inductive Dat where
  | non | bl (b : Bool) | int (i : Int) | str (x : Str) | ref (a : Addr)
  | tup (l : List Dat) | lst (l : List Dat) | frl (l : List Dat)
instance : Inhabited Dat := ⟨.non⟩
/-- what changes -/
inductive MO where
  | lst (l : List Dat)
  | dT (kvs : List (List Int × Dat))
  | ins (C : Addr) (fs : List (Str × Dat))
abbrev Mem := Addr → Option MO
def mup (M : Mem) (a : Addr) (m : MO) : Mem := fun b => if b = a then some m else M b
def mdel (M : Mem) (a : Addr) : Mem := fun b => if b = a then none else M b
theorem mup_same {M : Mem} {a : Addr} {m : MO} : mup M a m a = some m := by unfold mup; rw [if_pos rfl]
theorem mup_ne {M : Mem} {a b : Addr} {m : MO} (h : b ≠ a) : mup M a m b = M b := by unfold mup; rw [if_neg h]
theorem mup_mup {M : Mem} {a : Addr} {m n : MO} : mup (mup M a m) a n = mup M a n := by
  funext b; unfold mup; split <;> rfl
theorem mdel_same {M : Mem} {a : Addr} : mdel M a a = none := by unfold mdel; rw [if_pos rfl]
theorem mdel_ne {M : Mem} {a b : Addr} (h : b ≠ a) : mdel M a b = M b := by unfold mdel; rw [if_neg h]
theorem mdel_mup {M : Mem} {a : Addr} {m : MO} (h : M a = none) : mdel (mup M a m) a = M := by
  funext b
  by_cases hb : b = a
  · subst hb; rw [mdel_same, h]
  · rw [mdel_ne hb, mup_ne hb]
theorem mup_comm {M : Mem} {a b : Addr} {m n : MO} (h : a ≠ b) : mup (mup M a m) b n = mup (mup M b n) a m := by
  funext c
  by_cases h1 : c = a
  · subst h1; rw [mup_ne h, mup_same, mup_same]
  · by_cases h2 : c = b
    · subst h2; rw [mup_same, mup_ne h1, mup_same]
    · rw [mup_ne h2, mup_ne h1, mup_ne h1, mup_ne h2]

section
variable (K : PySem.W.Frag) (B : Hp)
mutual
inductive RD : Dat → V → Prop
  | non : RD .non .non
  | bl (b) : RD (.bl b) (.bl b)
  | int (i) : RD (.int i) (.int i)
  | str (x) : RD (.str x) (.str x)
  | ref (a) : RD (.ref a) (.ref a)
  | tup {a vs ds} : SqT K B a vs → RDs ds vs → RD (.tup ds) (.ref a)
  | lst {a vs ds} : B a = some (.lst vs) → RDs ds vs → RD (.lst ds) (.ref a)
  | frl {a vs ds} : SqL K B a vs → RDs ds vs → RD (.frl ds) (.ref a)
inductive RDs : List Dat → List V → Prop
  | nil : RDs [] []
  | cons {d v ds vs} : RD d v → RDs ds vs → RDs (d :: ds) (v :: vs)
end
end
/-- the one heap within the other -/
def Up (B B' : Hp) : Prop := ∀ a o, B a = some o → B' a = some o
theorem Up.refl (B : Hp) : Up B B := fun _ _ h => h
theorem Up.trans {B B1 B2 : Hp} (a : Up B B1) (b : Up B1 B2) : Up B B2 := fun x o h => b x o (a x o h)
theorem up_l {K : PySem.W.Frag} {B B' : Hp} (e : Up B B') {a : Addr} {xs : List V} (h : SqL K B a xs) : SqL K B' a xs := by
  rcases h with (h | ⟨o, h⟩) | h
  · exact .inl (.inl (e _ _ h))
  · exact .inl (.inr ⟨o, e _ _ h⟩)
  · exact .inr h
theorem up_t {K : PySem.W.Frag} {B B' : Hp} (e : Up B B') {a : Addr} {xs : List V} (h : SqT K B a xs) : SqT K B' a xs := by
  rcases h with (h | ⟨o, h⟩) | h
  · exact .inl (.inl (e _ _ h))
  · exact .inl (.inr ⟨o, e _ _ h⟩)
  · exact .inr h
mutual
theorem RD.up {K : PySem.W.Frag} {B B' : Hp} (e : Up B B') : ∀ {d : Dat} {v : V}, RD K B d v → RD K B' d v
  | _, _, .non => .non
  | _, _, .bl b => .bl b
  | _, _, .int i => .int i
  | _, _, .str x => .str x
  | _, _, .ref a => .ref a
  | _, _, .tup h hs => .tup (up_t e h) (RDs.up e hs)
  | _, _, .lst h hs => .lst (e _ _ h) (RDs.up e hs)
  | _, _, .frl h hs => .frl (up_l e h) (RDs.up e hs)
theorem RDs.up {K : PySem.W.Frag} {B B' : Hp} (e : Up B B') : ∀ {d : List Dat} {v : List V}, RDs K B d v → RDs K B' d v
  | _, _, .nil => .nil
  | _, _, .cons h hs => .cons (RD.up e h) (RDs.up e hs)
end
section
variable {K : PySem.W.Frag} {B : Hp}
theorem RDs.length : ∀ {ds : List Dat} {vs : List V}, RDs K B ds vs → ds.length = vs.length
  | _, _, .nil => rfl
  | _, _, .cons _ h => by simp [RDs.length h]
theorem RDs.get : ∀ {ds : List Dat} {vs : List V} {i : Nat} {d : Dat}, RDs K B ds vs → ds[i]? = some d → ∃ v, vs[i]? = some v ∧ RD K B d v
  | _, _, _, _, .nil, h => by simp at h
  | _, _, 0, d, .cons h _, e => by simp at e; subst e; exact ⟨_, by simp, h⟩
  | _, _, i + 1, d, .cons _ hs, e => by
    obtain ⟨v, e1, e2⟩ := RDs.get (i := i) hs (by simpa using e)
    exact ⟨v, by simpa using e1, e2⟩
theorem RDs.getV : ∀ {ds : List Dat} {vs : List V} {i : Nat} {v : V}, RDs K B ds vs → vs[i]? = some v → ∃ d, ds[i]? = some d ∧ RD K B d v
  | _, _, _, _, .nil, h => by simp at h
  | _, _, 0, d, .cons h _, e => by simp at e; subst e; exact ⟨_, by simp, h⟩
  | _, _, i + 1, d, .cons _ hs, e => by
    obtain ⟨v, e1, e2⟩ := RDs.getV (i := i) hs (by simpa using e)
    exact ⟨v, by simpa using e1, e2⟩
theorem RDs.append : ∀ {ds es : List Dat} {vs ws : List V}, RDs K B ds vs → RDs K B es ws → RDs K B (ds ++ es) (vs ++ ws)
  | _, _, _, _, .nil, h => h
  | _, _, _, _, .cons h hs, k => .cons h (RDs.append hs k)
theorem RDs.take : ∀ {ds : List Dat} {vs : List V} (n : Nat), RDs K B ds vs → RDs K B (ds.take n) (vs.take n)
  | _, _, 0, _ => .nil
  | _, _, _ + 1, .nil => .nil
  | _, _, n + 1, .cons h hs => .cons h (RDs.take n hs)
theorem RDs.drop : ∀ {ds : List Dat} {vs : List V} (n : Nat), RDs K B ds vs → RDs K B (ds.drop n) (vs.drop n)
  | _, _, 0, h => h
  | _, _, _ + 1, .nil => .nil
  | _, _, n + 1, .cons _ hs => RDs.drop n hs
theorem RDs.set {d : Dat} {v : V} (h : RD K B d v) : ∀ {ds : List Dat} {vs : List V} (n : Nat), RDs K B ds vs → RDs K B (ds.set n d) (vs.set n v)
  | _, _, _, .nil => .nil
  | _, _, 0, .cons _ hs => .cons h hs
  | _, _, n + 1, .cons k hs => .cons k (RDs.set h n hs)
theorem RDs.eraseIdx : ∀ {ds : List Dat} {vs : List V} (n : Nat), RDs K B ds vs → RDs K B (ds.eraseIdx n) (vs.eraseIdx n)
  | _, _, _, .nil => .nil
  | _, _, 0, .cons _ hs => hs
  | _, _, n + 1, .cons k hs => .cons k (RDs.eraseIdx n hs)
theorem RDs.reverse : ∀ {ds : List Dat} {vs : List V}, RDs K B ds vs → RDs K B ds.reverse vs.reverse
  | _, _, .nil => .nil
  | _, _, .cons k hs => by simp only [List.reverse_cons]; exact (RDs.reverse hs).append (.cons k .nil)
theorem RDs.one {d : Dat} {vs : List V} (h : RDs K B [d] vs) : ∃ v, vs = [v] ∧ RD K B d v := by
  cases h with | cons a b => cases b; exact ⟨_, rfl, a⟩
theorem RDs.ints : ∀ {ns : List Int} {vs : List V}, RDs K B (ns.map Dat.int) vs → vs = ns.map V.int
  | [], _, .nil => rfl
  | n :: ns, _, .cons h hs => by
    cases h
    rw [RDs.ints hs]
    rfl
theorem rds_ints : ∀ ns : List Int, RDs K B (ns.map Dat.int) (ns.map V.int)
  | [] => .nil
  | n :: ns => .cons (.int n) (rds_ints ns)
theorem RDs.strs : ∀ {ns : List Str} {vs : List V}, RDs K B (ns.map Dat.str) vs → vs = ns.map V.str
  | [], _, .nil => rfl
  | n :: ns, _, .cons h hs => by
    cases h
    rw [RDs.strs hs]
    rfl
theorem rds_strs : ∀ ns : List Str, RDs K B (ns.map Dat.str) (ns.map V.str)
  | [] => .nil
  | n :: ns => .cons (.str n) (rds_strs ns)
end

/-- an object of the memory -/
def MOk (K : PySem.W.Frag) (B H : Hp) (a : Addr) : MO → Prop
  | .lst ds => ∃ vs, H a = some (.lst vs) ∧ RDs K B ds vs
  | .dT kvs => ∃ kws, H a = some (.dT kws) ∧ Paired (fun (p : List Int × Dat) (q : List Key × V) => q.1 = p.1.map Sum.inl ∧ RD K B p.2 q.2) kvs kws
  | .ins C fs => ∃ dx fvs, H a = some (.ins C dx fvs) ∧ Paired (fun (p : Str × Dat) (q : Str × V) => p.1 = q.1 ∧ RD K B p.2 q.2) fs fvs
theorem MOk.there {K : PySem.W.Frag} {B H : Hp} {a : Addr} {m : MO} (h : MOk K B H a m) : ∃ o, H a = some o := by
  cases m with
  | lst ds => obtain ⟨vs, e, _⟩ := h; exact ⟨_, e⟩
  | dT kvs => obtain ⟨vs, e, _⟩ := h; exact ⟨_, e⟩
  | ins C fs => obtain ⟨dx, fvs, e, _⟩ := h; exact ⟨_, e⟩
theorem MOk.up {K : PySem.W.Frag} {B B' H H' : Hp} {a : Addr} {m : MO} (h : MOk K B H a m) (e : Up B B') (q : H' a = H a) : MOk K B' H' a m := by
  cases m with
  | lst ds => obtain ⟨vs, e1, e2⟩ := h; exact ⟨vs, by rw [q, e1], e2.up e⟩
  | dT kvs => obtain ⟨vs, e1, e2⟩ := h; exact ⟨vs, by rw [q, e1], Paired.mapP e2 fun p q z => ⟨z.1, z.2.up e⟩⟩
  | ins C fs => obtain ⟨dx, fvs, e1, e2⟩ := h; exact ⟨dx, fvs, by rw [q, e1], Paired.mapP e2 fun p q z => ⟨z.1, z.2.up e⟩⟩

/-- the heap: what stands for ever (B), what changes (M) -/
structure Rp (K : PySem.W.Frag) (H : Hp) (M : Mem) (B : Hp) : Prop where
  sub : Up B H
  mem : ∀ a m, M a = some m → B a = none ∧ MOk K B H a m
/-- what has become of a heap: what is tracked stays so; all that is not of the memory is as it was -/
structure Fr (H : Hp) (M : Mem) (B : Hp) (H' : Hp) (M' : Mem) (B' : Hp) : Prop where
  there : ∀ a o, H a = some o → ∃ o', H' a = some o'
  keep : ∀ a o, H a = some o → M a = none → H' a = some o ∧ M' a = none ∧ B' a = B a
section
variable {K : PySem.W.Frag} {H H' H1 H2 B B' B1 B2 : Hp} {M M' M1 M2 : Mem}
theorem Fr.refl (H : Hp) (M : Mem) (B : Hp) : Fr H M B H M B := ⟨fun _ o h => ⟨o, h⟩, fun _ _ h h' => ⟨h, h', rfl⟩⟩
theorem Fr.trans (a : Fr H M B H1 M1 B1) (b : Fr H1 M1 B1 H2 M2 B2) : Fr H M B H2 M2 B2 := ⟨fun x o h => by
  obtain ⟨o1, h1⟩ := a.there x o h
  exact b.there x o1 h1, fun x o h h' => by
  obtain ⟨p, q, r⟩ := a.keep x o h h'
  obtain ⟨p', q', r'⟩ := b.keep x o p q
  exact ⟨p', q', r'.trans r⟩⟩
theorem Fr.free (a : Fr H M B H1 M1 B1) {p : Addr} (h : H1 p = none) : H p = none := by
  cases e : H p with
  | none => rfl
  | some o =>
    obtain ⟨o', q⟩ := a.there p o e
    rw [h] at q; cases q
theorem Fr.up (f : Fr H M B H' M' B') (r : Rp K H M B) : Up B B' := fun a o h => by
  have hm : M a = none := by
    cases e : M a with
    | none => rfl
    | some m => rw [(r.mem a m e).1] at h; cases h
  rw [(f.keep a o (r.sub a o h) hm).2.2, h]
theorem Fr.noneH (B : Hp) (H' : Hp) (M' : Mem) (B' : Hp) (M : Mem) : Fr (fun _ => Option.none) M B H' M' B' := ⟨(fun _ _ h => nomatch h), fun _ _ h => nomatch h⟩
theorem Rp.bnone (r : Rp K H M B) {a : Addr} (h : H a = none) : B a = none := by
  cases e : B a with
  | none => rfl
  | some o => rw [r.sub a o e] at h; cases h
theorem Rp.mnone (r : Rp K H M B) {a : Addr} (h : H a = none) : M a = none := by
  cases e : M a with
  | none => rfl
  | some m =>
    obtain ⟨o, q⟩ := (r.mem a m e).2.there
    rw [q] at h; cases h
theorem Rp.bm (r : Rp K H M B) {a : Addr} {o : HO} (h : B a = some o) : M a = none := by
  cases e : M a with
  | none => rfl
  | some m => rw [(r.mem a m e).1] at h; cases h
theorem up_there {p : Addr} {o : HO} : ∀ a u, H a = some u → ∃ o', upd H p o a = some o' := fun a u e => by
  by_cases ha : a = p
  · subst ha; exact ⟨_, upd_same⟩
  · exact ⟨u, by rw [upd_ne ha]; exact e⟩
/-- a new object that stands for ever -/
theorem Rp.newB (r : Rp K H M B) {p : Addr} (h : H p = none) (o : HO) : Rp K (upd H p o) M (upd B p o) ∧ Fr H M B (upd H p o) M (upd B p o) ∧ Up B (upd B p o) := by
  have hb := r.bnone h
  have hu : Up B (upd B p o) := fun a u e => by rw [upd_ne (ne_of_none e hb)]; exact e
  refine ⟨⟨fun a u e => ?_, fun a m e => ?_⟩, ⟨up_there, fun a u e e' => ?_⟩, hu⟩
  · by_cases ha : a = p
    · subst ha; rw [upd_same] at e ⊢; exact e
    · rw [upd_ne ha] at e ⊢; exact r.sub a u e
  · obtain ⟨h1, h2⟩ := r.mem a m e
    obtain ⟨u, h3⟩ := h2.there
    have ha : a ≠ p := ne_of_none h3 h
    exact ⟨by rw [upd_ne ha]; exact h1, h2.up hu (upd_ne ha)⟩
  · have ha : a ≠ p := ne_of_none e h
    exact ⟨by rw [upd_ne ha]; exact e, e', upd_ne ha⟩
/-- a new object that is of neither -/
theorem Rp.extra (r : Rp K H M B) {p : Addr} (h : H p = none) (o : HO) : Rp K (upd H p o) M B ∧ Fr H M B (upd H p o) M B :=
  ⟨⟨fun a u e => by rw [upd_ne (ne_of_none (r.sub a u e) h)]; exact r.sub a u e, fun a m e => by
    obtain ⟨h1, h2⟩ := r.mem a m e
    obtain ⟨u, h3⟩ := h2.there
    exact ⟨h1, h2.up (Up.refl B) (upd_ne (ne_of_none h3 h))⟩⟩, up_there, fun a u e e' => ⟨by rw [upd_ne (ne_of_none e h)]; exact e, e', rfl⟩⟩
/-- an object that stands but is of neither: now it is of the ground, or of the memory -/
theorem Rp.addB (r : Rp K H M B) {p : Addr} {o : HO} (h : H p = some o) (hb : B p = none) (hm : M p = none) : Rp K H M (upd B p o) ∧ Up B (upd B p o) := by
  have hu : Up B (upd B p o) := fun a u e => by rw [upd_ne (ne_of_none e hb)]; exact e
  refine ⟨⟨fun a u e => ?_, fun a m e => ?_⟩, hu⟩
  · by_cases ha : a = p
    · subst ha; rw [upd_same] at e; cases e; exact h
    · rw [upd_ne ha] at e; exact r.sub a u e
  · obtain ⟨h1, h2⟩ := r.mem a m e
    have ha : a ≠ p := fun z => by subst z; rw [hm] at e; cases e
    exact ⟨by rw [upd_ne ha]; exact h1, h2.up hu rfl⟩
theorem Rp.addM (r : Rp K H M B) {p : Addr} {m : MO} (hb : B p = none) (ok : MOk K B H p m) : Rp K H (mup M p m) B := by
  refine ⟨r.sub, fun a n e => ?_⟩
  by_cases ha : a = p
  · subst ha; rw [mup_same] at e; cases e; exact ⟨hb, ok⟩
  · rw [mup_ne ha] at e; exact r.mem a n e
theorem Fr.addB (f : Fr H M B H1 M1 B1) {p : Addr} {o : HO} (h : H p = none) : Fr H M B H1 M1 (upd B1 p o) := ⟨f.there, fun a u e e' => by
  obtain ⟨h1, h2, h3⟩ := f.keep a u e e'
  exact ⟨h1, h2, by rw [upd_ne (ne_of_none e h)]; exact h3⟩⟩
theorem Fr.addM (f : Fr H M B H1 M1 B1) {p : Addr} {m : MO} (h : H p = none) : Fr H M B H1 (mup M1 p m) B1 := ⟨f.there, fun a u e e' => by
  obtain ⟨h1, h2, h3⟩ := f.keep a u e e'
  exact ⟨h1, by rw [mup_ne (ne_of_none e h)]; exact h2, h3⟩⟩
/-- a new object of the memory -/
theorem Rp.newM (r : Rp K H M B) {p : Addr} (h : H p = none) {o : HO} {m : MO} (hm : MOk K B (upd H p o) p m) : Rp K (upd H p o) (mup M p m) B ∧ Fr H M B (upd H p o) (mup M p m) B :=
  ⟨(r.extra h o).1.addM (r.bnone h) hm, (r.extra h o).2.addM h⟩
/-- an object of the memory is written -/
theorem Rp.write (r : Rp K H M B) {p : Addr} {n : MO} (h : M p = some n) {o : HO} {m : MO} (hm : MOk K B (upd H p o) p m) : Rp K (upd H p o) (mup M p m) B ∧ Fr H M B (upd H p o) (mup M p m) B := by
  have hb := (r.mem p n h).1
  refine ⟨⟨fun a u e => ?_, fun a n e => ?_⟩, up_there, fun a u e e' => ?_⟩
  · rw [upd_ne (ne_of_none e hb)]; exact r.sub a u e
  · by_cases ha : a = p
    · subst ha
      rw [mup_same] at e; cases e
      exact ⟨hb, hm⟩
    · rw [mup_ne ha] at e
      obtain ⟨h1, h2⟩ := r.mem a n e
      exact ⟨h1, h2.up (Up.refl B) (upd_ne ha)⟩
  · have ha : a ≠ p := fun z => by subst z; rw [h] at e'; cases e'
    exact ⟨by rw [upd_ne ha]; exact e, by rw [mup_ne ha]; exact e', rfl⟩
/-- forgetting some of the memory -/
theorem Rp.drop (r : Rp K H M B) (h : ∀ a m, M' a = some m → M a = some m) : Rp K H M' B := ⟨r.sub, fun a m e => r.mem a m (h a m e)⟩
theorem Fr.drop (f : Fr H M B H1 M1 B1) (h : ∀ a m, M' a = some m → M1 a = some m) : Fr H M B H1 M' B1 := ⟨f.there, fun a o e e' => by
  obtain ⟨p, q, s⟩ := f.keep a o e e'
  refine ⟨p, ?_, s⟩
  cases z : M' a with
  | none => rfl
  | some m => rw [h a m z] at q; cases q⟩
/-- a list of the memory stands from now on -/
theorem Rp.freeze (r : Rp K H M B) {p : Addr} {ds : List Dat} (h : M p = some (.lst ds)) : ∃ B', Rp K H (mdel M p) B' ∧ Fr H M B H (mdel M p) B' ∧ Up B B' ∧ RD K B' (.lst ds) (.ref p) := by
  obtain ⟨hb, vs, e, hv⟩ := r.mem p _ h
  have hd : Rp K H (mdel M p) B := r.drop fun a m q => by
    by_cases ha : a = p
    · subst ha; rw [mdel_same] at q; cases q
    · rw [mdel_ne ha] at q; exact q
  obtain ⟨r1, hu⟩ := hd.addB e hb mdel_same
  refine ⟨_, r1, ⟨fun a o q => ⟨o, q⟩, fun a u q q' => ?_⟩, hu, .lst upd_same (hv.up hu)⟩
  have ha : a ≠ p := fun z => by subst z; rw [h] at q'; cases q'
  exact ⟨q, by rw [mdel_ne ha]; exact q', upd_ne ha⟩
end

/-! ### the static context -/
structure Sc where
  P : Program
  w : World
  K : PySem.W.Frag
  mg : Str → Option Value
  base : Heap
  N : List Str
  sc : Scope
  fn : Str → Bool
  k : Nat
  Ex : Value → List (Str × Dat) → Mem → Prop
structure Fits (S : Sc) (X : Cx) : Prop where
  prog : X.prog = S.P
  w : X.w = S.w
  K : X.K = S.K
  mg : X.mg = S.mg
  base : X.base = S.base
  N : X.N = S.N
  sc : X.env.scope = S.sc
  calm : X.calm = true
  room : Room S.k X.A
  fn : X.fn = S.fn
  own : PassesOwn (model X.prog X.w) X.A X.env X.xe
/-- an exception's fields -/
def XF (K : PySem.W.Frag) (B H : Hp) (d : Option Addr) (fs : List (Str × Dat)) : Prop :=
  (d = none ∧ fs = []) ∨ ∃ dd fvs, d = some dd ∧ H dd = some (.xd fvs) ∧ Paired (fun (p : Str × Dat) (q : Str × V) => p.1 = q.1 ∧ RD K B p.2 q.2) fs fvs
def EXD (K : PySem.W.Frag) (H0 : Hp) (M0 : Mem) (B0 : Hp) (Ex : Value → List (Str × Dat) → Mem → Prop) : XK := fun cls d H' =>
  ∃ M' B' fs, Rp K H' M' B' ∧ Fr H0 M0 B0 H' M' B' ∧ XF K B' H' d fs ∧ Ex cls fs M'
def Wish (S : Sc) (X : Cx) (H0 : Hp) (M0 : Mem) (B0 : Hp) : Prop := Takes X (fun cls d _ H => EXD S.K H0 M0 B0 S.Ex cls d H)
/-- the slots -/
structure Sl (K : PySem.W.Frag) (B : Hp) (σ : L2.St) (ρ : List (Option Dat)) : Prop where
  len : ρ.length = σ.length
  at_ : ∀ (i : Nat) (d : Dat), ρ[i]? = some (some d) → ∃ v, σ[i]? = some (some v) ∧ RD K B d v
theorem Sl.up {K : PySem.W.Frag} {B B' : Hp} {σ : L2.St} {ρ : List (Option Dat)} (h : Sl K B σ ρ) (e : Up B B') : Sl K B' σ ρ :=
  ⟨h.len, fun i d q => by obtain ⟨v, h1, h2⟩ := h.at_ i d q; exact ⟨v, h1, h2.up e⟩⟩
theorem Sl.set {K : PySem.W.Frag} {B : Hp} {σ : L2.St} {ρ : List (Option Dat)} (h : Sl K B σ ρ) {d : Dat} {v : V} (r : RD K B d v) (i : Nat) : Sl K B (σ.set i (some v)) (ρ.set i (some d)) := by
  refine ⟨by simp [h.len], fun j e q => ?_⟩
  by_cases hj : i = j
  · subst hj
    by_cases hl : i < ρ.length
    · rw [List.getElem?_set_self hl] at q
      cases q
      exact ⟨v, List.getElem?_set_self (h.len ▸ hl), r⟩
    · rw [List.getElem?_eq_none (by simp; omega)] at q
      cases q
  · rw [List.getElem?_set_ne hj] at q ⊢
    exact h.at_ j e q
/-- fewer slots told -/
theorem Sl.weak {K : PySem.W.Frag} {B : Hp} {σ : L2.St} {ρ ρ' : List (Option Dat)} (h : Sl K B σ ρ) (hl : ρ'.length = ρ.length) (hw : ∀ (i : Nat) (d : Dat), ρ'[i]? = some (some d) → ρ[i]? = some (some d)) : Sl K B σ ρ' :=
  ⟨hl.trans h.len, fun i d q => h.at_ i d (hw i d q)⟩
abbrev Env' := List (Option Dat)
abbrev DK := Dat → Mem → Prop
def PE' (S : Sc) (H : Hp) (M : Mem) (B : Hp) (Φ : DK) : VK := fun v H' => ∃ d M' B', Rp S.K H' M' B' ∧ Fr H M B H' M' B' ∧ RD S.K B' d v ∧ Φ d M'
def PB' (S : Sc) (H : Hp) (M : Mem) (B : Hp) (Φ : Bool → Mem → Prop) : Bool → Hp → Prop := fun b H' => ∃ M' B', Rp S.K H' M' B' ∧ Fr H M B H' M' B' ∧ Φ b M'
def PA' (S : Sc) (H : Hp) (M : Mem) (B : Hp) (Φ : List Dat → Mem → Prop) : List V → Hp → Prop := fun vs H' => ∃ ds M' B', Rp S.K H' M' B' ∧ Fr H M B H' M' B' ∧ RDs S.K B' ds vs ∧ Φ ds M'
/-- an expression, in slots ρ and memory M, gives what Φ says -/
def RE (S : Sc) (ρ : Env') (M : Mem) (e : Expr) (Φ : DK) : Prop :=
  ∀ X, Fits S X → ∀ H0 M0 B0, Wish S X H0 M0 B0 → ∀ pins s σ H B, Inv X pins σ H s → Sl S.K B σ ρ → Rp S.K H M B → Fr H0 M0 B0 H M B →
    wpAny (model X.prog X.w) X.A (eval e X.env) (EP X pins σ (PE' S H M B Φ)) X.xe s
/-- a test -/
def RT (S : Sc) (ρ : Env') (M : Mem) (e : Expr) (Φ : Bool → Mem → Prop) : Prop :=
  ∀ X, Fits S X → ∀ H0 M0 B0, Wish S X H0 M0 B0 → ∀ pins s σ H B, Inv X pins σ H s → Sl S.K B σ ρ → Rp S.K H M B → Fr H0 M0 B0 H M B →
    wpAny (model X.prog X.w) X.A (isTrue e X.env (eval e X.env)) (TP X pins σ (PB' S H M B Φ)) X.xe s
/-- a test within and, or -/
def RW (S : Sc) (ρ : Env') (M : Mem) (e : Expr) (Φ : Bool → Mem → Prop) : Prop :=
  ∀ X, Fits S X → ∀ H0 M0 B0, Wish S X H0 M0 B0 → ∀ (whole : Sem Value) pins s σ H B, Inv X pins σ H s → Sl S.K B σ ρ → Rp S.K H M B → Fr H0 M0 B0 H M B →
    wpAny (model X.prog X.w) X.A (isTrue e X.env whole) (TP X pins σ (PB' S H M B Φ)) X.xe s
/-- arguments -/
def RA (S : Sc) (ρ : Env') (M : Mem) (es : List Expr) (Φ : List Dat → Mem → Prop) : Prop :=
  ∀ X, Fits S X → ∀ H0 M0 B0, Wish S X H0 M0 B0 → ∀ (pos : Pos) pins s σ H B, Inv X pins σ H s → Sl S.K B σ ρ → Rp S.K H M B → Fr H0 M0 B0 H M B →
    wpAny (model X.prog X.w) X.A (spliced (backTo pos (starEach es X.env))) (AP X pins σ (PA' S H M B Φ)) X.xe s
/-- what is wanted behind a statement -/
structure DE where
  nx : Env' → Mem → Prop
  rt : DK
  bk : Env' → Mem → Prop := fun _ _ => False
  ct : Env' → Mem → Prop := fun _ _ => False
def PN' (S : Sc) (H : Hp) (M : Mem) (B : Hp) (Φ : Env' → Mem → Prop) : L2.St → Hp → Prop := fun σ' H' => ∃ ρ' M' B', Sl S.K B' σ' ρ' ∧ Rp S.K H' M' B' ∧ Fr H M B H' M' B' ∧ Φ ρ' M'
def ends (S : Sc) (H : Hp) (M : Mem) (B : Hp) (D : DE) : Ends := ⟨PN' S H M B D.nx, PE' S H M B D.rt, PN' S H M B D.bk, PN' S H M B D.ct⟩
/-- a block -/
def RS (S : Sc) (ρ : Env') (M : Mem) (sts : List Stmt) (D : DE) : Prop :=
  ∀ X, Fits S X → ∀ H0 M0 B0, Wish S X H0 M0 B0 → ∀ pins s σ H B, Inv X pins σ H s → Sl S.K B σ ρ → Rp S.K H M B → Fr H0 M0 B0 H M B →
    wpAny (model X.prog X.w) X.A (execs sts X.env) (SP X pins (ends S H M B D)) X.xe s
/-- a statement -/
def R1 (S : Sc) (ρ : Env') (M : Mem) (st : Stmt) (D : DE) : Prop :=
  ∀ X, Fits S X → ∀ H0 M0 B0, Wish S X H0 M0 B0 → ∀ pins s σ H B, Inv X pins σ H s → Sl S.K B σ ρ → Rp S.K H M B → Fr H0 M0 B0 H M B →
    wpAny (model X.prog X.w) X.A (exec st X.env) (SP X pins (ends S H M B D)) X.xe s
/-- a target, for the datum d -/
def RG (S : Sc) (ρ : Env') (M : Mem) (tg : Expr) (d : Dat) (Φ : Env' → Mem → Prop) : Prop :=
  ∀ X, Fits S X → ∀ H0 M0 B0, Wish S X H0 M0 B0 → ∀ pins s σ H B v u, Inv X pins σ H s → RelV v u → Sl S.K B σ ρ → Rp S.K H M B → RD S.K B d v → Fr H0 M0 B0 H M B →
    wpAny (model X.prog X.w) X.A (assign tg X.env u) (fun _ s' => ∃ σ' H', Inv X pins σ' H' s' ∧ PN' S H M B Φ σ' H') X.xe s

/-! ### from the one to the other -/
section
variable {S : Sc} {X : Cx} {H0 : Hp} {M0 : Mem} {B0 : Hp}
def tE (S : Sc) (H0 : Hp) (M0 : Mem) (B0 : Hp) (e : Expr) : TE := fun σ H Q => ∃ ρ M B Φ, Sl S.K B σ ρ ∧ Rp S.K H M B ∧ Fr H0 M0 B0 H M B ∧ RE S ρ M e Φ ∧ ∀ v H', PE' S H M B Φ v H' → Q v H'
def tT (S : Sc) (H0 : Hp) (M0 : Mem) (B0 : Hp) (e : Expr) : TT := fun σ H Q => ∃ ρ M B Φ, Sl S.K B σ ρ ∧ Rp S.K H M B ∧ Fr H0 M0 B0 H M B ∧ RT S ρ M e Φ ∧ ∀ v H', PB' S H M B Φ v H' → Q v H'
def tW (S : Sc) (H0 : Hp) (M0 : Mem) (B0 : Hp) (e : Expr) : TT := fun σ H Q => ∃ ρ M B Φ, Sl S.K B σ ρ ∧ Rp S.K H M B ∧ Fr H0 M0 B0 H M B ∧ RW S ρ M e Φ ∧ ∀ v H', PB' S H M B Φ v H' → Q v H'
def tA' (S : Sc) (H0 : Hp) (M0 : Mem) (B0 : Hp) (es : List Expr) : TA := fun σ H Q => ∃ ρ M B Φ, Sl S.K B σ ρ ∧ Rp S.K H M B ∧ Fr H0 M0 B0 H M B ∧ RA S ρ M es Φ ∧ ∀ v H', PA' S H M B Φ v H' → Q v H'
def tS' (S : Sc) (H0 : Hp) (M0 : Mem) (B0 : Hp) (sts : List Stmt) : TS := fun D σ H => ∃ ρ M B Φ, Sl S.K B σ ρ ∧ Rp S.K H M B ∧ Fr H0 M0 B0 H M B ∧ RS S ρ M sts Φ ∧
  (∀ σ' H', PN' S H M B Φ.nx σ' H' → D.nx σ' H') ∧ (∀ v H', PE' S H M B Φ.rt v H' → D.rt v H') ∧ (∀ σ' H', PN' S H M B Φ.bk σ' H' → D.bk σ' H') ∧ (∀ σ' H', PN' S H M B Φ.ct σ' H' → D.ct σ' H')
def tG' (S : Sc) (H0 : Hp) (M0 : Mem) (B0 : Hp) (tg : Expr) : TG := fun v σ H Q => ∃ ρ M B d Φ, Sl S.K B σ ρ ∧ Rp S.K H M B ∧ RD S.K B d v ∧ Fr H0 M0 B0 H M B ∧ RG S ρ M tg d Φ ∧ ∀ σ' H', PN' S H M B Φ σ' H' → Q σ' H'
theorem EP_imp {pins : List (Addr × Obj)} {σ : L2.St} {Q Q' : VK} {u : Value} {s' : Shared} (h : EP X pins σ Q u s') (q : ∀ v H', Q v H' → Q' v H') : EP X pins σ Q' u s' := by
  obtain ⟨v, H', I, r, z⟩ := h
  exact ⟨v, H', I, r, q v H' z⟩
theorem TP_imp {pins : List (Addr × Obj)} {σ : L2.St} {Q Q' : Bool → Hp → Prop} {u : Bool} {s' : Shared} (h : TP X pins σ Q u s') (q : ∀ v H', Q v H' → Q' v H') : TP X pins σ Q' u s' := by
  obtain ⟨H', I, z⟩ := h
  exact ⟨H', I, q _ H' z⟩
theorem AP_imp {pins : List (Addr × Obj)} {σ : L2.St} {Q Q' : List V → Hp → Prop} {u : List Value} {s' : Shared} (h : AP X pins σ Q u s') (q : ∀ v H', Q v H' → Q' v H') : AP X pins σ Q' u s' := by
  obtain ⟨v, H', I, r, z⟩ := h
  exact ⟨v, H', I, r, q v H' z⟩
theorem SP_imp {pins : List (Addr × Obj)} {D D' : Ends} {f : Flow} {s' : Shared} (h : SP X pins D f s') (q1 : ∀ σ' H', D.nx σ' H' → D'.nx σ' H') (q2 : ∀ v H', D.rt v H' → D'.rt v H') (q3 : ∀ σ' H', D.bk σ' H' → D'.bk σ' H') (q4 : ∀ σ' H', D.ct σ' H' → D'.ct σ' H') : SP X pins D' f s' := by
  cases f with
  | next => obtain ⟨σ', H', I, z⟩ := h; exact ⟨σ', H', I, q1 _ _ z⟩
  | brk => obtain ⟨σ', H', I, z⟩ := h; exact ⟨σ', H', I, q3 _ _ z⟩
  | cont => obtain ⟨σ', H', I, z⟩ := h; exact ⟨σ', H', I, q4 _ _ z⟩
  | ret u => obtain ⟨v, σ', H', I, r, z⟩ := h; exact ⟨v, σ', H', I, r, q2 _ _ z⟩
theorem pe_of (fit : Fits S X) (w : Wish S X H0 M0 B0) (e : Expr) : PE X e (tE S H0 M0 B0 e) :=
  ⟨fun pins s σ H Q I ⟨ρ, M, B, Φ, h1, h2, h3, h4, h5⟩ => thn (h4 X fit H0 M0 B0 w pins s σ H B I h1 h2 h3) fun _ _ q => EP_imp q h5⟩
theorem pt_of (fit : Fits S X) (w : Wish S X H0 M0 B0) (e : Expr) : PT X e (tT S H0 M0 B0 e) :=
  ⟨fun pins s σ H Q I ⟨ρ, M, B, Φ, h1, h2, h3, h4, h5⟩ => thn (h4 X fit H0 M0 B0 w pins s σ H B I h1 h2 h3) fun _ _ q => TP_imp q h5⟩
theorem pw_of (fit : Fits S X) (w : Wish S X H0 M0 B0) (e : Expr) : PW X e (tW S H0 M0 B0 e) :=
  ⟨fun wh pins s σ H Q I ⟨ρ, M, B, Φ, h1, h2, h3, h4, h5⟩ => thn (h4 X fit H0 M0 B0 w wh pins s σ H B I h1 h2 h3) fun _ _ q => TP_imp q h5⟩
theorem pa_of (fit : Fits S X) (w : Wish S X H0 M0 B0) (es : List Expr) : PA X es (tA' S H0 M0 B0 es) :=
  ⟨fun pos pins s σ H Q I ⟨ρ, M, B, Φ, h1, h2, h3, h4, h5⟩ => thn (h4 X fit H0 M0 B0 w pos pins s σ H B I h1 h2 h3) fun _ _ q => AP_imp q h5⟩
theorem pss_of (fit : Fits S X) (w : Wish S X H0 M0 B0) (sts : List Stmt) : PSs X sts (tS' S H0 M0 B0 sts) :=
  ⟨fun pins s σ H D I ⟨ρ, M, B, Φ, h1, h2, h3, h4, h5, h6, h7, h8⟩ => thn (h4 X fit H0 M0 B0 w pins s σ H B I h1 h2 h3) fun _ _ q => SP_imp q h5 h6 h7 h8⟩
theorem pg_of (fit : Fits S X) (w : Wish S X H0 M0 B0) (tg : Expr) : PG X tg (tG' S H0 M0 B0 tg) :=
  ⟨fun pins s σ H v u Q I r ⟨ρ, M, B, d, Φ, h1, h2, h3, h4, h5, h6⟩ => thn (h5 X fit H0 M0 B0 w pins s σ H B v u I r h1 h2 h3 h4) fun _ _ ⟨σ', H', I', z⟩ => ⟨σ', H', I', h6 _ _ z⟩⟩
variable {ρ : Env'} {M : Mem}
theorem re_of {e : Expr} {Φ : DK} (h : ∀ X, Fits S X → ∀ H0 M0 B0, Wish S X H0 M0 B0 → ∃ t, PE X e t ∧ ∀ σ H B, Sl S.K B σ ρ → Rp S.K H M B → Fr H0 M0 B0 H M B → t σ H (PE' S H M B Φ)) : RE S ρ M e Φ :=
  fun X fit H0 M0 B0 w pins s σ H B I h1 h2 h3 => by
    obtain ⟨t, p, q⟩ := h X fit H0 M0 B0 w
    exact p.run pins s σ H _ I (q σ H B h1 h2 h3)
theorem rt_of {e : Expr} {Φ : Bool → Mem → Prop} (h : ∀ X, Fits S X → ∀ H0 M0 B0, Wish S X H0 M0 B0 → ∃ t, PT X e t ∧ ∀ σ H B, Sl S.K B σ ρ → Rp S.K H M B → Fr H0 M0 B0 H M B → t σ H (PB' S H M B Φ)) : RT S ρ M e Φ :=
  fun X fit H0 M0 B0 w pins s σ H B I h1 h2 h3 => by
    obtain ⟨t, p, q⟩ := h X fit H0 M0 B0 w
    exact p.run pins s σ H _ I (q σ H B h1 h2 h3)
theorem rw_of {e : Expr} {Φ : Bool → Mem → Prop} (h : ∀ X, Fits S X → ∀ H0 M0 B0, Wish S X H0 M0 B0 → ∃ t, PW X e t ∧ ∀ σ H B, Sl S.K B σ ρ → Rp S.K H M B → Fr H0 M0 B0 H M B → t σ H (PB' S H M B Φ)) : RW S ρ M e Φ :=
  fun X fit H0 M0 B0 w wh pins s σ H B I h1 h2 h3 => by
    obtain ⟨t, p, q⟩ := h X fit H0 M0 B0 w
    exact p.run wh pins s σ H _ I (q σ H B h1 h2 h3)
theorem ra_of {es : List Expr} {Φ : List Dat → Mem → Prop} (h : ∀ X, Fits S X → ∀ H0 M0 B0, Wish S X H0 M0 B0 → ∃ t, PA X es t ∧ ∀ σ H B, Sl S.K B σ ρ → Rp S.K H M B → Fr H0 M0 B0 H M B → t σ H (PA' S H M B Φ)) : RA S ρ M es Φ :=
  fun X fit H0 M0 B0 w pos pins s σ H B I h1 h2 h3 => by
    obtain ⟨t, p, q⟩ := h X fit H0 M0 B0 w
    exact p.run pos pins s σ H _ I (q σ H B h1 h2 h3)
theorem r1_of {st : Stmt} {D : DE} (h : ∀ X, Fits S X → ∀ H0 M0 B0, Wish S X H0 M0 B0 → ∃ t, PS X st t ∧ ∀ σ H B, Sl S.K B σ ρ → Rp S.K H M B → Fr H0 M0 B0 H M B → t (ends S H M B D) σ H) : R1 S ρ M st D :=
  fun X fit H0 M0 B0 w pins s σ H B I h1 h2 h3 => by
    obtain ⟨t, p, q⟩ := h X fit H0 M0 B0 w
    exact p.run pins s σ H _ I (q σ H B h1 h2 h3)
theorem rg_of {tg : Expr} {d : Dat} {Φ : Env' → Mem → Prop} (h : ∀ X, Fits S X → ∀ H0 M0 B0, Wish S X H0 M0 B0 → ∃ t, PG X tg t ∧ ∀ v σ H B, Sl S.K B σ ρ → Rp S.K H M B → RD S.K B d v → Fr H0 M0 B0 H M B → t v σ H (PN' S H M B Φ)) : RG S ρ M tg d Φ :=
  fun X fit H0 M0 B0 w pins s σ H B v u I r h1 h2 h3 h4 => by
    obtain ⟨t, p, q⟩ := h X fit H0 M0 B0 w
    exact p.run pins s σ H v u _ I r (q v σ H B h1 h2 h3 h4)
/-- one more step behind -/
theorem PE'.go {H H1 B B1 : Hp} {M M1 : Mem} {Φ : DK} (f : Fr H M B H1 M1 B1) {v : V} {H' : Hp} (h : PE' S H1 M1 B1 Φ v H') : PE' S H M B Φ v H' := by
  obtain ⟨d, M', B', r, g, z, q⟩ := h
  exact ⟨d, M', B', r, f.trans g, z, q⟩
theorem PB'.go {H H1 B B1 : Hp} {M M1 : Mem} {Φ : Bool → Mem → Prop} (f : Fr H M B H1 M1 B1) {v : Bool} {H' : Hp} (h : PB' S H1 M1 B1 Φ v H') : PB' S H M B Φ v H' := by
  obtain ⟨M', B', r, g, q⟩ := h
  exact ⟨M', B', r, f.trans g, q⟩
theorem PA'.go {H H1 B B1 : Hp} {M M1 : Mem} {Φ : List Dat → Mem → Prop} (f : Fr H M B H1 M1 B1) {v : List V} {H' : Hp} (h : PA' S H1 M1 B1 Φ v H') : PA' S H M B Φ v H' := by
  obtain ⟨d, M', B', r, g, z, q⟩ := h
  exact ⟨d, M', B', r, f.trans g, z, q⟩
theorem PN'.go {H H1 B B1 : Hp} {M M1 : Mem} {Φ : Env' → Mem → Prop} (f : Fr H M B H1 M1 B1) {σ : L2.St} {H' : Hp} (h : PN' S H1 M1 B1 Φ σ H') : PN' S H M B Φ σ H' := by
  obtain ⟨d, M', B', z, r, g, q⟩ := h
  exact ⟨d, M', B', z, r, f.trans g, q⟩
end
end DL
set_option Elab.async false
set_option linter.all false
set_option autoImplicit false
set_option maxRecDepth 100000
set_option maxHeartbeats 4000000
namespace DL
open PySem PySem.Spec PyProof.Rows L2
/-- built-in names that the module doesn't bind -/
def bis : List Str := ["len", "range", "list", "sorted", "set", "min", "max", "int", "str", "tuple", "dict", "enumerate", "isinstance", "bool", "ValueError"]
def BI (mg : Str → Option Value) : Prop := ∀ x ∈ bis, mg x = none
section
variable {S : Sc} {ρ : Env'} {M : Mem} {Q : DK} {a b c : Expr} {pos : Pos}
theorem Fits.gl {X : Cx} (f : Fits S X) {x : Str} (h : S.sc.names.lookup x = some .globalImplicit) : Gl X x := by
  show X.env.scope.names.lookup x = _
  rw [f.sc]; exact h
theorem Fits.vis {X : Cx} (f : Fits S X) {x : Str} (h : Vis S.sc x) : Vis X.env.scope x := by rw [f.sc]; exact h
theorem Fits.loc {X : Cx} (f : Fits S X) {x : Str} (h : Loc S.sc x) : Loc X.env.scope x := by rw [f.sc]; exact h
theorem Fits.bi {X : Cx} (f : Fits S X) (G : BI S.mg) {x : Str} (h : x ∈ bis) : X.mg x = none := by rw [f.mg]; exact G x h
theorem Fits.un {X : Cx} (f : Fits S X) : X.A.units + 64 < cLine := f.room.units
theorem Fits.ks {X : Cx} (f : Fits S X) {H : Hp} {p : Addr} {xs : List V} (h : SqL S.K H p xs) : SqL X.K H p xs := by rw [f.K]; exact h
theorem Fits.kt {X : Cx} (f : Fits S X) {H : Hp} {p : Addr} {xs : List V} (h : SqT S.K H p xs) : SqT X.K H p xs := by rw [f.K]; exact h
/-- the value so far, as an end -/
theorem PE'.done {H B : Hp} {d : Dat} {v : V} (rp : Rp S.K H M B) (r : RD S.K B d v) (k : Q d M) : PE' S H M B Q v H := ⟨d, M, B, rp, Fr.refl _ _ _, r, k⟩
theorem RE.weak {e : Expr} {Q' : DK} (h : RE S ρ M e Q) (k : ∀ d M', Q d M' → Q' d M') : RE S ρ M e Q' := fun X fit H0 M0 B0 w pins s σ H B I sl rp fr =>
  thn (h X fit H0 M0 B0 w pins s σ H B I sl rp fr) fun _ _ q => EP_imp q fun v H' ⟨d, M', B', r1, r2, r3, r4⟩ => ⟨d, M', B', r1, r2, r3, k _ _ r4⟩
/-- some of the memory forgotten behind it -/
theorem RE.drop {e : Expr} (h : RE S ρ M e fun d M' => ∃ M'', (∀ p m, M'' p = some m → M' p = some m) ∧ Q d M'') : RE S ρ M e Q := fun X fit H0 M0 B0 w pins s σ H B I sl rp fr =>
  thn (h X fit H0 M0 B0 w pins s σ H B I sl rp fr) fun _ _ q => EP_imp q fun v H' ⟨d, M', B', r1, r2, r3, M'', k1, k2⟩ => ⟨d, M'', B', r1.drop k1, r2.drop k1, r3, k2⟩
/-! ### names, constants -/
theorem re_nm (i : Nat) {x : Str} {d : Dat} (h : ρ[i]? = some (some d)) (k : Q d M) (hN : S.N[i]? = some x := by rfl) (hv : Vis S.sc x := by first | exact Or.inl rfl | exact Or.inr (Or.inl rfl) | exact Or.inr (Or.inr rfl)) (hd : (x == ("__debug__" : Str)) = false := by decide)
    (hcd : (x == ("__classdict__" : Str)) = false := by decide) : RE S ρ M (.Name x pos) Q := re_of fun X fit H0 M0 B0 w => ⟨_, pe_var (X := X) (i := i) (by rw [fit.N]; exact hN) (fit.vis hv) hd hcd, fun σ H B sl rp fr => by
  obtain ⟨v, h1, h2⟩ := sl.at_ i d h
  exact ⟨v, h1, PE'.done rp h2 k⟩⟩
theorem re_int {i : Int} {j : Nat} (k : Q (.int i) M) : RE S ρ M (.Constant (.int i) j pos) Q := re_of fun X fit H0 M0 B0 w => ⟨_, pe_int, fun σ H B sl rp fr => PE'.done rp (.int i) k⟩
theorem re_bl {i : Bool} {j : Nat} (k : Q (.bl i) M) : RE S ρ M (.Constant (.bool i) j pos) Q := re_of fun X fit H0 M0 B0 w => ⟨_, pe_bl, fun σ H B sl rp fr => PE'.done rp (.bl i) k⟩
theorem re_str {i : Str} {j : Nat} (k : Q (.str i) M) : RE S ρ M (.Constant (.str i) j pos) Q := re_of fun X fit H0 M0 B0 w => ⟨_, pe_str, fun σ H B sl rp fr => PE'.done rp (.str i) k⟩
theorem re_non {j : Nat} (k : Q .non M) : RE S ρ M (.Constant .none j pos) Q := re_of fun X fit H0 M0 B0 w => ⟨_, pe_non, fun σ H B sl rp fr => PE'.done rp .non k⟩
/-- a module's number -/
theorem re_gi {x : Str} {i : Int} (hm : ∃ t, S.mg x = some (.int i t)) (k : Q (.int i) M) (hg : S.sc.names.lookup x = some .globalImplicit := by rfl) (hd : (x == ("__debug__" : Str)) = false := by decide) : RE S ρ M (.Name x pos) Q :=
  re_of fun X fit H0 M0 B0 w => by
    obtain ⟨t, e⟩ := hm
    exact ⟨_, pe_glob (v := .int i) (fit.gl hg) (by rw [fit.mg]; exact e) ⟨t, rfl⟩ hd, fun σ H B sl rp fr => PE'.done rp (.int i) k⟩
/-- two expressions, then an operation on values -/
theorem bin_rd {r : R2} {X : Cx} {H0 B0 : Hp} {M0 : Mem} {σ : L2.St} {H B : Hp} (sl : Sl S.K B σ ρ) (rp : Rp S.K H M B) (fr : Fr H0 M0 B0 H M B) {W : Dat → Dat → Mem → Prop}
    (h : RE S ρ M a fun x M1 => RE S ρ M1 b fun y M2 => W x y M2) {Qv : VK} (hr : ∀ x y M2 H2 B2 vx vy, Rp S.K H2 M2 B2 → Fr H M B H2 M2 B2 → RD S.K B2 x vx → RD S.K B2 y vy → W x y M2 → r vx vy H2 Qv) :
    tOp r (tE S H0 M0 B0 a) (tE S H0 M0 B0 b) σ H Qv :=
  ⟨ρ, M, B, _, sl, rp, fr, h, fun v H1 ⟨x, M1, B1, rp1, fr1, rx, h1⟩ => ⟨ρ, M1, B1, _, sl.up (fr1.up rp), rp1, fr.trans fr1, h1, fun u H2 ⟨y, M2, B2, rp2, fr2, ry, h2⟩ =>
    hr x y M2 H2 B2 v u rp2 (fr1.trans fr2) (rx.up (fr2.up rp1)) ry h2⟩⟩
/-! ### numbers -/
theorem re_opI {op : Operator} {g : Int → Int → Int} (ho : ∀ X, OpR X (binaryOp op) (rI0 fun i j => .int (g i j))) (h : RE S ρ M a fun x M1 => RE S ρ M1 b fun y M2 => ∃ i j, x = .int i ∧ y = .int j ∧ Q (.int (g i j)) M2) : RE S ρ M (.BinOp a op b pos) Q :=
  re_of fun X fit H0 M0 B0 w => ⟨_, pe_op (ho X) (pe_of fit w a) (pe_of fit w b), fun σ H B sl rp fr => bin_rd (X := X) sl rp fr h fun x y M2 H2 B2 vx vy rp2 fr2 rx ry ⟨i, j, e1, e2, k⟩ => by
    subst e1 e2; cases rx; cases ry
    exact ⟨i, j, rfl, rfl, (PE'.done rp2 (.int _) k).go fr2⟩⟩
theorem re_opC {op : Operator} {C : Int → Int → Prop} {g : Int → Int → Int} (ho : ∀ X, OpR X (binaryOp op) (rI C fun i j => .int (g i j))) (h : RE S ρ M a fun x M1 => RE S ρ M1 b fun y M2 => ∃ i j, x = .int i ∧ y = .int j ∧ C i j ∧ Q (.int (g i j)) M2) : RE S ρ M (.BinOp a op b pos) Q :=
  re_of fun X fit H0 M0 B0 w => ⟨_, pe_op (ho X) (pe_of fit w a) (pe_of fit w b), fun σ H B sl rp fr => bin_rd (X := X) sl rp fr h fun x y M2 H2 B2 vx vy rp2 fr2 rx ry ⟨i, j, e1, e2, hc, k⟩ => by
    subst e1 e2; cases rx; cases ry
    exact ⟨i, j, rfl, rfl, hc, (PE'.done rp2 (.int _) k).go fr2⟩⟩
theorem re_add (h : RE S ρ M a fun x M1 => RE S ρ M1 b fun y M2 => ∃ i j, x = .int i ∧ y = .int j ∧ Q (.int (i + j)) M2) : RE S ρ M (.BinOp a .Add b pos) Q := re_opI (fun _ => op_add) h
theorem re_sub (h : RE S ρ M a fun x M1 => RE S ρ M1 b fun y M2 => ∃ i j, x = .int i ∧ y = .int j ∧ Q (.int (i - j)) M2) : RE S ρ M (.BinOp a .Sub b pos) Q := re_opI (fun _ => op_sub) h
theorem re_mul (h : RE S ρ M a fun x M1 => RE S ρ M1 b fun y M2 => ∃ i j, x = .int i ∧ y = .int j ∧ CMul i j ∧ Q (.int (i * j)) M2) : RE S ρ M (.BinOp a .Mult b pos) Q := re_opC (fun _ => op_mul) h
theorem re_mod (h : RE S ρ M a fun x M1 => RE S ρ M1 b fun y M2 => ∃ i j, x = .int i ∧ y = .int j ∧ 0 < j ∧ Q (.int (i % j)) M2) : RE S ρ M (.BinOp a .Mod b pos) Q := re_opC (C := fun _ j => 0 < j) (fun _ => op_mod) h
theorem re_fdiv (h : RE S ρ M a fun x M1 => RE S ρ M1 b fun y M2 => ∃ i j, x = .int i ∧ y = .int j ∧ CDiv i j ∧ Q (.int (i / j)) M2) : RE S ρ M (.BinOp a .FloorDiv b pos) Q := re_opC (fun _ => op_fdiv) h
theorem re_pow (h : RE S ρ M a fun x M1 => RE S ρ M1 b fun y M2 => ∃ i j, x = .int i ∧ y = .int j ∧ CPow i j ∧ Q (.int (i ^ j.toNat)) M2) : RE S ρ M (.BinOp a .Pow b pos) Q := re_opC (fun _ => op_pow) h
theorem re_neg (h : RE S ρ M a fun x M1 => ∃ i, x = .int i ∧ Q (.int (-i)) M1) : RE S ρ M (.UnaryOp .USub a pos) Q :=
  re_of fun X fit H0 M0 B0 w => ⟨_, pe_un un_neg (pe_of fit w a), fun σ H B sl rp fr => ⟨ρ, M, B, _, sl, rp, fr, h, fun v H1 ⟨x, M1, B1, rp1, fr1, rx, i, e, k⟩ => by
    subst e; cases rx
    exact ⟨i, rfl, (PE'.done rp1 (.int _) k).go fr1⟩⟩⟩
/-- texts -/
theorem re_addS (h : RE S ρ M a fun x M1 => RE S ρ M1 b fun y M2 => ∃ i j, x = .str i ∧ y = .str j ∧ i.length + j.length ≤ sizeLine ∧ Q (.str (i ++ j)) M2) : RE S ρ M (.BinOp a .Add b pos) Q :=
  re_of fun X fit H0 M0 B0 w => ⟨_, pe_op op_add_str (pe_of fit w a) (pe_of fit w b), fun σ H B sl rp fr => bin_rd (X := X) sl rp fr h fun x y M2 H2 B2 vx vy rp2 fr2 rx ry ⟨i, j, e1, e2, hl, k⟩ => by
    subst e1 e2; cases rx; cases ry
    exact ⟨i, j, rfl, rfl, hl, (PE'.done rp2 (.str _) k).go fr2⟩⟩
theorem RD.tupE {K : PySem.W.Frag} {B : Hp} {ds : List Dat} {v : V} (h : RD K B (.tup ds) v) : ∃ p vs, v = .ref p ∧ SqT K B p vs ∧ RDs K B ds vs := by
  cases h with | tup a b => exact ⟨_, _, rfl, a, b⟩
theorem RD.lstE {K : PySem.W.Frag} {B : Hp} {ds : List Dat} {v : V} (h : RD K B (.lst ds) v) : ∃ p vs, v = .ref p ∧ B p = some (.lst vs) ∧ RDs K B ds vs := by
  cases h with | lst a b => exact ⟨_, _, rfl, a, b⟩
/-- a list, standing or of the memory -/
def lsOf (M : Mem) : Dat → Option (List Dat)
  | .lst l => some l
  | .ref p => match M p with
    | some (.lst l) => some l
    | _ => none
  | _ => none
theorem lsOf_ref {p : Addr} {l : List Dat} (h : M p = some (.lst l)) : lsOf M (.ref p) = some l := by simp only [lsOf, h]
theorem lsOf_at {H B : Hp} (rp : Rp S.K H M B) {d : Dat} {l : List Dat} {v : V} (h : lsOf M d = some l) (r : RD S.K B d v) : ∃ p vs, v = .ref p ∧ H p = some (.lst vs) ∧ RDs S.K B l vs := by
  cases d with
  | lst l' =>
    obtain ⟨p, vs, e, hb, hs⟩ := r.lstE
    cases h
    exact ⟨p, vs, e, rp.sub _ _ hb, hs⟩
  | ref p =>
    cases r
    cases e : M p with
    | none => simp only [lsOf, e] at h; cases h
    | some m =>
      simp only [lsOf, e] at h
      cases m with
      | lst l' =>
        cases h
        obtain ⟨_, vs, e1, e2⟩ := rp.mem p _ e
        exact ⟨p, vs, rfl, e1, e2⟩
      | dT _ => cases h
      | ins _ _ => cases h
  | _ => cases h
/-- tuples -/
theorem re_addT (h : RE S ρ M a fun x M1 => RE S ρ M1 b fun y M2 => ∃ i j, x = .tup i ∧ y = .tup j ∧ i.length + j.length ≤ 100000 ∧ Q (.tup (i ++ j)) M2) : RE S ρ M (.BinOp a .Add b pos) Q :=
  re_of fun X fit H0 M0 B0 w => ⟨_, pe_op op_catA (pe_of fit w a) (pe_of fit w b), fun σ H B sl rp fr => bin_rd (X := X) sl rp fr h fun x y M2 H2 B2 vx vy rp2 fr2 rx ry ⟨i, j, e1, e2, hl, k⟩ => by
    subst e1 e2
    obtain ⟨p, vs, rfl, h1, h2⟩ := rx.tupE
    obtain ⟨q, ws, rfl, h3, h4⟩ := ry.tupE
    refine ⟨p, q, vs, ws, rfl, rfl, fit.kt (up_t rp2.sub h1), fit.kt (up_t rp2.sub h3), by rw [← h2.length, ← h4.length]; exact Nat.le_trans hl (by decide), ?_, ?_, ?_⟩
    · intro e
      subst e
      cases h2
      exact (PE'.done rp2 (.tup h3 h4) k).go fr2
    · intro _ e
      subst e
      cases h4
      rw [List.append_nil] at k
      exact (PE'.done rp2 (.tup h1 h2) k).go fr2
    · intro _ _ t ht
      obtain ⟨r1, r2, r3⟩ := rp2.newB ht (.tup (vs ++ ws))
      exact PE'.go (S := S) fr2 ⟨_, M2, _, r1, r2, .tup (.inl (.inl upd_same)) ((h2.append h4).up r3), k⟩⟩
/-! ### tests -/
theorem rt_re {e : Expr} {T : Bool → Mem → Prop} (h : RE S ρ M e fun d M1 => ∃ k, d = .bl k ∧ T k M1) (he : ∀ env whole, isTrue e env whole = (do let v ← whole; standAt e.pos; holding [v] (truthy v)) := by intro _ _; rfl) : RT S ρ M e T :=
  rt_of fun X fit H0 M0 B0 w => ⟨_, pt_val (pe_of fit w e) (he _), fun σ H B sl rp fr => ⟨ρ, M, B, _, sl, rp, fr, h, fun v H1 ⟨x, M1, B1, rp1, fr1, rx, i, e, k⟩ => by
    subst e; cases rx
    exact ⟨i, rfl, M1, B1, rp1, fr1, k⟩⟩⟩
theorem rt_not {T : Bool → Mem → Prop} (h : RT S ρ M a fun k M1 => T (!k) M1) : RT S ρ M (.UnaryOp .Not a pos) T :=
  rt_of fun X fit H0 M0 B0 w => ⟨_, pt_not (pt_of fit w a), fun σ H B sl rp fr => ⟨ρ, M, B, _, sl, rp, fr, h, fun v H1 q => q⟩⟩
theorem rw_and1 {T : Bool → Mem → Prop} (h : RT S ρ M a T) : RW S ρ M (.BoolOp .And [a] pos) T := rw_of fun X fit H0 M0 B0 w => ⟨_, pw_and1 (pt_of fit w a), fun σ H B sl rp fr => ⟨ρ, M, B, _, sl, rp, fr, h, fun v H1 q => q⟩⟩
theorem rw_or1 {T : Bool → Mem → Prop} (h : RT S ρ M a T) : RW S ρ M (.BoolOp .Or [a] pos) T := rw_of fun X fit H0 M0 B0 w => ⟨_, pw_or1 (pt_of fit w a), fun σ H B sl rp fr => ⟨ρ, M, B, _, sl, rp, fr, h, fun v H1 q => q⟩⟩
theorem rw_and {r : List Expr} {T : Bool → Mem → Prop} (h : RT S ρ M a fun k M1 => (k = true → RW S ρ M1 (.BoolOp .And (b :: r) pos) T) ∧ (k = false → T false M1)) : RW S ρ M (.BoolOp .And (a :: b :: r) pos) T :=
  rw_of fun X fit H0 M0 B0 w => ⟨_, pw_and (pt_of fit w a) (pw_of fit w _), fun σ H B sl rp fr => ⟨ρ, M, B, _, sl, rp, fr, h, fun v H1 ⟨M1, B1, rp1, fr1, k1, k2⟩ => by
    cases v with
    | true => exact iteT ⟨ρ, M1, B1, _, sl.up (fr1.up rp), rp1, fr.trans fr1, k1 rfl, fun _ _ q => q.go fr1⟩
    | false => exact iteF ⟨M1, B1, rp1, fr1, k2 rfl⟩⟩⟩
theorem rw_or {r : List Expr} {T : Bool → Mem → Prop} (h : RT S ρ M a fun k M1 => (k = false → RW S ρ M1 (.BoolOp .Or (b :: r) pos) T) ∧ (k = true → T true M1)) : RW S ρ M (.BoolOp .Or (a :: b :: r) pos) T :=
  rw_of fun X fit H0 M0 B0 w => ⟨_, pw_or (pt_of fit w a) (pw_of fit w _), fun σ H B sl rp fr => ⟨ρ, M, B, _, sl, rp, fr, h, fun v H1 ⟨M1, B1, rp1, fr1, k1, k2⟩ => by
    cases v with
    | false => exact iteF ⟨ρ, M1, B1, _, sl.up (fr1.up rp), rp1, fr.trans fr1, k1 rfl, fun _ _ q => q.go fr1⟩
    | true => exact iteT ⟨M1, B1, rp1, fr1, k2 rfl⟩⟩⟩
theorem rt_rw {e : Expr} {T : Bool → Mem → Prop} (h : RW S ρ M e T) : RT S ρ M e T := rt_of fun X fit H0 M0 B0 w => ⟨_, (pw_of fit w e).pt, fun σ H B sl rp fr => ⟨ρ, M, B, _, sl, rp, fr, h, fun v H1 q => q⟩⟩
/-- the same as values -/
theorem re_one {op : PySem.BoolOp} (h : RE S ρ M a Q) : RE S ρ M (.BoolOp op [a] pos) Q := re_of fun X fit H0 M0 B0 w => ⟨_, pe_one (pe_of fit w a), fun σ H B sl rp fr => ⟨ρ, M, B, _, sl, rp, fr, h, fun v H1 q => q⟩⟩
theorem re_and {r : List Expr} (h : RE S ρ M a fun d M1 => ∃ k, d = .bl k ∧ (k = true → RE S ρ M1 (.BoolOp .And (b :: r) pos) Q) ∧ (k = false → Q (.bl false) M1)) : RE S ρ M (.BoolOp .And (a :: b :: r) pos) Q :=
  re_of fun X fit H0 M0 B0 w => ⟨_, pe_and (pe_of fit w a) (pe_of fit w _), fun σ H B sl rp fr => ⟨ρ, M, B, _, sl, rp, fr, h, fun v H1 ⟨d, M1, B1, rp1, fr1, rd, k, e, k1, k2⟩ => by
    subst e; cases rd
    refine ⟨k, rfl, ?_⟩
    cases k with
    | true => exact iteT ⟨ρ, M1, B1, _, sl.up (fr1.up rp), rp1, fr.trans fr1, k1 rfl, fun _ _ q => q.go fr1⟩
    | false => exact iteF (⟨_, M1, B1, rp1, fr1, .bl false, k2 rfl⟩)⟩⟩
theorem re_or {r : List Expr} (h : RE S ρ M a fun d M1 => ∃ k, d = .bl k ∧ (k = false → RE S ρ M1 (.BoolOp .Or (b :: r) pos) Q) ∧ (k = true → Q (.bl true) M1)) : RE S ρ M (.BoolOp .Or (a :: b :: r) pos) Q :=
  re_of fun X fit H0 M0 B0 w => ⟨_, pe_or (pe_of fit w a) (pe_of fit w _), fun σ H B sl rp fr => ⟨ρ, M, B, _, sl, rp, fr, h, fun v H1 ⟨d, M1, B1, rp1, fr1, rd, k, e, k1, k2⟩ => by
    subst e; cases rd
    refine ⟨k, rfl, ?_⟩
    cases k with
    | false => exact iteF ⟨ρ, M1, B1, _, sl.up (fr1.up rp), rp1, fr.trans fr1, k1 rfl, fun _ _ q => q.go fr1⟩
    | true => exact iteT (⟨_, M1, B1, rp1, fr1, .bl true, k2 rfl⟩)⟩⟩
theorem re_not (h : RE S ρ M a fun d M1 => ∃ k, d = .bl k ∧ Q (.bl (!k)) M1) : RE S ρ M (.UnaryOp .Not a pos) Q :=
  re_of fun X fit H0 M0 B0 w => ⟨_, pe_not (pe_of fit w a), fun σ H B sl rp fr => ⟨ρ, M, B, _, sl, rp, fr, h, fun v H1 ⟨d, M1, B1, rp1, fr1, rd, k, e, q⟩ => by
    subst e; cases rd
    exact ⟨k, rfl, _, M1, B1, rp1, fr1, .bl _, q⟩⟩⟩
theorem re_ifE (h : RT S ρ M c fun k M1 => (k = true → RE S ρ M1 a Q) ∧ (k = false → RE S ρ M1 b Q)) : RE S ρ M (.IfExp c a b pos) Q :=
  re_of fun X fit H0 M0 B0 w => ⟨_, pe_ifExp (pt_of fit w c) (pe_of fit w a) (pe_of fit w b), fun σ H B sl rp fr => ⟨ρ, M, B, _, sl, rp, fr, h, fun v H1 ⟨M1, B1, rp1, fr1, k1, k2⟩ => by
    cases v with
    | true => exact iteT ⟨ρ, M1, B1, _, sl.up (fr1.up rp), rp1, fr.trans fr1, k1 rfl, fun _ _ q => q.go fr1⟩
    | false => exact iteF ⟨ρ, M1, B1, _, sl.up (fr1.up rp), rp1, fr.trans fr1, k2 rfl, fun _ _ q => q.go fr1⟩⟩⟩
/-! ### comparisons -/
theorem rt_cI {op : CmpOp} {g : Int → Int → Bool} {T : Bool → Mem → Prop} (ho : ∀ X, OpR X (compareOp op) (rI0 fun i j => .bl (g i j))) (hm : behindInMarks op b = false) (h : RE S ρ M a fun x M1 => RE S ρ M1 b fun y M2 => ∃ i j, x = .int i ∧ y = .int j ∧ T (g i j) M2) : RT S ρ M (.Compare a [op] [b] pos) T :=
  rt_of fun X fit H0 M0 B0 w => ⟨_, pt_cmpR (ho X) (pe_of fit w a) (pe_of fit w b) hm, fun σ H B sl rp fr => bin_rd (X := X) sl rp fr h fun x y M2 H2 B2 vx vy rp2 fr2 rx ry ⟨i, j, e1, e2, k⟩ => by
    subst e1 e2; cases rx; cases ry
    exact ⟨i, j, rfl, rfl, _, rfl, M2, B2, rp2, fr2, k⟩⟩
theorem re_cI {op : CmpOp} {g : Int → Int → Bool} (ho : ∀ X, OpR X (compareOp op) (rI0 fun i j => .bl (g i j))) (hm : behindInMarks op b = false) (h : RE S ρ M a fun x M1 => RE S ρ M1 b fun y M2 => ∃ i j, x = .int i ∧ y = .int j ∧ Q (.bl (g i j)) M2) : RE S ρ M (.Compare a [op] [b] pos) Q :=
  re_of fun X fit H0 M0 B0 w => ⟨_, pe_cmpR (ho X) (pe_of fit w a) (pe_of fit w b) hm, fun σ H B sl rp fr => bin_rd (X := X) sl rp fr h fun x y M2 H2 B2 vx vy rp2 fr2 rx ry ⟨i, j, e1, e2, k⟩ => by
    subst e1 e2; cases rx; cases ry
    exact ⟨i, j, rfl, rfl, (PE'.done rp2 (.bl _) k).go fr2⟩⟩
theorem rt_lt {T : Bool → Mem → Prop} (h : RE S ρ M a fun x M1 => RE S ρ M1 b fun y M2 => ∃ i j, x = .int i ∧ y = .int j ∧ T (decide (i < j)) M2) : RT S ρ M (.Compare a [.Lt] [b] pos) T := rt_cI (fun _ => op_lt) (nomark _) h
theorem rt_le {T : Bool → Mem → Prop} (h : RE S ρ M a fun x M1 => RE S ρ M1 b fun y M2 => ∃ i j, x = .int i ∧ y = .int j ∧ T (decide (i ≤ j)) M2) : RT S ρ M (.Compare a [.LtE] [b] pos) T := rt_cI (fun _ => op_le) (nomark _) h
theorem rt_gt {T : Bool → Mem → Prop} (h : RE S ρ M a fun x M1 => RE S ρ M1 b fun y M2 => ∃ i j, x = .int i ∧ y = .int j ∧ T (decide (j < i)) M2) : RT S ρ M (.Compare a [.Gt] [b] pos) T := rt_cI (fun _ => op_gt) (nomark _) h
theorem rt_ge {T : Bool → Mem → Prop} (h : RE S ρ M a fun x M1 => RE S ρ M1 b fun y M2 => ∃ i j, x = .int i ∧ y = .int j ∧ T (decide (j ≤ i)) M2) : RT S ρ M (.Compare a [.GtE] [b] pos) T := rt_cI (fun _ => op_ge) (nomark _) h
theorem re_lt (h : RE S ρ M a fun x M1 => RE S ρ M1 b fun y M2 => ∃ i j, x = .int i ∧ y = .int j ∧ Q (.bl (decide (i < j))) M2) : RE S ρ M (.Compare a [.Lt] [b] pos) Q := re_cI (fun _ => op_lt) (nomark _) h
theorem re_le (h : RE S ρ M a fun x M1 => RE S ρ M1 b fun y M2 => ∃ i j, x = .int i ∧ y = .int j ∧ Q (.bl (decide (i ≤ j))) M2) : RE S ρ M (.Compare a [.LtE] [b] pos) Q := re_cI (fun _ => op_le) (nomark _) h
theorem re_gt (h : RE S ρ M a fun x M1 => RE S ρ M1 b fun y M2 => ∃ i j, x = .int i ∧ y = .int j ∧ Q (.bl (decide (j < i))) M2) : RE S ρ M (.Compare a [.Gt] [b] pos) Q := re_cI (fun _ => op_gt) (nomark _) h
theorem re_ge (h : RE S ρ M a fun x M1 => RE S ρ M1 b fun y M2 => ∃ i j, x = .int i ∧ y = .int j ∧ Q (.bl (decide (j ≤ i))) M2) : RE S ρ M (.Compare a [.GtE] [b] pos) Q := re_cI (fun _ => op_ge) (nomark _) h
/-- a chain of two comparisons of numbers -/
theorem rt_ch {op op' : CmpOp} {g g' : Int → Int → Bool} {T : Bool → Mem → Prop} (ho : ∀ X, OpR X (compareOp op) (rI0 fun i j => .bl (g i j))) (ho' : ∀ X, OpR X (compareOp op') (rI0 fun i j => .bl (g' i j))) (hm : lastMarks [op, op'] [b, c] = false)
    (h : RE S ρ M a fun x M1 => RE S ρ M1 b fun y M2 => ∃ i j, x = .int i ∧ y = .int j ∧ (g i j = true → RE S ρ M2 c fun z M3 => ∃ l, z = .int l ∧ T (g' j l) M3) ∧ (g i j = false → T false M2)) : RT S ρ M (.Compare a [op, op'] [b, c] pos) T :=
  rt_of fun X fit H0 M0 B0 w => ⟨_, pt_chain (ho X) (ho' X) (pe_of fit w a) (pe_of fit w b) (pe_of fit w c) hm, fun σ H B sl rp fr =>
    ⟨ρ, M, B, _, sl, rp, fr, h, fun v H1 ⟨x, M1, B1, rp1, fr1, rx, h1⟩ => ⟨ρ, M1, B1, _, sl.up (fr1.up rp), rp1, fr.trans fr1, h1, fun u H2 ⟨y, M2, B2, rp2, fr2, ry, i, j, e1, e2, k1, k2⟩ => by
      subst e1 e2
      cases rx; cases ry
      refine ⟨i, j, rfl, rfl, _, rfl, ?_⟩
      cases hg : g i j with
      | true => exact iteT ⟨ρ, M2, B2, _, (sl.up (fr1.up rp)).up (fr2.up rp1), rp2, (fr.trans fr1).trans fr2, k1 hg, fun z H3 ⟨z', M3, B3, rp3, fr3, rz, l, e3, k3⟩ => by
          subst e3; cases rz
          exact ⟨j, l, rfl, rfl, _, rfl, M3, B3, rp3, (fr1.trans fr2).trans fr3, k3⟩⟩
      | false => exact iteF ⟨_, rfl, M2, B2, rp2, fr1.trans fr2, k2 hg⟩⟩⟩⟩
theorem re_ch {op op' : CmpOp} {g g' : Int → Int → Bool} (ho : ∀ X, OpR X (compareOp op) (rI0 fun i j => .bl (g i j))) (ho' : ∀ X, OpR X (compareOp op') (rI0 fun i j => .bl (g' i j))) (hm : lastMarks [op, op'] [b, c] = false)
    (h : RE S ρ M a fun x M1 => RE S ρ M1 b fun y M2 => ∃ i j, x = .int i ∧ y = .int j ∧ (g i j = true → RE S ρ M2 c fun z M3 => ∃ l, z = .int l ∧ Q (.bl (g' j l)) M3) ∧ (g i j = false → Q (.bl false) M2)) : RE S ρ M (.Compare a [op, op'] [b, c] pos) Q :=
  re_of fun X fit H0 M0 B0 w => ⟨_, pe_chain (ho X) (ho' X) (pe_of fit w a) (pe_of fit w b) (pe_of fit w c) hm, fun σ H B sl rp fr =>
    ⟨ρ, M, B, _, sl, rp, fr, h, fun v H1 ⟨x, M1, B1, rp1, fr1, rx, h1⟩ => ⟨ρ, M1, B1, _, sl.up (fr1.up rp), rp1, fr.trans fr1, h1, fun u H2 ⟨y, M2, B2, rp2, fr2, ry, i, j, e1, e2, k1, k2⟩ => by
      subst e1 e2
      cases rx; cases ry
      refine ⟨i, j, rfl, rfl, _, rfl, ?_⟩
      cases hg : g i j with
      | true => exact iteT ⟨ρ, M2, B2, _, (sl.up (fr1.up rp)).up (fr2.up rp1), rp2, (fr.trans fr1).trans fr2, k1 hg, fun z H3 ⟨z', M3, B3, rp3, fr3, rz, l, e3, k3⟩ => by
          subst e3; cases rz
          exact ⟨j, l, rfl, rfl, (PE'.done rp3 (.bl _) k3).go ((fr1.trans fr2).trans fr3)⟩⟩
      | false => exact iteF ((PE'.done rp2 (.bl _) (k2 hg)).go (fr1.trans fr2))⟩⟩⟩
/-- is None -/
theorem re_isN (h : RE S ρ M a fun x M1 => Q (.bl (match x with | .non => true | _ => false)) M1) {j : Nat} {p2 : Pos} : RE S ρ M (.Compare a [.Is] [.Constant .none j p2] pos) Q :=
  re_of fun X fit H0 M0 B0 w => ⟨_, pe_cmp (pc_isN (pe_of fit w a)), fun σ H B sl rp fr => ⟨ρ, M, B, _, sl, rp, fr, h, fun v H1 ⟨d, M1, B1, rp1, fr1, rd, q⟩ => by
    refine ⟨_, M1, B1, rp1, fr1, ?_, q⟩
    cases rd <;> exact RD.bl _⟩⟩
theorem re_notN (h : RE S ρ M a fun x M1 => Q (.bl (match x with | .non => false | _ => true)) M1) {j : Nat} {p2 : Pos} : RE S ρ M (.Compare a [.IsNot] [.Constant .none j p2] pos) Q :=
  re_of fun X fit H0 M0 B0 w => ⟨_, pe_cmp (pc_notN (pe_of fit w a)), fun σ H B sl rp fr => ⟨ρ, M, B, _, sl, rp, fr, h, fun v H1 ⟨d, M1, B1, rp1, fr1, rd, q⟩ => by
    refine ⟨_, M1, B1, rp1, fr1, ?_, q⟩
    cases rd <;> exact RD.bl _⟩⟩
/-! ### arguments -/
theorem ra_nil {T : List Dat → Mem → Prop} (k : T [] M) : RA S ρ M [] T := ra_of fun X fit H0 M0 B0 w => ⟨_, pa_nil, fun σ H B sl rp fr => ⟨[], M, B, rp, Fr.refl _ _ _, .nil, k⟩⟩
theorem ra_cons {e : Expr} {es : List Expr} {T : List Dat → Mem → Prop} (h : RE S ρ M e fun d M1 => RA S ρ M1 es fun ds M2 => T (d :: ds) M2) (hs : ∀ env, starEach (e :: es) env = (false, eval e env) :: starEach es env := by intro _; rfl) : RA S ρ M (e :: es) T :=
  ra_of fun X fit H0 M0 B0 w => ⟨_, pa_cons (pe_of fit w e) (pa_of fit w es) (hs _), fun σ H B sl rp fr => ⟨ρ, M, B, _, sl, rp, fr, h, fun v H1 ⟨d, M1, B1, rp1, fr1, rd, h1⟩ =>
    ⟨ρ, M1, B1, _, sl.up (fr1.up rp), rp1, fr.trans fr1, h1, fun vs H2 ⟨ds, M2, B2, rp2, fr2, rds, k⟩ => ⟨d :: ds, M2, B2, rp2, fr1.trans fr2, .cons (rd.up (fr2.up rp1)) rds, k⟩⟩⟩⟩
theorem re_tup {es : List Expr} {x1 : Nat} (h : RA S ρ M es fun ds M1 => ds.length ≤ 100000 ∧ Q (.tup ds) M1) : RE S ρ M (.Tuple es x1 pos) Q :=
  re_of fun X fit H0 M0 B0 w => ⟨_, pe_tup (pa_of fit w es), fun σ H B sl rp fr => ⟨ρ, M, B, _, sl, rp, fr, h, fun vs H1 ⟨ds, M1, B1, rp1, fr1, rd, hl, k⟩ => ⟨by rw [← rd.length]; exact Nat.le_trans hl (by decide), fun p hp => by
    obtain ⟨r1, r2, r3⟩ := rp1.newB hp (.tup vs)
    exact ⟨_, M1, _, r1, fr1.trans r2, .tup (.inl (.inl upd_same)) (rd.up r3), k⟩⟩⟩⟩
/-! ### what makes a new list -/
def PL' (S : Sc) (H : Hp) (M : Mem) (B : Hp) (T : List Dat → Mem → Prop) : VK := fun v H' => ∃ p vs ds M' B', v = .ref p ∧ H p = none ∧ M' p = none ∧ B' p = none ∧ H' p = some (.lst vs) ∧ Rp S.K H' M' B' ∧ Fr H M B H' M' B' ∧ RDs S.K B' ds vs ∧ T ds M'
def RL (S : Sc) (ρ : Env') (M : Mem) (e : Expr) (T : List Dat → Mem → Prop) : Prop :=
  ∀ X, Fits S X → ∀ H0 M0 B0, Wish S X H0 M0 B0 → ∀ pins s σ H B, Inv X pins σ H s → Sl S.K B σ ρ → Rp S.K H M B → Fr H0 M0 B0 H M B →
    wpAny (model X.prog X.w) X.A (eval e X.env) (EP X pins σ (PL' S H M B T)) X.xe s
theorem rl_of {e : Expr} {T : List Dat → Mem → Prop} (h : ∀ X, Fits S X → ∀ H0 M0 B0, Wish S X H0 M0 B0 → ∃ t, PE X e t ∧ ∀ σ H B, Sl S.K B σ ρ → Rp S.K H M B → Fr H0 M0 B0 H M B → t σ H (PL' S H M B T)) : RL S ρ M e T :=
  fun X fit H0 M0 B0 w pins s σ H B I h1 h2 h3 => by
    obtain ⟨t, p, q⟩ := h X fit H0 M0 B0 w
    exact p.run pins s σ H _ I (q σ H B h1 h2 h3)
theorem PL'.new {H H1 B B1 : Hp} {M1 : Mem} {T : List Dat → Mem → Prop} (rp1 : Rp S.K H1 M1 B1) (fr1 : Fr H M B H1 M1 B1) {p : Addr} (hp : H1 p = none) {vs : List V} {ds : List Dat} (rd : RDs S.K B1 ds vs) (k : T ds M1) : PL' S H M B T (.ref p) (upd H1 p (.lst vs)) :=
  ⟨p, vs, ds, M1, B1, rfl, fr1.free hp, rp1.mnone hp, rp1.bnone hp, upd_same, (rp1.extra hp _).1, fr1.trans (rp1.extra hp _).2, rd, k⟩
/-- it stands from now on -/
theorem re_frz {e : Expr} (h : RL S ρ M e fun ds M1 => Q (.lst ds) M1) : RE S ρ M e Q := fun X fit H0 M0 B0 w pins s σ H B I sl rp fr =>
  thn (h X fit H0 M0 B0 w pins s σ H B I sl rp fr) fun _ _ q => EP_imp q fun v H' ⟨p, vs, ds, M', B', e1, h1, h2, h3, h4, r1, r2, r3, k⟩ => by
    subst e1
    obtain ⟨r4, hu⟩ := r1.addB h4 h3 h2
    exact ⟨_, M', _, r4, r2.addB h1, .lst upd_same (r3.up hu), k⟩
/-- it may be changed -/
theorem re_thw {e : Expr} (h : RL S ρ M e fun ds M1 => ∀ p, M p = none → M1 p = none → Q (.ref p) (mup M1 p (.lst ds))) : RE S ρ M e Q := fun X fit H0 M0 B0 w pins s σ H B I sl rp fr =>
  thn (h X fit H0 M0 B0 w pins s σ H B I sl rp fr) fun _ _ q => EP_imp q fun v H' ⟨p, vs, ds, M', B', e1, h1, h2, h3, h4, r1, r2, r3, k⟩ => by
    subst e1
    exact ⟨_, _, B', r1.addM (m := .lst ds) h3 ⟨vs, h4, r3⟩, r2.addM h1, .ref p, k p (rp.mnone h1) h2⟩
/-- a list of the memory that an expression hands back stands from now on -/
theorem re_frR {e : Expr} (h : RE S ρ M e fun d M1 => ∃ p ds, d = .ref p ∧ M1 p = some (.lst ds) ∧ Q (.lst ds) (mdel M1 p)) : RE S ρ M e Q := fun X fit H0 M0 B0 w pins s σ H B I sl rp fr =>
  thn (h X fit H0 M0 B0 w pins s σ H B I sl rp fr) fun _ _ q => EP_imp q fun v H' ⟨d, M', B', r1, r2, r3, p, ds, e1, h1, k⟩ => by
    subst e1; cases r3
    obtain ⟨B2, q1, q2, q3, q4⟩ := r1.freeze h1
    exact ⟨_, _, B2, q1, r2.trans q2, q4, k⟩
theorem rl_dsp {es : List Expr} {T : List Dat → Mem → Prop} (h : RA S ρ M es fun ds M1 => ds.length ≤ 100000 ∧ T ds M1) : RL S ρ M (.List es pos) T :=
  rl_of fun X fit H0 M0 B0 w => ⟨_, pe_lst (pa_of fit w es), fun σ H B sl rp fr => ⟨ρ, M, B, _, sl, rp, fr, h, fun vs H1 ⟨ds, M1, B1, rp1, fr1, rd, hl, k⟩ => ⟨by rw [← rd.length]; exact Nat.le_trans hl (by decide), fun p hp => PL'.new rp1 fr1 hp rd k⟩⟩⟩
theorem rl_cat {T : List Dat → Mem → Prop} (h : RE S ρ M a fun x M1 => RE S ρ M1 b fun y M2 => ∃ i j, lsOf M2 x = some i ∧ lsOf M2 y = some j ∧ i.length + j.length ≤ 100000 ∧ T (i ++ j) M2) : RL S ρ M (.BinOp a .Add b pos) T :=
  rl_of fun X fit H0 M0 B0 w => ⟨_, pe_op op_cat (pe_of fit w a) (pe_of fit w b), fun σ H B sl rp fr => bin_rd (X := X) sl rp fr h fun x y M2 H2 B2 vx vy rp2 fr2 rx ry ⟨i, j, e1, e2, hl, k⟩ => by
    obtain ⟨p, vs, rfl, h1, h2⟩ := lsOf_at rp2 e1 rx
    obtain ⟨q, ws, rfl, h3, h4⟩ := lsOf_at rp2 e2 ry
    exact ⟨p, q, vs, ws, rfl, rfl, h1, h3, by rw [← h2.length, ← h4.length]; exact Nat.le_trans hl (by decide), fun t ht => PL'.new rp2 fr2 ht (h2.append h4) k⟩⟩
end
end DL
set_option Elab.async false
set_option linter.all false
set_option autoImplicit false
set_option maxRecDepth 100000
set_option maxHeartbeats 4000000
namespace DL
open PySem PySem.Spec PyProof.Rows L2
section
variable {S : Sc} {ρ : Env'} {M : Mem} {Q : DK} {a b c : Expr} {pos : Pos}
abbrev GlN (S : Sc) (x : Str) : Prop := S.sc.names.lookup x = some .globalImplicit
/-- a list, read -/
def lqOf (M : Mem) : Dat → Option (List Dat)
  | .lst l => some l
  | .frl l => some l
  | .ref p => match M p with
    | some (.lst l) => some l
    | _ => none
  | _ => none
theorem lqOf_ref {p : Addr} {l : List Dat} (h : M p = some (.lst l)) : lqOf M (.ref p) = some l := by simp only [lqOf, h]
/-- where it stands -/
theorem lqOf_at {H B : Hp} (rp : Rp S.K H M B) {d : Dat} {l : List Dat} {v : V} (h : lqOf M d = some l) (r : RD S.K B d v) : ∃ p vs, v = .ref p ∧ SqL S.K H p vs ∧ RDs S.K B l vs := by
  cases d with
  | lst l' =>
    obtain ⟨p, vs, e, hb, hs⟩ := r.lstE
    cases h
    exact ⟨p, vs, e, .inl (.inl (rp.sub _ _ hb)), hs⟩
  | frl l' =>
    cases r with
    | frl hb hs =>
      cases h
      exact ⟨_, _, rfl, up_l rp.sub hb, hs⟩
  | ref p =>
    cases r
    cases e : M p with
    | none => simp only [lqOf, e] at h; cases h
    | some m =>
      simp only [lqOf, e] at h
      cases m with
      | lst l' =>
        cases h
        obtain ⟨_, vs, e1, e2⟩ := rp.mem p _ e
        exact ⟨p, vs, rfl, .inl (.inl e1), e2⟩
      | dT _ => cases h
      | ins _ _ => cases h
  | _ => cases h
/-- a list or tuple, read -/
def sqOf (M : Mem) : Dat → Option (List Dat)
  | .tup l => some l
  | d => lqOf M d
theorem sqOf_ref {p : Addr} {l : List Dat} (h : M p = some (.lst l)) : sqOf M (.ref p) = some l := lqOf_ref h
theorem sqOf_at {H B : Hp} (rp : Rp S.K H M B) {d : Dat} {l : List Dat} {v : V} (h : sqOf M d = some l) (r : RD S.K B d v) : ∃ p vs, v = .ref p ∧ (SqL S.K H p vs ∨ SqT S.K H p vs) ∧ RDs S.K B l vs := by
  cases d with
  | tup l' =>
    obtain ⟨p, vs, e, hb, hs⟩ := r.tupE
    cases h
    exact ⟨p, vs, e, .inr (up_t rp.sub hb), hs⟩
  | non => cases h
  | bl _ => cases h
  | int _ => cases h
  | str _ => cases h
  | ref q =>
    obtain ⟨p, vs, e, h1, h2⟩ := lqOf_at (d := .ref q) rp h r
    exact ⟨p, vs, e, .inl h1, h2⟩
  | lst q =>
    obtain ⟨p, vs, e, h1, h2⟩ := lqOf_at (d := .lst q) rp h r
    exact ⟨p, vs, e, .inl h1, h2⟩
  | frl q =>
    obtain ⟨p, vs, e, h1, h2⟩ := lqOf_at (d := .frl q) rp h r
    exact ⟨p, vs, e, .inl h1, h2⟩
theorem atI_rd {K : PySem.W.Frag} {B : Hp} {ds : List Dat} {vs : List V} (r : RDs K B ds vs) {i : Int} {d : Dat} (h : atI ds i = some d) : ∃ v, atI vs i = some v ∧ RD K B d v := by
  unfold atI at h ⊢
  rw [← r.length]
  cases e : ixN ds.length i with
  | none => rw [e] at h; cases h
  | some j =>
    rw [e] at h
    obtain ⟨v, h1, h2⟩ := r.get (i := j) h
    exact ⟨v, h1, h2⟩
theorem re_ix (h : RE S ρ M a fun x M1 => RE S ρ M1 b fun y M2 => ∃ l i d, sqOf M2 x = some l ∧ y = .int i ∧ atI l i = some d ∧ Q d M2) (hs : PlainIx b := by exact fun _ _ => rfl) : RE S ρ M (.Subscript a b pos) Q :=
  re_of fun X fit H0 M0 B0 w => ⟨_, pe_ix ix_seq (pe_of fit w a) (pe_of fit w b) hs, fun σ H B sl rp fr => bin_rd (X := X) sl rp fr h fun x y M2 H2 B2 vx vy rp2 fr2 rx ry ⟨l, i, d, e1, e2, e3, k⟩ => by
    subst e2; cases ry
    obtain ⟨p, vs, rfl, hq, hs⟩ := sqOf_at rp2 e1 rx
    obtain ⟨v, h1, h2⟩ := atI_rd hs e3
    have hf := (PE'.done rp2 h2 k).go fr2
    rcases hq with hq | hq
    · exact .inl ⟨p, vs, i, v, rfl, rfl, fit.ks hq, h1, hf⟩
    · exact .inr (.inl ⟨p, vs, i, v, rfl, rfl, fit.kt hq, h1, hf⟩)⟩
/-! ### slices -/
def cutD {α : Type} (xs : List α) (lo hi : Option Int) : List α := (xs.drop (HT.sIx xs.length 0 lo)).take (HT.sIx xs.length xs.length hi - HT.sIx xs.length 0 lo)
theorem cutD_rd {K : PySem.W.Frag} {B : Hp} {ds : List Dat} {vs : List V} (r : RDs K B ds vs) (lo hi : Option Int) : RDs K B (cutD ds lo hi) (cutV vs lo hi) := by
  unfold cutD cutV
  rw [r.length]
  exact (r.drop _).take _
theorem cutD_map {α β : Type} (f : α → β) (xs : List α) (lo hi : Option Int) : cutD (xs.map f) lo hi = (cutD xs lo hi).map f := by
  unfold cutD
  rw [List.length_map, List.map_take, List.map_drop]
theorem cutD_from {α : Type} (xs : List α) (n : Nat) : cutD xs (some (n : Int)) none = xs.drop n := by
  unfold cutD
  rw [HT.sIx_nat, HT.sIx_none]
  by_cases h : n ≤ xs.length
  · rw [Nat.min_eq_left h]
    exact List.take_of_length_le (by rw [List.length_drop]; exact Nat.le_refl _)
  · rw [Nat.min_eq_right (by omega), Nat.sub_self, List.drop_of_length_le (Nat.le_refl _), List.drop_of_length_le (by omega)]
    rfl
theorem cutD_to {α : Type} (xs : List α) (n : Nat) : cutD xs none (some (n : Int)) = xs.take n := by
  unfold cutD
  rw [HT.sIx_nat, HT.sIx_none, List.drop_zero, Nat.sub_zero]
  by_cases h : n ≤ xs.length
  · rw [Nat.min_eq_left h]
  · rw [Nat.min_eq_right (by omega), List.take_of_length_le (Nat.le_refl _), List.take_of_length_le (by omega)]
theorem cutD_mid {α : Type} (xs : List α) (m n : Nat) : cutD xs (some (m : Int)) (some (n : Int)) = (xs.take n).drop m := by
  unfold cutD
  rw [HT.sIx_nat, HT.sIx_nat, List.drop_take]
  by_cases hm : m ≤ xs.length
  · rw [Nat.min_eq_left hm]
    by_cases h : n ≤ xs.length
    · rw [Nat.min_eq_left h]
    · rw [Nat.min_eq_right (show xs.length ≤ n by omega), List.take_of_length_le (by rw [List.length_drop]; exact Nat.le_refl _), List.take_of_length_le (by rw [List.length_drop]; omega)]
  · rw [Nat.min_eq_right (show xs.length ≤ m by omega), List.drop_of_length_le (Nat.le_refl xs.length), List.drop_of_length_le (show xs.length ≤ m by omega)]
    simp
/-- a part of a slice -/
def RO (S : Sc) (ρ : Env') (M : Mem) : Option Expr → (Option Int → Mem → Prop) → Prop
  | none, T => T none M
  | some e, T => RE S ρ M e fun d M1 => ∃ i, d = .int i ∧ T (some i) M1
def tO' (S : Sc) (H0 : Hp) (M0 : Mem) (B0 : Hp) : Option Expr → TO
  | none => tNoPart
  | some e => tPart (tE S H0 M0 B0 e)
theorem po_of {X : Cx} {H0 B0 : Hp} {M0 : Mem} (fit : Fits S X) (w : Wish S X H0 M0 B0) : ∀ e : Option Expr, PO X e (tO' S H0 M0 B0 e)
  | none => po_none
  | some e => po_some (pe_of fit w e)
theorem ro_rd {H0 B0 : Hp} {M0 : Mem} {o : Option Expr} {T : Option Int → Mem → Prop} (h : RO S ρ M o T) {σ : L2.St} {H B : Hp} (sl : Sl S.K B σ ρ) (rp : Rp S.K H M B) (fr : Fr H0 M0 B0 H M B) {Qo : Option Int → Hp → Prop}
    (k : ∀ l M1 H1 B1, Rp S.K H1 M1 B1 → Fr H M B H1 M1 B1 → T l M1 → Qo l H1) : tO' S H0 M0 B0 o σ H Qo := by
  cases o with
  | none => exact k none M H B rp (Fr.refl _ _ _) h
  | some e => exact ⟨ρ, M, B, _, sl, rp, fr, h, fun v H1 ⟨d, M1, B1, rp1, fr1, rd, i, e1, q⟩ => by
      subst e1; cases rd
      exact ⟨i, rfl, k _ M1 H1 B1 rp1 fr1 q⟩⟩
theorem rl_sl {lo hi : Option Expr} {p2 : Pos} {T : List Dat → Mem → Prop} (h : RE S ρ M a fun x M1 => RO S ρ M1 lo fun l M2 => RO S ρ M2 hi fun u M3 => ∃ ds, lqOf M3 x = some ds ∧ T (cutD ds l u) M3) : RL S ρ M (.Subscript a (.Slice lo hi none p2) pos) T :=
  rl_of fun X fit H0 M0 B0 w => ⟨_, pe_slice sl_list (pe_of fit w a) (po_of fit w lo) (po_of fit w hi), fun σ H B sl rp fr => ⟨ρ, M, B, _, sl, rp, fr, h, fun v H1 ⟨x, M1, B1, rp1, fr1, rx, h1⟩ =>
    ro_rd h1 (sl.up (fr1.up rp)) rp1 (fr.trans fr1) fun l M2 H2 B2 rp2 fr2 h2 => ro_rd h2 ((sl.up (fr1.up rp)).up (fr2.up rp1)) rp2 ((fr.trans fr1).trans fr2) fun u M3 H3 B3 rp3 fr3 ⟨ds, e1, k⟩ => by
      obtain ⟨p, vs, rfl, hq, hs⟩ := lqOf_at rp3 e1 ((rx.up (fr2.up rp1)).up (fr3.up rp2))
      exact ⟨p, vs, rfl, fit.ks hq, fun t ht => PL'.new rp3 ((fr1.trans fr2).trans fr3) ht (cutD_rd hs l u) k⟩⟩⟩
/-- a tuple's slice -/
theorem re_slT {lo hi : Option Expr} {p2 : Pos} (h : RE S ρ M a fun x M1 => RO S ρ M1 lo fun l M2 => RO S ρ M2 hi fun u M3 => ∃ ds, x = .tup ds ∧ Q (.tup (cutD ds l u)) M3) : RE S ρ M (.Subscript a (.Slice lo hi none p2) pos) Q :=
  re_of fun X fit H0 M0 B0 w => ⟨_, pe_slice sl_tupA (pe_of fit w a) (po_of fit w lo) (po_of fit w hi), fun σ H B sl rp fr => ⟨ρ, M, B, _, sl, rp, fr, h, fun v H1 ⟨x, M1, B1, rp1, fr1, rx, h1⟩ =>
    ro_rd h1 (sl.up (fr1.up rp)) rp1 (fr.trans fr1) fun l M2 H2 B2 rp2 fr2 h2 => ro_rd h2 ((sl.up (fr1.up rp)).up (fr2.up rp1)) rp2 ((fr.trans fr1).trans fr2) fun u M3 H3 B3 rp3 fr3 ⟨ds, e1, k⟩ => by
      subst e1
      obtain ⟨p, vs, rfl, hq, hs⟩ := ((rx.up (fr2.up rp1)).up (fr3.up rp2)).tupE
      have f3 := (fr1.trans fr2).trans fr3
      refine ⟨p, vs, rfl, fit.kt (up_t rp3.sub hq), fun hw => ?_, fun _ t ht => ?_⟩
      · have e : cutD ds l u = ds := by
          unfold cutD
          rw [hs.length, hw.1, hw.2, List.drop_zero, Nat.sub_zero, ← hs.length, List.take_length]
        rw [e] at k
        exact (PE'.done rp3 (.tup hq hs) k).go f3
      · obtain ⟨r1, r2, r3⟩ := rp3.newB ht (.tup (cutV vs l u))
        exact PE'.go (S := S) f3 ⟨_, M3, _, r1, r2, .tup (.inl (.inl upd_same)) ((cutD_rd hs l u).up r3), k⟩⟩⟩
/-! ### built-in calls -/
theorem re_len (G : BI S.mg) {p : Pos} (h : RE S ρ M a fun x M1 => ∃ l, sqOf M1 x = some l ∧ Q (.int l.length) M1) (hg : GlN S "len" := by rfl) (hs : ∀ env, starEach [a] env = (false, eval a env) :: starEach [] env := by intro _; rfl) : RE S ρ M (.Call (.Name "len" p) [a] [] pos) Q :=
  re_of fun X fit H0 M0 B0 w => ⟨_, pe_callB call_len (fit.gl hg) (fit.bi G (by decide +kernel)) PySem.boot_len (pa_cons (pe_of fit w a) pa_nil (hs _)) (he := hs _), fun σ H B sl rp fr => ⟨ρ, M, B, _, sl, rp, fr, h, fun v H1 ⟨x, M1, B1, rp1, fr1, rx, l, e, k⟩ => by
    obtain ⟨p, vs, rfl, hq, hs⟩ := sqOf_at rp1 e rx
    refine ⟨.ref p, l.length, rfl, ?_, (PE'.done rp1 (.int _) k).go fr1⟩
    rw [hs.length]
    rcases hq with hq | hq
    · exact .inl ⟨vs, fit.ks hq, rfl⟩
    · exact .inr ⟨vs, fit.kt hq, rfl⟩⟩⟩
theorem rl_list (G : BI S.mg) {p : Pos} {T : List Dat → Mem → Prop} (h : RE S ρ M a fun x M1 => ∃ l, sqOf M1 x = some l ∧ T l M1) (hg : GlN S "list" := by rfl) (hs : ∀ env, starEach [a] env = (false, eval a env) :: starEach [] env := by intro _; rfl) : RL S ρ M (.Call (.Name "list" p) [a] [] pos) T :=
  rl_of fun X fit H0 M0 B0 w => ⟨_, pe_callTy call_list_of (fit.gl hg) (fit.bi G (by decide +kernel)) (by decide +kernel) (pa_cons (pe_of fit w a) pa_nil (hs _)) (he := hs _), fun σ H B sl rp fr => ⟨ρ, M, B, _, sl, rp, fr, h, fun v H1 ⟨x, M1, B1, rp1, fr1, rx, l, e, k⟩ => by
    obtain ⟨p, vs, rfl, hq, hs⟩ := sqOf_at rp1 e rx
    refine ⟨p, vs, rfl, ?_, fun t ht => PL'.new rp1 fr1 ht hs k⟩
    rcases hq with hq | hq
    · exact .inl (fit.ks hq)
    · exact .inr (fit.kt hq)⟩⟩
/-- a tuple of a list's items -/
theorem re_tupOf (G : BI S.mg) {p : Pos} (h : RE S ρ M a fun x M1 => ∃ l, lqOf M1 x = some l ∧ Q (.tup l) M1) (hg : GlN S "tuple" := by rfl) (hs : ∀ env, starEach [a] env = (false, eval a env) :: starEach [] env := by intro _; rfl) : RE S ρ M (.Call (.Name "tuple" p) [a] [] pos) Q :=
  re_of fun X fit H0 M0 B0 w => ⟨_, pe_callTy call_tuple_of (fit.gl hg) (fit.bi G (by decide +kernel)) (by decide +kernel) (pa_cons (pe_of fit w a) pa_nil (hs _)) (he := hs _), fun σ H B sl rp fr => ⟨ρ, M, B, _, sl, rp, fr, h, fun v H1 ⟨x, M1, B1, rp1, fr1, rx, l, e, k⟩ => by
    obtain ⟨p, vs, rfl, hq, hs⟩ := lqOf_at rp1 e rx
    refine ⟨p, vs, rfl, .inl ⟨fit.ks hq, fun t ht => ?_⟩⟩
    obtain ⟨r1, r2, r3⟩ := rp1.newB ht (.tup vs)
    exact PE'.go (S := S) fr1 ⟨_, M1, _, r1, r2, .tup (.inl (.inl upd_same)) (hs.up r3), k⟩⟩⟩
def rgD (i j : Int) : List Dat := (List.range (j - i).toNat).map fun n => Dat.int (i + (n : Nat))
theorem rgD_rd {K : PySem.W.Frag} {B : Hp} (i j : Int) : RDs K B (rgD i j) (rgV i j) := by
  unfold rgD rgV
  have : ∀ l : List Nat, RDs K B (l.map fun n => Dat.int (i + (n : Nat))) (l.map fun n => V.int (i + (n : Nat))) := fun l => by
    induction l with
    | nil => exact .nil
    | cons x r ih => exact .cons (.int _) ih
  exact this _
/-- list(range(a)), list(range(a, b)) -/
theorem rl_rg1 (G : BI S.mg) {p p2 pos2 : Pos} {T : List Dat → Mem → Prop} (h : RE S ρ M a fun x M1 => ∃ i, x = .int i ∧ RgOk 0 i ∧ T (rgD 0 i) M1) (hg : GlN S "list" := by rfl) (hg2 : GlN S "range" := by rfl)
    (hs : ∀ env, starEach [a] env = (false, eval a env) :: starEach [] env := by intro _; rfl) : RL S ρ M (.Call (.Name "list" p) [.Call (.Name "range" p2) [a] [] pos2] [] pos) T :=
  rl_of fun X fit H0 M0 B0 w => ⟨_, pe_listRg fit.calm (fit.gl hg) (fit.bi G (by decide +kernel)) (prg_1 (fit.gl hg2) (fit.bi G (by decide +kernel)) (pe_of fit w a) (hs _)), fun σ H B sl rp fr => ⟨ρ, M, B, _, sl, rp, fr, h, fun v H1 ⟨x, M1, B1, rp1, fr1, rx, i, e, ok, k⟩ => by
    subst e; cases rx
    exact ⟨i, rfl, ok, fun t ht => PL'.new rp1 fr1 ht (rgD_rd _ _) k⟩⟩⟩
theorem rl_rg2 (G : BI S.mg) {p p2 pos2 : Pos} {T : List Dat → Mem → Prop} (h : RE S ρ M a fun x M1 => RE S ρ M1 b fun y M2 => ∃ i j, x = .int i ∧ y = .int j ∧ RgOk i j ∧ T (rgD i j) M2) (hg : GlN S "list" := by rfl) (hg2 : GlN S "range" := by rfl)
    (hs : ∀ env, starEach [a, b] env = (false, eval a env) :: starEach [b] env := by intro _; rfl) (hs2 : ∀ env, starEach [b] env = (false, eval b env) :: starEach [] env := by intro _; rfl) : RL S ρ M (.Call (.Name "list" p) [.Call (.Name "range" p2) [a, b] [] pos2] [] pos) T :=
  rl_of fun X fit H0 M0 B0 w => ⟨_, pe_listRg fit.calm (fit.gl hg) (fit.bi G (by decide +kernel)) (prg_2 (fit.gl hg2) (fit.bi G (by decide +kernel)) (pe_of fit w a) (pe_of fit w b) (hs _) (hs2 _) (by rw [hs2]; rfl)), fun σ H B sl rp fr =>
    ⟨ρ, M, B, _, sl, rp, fr, h, fun v H1 ⟨x, M1, B1, rp1, fr1, rx, h1⟩ => ⟨ρ, M1, B1, _, sl.up (fr1.up rp), rp1, fr.trans fr1, h1, fun u H2 ⟨y, M2, B2, rp2, fr2, ry, i, j, e1, e2, ok, k⟩ => by
      subst e1 e2; cases rx; cases ry
      exact ⟨i, j, rfl, rfl, ok, fun t ht => PL'.new rp2 (fr1.trans fr2) ht (rgD_rd _ _) k⟩⟩⟩⟩
/-- int of a truth value -/
theorem re_intB (G : BI S.mg) {p : Pos} (h : RE S ρ M a fun x M1 => ∃ i, x = .bl i ∧ Q (.int (if i then 1 else 0)) M1) (hg : GlN S "int" := by rfl) (hs : ∀ env, starEach [a] env = (false, eval a env) :: starEach [] env := by intro _; rfl) : RE S ρ M (.Call (.Name "int" p) [a] [] pos) Q :=
  re_of fun X fit H0 M0 B0 w => ⟨_, pe_callTy call_int1 (fit.gl hg) (fit.bi G (by decide +kernel)) (by decide +kernel) (pa_cons (pe_of fit w a) pa_nil (hs _)) (he := hs _), fun σ H B sl rp fr => ⟨ρ, M, B, _, sl, rp, fr, h, fun v H1 ⟨x, M1, B1, rp1, fr1, rx, i, e, k⟩ => by
    subst e; cases rx
    exact .inr ⟨i, rfl, (PE'.done rp1 (.int _) k).go fr1⟩⟩⟩
/-! ### defs -/
abbrev DSp := List Dat → Mem → DK → (Value → List (Str × Dat) → Mem → Prop) → Prop
def spD (K : PySem.W.Frag) (T : DSp) : Sp := fun vs H Qv E => ∃ ds M B, RDs K B ds vs ∧ Rp K H M B ∧ T ds M (fun d M' => ∀ v H' B', Rp K H' M' B' → Fr H M B H' M' B' → RD K B' d v → Qv v H')
  (fun cls fs M' => ∀ dd H' B', Rp K H' M' B' → Fr H M B H' M' B' → XF K B' H' dd fs → E cls dd H')
/-- a def x of the module keeps T -/
structure DefOk (P : Program) (w : World) (K : PySem.W.Frag) (mg : Str → Option Value) (base : Heap) (x : Str) (k : Nat) (T : DSp) : Prop where
  ok : ∃ f fd ps, FnOk P w K mg base (L2.CX P w) k f fd ps (spD K T) ∧ mg x = some (.ref f) ∧ PySem.W.keepIn K (.ref f) = true ∧ Binds K fd ps []
  mono : ∀ ds M (Q Q' : DK) (E E' : Value → List (Str × Dat) → Mem → Prop), (∀ d M', Q d M' → Q' d M') → (∀ c f M', E c f M' → E' c f M') → T ds M Q E → T ds M Q' E'
abbrev Sc.Has (S : Sc) (x : Str) (k : Nat) (T : DSp) : Prop := DefOk S.P S.w S.K S.mg S.base x k T
theorem call_wish {X : Cx} {H0 B0 : Hp} {M0 : Mem} (w : Wish S X H0 M0 B0) : Passes (L2.CX X.prog X.w) X (EXD S.K H0 M0 B0 S.Ex) := passes_call w fun _ _ _ _ h => h
theorem call_rd {k : Nat} {x : Str} {T : DSp} (D : S.Has x k T) {ds : List Dat} {vs : List V} {H0 B0 H H1 B B1 : Hp} {M0 M1 : Mem} (rp : Rp S.K H M B) (fr : Fr H0 M0 B0 H1 M1 B1) (rp1 : Rp S.K H1 M1 B1) (fr1 : Fr H M B H1 M1 B1) (rd : RDs S.K B1 ds vs) (h : T ds M1 Q S.Ex) :
    spD S.K T vs H1 (PE' S H M B Q) (EXD S.K H0 M0 B0 S.Ex) :=
  ⟨ds, M1, B1, rd, rp1, D.mono _ _ _ _ _ _ (fun d M' q v H' B' r f z => PE'.go (S := S) fr1 ⟨d, M', B', r, f, z, q⟩) (fun c f M' q dd H' B' r g z => ⟨M', B', f, r, fr.trans g, z, q⟩) h⟩
theorem re_call {k : Nat} {x : Str} {T : DSp} (D : S.Has x k T) {e : Expr} {es : List Expr} {p : Pos} (h : RA S ρ M (e :: es) fun ds M1 => T ds M1 Q S.Ex) (hk : k ≤ S.k := by decide) (hg : GlN S x := by rfl) (hd : (x == ("__debug__" : Str)) = false := by decide)
    (he : ∀ env, starEach (e :: es) env = (false, eval e env) :: starEach es env := by intro _; rfl) (hpl : ∀ env, (backTo pos (starEach es env)).any (·.1) = false := by intro _; rfl) : RE S ρ M (.Call (.Name x p) (e :: es) [] pos) Q := by
  obtain ⟨f, fd, ps, F, hm, hkp, hb⟩ := D.ok
  refine re_of fun X fit H0 M0 B0 w => ?_
  have F' : FnOk X.prog X.w X.K X.mg X.base (L2.CX X.prog X.w) k f fd ps (spD S.K T) := by rw [fit.prog, fit.w, fit.K, fit.mg, fit.base]; exact F
  refine ⟨_, pe_call F' (fit.room.mono hk) (fit.gl hg) (by rw [fit.mg]; exact hm) (by rw [fit.K]; exact hkp) (by rw [fit.K]; exact hb) .nil (call_wish w) (pa_of fit w _) hd (he _) (hpl _), fun σ H B sl rp fr => ⟨ρ, M, B, _, sl, rp, fr, h, fun vs H1 ⟨ds, M1, B1, rp1, fr1, rd, k⟩ => ?_⟩⟩
  show spD S.K T (vs ++ []) H1 _ _
  rw [List.append_nil]
  exact call_rd D rp (fr.trans fr1) rp1 fr1 rd k
theorem re_call0 {k : Nat} {x : Str} {T : DSp} (D : S.Has x k T) {p : Pos} (h : T [] M Q S.Ex) (hk : k ≤ S.k := by decide) (hg : GlN S x := by rfl) (hd : (x == ("__debug__" : Str)) = false := by decide) : RE S ρ M (.Call (.Name x p) [] [] pos) Q := by
  obtain ⟨f, fd, ps, F, hm, hkp, hb⟩ := D.ok
  refine re_of fun X fit H0 M0 B0 w => ?_
  have F' : FnOk X.prog X.w X.K X.mg X.base (L2.CX X.prog X.w) k f fd ps (spD S.K T) := by rw [fit.prog, fit.w, fit.K, fit.mg, fit.base]; exact F
  exact ⟨_, pe_call0 F' (fit.room.mono hk) (fit.gl hg) (by rw [fit.mg]; exact hm) (by rw [fit.K]; exact hkp) (by rw [fit.K]; exact hb) .nil (call_wish w) hd, fun σ H B sl rp fr => call_rd D rp fr rp (Fr.refl _ _ _) .nil h⟩
/-! ### statements -/
theorem rs_nil {D : DE} (h : D.nx ρ M) : RS S ρ M [] D := fun X fit H0 M0 B0 w pins s σ H B I sl rp fr => pss_nil.run pins s σ H _ I ⟨ρ, M, B, sl, rp, Fr.refl _ _ _, h⟩
theorem rs_cons {st : Stmt} {r : List Stmt} {D : DE} (h : R1 S ρ M st { D with nx := fun ρ' M' => RS S ρ' M' r D }) : RS S ρ M (st :: r) D := fun X fit H0 M0 B0 w pins s σ H B I sl rp fr => by
  refine wpAny_execs_cons (thn (h X fit H0 M0 B0 w pins s σ H B I sl rp fr) fun f s1 q => ?_)
  cases f with
  | next =>
    obtain ⟨σ', H', I', ρ', M', B', sl', rp', fr', q⟩ := q
    exact thn (q X fit H0 M0 B0 w pins s1 σ' H' B' I' sl' rp' (fr.trans fr')) fun _ _ z => SP_imp z (fun _ _ z => z.go fr') (fun _ _ z => z.go fr') (fun _ _ z => z.go fr') (fun _ _ z => z.go fr')
  | ret v => exact q
  | brk => exact q
  | cont => exact q
theorem rs_one {st : Stmt} {D : DE} (h : R1 S ρ M st D) : RS S ρ M [st] D := rs_cons (by
  have e : ({ D with nx := fun ρ' M' => RS S ρ' M' [] D } : DE) = { D with nx := fun ρ' M' => RS S ρ' M' [] D } := rfl
  exact fun X fit H0 M0 B0 w pins s σ H B I sl rp fr => thn (h X fit H0 M0 B0 w pins s σ H B I sl rp fr) fun _ _ z => SP_imp z (fun _ _ ⟨ρ', M', B', q1, q2, q3, q4⟩ => ⟨ρ', M', B', q1, q2, q3, rs_nil q4⟩) (fun _ _ z => z) (fun _ _ z => z) (fun _ _ z => z))
variable {D : DE}
theorem r1_set (i : Nat) {x : Str} {e : Expr} {p' : Pos} (h : RE S ρ M e fun d M1 => D.nx (ρ.set i (some d)) M1) (hN : S.N.Nodup := by assumption) (hi : S.N[i]? = some x := by rfl) (hx : Loc S.sc x := by first | exact Or.inl rfl | exact Or.inr rfl)
    (hs : ∀ env, swapsWith e (some (.Name x p')) pos.line env = pure false := by intro _; rfl) (hf : S.fn x = true ∨ S.sc.names.lookup x = some .local := by first | exact .inl rfl | exact .inr rfl) : R1 S ρ M (.Assign [.Name x p'] e pos) D :=
  r1_of fun X fit H0 M0 B0 w => ⟨_, ps_set (i := i) (by rw [fit.N]; exact hN) (by rw [fit.N]; exact hi) (fit.loc hx) (pe_of fit w e) (hs _) (by rw [fit.fn, fit.sc]; exact hf), fun σ H B sl rp fr => ⟨ρ, M, B, _, sl, rp, fr, h, fun v H1 ⟨d, M1, B1, rp1, fr1, rd, k⟩ =>
    ⟨ρ.set i (some d), M1, B1, (sl.up (fr1.up rp)).set rd i, rp1, fr1, k⟩⟩⟩
/-- targets -/
theorem rg_nm (i : Nat) {x : Str} {d : Dat} {T : Env' → Mem → Prop} (h : T (ρ.set i (some d)) M) (hN : S.N.Nodup := by assumption) (hi : S.N[i]? = some x := by rfl) (hx : Loc S.sc x := by first | exact Or.inl rfl | exact Or.inr rfl)
    (hf : S.fn x = true ∨ S.sc.names.lookup x = some .local := by first | exact .inl rfl | exact .inr rfl) : RG S ρ M (.Name x pos) d T :=
  rg_of fun X fit H0 M0 B0 w => ⟨_, pg_name (i := i) (by rw [fit.N]; exact hN) (by rw [fit.N]; exact hi) (fit.loc hx) (by rw [fit.fn, fit.sc]; exact hf), fun v σ H B sl rp rd fr => ⟨_, M, B, sl.set rd i, rp, Fr.refl _ _ _, h⟩⟩
/-- several targets -/
def RGs (S : Sc) (ρ : Env') (M : Mem) (ts : List Expr) (ds : List Dat) (T : Env' → Mem → Prop) : Prop :=
  ∀ X, Fits S X → ∀ H0 M0 B0, Wish S X H0 M0 B0 → ∃ t, PGs X ts t ∧ ∀ vs σ H B, Sl S.K B σ ρ → Rp S.K H M B → RDs S.K B ds vs → Fr H0 M0 B0 H M B → t vs σ H (PN' S H M B T)
theorem rgs_nil {T : Env' → Mem → Prop} (h : T ρ M) : RGs S ρ M [] [] T := fun X fit H0 M0 B0 w => ⟨_, pgs_nil, fun vs σ H B sl rp rd fr => by
  cases rd
  exact ⟨rfl, _, M, B, sl, rp, Fr.refl _ _ _, h⟩⟩
theorem rgs_nm (i : Nat) {x : Str} {p : Pos} {es : List Expr} {d : Dat} {ds : List Dat} {T : Env' → Mem → Prop} (h : RGs S (ρ.set i (some d)) M es ds T) (hN : S.N.Nodup := by assumption) (hi : S.N[i]? = some x := by rfl) (hx : Loc S.sc x := by first | exact Or.inl rfl | exact Or.inr rfl)
    (hf : S.fn x = true ∨ S.sc.names.lookup x = some .local := by first | exact .inl rfl | exact .inr rfl) (hs : ∀ env, (assignEach (.Name x p :: es) env).map (·.2) = assign (.Name x p) env :: (assignEach es env).map (·.2) := by intro _; rfl) : RGs S ρ M (.Name x p :: es) (d :: ds) T := fun X fit H0 M0 B0 w => by
  obtain ⟨t, pt, ht⟩ := h X fit H0 M0 B0 w
  refine ⟨_, pgs_cons (pg_name (i := i) (by rw [fit.N]; exact hN) (by rw [fit.N]; exact hi) (fit.loc hx) (by rw [fit.fn, fit.sc]; exact hf)) pt (hs _), fun vs σ H B sl rp rd fr => ?_⟩
  cases rd with
  | cons r1 r2 => exact ⟨_, _, rfl, ht _ _ H B (sl.set r1 i) rp r2 fr⟩
theorem rg_tup {es : List Expr} {k : Nat} {ds : List Dat} {T : Env' → Mem → Prop} (h : RGs S ρ M es ds T) (n : Nat) (hl : ds.length = n := by rfl) (hn : ∀ env, (assignEach es env).length = n := by intro _; rfl) (hst : ∀ env, (assignEach es env).findIdx? (·.1) = none := by intro _; rfl) : RG S ρ M (.Tuple es k pos) (.tup ds) T :=
  rg_of fun X fit H0 M0 B0 w => by
    obtain ⟨t, pt, ht⟩ := h X fit H0 M0 B0 w
    refine ⟨_, pg_tup fit.calm pt (hn _) (hst _), fun v σ H B sl rp rd fr => ?_⟩
    obtain ⟨p, vs, rfl, h1, h2⟩ := rd.tupE
    exact ⟨p, vs, rfl, fit.kt (up_t rp.sub h1), by rw [← h2.length]; exact hl, ht vs σ H B sl rp h2 fr⟩
theorem r1_asg {tg e : Expr} (h : RE S ρ M e fun d M1 => RG S ρ M1 tg d D.nx) (hs : ∀ env, swapsWithSole [tg] e pos.line env = pure false := by intro _; rfl) (hw : ∀ env, swappedStores [tg] e env = pure none := by intro _; rfl)
    (h1 : ∀ env, (assignEach [tg] env).map (·.2) = [assign tg env] := by intro _; rfl) : R1 S ρ M (.Assign [tg] e pos) D :=
  r1_of fun X fit H0 M0 B0 w => ⟨_, ps_asg (pe_of fit w e) (pg_of fit w tg) (hs _) (hw _) (h1 _), fun σ H B sl rp fr => ⟨ρ, M, B, _, sl, rp, fr, h, fun v H1 ⟨d, M1, B1, rp1, fr1, rd, k⟩ =>
    ⟨ρ, M1, B1, d, _, sl.up (fr1.up rp), rp1, rd, fr.trans fr1, k, fun _ _ q => q.go fr1⟩⟩⟩
theorem r1_expr {e : Expr} (h : RE S ρ M e fun _ M1 => D.nx ρ M1) (hs : ∀ env, swapsWith e none pos.line env = pure false := by intro _; rfl) : R1 S ρ M (.Expr e pos) D :=
  r1_of fun X fit H0 M0 B0 w => ⟨_, ps_expr (pe_of fit w e) (hs _), fun σ H B sl rp fr => ⟨ρ, M, B, _, sl, rp, fr, h, fun v H1 ⟨d, M1, B1, rp1, fr1, rd, k⟩ => ⟨ρ, M1, B1, sl.up (fr1.up rp), rp1, fr1, k⟩⟩⟩
theorem r1_ret {e : Expr} (h : RE S ρ M e D.rt) : R1 S ρ M (.Return (some e) pos) D := r1_of fun X fit H0 M0 B0 w => ⟨_, ps_ret (pe_of fit w e), fun σ H B sl rp fr => ⟨ρ, M, B, _, sl, rp, fr, h, fun v H1 q => q⟩⟩
theorem r1_if {t : Expr} {p q : List Stmt} (h : RT S ρ M t fun k M1 => (k = true → RS S ρ M1 p D) ∧ (k = false → RS S ρ M1 q D)) : R1 S ρ M (.If t p q pos) D :=
  r1_of fun X fit H0 M0 B0 w => ⟨_, ps_if (pt_of fit w t) (pss_of fit w p) (pss_of fit w q), fun σ H B sl rp fr => ⟨ρ, M, B, _, sl, rp, fr, h, fun k H1 ⟨M1, B1, rp1, fr1, k1, k2⟩ => by
    cases k with
    | true => exact iteT ⟨ρ, M1, B1, _, sl.up (fr1.up rp), rp1, fr.trans fr1, k1 rfl, fun _ _ z => z.go fr1, fun _ _ z => z.go fr1, fun _ _ z => z.go fr1, fun _ _ z => z.go fr1⟩
    | false => exact iteF ⟨ρ, M1, B1, _, sl.up (fr1.up rp), rp1, fr.trans fr1, k2 rfl, fun _ _ z => z.go fr1, fun _ _ z => z.go fr1, fun _ _ z => z.go fr1, fun _ _ z => z.go fr1⟩⟩⟩
theorem r1_pass (h : D.nx ρ M) : R1 S ρ M (.Pass pos) D := r1_of fun X fit H0 M0 B0 w => ⟨_, ps_pass, fun σ H B sl rp fr => ⟨ρ, M, B, sl, rp, Fr.refl _ _ _, h⟩⟩
/-- code that isn't come to -/
theorem r1_never {st : Stmt} (h : False) : R1 S ρ M st D := h.elim
theorem rs_never {st : List Stmt} (h : False) : RS S ρ M st D := h.elim
/-- weaker ends -/
theorem RS.weak {sts : List Stmt} {D' : DE} (h : RS S ρ M sts D) (k1 : ∀ ρ' M', D.nx ρ' M' → D'.nx ρ' M') (k2 : ∀ d M', D.rt d M' → D'.rt d M') (k3 : ∀ ρ' M', D.bk ρ' M' → D'.bk ρ' M') (k4 : ∀ ρ' M', D.ct ρ' M' → D'.ct ρ' M') : RS S ρ M sts D' :=
  fun X fit H0 M0 B0 w pins s σ H B I sl rp fr => thn (h X fit H0 M0 B0 w pins s σ H B I sl rp fr) fun _ _ z => SP_imp z (fun _ _ ⟨ρ', M', B', q1, q2, q3, q4⟩ => ⟨ρ', M', B', q1, q2, q3, k1 _ _ q4⟩) (fun _ _ ⟨ρ', M', B', q1, q2, q3, q4⟩ => ⟨ρ', M', B', q1, q2, q3, k2 _ _ q4⟩)
    (fun _ _ ⟨ρ', M', B', q1, q2, q3, q4⟩ => ⟨ρ', M', B', q1, q2, q3, k3 _ _ q4⟩) (fun _ _ ⟨ρ', M', B', q1, q2, q3, q4⟩ => ⟨ρ', M', B', q1, q2, q3, k4 _ _ q4⟩)
/-- a slot's list of the memory stands from now on -/
theorem rs_frz (i : Nat) {p : Addr} {ds : List Dat} {sts : List Stmt} (hr : ρ[i]? = some (some (.ref p))) (hm : M p = some (.lst ds)) (h : RS S (ρ.set i (some (.lst ds))) (mdel M p) sts D) : RS S ρ M sts D := fun X fit H0 M0 B0 w pins s σ H B I sl rp fr => by
  obtain ⟨B2, q1, q2, q3, q4⟩ := rp.freeze hm
  have sl2 : Sl S.K B2 σ (ρ.set i (some (.lst ds))) := by
    have z := sl.up q3
    obtain ⟨v, h1, h2⟩ := z.at_ i _ hr
    cases h2
    have y := z.set q4 i
    have e : σ.set i (some (V.ref p)) = σ := by
      apply List.ext_getElem?
      intro j
      by_cases hj : i = j
      · subst hj
        rw [List.getElem?_set_self (List.getElem?_eq_some_iff.mp h1).1, h1]
      · rw [List.getElem?_set_ne hj]
    rw [e] at y
    exact y
  exact thn (h X fit H0 M0 B0 w pins s σ H B2 I sl2 q1 (fr.trans q2)) fun _ _ z => SP_imp z (fun _ _ z => z.go q2) (fun _ _ z => z.go q2) (fun _ _ z => z.go q2) (fun _ _ z => z.go q2)
/-- some of the memory forgotten, or slots -/
theorem rs_drop {M' : Mem} {sts : List Stmt} (hm : ∀ p m, M' p = some m → M p = some m) (h : RS S ρ M' sts D) : RS S ρ M sts D := fun X fit H0 M0 B0 w pins s σ H B I sl rp fr => by
  have f := (Fr.refl H M B).drop hm
  exact thn (h X fit H0 M0 B0 w pins s σ H B I sl (rp.drop hm) (fr.trans f)) fun _ _ z => SP_imp z (fun _ _ z => z.go f) (fun _ _ z => z.go f) (fun _ _ z => z.go f) (fun _ _ z => z.go f)
theorem rs_slots {ρ' : Env'} {sts : List Stmt} (hl : ρ'.length = ρ.length) (hw : ∀ (i : Nat) (d : Dat), ρ'[i]? = some (some d) → ρ[i]? = some (some d)) (h : RS S ρ' M sts D) : RS S ρ M sts D := fun X fit H0 M0 B0 w pins s σ H B I sl rp fr => h X fit H0 M0 B0 w pins s σ H B I (sl.weak hl hw) rp fr
end
section
variable {P : Program} {w : World} {K : PySem.W.Frag} {mg : Str → Option Value} {base : Heap}
def mkS (P : Program) (w : World) (K : PySem.W.Frag) (mg : Str → Option Value) (base : Heap) (N : List Str) (sc : Scope) (k : Nat) (Ex : Value → List (Str × Dat) → Mem → Prop) : Sc := ⟨P, w, K, mg, base, N, sc, fun _ => true, k, Ex⟩
def startD (N : List Str) (ds : List Dat) : Env' := ds.map some ++ List.replicate (N.length - ds.length) none
theorem startD_sl {B : Hp} {N : List Str} {ds : List Dat} {vs : List V} (h : RDs K B ds vs) : Sl K B (L2.start N vs) (startD N ds) := by
  refine ⟨by simp [startD, L2.start, h.length], fun i d e => ?_⟩
  unfold startD at e
  unfold L2.start
  by_cases hi : i < ds.length
  · rw [List.getElem?_append_left (by simpa using hi), List.getElem?_map] at e
    cases q : ds[i]? with
    | none => rw [q] at e; cases e
    | some d' =>
      rw [q] at e
      cases e
      obtain ⟨v, h1, h2⟩ := h.get q
      exact ⟨v, by rw [List.getElem?_append_left (by rw [List.length_map, ← h.length]; exact hi), List.getElem?_map, h1]; rfl, h2⟩
  · rw [List.getElem?_append_right (by simp; omega), List.getElem?_replicate] at e
    split at e <;> cases e
/-- THE RULE for a def -/
theorem def_ok {x qual : Str} {params : Arguments} {body : List Stmt} {scope : Scope} {f : Addr} {fd : FuncData} {N ps : List Str} {k : Nat} {T : DSp} (F : FunD K x qual params body scope [] [] f fd) (hm : mg x = some (.ref f)) (hb : Binds K fd ps []) (S : FnScope N ps scope)
    (len : ∀ ds M Q E, T ds M Q E → ds.length = ps.length)
    (mono : ∀ ds M (Q Q' : DK) (E E' : Value → List (Str × Dat) → Mem → Prop), (∀ d M', Q d M' → Q' d M') → (∀ c f M', E c f M' → E' c f M') → T ds M Q E → T ds M Q' E')
    (run : N.Nodup → ∀ ds M (Q : DK) (E : Value → List (Str × Dat) → Mem → Prop), T ds M Q E → RS (mkS P w K mg base N scope k E) (startD N ds) M body ⟨fun _ M' => Q .non M', Q, fun _ _ => False, fun _ _ => False⟩) :
    DefOk P w K mg base x (k + 1) T := by
  refine ⟨⟨f, fd, ps, F.ok S (fun vs H Q E ⟨ds, M, B, rd, rp, h⟩ => rd.length.symm.trans (len _ _ _ _ h)) (fun cdv A outer s H vs Q E hr ⟨ds, M, B, rd, rp, h⟩ => ?_), hm, F.kp, hb⟩, mono⟩
  have hrun := run S.nd ds M _ _ h
  refine ⟨tS' _ H M B body, pss_of ⟨rfl, rfl, rfl, rfl, rfl, rfl, rfl, rfl, hr, rfl, passes_of rfl⟩ ((takes_of (E := E) rfl rfl rfl rfl).imp fun cls d σ H' z => ?_) body, ⟨_, M, B, _, startD_sl rd, rp, Fr.refl _ _ _, hrun, fun σ' H' z => ?_, fun v H' z => ?_, fun σ' H' z => ?_, fun σ' H' z => ?_⟩⟩
  · obtain ⟨M', B', fs, r1, r2, r3, r4⟩ := z
    exact r4 d H' B' r1 r2 r3
  · obtain ⟨ρ', M', B', r1, r2, r3, r4⟩ := z
    exact r4 .non H' B' r2 r3 .non
  · obtain ⟨d, M', B', r1, r2, r3, r4⟩ := z
    exact r4 v H' B' r1 r2 r3
  · obtain ⟨ρ', M', B', r1, r2, r3, r4⟩ := z
    exact r4.elim
  · obtain ⟨ρ', M', B', r1, r2, r3, r4⟩ := z
    exact r4.elim
end
end DL
set_option Elab.async false
set_option linter.all false
set_option autoImplicit false
set_option maxRecDepth 100000
set_option maxHeartbeats 4000000
namespace DL
open PySem PySem.Spec PyProof.Rows L2
section
variable {S : Sc} {ρ : Env'} {M : Mem} {Q : DK} {a b c : Expr} {pos : Pos} {D : DE}
/-- a list that stands -/
def fzOf : Dat → Option (List Dat)
  | .lst l => some l
  | .frl l => some l
  | _ => none
theorem fz_at {K : PySem.W.Frag} {B : Hp} {d : Dat} {l : List Dat} {v : V} (h : fzOf d = some l) (r : RD K B d v) : ∃ p vs, v = .ref p ∧ SqL K B p vs ∧ RDs K B l vs := by
  cases d with
  | lst l' =>
    obtain ⟨p, vs, e, hb, hs⟩ := r.lstE
    cases h
    exact ⟨p, vs, e, .inl (.inl hb), hs⟩
  | frl l' =>
    cases r with
    | frl hb hs =>
      cases h
      exact ⟨_, _, rfl, hb, hs⟩
  | _ => cases h
/-! ### methods of lists -/
theorem ty_list {H B : Hp} {p : Addr} {l : List Dat} {X : Cx} (fit : Fits S X) (rp : Rp S.K H M B) (h : M p = some (.lst l)) : tyV X.K "list" (.ref p) H := by
  obtain ⟨_, vs, e4, e5⟩ := rp.mem p _ h
  exact .inl ⟨rfl, vs, .inl (.inl e4)⟩
theorem re_app {apos : Pos} (h : RE S ρ M a fun x M1 => ∃ p l0, x = .ref p ∧ M1 p = some (.lst l0) ∧ RE S ρ M1 b fun y M2 => ∃ l, M2 p = some (.lst l) ∧ l.length < 100000 ∧ Q .non (mup M2 p (.lst (l ++ [y]))))
    (hbase : ∀ env, attributeBase a "append" env (eval a env) = eval a env := by intro _; rfl)
    (hfew : ∀ env, ((backTo pos (starEach (b :: []) env)).all (fun x => !x.1) && (backToKw pos (keywordEach [] env)).all (fun x => x.1.isSome) && decide ((b :: []).length + ([] : List Keyword).length + (if ([] : List Keyword).isEmpty then 0 else 1) < 30)) = true := by intro _; rfl)
    (hline : (apos.endLine == pos.line) = true := by rfl) (hs : ∀ env, starEach [b] env = (false, eval b env) :: starEach [] env := by intro _; rfl) :
    RE S ρ M (.Call (.Attribute a "append" apos) [b] [] pos) Q :=
  re_of fun X fit H0 M0 B0 w => ⟨_, pe_bm PySem.F.plainAttrs_list PySem.F.slot_list_append PySem.F.type_list_append mt_append (pe_of fit w a) (pa_cons (pe_of fit w b) pa_nil (hs _)) (hbase _) (hfew _) hline (hs _) rfl, fun σ H B sl rp fr =>
    ⟨ρ, M, B, _, sl, rp, fr, h, fun v H1 ⟨x, M1, B1, rp1, fr1, rx, p, l0, e1, e2, h1⟩ => by
      subst e1
      cases rx
      refine ⟨ty_list fit rp1 e2, ρ, M1, B1, _, sl.up (fr1.up rp), rp1, fr.trans fr1, h1, fun u H2 ⟨y, M2, B2, rp2, fr2, ry, l, e3, hl, k⟩ => ?_⟩
      obtain ⟨_, vs, e4, e5⟩ := rp2.mem p _ e3
      obtain ⟨r1, r2⟩ := rp2.write e3 (o := .lst (vs ++ [u])) (m := .lst (l ++ [y])) ⟨_, upd_same, e5.append (.cons ry .nil)⟩
      exact ⟨p, vs, u, rfl, rfl, e4, by rw [← e5.length]; exact Nat.lt_of_lt_of_le hl (by decide), PE'.go (S := S) (fr1.trans fr2) ⟨.non, _, B2, r1, r2, .non, k⟩⟩⟩⟩
theorem re_ext {apos : Pos} (h : RE S ρ M a fun x M1 => ∃ p l0, x = .ref p ∧ M1 p = some (.lst l0) ∧ RE S ρ M1 b fun y M2 => ∃ l l2, M2 p = some (.lst l) ∧ lsOf M2 y = some l2 ∧ l.length + l2.length ≤ 100000 ∧ Q .non (mup M2 p (.lst (l ++ l2))))
    (hbase : ∀ env, attributeBase a "extend" env (eval a env) = eval a env := by intro _; rfl)
    (hfew : ∀ env, ((backTo pos (starEach (b :: []) env)).all (fun x => !x.1) && (backToKw pos (keywordEach [] env)).all (fun x => x.1.isSome) && decide ((b :: []).length + ([] : List Keyword).length + (if ([] : List Keyword).isEmpty then 0 else 1) < 30)) = true := by intro _; rfl)
    (hline : (apos.endLine == pos.line) = true := by rfl) (hs : ∀ env, starEach [b] env = (false, eval b env) :: starEach [] env := by intro _; rfl) :
    RE S ρ M (.Call (.Attribute a "extend" apos) [b] [] pos) Q :=
  re_of fun X fit H0 M0 B0 w => ⟨_, pe_bm PySem.F.plainAttrs_list PySem.F.slot_list_extend PySem.F.type_list_extend mt_extend (pe_of fit w a) (pa_cons (pe_of fit w b) pa_nil (hs _)) (hbase _) (hfew _) hline (hs _) rfl, fun σ H B sl rp fr =>
    ⟨ρ, M, B, _, sl, rp, fr, h, fun v H1 ⟨x, M1, B1, rp1, fr1, rx, p, l0, e1, e2, h1⟩ => by
      subst e1
      cases rx
      refine ⟨ty_list fit rp1 e2, ρ, M1, B1, _, sl.up (fr1.up rp), rp1, fr.trans fr1, h1, fun u H2 ⟨y, M2, B2, rp2, fr2, ry, l, l2, e3, e6, hl, k⟩ => ?_⟩
      obtain ⟨_, vs, e4, e5⟩ := rp2.mem p _ e3
      obtain ⟨q, ws, rfl, e7, e8⟩ := lsOf_at rp2 e6 ry
      obtain ⟨r1, r2⟩ := rp2.write e3 (o := .lst (vs ++ ws)) (m := .lst (l ++ l2)) ⟨_, upd_same, e5.append e8⟩
      exact ⟨p, q, vs, ws, rfl, rfl, e4, e7, by rw [← e5.length, ← e8.length]; exact Nat.le_trans hl (by decide), PE'.go (S := S) (fr1.trans fr2) ⟨.non, _, B2, r1, r2, .non, k⟩⟩⟩⟩
/-- xs[i] = e -/
theorem r1_setL {e : Expr} {p2 : Pos} (h : RE S ρ M e fun d M1 => RE S ρ M1 a fun x M2 => RE S ρ M2 b fun y M3 => ∃ p l, ∃ j : Nat, x = .ref p ∧ M3 p = some (.lst l) ∧ y = .int j ∧ j < l.length ∧ D.nx ρ (mup M3 p (.lst (l.set j d))))
    (ha : ∀ env v, assign (.Subscript a b p2) env v = (do
      let ov ← holding [v] (eval a env)
      let iv ← holding [v, ov] (eval b env)
      standAt p2
      holding [v, ov, iv] (setItem ov iv v)
      release [v, ov, iv] []) := by intro _ _; rfl)
    (hs : ∀ env, swapsWithSole [.Subscript a b p2] e pos.line env = pure false := by intro _; rfl) (hw : ∀ env, swappedStores [.Subscript a b p2] e env = pure none := by intro _; rfl)
    (h1 : ∀ env, (assignEach [.Subscript a b p2] env).map (·.2) = [assign (.Subscript a b p2) env] := by intro _; rfl) : R1 S ρ M (.Assign [.Subscript a b p2] e pos) D :=
  r1_of fun X fit H0 M0 B0 w => ⟨_, ps_asg (pe_of fit w e) (pg_sub (pe_of fit w a) (pe_of fit w b) set_list (ha _)) (hs _) (hw _) (h1 _), fun σ H B sl rp fr => ⟨ρ, M, B, _, sl, rp, fr, h, fun v H1 ⟨d, M1, B1, rp1, fr1, rd, h1⟩ =>
    ⟨ρ, M1, B1, _, sl.up (fr1.up rp), rp1, fr.trans fr1, h1, fun u H2 ⟨x, M2, B2, rp2, fr2, rx, h2⟩ =>
      ⟨ρ, M2, B2, _, (sl.up (fr1.up rp)).up (fr2.up rp1), rp2, (fr.trans fr1).trans fr2, h2, fun z H3 ⟨y, M3, B3, rp3, fr3, ry, p, l, j, e1, e2, e3, hj, k⟩ => by
        subst e1 e3
        cases rx; cases ry
        have f3 := (fr1.trans fr2).trans fr3
        obtain ⟨_, vs, e4, e5⟩ := rp3.mem p _ e2
        obtain ⟨r1, r2⟩ := rp3.write e2 (o := .lst (vs.set j v)) (m := .lst (l.set j d)) ⟨_, upd_same, RDs.set ((rd.up (fr2.up rp1)).up (fr3.up rp2)) j e5⟩
        refine ⟨p, vs, (j : Int), j, rfl, rfl, e4, ?_, ρ, _, B3, ((sl.up (fr1.up rp)).up (fr2.up rp1)).up (fr3.up rp2), r1, f3.trans r2, k⟩
        unfold ixN
        rw [if_pos (by omega), if_pos (by rw [← e5.length]; omega)]
        simp⟩⟩⟩⟩
/-! ### for -/
theorem r1_for {tg iter : Expr} {body : List Stmt} (h : RE S ρ M iter fun d M1 => ∃ ds, fzOf d = some ds ∧ ∃ I : Nat → Env' → Mem → Prop, I 0 ρ M1 ∧
      (∀ i x ρ' M', ds[i]? = some x → I i ρ' M' → RG S ρ' M' tg x fun ρ2 M2 => RS S ρ2 M2 body { D with nx := I (i + 1), ct := I (i + 1), bk := D.nx }) ∧ (∀ ρ' M', I ds.length ρ' M' → D.nx ρ' M'))
    (hs : ∀ env x, foldedSetIterable iter env x = pure x := by intro _ _; rfl) : R1 S ρ M (.For tg iter body [] pos) D :=
  r1_of fun X fit H0 M0 B0 w => ⟨_, ps_for fit.own fit.calm (pi_list (pe_of fit w iter)) (pg_of fit w tg) (pss_of fit w body) (hs _), fun σ H B sl rp fr => ⟨ρ, M, B, _, sl, rp, fr, h, fun v H1 ⟨d, M1, B1, rp1, fr1, rd, ds, e, I, i0, turn, fin⟩ => by
    obtain ⟨p, vs, rfl, hq, hv⟩ := fz_at e rd
    refine ⟨p, rfl, ⟨vs, fit.ks (up_l rp1.sub hq)⟩, for_list (K := X.K) (a := p) (xs := vs) (fun i => PN' S H1 M1 B1 (I i)) ?_ ?_ ?_ ?_⟩
    · exact ⟨ρ, M1, B1, sl.up (fr1.up rp), rp1, Fr.refl _ _ _, i0⟩
    · intro i σ' H' _ ⟨ρ', M', B', sl', rp', fr', q⟩
      exact fit.ks (up_l rp'.sub (up_l (fr'.up rp1) hq))
    · intro i x σ' H' hx ⟨ρ', M', B', sl', rp', fr', q⟩
      obtain ⟨dx, hdx, rdx⟩ := hv.getV hx
      have f1 := fr1.trans fr'
      refine ⟨ρ', M', B', dx, _, sl', rp', rdx.up (fr'.up rp1), fr.trans f1, turn i dx ρ' M' hdx q, fun σ2 H2 ⟨ρ2, M2, B2, sl2, rp2, fr2, q2⟩ => ?_⟩
      exact ⟨ρ2, M2, B2, _, sl2, rp2, (fr.trans f1).trans fr2, q2, fun _ _ z => z.go (fr'.trans fr2), fun _ _ z => z.go (f1.trans fr2), fun _ _ z => z.go (f1.trans fr2), fun _ _ z => z.go (fr'.trans fr2)⟩
    · intro σ' H' ⟨ρ', M', B', sl', rp', fr', q⟩
      rw [← hv.length] at q
      exact ⟨ρ', M', B', sl', rp', fr1.trans fr', fin _ _ q⟩⟩⟩
/-- over range(n), range(m, n) -/
theorem r1_forR {x : Str} (j : Nat) {px : Pos} {p pos' : Pos} {body : List Stmt} (G : BI S.mg) (h : RA S ρ M [a] fun ds M1 => ∃ n : Int, ds = [.int n] ∧ -(2 ^ 62) ≤ n ∧ n < 2 ^ 62 ∧ ∃ I : Nat → Env' → Mem → Prop, I 0 ρ M1 ∧
      (∀ (i : Nat) ρ' M', (i : Int) < n → I i ρ' M' → RS S (ρ'.set j (some (.int i))) M' body { D with nx := I (i + 1), ct := I (i + 1), bk := D.nx }) ∧ (∀ ρ' M', I n.toNat ρ' M' → D.nx ρ' M'))
    (hN : S.N.Nodup := by assumption) (hi : S.N[j]? = some x := by rfl) (hx : Loc S.sc x := by first | exact Or.inl rfl | exact Or.inr rfl) (hf : S.fn x = true ∨ S.sc.names.lookup x = some .local := by first | exact .inl rfl | exact .inr rfl)
    (hg : GlN S "range" := by rfl) (hs : ∀ env, starEach [a] env = [(false, eval a env)] := by intro _; rfl) (hfs : ∀ env x, foldedSetIterable (.Call (.Name "range" p) [a] [] pos) env x = pure x := by intro _ _; rfl) :
    R1 S ρ M (.For (.Name x px) (.Call (.Name "range" p) [a] [] pos) body [] pos') D :=
  r1_of fun X fit H0 M0 B0 w => ⟨_, ps_for fit.own fit.calm (pi_range1 (fit.gl hg) (fit.bi G (by decide +kernel)) (pa_of fit w [a]) (hs _)) (pg_name (i := j) (by rw [fit.N]; exact hN) (by rw [fit.N]; exact hi) (fit.loc hx) (by rw [fit.fn, fit.sc]; exact hf)) (pss_of fit w body) (hfs _), fun σ H B sl rp fr =>
    ⟨ρ, M, B, _, sl, rp, fr, h, fun v H1 ⟨ds, M1, B1, rp1, fr1, rds, n, e, h1, h2, I, i0, turn, fin⟩ => by
      subst e
      cases rds with | cons r1 r2 => cases r2; cases r1; exact (by
        refine ⟨n, rfl, h1, h2, for_range (lo := 0) (n := n.toNat) (fun i => PN' S H1 M1 B1 (I i)) ?_ ?_ ?_⟩
        · exact ⟨ρ, M1, B1, sl.up (fr1.up rp), rp1, Fr.refl _ _ _, i0⟩
        · intro i σ' H' hlt ⟨ρ', M', B', sl', rp', fr', q⟩
          have f1 := fr1.trans fr'
          have e0 : (0 : Int) + (i : Int) = (i : Int) := Int.zero_add _
          rw [e0]
          exact ⟨ρ'.set j (some (.int i)), M', B', _, sl'.set (.int _) j, rp', fr.trans f1, turn i ρ' M' (by omega) q, fun _ _ z => z.go fr', fun _ _ z => z.go f1, fun _ _ z => z.go f1, fun _ _ z => z.go fr'⟩
        · intro σ' H' ⟨ρ', M', B', sl', rp', fr', q⟩
          exact ⟨ρ', M', B', sl', rp', fr1.trans fr', fin _ _ q⟩)⟩⟩
theorem r1_forR2 {x : Str} (j : Nat) {px : Pos} {p pos' : Pos} {body : List Stmt} (G : BI S.mg) (h : RA S ρ M [a, b] fun ds M1 => ∃ lo n : Int, ds = [.int lo, .int n] ∧ (-(2 ^ 62) ≤ lo ∧ lo < 2 ^ 62 ∧ -(2 ^ 62) ≤ n ∧ n < 2 ^ 62) ∧ ∃ I : Nat → Env' → Mem → Prop, I 0 ρ M1 ∧
      (∀ (i : Nat) ρ' M', lo + (i : Int) < n → I i ρ' M' → RS S (ρ'.set j (some (.int (lo + i)))) M' body { D with nx := I (i + 1), ct := I (i + 1), bk := D.nx }) ∧ (∀ ρ' M', I (n - lo).toNat ρ' M' → D.nx ρ' M'))
    (hN : S.N.Nodup := by assumption) (hi : S.N[j]? = some x := by rfl) (hx : Loc S.sc x := by first | exact Or.inl rfl | exact Or.inr rfl) (hf : S.fn x = true ∨ S.sc.names.lookup x = some .local := by first | exact .inl rfl | exact .inr rfl)
    (hg : GlN S "range" := by rfl) (hs : ∀ env, starEach [a, b] env = [(false, eval a env), (false, eval b env)] := by intro _; rfl) (hs2 : ∀ env, starEach [b] env = [(false, eval b env)] := by intro _; rfl) (hfs : ∀ env x, foldedSetIterable (.Call (.Name "range" p) [a, b] [] pos) env x = pure x := by intro _ _; rfl) :
    R1 S ρ M (.For (.Name x px) (.Call (.Name "range" p) [a, b] [] pos) body [] pos') D :=
  r1_of fun X fit H0 M0 B0 w => ⟨_, ps_for fit.own fit.calm (pi_range2 (fit.gl hg) (fit.bi G (by decide +kernel)) (pa_of fit w [a, b]) (hs _) (hs2 _)) (pg_name (i := j) (by rw [fit.N]; exact hN) (by rw [fit.N]; exact hi) (fit.loc hx) (by rw [fit.fn, fit.sc]; exact hf)) (pss_of fit w body) (hfs _), fun σ H B sl rp fr =>
    ⟨ρ, M, B, _, sl, rp, fr, h, fun v H1 ⟨ds, M1, B1, rp1, fr1, rds, lo, n, e, h1, I, i0, turn, fin⟩ => by
      subst e
      cases rds with | cons r1 r2 => cases r2 with | cons r2 r3 => cases r3; cases r1; cases r2; exact (by
        refine ⟨lo, n, rfl, h1, for_range (lo := lo) (n := (n - lo).toNat) (fun i => PN' S H1 M1 B1 (I i)) ?_ ?_ ?_⟩
        · exact ⟨ρ, M1, B1, sl.up (fr1.up rp), rp1, Fr.refl _ _ _, i0⟩
        · intro i σ' H' hlt ⟨ρ', M', B', sl', rp', fr', q⟩
          have f1 := fr1.trans fr'
          exact ⟨ρ'.set j (some (.int (lo + i))), M', B', _, sl'.set (.int _) j, rp', fr.trans f1, turn i ρ' M' (by omega) q, fun _ _ z => z.go fr', fun _ _ z => z.go f1, fun _ _ z => z.go f1, fun _ _ z => z.go fr'⟩
        · intro σ' H' ⟨ρ', M', B', sl', rp', fr', q⟩
          exact ⟨ρ', M', B', sl', rp', fr1.trans fr', fin _ _ q⟩)⟩⟩
/-! ### comprehensions -/
/-- a comprehension's target: a name, or names -/
inductive Pat where
  | nm (i : Nat)
  | tp (l : List Nat)
def setAll (σ : List (Option V)) : List Nat → List V → List (Option V)
  | i :: l, v :: vs => setAll (σ.set i (some v)) l vs
  | _, _ => σ
def setAllD (ρ : Env') : List Nat → List Dat → Env'
  | i :: l, v :: vs => setAllD (ρ.set i (some v)) l vs
  | _, _ => ρ
def Pat.slots : Pat → List Nat
  | .nm i => [i]
  | .tp l => l
/-- what a target does -/
def Pat.put (ρ : Env') (d : Dat) : Pat → Option Env'
  | .nm i => some (ρ.set i (some d))
  | .tp l => match d with
    | .tup ds => if ds.length = l.length then some (setAllD ρ l ds) else none
    | _ => none
def gAll : List Nat → TGs
  | [] => gNil
  | i :: l => gCons (gName i) (gAll l)
def Pat.g (K : PySem.W.Frag) : Pat → TG
  | .nm i => gName i
  | .tp l => gTup K l.length (gAll l)
theorem wipe_set {vs : List Nat} {i : Nat} (h : i ∈ vs) (v : Option V) : ∀ (σ : L2.St), wipe (σ.set i v) vs = wipe σ vs := by
  induction vs with
  | nil => cases h
  | cons w r ih =>
    intro σ
    show (wipe (σ.set i v) r).set w none = (wipe σ r).set w none
    by_cases hw : i ∈ r
    · rw [ih hw]
    · have hi : i = w := by
        rcases List.mem_cons.mp h with e | e
        · exact e
        · exact absurd e hw
      subst hi
      have out : ∀ (r : List Nat) (σ : L2.St), i ∉ r → wipe (σ.set i v) r = (wipe σ r).set i v := by
        intro r
        induction r with
        | nil => intro σ _; rfl
        | cons u t iht =>
          intro σ hn
          have h1 : i ≠ u := fun e => hn (by rw [e]; exact List.mem_cons_self)
          show (wipe (σ.set i v) t).set u none = ((wipe σ t).set u none).set i v
          rw [iht σ (fun z => hn (List.mem_cons_of_mem _ z)), List.set_comm _ _ h1]
      rw [out r σ hw, List.set_set]
theorem wipe_wipe (vs : List Nat) (σ : L2.St) : wipe (wipe σ vs) vs = wipe σ vs := by
  have gen : ∀ (us vs : List Nat), (∀ i ∈ us, i ∈ vs) → ∀ σ : L2.St, wipe (wipe σ us) vs = wipe σ vs := by
    intro us
    induction us with
    | nil => intro vs _ σ; rfl
    | cons u t ih =>
      intro vs h σ
      show wipe ((wipe σ t).set u none) vs = _
      rw [wipe_set (h u List.mem_cons_self)]
      exact ih vs (fun i hi => h i (List.mem_cons_of_mem _ hi)) σ
  exact gen vs vs (fun _ h => h) σ
theorem wipe_setAll {vs : List Nat} : ∀ (l : List Nat) (ws : List V) (σ : L2.St), (∀ i ∈ l, i ∈ vs) → wipe (setAll σ l ws) vs = wipe σ vs
  | [], _, _, _ => by unfold setAll; rfl
  | i :: l, [], _, _ => by unfold setAll; rfl
  | i :: l, w :: ws, σ, h => by
    show wipe (setAll (σ.set i (some w)) l ws) vs = _
    rw [wipe_setAll l ws _ fun j hj => h j (List.mem_cons_of_mem _ hj), wipe_set (h i List.mem_cons_self)]
def wipeD (ρ : Env') : List Nat → Env'
  | [] => ρ
  | v :: vs => (wipeD ρ vs).set v none
theorem Sl.wipe {K : PySem.W.Frag} {B : Hp} {σ : L2.St} {ρ : Env'} (h : Sl K B σ ρ) : ∀ vs : List Nat, Sl K B (L2.wipe σ vs) (wipeD ρ vs)
  | [] => h
  | v :: vs => by
    have ih := Sl.wipe h vs
    refine ⟨by show ((wipeD ρ vs).set v none).length = ((L2.wipe σ vs).set v none).length; simp [ih.len], fun i d e => ?_⟩
    have e : ((wipeD ρ vs).set v none)[i]? = some (some d) := e
    show ∃ u, ((L2.wipe σ vs).set v none)[i]? = some (some u) ∧ _
    by_cases hv : v = i
    · subst hv
      by_cases hl : v < (wipeD ρ vs).length
      · rw [List.getElem?_set_self hl] at e; cases e
      · rw [List.getElem?_eq_none (by simpa using hl)] at e; cases e
    · rw [List.getElem?_set_ne hv] at e ⊢
      exact ih.at_ i d e
theorem Sl.setAll {K : PySem.W.Frag} {B : Hp} : ∀ (l : List Nat) {σ : L2.St} {ρ : Env'} {ds : List Dat} {vs : List V}, Sl K B σ ρ → RDs K B ds vs → Sl K B (DL.setAll σ l vs) (setAllD ρ l ds)
  | [], _, _, _, _, h, _ => by unfold DL.setAll setAllD; exact h
  | i :: l, _, _, _, _, h, .nil => h
  | i :: l, _, _, _, _, h, .cons r rs => Sl.setAll l (h.set r i) rs
theorem gAll_rd : ∀ (l : List Nat) {vs : List V} {σ : L2.St} {H : Hp} {Q : L2.St → Hp → Prop}, vs.length = l.length → Q (setAll σ l vs) H → gAll l vs σ H Q
  | [], [], _, _, _, _, h => ⟨rfl, h⟩
  | [], _ :: _, _, _, _, e, _ => by cases e
  | i :: l, [], _, _, _, e, _ => by cases e
  | i :: l, v :: vs, _, _, _, e, h => ⟨v, vs, rfl, gAll_rd l (by simpa using e) h⟩
/-- the block of a comprehension -/
def Sc.blk (S : Sc) (scope : Scope) : Sc := { S with sc := relS scope S.sc, fn := fun x => scope.names.lookup x == some .cell, Ex := fun _ _ _ => False }
theorem fits_blk {X : Cx} (fit : Fits S X) (s : Shared) (H : Hp) (scope : Scope) (C : Addr) (cl : List (Str × Addr)) (fp : List Addr) : Fits (S.blk scope) (X.blk s H scope (compEnvC scope cl C X.env) fp) :=
  ⟨fit.prog, fit.w, fit.K, fit.mg, fit.base, fit.N, by
    show relS scope X.env.scope = relS scope S.sc
    rw [fit.sc], fit.calm, fit.room, rfl, PassesOwn.never⟩
def noH : Hp := fun _ => none
theorem wish_no {X : Cx} (h : S.Ex = fun _ _ _ => False) (H0 : Hp) (M0 : Mem) (B0 : Hp) : Wish S X H0 M0 B0 := takes0.imp fun c d σ H z => by
  obtain ⟨_, _, _, _, _, _, q⟩ := z
  rw [h] at q
  exact q
/-- a target's rule -/
def PatOk (S : Sc) (p : Pat) (tg : Expr) : Prop := ∀ X, Fits S X → PG X tg (p.g S.K)
theorem pat_nm (i : Nat) {x : Str} {px : Pos} (hN : S.N.Nodup := by assumption) (hi : S.N[i]? = some x := by rfl) (hx : Loc S.sc x := by first | exact Or.inl rfl | exact Or.inr rfl) (hf : S.fn x = true ∨ S.sc.names.lookup x = some .local := by first | exact .inl rfl | exact .inr rfl) : PatOk S (.nm i) (.Name x px) := fun X fit =>
  pg_name (i := i) (by rw [fit.N]; exact hN) (by rw [fit.N]; exact hi) (fit.loc hx) (by rw [fit.fn, fit.sc]; exact hf)
def PatsOk (S : Sc) (l : List Nat) (ts : List Expr) : Prop := ∀ X, Fits S X → PGs X ts (gAll l)
theorem pats_nil : PatsOk S [] [] := fun X fit => pgs_nil
theorem pats_cons (i : Nat) {l : List Nat} {es : List Expr} {x : Str} {px : Pos} (h : PatsOk S l es) (hN : S.N.Nodup := by assumption) (hi : S.N[i]? = some x := by rfl) (hx : Loc S.sc x := by first | exact Or.inl rfl | exact Or.inr rfl) (hf : S.fn x = true ∨ S.sc.names.lookup x = some .local := by first | exact .inl rfl | exact .inr rfl)
    (hs : ∀ env, (assignEach (.Name x px :: es) env).map (·.2) = assign (.Name x px) env :: (assignEach es env).map (·.2) := by intro _; rfl) : PatsOk S (i :: l) (.Name x px :: es) := fun X fit => pgs_cons (pat_nm i hN hi hx hf X fit) (h X fit) (hs _)
theorem pat_tp {l : List Nat} {es : List Expr} {k : Nat} {px : Pos} (h : PatsOk S l es) (hn : ∀ env, (assignEach es env).length = l.length := by intro _; rfl) (hst : ∀ env, (assignEach es env).findIdx? (·.1) = none := by intro _; rfl) : PatOk S (.tp l) (.Tuple es k px) := fun X fit => by
  show PG X _ (gTup S.K l.length (gAll l))
  rw [← fit.K]
  exact pg_tup fit.calm (h X fit) (hn _) (hst _)
theorem pat_rd {p : Pat} {vs : List Nat} (hp : ∀ i ∈ p.slots, i ∈ vs) {ρ ρ2 : Env'} {d : Dat} {v : V} {σ : L2.St} {H B : Hp} {Qs : L2.St → Hp → Prop} (e : p.put (wipeD ρ vs) d = some ρ2) (sl : Sl S.K B σ ρ) (rp : Rp S.K H M B) (rd : RD S.K B d v)
    (h : ∀ σ2, L2.wipe σ2 vs = L2.wipe σ vs → Sl S.K B σ2 ρ2 → Qs σ2 H) : p.g S.K v (L2.wipe σ vs) H Qs := by
  have slw := sl.wipe vs
  cases p with
  | nm i =>
    cases e
    exact h _ (by rw [wipe_set (hp i List.mem_cons_self), wipe_wipe]) (slw.set rd i)
  | tp l =>
    cases d with
    | tup ds =>
      simp only [Pat.put] at e
      split at e
      · rename_i hl
        cases e
        obtain ⟨q, ws, rfl, h1, h2⟩ := rd.tupE
        refine ⟨q, ws, rfl, up_t rp.sub h1, by rw [← h2.length, hl], gAll_rd l (by rw [← h2.length, hl]) (h _ ?_ (Sl.setAll l slw h2))⟩
        rw [wipe_setAll l ws _ hp, wipe_wipe]
      · cases e
    | _ => cases e
/-- the tests of a comprehension: none, or one -/
def RIf (S : Sc) (ρ : Env') (M : Mem) : List Expr → (Bool → Mem → Prop) → Prop
  | [], T => T true M
  | [c], T => RT S ρ M c T
  | _, _ => False
def tIf' (S : Sc) : List Expr → TT
  | [] => tYes
  | c :: _ => tT S noH (fun _ => none) noH c
theorem rif_rd {ifs : List Expr} {T : Bool → Mem → Prop} (h : RIf S ρ M ifs T) {σ : L2.St} {H B : Hp} (sl : Sl S.K B σ ρ) (rp : Rp S.K H M B) {Qt : Bool → Hp → Prop} (k : ∀ b M1 H1 B1, Rp S.K H1 M1 B1 → Fr H M B H1 M1 B1 → T b M1 → Qt b H1) : tIf' S ifs σ H Qt := by
  cases ifs with
  | nil => exact k true M H B rp (Fr.refl _ _ _) h
  | cons c r =>
    cases r with
    | nil => exact ⟨ρ, M, B, T, sl, rp, Fr.noneH _ _ _ _ _, h, fun b H1 ⟨M1, B1, rp1, fr1, q⟩ => k b M1 H1 B1 rp1 fr1 q⟩
    | cons d r => exact (show False from h).elim
theorem pts_of {X : Cx} (fit : Fits S X) (hx : S.Ex = fun _ _ _ => False) : ∀ ifs : List Expr, ifs.length ≤ 1 → PTs X ifs (tIf' S ifs)
  | [], _ => pts_nil
  | [c], _ => pts_one (pt_of fit (wish_no hx _ _ _) c)
  | _ :: _ :: _, h => by simp at h
/-- what a comprehension has behind i turns -/
structure Cw (K : PySem.W.Frag) (H1 : Hp) (M1 : Mem) (B1 : Hp) (L : Addr) (J : List Dat → Mem → Prop) (H' : Hp) : Prop where
  ex : ∃ acc vac M' B', H' L = some (.lst vac) ∧ RDs K B' acc vac ∧ B' L = none ∧ M' L = none ∧ Rp K H' M' B' ∧ Fr H1 M1 B1 H' M' B' ∧ J acc M'
theorem Rp.writeX {K : PySem.W.Frag} {H B : Hp} {M : Mem} (r : Rp K H M B) {p : Addr} (hb : B p = none) (hm : M p = none) (o : HO) : Rp K (upd H p o) M B :=
  ⟨fun a u e => by rw [upd_ne (ne_of_none e hb)]; exact r.sub a u e, fun a m e => by
    obtain ⟨h1, h2⟩ := r.mem a m e
    exact ⟨h1, h2.up (Up.refl B) (upd_ne fun z => by subst z; rw [hm] at e; cases e)⟩⟩
theorem Fr.writeX {H H1 B B1 : Hp} {M M1 : Mem} (f : Fr H M B H1 M1 B1) {p : Addr} (h : H p = none) (o : HO) : Fr H M B (upd H1 p o) M1 B1 := ⟨fun a u e => by
  obtain ⟨o', q⟩ := f.there a u e
  exact ⟨o', by rw [upd_ne (ne_of_none e h)]; exact q⟩, fun a u e e' => by
  obtain ⟨h1, h2, h3⟩ := f.keep a u e e'
  exact ⟨by rw [upd_ne (ne_of_none e h)]; exact h1, h2, h3⟩⟩
/-- one turn behind the target -/
theorem cw_turn {elt : Expr} {ifs : List Expr} {H1 B1 : Hp} {M1 : Mem} {L : Addr} (hL : H1 L = none) {J : List Dat → Mem → Prop} {σ2 : L2.St} {ρ2 : Env'} {acc : List Dat} {vac : List V} {H' B' : Hp} {M' : Mem} (h1 : H' L = some (.lst vac)) (h2 : RDs S.K B' acc vac) (h3 : B' L = none) (h4 : M' L = none) (rp : Rp S.K H' M' B') (fr : Fr H1 M1 B1 H' M' B')
    (sl2 : Sl S.K B' σ2 ρ2) (hz : acc.length < 100000) (h : RIf S ρ2 M' ifs fun b M3 => (b = true → RE S ρ2 M3 elt fun d M4 => J (acc ++ [d]) M4) ∧ (b = false → J acc M3)) :
    tIf' S ifs σ2 H' fun b H3 => if b = true then (tE S noH (fun _ => none) noH elt) σ2 H3 fun y H4 => ∃ acc, H4 L = some (.lst acc) ∧ acc.length < sizeLine ∧ Cw S.K H1 M1 B1 L J (upd H4 L (.lst (acc ++ [y]))) else Cw S.K H1 M1 B1 L J H3 := by
  refine rif_rd h sl2 rp fun b M3 H3 B3 rp3 fr3 ⟨k1, k2⟩ => ?_
  obtain ⟨p1, p2, p3⟩ := fr3.keep L _ h1 h4
  cases b with
  | false => exact iteF ⟨acc, vac, M3, B3, p1, h2.up (fr3.up rp), p3.trans h3, p2, rp3, fr.trans fr3, k2 rfl⟩
  | true => exact iteT ⟨ρ2, M3, B3, _, sl2.up (fr3.up rp), rp3, Fr.noneH _ _ _ _ _, k1 rfl, fun y H4 ⟨d, M4, B4, rp4, fr4, rd4, q⟩ => by
      obtain ⟨s1, s2, s3⟩ := fr4.keep L _ p1 p2
      have hb : B4 L = none := (s3.trans p3).trans h3
      refine ⟨vac, s1, by rw [← h2.length]; exact Nat.lt_of_lt_of_le hz (by decide), acc ++ [d], vac ++ [y], M4, B4, upd_same, ((h2.up (fr3.up rp)).up (fr4.up rp3)).append (.cons rd4 .nil), hb, s2, rp4.writeX hb s2 _, ((fr.trans fr3).trans fr4).writeX hL _, q⟩⟩
theorem cw_end {H H1 B B1 : Hp} {M1 : Mem} {L : Addr} (hL : H1 L = none) (fr1 : Fr H M B H1 M1 B1) {T : List Dat → Mem → Prop} {H' : Hp} (h : Cw S.K H1 M1 B1 L T H') : PL' S H M B T (.ref L) H' := by
  obtain ⟨acc, vac, M', B', h1, h2, h3, h4, rp, fr, q⟩ := h.ex
  exact ⟨L, vac, acc, M', B', rfl, fr1.free hL, h4, h3, h1, rp, fr1.trans fr, h2, q⟩
/-- what a comprehension does -/
def LcP (S : Sc) (ρ : Env') (M : Mem) (elt tg iter : Expr) (ifs : List Expr) (scope : Scope) (T : List Dat → Mem → Prop) : Prop := ∀ X, Fits S X → ∀ H0 M0 B0, Wish S X H0 M0 B0 → ∃ (wi : TI) (g : TG) (tt : TT) (te : TE) (own : List (Str × Nat)), PI X tg iter wi ∧ BlkOk X.N X.env.scope scope own ∧
  (∀ (s : Shared) (H : Hp) (C : Addr) (cl : List (Str × Addr)) (fp : List Addr), PG (X.blk s H scope (compEnvC scope cl C X.env) fp) tg g) ∧ (∀ (s : Shared) (H : Hp) (C : Addr) (cl : List (Str × Addr)) (fp : List Addr), PTs (X.blk s H scope (compEnvC scope cl C X.env) fp) ifs tt) ∧
  (∀ (s : Shared) (H : Hp) (C : Addr) (cl : List (Str × Addr)) (fp : List Addr), PE (X.blk s H scope (compEnvC scope cl C X.env) fp) elt te) ∧ (∀ x, foldedSetIterable iter X.env x = pure x) ∧
  ∀ σ H B (Qv : VK), Sl S.K B σ ρ → Rp S.K H M B → Fr H0 M0 B0 H M B → (∀ v H', PL' S H M B T v H' → Qv v H') → tLc wi g tt te (own.map (·.2)) σ H Qv
theorem rl_lp {elt tg iter : Expr} {ifs : List Expr} {scope : Scope} {T : List Dat → Mem → Prop} (h : LcP S ρ M elt tg iter ifs scope T) (hN : S.N.Nodup) : RL S ρ M (.ListComp elt [⟨tg, iter, ifs, 0⟩] scope pos) T := rl_of fun X fit H0 M0 B0 w => by
  obtain ⟨wi, g, tt, te, own, h1, h2, h3, h4, h5, h6, h7⟩ := h X fit H0 M0 B0 w
  exact ⟨_, pe_lc fit.calm (by rw [fit.N]; exact hN) h1 h2 h3 h4 h5 h6, fun σ H B sl rp fr => h7 σ H B _ sl rp fr fun _ _ z => z⟩
/-- name = [..], swapped -/
theorem r1_lp (i : Nat) {y : Str} {py spos : Pos} {elt tg iter : Expr} {ifs : List Expr} {scope : Scope} {T : List Dat → Mem → Prop} (h : LcP S ρ M elt tg iter ifs scope T) (k : (∀ l M1, T l M1 → D.nx (ρ.set i (some (.lst l))) M1) ∨ (∀ l M1, T l M1 → ∀ p, M p = none → M1 p = none → D.nx (ρ.set i (some (.ref p))) (mup M1 p (.lst l))))
    (hN : S.N.Nodup) (hi : S.N[i]? = some y := by rfl) (hy : S.sc.names.lookup y = some .local := by rfl) (hk : S.sc.kind = .function := by rfl) (hl : (py.line == pos.line) = true := by rfl) (ha : (scope.names.any fun (n, k) => n == y && (k == .local || k == .cell)) = false := by rfl) : R1 S ρ M (.Assign [.Name y py] (.ListComp elt [⟨tg, iter, ifs, 0⟩] scope pos) spos) D := r1_of fun X fit H0 M0 B0 w => by
  obtain ⟨wi, g, tt, te, own, h1, h2, h3, h4, h5, h6, h7⟩ := h X fit H0 M0 B0 w
  refine ⟨_, ps_setLc (i := i) fit.calm (by rw [fit.N]; exact hN) (by rw [fit.N]; exact hi) (by rw [fit.sc]; exact hy) (sw_true (by rw [fit.sc]; exact hk) (by rw [fit.sc]; exact hy) hl ha) h1 h2 h3 h4 h5 h6, fun σ H B sl rp fr => h7 σ H B _ sl rp fr fun v H' ⟨p, vs, ds, M', B', e1, q1, q2, q3, q4, r1, r2, r3, t⟩ => ?_⟩
  subst e1
  rcases k with k | k
  · obtain ⟨r4, hu⟩ := r1.addB q4 q3 q2
    exact ⟨_, M', _, ((sl.up (r2.up rp)).up hu).set (.lst upd_same (r3.up hu)) i, r4, r2.addB q1, k _ _ t⟩
  · exact ⟨_, _, B', (sl.up (r2.up rp)).set (.ref p) i, r1.addM (m := .lst ds) q3 ⟨vs, q4, r3⟩, r2.addM q1, k _ _ t p (rp.mnone q1) q2⟩
/-- [elt for tg in iter if ..], over a list that stands -/
theorem lp_lc {elt tg iter : Expr} {ifs : List Expr} {scope : Scope} {own : List (Str × Nat)} (p : Pat) {T : List Dat → Mem → Prop} (ok : blkC S.N S.sc scope own = true) (hp : PatOk (S.blk scope) p tg)
    (h : RE S ρ M iter fun d M1 => ∃ ds, fzOf d = some ds ∧ ds.length ≤ 100000 ∧ ∃ I : Nat → List Dat → Mem → Prop, I 0 [] M1 ∧ (∀ i x acc M', ds[i]? = some x → acc.length ≤ i → I i acc M' → ∃ ρ2, p.put (wipeD ρ (own.map (·.2))) x = some ρ2 ∧
        RIf (S.blk scope) ρ2 M' ifs fun b M3 => (b = true → RE (S.blk scope) ρ2 M3 elt fun d M4 => I (i + 1) (acc ++ [d]) M4) ∧ (b = false → I (i + 1) acc M3)) ∧ (∀ acc M', acc.length ≤ ds.length → I ds.length acc M' → T acc M'))
    (hps : ∀ i ∈ p.slots, i ∈ own.map (·.2) := by decide) (hif : ifs.length ≤ 1 := by decide) (hs : ∀ env x, foldedSetIterable iter env x = pure x := by intro _ _; rfl) : LcP S ρ M elt tg iter ifs scope T :=
  fun X fit H0 M0 B0 w => ⟨_, p.g S.K, tIf' (S.blk scope) ifs, tE (S.blk scope) noH (fun _ => none) noH elt, own, pi_list (pe_of fit w iter), blkOk_by (by rw [fit.N, fit.sc]; exact ok), (fun s H C cl fp => hp _ (fits_blk fit s H scope C cl fp)),
      (fun s H C cl fp => pts_of (fits_blk fit s H scope C cl fp) rfl ifs hif), (fun s H C cl fp => pe_of (fits_blk fit s H scope C cl fp) (wish_no rfl _ _ _) elt), (hs _), fun σ H B Qv sl rp fr hq => ⟨ρ, M, B, _, sl, rp, fr, h, fun v H1 ⟨d, M1, B1, rp1, fr1, rd, ds, e, hl, I, i0, turn, fin⟩ => by
    obtain ⟨q, vs, rfl, hq', hv⟩ := fz_at e rd
    refine ⟨q, rfl, ⟨vs, fit.ks (up_l rp1.sub hq')⟩, fun L hL => lc_list (K := X.K) (xs := vs) (fun i H' => Cw S.K H1 M1 B1 L (fun acc M' => acc.length ≤ i ∧ I i acc M') H') ?_ ?_ ?_ ?_⟩
    · obtain ⟨r1, r2⟩ := rp1.extra hL (.lst [])
      exact ⟨[], [], M1, B1, upd_same, .nil, rp1.bnone hL, rp1.mnone hL, r1, r2, Nat.le_refl _, i0⟩
    · intro i H' _ z
      obtain ⟨acc, vac, M', B', h1, h2, h3, h4, rp', fr', q'⟩ := z.ex
      exact fit.ks (up_l rp'.sub (up_l (fr'.up rp1) hq'))
    · intro i x H' hx z
      obtain ⟨acc, vac, M', B', h1, h2, h3, h4, rp', fr', q1, q2⟩ := z.ex
      obtain ⟨dx, hdx, rdx⟩ := hv.getV hx
      obtain ⟨ρ2, e2, t2⟩ := turn i dx acc M' hdx q1 q2
      have hi : i < ds.length := (List.getElem?_eq_some_iff.mp hdx).1
      refine pat_rd (S := S) hps e2 ((sl.up (fr1.up rp)).up (fr'.up rp1)) rp' (rdx.up (fr'.up rp1)) fun σ2 hw sl2 => ⟨hw, ?_⟩
      have t3 : RIf (S.blk scope) ρ2 M' ifs fun b M3 => (b = true → RE (S.blk scope) ρ2 M3 elt fun d M4 => (acc ++ [d]).length ≤ i + 1 ∧ I (i + 1) (acc ++ [d]) M4) ∧ (b = false → acc.length ≤ i + 1 ∧ I (i + 1) acc M3) := by
        have conv : ∀ (b : Bool) (M3 : Mem), ((b = true → RE (S.blk scope) ρ2 M3 elt fun d M4 => I (i + 1) (acc ++ [d]) M4) ∧ (b = false → I (i + 1) acc M3)) → (b = true → RE (S.blk scope) ρ2 M3 elt fun d M4 => (acc ++ [d]).length ≤ i + 1 ∧ I (i + 1) (acc ++ [d]) M4) ∧ (b = false → acc.length ≤ i + 1 ∧ I (i + 1) acc M3) := fun b M3 ⟨k1, k2⟩ =>
          ⟨fun hb => (k1 hb).weak fun d M4 z => ⟨by rw [List.length_append, List.length_singleton]; omega, z⟩, fun hb => ⟨by omega, k2 hb⟩⟩
        cases ifs with
        | nil => exact conv true M' t2
        | cons c r =>
          cases r with
          | nil => exact fun X fit H0 M0 B0 w pins s σ H B I sl rp fr => thn (t2 X fit H0 M0 B0 w pins s σ H B I sl rp fr) fun _ _ z => TP_imp z fun b H' ⟨M1, B1, r1, r2, r3⟩ => ⟨M1, B1, r1, r2, conv b M1 r3⟩
          | cons _ _ => exact (show False from t2).elim
      exact cw_turn (S := S.blk scope) (ifs := ifs) (elt := elt) (J := fun acc M' => acc.length ≤ i + 1 ∧ I (i + 1) acc M') hL h1 h2 h3 h4 rp' fr' sl2 (by omega) t3
    · intro H' z
      obtain ⟨acc, vac, M', B', h1, h2, h3, h4, rp', fr', q1, q2⟩ := z.ex
      rw [← hv.length] at q1 q2
      exact hq _ _ <| cw_end hL fr1 ⟨acc, vac, M', B', h1, h2, h3, h4, rp', fr', fin acc M' q1 q2⟩⟩⟩
end
end DL
set_option Elab.async false
set_option linter.all false
set_option autoImplicit false
set_option maxRecDepth 100000
set_option maxHeartbeats 4000000
namespace DL
open PySem PySem.Spec PyProof.Rows L2
/-! ### equality -/
mutual
def pyD : Dat → PyData
  | .non => .none
  | .bl b => .bool b
  | .int i => .int i
  | .str x => .str x
  | .ref _ => .none
  | .tup l => .tuple (pyDs l)
  | .lst l => .list (pyDs l)
  | .frl l => .list (pyDs l)
def pyDs : List Dat → List PyData
  | [] => []
  | d :: l => pyD d :: pyDs l
end
/-- no objects within, at most n deep -/
def lv : Nat → Dat → Bool
  | 0, .non => true
  | 0, .bl _ => true
  | 0, .int _ => true
  | 0, .str x => PyData.strOk x
  | n + 1, .tup l => l.all (lv n)
  | n + 1, .lst l => l.all (lv n)
  | n + 1, .frl l => l.all (lv n)
  | n + 1, d => lv n d
  | _, _ => false
theorem lv_up : ∀ {n : Nat} {d : Dat}, lv n d = true → lv (n + 1) d = true := by
  intro n
  induction n with
  | zero => intro d h; cases d <;> first | exact h | cases h
  | succ n ih =>
    intro d h
    cases d with
    | tup l => exact List.all_eq_true.mpr fun x hx => ih (List.all_eq_true.mp h x hx)
    | lst l => exact List.all_eq_true.mpr fun x hx => ih (List.all_eq_true.mp h x hx)
    | frl l => exact List.all_eq_true.mpr fun x hx => ih (List.all_eq_true.mp h x hx)
    | _ => exact h
theorem lv_le {m n : Nat} (h : m ≤ n) {d : Dat} (e : lv m d = true) : lv n d = true := by
  induction h with
  | refl => exact e
  | step _ ih => exact lv_up ih
theorem lvs_lay {n : Nat} (ih : ∀ d, lv n d = true → (pyD d).canLay0 = true ∧ (pyD d).depth ≤ n) : ∀ l : List Dat, l.all (lv n) = true → PyData.canLayAll0 (pyDs l) = true ∧ PyData.depthAll (pyDs l) ≤ n
  | [], _ => ⟨rfl, Nat.zero_le _⟩
  | d :: l, h => by
    rw [List.all_cons, Bool.and_eq_true] at h
    obtain ⟨a, b⟩ := ih d h.1
    obtain ⟨a', b'⟩ := lvs_lay ih l h.2
    exact ⟨by show (_ && _) = true; rw [a, a']; rfl, by show max _ _ ≤ n; omega⟩
theorem lv_lay : ∀ (n : Nat) (d : Dat), lv n d = true → (pyD d).canLay0 = true ∧ (pyD d).depth ≤ n
  | 0, d, h => by
    cases d with
    | non => exact ⟨rfl, Nat.le_refl _⟩
    | bl _ => exact ⟨rfl, Nat.le_refl _⟩
    | int _ => exact ⟨rfl, Nat.le_refl _⟩
    | str x => exact ⟨h, Nat.le_refl _⟩
    | _ => cases h
  | n + 1, d, h => by
    have ih := lv_lay n
    cases d with
    | tup l => obtain ⟨a, b⟩ := lvs_lay ih l h; exact ⟨a, by show _ + 1 ≤ n + 1; omega⟩
    | lst l => obtain ⟨a, b⟩ := lvs_lay ih l h; exact ⟨a, by show _ + 1 ≤ n + 1; omega⟩
    | frl l => obtain ⟨a, b⟩ := lvs_lay ih l h; exact ⟨a, by show _ + 1 ≤ n + 1; omega⟩
    | non => exact ⟨rfl, Nat.zero_le _⟩
    | bl _ => exact ⟨rfl, Nat.zero_le _⟩
    | int _ => exact ⟨rfl, Nat.zero_le _⟩
    | str x =>
      obtain ⟨a, b⟩ := ih (.str x) h
      exact ⟨a, Nat.le_succ_of_le b⟩
    | ref a =>
      obtain ⟨a, b⟩ := ih (.ref a) h
      exact ⟨a, Nat.le_succ_of_le b⟩
theorem lv_shaped {n : Nat} (hn : n ≤ 64) {d : Dat} (h : lv n d = true) : SeqAt.shaped (pyD d) = true := by
  obtain ⟨a, b⟩ := lv_lay n d h
  unfold SeqAt.shaped
  rw [a, decide_eq_true (Nat.le_trans b hn)]
  rfl
theorem lv_ref : ∀ {n : Nat} {a : Addr}, lv n (.ref a) = true → False
  | 0, _, h => by cases h
  | n + 1, _, h => lv_ref (n := n) h
mutual
theorem rd_dp {K : PySem.W.Frag} {B : Hp} : ∀ {d : Dat} {v : V}, RD K B d v → ∀ n, lv n d = true → Dp K B v (pyD d)
  | _, _, .non, _, _ => .non
  | _, _, .bl b, _, _ => .bl b
  | _, _, .int i, _, _ => .int i
  | _, _, .str x, _, _ => .str x
  | _, _, .ref a, n, h => (lv_ref h).elim
  | _, _, .tup h hs, n, e => by
    cases n with
    | zero => cases e
    | succ n => exact .tup h (rds_dp hs n e)
  | _, _, .lst h hs, n, e => by
    cases n with
    | zero => cases e
    | succ n => exact .lst (.inl (.inl h)) (rds_dp hs n e)
  | _, _, .frl h hs, n, e => by
    cases n with
    | zero => cases e
    | succ n => exact .lst h (rds_dp hs n e)
theorem rds_dp {K : PySem.W.Frag} {B : Hp} : ∀ {d : List Dat} {v : List V}, RDs K B d v → ∀ n, d.all (lv n) = true → DpAll K B v (pyDs d)
  | _, _, .nil, _, _ => .nil
  | _, _, .cons h hs, n, e => by
    rw [List.all_cons, Bool.and_eq_true] at e
    exact .cons (rd_dp h n e.1) (rds_dp hs n e.2)
end
mutual
theorem dp_up {K : PySem.W.Frag} {B B' : Hp} (u : Up B B') : ∀ {v : V} {d : PyData}, Dp K B v d → Dp K B' v d
  | _, _, .non => .non
  | _, _, .bl b => .bl b
  | _, _, .int i => .int i
  | _, _, .str x => .str x
  | _, _, .lst h hs => .lst (up_l u h) (dps_up u hs)
  | _, _, .tup h hs => .tup (up_t u h) (dps_up u hs)
theorem dps_up {K : PySem.W.Frag} {B B' : Hp} (u : Up B B') : ∀ {v : List V} {d : List PyData}, DpAll K B v d → DpAll K B' v d
  | _, _, .nil => .nil
  | _, _, .cons h hs => .cons (dp_up u h) (dps_up u hs)
end
/-- equality as Python has it (True is 1) -/
def eqD (x y : Dat) : Bool := PyData.eqv (pyD x) (pyD y)
/-- a value's datum, a list of the memory as it stands -/
def vOf (M : Mem) : Dat → Dat
  | .ref p => match M p with
    | some (.lst l) => .lst l
    | _ => .ref p
  | d => d
theorem vOf_ref {M : Mem} {p : Addr} {l : List Dat} (h : M p = some (.lst l)) : vOf M (.ref p) = .lst l := by simp only [vOf, h]
section
variable {S : Sc} {ρ : Env'} {M : Mem} {Q : DK} {a b c : Expr} {pos : Pos} {D : DE}
theorem vOf_dp {H B : Hp} (rp : Rp S.K H M B) {d : Dat} {v : V} (r : RD S.K B d v) {n : Nat} (h : lv n (vOf M d) = true) : Dp S.K H v (pyD (vOf M d)) := by
  cases d with
  | ref p =>
    cases r
    cases e : M p with
    | none => simp only [vOf, e] at h; exact (lv_ref h).elim
    | some m =>
      cases m with
      | lst l =>
        simp only [vOf, e] at h ⊢
        obtain ⟨_, vs, e1, e2⟩ := rp.mem p _ e
        cases n with
        | zero => cases h
        | succ n => exact .lst (.inl (.inl e1)) (dps_up rp.sub (rds_dp e2 n h))
      | dT _ => simp only [vOf, e] at h; exact (lv_ref h).elim
      | ins _ _ => simp only [vOf, e] at h; exact (lv_ref h).elim
  | non => cases r; exact Dp.non
  | bl _ => cases r; exact Dp.bl _
  | int _ => cases r; exact Dp.int _
  | str _ => cases r; exact Dp.str _
  | tup _ => exact dp_up rp.sub (rd_dp r n h)
  | lst _ => exact dp_up rp.sub (rd_dp r n h)
  | frl _ => exact dp_up rp.sub (rd_dp r n h)
/-- == and != -/
def OkEq (M : Mem) (x y : Dat) : Prop := lv 20 (vOf M x) = true ∧ lv 20 (vOf M y) = true
theorem re_eq (h : RE S ρ M a fun x M1 => RE S ρ M1 b fun y M2 => OkEq M2 x y ∧ Q (.bl (eqD (vOf M2 x) (vOf M2 y))) M2) : RE S ρ M (.Compare a [.Eq] [b] pos) Q :=
  re_of fun X fit H0 M0 B0 w => ⟨_, pe_cmpR (op_eqD fit.un) (pe_of fit w a) (pe_of fit w b) (nomark _), fun σ H B sl rp fr => bin_rd (X := X) sl rp fr h fun x y M2 H2 B2 vx vy rp2 fr2 rx ry ⟨⟨h1, h2⟩, k⟩ => by
    have d1 := vOf_dp rp2 rx h1
    have d2 := vOf_dp rp2 ry h2
    rw [← fit.K] at d1 d2
    exact ⟨_, _, d1, d2, lv_shaped (by decide) h1, lv_shaped (by decide) h2, (PE'.done rp2 (.bl _) k).go fr2⟩⟩
theorem re_ne (h : RE S ρ M a fun x M1 => RE S ρ M1 b fun y M2 => OkEq M2 x y ∧ Q (.bl (!eqD (vOf M2 x) (vOf M2 y))) M2) : RE S ρ M (.Compare a [.NotEq] [b] pos) Q :=
  re_of fun X fit H0 M0 B0 w => ⟨_, pe_cmpR (op_neD fit.un) (pe_of fit w a) (pe_of fit w b) (nomark _), fun σ H B sl rp fr => bin_rd (X := X) sl rp fr h fun x y M2 H2 B2 vx vy rp2 fr2 rx ry ⟨⟨h1, h2⟩, k⟩ => by
    have d1 := vOf_dp rp2 rx h1
    have d2 := vOf_dp rp2 ry h2
    rw [← fit.K] at d1 d2
    exact ⟨_, _, d1, d2, lv_shaped (by decide) h1, lv_shaped (by decide) h2, (PE'.done rp2 (.bl _) k).go fr2⟩⟩
theorem rt_eq {T : Bool → Mem → Prop} (h : RE S ρ M a fun x M1 => RE S ρ M1 b fun y M2 => OkEq M2 x y ∧ T (eqD (vOf M2 x) (vOf M2 y)) M2) : RT S ρ M (.Compare a [.Eq] [b] pos) T :=
  rt_of fun X fit H0 M0 B0 w => ⟨_, pt_cmpR (op_eqD fit.un) (pe_of fit w a) (pe_of fit w b) (nomark _), fun σ H B sl rp fr => bin_rd (X := X) sl rp fr h fun x y M2 H2 B2 vx vy rp2 fr2 rx ry ⟨⟨h1, h2⟩, k⟩ => by
    have d1 := vOf_dp rp2 rx h1
    have d2 := vOf_dp rp2 ry h2
    rw [← fit.K] at d1 d2
    exact ⟨_, _, d1, d2, lv_shaped (by decide) h1, lv_shaped (by decide) h2, _, rfl, M2, B2, rp2, fr2, k⟩⟩
theorem rt_ne {T : Bool → Mem → Prop} (h : RE S ρ M a fun x M1 => RE S ρ M1 b fun y M2 => OkEq M2 x y ∧ T (!eqD (vOf M2 x) (vOf M2 y)) M2) : RT S ρ M (.Compare a [.NotEq] [b] pos) T :=
  rt_of fun X fit H0 M0 B0 w => ⟨_, pt_cmpR (op_neD fit.un) (pe_of fit w a) (pe_of fit w b) (nomark _), fun σ H B sl rp fr => bin_rd (X := X) sl rp fr h fun x y M2 H2 B2 vx vy rp2 fr2 rx ry ⟨⟨h1, h2⟩, k⟩ => by
    have d1 := vOf_dp rp2 rx h1
    have d2 := vOf_dp rp2 ry h2
    rw [← fit.K] at d1 d2
    exact ⟨_, _, d1, d2, lv_shaped (by decide) h1, lv_shaped (by decide) h2, _, rfl, M2, B2, rp2, fr2, k⟩⟩
/-! ### x in a list or tuple of flat things -/
def flatD : Dat → Bool
  | .non => true
  | .bl _ => true
  | .int _ => true
  | .str _ => true
  | _ => false
theorem flat_rd {K : PySem.W.Frag} {B : Hp} {d : Dat} {v : V} (h : flatD d = true) (r : RD K B d v) : flatV v = true := by
  cases r <;> first | rfl | cases h
theorem flats_rd {K : PySem.W.Frag} {B : Hp} : ∀ {ds : List Dat} {vs : List V}, ds.all flatD = true → RDs K B ds vs → vs.all flatV = true
  | _, _, _, .nil => rfl
  | _, _, h, .cons r rs => by
    rw [List.all_cons, Bool.and_eq_true] at h
    rw [List.all_cons, flat_rd h.1 r, flats_rd h.2 rs] <;> rfl
def eqF : Dat → Dat → Bool
  | .non, .non => true
  | .bl a, .bl b => a == b
  | .bl a, .int j => (if a then 1 else 0) == j
  | .int i, .bl b => i == (if b then 1 else 0)
  | .int i, .int j => i == j
  | .str x, .str y => x == y
  | _, _ => false
theorem eqF_rd {K : PySem.W.Frag} {B : Hp} {d e : Dat} {v u : V} (hd : flatD d = true) (he : flatD e = true) (r : RD K B d v) (q : RD K B e u) : eqV v u = eqF d e := by
  cases r <;> first | (cases q <;> first | rfl | cases he) | cases hd
def inD (x : Dat) (xs : List Dat) : Bool := xs.any fun y => eqF y x
theorem inD_rd {K : PySem.W.Frag} {B : Hp} {d : Dat} {v : V} (hd : flatD d = true) (r : RD K B d v) : ∀ {ds : List Dat} {vs : List V}, ds.all flatD = true → RDs K B ds vs → inV v vs = inD d ds
  | _, _, _, .nil => rfl
  | _, _, h, .cons q qs => by
    rw [List.all_cons, Bool.and_eq_true] at h
    have ih := inD_rd hd r h.2 qs
    unfold inV inD at ih ⊢
    rw [List.any_cons, List.any_cons, eqF_rd h.1 hd q r, ih]
def OkIn (M : Mem) (x y : Dat) (l : List Dat) : Prop := sqOf M y = some l ∧ flatD x = true ∧ l.all flatD = true
theorem in_rd {H B : Hp} (rp : Rp S.K H M B) {X : Cx} (fit : Fits S X) {x y : Dat} {vx vy : V} (rx : RD S.K B x vx) (ry : RD S.K B y vy) {l : List Dat} (ok : OkIn M x y l) (neg : Bool) {Qv : VK} (h : Qv (.bl (if neg then !inD x l else inD x l)) H) : rIn X.K neg vx vy H Qv := by
  obtain ⟨h1, h2, h3⟩ := ok
  obtain ⟨p, vs, rfl, hq, hs⟩ := sqOf_at rp h1 ry
  refine ⟨p, vs, rfl, ?_, flat_rd h2 rx, flats_rd h3 hs, ?_⟩
  · rcases hq with hq | hq
    · exact .inl (fit.ks hq)
    · exact .inr (fit.kt hq)
  · rw [inD_rd h2 rx h3 hs]
    exact h
theorem re_in (h : RE S ρ M a fun x M1 => RE S ρ M1 b fun y M2 => ∃ l, OkIn M2 x y l ∧ Q (.bl (inD x l)) M2) (hm : behindInMarks .In b = false := by rfl) : RE S ρ M (.Compare a [.In] [b] pos) Q :=
  re_of fun X fit H0 M0 B0 w => ⟨_, pe_cmpR op_in_seq (pe_of fit w a) (pe_of fit w b) hm, fun σ H B sl rp fr => bin_rd (X := X) sl rp fr h fun x y M2 H2 B2 vx vy rp2 fr2 rx ry ⟨l, ok, k⟩ => in_rd rp2 fit rx ry ok false ((PE'.done rp2 (.bl _) k).go fr2)⟩
theorem re_nin (h : RE S ρ M a fun x M1 => RE S ρ M1 b fun y M2 => ∃ l, OkIn M2 x y l ∧ Q (.bl (!inD x l)) M2) (hm : behindInMarks .NotIn b = false := by rfl) : RE S ρ M (.Compare a [.NotIn] [b] pos) Q :=
  re_of fun X fit H0 M0 B0 w => ⟨_, pe_cmpR op_notIn_seq (pe_of fit w a) (pe_of fit w b) hm, fun σ H B sl rp fr => bin_rd (X := X) sl rp fr h fun x y M2 H2 B2 vx vy rp2 fr2 rx ry ⟨l, ok, k⟩ => in_rd rp2 fit rx ry ok true ((PE'.done rp2 (.bl _) k).go fr2)⟩
theorem rt_in {T : Bool → Mem → Prop} (h : RE S ρ M a fun x M1 => RE S ρ M1 b fun y M2 => ∃ l, OkIn M2 x y l ∧ T (inD x l) M2) (hm : behindInMarks .In b = false := by rfl) : RT S ρ M (.Compare a [.In] [b] pos) T :=
  rt_of fun X fit H0 M0 B0 w => ⟨_, pt_cmpR op_in_seq (pe_of fit w a) (pe_of fit w b) hm, fun σ H B sl rp fr => bin_rd (X := X) sl rp fr h fun x y M2 H2 B2 vx vy rp2 fr2 rx ry ⟨l, ok, k⟩ => in_rd rp2 fit rx ry ok false ⟨_, rfl, M2, B2, rp2, fr2, k⟩⟩
theorem rt_nin {T : Bool → Mem → Prop} (h : RE S ρ M a fun x M1 => RE S ρ M1 b fun y M2 => ∃ l, OkIn M2 x y l ∧ T (!inD x l) M2) (hm : behindInMarks .NotIn b = false := by rfl) : RT S ρ M (.Compare a [.NotIn] [b] pos) T :=
  rt_of fun X fit H0 M0 B0 w => ⟨_, pt_cmpR op_notIn_seq (pe_of fit w a) (pe_of fit w b) hm, fun σ H B sl rp fr => bin_rd (X := X) sl rp fr h fun x y M2 H2 B2 vx vy rp2 fr2 rx ry ⟨l, ok, k⟩ => in_rd rp2 fit rx ry ok true ⟨_, rfl, M2, B2, rp2, fr2, k⟩⟩
/-! ### isinstance -/
def tyN (M : Mem) : Dat → Option String
  | .non => some "NoneType"
  | .bl _ => some "bool"
  | .int _ => some "int"
  | .str _ => some "str"
  | .tup _ => some "tuple"
  | .lst _ => some "list"
  | .frl _ => some "list"
  | .ref p => match M p with
    | some (.lst _) => some "list"
    | _ => none
theorem tyN_rd {H B : Hp} (rp : Rp S.K H M B) {d : Dat} {v : V} (r : RD S.K B d v) {t : String} (h : tyN M d = some t) : TyX S.K H v (.type t) := by
  cases d with
  | non => cases r; cases h; exact .base .non
  | bl _ => cases r; cases h; exact .base (.bl _)
  | int _ => cases r; cases h; exact .base (.int _)
  | str _ => cases r; cases h; exact .base (.str _)
  | tup l =>
    cases h
    obtain ⟨p, vs, rfl, hq, _⟩ := r.tupE
    rcases hq with (hq | ⟨o, hq⟩) | ⟨o, its, n, hk, hc, _⟩
    · exact .base (.tup (rp.sub _ _ hq))
    · exact .fTuple (rp.sub _ _ hq)
    · exact .kTuple hk hc
  | lst l =>
    cases h
    obtain ⟨p, vs, rfl, hq, _⟩ := r.lstE
    exact .base (.lst (rp.sub _ _ hq))
  | frl l =>
    cases h
    cases r with
    | frl hq _ =>
      rcases hq with (hq | ⟨o, hq⟩) | ⟨o, its, n, hk, hc, _⟩
      · exact .base (.lst (rp.sub _ _ hq))
      · exact .base (.frz (rp.sub _ _ hq))
      · exact .kList hk hc
  | ref p =>
    cases r
    cases e : M p with
    | none => simp only [tyN, e] at h; cases h
    | some m =>
      cases m with
      | lst l =>
        simp only [tyN, e] at h
        cases h
        obtain ⟨_, vs, e1, _⟩ := rp.mem p _ e
        exact .base (.lst e1)
      | dT _ => simp only [tyN, e] at h; cases h
      | ins _ _ => simp only [tyN, e] at h; cases h
theorem re_isi (G : BI S.mg) {x : Str} (T : String) {p p2 : Pos} (h : RE S ρ M a fun x M1 => ∃ t, tyN M1 x = some t ∧ ∃ k, kitB t T = some k ∧ Q (.bl k) M1) (hx : x ∈ bis := by decide +kernel) (hb : bootBuiltins x = some (.type T) := by decide +kernel)
    (hg : GlN S "isinstance" := by rfl) (hg2 : GlN S x := by rfl) (hn : x ≠ "__name__" := by decide) (hd : (x == ("__debug__" : Str)) = false := by decide) (hs : ∀ env, starEach [a, .Name x p2] env = (false, eval a env) :: starEach [.Name x p2] env := by intro _; rfl) :
    RE S ρ M (.Call (.Name "isinstance" p) [a, .Name x p2] [] pos) Q :=
  re_of fun X fit H0 M0 B0 w => ⟨_, pe_callB call_isi (fit.gl hg) (fit.bi G (by decide +kernel)) (by decide +kernel) (pa_cons (pe_of fit w a) (pa_cons (pe_bltn (v := .ty T) (fit.gl hg2) (fit.bi G hx) hb rfl hn hd) pa_nil rfl) (hs _)) (he := hs _), fun σ H B sl rp fr => ⟨ρ, M, B, _, sl, rp, fr, h, fun v H1 ⟨x, M1, B1, rp1, fr1, rx, t, e, k, e2, q⟩ => by
    have ty := tyN_rd rp1 rx e
    rw [← fit.K] at ty
    exact ⟨v, .ty T, .type t, .type T, k, rfl, .ty T, ty, kit_ty e2, (PE'.done rp1 (.bl _) q).go fr1⟩⟩⟩
/-! ### a written table with text keys, asked by get -/
structure KTab (K : PySem.W.Frag) (w : World) (mg : Str → Option Value) (x : Str) (tab : List (Str × Int)) : Prop where
  ex : ∃ d es n, mg x = some (.ref d) ∧ KDict K w d es n ∧ ∀ z : Str, ∃ r, PySem.W.nsIn K d z = some r ∧ (∀ i, tab.lookup z = some i → ∃ t, r = some (.int i t)) ∧ (tab.lookup z = none → r = none)
theorem re_kget {x : Str} {tab : List (Str × Int)} (T : KTab S.K S.w S.mg x tab) {p0 apos : Pos} (h : RE S ρ M a fun y M1 => RE S ρ M1 b fun z M2 => ∃ k j, y = .str k ∧ z = .int j ∧ Q (.int ((tab.lookup k).getD j)) M2)
    (hg : GlN S x := by rfl) (hd : (x == ("__debug__" : Str)) = false := by decide)
    (hbase : ∀ env, attributeBase (.Name x p0) "get" env (eval (.Name x p0) env) = eval (.Name x p0) env := by intro _; rfl)
    (hfew : ∀ env, ((backTo pos (starEach [a, b] env)).all (fun x => !x.1) && (backToKw pos (keywordEach [] env)).all (fun x => x.1.isSome) && decide (([a, b] : List Expr).length + ([] : List Keyword).length + (if ([] : List Keyword).isEmpty then 0 else 1) < 30)) = true := by intro _; rfl)
    (hline : (apos.endLine == pos.line) = true := by rfl) (htr : ∀ env, backTo pos (starEach [a, b] env) = [(false, eval a env), (false, eval b env)] := by intro _; rfl) :
    RE S ρ M (.Call (.Attribute (.Name x p0) "get" apos) [a, b] [] pos) Q := fun X fit H0 M0 B0 w pins s σ H B I sl rp fr => by
  obtain ⟨d, es, n, hm, D, look⟩ := T.ex
  refine wpAny_Call_method (hbase _) (hfew _) hline PySem.F.plainAttrs_dict PySem.F.slot_dict_get PySem.F.type_dict_get (ld_glob I (fit.gl hg) (by rw [fit.mg]; exact hm) ?_ hd)
  have D' : KDict X.K X.w d es n := by rw [fit.K, fit.w]; exact D
  refine ⟨kd_type D' I, fun c e => ?_, ?_⟩
  · cases e
    exact ⟨_, I.kIn _ _ D'.at_, rfl⟩
  rw [htr]
  refine Calls.callWith_builtin rfl (Calls.evalArgs_plain (Calls.spliced_cons (thn (h X fit H0 M0 B0 w pins s σ H B I sl rp fr) fun iv s2 ⟨y, H2, I2, ry, dy, M2, B2, rp2, fr2, rdy, h2⟩ =>
    Calls.spliced_cons (thn (h2 X fit H0 M0 B0 w pins s2 σ H2 B2 I2 (sl.up (fr2.up rp)) rp2 (fr.trans fr2)) fun fv s3 ⟨z, H3, I3, rz, dz, M3, B3, rp3, fr3, rdz, k, j, e1, e2, q⟩ => Calls.spliced_nil ?_))))
  subst e1 e2
  cases rdy; cases rdz
  obtain ⟨tk, rfl⟩ := ry
  obtain ⟨tj, rfl⟩ := rz
  obtain ⟨r, l1, l2, l3⟩ := look k
  have l1' : PySem.W.nsIn X.K d k = some r := by rw [fit.K]; exact l1
  refine call_meetsIn PySem.F.slot_dict_get (kd_type D' I3) PySem.F.entry_dict_get (PySem.F.args_dict_get_3 _ _ _) (meets_dict_get_default (strKind X.prog X.w) d (strKind_is X.prog X.w k tk) D'.low (.int j tj)) ⟨_, PySem.W.mapOf_K I3.kIn D'.at_ D'.lit, ?_⟩
  rw [PySem.W.find_K D'.at_ l1']
  refine ⟨.int ((tab.lookup k).getD j), H3, I3.tok _, ?_, _, M3, B3, rp3, fr2.trans fr3, .int _, q⟩
  cases e : tab.lookup k with
  | none =>
    rw [l3 e]
    exact ⟨tj, rfl⟩
  | some i =>
    obtain ⟨t, e3⟩ := l2 i e
    rw [e3]
    exact ⟨t, rfl⟩
end
/-- .. from the head's facts -/
theorem find_absent {P : Params} {z : Str} : ∀ {l : List DictEntry} {ks : List Str}, l.map He.keyOf = He.keysIn P ks → z ∉ ks → l.find? (·.key.isStr z) = none ∧ l.any (·.refKey) = false
  | [], _, _, _ => ⟨rfl, rfl⟩
  | e :: r, [], h, _ => by cases h
  | e :: r, k :: ks, h, hz => by
    have h1 : He.keyOf e :: r.map He.keyOf = some (k, PyData.keyHash P k) :: He.keysIn P ks := h
    injection h1 with h2 h3
    obtain ⟨i1, i2⟩ := find_absent h3 (fun q => hz (List.mem_cons_of_mem _ q))
    unfold He.keyOf at h2
    split at h2
    · rename_i x t q
      have h4 := Option.some.inj h2
      obtain ⟨h5, h6⟩ := Prod.mk.inj h4
      subst h5
      have hne : ¬ x = z := fun c => hz (by rw [← c]; exact List.mem_cons_self)
      have hb : (Value.str x t).isStr z = false := by
        rw [PySem.W.isStr_of]
        cases hc : Value.isStrOf z (Value.str x t) with
        | false => rfl
        | true =>
          obtain ⟨t', e'⟩ := Value.isStrOf_shape (x := z) (v := Value.str x t) hc
          cases e'
          exact absurd rfl hne
      refine ⟨?_, ?_⟩
      · rw [List.find?_cons, q, hb]
        exact i1
      · rw [List.any_cons, i2, Bool.or_false]
        unfold DictEntry.refKey
        rw [q]
    · cases h2
end DL
set_option Elab.async false
set_option linter.all false
set_option autoImplicit false
set_option maxRecDepth 100000
set_option maxHeartbeats 4000000
namespace DL
open PySem PySem.Spec PyProof.Rows L2
/-! ### set(xs) of a list of numbers -/
section
variable {P : Program} {w : World} {A : Around} {E : Value → Shared → Prop} {s : Shared}
abbrev nso (w : World) : Obj := { cls := .type "set", dict := none, data := .set #[] 0 (.fresh 0 0 (!w.params.followText "set-order")) }
theorem set_of_list {L : Addr} {xs : Array Value} (ns : List Int) {Q : Value → Shared → Prop} (hA : A.handled = none) (hL : s.heap.IsList L xs) (hI : IntsAre xs.toList ns) (hB : ns.length + 1 < scanBound)
    (h : ∀ (h' : Heap) (tk c : Nat), SetR w h' s.heap.objs.size (fun j => decide (j ∈ ns)) c → c ≤ ns.length → (∀ b o, s.heap.get? b = some o → h'.get? b = some o) → Q (.ref s.heap.objs.size) { s with heap := h', toks := tk }) : wpAny (model P w) A (call (.type "set") [.ref L]) Q E s := by
  have lenX : xs.size = ns.length := by have z := IntsAre.length hI; rw [Array.length_toList] at z; exact z
  obtain ⟨m1, m2, hm⟩ := F.called_set.mro
  have g1 := F.called_set.made; have g2 := F.called_set.sub
  refine wpAny_call (codeAny_of_tree ?_); show wpAny _ _ (callAny (.type "set") _) _ _ _
  refine wpAny_pure ⟨Code.quiet_builtin _ (by decide +kernel), codeAny_builtin F.entry_type_call ?_⟩; rw [Around.under_plain (weight_type_call_type "set" [.ref L] []) rfl]
  have g3 := F.called_set.notType; have g4 := F.called_set.canCreate; have g5 := F.typeCall_set_1 (.ref L)
  repeat (any_goals (first | assumption | wp_step))
  refine codeAny_mono (code_set_led1 (.ref L) (E := E) (Q₁ := fun y s₁ => y = .ref s.heap.objs.size ∧ s₁ = { s with heap := s.heap.push (nso w) }) ⟨rfl, rfl⟩) fun r s₁ hr => ?_
  cases r with
  | error e => exact hr
  | ok fl =>
    cases fl with
    | ret y =>
      obtain ⟨rfl, rfl⟩ := hr
      have hN : (s.heap.push (nso w)).get? s.heap.objs.size = some (nso w) := Heap.get?_push_size _ rfl
      have hT : Shared.TypeIs { s with heap := s.heap.push (nso w) } (.ref s.heap.objs.size) "set" := ⟨_, hN, rfl⟩
      have i1 := F.called_set.init.lookup; have i2 := F.called_set.init.bind (.ref s.heap.objs.size)
      repeat (any_goals (first | assumption | wp_step))
      refine codeAny_mono (codeAny_call_builtin (R := wants (fun r s₂ => r = .none ∧ ∃ h' tk c, s₂ = { s with heap := h', toks := tk } ∧ SetR w h' s.heap.objs.size (fun j => decide (j ∈ ns)) c ∧ c ≤ ns.length ∧ (∀ b o, s.heap.get? b = some o → h'.get? b = some o)) E)
        F.called_set.init.plain F.entry_set_init (check_set_init_1 hT ?_)) fun r₂ s₂ hr₂ => ?_
      · obtain ⟨⟨o1, o2, o3, o4⟩, hoL, hc, nl, hd⟩ := hL
        simp only at hc hd; subst hc; subst hd
        have hoL' : (s.heap.push (nso w)).get? L = some { cls := .type "list", dict := o2, data := .seq xs nl, slots := o4 } := Heap.get?_push_of_some _ hoL
        have j1 := F.sub_list_set; have j2 := F.sub_list_frozenset
        have j3 : (Value.type "list" == Value.type "dict") = false := by decide
        have hL1 : (s.heap.push (nso w)).IsList L xs := ⟨_, hoL', rfl, nl, rfl⟩
        unfold Builtin.«set.__init__» noKeywords Builtin.Frozenset.updateFrom
        generalize hPI : pyIter = PI; wp_walk; subst hPI
        refine wpAny_pyIter_list hL1 ?_; refine wpAny_bind (wpAny_runValue ?_)
        have ltL : L < s.heap.objs.size := Heap.lt_size hoL
        have hA3 : A.in1.in1.in1.handled = none := by simp [hA]
        have neL : L ≠ (s.heap.push (nso w)).objs.size := by rw [Heap.size_push]; exact Nat.ne_of_lt (Nat.lt_succ_of_lt ltL)
        have hout : s.heap.objs.size ∉ [(s.heap.push (nso w)).objs.size, L] := by
          rw [Heap.size_push]; simp only [List.mem_cons, List.mem_singleton, List.not_mem_nil, or_false, not_or]; exact ⟨Nat.ne_of_lt (Nat.lt_succ_self _), Nat.ne_of_gt ltL⟩
        have hv : ∀ (i : Nat) (v : Value), xs[i]? = some v → ∃ k t, ns[i]? = some k ∧ v = .int k t := fun i v hx => by
          have hi : i < ns.length := by rw [← lenX]; exact (Array.getElem?_eq_some_iff.mp hx).1
          obtain ⟨t, e⟩ := PyProof.Rows.IntsAre.int_at hI i v (by rw [Array.getElem?_toList]; exact hx)
          exact ⟨ns[i], t, List.getElem?_eq_getElem hi, by rw [e, List.getD_eq_getElem?_getD, List.getElem?_eq_getElem hi] <;> rfl⟩
        refine set_update_ints ((Walks.list hA3 _ L neL xs).toS) s.heap.objs.size hout ns lenX hB hv (xs.size - 0) 0 _ (by omega) (Nat.zero_le _) ⟨⟨_, Heap.get?_push_size _ rfl, rfl, rfl⟩, (hL1.push _)⟩ ?seed ?fin9
        case seed =>
          have hg : ((s.heap.push (nso w)).push { cls := .type "list_iterator", data := .fields #[.ref L, .int 0 0] }).get? s.heap.objs.size = some (nso w) := Heap.get?_push_of_some _ hN
          exact ⟨0, Nat.le_refl 0, setR_new_at hg⟩
        case fin9 =>
          intro s' c' hm hc' hS'
          obtain ⟨h', g', d', tk', os'⟩ := s'
          have eg : g' = s.gens := hm.gens; have ed : d' = s.drawn := hm.drawn; have eo : os' = s.os := hm.os
          subst eg; subst ed; subst eo
          show wpAny _ _ _ _ _ _
          refine wpAny_pure ?_; show wpAny _ _ (ret Value.none) _ _ _
          rw [lenX] at hc'
          refine wpAny_pure ⟨rfl, h', tk', c', rfl, hS', hc', fun b o e => ?_⟩
          have b0 : b < s.heap.objs.size := Heap.lt_size e
          have b2 : b ≠ (s.heap.push (nso w)).objs.size := by rw [Heap.size_push]; exact Nat.ne_of_lt (Nat.lt_succ_of_lt b0)
          exact hm.heap b o (by simp only [List.mem_cons, List.mem_singleton, List.not_mem_nil, or_false, not_or]; exact ⟨Nat.ne_of_lt b0, b2⟩) (Heap.get?_push_of_some _ (Heap.get?_push_of_some _ e))
      · cases r₂ with
        | error e => exact hr₂
        | ok f2 =>
          cases f2 with
          | ret r =>
            obtain ⟨rfl, h', tk, c', rfl, hS', hc', hk'⟩ := hr₂
            repeat (any_goals (first | assumption | wp_step))
            exact h _ _ _ hS' hc' hk'
          | _ => exact hr₂.elim
    | _ => exact hr.elim
end
/-- set(xs) of a list of numbers -/
def rSetL (K : PySem.W.Frag) (w : World) : List V → Hp → VK → Prop := fun vs H Q => ∃ (a : Addr) (ns : List Int), vs = [V.ref a] ∧ SqL K H a (ns.map V.int) ∧ ns.length ≤ 1000 ∧ ∀ p c, (∀ l : List Int, l.Nodup → (∀ k, k ∈ l ↔ k ∈ ns) → c = l.length) → H p = none → Q (.ref p) (upd H p (SetO w p (fun j => decide (j ∈ ns)) c))
theorem cr_setL {X : Cx} (hc : X.calm = true) : CallR X (.type "set") (rSetL X.K X.w) := by
  intro pins s σ H vs us Q I r h
  obtain ⟨a, ns, rfl, hs, hl, q⟩ := h
  obtain ⟨its, rv, pl, hz⟩ := I.list hs
  rw [Vals.ref1 r]
  have hd := I.ok.hd hc
  refine set_of_list ns hd pl.isList (by have z := rv.ints; simpa using z) (by unfold scanBound; omega) fun h' tk c R1 hcn k => ?_
  refine ⟨.ref _, upd H s.heap.objs.size (SetO X.w s.heap.objs.size (fun j => decide (j ∈ ns)) c), I.laid (t' := tk) k (Nat.le_refl _) (setO_new R1), rfl, q _ c (fun l nd hl => ?_) (I.hok.fresh (Nat.le_refl _))⟩
  obtain ⟨o, es, ep, t, ho, hex, hdt, g, nd2, hm2, hb, hf, hn, hr, hl2⟩ := R1
  have hp : (es.toList.map L2.keyOf).Perm l := (List.perm_ext_iff_of_nodup nd2 nd).mpr fun z => by rw [← hm2 z, decide_eq_true_eq, hl z]
  have := hp.length_eq
  rw [List.length_map, Array.length_toList, hn] at this
  exact this
end DL
set_option Elab.async false
set_option linter.all false
set_option autoImplicit false
set_option maxRecDepth 100000
set_option maxHeartbeats 4000000
namespace DL
open PySem PySem.Spec PyProof.Rows L2
/-- rising, each once -/
def isSet (ns ms : List Int) : Prop := ms.Pairwise (· < ·) ∧ ∀ k, k ∈ ms ↔ k ∈ ns
section
variable {S : Sc} {ρ : Env'} {M : Mem} {Q : DK} {a b c : Expr} {pos : Pos} {D : DE}
/-- sorted(set(xs)), numbers, fewer than 64 -/
theorem rl_sset (G : BI S.mg) {p p2 pos2 : Pos} {T : List Dat → Mem → Prop} (h : RE S ρ M a fun x M1 => ∃ ns m, lqOf M1 x = some (ns.map Dat.int) ∧ ns.length ≤ 1000 ∧ List.Nodup m ∧ (∀ k, k ∈ m ↔ k ∈ ns) ∧ m.length < 64 ∧ ∀ ms, isSet ns ms → T (ms.map Dat.int) M1) (hg : GlN S "sorted" := by rfl) (hg2 : GlN S "set" := by rfl)
    (hs : ∀ env, starEach [a] env = (false, eval a env) :: starEach [] env := by intro _; rfl)
    (hs2 : ∀ env, starEach [.Call (.Name "set" p2) [a] [] pos2] env = (false, eval (.Call (.Name "set" p2) [a] [] pos2) env) :: starEach [] env := by intro _; rfl) : RL S ρ M (.Call (.Name "sorted" p) [.Call (.Name "set" p2) [a] [] pos2] [] pos) T :=
  rl_of fun X fit H0 M0 B0 w => ⟨_, pe_callB (cr_sortedSet fit.calm) (fit.gl hg) (fit.bi G (by decide +kernel)) (by decide +kernel) (pa_cons (pe_callTy (cr_setL fit.calm) (fit.gl hg2) (fit.bi G (by decide +kernel)) (by decide +kernel) (pa_cons (pe_of fit w a) pa_nil (hs _)) (he := hs _)) pa_nil (hs2 _)) (he := hs2 _), fun σ H B sl rp fr =>
    ⟨ρ, M, B, _, sl, rp, fr, h, fun v H1 ⟨x, M1, B1, rp1, fr1, rx, ns, m, e, hl, m1, m2, m3, k⟩ => by
      obtain ⟨p, vs, rfl, hq, hv⟩ := lqOf_at rp1 e rx
      rw [hv.ints] at hq
      refine ⟨p, ns, rfl, fit.ks hq, hl, fun t c hct ht => ?_⟩
      obtain ⟨r1, f1⟩ := rp1.extra ht (SetO X.w t (fun j => decide (j ∈ ns)) c)
      refine ⟨t, _, c, rfl, upd_same, by rw [hct m m1 m2]; exact m3, fun ms p' hp hm _ hp' => PL'.new r1 (fr1.trans f1) hp' (rds_ints ms) (k ms ⟨hp, fun j => ?_⟩)⟩
      rw [hm j, decide_eq_true_eq]⟩⟩
/-- sorted(xs), numbers -/
theorem rl_sortI (G : BI S.mg) {p : Pos} {T : List Dat → Mem → Prop} (h : RE S ρ M a fun x M1 => ∃ ns, lqOf M1 x = some (ns.map Dat.int) ∧ ∀ ms : List Int, ms.Perm ns → ms.Pairwise (· ≤ ·) → T (ms.map Dat.int) M1) (hg : GlN S "sorted" := by rfl)
    (hs : ∀ env, starEach [a] env = (false, eval a env) :: starEach [] env := by intro _; rfl) : RL S ρ M (.Call (.Name "sorted" p) [a] [] pos) T :=
  rl_of fun X fit H0 M0 B0 w => ⟨_, pe_callB cr_sortedI (fit.gl hg) (fit.bi G (by decide +kernel)) (by decide +kernel) (pa_cons (pe_of fit w a) pa_nil (hs _)) (he := hs _), fun σ H B sl rp fr =>
    ⟨ρ, M, B, _, sl, rp, fr, h, fun v H1 ⟨x, M1, B1, rp1, fr1, rx, ns, e, k⟩ => by
      obtain ⟨p, vs, rfl, hq, hv⟩ := lqOf_at rp1 e rx
      rw [hv.ints] at hq
      exact ⟨p, ns, rfl, fit.ks hq, fun ms p' hp hm hp' => PL'.new rp1 fr1 hp' (rds_ints ms) (k ms hp hm)⟩⟩⟩
end
/-! ### the table of sizes, from the head's facts -/
end DL
set_option Elab.async false
set_option linter.all false
set_option autoImplicit false
set_option maxRecDepth 100000
set_option maxHeartbeats 4000000
namespace DL
open PySem PySem.Spec PyProof.Rows L2
section
variable {S : Sc} {ρ : Env'} {M : Mem} {Q : DK} {a b c : Expr} {pos : Pos} {D : DE}
theorem rif_conv {ρ2 : Env'} {M' : Mem} {ifs : List Expr} {Ta Tb : Bool → Mem → Prop} (h : RIf S ρ2 M' ifs Ta) (k : ∀ b M3, Ta b M3 → Tb b M3) : RIf S ρ2 M' ifs Tb := by
  cases ifs with
  | nil => exact k _ _ h
  | cons c r =>
    cases r with
    | nil => exact fun X fit H0 M0 B0 w pins s σ H B I sl rp fr => thn (h X fit H0 M0 B0 w pins s σ H B I sl rp fr) fun _ _ z => TP_imp z fun b H' ⟨M1, B1, r1, r2, r3⟩ => ⟨M1, B1, r1, r2, k b M1 r3⟩
    | cons _ _ => exact (show False from h).elim
/-- the turns of a comprehension over numbers lo, lo + 1, .. -/
theorem lcR_rd {elt tg : Expr} {ifs : List Expr} {scope : Scope} {own : List (Str × Nat)} {p : Pat} {T : List Dat → Mem → Prop} {lo n : Int} {H H1 B B1 : Hp} {M1 : Mem} {σ : L2.St} (hn : (n - lo).toNat ≤ 100000) (sl : Sl S.K B1 σ ρ) (rp1 : Rp S.K H1 M1 B1) (fr1 : Fr H M B H1 M1 B1)
    {I : Nat → List Dat → Mem → Prop} (i0 : I 0 [] M1) (turn : ∀ (i : Nat) acc M', lo + (i : Int) < n → acc.length ≤ i → I i acc M' → ∃ ρ2, p.put (wipeD ρ (own.map (·.2))) (.int (lo + i)) = some ρ2 ∧
        RIf (S.blk scope) ρ2 M' ifs fun b M3 => (b = true → RE (S.blk scope) ρ2 M3 elt fun d M4 => I (i + 1) (acc ++ [d]) M4) ∧ (b = false → I (i + 1) acc M3)) (fin : ∀ acc M', acc.length ≤ (n - lo).toNat → I (n - lo).toNat acc M' → T acc M')
    (hps : ∀ i ∈ p.slots, i ∈ own.map (·.2)) {L : Addr} (hL : H1 L = none) {Qd : Hp → Prop} (hq : ∀ Hx, PL' S H M B T (.ref L) Hx → Qd Hx) :
    ∃ W : Nat → Nat → Hp → Prop, (∃ m, W 0 m (upd H1 L (.lst []))) ∧ ∀ i m Hx, W i m Hx →
      ((Itr lo (n - lo).toNat).stop i Hx ∧ Qd Hx) ∨ ((Itr lo (n - lo).toNat).go i Hx ∧ ∃ Nx : Hp → Prop, (∀ H', Nx H' → ∃ m', m' < m ∧ W (i + 1) m' H') ∧ ∀ x H', (Itr lo (n - lo).toNat).yld i Hx x H' →
        (p.g S.K) x (L2.wipe σ (own.map (·.2))) H' fun σ2 H2 => L2.wipe σ2 (own.map (·.2)) = L2.wipe σ (own.map (·.2)) ∧ tIf' (S.blk scope) ifs σ2 H2 fun b H3 =>
        if b = true then (tE (S.blk scope) noH (fun _ => none) noH elt) σ2 H3 fun y H4 => ∃ acc, H4 L = some (.lst acc) ∧ acc.length < sizeLine ∧ Nx (upd H4 L (.lst (acc ++ [y]))) else Nx H3) := by
  refine lc_range (fun i H' => Cw S.K H1 M1 B1 L (fun acc M' => acc.length ≤ i ∧ I i acc M') H') ?_ ?_ ?_
  · obtain ⟨r1, r2⟩ := rp1.extra hL (.lst [])
    exact ⟨[], [], M1, B1, upd_same, .nil, rp1.bnone hL, rp1.mnone hL, r1, r2, Nat.le_refl _, i0⟩
  · intro i H' hi z
    obtain ⟨acc, vac, M', B', h1, h2, h3, h4, rp', fr', q1, q2⟩ := z.ex
    obtain ⟨ρ2, e2, t2⟩ := turn i acc M' (by omega) q1 q2
    refine pat_rd (S := S) hps e2 (sl.up (fr'.up rp1)) rp' (.int _) fun σ2 hw sl2 => ⟨hw, ?_⟩
    exact cw_turn (S := S.blk scope) (ifs := ifs) (elt := elt) (J := fun acc M' => acc.length ≤ i + 1 ∧ I (i + 1) acc M') hL h1 h2 h3 h4 rp' fr' sl2 (by omega) (rif_conv t2 fun b M3 ⟨k1, k2⟩ =>
      ⟨fun hb => (k1 hb).weak fun d M4 z => ⟨by rw [List.length_append, List.length_singleton]; omega, z⟩, fun hb => ⟨by omega, k2 hb⟩⟩)
  · intro H' z
    obtain ⟨acc, vac, M', B', h1, h2, h3, h4, rp', fr', q1, q2⟩ := z.ex
    exact hq _ <| cw_end hL fr1 ⟨acc, vac, M', B', h1, h2, h3, h4, rp', fr', fin acc M' q1 q2⟩
theorem lp_lcR1 {elt tg : Expr} {ifs : List Expr} {scope : Scope} {own : List (Str × Nat)} {p1 pos1 : Pos} (p : Pat) {T : List Dat → Mem → Prop} (G : BI S.mg) (ok : blkC S.N S.sc scope own = true) (hp : PatOk (S.blk scope) p tg)
    (h : RE S ρ M a fun d M1 => ∃ n : Int, d = .int n ∧ n ≤ 100000 ∧ -(2 ^ 62) ≤ n ∧ ∃ I : Nat → List Dat → Mem → Prop, I 0 [] M1 ∧ (∀ (i : Nat) acc M', (0:Int) + (i : Int) < n → acc.length ≤ i → I i acc M' → ∃ ρ2, p.put (wipeD ρ (own.map (·.2))) (.int (0 + i)) = some ρ2 ∧
        RIf (S.blk scope) ρ2 M' ifs fun b M3 => (b = true → RE (S.blk scope) ρ2 M3 elt fun d M4 => I (i + 1) (acc ++ [d]) M4) ∧ (b = false → I (i + 1) acc M3)) ∧ (∀ acc M', acc.length ≤ (n - 0).toNat → I (n - 0).toNat acc M' → T acc M'))
    (hps : ∀ i ∈ p.slots, i ∈ own.map (·.2) := by decide) (hif : ifs.length ≤ 1 := by decide) (hg : GlN S "range" := by rfl) (hs1 : ∀ env, starEach [a] env = (false, eval a env) :: starEach [] env := by intro _; rfl)
    (hs : ∀ env x, foldedSetIterable (.Call (.Name "range" p1) [a] [] pos1) env x = pure x := by intro _ _; rfl) : LcP S ρ M elt tg (.Call (.Name "range" p1) [a] [] pos1) ifs scope T :=
  fun X fit H0 M0 B0 w => ⟨_, p.g S.K, tIf' (S.blk scope) ifs, tE (S.blk scope) noH (fun _ => none) noH elt, own, (pi_range1 (fit.gl hg) (fit.bi G (by decide +kernel)) (pa_cons (pe_of fit w a) pa_nil (hs1 _)) (hs1 _)), blkOk_by (by rw [fit.N, fit.sc]; exact ok), (fun s H C cl fp => hp _ (fits_blk fit s H scope C cl fp)),
      (fun s H C cl fp => pts_of (fits_blk fit s H scope C cl fp) rfl ifs hif), (fun s H C cl fp => pe_of (fits_blk fit s H scope C cl fp) (wish_no rfl _ _ _) elt), (hs _), fun σ H B Qv sl rp fr hq => ⟨ρ, M, B, _, sl, rp, fr, h, fun v H1 ⟨d, M1, B1, rp1, fr1, rd, n, e, hn, hn2, I, i0, turn, fin⟩ => by
    subst e; cases rd
    refine ⟨n, rfl, hn2, by omega, fun L hL => ?_⟩
    have q := lcR_rd (elt := elt) (tg := tg) (lo := 0) (n := n) (S := S) (by omega) (sl.up (fr1.up rp)) rp1 fr1 i0 turn fin hps hL (fun _ z => hq _ _ z)
    rw [Int.sub_zero] at q
    exact q⟩⟩
theorem lp_lcR2 {elt tg : Expr} {ifs : List Expr} {scope : Scope} {own : List (Str × Nat)} {p1 pos1 : Pos} (p : Pat) {T : List Dat → Mem → Prop} (G : BI S.mg) (ok : blkC S.N S.sc scope own = true) (hp : PatOk (S.blk scope) p tg)
    (h : RE S ρ M a fun d0 M0 => RE S ρ M0 b fun d M1 => ∃ lo n : Int, d0 = .int lo ∧ d = .int n ∧ n - lo ≤ 100000 ∧ (-(2 ^ 62) ≤ lo ∧ lo < 2 ^ 62 ∧ -(2 ^ 62) ≤ n ∧ n < 2 ^ 62) ∧ ∃ I : Nat → List Dat → Mem → Prop, I 0 [] M1 ∧ (∀ (i : Nat) acc M', lo + (i : Int) < n → acc.length ≤ i → I i acc M' → ∃ ρ2, p.put (wipeD ρ (own.map (·.2))) (.int (lo + i)) = some ρ2 ∧
        RIf (S.blk scope) ρ2 M' ifs fun b M3 => (b = true → RE (S.blk scope) ρ2 M3 elt fun d M4 => I (i + 1) (acc ++ [d]) M4) ∧ (b = false → I (i + 1) acc M3)) ∧ (∀ acc M', acc.length ≤ (n - lo).toNat → I (n - lo).toNat acc M' → T acc M'))
    (hps : ∀ i ∈ p.slots, i ∈ own.map (·.2) := by decide) (hif : ifs.length ≤ 1 := by decide) (hg : GlN S "range" := by rfl) (hs1 : ∀ env, starEach [a, b] env = (false, eval a env) :: starEach [b] env := by intro _; rfl) (hs2 : ∀ env, starEach [b] env = (false, eval b env) :: starEach [] env := by intro _; rfl)
    (hs : ∀ env x, foldedSetIterable (.Call (.Name "range" p1) [a, b] [] pos1) env x = pure x := by intro _ _; rfl) : LcP S ρ M elt tg (.Call (.Name "range" p1) [a, b] [] pos1) ifs scope T :=
  fun X fit H0 M0 B0 w => ⟨_, p.g S.K, tIf' (S.blk scope) ifs, tE (S.blk scope) noH (fun _ => none) noH elt, own, (pi_range2 (fit.gl hg) (fit.bi G (by decide +kernel)) (pa_cons (pe_of fit w a) (pa_cons (pe_of fit w b) pa_nil (hs2 _)) (hs1 _)) (by rw [hs1, hs2]; rfl) (by rw [hs2]; rfl)), blkOk_by (by rw [fit.N, fit.sc]; exact ok), (fun s H C cl fp => hp _ (fits_blk fit s H scope C cl fp)),
      (fun s H C cl fp => pts_of (fits_blk fit s H scope C cl fp) rfl ifs hif), (fun s H C cl fp => pe_of (fits_blk fit s H scope C cl fp) (wish_no rfl _ _ _) elt), (hs _), fun σ H B Qv sl rp fr hq => ⟨ρ, M, B, _, sl, rp, fr, h, fun v H1 ⟨d0, M1, B1, rp1, fr1, rd0, h1⟩ => ⟨ρ, M1, B1, _, sl.up (fr1.up rp), rp1, fr.trans fr1, h1, fun u H2 ⟨d, M2, B2, rp2, fr2, rd, lo, n, e0, e, hn, hn2, I, i0, turn, fin⟩ => by
    subst e e0; cases rd; cases rd0
    exact ⟨lo, n, rfl, hn2, fun L hL => lcR_rd (elt := elt) (tg := tg) (lo := lo) (n := n) (S := S) (by omega) ((sl.up (fr1.up rp)).up (fr2.up rp1)) rp2 (fr1.trans fr2) i0 turn fin hps hL (fun _ z => hq _ _ z)⟩⟩⟩⟩
end
end DL
set_option Elab.async false
set_option linter.all false
set_option autoImplicit false
set_option maxRecDepth 100000
set_option maxHeartbeats 4000000
namespace DL
open PySem PySem.Spec PyProof.Rows L2
section
variable {S : Sc} {ρ : Env'} {M : Mem} {Q : DK} {a b c : Expr} {pos : Pos} {D : DE}
/-- a new list that stands, as an end -/
theorem PE'.newL {H H1 B B1 : Hp} {M1 : Mem} (rp1 : Rp S.K H1 M1 B1) (fr1 : Fr H M B H1 M1 B1) {p : Addr} (hp : H1 p = none) {vs : List V} {ds : List Dat} (rd : RDs S.K B1 ds vs) (k : Q (.lst ds) M1) : PE' S H M B Q (.ref p) (upd H1 p (.lst vs)) := by
  obtain ⟨r1, r2, r3⟩ := rp1.newB hp (.lst vs)
  exact ⟨_, M1, _, r1, fr1.trans r2, .lst upd_same (rd.up r3), k⟩
/-- a + b of numbers, texts, tuples, lists -/
def wPlus (Q : DK) (x y : Dat) (M : Mem) : Prop := (∃ i j, x = .int i ∧ y = .int j ∧ Q (.int (i + j)) M) ∨ (∃ i j, x = .str i ∧ y = .str j ∧ i.length + j.length ≤ sizeLine ∧ Q (.str (i ++ j)) M) ∨
  (∃ i j, x = .tup i ∧ y = .tup j ∧ i.length + j.length ≤ 100000 ∧ Q (.tup (i ++ j)) M) ∨ (∃ i j, lsOf M x = some i ∧ lsOf M y = some j ∧ i.length + j.length ≤ 100000 ∧ Q (.lst (i ++ j)) M)
theorem re_plus (h : RE S ρ M a fun x M1 => RE S ρ M1 b fun y M2 => wPlus Q x y M2) : RE S ρ M (.BinOp a .Add b pos) Q :=
  re_of fun X fit H0 M0 B0 w => ⟨_, pe_op (op_add.or (op_add_str.or (op_catA.or op_cat))) (pe_of fit w a) (pe_of fit w b), fun σ H B sl rp fr => bin_rd (X := X) sl rp fr h fun x y M2 H2 B2 vx vy rp2 fr2 rx ry k => by
    rcases k with ⟨i, j, e1, e2, k⟩ | ⟨i, j, e1, e2, hl, k⟩ | ⟨i, j, e1, e2, hl, k⟩ | ⟨i, j, e1, e2, hl, k⟩
    · subst e1 e2; cases rx; cases ry
      exact .inl ⟨i, j, rfl, rfl, (PE'.done rp2 (.int _) k).go fr2⟩
    · subst e1 e2; cases rx; cases ry
      exact .inr (.inl ⟨i, j, rfl, rfl, hl, (PE'.done rp2 (.str _) k).go fr2⟩)
    · subst e1 e2
      obtain ⟨p, vs, rfl, h1, h2⟩ := rx.tupE
      obtain ⟨q, ws, rfl, h3, h4⟩ := ry.tupE
      refine .inr (.inr (.inl ⟨p, q, vs, ws, rfl, rfl, fit.kt (up_t rp2.sub h1), fit.kt (up_t rp2.sub h3), by rw [← h2.length, ← h4.length]; exact Nat.le_trans hl (by decide), ?_, ?_, ?_⟩))
      · intro e
        subst e
        cases h2
        exact (PE'.done rp2 (.tup h3 h4) k).go fr2
      · intro _ e
        subst e
        cases h4
        rw [List.append_nil] at k
        exact (PE'.done rp2 (.tup h1 h2) k).go fr2
      · intro _ _ t ht
        obtain ⟨r1, r2, r3⟩ := rp2.newB ht (.tup (vs ++ ws))
        exact PE'.go (S := S) fr2 ⟨_, M2, _, r1, r2, .tup (.inl (.inl upd_same)) ((h2.append h4).up r3), k⟩
    · obtain ⟨p, vs, rfl, h1, h2⟩ := lsOf_at rp2 e1 rx
      obtain ⟨q, ws, rfl, h3, h4⟩ := lsOf_at rp2 e2 ry
      exact .inr (.inr (.inr ⟨p, q, vs, ws, rfl, rfl, h1, h3, by rw [← h2.length, ← h4.length]; exact Nat.le_trans hl (by decide), fun t ht => PE'.newL rp2 fr2 ht (h2.append h4) k⟩))⟩
/-- a * b of numbers, a list and a number -/
def wTimes (Q : DK) (x y : Dat) (M : Mem) : Prop := (∃ i j, x = .int i ∧ y = .int j ∧ CMul i j ∧ Q (.int (i * j)) M) ∨ (∃ l k, lsOf M x = some l ∧ y = .int k ∧ -(2 ^ 63) ≤ k ∧ k < 2 ^ 63 ∧ l.length * k.toNat ≤ 100000 ∧ Q (.lst (List.replicate k.toNat l).flatten) M)
theorem RDs.rep {K : PySem.W.Frag} {B : Hp} {ds : List Dat} {vs : List V} (h : RDs K B ds vs) : ∀ n : Nat, RDs K B (List.replicate n ds).flatten (List.replicate n vs).flatten
  | 0 => .nil
  | n + 1 => by
    rw [List.replicate_succ, List.replicate_succ, List.flatten_cons, List.flatten_cons]
    exact h.append (RDs.rep h n)
theorem re_times (h : RE S ρ M a fun x M1 => RE S ρ M1 b fun y M2 => wTimes Q x y M2) : RE S ρ M (.BinOp a .Mult b pos) Q :=
  re_of fun X fit H0 M0 B0 w => ⟨_, pe_op (op_mul.or op_rep) (pe_of fit w a) (pe_of fit w b), fun σ H B sl rp fr => bin_rd (X := X) sl rp fr h fun x y M2 H2 B2 vx vy rp2 fr2 rx ry k => by
    rcases k with ⟨i, j, e1, e2, hc, k⟩ | ⟨l, n, e1, e2, h1, h2, hl, k⟩
    · subst e1 e2; cases rx; cases ry
      exact .inl ⟨i, j, rfl, rfl, hc, (PE'.done rp2 (.int _) k).go fr2⟩
    · subst e2; cases ry
      obtain ⟨p, vs, rfl, h3, h4⟩ := lsOf_at rp2 e1 rx
      exact .inr ⟨p, n, vs, rfl, rfl, h3, h1, h2, by rw [← h4.length]; exact Nat.le_trans hl (by decide), fun t ht => PE'.newL rp2 fr2 ht (h4.rep _) k⟩⟩
/-- is None, as a test -/
theorem rt_isN {T : Bool → Mem → Prop} (h : RE S ρ M a fun x M1 => T (match x with | .non => true | _ => false) M1) {j : Nat} {p2 : Pos} : RT S ρ M (.Compare a [.Is] [.Constant .none j p2] pos) T :=
  rt_of fun X fit H0 M0 B0 w => ⟨_, pt_cmp (pc_isN (pe_of fit w a)), fun σ H B sl rp fr => ⟨ρ, M, B, _, sl, rp, fr, h, fun v H1 ⟨d, M1, B1, rp1, fr1, rd, q⟩ => by
    cases rd <;> exact ⟨_, rfl, M1, B1, rp1, fr1, q⟩⟩⟩
theorem rt_notN {T : Bool → Mem → Prop} (h : RE S ρ M a fun x M1 => T (match x with | .non => false | _ => true) M1) {j : Nat} {p2 : Pos} : RT S ρ M (.Compare a [.IsNot] [.Constant .none j p2] pos) T :=
  rt_of fun X fit H0 M0 B0 w => ⟨_, pt_cmp (pc_notN (pe_of fit w a)), fun σ H B sl rp fr => ⟨ρ, M, B, _, sl, rp, fr, h, fun v H1 ⟨d, M1, B1, rp1, fr1, rd, q⟩ => by
    cases rd <;> exact ⟨_, rfl, M1, B1, rp1, fr1, q⟩⟩⟩
/-- a slice of a list or tuple; it stands -/
theorem re_sli {lo hi : Option Expr} {p2 : Pos} (h : RE S ρ M a fun x M1 => RO S ρ M1 lo fun l M2 => RO S ρ M2 hi fun u M3 => (∃ ds, x = .tup ds ∧ Q (.tup (cutD ds l u)) M3) ∨ ∃ ds, lqOf M3 x = some ds ∧ Q (.lst (cutD ds l u)) M3) : RE S ρ M (.Subscript a (.Slice lo hi none p2) pos) Q :=
  re_of fun X fit H0 M0 B0 w => ⟨_, pe_slice (sl_tupA.or sl_list) (pe_of fit w a) (po_of fit w lo) (po_of fit w hi), fun σ H B sl rp fr => ⟨ρ, M, B, _, sl, rp, fr, h, fun v H1 ⟨x, M1, B1, rp1, fr1, rx, h1⟩ =>
    ro_rd h1 (sl.up (fr1.up rp)) rp1 (fr.trans fr1) fun l M2 H2 B2 rp2 fr2 h2 => ro_rd h2 ((sl.up (fr1.up rp)).up (fr2.up rp1)) rp2 ((fr.trans fr1).trans fr2) fun u M3 H3 B3 rp3 fr3 z => by
      have f3 := (fr1.trans fr2).trans fr3
      rcases z with ⟨ds, e1, k⟩ | ⟨ds, e1, k⟩
      · subst e1
        obtain ⟨p, vs, rfl, hq, hs⟩ := ((rx.up (fr2.up rp1)).up (fr3.up rp2)).tupE
        refine .inl ⟨p, vs, rfl, fit.kt (up_t rp3.sub hq), fun hw => ?_, fun _ t ht => ?_⟩
        · have e : cutD ds l u = ds := by
            unfold cutD
            rw [hs.length, hw.1, hw.2, List.drop_zero, Nat.sub_zero, ← hs.length, List.take_length]
          rw [e] at k
          exact (PE'.done rp3 (.tup hq hs) k).go f3
        · obtain ⟨r1, r2, r3⟩ := rp3.newB ht (.tup (cutV vs l u))
          exact PE'.go (S := S) f3 ⟨_, M3, _, r1, r2, .tup (.inl (.inl upd_same)) ((cutD_rd hs l u).up r3), k⟩
      · obtain ⟨p, vs, rfl, hq, hs⟩ := lqOf_at rp3 e1 ((rx.up (fr2.up rp1)).up (fr3.up rp2))
        exact .inr ⟨p, vs, rfl, fit.ks hq, fun t ht => PE'.newL rp3 f3 ht (cutD_rd hs l u) k⟩⟩⟩
end
section
variable {P : Program} {w : World} {K : PySem.W.Frag} {mg : Str → Option Value} {base : Heap}
/-- THE RULE for a def, with memory forgotten at its end -/
theorem def_ok' {x qual : Str} {params : Arguments} {body : List Stmt} {scope : Scope} {f : Addr} {fd : FuncData} {N ps : List Str} {k : Nat} {T : DSp} (F : FunD K x qual params body scope [] [] f fd) (hm : mg x = some (.ref f)) (hb : Binds K fd ps []) (S : FnScope N ps scope)
    (len : ∀ ds M Q E, T ds M Q E → ds.length = ps.length)
    (mono : ∀ ds M (Q Q' : DK) (E E' : Value → List (Str × Dat) → Mem → Prop), (∀ d M', Q d M' → Q' d M') → (∀ c f M', E c f M' → E' c f M') → T ds M Q E → T ds M Q' E')
    (run : N.Nodup → ∀ ds M (Q : DK) (E : Value → List (Str × Dat) → Mem → Prop), T ds M Q E → RS (mkS P w K mg base N scope k fun c fs M' => ∃ M'', (∀ a m, M'' a = some m → M' a = some m) ∧ E c fs M'') (startD N ds) M body
      ⟨fun _ M' => ∃ M'', (∀ a m, M'' a = some m → M' a = some m) ∧ Q .non M'', fun d M' => ∃ M'', (∀ a m, M'' a = some m → M' a = some m) ∧ Q d M'', fun _ _ => False, fun _ _ => False⟩) :
    DefOk P w K mg base x (k + 1) T := by
  refine ⟨⟨f, fd, ps, F.ok S (fun vs H Q E ⟨ds, M, B, rd, rp, h⟩ => rd.length.symm.trans (len _ _ _ _ h)) (fun cdv A outer s H vs Q E hr ⟨ds, M, B, rd, rp, h⟩ => ?_), hm, F.kp, hb⟩, mono⟩
  have hrun := run S.nd ds M _ _ h
  refine ⟨tS' _ H M B body, pss_of ⟨rfl, rfl, rfl, rfl, rfl, rfl, rfl, rfl, hr, rfl, passes_of rfl⟩ ((takes_of (E := E) rfl rfl rfl rfl).imp fun cls d σ H' z => ?_) body, ⟨_, M, B, _, startD_sl rd, rp, Fr.refl _ _ _, hrun, fun σ' H' z => ?_, fun v H' z => ?_, fun σ' H' z => ?_, fun σ' H' z => ?_⟩⟩
  · obtain ⟨M', B', fs, r1, r2, r3, M2, hs, r4⟩ := z
    exact r4 d H' B' (r1.drop hs) (r2.drop hs) r3
  · obtain ⟨ρ', M', B', r1, r2, r3, M2, hs, r4⟩ := z
    exact r4 .non H' B' (r2.drop hs) (r3.drop hs) .non
  · obtain ⟨d, M', B', r1, r2, r3, M2, hs, r4⟩ := z
    exact r4 v H' B' (r1.drop hs) (r2.drop hs) r3
  · obtain ⟨ρ', M', B', r1, r2, r3, r4⟩ := z
    exact r4.elim
  · obtain ⟨ρ', M', B', r1, r2, r3, r4⟩ := z
    exact r4.elim
end
end DL
set_option Elab.async false
set_option linter.all false
set_option autoImplicit false
set_option maxRecDepth 100000
set_option maxHeartbeats 4000000
/-! Programs as plain functions: what changes is owned by a slot; a def is a function of its arguments. -/
namespace FL
open PySem PySem.Spec PyProof.Rows L2 DL
/-- a slot: nothing known, a value that stands, a list that the slot alone owns -/
inductive Sv where
  | no | v (d : Dat) | own (l : List Dat)
abbrev En := List Sv
/-- an expression's value: a datum, or the list of a slot -/
inductive Vv where
  | d (x : Dat) | sl (i : Nat)
inductive O (α : Type) where
  | ok (a : α) (e : En) | ex (c : Str) (fs : List (Str × Dat)) (e : En) | no
def O.bind {α β : Type} (r : O α) (k : α → En → O β) : O β := match r with
  | .ok a e => k a e
  | .ex c fs e => .ex c fs e
  | .no => .no
theorem O.bind_ok {α β : Type} (a : α) (e : En) (k : α → En → O β) : (O.ok a e).bind k = k a e := rfl
abbrev Ad := Nat → Addr
def dt (ps : Ad) : Vv → Dat
  | .d x => x
  | .sl i => .ref (ps i)
structure Lk (np : Nat) (M0 : Mem) (bs : List (Nat × Addr)) (ps : Ad) (e : En) (ρ : Env') (M : Mem) : Prop where
  len : ρ.length = e.length
  val : ∀ (i : Nat) d, e[i]? = some (Sv.v d) → ρ[i]? = some (some d)
  own : ∀ (i : Nat) l, e[i]? = some (Sv.own l) → ρ[i]? = some (some (.ref (ps i))) ∧ M (ps i) = some (.lst l)
  inj : ∀ (i j : Nat) l l', e[i]? = some (Sv.own l) → e[j]? = some (Sv.own l') → ps i = ps j → i = j
  bor : ∀ (i : Nat) (a : Addr), (i, a) ∈ bs → i < np ∧ ps i = a ∧ ∃ l, e[i]? = some (Sv.own l)
  new : ∀ (i : Nat) l, e[i]? = some (Sv.own l) → (∀ a, (i, a) ∉ bs) → M0 (ps i) = none
  out : ∀ a m, M0 a = some m → (∀ i, (i, a) ∉ bs) → M a = some m
/-- a slot that may be written over -/
def canSet (np : Nat) (e : En) (i : Nat) : Bool := match e[i]? with
  | some (Sv.own _) => decide (np ≤ i)
  | _ => true
def isOwn (e : En) (i : Nat) : Bool := match e[i]? with
  | some (Sv.own _) => true
  | _ => false
theorem get_set {α : Type} {l : List α} {i j : Nat} {a b : α} (h : (l.set i a)[j]? = some b) : (i = j ∧ a = b) ∨ (i ≠ j ∧ l[j]? = some b) := by
  by_cases hj : i = j
  · subst hj
    by_cases hl : i < l.length
    · rw [List.getElem?_set_self hl] at h
      exact .inl ⟨rfl, Option.some.inj h⟩
    · rw [List.getElem?_eq_none (by simp; omega)] at h
      cases h
  · rw [List.getElem?_set_ne hj] at h
    exact .inr ⟨hj, h⟩
section
variable {np : Nat} {M0 : Mem} {bs : List (Nat × Addr)} {ps : Ad} {e : En} {ρ : Env'} {M : Mem}
theorem Lk.notbor (lk : Lk np M0 bs ps e ρ M) {i : Nat} (h : canSet np e i = true) : ∀ a : Addr, (i, a) ∉ bs := fun a ha => by
  obtain ⟨h1, _, l, h2⟩ := lk.bor i a ha
  unfold canSet at h
  rw [h2] at h
  have := of_decide_eq_true h
  omega
theorem Lk.setv (lk : Lk np M0 bs ps e ρ M) {i : Nat} (h : canSet np e i = true) (d : Dat) : Lk np M0 bs ps (e.set i (Sv.v d)) (ρ.set i (some d)) M where
  len := by simp [lk.len]
  val := fun j x q => by
    rcases get_set q with ⟨rfl, z9⟩ | ⟨hj, q⟩
    · cases z9
      by_cases hl : i < ρ.length
      · exact List.getElem?_set_self hl
      · rw [List.getElem?_eq_none (by simp [← lk.len]; omega)] at *
        contradiction
    · rw [List.getElem?_set_ne hj]; exact lk.val j x q
  own := fun j l q => by
    rcases get_set q with ⟨rfl, z9⟩ | ⟨hj, q⟩
    · cases z9
    · rw [List.getElem?_set_ne hj]; exact lk.own j l q
  inj := fun j k l l' q q' => by
    rcases get_set q with ⟨rfl, z9⟩ | ⟨hj, q⟩
    · cases z9
    rcases get_set q' with ⟨rfl, z9⟩ | ⟨hj', q'⟩
    · cases z9
    exact lk.inj j k l l' q q'
  bor := fun j a ha => by
    obtain ⟨h1, h2, l, h3⟩ := lk.bor j a ha
    refine ⟨h1, h2, l, ?_⟩
    rw [List.getElem?_set_ne]; exact h3
    intro c; subst c
    exact lk.notbor h a ha
  new := fun j l q hb => by
    rcases get_set q with ⟨rfl, z9⟩ | ⟨hj, q⟩
    · cases z9
    · exact lk.new j l q hb
  out := lk.out
theorem Lk.seto (lk : Lk np M0 bs ps e ρ M) {i : Nat} (h : canSet np e i = true) {p : Addr} (hp : M p = none) (l : List Dat) : Lk np M0 bs (fun j => if j = i then p else ps j) (e.set i (Sv.own l)) (ρ.set i (some (.ref p))) (mup M p (.lst l)) := by
  have hm0 : M0 p = none := by
    cases e0 : M0 p with
    | none => rfl
    | some m =>
      by_cases hb : ∃ j, (j, p) ∈ bs
      · obtain ⟨j, hj⟩ := hb
        obtain ⟨_, h2, l', h3⟩ := lk.bor j p hj
        have := (lk.own j l' h3).2
        rw [h2, hp] at this; cases this
      · have := lk.out p m e0 fun j hj => hb ⟨j, hj⟩
        rw [hp] at this; cases this
  have hne : ∀ (j : Nat) l', e[j]? = some (Sv.own l') → ps j ≠ p := fun j l' q c => by
    have := (lk.own j l' q).2
    rw [c, hp] at this; cases this
  refine ⟨by simp [lk.len], fun j x q => ?_, fun j l' q => ?_, fun j k l1 l2 q q' c => ?_, fun j a ha => ?_, fun j l' q hb => ?_, fun a m q hb => ?_⟩
  · rcases get_set q with ⟨rfl, z9⟩ | ⟨hj, q⟩
    · cases z9
    · rw [List.getElem?_set_ne hj]; exact lk.val j x q
  · rcases get_set q with ⟨rfl, z9⟩ | ⟨hj, q'⟩
    · cases z9
      rw [if_pos rfl]
      refine ⟨?_, mup_same⟩
      by_cases hl : i < ρ.length
      · exact List.getElem?_set_self hl
      · rw [List.getElem?_eq_none (by simp [← lk.len]; omega)] at q
        cases q
    · have hji : ¬ j = i := fun c => hj c.symm
      rw [if_neg hji, List.getElem?_set_ne hj, mup_ne (hne j l' q')]
      exact lk.own j l' q'
  · rcases get_set q with ⟨rfl, q1⟩ | ⟨hj, q1⟩
    · rcases get_set q' with ⟨rfl, q2⟩ | ⟨hk, q2⟩
      · rfl
      · rw [if_pos rfl, if_neg (fun c => hk c.symm)] at c
        exact absurd c.symm (hne k l2 q2)
    · rcases get_set q' with ⟨rfl, q2⟩ | ⟨hk, q2⟩
      · rw [if_pos rfl, if_neg (fun c => hj c.symm)] at c
        exact absurd c (hne j l1 q1)
      · rw [if_neg (fun c => hj c.symm), if_neg (fun c => hk c.symm)] at c
        exact lk.inj j k l1 l2 q1 q2 c
  · obtain ⟨h1, h2, l', h3⟩ := lk.bor j a ha
    have hij : i ≠ j := fun c => by subst c; exact lk.notbor h a ha
    exact ⟨h1, by rw [if_neg (fun c => hij c.symm)]; exact h2, l', by rw [List.getElem?_set_ne hij]; exact h3⟩
  · rcases get_set q with ⟨rfl, q1⟩ | ⟨hj, q1⟩
    · rw [if_pos rfl]; exact hm0
    · rw [if_neg (fun c => hj c.symm)]; exact lk.new j l' q1 hb
  · rw [mup_ne fun c => by subst c; rw [hm0] at q; cases q]
    exact lk.out a m q hb
theorem Lk.upd (lk : Lk np M0 bs ps e ρ M) {i : Nat} {l : List Dat} (h : e[i]? = some (Sv.own l)) (l' : List Dat) : Lk np M0 bs ps (e.set i (Sv.own l')) ρ (mup M (ps i) (.lst l')) where
  len := by simp [lk.len]
  val := fun j x q => by
    rcases get_set q with ⟨rfl, z9⟩ | ⟨hj, q⟩
    · cases z9
    · exact lk.val j x q
  own := fun j k q => by
    rcases get_set q with ⟨rfl, z9⟩ | ⟨hj, q⟩
    · cases z9
      exact ⟨(lk.own i l h).1, mup_same⟩
    · obtain ⟨h1, h2⟩ := lk.own j k q
      exact ⟨h1, by rw [mup_ne fun c => hj (lk.inj j i _ _ q h c).symm]; exact h2⟩
  inj := fun j k l1 l2 q q' c => by
    have f : ∀ (j : Nat) l1, (e.set i (Sv.own l'))[j]? = some (Sv.own l1) → ∃ l0, e[j]? = some (Sv.own l0) := fun j l1 q => by
      rcases get_set q with ⟨rfl, z9⟩ | ⟨hj, q⟩
      · exact ⟨_, h⟩
      · exact ⟨_, q⟩
    obtain ⟨_, a1⟩ := f j l1 q
    obtain ⟨_, a2⟩ := f k l2 q'
    exact lk.inj j k _ _ a1 a2 c
  bor := fun j a ha => by
    obtain ⟨h1, h2, k, h3⟩ := lk.bor j a ha
    refine ⟨h1, h2, ?_⟩
    by_cases hj : i = j
    · subst hj
      exact ⟨l', List.getElem?_set_self (List.getElem?_eq_some_iff.mp h).1⟩
    · exact ⟨k, by rw [List.getElem?_set_ne hj]; exact h3⟩
  new := fun j k q hb => by
    rcases get_set q with ⟨rfl, z9⟩ | ⟨hj, q⟩
    · exact lk.new i l h hb
    · exact lk.new j k q hb
  out := fun a m q hb => by
    rw [mup_ne]
    · exact lk.out a m q hb
    · intro c; subst c
      have : M0 (ps i) = none := lk.new i l h fun a ha => by
        have := (lk.bor i a ha).2.1
        exact hb i (by rw [this]; exact ha)
      rw [this] at q; cases q
/-- a list is taken out of its slot -/
theorem Lk.take (lk : Lk np M0 bs ps e ρ M) {i : Nat} {l : List Dat} (h : e[i]? = some (Sv.own l)) (hc : canSet np e i = true) : Lk np M0 bs ps (e.set i Sv.no) ρ (mdel M (ps i)) where
  len := by simp [lk.len]
  val := fun j x q => by
    rcases get_set q with ⟨rfl, z9⟩ | ⟨hj, q⟩
    · cases z9
    · exact lk.val j x q
  own := fun j k q => by
    rcases get_set q with ⟨rfl, z9⟩ | ⟨hj, q⟩
    · cases z9
    · obtain ⟨h1, h2⟩ := lk.own j k q
      exact ⟨h1, by rw [mdel_ne fun c => hj (lk.inj j i _ _ q h c).symm]; exact h2⟩
  inj := fun j k l1 l2 q q' c => by
    rcases get_set q with ⟨rfl, z9⟩ | ⟨hj, q⟩
    · cases z9
    rcases get_set q' with ⟨rfl, z9⟩ | ⟨hj', q'⟩
    · cases z9
    exact lk.inj j k _ _ q q' c
  bor := fun j a ha => by
    obtain ⟨h1, h2, k, h3⟩ := lk.bor j a ha
    refine ⟨h1, h2, k, ?_⟩
    rw [List.getElem?_set_ne]; exact h3
    intro c; subst c
    exact lk.notbor hc a ha
  new := fun j k q hb => by
    rcases get_set q with ⟨rfl, z9⟩ | ⟨hj, q⟩
    · cases z9
    · exact lk.new j k q hb
  out := fun a m q hb => by
    rw [mdel_ne]
    · exact lk.out a m q hb
    · intro c; subst c
      rw [lk.new i l h (lk.notbor hc)] at q; cases q
/-- a slot of ours is told again, with what stands in it -/
theorem Lk.tell (lk : Lk np M0 bs ps e ρ M) {i : Nat} {d : Dat} (h : canSet np e i = true) (hr : ρ[i]? = some (some d)) : Lk np M0 bs ps (e.set i (Sv.v d)) ρ M := by
  have z := lk.setv h d
  have q : ρ.set i (some d) = ρ := by
    apply List.ext_getElem?
    intro j
    by_cases hj : i = j
    · subst hj
      rw [List.getElem?_set_self (List.getElem?_eq_some_iff.mp hr).1, hr]
    · rw [List.getElem?_set_ne hj]
  rw [q] at z
  exact z
theorem Lk.wipe1 (lk : Lk np M0 bs ps e ρ M) {i : Nat} (h : isOwn e i = false) : Lk np M0 bs ps (e.set i Sv.no) (ρ.set i none) M where
  len := by simp [lk.len]
  val := fun j x q => by
    rcases get_set q with ⟨rfl, z9⟩ | ⟨hj, q⟩
    · cases z9
    · rw [List.getElem?_set_ne hj]; exact lk.val j x q
  own := fun j l q => by
    rcases get_set q with ⟨rfl, z9⟩ | ⟨hj, q⟩
    · cases z9
    · rw [List.getElem?_set_ne hj]; exact lk.own j l q
  inj := fun j k l l' q q' => by
    rcases get_set q with ⟨rfl, z9⟩ | ⟨hj, q⟩
    · cases z9
    rcases get_set q' with ⟨rfl, z9⟩ | ⟨hj', q'⟩
    · cases z9
    exact lk.inj j k l l' q q'
  bor := fun j a ha => by
    obtain ⟨h1, h2, l, h3⟩ := lk.bor j a ha
    refine ⟨h1, h2, l, ?_⟩
    rw [List.getElem?_set_ne]; exact h3
    intro c; subst c
    unfold isOwn at h
    rw [h3] at h; cases h
  new := fun j l q hb => by
    rcases get_set q with ⟨rfl, z9⟩ | ⟨hj, q⟩
    · cases z9
    · exact lk.new j l q hb
  out := lk.out
end
/-! ### what values are -/
def rdL (e : En) : Vv → Option (List Dat)
  | .d (.lst l) => some l
  | .d (.frl l) => some l
  | .sl i => match e[i]? with
    | some (Sv.own l) => some l
    | _ => none
  | _ => none
def rdS (e : En) : Vv → Option (List Dat)
  | .d (.tup l) => some l
  | a => rdL e a
def rdN (e : En) : Vv → Option (List Dat)
  | .d (.lst l) => some l
  | .sl i => match e[i]? with
    | some (Sv.own l) => some l
    | _ => none
  | _ => none
def rdF : Vv → Option (List Dat)
  | .d (.lst l) => some l
  | .d (.frl l) => some l
  | _ => none
def vO (e : En) : Vv → Option Dat
  | .d (.ref _) => none
  | .d x => some x
  | .sl i => match e[i]? with
    | some (Sv.own l) => some (.lst l)
    | _ => none
section
variable {np : Nat} {M0 : Mem} {bs : List (Nat × Addr)} {ps : Ad} {e : En} {ρ : Env'} {M : Mem}
theorem Lk.rdN (lk : Lk np M0 bs ps e ρ M) {a : Vv} {l : List Dat} (h : FL.rdN e a = some l) : lsOf M (dt ps a) = some l := by
  cases a with
  | d x => cases x <;> first | exact h | cases h
  | sl i =>
    unfold FL.rdN at h
    cases q : e[i]? with
    | none => simp only [q] at h; cases h
    | some s =>
      simp only [q] at h
      cases s with
      | own l' => cases h; exact lsOf_ref (lk.own i _ q).2
      | _ => cases h
theorem Lk.rdL (lk : Lk np M0 bs ps e ρ M) {a : Vv} {l : List Dat} (h : FL.rdL e a = some l) : lqOf M (dt ps a) = some l := by
  cases a with
  | d x => cases x <;> first | exact h | cases h
  | sl i =>
    unfold FL.rdL at h
    cases q : e[i]? with
    | none => simp only [q] at h; cases h
    | some s =>
      simp only [q] at h
      cases s with
      | own l' => cases h; exact lqOf_ref (lk.own i _ q).2
      | _ => cases h
theorem Lk.rdS (lk : Lk np M0 bs ps e ρ M) {a : Vv} {l : List Dat} (h : FL.rdS e a = some l) : sqOf M (dt ps a) = some l := by
  cases a with
  | d x => cases x <;> first | exact h | cases h
  | sl i => exact lk.rdL (a := .sl i) h
theorem Lk.vO (lk : Lk np M0 bs ps e ρ M) {a : Vv} {x : Dat} (h : FL.vO e a = some x) : vOf M (dt ps a) = x := by
  cases a with
  | d y => cases y <;> first | (cases h; rfl) | cases h
  | sl i =>
    unfold FL.vO at h
    cases q : e[i]? with
    | none => simp only [q] at h; cases h
    | some s =>
      simp only [q] at h
      cases s with
      | own l' => cases h; exact vOf_ref (lk.own i _ q).2
      | _ => cases h
theorem rdF_fz {a : Vv} {l : List Dat} (h : rdF a = some l) : fzOf (dt ps a) = some l := by
  cases a with
  | d x => cases x <;> first | exact h | cases h
  | sl i => cases h
end
/-! ### judgements -/
structure Fx where
  S : Sc
  cv : Str → Value
  np : Nat
def Fx.sx (F : Fx) (Ex : Value → List (Str × Dat) → Mem → Prop) : Sc := { F.S with Ex := Ex }
def Lx (np : Nat) (M0 : Mem) (bs : List (Nat × Addr)) (e : En) (M : Mem) : Prop := ∃ ps ρ, Lk np M0 bs ps e ρ M
def pO {α : Type} (F : Fx) (M0 : Mem) (bs : List (Nat × Addr)) (ps : Ad) (ρ : Env') (Ex : Value → List (Str × Dat) → Mem → Prop) (r : O α) (Q : α → En → Mem → Prop) : Prop := match r with
  | .ok a e => ∀ M', Lk F.np M0 bs ps e ρ M' → Q a e M'
  | .ex c fs e => ∀ M', Lx F.np M0 bs e M' → Ex (F.cv c) fs M'
  | .no => False
theorem pO_bind {α β : Type} {F : Fx} {M0 : Mem} {bs : List (Nat × Addr)} {ps : Ad} {ρ : Env'} {Ex : Value → List (Str × Dat) → Mem → Prop} {r : O α} {k : α → En → O β} {Q : β → En → Mem → Prop} (h : pO F M0 bs ps ρ Ex (r.bind k) Q) : pO F M0 bs ps ρ Ex r fun a e _ => pO F M0 bs ps ρ Ex (k a e) Q := by
  cases r with
  | ok a e => exact fun _ _ => h
  | ex c fs e => exact h
  | no => exact h
theorem pO_imp {α : Type} {F : Fx} {M0 : Mem} {bs : List (Nat × Addr)} {ps : Ad} {ρ : Env'} {Ex : Value → List (Str × Dat) → Mem → Prop} {r : O α} {Q Q' : α → En → Mem → Prop} (h : pO F M0 bs ps ρ Ex r Q) (k : ∀ a e M', Lk F.np M0 bs ps e ρ M' → Q a e M' → Q' a e M') : pO F M0 bs ps ρ Ex r Q' := by
  cases r with
  | ok a e => exact fun M' l => k _ _ _ l (h M' l)
  | ex c fs e => exact h
  | no => exact h
section
variable (F : Fx)
/-- an expression -/
def EV (x : Expr) (f : En → O Vv) : Prop := ∀ M0 bs ps e ρ M (Q : DK) Ex, Lk F.np M0 bs ps e ρ M → pO F M0 bs ps ρ Ex (f e) (fun a _ M' => Q (dt ps a) M') → RE (F.sx Ex) ρ M x Q
/-- an expression that makes a list -/
def EL (x : Expr) (f : En → O (List Dat)) : Prop := ∀ M0 bs ps e ρ M (Q : DK) Ex, Lk F.np M0 bs ps e ρ M → pO F M0 bs ps ρ Ex (f e) (fun l _ M' => ∀ p, M' p = none → Q (.ref p) (mup M' p (.lst l))) → RE (F.sx Ex) ρ M x Q
/-- a test -/
def ET (x : Expr) (f : En → O Bool) : Prop := ∀ M0 bs ps e ρ M (Q : Bool → Mem → Prop) Ex, Lk F.np M0 bs ps e ρ M → pO F M0 bs ps ρ Ex (f e) (fun a _ M' => Q a M') → RT (F.sx Ex) ρ M x Q
def EW (x : Expr) (f : En → O Bool) : Prop := ∀ M0 bs ps e ρ M (Q : Bool → Mem → Prop) Ex, Lk F.np M0 bs ps e ρ M → pO F M0 bs ps ρ Ex (f e) (fun a _ M' => Q a M') → RW (F.sx Ex) ρ M x Q
def EA (xs : List Expr) (f : En → O (List Vv)) : Prop := ∀ M0 bs ps e ρ M (Q : List Dat → Mem → Prop) Ex, Lk F.np M0 bs ps e ρ M → pO F M0 bs ps ρ Ex (f e) (fun a _ M' => Q (a.map (dt ps)) M') → RA (F.sx Ex) ρ M xs Q
end
/-- a statement's end -/
inductive G where
  | nx (e : En) | rt (r : Sv) (e : En) | bk (e : En) | ct (e : En) | ex (c : Str) (fs : List (Str × Dat)) (e : En) | no
def pG (F : Fx) (M0 : Mem) (bs : List (Nat × Addr)) (D : DE) (Ex : Value → List (Str × Dat) → Mem → Prop) : G → Prop
  | .nx e => ∀ ps ρ M, Lk F.np M0 bs ps e ρ M → D.nx ρ M
  | .rt (.v d) e => ∀ ps ρ M, Lk F.np M0 bs ps e ρ M → D.rt d M
  | .rt (.own l) e => ∀ ps ρ M p, Lk F.np M0 bs ps e ρ M → M p = none → D.rt (.ref p) (mup M p (.lst l))
  | .rt .no _ => False
  | .bk e => ∀ ps ρ M, Lk F.np M0 bs ps e ρ M → D.bk ρ M
  | .ct e => ∀ ps ρ M, Lk F.np M0 bs ps e ρ M → D.ct ρ M
  | .ex c fs e => ∀ M, Lx F.np M0 bs e M → Ex (F.cv c) fs M
  | .no => False
def ST (F : Fx) (sts : List Stmt) (g : En → G) : Prop := ∀ M0 bs ps e ρ M D Ex, Lk F.np M0 bs ps e ρ M → pG F M0 bs D Ex (g e) → RS (F.sx Ex) ρ M sts D
def S1 (F : Fx) (st : Stmt) (g : En → G) : Prop := ∀ M0 bs ps e ρ M D Ex, Lk F.np M0 bs ps e ρ M → pG F M0 bs D Ex (g e) → R1 (F.sx Ex) ρ M st D
end FL
set_option Elab.async false
set_option linter.all false
set_option autoImplicit false
set_option maxRecDepth 100000
set_option maxHeartbeats 4000000
namespace FL
open PySem PySem.Spec PyProof.Rows L2 DL
/-- a list of the memory that is handed back stands from now on; anything else is as it is -/
theorem re_frO {S : Sc} {ρ : Env'} {M : Mem} {Q : DK} {e : Expr} (h : RE S ρ M e fun d M1 => Q d M1 ∨ ∃ p ds, d = .ref p ∧ M1 p = some (.lst ds) ∧ Q (.lst ds) (mdel M1 p)) : RE S ρ M e Q := fun X fit H0 M0 B0 w pins s σ H B I sl rp fr =>
  thn (h X fit H0 M0 B0 w pins s σ H B I sl rp fr) fun _ _ q => EP_imp q fun v H' ⟨d, M', B', r1, r2, r3, z⟩ => by
    rcases z with z | ⟨p, ds, e1, h1, k⟩
    · exact ⟨d, M', B', r1, r2, r3, z⟩
    · subst e1; cases r3
      obtain ⟨B2, q1, q2, q3, q4⟩ := r1.freeze h1
      exact ⟨_, _, B2, q1, r2.trans q2, q4, k⟩
theorem mdel_ne' {M : Mem} {p : Addr} {m : MO} (h : M p = none) : mdel (mup M p m) p = M := mdel_mup h
/-! ### values -/
def eK (d : Dat) : En → O Vv := fun e => .ok (.d d) e
def eNm (i : Nat) : En → O Vv := fun e => match e[i]? with
  | some (Sv.v d) => .ok (.d d) e
  | some (Sv.own _) => .ok (.sl i) e
  | _ => .no
/-- a name whose list is handed on -/
def eMv (np i : Nat) : En → O Vv := fun e => match e[i]? with
  | some (Sv.v d) => .ok (.d d) e
  | some (Sv.own l) => if np ≤ i then .ok (.d (.lst l)) (e.set i Sv.no) else .no
  | _ => .no
def e2 {β : Type} (r : Vv → Vv → En → O β) (f g : En → O Vv) : En → O β := fun e => (f e).bind fun a e1 => (g e1).bind fun b e2 => r a b e2
def e1 {α β : Type} (r : α → En → O β) (f : En → O α) : En → O β := fun e => (f e).bind fun a e1 => r a e1
def plusO : Vv → Vv → En → O Vv
  | .d (.int i), .d (.int j), e => .ok (.d (.int (i + j))) e
  | .d (.str i), .d (.str j), e => if i.length + j.length ≤ sizeLine then .ok (.d (.str (i ++ j))) e else .no
  | .d (.tup i), .d (.tup j), e => if i.length + j.length ≤ 100000 then .ok (.d (.tup (i ++ j))) e else .no
  | a, b, e => match rdN e a, rdN e b with
    | some i, some j => if i.length + j.length ≤ 100000 then .ok (.d (.lst (i ++ j))) e else .no
    | _, _ => .no
def timesO : Vv → Vv → En → O Vv
  | .d (.int i), .d (.int j), e => if (-(2 ^ 64) < i ∧ i < 2 ^ 64) ∨ (-(2 ^ 64) < j ∧ j < 2 ^ 64) then .ok (.d (.int (i * j))) e else .no
  | a, .d (.int k), e => match rdN e a with
    | some l => if -(2 ^ 63) ≤ k ∧ k < 2 ^ 63 ∧ l.length * k.toNat ≤ 100000 then .ok (.d (.lst (List.replicate k.toNat l).flatten)) e else .no
    | _ => .no
  | _, _, _ => .no
def subO : Vv → Vv → En → O Vv
  | .d (.int i), .d (.int j), e => .ok (.d (.int (i - j))) e
  | _, _, _ => .no
def modO : Vv → Vv → En → O Vv
  | .d (.int i), .d (.int j), e => if 0 < j then .ok (.d (.int (i % j))) e else .no
  | _, _, _ => .no
def fdivO : Vv → Vv → En → O Vv
  | .d (.int i), .d (.int j), e => if 0 < j ∧ j < 1073741824 then .ok (.d (.int (i / j))) e else .no
  | _, _, _ => .no
def powO : Vv → Vv → En → O Vv
  | .d (.int i), .d (.int j), e => if 0 ≤ j ∧ j ≤ 1000000 ∧ i.natAbs < 2 ^ 64 then .ok (.d (.int (i ^ j.toNat))) e else .no
  | _, _, _ => .no
def negO : Vv → En → O Vv
  | .d (.int i), e => .ok (.d (.int (-i))) e
  | _, _ => .no
def ixO : Vv → Vv → En → O Vv
  | a, .d (.int i), e => match rdS e a with
    | some l => match atI l i with
      | some d => .ok (.d d) e
      | none => .no
    | none => .no
  | _, _, _ => .no
def lenO (a : Vv) (e : En) : O Vv := match rdS e a with
  | some l => .ok (.d (.int l.length)) e
  | none => .no
def tupOfO (a : Vv) (e : En) : O Vv := match rdL e a with
  | some l => .ok (.d (.tup l)) e
  | none => .no
def intBO : Vv → En → O Vv
  | .d (.bl b), e => .ok (.d (.int (if b then 1 else 0))) e
  | _, _ => .no
def sliO (a : Vv) (l u : Option Int) (e : En) : O Vv := match a with
  | .d (.tup ds) => .ok (.d (.tup (cutD ds l u))) e
  | a => match rdL e a with
    | some ds => .ok (.d (.lst (cutD ds l u))) e
    | none => .no
def cmpI (g : Int → Int → Bool) : Vv → Vv → En → O Bool
  | .d (.int i), .d (.int j), e => .ok (g i j) e
  | _, _, _ => .no
def eqO (neg : Bool) (a b : Vv) (e : En) : O Bool := match vO e a, vO e b with
  | some x, some y => if lv 20 x = true ∧ lv 20 y = true then .ok (if neg then !eqD x y else eqD x y) e else .no
  | _, _ => .no
def inO (neg : Bool) (a b : Vv) (e : En) : O Bool := match a, rdS e b with
  | .d x, some l => if flatD x = true ∧ l.all flatD = true then .ok (if neg then !inD x l else inD x l) e else .no
  | _, _ => .no
def isNO (neg : Bool) (a : Vv) (e : En) : O Bool := match a with
  | .d .non => .ok (!neg) e
  | _ => .ok neg e
def tyO (e : En) : Vv → Option String
  | .d .non => some "NoneType"
  | .d (.bl _) => some "bool"
  | .d (.int _) => some "int"
  | .d (.str _) => some "str"
  | .d (.tup _) => some "tuple"
  | .d (.lst _) => some "list"
  | .d (.frl _) => some "list"
  | .d (.ref _) => none
  | .sl i => match e[i]? with
    | some (Sv.own _) => some "list"
    | _ => none
def isiO (T : String) (a : Vv) (e : En) : O Bool := match tyO e a with
  | some t => match kitB t T with
    | some k => .ok k e
    | none => .no
  | none => .no
def kgetO (tab : List (Str × Int)) : Vv → Vv → En → O Vv
  | .d (.str k), .d (.int j), e => .ok (.d (.int ((tab.lookup k).getD j))) e
  | _, _, _ => .no
def eB (f : En → O Bool) : En → O Vv := fun e => (f e).bind fun b e1 => .ok (.d (.bl b)) e1
def tV (f : En → O Vv) : En → O Bool := fun e => (f e).bind fun a e1 => match a with
  | .d (.bl b) => .ok b e1
  | _ => .no
def tNot (f : En → O Bool) : En → O Bool := fun e => (f e).bind fun b e1 => .ok (!b) e1
def tAnd (f g : En → O Bool) : En → O Bool := fun e => (f e).bind fun b e1 => if b then g e1 else .ok false e1
def tOr (f g : En → O Bool) : En → O Bool := fun e => (f e).bind fun b e1 => if b then .ok true e1 else g e1
def tCh (g g' : Int → Int → Bool) (fa fb fc : En → O Vv) : En → O Bool := fun e => (fa e).bind fun a e1 => (fb e1).bind fun b e2 => match a, b with
  | .d (.int i), .d (.int j) => if g i j then (fc e2).bind fun c e3 => match c with
      | .d (.int l) => .ok (g' j l) e3
      | _ => .no
    else .ok false e2
  | _, _ => .no
def eIf (c : En → O Bool) (a b : En → O Vv) : En → O Vv := fun e => (c e).bind fun k e1 => if k then a e1 else b e1
def eAnd (f g : En → O Vv) : En → O Vv := fun e => (f e).bind fun a e1 => match a with
  | .d (.bl true) => g e1
  | .d (.bl false) => .ok (.d (.bl false)) e1
  | _ => .no
def eOr (f g : En → O Vv) : En → O Vv := fun e => (f e).bind fun a e1 => match a with
  | .d (.bl false) => g e1
  | .d (.bl true) => .ok (.d (.bl true)) e1
  | _ => .no
def aNil : En → O (List Vv) := fun e => .ok [] e
def aCons (f : En → O Vv) (g : En → O (List Vv)) : En → O (List Vv) := fun e => (f e).bind fun a e1 => (g e1).bind fun as e2 => .ok (a :: as) e2
def allD : List Vv → Option (List Dat)
  | [] => some []
  | .d x :: r => (allD r).map (x :: ·)
  | _ :: _ => none
theorem allD_dt {ps : Ad} : ∀ {vs : List Vv} {ds : List Dat}, allD vs = some ds → vs.map (dt ps) = ds
  | [], _, h => by cases h; rfl
  | .d x :: r, ds, h => by
    unfold allD at h
    cases q : allD r with
    | none => rw [q] at h; cases h
    | some l =>
      rw [q] at h
      cases h
      rw [List.map_cons, allD_dt q]; rfl
  | .sl i :: r, _, h => by cases h
def tupO (vs : List Vv) (e : En) : O Vv := match allD vs with
  | some ds => if ds.length ≤ 100000 then .ok (.d (.tup ds)) e else .no
  | none => .no
def dspO (vs : List Vv) (e : En) : O (List Dat) := match allD vs with
  | some ds => if ds.length ≤ 100000 then .ok ds e else .no
  | none => .no
def catO (a b : Vv) (e : En) : O (List Dat) := match rdN e a, rdN e b with
  | some i, some j => if i.length + j.length ≤ 100000 then .ok (i ++ j) e else .no
  | _, _ => .no
def slO (a : Vv) (l u : Option Int) (e : En) : O (List Dat) := match rdL e a with
  | some ds => .ok (cutD ds l u) e
  | none => .no
def listO (a : Vv) (e : En) : O (List Dat) := match rdS e a with
  | some l => .ok l e
  | none => .no
def rgOk (i j : Int) : Bool := decide (-(2 ^ 62) ≤ i ∧ i < 2 ^ 62 ∧ -(2 ^ 62) ≤ j ∧ j < 2 ^ 62 ∧ (j - i).toNat ≤ 2 ^ 24)
def rg1O (a : Vv) (e : En) : O (List Dat) := match a with
  | .d (.int i) => if rgOk 0 i = true then .ok (rgD 0 i) e else .no
  | _ => .no
def rg2O (a b : Vv) (e : En) : O (List Dat) := match a, b with
  | .d (.int i), .d (.int j) => if rgOk i j = true then .ok (rgD i j) e else .no
  | _, _ => .no
def eFr (f : En → O (List Dat)) : En → O Vv := fun e => (f e).bind fun l e1 => .ok (.d (.lst l)) e1
/-! ### rules -/
section
variable {F : Fx} {a b c : Expr} {pos : Pos} {f g h' : En → O Vv}
theorem ev2 {M0 : Mem} {bs : List (Nat × Addr)} {ps : Ad} {e : En} {ρ : Env'} {M : Mem} {Ex : Value → List (Str × Dat) → Mem → Prop} {β : Type} {r : Vv → Vv → En → O β} {Qf : β → En → Mem → Prop} {W : Dat → Dat → Mem → Prop} (ha : EV F a f) (hb : EV F b g)
    (lk : Lk F.np M0 bs ps e ρ M) (h : pO F M0 bs ps ρ Ex (e2 r f g e) Qf) (k : ∀ x y e2 M2, Lk F.np M0 bs ps e2 ρ M2 → pO F M0 bs ps ρ Ex (r x y e2) Qf → W (dt ps x) (dt ps y) M2) : RE (F.sx Ex) ρ M a fun x M1 => RE (F.sx Ex) ρ M1 b fun y M2 => W x y M2 :=
  ha _ _ _ _ _ _ _ _ lk (pO_imp (pO_bind h) fun x e1 M1 l1 h1 => hb _ _ _ _ _ _ _ _ l1 (pO_imp (pO_bind h1) fun y e2 M2 l2 h2 => k x y e2 M2 l2 h2))
theorem ev1 {M0 : Mem} {bs : List (Nat × Addr)} {ps : Ad} {e : En} {ρ : Env'} {M : Mem} {Ex : Value → List (Str × Dat) → Mem → Prop} {β : Type} {r : Vv → En → O β} {Qf : β → En → Mem → Prop} {W : DK} (ha : EV F a f)
    (lk : Lk F.np M0 bs ps e ρ M) (h : pO F M0 bs ps ρ Ex (e1 r f e) Qf) (k : ∀ x e2 M2, Lk F.np M0 bs ps e2 ρ M2 → pO F M0 bs ps ρ Ex (r x e2) Qf → W (dt ps x) M2) : RE (F.sx Ex) ρ M a W :=
  ha _ _ _ _ _ _ _ _ lk (pO_imp (pO_bind h) fun x e1 M1 l1 h1 => k x e1 M1 l1 h1)
theorem ev_k {d : Dat} (h : ∀ S ρ M Q, Q d M → RE S ρ M a Q) : EV F a (eK d) := fun M0 bs ps e ρ M Q Ex lk h2 => h _ _ _ _ (h2 M lk)
theorem ev_int {i : Int} {j : Nat} : EV F (.Constant (.int i) j pos) (eK (.int i)) := ev_k fun _ _ _ _ h => re_int h
theorem ev_bl {i : Bool} {j : Nat} : EV F (.Constant (.bool i) j pos) (eK (.bl i)) := ev_k fun _ _ _ _ h => re_bl h
theorem ev_str {i : Str} {j : Nat} : EV F (.Constant (.str i) j pos) (eK (.str i)) := ev_k fun _ _ _ _ h => re_str h
theorem ev_non {j : Nat} : EV F (.Constant .none j pos) (eK .non) := ev_k fun _ _ _ _ h => re_non h
theorem ev_gi {x : Str} {i : Int} (hm : ∃ t, F.S.mg x = some (.int i t)) (hg : GlN F.S x := by rfl) (hd : (x == ("__debug__" : Str)) = false := by decide) : EV F (.Name x pos) (eK (.int i)) := fun M0 bs ps e ρ M Q Ex lk h2 => re_gi (S := F.sx Ex) hm (h2 M lk) hg hd
theorem ev_nm (i : Nat) {x : Str} (hN : F.S.N[i]? = some x := by rfl) (hv : Vis F.S.sc x := by first | exact Or.inl rfl | exact Or.inr (Or.inl rfl) | exact Or.inr (Or.inr rfl)) (hd : (x == ("__debug__" : Str)) = false := by decide) (hcd : (x == ("__classdict__" : Str)) = false := by decide) : EV F (.Name x pos) (eNm i) :=
  fun M0 bs ps e ρ M Q Ex lk h => by
    unfold eNm at h
    split at h
    · rename_i d q
      exact re_nm (S := F.sx Ex) i (lk.val i d q) (h M lk) hN hv hd hcd
    · rename_i l q
      exact re_nm (S := F.sx Ex) i (lk.own i l q).1 (h M lk) hN hv hd hcd
    · exact h.elim
theorem ev_mv (i : Nat) {x : Str} (hN : F.S.N[i]? = some x := by rfl) (hv : Vis F.S.sc x := by first | exact Or.inl rfl | exact Or.inr (Or.inl rfl) | exact Or.inr (Or.inr rfl)) (hd : (x == ("__debug__" : Str)) = false := by decide) (hcd : (x == ("__classdict__" : Str)) = false := by decide) : EV F (.Name x pos) (eMv F.np i) :=
  fun M0 bs ps e ρ M Q Ex lk h => by
    unfold eMv at h
    split at h
    · rename_i d q
      exact re_nm (S := F.sx Ex) i (lk.val i d q) (h M lk) hN hv hd hcd
    · rename_i l q
      split at h
      · rename_i hn
        have hc : canSet F.np e i = true := by unfold canSet; rw [q]; exact decide_eq_true hn
        exact re_frR (re_nm (S := F.sx Ex) i (lk.own i l q).1 ⟨_, l, rfl, (lk.own i l q).2, h _ (lk.take q hc)⟩ hN hv hd hcd)
      · exact h.elim
    · exact h.elim
theorem ev_add (ha : EV F a f) (hb : EV F b g) : EV F (.BinOp a .Add b pos) (e2 plusO f g) := fun M0 bs ps e ρ M Q Ex lk h => re_plus (ev2 ha hb lk h fun x y e2 M2 l2 h2 => by
  unfold plusO at h2
  split at h2
  · exact .inl ⟨_, _, rfl, rfl, h2 M2 l2⟩
  · split at h2
    · exact .inr (.inl ⟨_, _, rfl, rfl, by assumption, h2 M2 l2⟩)
    · exact h2.elim
  · split at h2
    · exact .inr (.inr (.inl ⟨_, _, rfl, rfl, by assumption, h2 M2 l2⟩))
    · exact h2.elim
  · split at h2
    · rename_i q1 q2
      split at h2
      · exact .inr (.inr (.inr ⟨_, _, l2.rdN q1, l2.rdN q2, by assumption, h2 M2 l2⟩))
      · exact h2.elim
    · exact h2.elim)
theorem ev_mul (ha : EV F a f) (hb : EV F b g) : EV F (.BinOp a .Mult b pos) (e2 timesO f g) := fun M0 bs ps e ρ M Q Ex lk h => re_times (ev2 ha hb lk h fun x y e2 M2 l2 h2 => by
  unfold timesO at h2
  split at h2
  · split at h2
    · exact .inl ⟨_, _, rfl, rfl, by assumption, h2 M2 l2⟩
    · exact h2.elim
  · split at h2
    · rename_i q1
      split at h2
      · rename_i hc
        exact .inr ⟨_, _, l2.rdN q1, rfl, hc.1, hc.2.1, hc.2.2, h2 M2 l2⟩
      · exact h2.elim
    · exact h2.elim
  · exact h2.elim)
theorem ev_sub (ha : EV F a f) (hb : EV F b g) : EV F (.BinOp a .Sub b pos) (e2 subO f g) := fun M0 bs ps e ρ M Q Ex lk h => re_sub (ev2 ha hb lk h fun x y e2 M2 l2 h2 => by
  unfold subO at h2
  split at h2
  · exact ⟨_, _, rfl, rfl, h2 M2 l2⟩
  · exact h2.elim)
theorem ev_mod (ha : EV F a f) (hb : EV F b g) : EV F (.BinOp a .Mod b pos) (e2 modO f g) := fun M0 bs ps e ρ M Q Ex lk h => re_mod (ev2 ha hb lk h fun x y e2 M2 l2 h2 => by
  unfold modO at h2
  split at h2
  · split at h2
    · exact ⟨_, _, rfl, rfl, by assumption, h2 M2 l2⟩
    · exact h2.elim
  · exact h2.elim)
theorem ev_fdiv (ha : EV F a f) (hb : EV F b g) : EV F (.BinOp a .FloorDiv b pos) (e2 fdivO f g) := fun M0 bs ps e ρ M Q Ex lk h => re_fdiv (ev2 ha hb lk h fun x y e2 M2 l2 h2 => by
  unfold fdivO at h2
  split at h2
  · split at h2
    · exact ⟨_, _, rfl, rfl, by assumption, h2 M2 l2⟩
    · exact h2.elim
  · exact h2.elim)
theorem ev_pow (ha : EV F a f) (hb : EV F b g) : EV F (.BinOp a .Pow b pos) (e2 powO f g) := fun M0 bs ps e ρ M Q Ex lk h => re_pow (ev2 ha hb lk h fun x y e2 M2 l2 h2 => by
  unfold powO at h2
  split at h2
  · split at h2
    · exact ⟨_, _, rfl, rfl, by assumption, h2 M2 l2⟩
    · exact h2.elim
  · exact h2.elim)
theorem ev_neg (ha : EV F a f) : EV F (.UnaryOp .USub a pos) (e1 negO f) := fun M0 bs ps e ρ M Q Ex lk h => re_neg (ev1 ha lk h fun x e2 M2 l2 h2 => by
  unfold negO at h2
  split at h2
  · exact ⟨_, rfl, h2 M2 l2⟩
  · exact h2.elim)
theorem ev_ix (ha : EV F a f) (hb : EV F b g) (hs : PlainIx b := by exact fun _ _ => rfl) : EV F (.Subscript a b pos) (e2 ixO f g) := fun M0 bs ps e ρ M Q Ex lk h => re_ix (ev2 ha hb lk h fun x y e2 M2 l2 h2 => by
  unfold ixO at h2
  split at h2
  · split at h2
    · rename_i q1
      split at h2
      · rename_i q2
        exact ⟨_, _, _, l2.rdS q1, rfl, q2, h2 M2 l2⟩
      · exact h2.elim
    · exact h2.elim
  · exact h2.elim) hs
theorem ev_len (G : BI F.S.mg) {p : Pos} (ha : EV F a f) (hg : GlN F.S "len" := by rfl) (hs : ∀ env, starEach [a] env = (false, eval a env) :: starEach [] env := by intro _; rfl) : EV F (.Call (.Name "len" p) [a] [] pos) (e1 lenO f) := fun M0 bs ps e ρ M Q Ex lk h => re_len (S := F.sx Ex) G (ev1 ha lk h fun x e2 M2 l2 h2 => by
  unfold lenO at h2
  split at h2
  · rename_i q
    exact ⟨_, l2.rdS q, h2 M2 l2⟩
  · exact h2.elim) hg hs
theorem ev_tupOf (G : BI F.S.mg) {p : Pos} (ha : EV F a f) (hg : GlN F.S "tuple" := by rfl) (hs : ∀ env, starEach [a] env = (false, eval a env) :: starEach [] env := by intro _; rfl) : EV F (.Call (.Name "tuple" p) [a] [] pos) (e1 tupOfO f) := fun M0 bs ps e ρ M Q Ex lk h => re_tupOf (S := F.sx Ex) G (ev1 ha lk h fun x e2 M2 l2 h2 => by
  unfold tupOfO at h2
  split at h2
  · rename_i q
    exact ⟨_, l2.rdL q, h2 M2 l2⟩
  · exact h2.elim) hg hs
theorem ev_intB (G : BI F.S.mg) {p : Pos} (ha : EV F a f) (hg : GlN F.S "int" := by rfl) (hs : ∀ env, starEach [a] env = (false, eval a env) :: starEach [] env := by intro _; rfl) : EV F (.Call (.Name "int" p) [a] [] pos) (e1 intBO f) := fun M0 bs ps e ρ M Q Ex lk h => re_intB (S := F.sx Ex) G (ev1 ha lk h fun x e2 M2 l2 h2 => by
  unfold intBO at h2
  split at h2
  · exact ⟨_, rfl, h2 M2 l2⟩
  · exact h2.elim) hg hs
/-! comparisons, as values and as tests -/
theorem cmpI_of {op : CmpOp} {g0 : Int → Int → Bool} (hm : behindInMarks op b = false) (ho : ∀ X, OpR X (compareOp op) (rI0 fun i j => .bl (g0 i j))) (ha : EV F a f) (hb : EV F b g) : EV F (.Compare a [op] [b] pos) (eB (e2 (cmpI g0) f g)) := fun M0 bs ps e ρ M Q Ex lk h => re_cI ho hm (ev2 (r := cmpI g0) ha hb lk (pO_bind h) fun x y e2 M2 l2 h2 => by
  unfold cmpI at h2
  split at h2
  · exact ⟨_, _, rfl, rfl, h2 M2 l2 M2 l2⟩
  · exact h2.elim)
theorem cmpT_of {op : CmpOp} {g0 : Int → Int → Bool} (hm : behindInMarks op b = false) (ho : ∀ X, OpR X (compareOp op) (rI0 fun i j => .bl (g0 i j))) (ha : EV F a f) (hb : EV F b g) : ET F (.Compare a [op] [b] pos) (e2 (cmpI g0) f g) := fun M0 bs ps e ρ M Q Ex lk h => rt_cI ho hm (ev2 (r := cmpI g0) ha hb lk h fun x y e2 M2 l2 h2 => by
  unfold cmpI at h2
  split at h2
  · exact ⟨_, _, rfl, rfl, h2 M2 l2⟩
  · exact h2.elim)
def ltB (i j : Int) : Bool := decide (i < j)
def leB (i j : Int) : Bool := decide (i ≤ j)
def gtB (i j : Int) : Bool := decide (j < i)
def geB (i j : Int) : Bool := decide (j ≤ i)
theorem ev_lt (ha : EV F a f) (hb : EV F b g) : EV F (.Compare a [.Lt] [b] pos) (eB (e2 (cmpI ltB) f g)) := cmpI_of (nomark _) (fun _ => op_lt) ha hb
theorem ev_le (ha : EV F a f) (hb : EV F b g) : EV F (.Compare a [.LtE] [b] pos) (eB (e2 (cmpI leB) f g)) := cmpI_of (nomark _) (fun _ => op_le) ha hb
theorem ev_gt (ha : EV F a f) (hb : EV F b g) : EV F (.Compare a [.Gt] [b] pos) (eB (e2 (cmpI gtB) f g)) := cmpI_of (nomark _) (fun _ => op_gt) ha hb
theorem ev_ge (ha : EV F a f) (hb : EV F b g) : EV F (.Compare a [.GtE] [b] pos) (eB (e2 (cmpI geB) f g)) := cmpI_of (nomark _) (fun _ => op_ge) ha hb
theorem et_lt (ha : EV F a f) (hb : EV F b g) : ET F (.Compare a [.Lt] [b] pos) (e2 (cmpI ltB) f g) := cmpT_of (nomark _) (fun _ => op_lt) ha hb
theorem et_le (ha : EV F a f) (hb : EV F b g) : ET F (.Compare a [.LtE] [b] pos) (e2 (cmpI leB) f g) := cmpT_of (nomark _) (fun _ => op_le) ha hb
theorem et_gt (ha : EV F a f) (hb : EV F b g) : ET F (.Compare a [.Gt] [b] pos) (e2 (cmpI gtB) f g) := cmpT_of (nomark _) (fun _ => op_gt) ha hb
theorem et_ge (ha : EV F a f) (hb : EV F b g) : ET F (.Compare a [.GtE] [b] pos) (e2 (cmpI geB) f g) := cmpT_of (nomark _) (fun _ => op_ge) ha hb
theorem eq_use {e2 : En} {x y : Vv} {neg : Bool} {M0 : Mem} {bs : List (Nat × Addr)} {ps : Ad} {ρ : Env'} {M2 : Mem} {Ex : Value → List (Str × Dat) → Mem → Prop} {Qf : Bool → En → Mem → Prop} (l2 : Lk F.np M0 bs ps e2 ρ M2) (h2 : pO F M0 bs ps ρ Ex (eqO neg x y e2) Qf) :
    OkEq M2 (dt ps x) (dt ps y) ∧ Qf (if neg then !eqD (vOf M2 (dt ps x)) (vOf M2 (dt ps y)) else eqD (vOf M2 (dt ps x)) (vOf M2 (dt ps y))) e2 M2 := by
  unfold eqO at h2
  split at h2
  · rename_i q1 q2
    split at h2
    · rename_i hc
      rw [l2.vO q1, l2.vO q2]
      refine ⟨?_, h2 M2 l2⟩
      unfold OkEq
      rw [l2.vO q1, l2.vO q2]
      exact hc
    · exact h2.elim
  · exact h2.elim
theorem ev_eq (ha : EV F a f) (hb : EV F b g) : EV F (.Compare a [.Eq] [b] pos) (eB (e2 (eqO false) f g)) := fun M0 bs ps e ρ M Q Ex lk h => re_eq (ev2 (r := eqO false) ha hb lk (pO_bind h) fun x y e2 M2 l2 h2 => by
  obtain ⟨k1, k2⟩ := eq_use l2 h2
  exact ⟨k1, k2 M2 l2⟩)
theorem ev_ne (ha : EV F a f) (hb : EV F b g) : EV F (.Compare a [.NotEq] [b] pos) (eB (e2 (eqO true) f g)) := fun M0 bs ps e ρ M Q Ex lk h => re_ne (ev2 (r := eqO true) ha hb lk (pO_bind h) fun x y e2 M2 l2 h2 => by
  obtain ⟨k1, k2⟩ := eq_use l2 h2
  exact ⟨k1, k2 M2 l2⟩)
theorem et_eq (ha : EV F a f) (hb : EV F b g) : ET F (.Compare a [.Eq] [b] pos) (e2 (eqO false) f g) := fun M0 bs ps e ρ M Q Ex lk h => rt_eq (ev2 (r := eqO false) ha hb lk h fun x y e2 M2 l2 h2 => eq_use l2 h2)
theorem et_ne (ha : EV F a f) (hb : EV F b g) : ET F (.Compare a [.NotEq] [b] pos) (e2 (eqO true) f g) := fun M0 bs ps e ρ M Q Ex lk h => rt_ne (ev2 (r := eqO true) ha hb lk h fun x y e2 M2 l2 h2 => eq_use l2 h2)
theorem in_use {e2 : En} {x y : Vv} {neg : Bool} {M0 : Mem} {bs : List (Nat × Addr)} {ps : Ad} {ρ : Env'} {M2 : Mem} {Ex : Value → List (Str × Dat) → Mem → Prop} {Qf : Bool → En → Mem → Prop} (l2 : Lk F.np M0 bs ps e2 ρ M2) (h2 : pO F M0 bs ps ρ Ex (inO neg x y e2) Qf) :
    ∃ l, OkIn M2 (dt ps x) (dt ps y) l ∧ Qf (if neg then !inD (dt ps x) l else inD (dt ps x) l) e2 M2 := by
  unfold inO at h2
  split at h2
  · rename_i q
    split at h2
    · rename_i hc
      exact ⟨_, ⟨l2.rdS q, hc.1, hc.2⟩, h2 M2 l2⟩
    · exact h2.elim
  · exact h2.elim
theorem ev_in (ha : EV F a f) (hb : EV F b g) (hm : behindInMarks .In b = false := by rfl) : EV F (.Compare a [.In] [b] pos) (eB (e2 (inO false) f g)) := fun M0 bs ps e ρ M Q Ex lk h => re_in (ev2 (r := inO false) ha hb lk (pO_bind h) fun x y e2 M2 l2 h2 => by
  obtain ⟨l, k1, k2⟩ := in_use l2 h2
  exact ⟨l, k1, k2 M2 l2⟩) hm
theorem ev_nin (ha : EV F a f) (hb : EV F b g) (hm : behindInMarks .NotIn b = false := by rfl) : EV F (.Compare a [.NotIn] [b] pos) (eB (e2 (inO true) f g)) := fun M0 bs ps e ρ M Q Ex lk h => re_nin (ev2 (r := inO true) ha hb lk (pO_bind h) fun x y e2 M2 l2 h2 => by
  obtain ⟨l, k1, k2⟩ := in_use l2 h2
  exact ⟨l, k1, k2 M2 l2⟩) hm
theorem et_in (ha : EV F a f) (hb : EV F b g) (hm : behindInMarks .In b = false := by rfl) : ET F (.Compare a [.In] [b] pos) (e2 (inO false) f g) := fun M0 bs ps e ρ M Q Ex lk h => rt_in (ev2 (r := inO false) ha hb lk h fun x y e2 M2 l2 h2 => in_use l2 h2) hm
theorem et_nin (ha : EV F a f) (hb : EV F b g) (hm : behindInMarks .NotIn b = false := by rfl) : ET F (.Compare a [.NotIn] [b] pos) (e2 (inO true) f g) := fun M0 bs ps e ρ M Q Ex lk h => rt_nin (ev2 (r := inO true) ha hb lk h fun x y e2 M2 l2 h2 => in_use l2 h2) hm
theorem ev_isN {j : Nat} {p2 : Pos} (ha : EV F a f) : EV F (.Compare a [.Is] [.Constant .none j p2] pos) (eB (e1 (isNO false) f)) := fun M0 bs ps e ρ M Q Ex lk h => re_isN (ev1 (r := isNO false) ha lk (pO_bind h) fun x e2 M2 l2 h2 => by
  cases x with
  | d x => cases x <;> exact h2 M2 l2 M2 l2
  | sl i => exact h2 M2 l2 M2 l2)
theorem ev_notN {j : Nat} {p2 : Pos} (ha : EV F a f) : EV F (.Compare a [.IsNot] [.Constant .none j p2] pos) (eB (e1 (isNO true) f)) := fun M0 bs ps e ρ M Q Ex lk h => re_notN (ev1 (r := isNO true) ha lk (pO_bind h) fun x e2 M2 l2 h2 => by
  cases x with
  | d x => cases x <;> exact h2 M2 l2 M2 l2
  | sl i => exact h2 M2 l2 M2 l2)
theorem et_isN {j : Nat} {p2 : Pos} (ha : EV F a f) : ET F (.Compare a [.Is] [.Constant .none j p2] pos) (e1 (isNO false) f) := fun M0 bs ps e ρ M Q Ex lk h => rt_isN (ev1 (r := isNO false) ha lk h fun x e2 M2 l2 h2 => by
  cases x with
  | d x => cases x <;> exact h2 M2 l2
  | sl i => exact h2 M2 l2)
theorem et_notN {j : Nat} {p2 : Pos} (ha : EV F a f) : ET F (.Compare a [.IsNot] [.Constant .none j p2] pos) (e1 (isNO true) f) := fun M0 bs ps e ρ M Q Ex lk h => rt_notN (ev1 (r := isNO true) ha lk h fun x e2 M2 l2 h2 => by
  cases x with
  | d x => cases x <;> exact h2 M2 l2
  | sl i => exact h2 M2 l2)
theorem tyO_ok {e2 : En} {x : Vv} {M0 : Mem} {bs : List (Nat × Addr)} {ps : Ad} {ρ : Env'} {M2 : Mem} (l2 : Lk F.np M0 bs ps e2 ρ M2) {t : String} (h : tyO e2 x = some t) : tyN M2 (dt ps x) = some t := by
  cases x with
  | d x => cases x <;> first | exact h | cases h
  | sl i =>
    unfold tyO at h
    cases q : e2[i]? with
    | none => simp only [q] at h; cases h
    | some s =>
      simp only [q] at h
      cases s with
      | own l =>
        have := (l2.own i l q).2
        show (match M2 (ps i) with | some (.lst _) => some "list" | _ => none) = _
        rw [this]; exact h
      | _ => cases h
theorem ev_isi (G : BI F.S.mg) {x : Str} (T : String) {p p2 : Pos} (ha : EV F a f) (hx : x ∈ bis := by decide +kernel) (hb : bootBuiltins x = some (.type T) := by decide +kernel)
    (hg : GlN F.S "isinstance" := by rfl) (hg2 : GlN F.S x := by rfl) (hn : x ≠ "__name__" := by decide) (hd : (x == ("__debug__" : Str)) = false := by decide) (hs : ∀ env, starEach [a, .Name x p2] env = (false, eval a env) :: starEach [.Name x p2] env := by intro _; rfl) :
    EV F (.Call (.Name "isinstance" p) [a, .Name x p2] [] pos) (eB (e1 (isiO T) f)) := fun M0 bs ps e ρ M Q Ex lk h => re_isi (S := F.sx Ex) G T (ev1 (r := isiO T) ha lk (pO_bind h) fun x e2 M2 l2 h2 => by
  unfold isiO at h2
  split at h2
  · rename_i q
    split at h2
    · rename_i q2
      exact ⟨_, tyO_ok l2 q, _, q2, h2 M2 l2 M2 l2⟩
    · exact h2.elim
  · exact h2.elim) hx hb hg hg2 hn hd hs
/-- a truth value as a test -/
theorem et_v (ha : EV F a f) (he : ∀ env whole, isTrue a env whole = (do let v ← whole; standAt a.pos; holding [v] (truthy v)) := by intro _ _; rfl) : ET F a (tV f) := fun M0 bs ps e ρ M Q Ex lk h => rt_re (ev1 ha lk h fun x e2 M2 l2 h2 => by
  split at h2
  · exact ⟨_, rfl, h2 M2 l2⟩
  · exact h2.elim) he
variable {t u v : En → O Bool}
theorem et_not (ha : ET F a t) : ET F (.UnaryOp .Not a pos) (tNot t) := fun M0 bs ps e ρ M Q Ex lk h => rt_not (ha _ _ _ _ _ _ _ _ lk (pO_imp (pO_bind h) fun b e1 M1 l1 h1 => h1 M1 l1))
theorem et_w (ha : EW F a t) : ET F a t := fun M0 bs ps e ρ M Q Ex lk h => rt_rw (ha _ _ _ _ _ _ _ _ lk h)
theorem ew_and1 (ha : ET F a t) : EW F (.BoolOp .And [a] pos) t := fun M0 bs ps e ρ M Q Ex lk h => rw_and1 (ha _ _ _ _ _ _ _ _ lk h)
theorem ew_or1 (ha : ET F a t) : EW F (.BoolOp .Or [a] pos) t := fun M0 bs ps e ρ M Q Ex lk h => rw_or1 (ha _ _ _ _ _ _ _ _ lk h)
theorem ew_and {r : List Expr} (ha : ET F a t) (hb : EW F (.BoolOp .And (b :: r) pos) u) : EW F (.BoolOp .And (a :: b :: r) pos) (tAnd t u) := fun M0 bs ps e ρ M Q Ex lk h => rw_and (ha _ _ _ _ _ _ _ _ lk (pO_imp (pO_bind h) fun k e1 M1 l1 h1 => by
  cases k with
  | true => exact ⟨fun _ => hb _ _ _ _ _ _ _ _ l1 h1, (fun q => nomatch q)⟩
  | false => exact ⟨(fun q => nomatch q), fun _ => h1 M1 l1⟩))
theorem ew_or {r : List Expr} (ha : ET F a t) (hb : EW F (.BoolOp .Or (b :: r) pos) u) : EW F (.BoolOp .Or (a :: b :: r) pos) (tOr t u) := fun M0 bs ps e ρ M Q Ex lk h => rw_or (ha _ _ _ _ _ _ _ _ lk (pO_imp (pO_bind h) fun k e1 M1 l1 h1 => by
  cases k with
  | false => exact ⟨fun _ => hb _ _ _ _ _ _ _ _ l1 h1, (fun q => nomatch q)⟩
  | true => exact ⟨(fun q => nomatch q), fun _ => h1 M1 l1⟩))
theorem ev_one {op : PySem.BoolOp} (ha : EV F a f) : EV F (.BoolOp op [a] pos) f := fun M0 bs ps e ρ M Q Ex lk h => re_one (ha _ _ _ _ _ _ _ _ lk h)
theorem ev_and {r : List Expr} (ha : EV F a f) (hb : EV F (.BoolOp .And (b :: r) pos) g) : EV F (.BoolOp .And (a :: b :: r) pos) (eAnd f g) := fun M0 bs ps e ρ M Q Ex lk h => re_and (ha _ _ _ _ _ _ _ _ lk (pO_imp (pO_bind h) fun k e1 M1 l1 h1 => by
  split at h1
  · exact ⟨true, rfl, fun _ => hb _ _ _ _ _ _ _ _ l1 h1, (fun q => nomatch q)⟩
  · exact ⟨false, rfl, (fun q => nomatch q), fun _ => h1 M1 l1⟩
  · exact h1.elim))
theorem ev_or {r : List Expr} (ha : EV F a f) (hb : EV F (.BoolOp .Or (b :: r) pos) g) : EV F (.BoolOp .Or (a :: b :: r) pos) (eOr f g) := fun M0 bs ps e ρ M Q Ex lk h => re_or (ha _ _ _ _ _ _ _ _ lk (pO_imp (pO_bind h) fun k e1 M1 l1 h1 => by
  split at h1
  · exact ⟨false, rfl, fun _ => hb _ _ _ _ _ _ _ _ l1 h1, (fun q => nomatch q)⟩
  · exact ⟨true, rfl, (fun q => nomatch q), fun _ => h1 M1 l1⟩
  · exact h1.elim))
theorem ev_not (ha : EV F a f) : EV F (.UnaryOp .Not a pos) (eB (tNot (tV f))) := fun M0 bs ps e ρ M Q Ex lk h => re_not (ha _ _ _ _ _ _ _ _ lk (pO_imp (pO_bind (pO_bind (pO_bind h))) fun k e1 M1 l1 h1 => by
  split at h1
  · exact ⟨_, rfl, h1 M1 l1 M1 l1 M1 l1⟩
  · exact h1.elim))
theorem ev_ifE (hc : ET F c t) (ha : EV F a f) (hb : EV F b g) : EV F (.IfExp c a b pos) (eIf t f g) := fun M0 bs ps e ρ M Q Ex lk h => re_ifE (hc _ _ _ _ _ _ _ _ lk (pO_imp (pO_bind h) fun k e1 M1 l1 h1 => by
  cases k with
  | true => exact ⟨fun _ => ha _ _ _ _ _ _ _ _ l1 h1, (fun q => nomatch q)⟩
  | false => exact ⟨(fun q => nomatch q), fun _ => hb _ _ _ _ _ _ _ _ l1 h1⟩))
theorem et_ch {op op' : CmpOp} {g0 g1 : Int → Int → Bool} (ho : ∀ X, OpR X (compareOp op) (rI0 fun i j => .bl (g0 i j))) (ho' : ∀ X, OpR X (compareOp op') (rI0 fun i j => .bl (g1 i j))) (ha : EV F a f) (hb : EV F b g) (hc : EV F c h') (hm : lastMarks [op, op'] [b, c] = false := by rfl) :
    ET F (.Compare a [op, op'] [b, c] pos) (tCh g0 g1 f g h') := fun M0 bs ps e ρ M Q Ex lk h => rt_ch ho ho' hm (ev2 ha hb lk h fun x y e2 M2 l2 h2 => by
  split at h2
  · rename_i i j
    refine ⟨i, j, rfl, rfl, fun hg => ?_, fun hg => ?_⟩
    · rw [if_pos hg] at h2
      refine hc _ _ _ _ _ _ _ _ l2 (pO_imp (pO_bind h2) fun z e3 M3 l3 h3 => ?_)
      split at h3
      · exact ⟨_, rfl, h3 M3 l3⟩
      · exact h3.elim
    · rw [hg] at h2
      exact h2 M2 l2
  · exact h2.elim)
theorem ev_ch {op op' : CmpOp} {g0 g1 : Int → Int → Bool} (ho : ∀ X, OpR X (compareOp op) (rI0 fun i j => .bl (g0 i j))) (ho' : ∀ X, OpR X (compareOp op') (rI0 fun i j => .bl (g1 i j))) (ha : EV F a f) (hb : EV F b g) (hc : EV F c h') (hm : lastMarks [op, op'] [b, c] = false := by rfl) :
    EV F (.Compare a [op, op'] [b, c] pos) (eB (tCh g0 g1 f g h')) := fun M0 bs ps e ρ M Q Ex lk h => re_ch ho ho' hm (ev2 ha hb lk (pO_bind h) fun x y e2 M2 l2 h2 => by
  split at h2
  · rename_i i j
    refine ⟨i, j, rfl, rfl, fun hg => ?_, fun hg => ?_⟩
    · rw [if_pos hg] at h2
      refine hc _ _ _ _ _ _ _ _ l2 (pO_imp (pO_bind h2) fun z e3 M3 l3 h3 => ?_)
      split at h3
      · exact ⟨_, rfl, h3 M3 l3 M3 l3⟩
      · exact h3.elim
    · rw [hg] at h2
      exact h2 M2 l2 M2 l2
  · exact h2.elim)
/-! arguments, displays -/
variable {fa ga : En → O (List Vv)} {x : Expr} {es : List Expr}
theorem ea_nil : EA F [] aNil := fun M0 bs ps e ρ M Q Ex lk h => ra_nil (h M lk)
theorem ea_cons (ha : EV F x f) (hb : EA F es ga) (hs : ∀ env, starEach (x :: es) env = (false, eval x env) :: starEach es env := by intro _; rfl) : EA F (x :: es) (aCons f ga) := fun M0 bs ps e ρ M Q Ex lk h =>
  ra_cons (ha _ _ _ _ _ _ _ _ lk (pO_imp (pO_bind h) fun a e1 M1 l1 h1 => hb _ _ _ _ _ _ _ _ l1 (pO_imp (pO_bind h1) fun as e2 M2 l2 h2 => h2 M2 l2))) hs
theorem ev_tup {n : Nat} (ha : EA F es fa) : EV F (.Tuple es n pos) (e1 tupO fa) := fun M0 bs ps e ρ M Q Ex lk h => re_tup (ha _ _ _ _ _ _ _ _ lk (pO_imp (pO_bind h) fun vs e2 M2 l2 h2 => by
  unfold tupO at h2
  split at h2
  · rename_i q
    split at h2
    · rw [allD_dt q]
      exact ⟨by assumption, h2 M2 l2⟩
    · exact h2.elim
  · exact h2.elim))
theorem el_dsp (ha : EA F es fa) : EL F (.List es pos) (e1 dspO fa) := fun M0 bs ps e ρ M Q Ex lk h => re_thw (rl_dsp (ha _ _ _ _ _ _ _ _ lk (pO_imp (pO_bind h) fun vs e2 M2 l2 h2 => by
  unfold dspO at h2
  split at h2
  · rename_i q
    split at h2
    · rw [allD_dt q]
      exact ⟨by assumption, fun p _ hp => h2 M2 l2 p hp⟩
    · exact h2.elim
  · exact h2.elim)))
theorem el_cat (ha : EV F a f) (hb : EV F b g) : EL F (.BinOp a .Add b pos) (e2 catO f g) := fun M0 bs ps e ρ M Q Ex lk h => re_thw (rl_cat (ev2 ha hb lk h fun x y e2 M2 l2 h2 => by
  unfold catO at h2
  split at h2
  · rename_i q1 q2
    split at h2
    · exact ⟨_, _, l2.rdN q1, l2.rdN q2, by assumption, fun p _ hp => h2 M2 l2 p hp⟩
    · exact h2.elim
  · exact h2.elim))
theorem el_list (G : BI F.S.mg) {p : Pos} (ha : EV F a f) (hg : GlN F.S "list" := by rfl) (hs : ∀ env, starEach [a] env = (false, eval a env) :: starEach [] env := by intro _; rfl) : EL F (.Call (.Name "list" p) [a] [] pos) (e1 listO f) := fun M0 bs ps e ρ M Q Ex lk h => re_thw (rl_list (S := F.sx Ex) G (ev1 ha lk h fun x e2 M2 l2 h2 => by
  unfold listO at h2
  split at h2
  · rename_i q
    exact ⟨_, l2.rdS q, fun p _ hp => h2 M2 l2 p hp⟩
  · exact h2.elim) hg hs)
theorem el_rg1 (G : BI F.S.mg) {p p2 pos2 : Pos} (ha : EV F a f) (hg : GlN F.S "list" := by rfl) (hg2 : GlN F.S "range" := by rfl)
    (hs : ∀ env, starEach [a] env = (false, eval a env) :: starEach [] env := by intro _; rfl) : EL F (.Call (.Name "list" p) [.Call (.Name "range" p2) [a] [] pos2] [] pos) (e1 rg1O f) := fun M0 bs ps e ρ M Q Ex lk h => re_thw (rl_rg1 (S := F.sx Ex) G (ev1 ha lk h fun x e2 M2 l2 h2 => by
  unfold rg1O at h2
  split at h2
  · split at h2
    · rename_i q
      exact ⟨_, rfl, by unfold rgOk at q; have q9 := of_decide_eq_true q; exact q9, fun p _ hp => h2 M2 l2 p hp⟩
    · exact h2.elim
  · exact h2.elim) hg hg2 hs)
theorem el_rg2 (G : BI F.S.mg) {p p2 pos2 : Pos} (ha : EV F a f) (hb : EV F b g) (hg : GlN F.S "list" := by rfl) (hg2 : GlN F.S "range" := by rfl)
    (hs : ∀ env, starEach [a, b] env = (false, eval a env) :: starEach [b] env := by intro _; rfl) (hs2 : ∀ env, starEach [b] env = (false, eval b env) :: starEach [] env := by intro _; rfl) : EL F (.Call (.Name "list" p) [.Call (.Name "range" p2) [a, b] [] pos2] [] pos) (e2 rg2O f g) := fun M0 bs ps e ρ M Q Ex lk h => re_thw (rl_rg2 (S := F.sx Ex) G (ev2 ha hb lk h fun x y e2 M2 l2 h2 => by
  unfold rg2O at h2
  split at h2
  · split at h2
    · rename_i q
      exact ⟨_, _, rfl, rfl, by unfold rgOk at q; have q9 := of_decide_eq_true q; exact q9, fun p _ hp => h2 M2 l2 p hp⟩
    · exact h2.elim
  · exact h2.elim) hg hg2 hs hs2)
theorem ev_fr {lf : En → O (List Dat)} (ha : EL F a lf) : EV F a (eFr lf) := fun M0 bs ps e ρ M Q Ex lk h => re_frR (ha _ _ _ _ _ _ _ _ lk (pO_imp (pO_bind h) fun l e1 M1 l1 h1 p hp => ⟨p, l, rfl, mup_same, by rw [mdel_mup hp]; exact h1 M1 l1⟩))
/-! slices -/
def EP (F : Fx) (o : Option Expr) (f : En → O (Option Int)) : Prop := ∀ M0 bs ps e ρ M (T : Option Int → Mem → Prop) Ex, Lk F.np M0 bs ps e ρ M → pO F M0 bs ps ρ Ex (f e) (fun a _ M' => T a M') → RO (F.sx Ex) ρ M o T
def pNone : En → O (Option Int) := fun e => .ok none e
def pSome (f : En → O Vv) : En → O (Option Int) := fun e => (f e).bind fun a e1 => match a with
  | .d (.int i) => .ok (some i) e1
  | _ => .no
theorem ep_none : EP F none pNone := fun M0 bs ps e ρ M T Ex lk h => h M lk
theorem ep_some (ha : EV F a f) : EP F (some a) (pSome f) := fun M0 bs ps e ρ M T Ex lk h => ev1 ha lk h fun x e2 M2 l2 h2 => by
  split at h2
  · exact ⟨_, rfl, h2 M2 l2⟩
  · exact h2.elim
def eSl {β : Type} (r : Vv → Option Int → Option Int → En → O β) (f : En → O Vv) (lo hi : En → O (Option Int)) : En → O β := fun e => (f e).bind fun a e1 => (lo e1).bind fun l e2 => (hi e2).bind fun u e3 => r a l u e3
theorem ev_sl {lo hi : Option Expr} {p2 : Pos} {fl fu : En → O (Option Int)} (ha : EV F a f) (hl : EP F lo fl) (hu : EP F hi fu) : EV F (.Subscript a (.Slice lo hi none p2) pos) (eSl sliO f fl fu) := fun M0 bs ps e ρ M Q Ex lk h =>
  re_sli (ha _ _ _ _ _ _ _ _ lk (pO_imp (pO_bind h) fun x e1 M1 l1 h1 => hl _ _ _ _ _ _ _ _ l1 (pO_imp (pO_bind h1) fun l e2 M2 l2 h2 => hu _ _ _ _ _ _ _ _ l2 (pO_imp (pO_bind h2) fun u e3 M3 l3 h3 => by
    unfold sliO at h3
    split at h3
    · exact .inl ⟨_, rfl, h3 M3 l3⟩
    · split at h3
      · rename_i q
        exact .inr ⟨_, l3.rdL q, h3 M3 l3⟩
      · exact h3.elim))))
theorem el_sl {lo hi : Option Expr} {p2 : Pos} {fl fu : En → O (Option Int)} (ha : EV F a f) (hl : EP F lo fl) (hu : EP F hi fu) : EL F (.Subscript a (.Slice lo hi none p2) pos) (eSl slO f fl fu) := fun M0 bs ps e ρ M Q Ex lk h =>
  re_thw (rl_sl (ha _ _ _ _ _ _ _ _ lk (pO_imp (pO_bind h) fun x e1 M1 l1 h1 => hl _ _ _ _ _ _ _ _ l1 (pO_imp (pO_bind h1) fun l e2 M2 l2 h2 => hu _ _ _ _ _ _ _ _ l2 (pO_imp (pO_bind h2) fun u e3 M3 l3 h3 => by
    unfold slO at h3
    split at h3
    · rename_i q
      exact ⟨_, l3.rdL q, fun p _ hp => h3 M3 l3 p hp⟩
    · exact h3.elim)))))
/-! sorted -/
def intsOf : List Dat → Option (List Int)
  | [] => some []
  | .int i :: r => (intsOf r).map (i :: ·)
  | _ :: _ => none
theorem intsOf_map : ∀ {l : List Dat} {ns : List Int}, intsOf l = some ns → l = ns.map Dat.int
  | [], _, h => by cases h; rfl
  | .int i :: r, ns, h => by
    unfold intsOf at h
    cases q : intsOf r with
    | none => rw [q] at h; cases h
    | some l => rw [q] at h; cases h; rw [intsOf_map q]; rfl
  | .non :: _, _, h => by cases h
  | .bl _ :: _, _, h => by cases h
  | .str _ :: _, _, h => by cases h
  | .ref _ :: _, _, h => by cases h
  | .tup _ :: _, _, h => by cases h
  | .lst _ :: _, _, h => by cases h
  | .frl _ :: _, _, h => by cases h
theorem intsOf_ints : ∀ ns : List Int, intsOf (ns.map Dat.int) = some ns
  | [] => rfl
  | i :: r => by
    show (intsOf (r.map Dat.int)).map (i :: ·) = _
    rw [intsOf_ints r]; rfl
/-- rising, one that is there already once -/
def insU (i : Int) : List Int → List Int
  | [] => [i]
  | j :: r => if i < j then i :: j :: r else if i = j then j :: r else j :: insU i r
def sortU (l : List Int) : List Int := l.foldr insU []
def insI (i : Int) : List Int → List Int
  | [] => [i]
  | j :: r => if i ≤ j then i :: j :: r else j :: insI i r
def sortI (l : List Int) : List Int := l.foldr insI []
theorem insU_mem {i : Int} : ∀ {l : List Int} {k : Int}, k ∈ insU i l ↔ k = i ∨ k ∈ l
  | [], k => by simp [insU]
  | j :: r, k => by
    unfold insU
    split
    · simp
    · split
      · rename_i h1 h2
        subst h2; simp
      · rw [List.mem_cons, insU_mem, List.mem_cons]
        constructor
        · rintro (h | h | h)
          · exact .inr (.inl h)
          · exact .inl h
          · exact .inr (.inr h)
        · rintro (h | h | h)
          · exact .inr (.inl h)
          · exact .inl h
          · exact .inr (.inr h)
theorem insU_pw {i : Int} : ∀ {l : List Int}, l.Pairwise (· < ·) → (insU i l).Pairwise (· < ·)
  | [], _ => by simp [insU]
  | j :: r, h => by
    obtain ⟨h1, h2⟩ := List.pairwise_cons.mp h
    unfold insU
    split
    · rename_i hij
      exact List.pairwise_cons.mpr ⟨fun k hk => by
        rcases List.mem_cons.mp hk with e | e
        · omega
        · have := h1 k e; omega, h⟩
    · split
      · exact h
      · refine List.pairwise_cons.mpr ⟨fun k hk => ?_, insU_pw h2⟩
        rcases insU_mem.mp hk with e | e
        · omega
        · exact h1 k e
theorem sortU_pw : ∀ l : List Int, (sortU l).Pairwise (· < ·)
  | [] => .nil
  | i :: r => insU_pw (sortU_pw r)
theorem sortU_mem : ∀ {l : List Int} {k : Int}, k ∈ sortU l ↔ k ∈ l
  | [], k => by simp [sortU]
  | i :: r, k => by
    show k ∈ insU i (sortU r) ↔ _
    rw [insU_mem, sortU_mem, List.mem_cons]
theorem insI_perm {i : Int} : ∀ {l : List Int}, (insI i l).Perm (i :: l)
  | [] => List.Perm.refl _
  | j :: r => by
    unfold insI
    split
    · exact List.Perm.refl _
    · exact (List.Perm.cons j insI_perm).trans (List.Perm.swap i j r)
theorem insI_pw {i : Int} : ∀ {l : List Int}, l.Pairwise (· ≤ ·) → (insI i l).Pairwise (· ≤ ·)
  | [], _ => by simp [insI]
  | j :: r, h => by
    obtain ⟨h1, h2⟩ := List.pairwise_cons.mp h
    unfold insI
    split
    · exact List.pairwise_cons.mpr ⟨fun k hk => by
        rcases List.mem_cons.mp hk with e | e
        · omega
        · have := h1 k e; omega, h⟩
    · refine List.pairwise_cons.mpr ⟨fun k hk => ?_, insI_pw h2⟩
      rcases List.mem_cons.mp (insI_perm.mem_iff.mp hk) with e | e
      · omega
      · exact h1 k e
theorem sortI_pw : ∀ l : List Int, (sortI l).Pairwise (· ≤ ·)
  | [] => .nil
  | i :: r => insI_pw (sortI_pw r)
theorem sortI_perm : ∀ l : List Int, (sortI l).Perm l
  | [] => List.Perm.refl _
  | i :: r => insI_perm.trans (List.Perm.cons i (sortI_perm r))
theorem rise_eq : ∀ {l m : List Int}, l.Pairwise (· < ·) → m.Pairwise (· < ·) → (∀ k, k ∈ l ↔ k ∈ m) → l = m
  | [], [], _, _, _ => rfl
  | [], j :: r, _, _, h => by have := (h j).mpr List.mem_cons_self; cases this
  | i :: l, [], _, _, h => by have := (h i).mp List.mem_cons_self; cases this
  | i :: l, j :: m, h1, h2, h => by
    obtain ⟨a1, a2⟩ := List.pairwise_cons.mp h1
    obtain ⟨b1, b2⟩ := List.pairwise_cons.mp h2
    have e : i = j := by
      rcases List.mem_cons.mp ((h i).mp List.mem_cons_self) with e | e
      · exact e
      · rcases List.mem_cons.mp ((h j).mpr List.mem_cons_self) with e' | e'
        · exact e'.symm
        · have := b1 i e; have := a1 j e'; omega
    subst e
    rw [rise_eq a2 b2 fun k => ?_]
    constructor
    · intro hk
      rcases List.mem_cons.mp ((h k).mp (List.mem_cons_of_mem _ hk)) with e | e
      · subst e; exact absurd (a1 k hk) (by omega)
      · exact e
    · intro hk
      rcases List.mem_cons.mp ((h k).mpr (List.mem_cons_of_mem _ hk)) with e | e
      · subst e; exact absurd (b1 k hk) (by omega)
      · exact e
theorem srt_eq : ∀ {l m : List Int}, l.Pairwise (· ≤ ·) → m.Pairwise (· ≤ ·) → l.Perm m → l = m := fun h1 h2 h => h.eq_of_pairwise (fun a b _ _ x y => by omega) h1 h2
def ssetO (a : Vv) (e : En) : O (List Dat) := match rdL e a with
  | some l => match intsOf l with
    | some ns => if ns.length ≤ 1000 ∧ (sortU ns).length < 64 then .ok ((sortU ns).map Dat.int) e else .no
    | none => .no
  | none => .no
def sortO (a : Vv) (e : En) : O (List Dat) := match rdL e a with
  | some l => match intsOf l with
    | some ns => .ok ((sortI ns).map Dat.int) e
    | none => .no
  | none => .no
theorem el_sset (G : BI F.S.mg) {p p2 pos2 : Pos} (ha : EV F a f) (hg : GlN F.S "sorted" := by rfl) (hg2 : GlN F.S "set" := by rfl) (hs : ∀ env, starEach [a] env = (false, eval a env) :: starEach [] env := by intro _; rfl)
    (hs2 : ∀ env, starEach [.Call (.Name "set" p2) [a] [] pos2] env = (false, eval (.Call (.Name "set" p2) [a] [] pos2) env) :: starEach [] env := by intro _; rfl) : EL F (.Call (.Name "sorted" p) [.Call (.Name "set" p2) [a] [] pos2] [] pos) (e1 ssetO f) :=
  fun M0 bs ps e ρ M Q Ex lk h => re_thw (rl_sset (S := F.sx Ex) G (ev1 ha lk h fun x e2 M2 l2 h2 => by
  unfold ssetO at h2
  split at h2
  · rename_i q
    split at h2
    · rename_i q2
      split at h2
      · rename_i hc
        refine ⟨_, _, by rw [← intsOf_map q2]; exact l2.rdL q, hc.1, (sortU_pw _).imp (fun h => by omega), fun k => sortU_mem, hc.2, fun ms hms p _ hp => ?_⟩
        rw [rise_eq hms.1 (sortU_pw _) fun k => (hms.2 k).trans sortU_mem.symm]
        exact h2 M2 l2 p hp
      · exact h2.elim
    · exact h2.elim
  · exact h2.elim) hg hg2 hs hs2)
theorem el_sort (G : BI F.S.mg) {p : Pos} (ha : EV F a f) (hg : GlN F.S "sorted" := by rfl) (hs : ∀ env, starEach [a] env = (false, eval a env) :: starEach [] env := by intro _; rfl) : EL F (.Call (.Name "sorted" p) [a] [] pos) (e1 sortO f) :=
  fun M0 bs ps e ρ M Q Ex lk h => re_thw (rl_sortI (S := F.sx Ex) G (ev1 ha lk h fun x e2 M2 l2 h2 => by
  unfold sortO at h2
  split at h2
  · rename_i q
    split at h2
    · rename_i q2
      refine ⟨_, by rw [← intsOf_map q2]; exact l2.rdL q, fun ms hp hs p _ hp' => ?_⟩
      rw [srt_eq hs (sortI_pw _) (hp.trans (sortI_perm _).symm)]
      exact h2 M2 l2 p hp'
    · exact h2.elim
  · exact h2.elim) hg hs)
theorem ev_kget {x : Str} {tab : List (Str × Int)} (T : KTab F.S.K F.S.w F.S.mg x tab) {p0 apos : Pos} (ha : EV F a f) (hb : EV F b g) (hg : GlN F.S x := by rfl) (hd : (x == ("__debug__" : Str)) = false := by decide)
    (hbase : ∀ env, attributeBase (.Name x p0) "get" env (eval (.Name x p0) env) = eval (.Name x p0) env := by intro _; rfl)
    (hfew : ∀ env, ((backTo pos (starEach [a, b] env)).all (fun x => !x.1) && (backToKw pos (keywordEach [] env)).all (fun x => x.1.isSome) && decide (([a, b] : List Expr).length + ([] : List Keyword).length + (if ([] : List Keyword).isEmpty then 0 else 1) < 30)) = true := by intro _; rfl)
    (hline : (apos.endLine == pos.line) = true := by rfl) (htr : ∀ env, backTo pos (starEach [a, b] env) = [(false, eval a env), (false, eval b env)] := by intro _; rfl) :
    EV F (.Call (.Attribute (.Name x p0) "get" apos) [a, b] [] pos) (e2 (kgetO tab) f g) := fun M0 bs ps e ρ M Q Ex lk h => re_kget (S := F.sx Ex) T (ev2 ha hb lk h fun x y e2 M2 l2 h2 => by
  unfold kgetO at h2
  split at h2
  · exact ⟨_, _, rfl, rfl, h2 M2 l2⟩
  · exact h2.elim) hg hd hbase hfew hline htr
end
end FL
set_option Elab.async false
set_option linter.all false
set_option autoImplicit false
set_option maxRecDepth 100000
set_option maxHeartbeats 4000000
namespace FL
open PySem PySem.Spec PyProof.Rows L2 DL
/-! ### targets, wiped slots -/
def wipeE (e : En) : List Nat → En
  | [] => e
  | v :: vs => (wipeE e vs).set v Sv.no
def setAllE (e : En) : List Nat → List Dat → En
  | i :: l, d :: ds => setAllE (e.set i (Sv.v d)) l ds
  | _, _ => e
def putE (np : Nat) (e : En) (d : Dat) : Pat → Option En
  | .nm i => if canSet np e i = true then some (e.set i (Sv.v d)) else none
  | .tp l => match d with
    | .tup ds => if ds.length = l.length ∧ l.all (canSet np e) = true then some (setAllE e l ds) else none
    | _ => none
def mrg1 : Sv → Sv → Sv
  | .own _, .own l => .own l
  | .own _, _ => .no
  | a, _ => a
def mrg (e f : En) : En := List.zipWith mrg1 e f
section
variable {np : Nat} {M0 : Mem} {bs : List (Nat × Addr)} {ps : Ad} {e : En} {ρ : Env'} {M : Mem}
theorem isOwn_set {e : En} {i j : Nat} (h : isOwn e j = false) : isOwn (e.set i Sv.no) j = false := by
  unfold isOwn at h ⊢
  by_cases hj : i = j
  · subst hj
    by_cases hl : i < e.length
    · rw [List.getElem?_set_self hl]
    · rw [List.getElem?_eq_none (by simp; omega)]
  · rw [List.getElem?_set_ne hj]; exact h
theorem isOwn_wipe {e : En} {j : Nat} (h : isOwn e j = false) : ∀ vs : List Nat, isOwn (wipeE e vs) j = false
  | [] => h
  | v :: vs => isOwn_set (isOwn_wipe h vs)
theorem Lk.wipe (lk : Lk np M0 bs ps e ρ M) : ∀ {vs : List Nat}, vs.all (fun i => !isOwn e i) = true → Lk np M0 bs ps (wipeE e vs) (wipeD ρ vs) M
  | [], _ => lk
  | v :: vs, h => by
    rw [List.all_cons, Bool.and_eq_true] at h
    refine (Lk.wipe lk h.2).wipe1 (isOwn_wipe ?_ vs)
    have := h.1
    cases q : isOwn e v with
    | false => rfl
    | true => rw [q] at this; cases this
theorem canSet_set {e : En} {i j : Nat} {d : Dat} (h : canSet np e j = true) : canSet np (e.set i (Sv.v d)) j = true := by
  unfold canSet at h ⊢
  by_cases hj : i = j
  · subst hj
    by_cases hl : i < e.length
    · rw [List.getElem?_set_self hl]
    · rw [List.getElem?_eq_none (by simp; omega)]
  · rw [List.getElem?_set_ne hj]; exact h
theorem Lk.setAll (ds : List Dat) : ∀ (l : List Nat) {e : En} {ρ : Env'} (ds : List Dat), Lk np M0 bs ps e ρ M → l.all (canSet np e) = true → Lk np M0 bs ps (setAllE e l ds) (setAllD ρ l ds) M
  | [], _, _, ds, lk, _ => by cases ds <;> exact lk
  | i :: l, _, _, [], lk, _ => lk
  | i :: l, e, ρ, d :: ds, lk, h => by
    rw [List.all_cons, Bool.and_eq_true] at h
    exact Lk.setAll ds l ds (lk.setv h.1 d) (List.all_eq_true.mpr fun j hj => canSet_set (List.all_eq_true.mp h.2 j hj))
theorem Lk.put (lk : Lk np M0 bs ps e ρ M) {p : Pat} {d : Dat} {e2 : En} (h : putE np e d p = some e2) : ∃ ρ2, p.put ρ d = some ρ2 ∧ Lk np M0 bs ps e2 ρ2 M := by
  cases p with
  | nm i =>
    simp only [putE] at h
    split at h
    · cases h; exact ⟨_, rfl, lk.setv (by assumption) d⟩
    · cases h
  | tp l =>
    cases d with
    | tup ds =>
      simp only [putE] at h
      split at h
      · rename_i hc
        cases h
        exact ⟨setAllD ρ l ds, by simp only [Pat.put, hc.1, if_true], Lk.setAll ds l ds lk hc.2⟩
      · cases h
    | _ => cases h
theorem mrg_own {e f : En} {i : Nat} {l : List Dat} (h : (mrg e f)[i]? = some (Sv.own l)) : (∃ l0, e[i]? = some (Sv.own l0)) ∧ f[i]? = some (Sv.own l) := by
  unfold mrg at h
  rw [List.getElem?_zipWith] at h
  cases a : e[i]? with
  | none => rw [a] at h; cases h
  | some x =>
    cases b : f[i]? with
    | none => rw [a, b] at h; cases h
    | some y =>
      rw [a, b] at h
      have h : some (mrg1 x y) = some (Sv.own l) := h
      cases x <;> cases y <;> first | (cases h; exact ⟨⟨_, rfl⟩, rfl⟩) | cases h
theorem mrg_v {e f : En} {i : Nat} {d : Dat} (h : (mrg e f)[i]? = some (Sv.v d)) : e[i]? = some (Sv.v d) := by
  unfold mrg at h
  rw [List.getElem?_zipWith] at h
  cases a : e[i]? with
  | none => rw [a] at h; cases h
  | some x =>
    cases b : f[i]? with
    | none => rw [a, b] at h; cases h
    | some y =>
      rw [a, b] at h
      have h : some (mrg1 x y) = some (Sv.v d) := h
      cases x <;> cases y <;> first | (cases h; rfl) | cases h
theorem Lk.mrg (lk : Lk np M0 bs ps e ρ M) {e4 : En} {ρ2 : Env'} {M4 : Mem} (l4 : Lk np M0 bs ps e4 ρ2 M4) (hl : e4.length = e.length) : Lk np M0 bs ps (FL.mrg e e4) ρ M4 where
  len := by unfold FL.mrg; rw [List.length_zipWith, hl, lk.len]; simp
  val := fun i d q => lk.val i d (mrg_v q)
  own := fun i l q => by
    obtain ⟨⟨l0, h1⟩, h2⟩ := mrg_own q
    exact ⟨(lk.own i l0 h1).1, (l4.own i l h2).2⟩
  inj := fun i j l l' q q' => l4.inj i j l l' (mrg_own q).2 (mrg_own q').2
  bor := fun i a ha => by
    obtain ⟨h1, h2, l, h3⟩ := lk.bor i a ha
    obtain ⟨_, _, l', h4⟩ := l4.bor i a ha
    refine ⟨h1, h2, l', ?_⟩
    unfold FL.mrg
    rw [List.getElem?_zipWith, h3, h4]; rfl
  new := fun i l q hb => l4.new i l (mrg_own q).2 hb
  out := l4.out
end
/-! ### comprehensions -/
def Fx.blk (F : Fx) (scope : Scope) : Fx := ⟨F.S.blk scope, F.cv, F.np⟩
def lcGo (np : Nat) (vs : List Nat) (p : Pat) (t : En → O Bool) (el : En → O Vv) : List Dat → En → List Dat → O (List Dat)
  | [], e, acc => .ok acc e
  | x :: xs, e, acc => if vs.all (fun i => !isOwn e i) = true then match putE np (wipeE e vs) x p with
    | none => .no
    | some e2 => match t e2 with
      | .ok true e3 => match el e3 with
        | .ok (.d y) e4 => if e4.length = e.length then lcGo np vs p t el xs (mrg e e4) (acc ++ [y]) else .no
        | _ => .no
      | .ok false e3 => if e3.length = e.length then lcGo np vs p t el xs (mrg e e3) acc else .no
      | _ => .no
    else .no
def tYes : En → O Bool := fun e => .ok true e
def EI (F : Fx) (ifs : List Expr) (t : En → O Bool) : Prop := ∀ M0 bs ps e ρ M (T : Bool → Mem → Prop) Ex, Lk F.np M0 bs ps e ρ M → pO F M0 bs ps ρ Ex (t e) (fun a _ M' => T a M') → RIf (F.sx Ex) ρ M ifs T
section
variable {F : Fx} {a b c x : Expr} {pos : Pos} {f g : En → O Vv} {t : En → O Bool} {es : List Expr} {fa : En → O (List Vv)}
theorem ei_nil : EI F [] tYes := fun M0 bs ps e ρ M T Ex lk h => h M lk
theorem ei_one (h : ET F c t) : EI F [c] t := fun M0 bs ps e ρ M T Ex lk h2 => h _ _ _ _ _ _ _ _ lk h2
def lcL (np : Nat) (vs : List Nat) (p : Pat) (t : En → O Bool) (el : En → O Vv) (a : Vv) (e : En) : O (List Dat) := match rdF a with
  | some ds => if ds.length ≤ 100000 then lcGo np vs p t el ds e [] else .no
  | none => .no
def lcR1 (np : Nat) (vs : List Nat) (p : Pat) (t : En → O Bool) (el : En → O Vv) (a : Vv) (e : En) : O (List Dat) := match a with
  | .d (.int n) => if n ≤ 100000 ∧ -(2 ^ 62) ≤ n then lcGo np vs p t el (rgD 0 n) e [] else .no
  | _ => .no
def lcR2 (np : Nat) (vs : List Nat) (p : Pat) (t : En → O Bool) (el : En → O Vv) (a b : Vv) (e : En) : O (List Dat) := match a, b with
  | .d (.int lo), .d (.int n) => if n - lo ≤ 100000 ∧ -(2 ^ 62) ≤ lo ∧ lo < 2 ^ 62 ∧ -(2 ^ 62) ≤ n ∧ n < 2 ^ 62 then lcGo np vs p t el (rgD lo n) e [] else .no
  | _, _ => .no
theorem lc_turn {elt : Expr} {ifs : List Expr} {scope : Scope} {vs : List Nat} {p : Pat} {M0 : Mem} {bs : List (Nat × Addr)} {ps : Ad} {ρ : Env'} {Ex : Value → List (Str × Dat) → Mem → Prop} {Qf : List Dat → En → Mem → Prop} (ht : EI (F.blk scope) ifs t) (he : EV (F.blk scope) elt f)
    {xs : List Dat} {d : Dat} {acc : List Dat} {ei : En} {M' : Mem} (lk : Lk F.np M0 bs ps ei ρ M') (h : pO F M0 bs ps ρ Ex (lcGo F.np vs p t f (d :: xs) ei acc) Qf) :
    ∃ ρ2, p.put (wipeD ρ vs) d = some ρ2 ∧ RIf ((F.sx Ex).blk scope) ρ2 M' ifs fun b M3 => (b = true → RE ((F.sx Ex).blk scope) ρ2 M3 elt fun d M4 => ∃ e5, Lk F.np M0 bs ps e5 ρ M4 ∧ pO F M0 bs ps ρ Ex (lcGo F.np vs p t f xs e5 (acc ++ [d])) Qf) ∧
      (b = false → ∃ e5, Lk F.np M0 bs ps e5 ρ M3 ∧ pO F M0 bs ps ρ Ex (lcGo F.np vs p t f xs e5 acc) Qf) := by
  unfold lcGo at h
  split at h
  · rename_i hw
    split at h
    · exact h.elim
    · rename_i e2 q
      obtain ⟨ρ2, h1, lk2⟩ := (lk.wipe hw).put q
      refine ⟨ρ2, h1, ?_⟩
      refine ht M0 bs ps e2 ρ2 M' _ (fun _ _ _ => False) lk2 ?_
      split at h
      · rename_i e3 q3
        rw [q3]
        intro M3 l3
        refine ⟨fun _ => ?_, (fun q => nomatch q)⟩
        refine he M0 bs ps e3 ρ2 M3 _ (fun _ _ _ => False) l3 ?_
        split at h
        · rename_i y e4 q4
          rw [q4]
          intro M4 l4
          split at h
          · rename_i hl
            exact ⟨_, lk.mrg l4 hl, h⟩
          · exact h.elim
        · exact h.elim
      · rename_i e3 q3
        rw [q3]
        intro M3 l3
        refine ⟨(fun q => nomatch q), fun _ => ?_⟩
        split at h
        · rename_i hl
          exact ⟨_, lk.mrg l3 hl, h⟩
        · exact h.elim
      · exact h.elim
  · exact h.elim
theorem drop_cons {α : Type} {l : List α} {i : Nat} {x : α} (h : l[i]? = some x) : l.drop i = x :: l.drop (i + 1) := by
  obtain ⟨hl, e⟩ := List.getElem?_eq_some_iff.mp h
  rw [List.drop_eq_getElem_cons hl, e]
/-- a comprehension -/
def ELc (F : Fx) (elt tg iter : Expr) (ifs : List Expr) (scope : Scope) (f : En → O (List Dat)) : Prop := ∀ M0 bs ps e ρ M (T : List Dat → Mem → Prop) Ex, Lk F.np M0 bs ps e ρ M → pO F M0 bs ps ρ Ex (f e) (fun l _ M' => T l M') → LcP (F.sx Ex) ρ M elt tg iter ifs scope T
theorem el_c {elt tg iter : Expr} {ifs : List Expr} {scope : Scope} {lf : En → O (List Dat)} (h : ELc F elt tg iter ifs scope lf) (hN : F.S.N.Nodup) : EL F (.ListComp elt [⟨tg, iter, ifs, 0⟩] scope pos) lf := fun M0 bs ps e ρ M Q Ex lk h2 => re_thw (rl_lp (S := F.sx Ex) (h _ _ _ _ _ _ _ _ lk (pO_imp h2 fun l e1 M1 l1 z p _ hp => z p hp)) hN)
theorem el_lc {elt tg iter : Expr} {ifs : List Expr} {scope : Scope} (own : List (Str × Nat)) (p : Pat) (ok : blkC F.S.N F.S.sc scope own = true) (hp : PatOk (F.S.blk scope) p tg) (hi : EV F iter g) (ht : EI (F.blk scope) ifs t) (he : EV (F.blk scope) elt f)
    (hps : ∀ i ∈ p.slots, i ∈ own.map (·.2) := by decide) (hif : ifs.length ≤ 1 := by decide) (hs : ∀ env x, foldedSetIterable iter env x = pure x := by intro _ _; rfl) : ELc F elt tg iter ifs scope (e1 (lcL F.np (own.map (·.2)) p t f) g) :=
  fun M0 bs ps e ρ M Q Ex lk h => lp_lc (S := F.sx Ex) (own := own) p ok hp (ev1 hi lk h fun x e2 M2 l2 h2 => by
    unfold lcL at h2
    split at h2
    · rename_i ds q
      split at h2
      · rename_i hl
        refine ⟨ds, rdF_fz q, hl, fun i acc M' => ∃ ei, Lk F.np M0 bs ps ei ρ M' ∧ pO F M0 bs ps ρ Ex (lcGo F.np (own.map (·.2)) p t f (ds.drop i) ei acc) (fun l _ M' => Q l M'), ⟨e2, l2, h2⟩, fun i d acc M' hd _ ⟨ei, li, hi⟩ => ?_, fun acc M' _ ⟨ei, li, hi⟩ => ?_⟩
        · rw [drop_cons hd] at hi
          exact lc_turn ht he li hi
        · rw [List.drop_length] at hi
          exact hi M' li
      · exact h2.elim
    · exact h2.elim) hps hif hs
theorem rgD_get {lo n : Int} {i : Nat} (h : lo + (i : Int) < n) : (rgD lo n)[i]? = some (.int (lo + i)) := by
  unfold rgD
  rw [List.getElem?_map, List.getElem?_range (by omega)]
  rfl
theorem rgD_len {lo n : Int} : (rgD lo n).length = (n - lo).toNat := by unfold rgD; simp
theorem el_lcR1 {elt tg : Expr} {ifs : List Expr} {scope : Scope} {p1 pos1 : Pos} (G : BI F.S.mg) (own : List (Str × Nat)) (p : Pat) (ok : blkC F.S.N F.S.sc scope own = true) (hp : PatOk (F.S.blk scope) p tg) (hi : EV F a g) (ht : EI (F.blk scope) ifs t) (he : EV (F.blk scope) elt f)
    (hps : ∀ i ∈ p.slots, i ∈ own.map (·.2) := by decide) (hif : ifs.length ≤ 1 := by decide) (hg : GlN F.S "range" := by rfl) (hs1 : ∀ env, starEach [a] env = (false, eval a env) :: starEach [] env := by intro _; rfl)
    (hs : ∀ env x, foldedSetIterable (.Call (.Name "range" p1) [a] [] pos1) env x = pure x := by intro _ _; rfl) : ELc F elt tg (.Call (.Name "range" p1) [a] [] pos1) ifs scope (e1 (lcR1 F.np (own.map (·.2)) p t f) g) :=
  fun M0 bs ps e ρ M Q Ex lk h => lp_lcR1 (S := F.sx Ex) (own := own) p G ok hp (ev1 hi lk h fun x e2 M2 l2 h2 => by
    unfold lcR1 at h2
    split at h2
    · rename_i n
      split at h2
      · rename_i hl
        refine ⟨n, rfl, hl.1, hl.2, fun i acc M' => ∃ ei, Lk F.np M0 bs ps ei ρ M' ∧ pO F M0 bs ps ρ Ex (lcGo F.np (own.map (·.2)) p t f ((rgD 0 n).drop i) ei acc) (fun l _ M' => Q l M'), ⟨e2, l2, h2⟩, fun i acc M' hd _ ⟨ei, li, hi⟩ => ?_, fun acc M' _ ⟨ei, li, hi⟩ => ?_⟩
        · rw [drop_cons (rgD_get hd)] at hi
          exact lc_turn ht he li hi
        · rw [← rgD_len, List.drop_length] at hi
          exact hi M' li
      · exact h2.elim
    · exact h2.elim) hps hif hg hs1 hs
theorem el_lcR2 {elt tg : Expr} {ifs : List Expr} {scope : Scope} {p1 pos1 : Pos} (G : BI F.S.mg) (own : List (Str × Nat)) (p : Pat) {g2 : En → O Vv} (ok : blkC F.S.N F.S.sc scope own = true) (hp : PatOk (F.S.blk scope) p tg) (hi : EV F a g) (hi2 : EV F b g2) (ht : EI (F.blk scope) ifs t) (he : EV (F.blk scope) elt f)
    (hps : ∀ i ∈ p.slots, i ∈ own.map (·.2) := by decide) (hif : ifs.length ≤ 1 := by decide) (hg : GlN F.S "range" := by rfl) (hs1 : ∀ env, starEach [a, b] env = (false, eval a env) :: starEach [b] env := by intro _; rfl) (hs2 : ∀ env, starEach [b] env = (false, eval b env) :: starEach [] env := by intro _; rfl)
    (hs : ∀ env x, foldedSetIterable (.Call (.Name "range" p1) [a, b] [] pos1) env x = pure x := by intro _ _; rfl) : ELc F elt tg (.Call (.Name "range" p1) [a, b] [] pos1) ifs scope (e2 (lcR2 F.np (own.map (·.2)) p t f) g g2) :=
  fun M0 bs ps e ρ M Q Ex lk h => lp_lcR2 (S := F.sx Ex) (own := own) p G ok hp (ev2 hi hi2 lk h fun x y e2 M2 l2 h2 => by
    unfold lcR2 at h2
    split at h2
    · rename_i lo n
      split at h2
      · rename_i hl
        refine ⟨lo, n, rfl, rfl, hl.1, hl.2, fun i acc M' => ∃ ei, Lk F.np M0 bs ps ei ρ M' ∧ pO F M0 bs ps ρ Ex (lcGo F.np (own.map (·.2)) p t f ((rgD lo n).drop i) ei acc) (fun l _ M' => Q l M'), ⟨e2, l2, h2⟩, fun i acc M' hd _ ⟨ei, li, hi⟩ => ?_, fun acc M' _ ⟨ei, li, hi⟩ => ?_⟩
        · rw [drop_cons (rgD_get hd)] at hi
          exact lc_turn ht he li hi
        · rw [← rgD_len, List.drop_length] at hi
          exact hi M' li
      · exact h2.elim
    · exact h2.elim) hps hif hg hs1 hs2 hs
end
/-! ### calls of defs -/
def toSvs (e : En) : List Vv → Option (List Sv)
  | [] => some []
  | .d x :: r => (toSvs e r).map (Sv.v x :: ·)
  | .sl i :: r => match e[i]? with
    | some (Sv.own l) => (toSvs e r).map (Sv.own l :: ·)
    | _ => none
def slotsV : List Vv → List Nat
  | [] => []
  | .d _ :: r => slotsV r
  | .sl i :: r => i :: slotsV r
def wbE (e : En) : List Vv → List Sv → En
  | .sl i :: vs, .own l :: as => (wbE e vs as).set i (Sv.own l)
  | _ :: vs, _ :: as => wbE e vs as
  | _, _ => e
def wb (M : Mem) : List Dat → List Sv → List Sv → Mem
  | .ref p :: ds, .own _ :: as, .own l :: as' => mup (wb M ds as as') p (.lst l)
  | _ :: ds, _ :: as, _ :: as' => wb M ds as as'
  | _, _, _ => M
structure Ar (M : Mem) (ds : List Dat) (as : List Sv) : Prop where
  len : ds.length = as.length
  val : ∀ (i : Nat) d, as[i]? = some (Sv.v d) → ds[i]? = some d
  own : ∀ (i : Nat) l, as[i]? = some (Sv.own l) → ∃ p, ds[i]? = some (.ref p) ∧ M p = some (.lst l)
  inj : ∀ (i j : Nat) p l l', as[i]? = some (Sv.own l) → as[j]? = some (Sv.own l') → ds[i]? = some (.ref p) → ds[j]? = some (.ref p) → i = j
def TF (cv : Str → Value) (f : List Sv → O Sv) : DSp := fun ds M Q E => ∃ as, Ar M ds as ∧ match f as with
  | .ok (.v d) as' => Q d (wb M ds as as')
  | .ok (.own l) as' => ∀ p, M p = none → Q (.ref p) (mup (wb M ds as as') p (.lst l))
  | .ok .no _ => False
  | .ex c fs as' => E (cv c) fs (wb M ds as as')
  | .no => False
def callO (f : List Sv → O Sv) (vs : List Vv) (e : En) : O Sv := match toSvs e vs with
  | some as => if (slotsV vs).Nodup then match f as with
    | .ok r as' => .ok r (wbE e vs as')
    | .ex c fs as' => .ex c fs (wbE e vs as')
    | .no => .no
    else .no
  | none => .no
section
variable {np : Nat} {M0 : Mem} {bs : List (Nat × Addr)} {ps : Ad} {e : En} {ρ : Env'} {M : Mem}
theorem toSvs_mem {e : En} : ∀ {vs : List Vv} {as : List Sv} {i : Nat} {l : List Dat}, toSvs e vs = some as → as[i]? = some (Sv.own l) → ∃ j, vs[i]? = some (.sl j) ∧ e[j]? = some (Sv.own l) ∧ j ∈ slotsV vs
  | [], _, i, l, h, q => by cases h; simp at q
  | .d x :: r, as, i, l, h, q => by
    unfold toSvs at h
    cases h1 : toSvs e r with
    | none => rw [h1] at h; cases h
    | some as' =>
      rw [h1] at h; cases h
      cases i with
      | zero => simp at q
      | succ i =>
        obtain ⟨j, a, b, c⟩ := toSvs_mem h1 (by simpa using q)
        exact ⟨j, by simpa using a, b, c⟩
  | .sl k :: r, as, i, l, h, q => by
    unfold toSvs at h
    cases h0 : e[k]? with
    | none => simp only [h0] at h; cases h
    | some s =>
      cases s with
      | own l0 =>
        simp only [h0] at h
        cases h1 : toSvs e r with
        | none => rw [h1] at h; cases h
        | some as' =>
          rw [h1] at h; cases h
          cases i with
          | zero => simp at q; subst q; exact ⟨k, rfl, h0, List.mem_cons_self⟩
          | succ i =>
            obtain ⟨j, a, b, c⟩ := toSvs_mem h1 (by simpa using q)
            exact ⟨j, by simpa using a, b, List.mem_cons_of_mem _ c⟩
      | no => simp only [h0] at h; cases h
      | v d => simp only [h0] at h; cases h
theorem toSvs_len {e : En} : ∀ {vs : List Vv} {as : List Sv}, toSvs e vs = some as → vs.length = as.length
  | [], _, h => by cases h; rfl
  | .d x :: r, as, h => by
    unfold toSvs at h
    cases h1 : toSvs e r with
    | none => rw [h1] at h; cases h
    | some as' => rw [h1] at h; cases h; simp [toSvs_len h1]
  | .sl k :: r, as, h => by
    unfold toSvs at h
    split at h
    · cases h1 : toSvs e r with
      | none => rw [h1] at h; cases h
      | some as' => rw [h1] at h; cases h; simp [toSvs_len h1]
    · cases h
theorem toSvs_val {e : En} : ∀ {vs : List Vv} {as : List Sv} {i : Nat} {d : Dat}, toSvs e vs = some as → as[i]? = some (Sv.v d) → vs[i]? = some (.d d)
  | [], _, i, l, h, q => by cases h; simp at q
  | .d x :: r, as, i, l, h, q => by
    unfold toSvs at h
    cases h1 : toSvs e r with
    | none => rw [h1] at h; cases h
    | some as' =>
      rw [h1] at h; cases h
      cases i with
      | zero => simp at q; subst q; rfl
      | succ i => simpa using toSvs_val h1 (by simpa using q)
  | .sl k :: r, as, i, l, h, q => by
    unfold toSvs at h
    split at h
    · cases h1 : toSvs e r with
      | none => rw [h1] at h; cases h
      | some as' =>
        rw [h1] at h; cases h
        cases i with
        | zero => simp at q
        | succ i => simpa using toSvs_val h1 (by simpa using q)
    · cases h
theorem slots_inj : ∀ {vs : List Vv} {i j k : Nat}, (slotsV vs).Nodup → vs[i]? = some (.sl k) → vs[j]? = some (.sl k) → i = j
  | [], _, _, _, _, h, _ => by simp at h
  | .d x :: r, i, j, k, nd, h1, h2 => by
    cases i with
    | zero => simp at h1
    | succ i => cases j with
      | zero => simp at h2
      | succ j => rw [slots_inj (vs := r) (i := i) (j := j) nd (by simpa using h1) (by simpa using h2)]
  | .sl m :: r, i, j, k, nd, h1, h2 => by
    have nd' : (m :: slotsV r).Nodup := nd
    rw [List.nodup_cons] at nd'
    have mem : ∀ {r : List Vv} {i : Nat}, r[i]? = some (.sl k) → k ∈ slotsV r := by
      intro r
      induction r with
      | nil => intro i h; simp at h
      | cons a r ih =>
        intro i h
        cases i with
        | zero => simp at h; subst h; exact List.mem_cons_self
        | succ i =>
          have := ih (i := i) (by simpa using h)
          cases a with
          | d x => exact this
          | sl n => exact List.mem_cons_of_mem _ this
    cases i with
    | zero =>
      simp at h1; subst h1
      cases j with
      | zero => rfl
      | succ j => exact absurd (mem (by simpa using h2)) nd'.1
    | succ i =>
      cases j with
      | zero =>
        simp at h2; subst h2
        exact absurd (mem (by simpa using h1)) nd'.1
      | succ j => rw [slots_inj (i := i) (j := j) nd'.2 (by simpa using h1) (by simpa using h2)]
theorem Lk.args (lk : Lk np M0 bs ps e ρ M) {vs : List Vv} {as : List Sv} (h : toSvs e vs = some as) (nd : (slotsV vs).Nodup) : Ar M (vs.map (dt ps)) as where
  len := by rw [List.length_map, toSvs_len h]
  val := fun i d q => by rw [List.getElem?_map, toSvs_val h q]; rfl
  own := fun i l q => by
    obtain ⟨j, h1, h2, _⟩ := toSvs_mem h q
    exact ⟨ps j, by rw [List.getElem?_map, h1]; rfl, (lk.own j l h2).2⟩
  inj := fun i j p l l' q q' r r' => by
    obtain ⟨k, h1, h2, _⟩ := toSvs_mem h q
    obtain ⟨k', h1', h2', _⟩ := toSvs_mem h q'
    rw [List.getElem?_map, h1] at r
    rw [List.getElem?_map, h1'] at r'
    have e1 : Dat.ref (ps k) = .ref p := Option.some.inj r
    have e2 : Dat.ref (ps k') = .ref p := Option.some.inj r'
    have e3 : ps k = ps k' := by injection e1.trans e2.symm
    have e4 := lk.inj k k' l l' h2 h2' e3
    subst e4
    exact slots_inj nd h1 h1'
theorem wbE_own {e : En} : ∀ (vs : List Vv) (as : List Sv) {j : Nat} {l : List Dat}, e[j]? = some (Sv.own l) → ∃ l', (wbE e vs as)[j]? = some (Sv.own l')
  | [], as, j, l, h => ⟨l, by unfold wbE; exact h⟩
  | .d x :: vs, [], j, l, h => ⟨l, h⟩
  | .sl i :: vs, [], j, l, h => ⟨l, h⟩
  | .d x :: vs, a :: as, j, l, h => wbE_own vs as h
  | .sl i :: vs, .no :: as, j, l, h => wbE_own vs as h
  | .sl i :: vs, .v _ :: as, j, l, h => wbE_own vs as h
  | .sl i :: vs, .own l1 :: as, j, l, h => by
    obtain ⟨l', h'⟩ := wbE_own vs as h
    show ∃ l', ((wbE e vs as).set i (Sv.own l1))[j]? = _
    by_cases hj : i = j
    · subst hj
      exact ⟨l1, List.getElem?_set_self (List.getElem?_eq_some_iff.mp h').1⟩
    · exact ⟨l', by rw [List.getElem?_set_ne hj]; exact h'⟩
theorem Lk.wb (lk : Lk np M0 bs ps e ρ M) : ∀ {vs : List Vv} {as : List Sv} (as' : List Sv), toSvs e vs = some as → Lk np M0 bs ps (wbE e vs as') ρ (FL.wb M (vs.map (dt ps)) as as')
  | [], as, as', h => by
    cases h
    cases as' <;> exact lk
  | .d x :: r, as, as', h => by
    unfold toSvs at h
    cases h1 : toSvs e r with
    | none => rw [h1] at h; cases h
    | some as1 =>
      rw [h1] at h; cases h
      cases as' with
      | nil => cases x <;> exact lk
      | cons a as' =>
        have ih := Lk.wb lk as' h1
        have e1 : FL.wb M ((.d x :: r).map (dt ps)) (Sv.v x :: as1) (a :: as') = FL.wb M (r.map (dt ps)) as1 as' := by cases x <;> rfl
        rw [e1]
        exact ih
  | .sl k :: r, as, as', h => by
    unfold toSvs at h
    split at h
    · rename_i l0 q
      cases h1 : toSvs e r with
      | none => rw [h1] at h; cases h
      | some as1 =>
        rw [h1] at h; cases h
        cases as' with
        | nil => exact lk
        | cons a as' =>
          have ih := Lk.wb lk as' h1
          cases a with
          | own l =>
            obtain ⟨l', h'⟩ := wbE_own r as' q
            exact ih.upd h' l
          | no => exact ih
          | v d => exact ih
    · cases h
theorem wb_sub {M M' : Mem} {a : Addr} : ∀ (ds : List Dat) (as as' : List Sv) {m : MO}, (∀ (k : Nat) p l0 l, as[k]? = some (Sv.own l0) → as'[k]? = some (Sv.own l) → ds[k]? = some (.ref p) → M' p = some (.lst l)) →
    (∀ m, M a = some m → (∀ (k : Nat) l0, as[k]? = some (Sv.own l0) → ds[k]? ≠ some (.ref a)) → M' a = some m) → (∀ (k : Nat) l0, as[k]? = some (Sv.own l0) → ∃ l, as'[k]? = some (Sv.own l)) → FL.wb M ds as as' a = some m → M' a = some m := by
  intro ds
  induction ds with
  | nil =>
    intro as as' m h1 h2 h3 h
    have h : M a = some m := by unfold FL.wb at h; exact h
    exact h2 m h fun k l0 _ c => by simp at c
  | cons d ds ih =>
    intro as as' m h1 h2 h3 h
    cases as with
    | nil =>
      have h : M a = some m := by cases d <;> exact h
      exact h2 m h fun k l0 c => by simp at c
    | cons b as =>
      cases as' with
      | nil =>
        have h : M a = some m := by cases d <;> cases b <;> exact h
        exact h2 m h fun k l0 c => by obtain ⟨l, z⟩ := h3 k l0 c; simp at z
      | cons b' as' =>
        have t1 : ∀ (k : Nat) p l0 l, as[k]? = some (Sv.own l0) → as'[k]? = some (Sv.own l) → ds[k]? = some (.ref p) → M' p = some (.lst l) := fun k p l0 l x y z => h1 (k + 1) p l0 l (by simpa using x) (by simpa using y) (by simpa using z)
        have t3 : ∀ (k : Nat) l0, as[k]? = some (Sv.own l0) → ∃ l, as'[k]? = some (Sv.own l) := fun k l0 x => by
          obtain ⟨l, z⟩ := h3 (k + 1) l0 (by simpa using x)
          exact ⟨l, by simpa using z⟩
        have tail : (∀ l0, b = Sv.own l0 → d ≠ .ref a) → FL.wb M ds as as' a = some m → M' a = some m := fun hne hh => ih as as' t1 (fun m hm hc => h2 m hm fun k l0 c => by
          cases k with
          | zero => simp at c; intro z; simp at z; exact hne l0 c z
          | succ k => simpa using hc k l0 (by simpa using c)) t3 hh
        cases b with
        | own l0 =>
          obtain ⟨l, hl⟩ := h3 0 l0 rfl
          have e : b' = Sv.own l := by simpa using hl
          subst e
          cases d with
          | ref p =>
            have hh : mup (FL.wb M ds as as') p (.lst l) a = some m := h
            by_cases hp : a = p
            · subst hp
              rw [mup_same] at hh
              cases hh
              exact h1 0 a l0 l rfl rfl rfl
            · rw [mup_ne hp] at hh
              exact tail (fun _ _ z => hp (by cases z; rfl)) hh
          | _ => exact tail (fun _ _ z => nomatch z) h
        | no => exact tail (fun _ z => nomatch z) (by cases d <;> exact h)
        | v x => exact tail (fun _ z => nomatch z) (by cases d <;> exact h)
theorem Ar.len' {M : Mem} {ds : List Dat} {as : List Sv} (h : Ar M ds as) : as.length = ds.length := h.len.symm
end
section
variable {F : Fx} {a b c x : Expr} {pos : Pos} {f g : En → O Vv} {t : En → O Bool} {es : List Expr} {fa : En → O (List Vv)}
def frS : Sv → En → O Vv
  | .v d, e => .ok (.d d) e
  | .own l, e => .ok (.d (.lst l)) e
  | .no, _ => .no
def owS : Sv → En → O (List Dat)
  | .own l, e => .ok l e
  | _, _ => .no
theorem wb_none {M : Mem} {p : Addr} (hp : M p = none) : ∀ (ds : List Dat) (as as' : List Sv), Ar M ds as → wb M ds as as' p = none := by
  intro ds
  have gen : ∀ (ds : List Dat) (as as' : List Sv), (∀ (i : Nat) l, as[i]? = some (Sv.own l) → ∃ q, ds[i]? = some (.ref q) ∧ M q = some (.lst l)) → wb M ds as as' p = none := by
    intro ds
    induction ds with
    | nil => intro as as' _; unfold wb; exact hp
    | cons d ds ih =>
      intro as as' h
      cases as with
      | nil => cases d <;> exact hp
      | cons b as =>
        cases as' with
        | nil => cases d <;> cases b <;> exact hp
        | cons b' as' =>
          have tl := ih as as' fun i l q => by simpa using h (i + 1) l (by simpa using q)
          cases b with
          | own l0 =>
            obtain ⟨q, h1, h2⟩ := h 0 l0 rfl
            have e : d = .ref q := by simpa using h1
            subst e
            cases b' with
            | own l =>
              show mup (wb M ds as as') q (.lst l) p = none
              rw [mup_ne fun c => by subst c; rw [hp] at h2; cases h2]
              exact tl
            | _ => exact tl
          | no => cases d <;> exact tl
          | v x => cases d <;> exact tl
  exact fun as as' h => gen ds as as' h.own
theorem ev_call {k : Nat} {n : Str} {fn : List Sv → O Sv} (D : F.S.Has n k (TF F.cv fn)) {p : Pos} (ha : EA F (x :: es) fa) (hk : k ≤ F.S.k := by exact Nat.le_of_ble_eq_true rfl) (hg : GlN F.S n := by rfl) (hd : (n == ("__debug__" : Str)) = false := by decide)
    (he : ∀ env, starEach (x :: es) env = (false, eval x env) :: starEach es env := by intro _; rfl) (hpl : ∀ env, (backTo pos (starEach es env)).any (·.1) = false := by intro _; rfl) : EV F (.Call (.Name n p) (x :: es) [] pos) (e1 (fun r e => frS r e) (e1 (callO fn) fa)) :=
  fun M0 bs ps e ρ M Q Ex lk h => re_frO (re_call (S := F.sx Ex) (T := TF F.cv fn) D (ha _ _ _ _ _ _ _ _ lk (pO_imp (pO_bind (pO_bind h)) fun vs e2 M2 l2 h2 => by
    unfold callO at h2
    split at h2
    · rename_i as q
      split at h2
      · rename_i nd
        refine ⟨as, l2.args q nd, ?_⟩
        split at h2
        · rename_i r as' q2
          rw [q2]
          have l3 := l2.wb as' q
          have h3 := h2 _ l3
          cases r with
          | v d => exact .inl (h3 _ l3)
          | own l => exact fun p hp => .inr ⟨p, l, rfl, mup_same, by rw [mdel_mup (wb_none hp _ _ _ (l2.args q nd))]; exact h3 _ l3⟩
          | no => exact h3.elim
        · rename_i cc fs as' q2
          rw [q2]
          exact h2 _ ⟨ps, ρ, l2.wb as' q⟩
        · exact h2.elim
      · exact h2.elim
    · exact h2.elim)) hk hg hd he hpl)
theorem el_call {k : Nat} {n : Str} {fn : List Sv → O Sv} (D : F.S.Has n k (TF F.cv fn)) {p : Pos} (ha : EA F (x :: es) fa) (hk : k ≤ F.S.k := by exact Nat.le_of_ble_eq_true rfl) (hg : GlN F.S n := by rfl) (hd : (n == ("__debug__" : Str)) = false := by decide)
    (he : ∀ env, starEach (x :: es) env = (false, eval x env) :: starEach es env := by intro _; rfl) (hpl : ∀ env, (backTo pos (starEach es env)).any (·.1) = false := by intro _; rfl) : EL F (.Call (.Name n p) (x :: es) [] pos) (e1 (fun r e => owS r e) (e1 (callO fn) fa)) :=
  fun M0 bs ps e ρ M Q Ex lk h => re_call (S := F.sx Ex) (T := TF F.cv fn) D (ha _ _ _ _ _ _ _ _ lk (pO_imp (pO_bind (pO_bind h)) fun vs e2 M2 l2 h2 => by
    unfold callO at h2
    split at h2
    · rename_i as q
      split at h2
      · rename_i nd
        refine ⟨as, l2.args q nd, ?_⟩
        split at h2
        · rename_i r as' q2
          rw [q2]
          have l3 := l2.wb as' q
          have h3 := h2 _ l3
          cases r with
          | v d => exact h3.elim
          | own l => exact fun p hp => h3 _ l3 p (wb_none hp _ _ _ (l2.args q nd))
          | no => exact h3.elim
        · rename_i cc fs as' q2
          rw [q2]
          exact h2 _ ⟨ps, ρ, l2.wb as' q⟩
        · exact h2.elim
      · exact h2.elim
    · exact h2.elim)) hk hg hd he hpl
theorem Ar.nil (M : Mem) : Ar M [] [] := ⟨rfl, fun i d h => by simp at h, fun i l h => by simp at h, fun i j p l l' h => by simp at h⟩
theorem ev_call0 {k : Nat} {n : Str} {fn : List Sv → O Sv} (D : F.S.Has n k (TF F.cv fn)) {p : Pos} (hk : k ≤ F.S.k := by exact Nat.le_of_ble_eq_true rfl) (hg : GlN F.S n := by rfl) (hd : (n == ("__debug__" : Str)) = false := by decide) : EV F (.Call (.Name n p) [] [] pos) (e1 (fun r e => frS r e) (e1 (callO fn) aNil)) :=
  fun M0 bs ps e ρ M Q Ex lk h => re_frO (re_call0 (S := F.sx Ex) (T := TF F.cv fn) D (by
    have h2 : pO F M0 bs ps ρ Ex ((callO fn [] e).bind fun r e => frS r e) _ := h
    refine ⟨[], Ar.nil M, ?_⟩
    unfold callO at h2
    have nd : (slotsV []).Nodup := List.nodup_nil
    simp only [toSvs, if_pos nd] at h2
    split
    · rename_i d as' q
      rw [q] at h2
      exact .inl (h2 M lk)
    · rename_i l as' q
      rw [q] at h2
      exact fun p hp => .inr ⟨p, l, rfl, mup_same, by show Q (.lst l) (mdel (mup M p (.lst l)) p); rw [mdel_mup hp]; exact h2 M lk⟩
    · rename_i as' q
      rw [q] at h2
      exact h2.elim
    · rename_i cc fs as' q
      rw [q] at h2
      exact h2 M ⟨ps, ρ, lk⟩
    · rename_i q
      rw [q] at h2
      exact h2.elim) hk hg hd)
end
end FL
set_option Elab.async false
set_option linter.all false
set_option autoImplicit false
set_option maxRecDepth 100000
set_option maxHeartbeats 4000000
namespace FL
open PySem PySem.Spec PyProof.Rows L2 DL
/-! ### statements -/
def gB {α : Type} (r : O α) (k : α → En → G) : G := match r with
  | .ok a e => k a e
  | .ex c fs e => .ex c fs e
  | .no => .no
def gNil : En → G := fun e => .nx e
def gSeq (g k : En → G) : En → G := fun e => match g e with
  | .nx e1 => k e1
  | o => o
def gSet (np i : Nat) (f : En → O Vv) : En → G := fun e => gB (f e) fun a e1 => match a with
  | .d d => if canSet np e1 i = true then .nx (e1.set i (Sv.v d)) else .no
  | .sl _ => .no
def gSetO (np i : Nat) (f : En → O (List Dat)) : En → G := fun e => gB (f e) fun l e1 => if canSet np e1 i = true then .nx (e1.set i (Sv.own l)) else .no
def gPat (np : Nat) (p : Pat) (f : En → O Vv) : En → G := fun e => gB (f e) fun a e1 => match a with
  | .d d => match putE np e1 d p with
    | some e2 => .nx e2
    | none => .no
  | .sl _ => .no
def gX (f : En → O Vv) : En → G := fun e => gB (f e) fun _ e1 => .nx e1
def gRet (f : En → O Vv) : En → G := fun e => gB (f e) fun a e1 => match a with
  | .d d => .rt (.v d) e1
  | .sl _ => .no
def gRetO (f : En → O (List Dat)) : En → G := fun e => gB (f e) fun l e1 => .rt (.own l) e1
/-- return of a slot's own list -/
def gRetS (np i : Nat) : En → G := fun e => match e[i]? with
  | some (Sv.own l) => if np ≤ i then .rt (.own l) (e.set i Sv.no) else .no
  | _ => .no
def gIf (t : En → O Bool) (p q : En → G) : En → G := fun e => gB (t e) fun b e1 => if b then p e1 else q e1
def gApp (i : Nat) (f : En → O Vv) : En → G := fun e => if isOwn e i = true then gB (f e) fun a e1 => match a, e1[i]? with
  | .d d, some (Sv.own l) => if l.length < 100000 then .nx (e1.set i (Sv.own (l ++ [d]))) else .no
  | _, _ => .no
  else .no
def gExt (i : Nat) (f : En → O Vv) : En → G := fun e => if isOwn e i = true then gB (f e) fun a e1 => match rdN e1 a, e1[i]? with
  | some l2, some (Sv.own l) => if l.length + l2.length ≤ 100000 then .nx (e1.set i (Sv.own (l ++ l2))) else .no
  | _, _ => .no
  else .no
def gSetI (i : Nat) (f g : En → O Vv) : En → G := fun e => gB (f e) fun a e1 => if isOwn e1 i = true then gB (g e1) fun b e2 => match a, b, e2[i]? with
  | .d d, .d (.int j), some (Sv.own l) => if 0 ≤ j ∧ j < l.length then .nx (e2.set i (Sv.own (l.set j.toNat d))) else .no
  | _, _, _ => .no
  else .no
def forGo (np : Nat) (p : Pat) (g : En → G) : List Dat → En → G
  | [], e => .nx e
  | x :: xs, e => match putE np e x p with
    | none => .no
    | some e1 => match g e1 with
      | .nx e2 => forGo np p g xs e2
      | .ct e2 => forGo np p g xs e2
      | .bk e2 => .nx e2
      | o => o
def gFor (np : Nat) (p : Pat) (f : En → O Vv) (g : En → G) : En → G := fun e => gB (f e) fun a e1 => match rdF a with
  | some ds => forGo np p g ds e1
  | none => .no
def gForR1 (np i : Nat) (f : En → O Vv) (g : En → G) : En → G := fun e => gB (f e) fun a e1 => match a with
  | .d (.int n) => if -(2 ^ 62) ≤ n ∧ n < 2 ^ 62 then forGo np (.nm i) g (rgD 0 n) e1 else .no
  | _ => .no
def gForR2 (np i : Nat) (f f2 : En → O Vv) (g : En → G) : En → G := fun e => gB (f e) fun a e1 => gB (f2 e1) fun b e2 => match a, b with
  | .d (.int lo), .d (.int n) => if -(2 ^ 62) ≤ lo ∧ lo < 2 ^ 62 ∧ -(2 ^ 62) ≤ n ∧ n < 2 ^ 62 then forGo np (.nm i) g (rgD lo n) e2 else .no
  | _, _ => .no
def gFrz (np i : Nat) (g : En → G) : En → G := fun e => match e[i]? with
  | some (Sv.own l) => if np ≤ i then g (e.set i (Sv.v (.lst l))) else .no
  | _ => g e
def gNo : En → G := fun _ => .no
section
variable {F : Fx} {a b c x : Expr} {pos : Pos} {f g : En → O Vv} {t : En → O Bool} {es : List Expr} {lf : En → O (List Dat)} {st : Stmt} {r sts : List Stmt} {gp gq : En → G}
theorem pG_b {α : Type} {M0 : Mem} {bs : List (Nat × Addr)} {ps : Ad} {ρ : Env'} {D : DE} {Ex : Value → List (Str × Dat) → Mem → Prop} {o : O α} {k : α → En → G} (h : pG F M0 bs D Ex (gB o k)) : pO F M0 bs ps ρ Ex o fun a e _ => pG F M0 bs D Ex (k a e) := by
  cases o with
  | ok a e => exact fun _ _ => h
  | ex c fs e => exact h
  | no => exact h
theorem st_nil : ST F [] gNil := fun M0 bs ps e ρ M D Ex lk h => rs_nil (h ps ρ M lk)
theorem st_cons (h1 : S1 F st gp) (h2 : ST F r gq) : ST F (st :: r) (gSeq gp gq) := fun M0 bs ps e ρ M D Ex lk h => rs_cons (h1 _ _ _ _ _ _ _ _ lk (by
  unfold gSeq at h
  cases q : gp e with
  | nx e1 => rw [q] at h; exact fun ps' ρ' M' lk' => h2 _ _ _ _ _ _ _ _ lk' h
  | rt v e1 => rw [q] at h; cases v <;> exact h
  | bk e1 => rw [q] at h; exact h
  | ct e1 => rw [q] at h; exact h
  | ex c fs e1 => rw [q] at h; exact h
  | no => rw [q] at h; exact h))
theorem st_one (h1 : S1 F st gp) : ST F [st] gp := fun M0 bs ps e ρ M D Ex lk h => rs_one (h1 _ _ _ _ _ _ _ _ lk h)
theorem st_frz (i : Nat) (h1 : ST F sts gp) : ST F sts (gFrz F.np i gp) := fun M0 bs ps e ρ M D Ex lk h => by
  unfold gFrz at h
  split at h
  · rename_i l q
    split at h
    · rename_i hn
      have hc : canSet F.np e i = true := by unfold canSet; rw [q]; exact decide_eq_true hn
      refine rs_frz i (lk.own i l q).1 (lk.own i l q).2 (h1 M0 bs ps _ _ _ _ _ ?_ h)
      have z := (lk.take q hc).setv (i := i) (by
        unfold canSet
        rw [List.getElem?_set_self (List.getElem?_eq_some_iff.mp q).1]) (.lst l)
      rw [List.set_set] at z
      exact z
    · exact h.elim
  · exact h1 _ _ _ _ _ _ _ _ lk h
theorem s1_no : S1 F st gNo := fun M0 bs ps e ρ M D Ex lk h => h.elim
theorem st_no : ST F sts gNo := fun M0 bs ps e ρ M D Ex lk h => h.elim
theorem s1_set (i : Nat) {y : Str} {p' : Pos} (ha : EV F a f) (hN : F.S.N.Nodup) (hi : F.S.N[i]? = some y := by rfl) (hx : Loc F.S.sc y := by first | exact Or.inl rfl | exact Or.inr rfl) (hs : ∀ env, swapsWith a (some (.Name y p')) pos.line env = pure false := by intro _; rfl)
    (hf : F.S.fn y = true ∨ F.S.sc.names.lookup y = some .local := by first | exact .inl rfl | exact .inr rfl) : S1 F (.Assign [.Name y p'] a pos) (gSet F.np i f) := fun M0 bs ps e ρ M D Ex lk h => r1_set (S := F.sx Ex) i (ha _ _ _ _ _ _ _ _ lk (pO_imp (pG_b h) fun v e1 M1 l1 h1 => by
  split at h1
  · split at h1
    · exact h1 ps _ M1 (l1.setv (by assumption) _)
    · exact h1.elim
  · exact h1.elim)) hN hi hx hs hf
theorem s1_setO (i : Nat) {y : Str} {p' : Pos} (ha : EL F a lf) (hN : F.S.N.Nodup) (hi : F.S.N[i]? = some y := by rfl) (hx : Loc F.S.sc y := by first | exact Or.inl rfl | exact Or.inr rfl) (hs : ∀ env, swapsWith a (some (.Name y p')) pos.line env = pure false := by intro _; rfl)
    (hf : F.S.fn y = true ∨ F.S.sc.names.lookup y = some .local := by first | exact .inl rfl | exact .inr rfl) : S1 F (.Assign [.Name y p'] a pos) (gSetO F.np i lf) := fun M0 bs ps e ρ M D Ex lk h => r1_set (S := F.sx Ex) i (ha _ _ _ _ _ _ _ _ lk (pO_imp (pG_b h) fun v e1 M1 l1 h1 p hp => by
  split at h1
  · exact h1 _ _ _ (l1.seto (by assumption) hp _)
  · exact h1.elim)) hN hi hx hs hf
/-- name = [..], swapped: the list stands, or is the slot's -/
theorem s1_setC (i : Nat) {y : Str} {py spos : Pos} {elt tg iter : Expr} {ifs : List Expr} {scope : Scope} (ha : ELc F elt tg iter ifs scope lf) (hN : F.S.N.Nodup) (hi : F.S.N[i]? = some y := by rfl) (hy : F.S.sc.names.lookup y = some .local := by rfl) (hk : F.S.sc.kind = .function := by rfl) (hl : (py.line == pos.line) = true := by rfl)
    (hx : (scope.names.any fun (n, k) => n == y && (k == .local || k == .cell)) = false := by rfl) : S1 F (.Assign [.Name y py] (.ListComp elt [⟨tg, iter, ifs, 0⟩] scope pos) spos) (gSet F.np i (eFr lf)) := fun M0 bs ps e ρ M D Ex lk h => r1_lp (S := F.sx Ex) i (T := fun l M1 => D.nx (ρ.set i (some (.lst l))) M1) (ha _ _ _ _ _ _ _ _ lk (pO_imp (pO_bind (pG_b h)) fun l e1 M1 l1 h1 => by
  have h1 := h1 M1 l1
  simp only at h1
  split at h1
  · exact h1 ps _ M1 (l1.setv (by assumption) _)
  · exact h1.elim)) (.inl fun l M1 z => z) hN hi hy hk hl hx
theorem s1_setCO (i : Nat) {y : Str} {py spos : Pos} {elt tg iter : Expr} {ifs : List Expr} {scope : Scope} (ha : ELc F elt tg iter ifs scope lf) (hN : F.S.N.Nodup) (hi : F.S.N[i]? = some y := by rfl) (hy : F.S.sc.names.lookup y = some .local := by rfl) (hk : F.S.sc.kind = .function := by rfl) (hl : (py.line == pos.line) = true := by rfl)
    (hx : (scope.names.any fun (n, k) => n == y && (k == .local || k == .cell)) = false := by rfl) : S1 F (.Assign [.Name y py] (.ListComp elt [⟨tg, iter, ifs, 0⟩] scope pos) spos) (gSetO F.np i lf) := fun M0 bs ps e ρ M D Ex lk h => r1_lp (S := F.sx Ex) i (T := fun l M1 => ∀ p, M1 p = none → D.nx (ρ.set i (some (.ref p))) (mup M1 p (.lst l))) (ha _ _ _ _ _ _ _ _ lk (pO_imp (pG_b h) fun l e1 M1 l1 h1 p hp => by
  split at h1
  · exact h1 _ _ _ (l1.seto (by assumption) hp _)
  · exact h1.elim)) (.inr fun l M1 z p _ hp => z p hp) hN hi hy hk hl hx
theorem rg_pat {S : Sc} {ρ ρ2 : Env'} {M : Mem} {p : Pat} {tg : Expr} {d : Dat} {T : Env' → Mem → Prop} (hp : PatOk S p tg) (e : p.put ρ d = some ρ2) (h : T ρ2 M) : RG S ρ M tg d T := rg_of fun X fit H0 M0 B0 w => ⟨_, hp X fit, fun v σ H B sl rp rd fr => by
  cases p with
  | nm i =>
    cases e
    exact ⟨_, M, B, sl.set rd i, rp, Fr.refl _ _ _, h⟩
  | tp l =>
    cases d with
    | tup ds =>
      simp only [Pat.put] at e
      split at e
      · rename_i hl
        cases e
        obtain ⟨q, ws, rfl, h1, h2⟩ := rd.tupE
        exact ⟨q, ws, rfl, up_t rp.sub h1, by rw [← h2.length, hl], gAll_rd l (by rw [← h2.length, hl]) ⟨_, M, B, Sl.setAll l sl h2, rp, Fr.refl _ _ _, h⟩⟩
      · cases e
    | _ => cases e⟩
theorem s1_pat (p : Pat) {tg : Expr} (hp : PatOk F.S p tg) (ha : EV F a f) (hs : ∀ env, swapsWithSole [tg] a pos.line env = pure false := by intro _; rfl) (hw : ∀ env, swappedStores [tg] a env = pure none := by intro _; rfl)
    (h1 : ∀ env, (assignEach [tg] env).map (·.2) = [assign tg env] := by intro _; rfl) : S1 F (.Assign [tg] a pos) (gPat F.np p f) := fun M0 bs ps e ρ M D Ex lk h => r1_asg (S := F.sx Ex) (ha _ _ _ _ _ _ _ _ lk (pO_imp (pG_b h) fun v e1 M1 l1 h1 => by
  split at h1
  · split at h1
    · rename_i e2 q
      obtain ⟨ρ2, h2, l2⟩ := l1.put q
      exact rg_pat (S := F.sx Ex) (fun X fit => hp X ⟨fit.prog, fit.w, fit.K, fit.mg, fit.base, fit.N, fit.sc, fit.calm, fit.room, fit.fn, fit.own⟩) h2 (h1 ps _ M1 l2)
    · exact h1.elim
  · exact h1.elim)) hs hw h1
theorem s1_x (ha : EV F a f) (hs : ∀ env, swapsWith a none pos.line env = pure false := by intro _; rfl) : S1 F (.Expr a pos) (gX f) := fun M0 bs ps e ρ M D Ex lk h => r1_expr (S := F.sx Ex) (ha _ _ _ _ _ _ _ _ lk (pO_imp (pG_b h) fun v e1 M1 l1 h1 => h1 ps ρ M1 l1)) hs
theorem s1_ret (ha : EV F a f) : S1 F (.Return (some a) pos) (gRet f) := fun M0 bs ps e ρ M D Ex lk h => r1_ret (S := F.sx Ex) (ha _ _ _ _ _ _ _ _ lk (pO_imp (pG_b h) fun v e1 M1 l1 h1 => by
  split at h1
  · exact h1 ps ρ M1 l1
  · exact h1.elim))
theorem s1_retO (ha : EL F a lf) : S1 F (.Return (some a) pos) (gRetO lf) := fun M0 bs ps e ρ M D Ex lk h => r1_ret (S := F.sx Ex) (ha _ _ _ _ _ _ _ _ lk (pO_imp (pG_b h) fun v e1 M1 l1 h1 p hp => h1 ps ρ M1 p l1 hp))
theorem mup_mdel {M : Mem} {p : Addr} {m : MO} (h : M p = some m) : mup (mdel M p) p m = M := by
  funext b
  by_cases hb : b = p
  · subst hb; rw [mup_same, h]
  · rw [mup_ne hb, mdel_ne hb]
theorem s1_retS (i : Nat) {y : Str} {p' : Pos} (hN : F.S.N[i]? = some y := by rfl) (hv : Vis F.S.sc y := by first | exact Or.inl rfl | exact Or.inr (Or.inl rfl) | exact Or.inr (Or.inr rfl)) (hd : (y == ("__debug__" : Str)) = false := by decide) (hcd : (y == ("__classdict__" : Str)) = false := by decide) : S1 F (.Return (some (.Name y p')) pos) (gRetS F.np i) :=
  fun M0 bs ps e ρ M D Ex lk h => by
    unfold gRetS at h
    split at h
    · rename_i l q
      split at h
      · rename_i hn
        have hc : canSet F.np e i = true := by unfold canSet; rw [q]; exact decide_eq_true hn
        have z := h ps ρ (mdel M (ps i)) (ps i) (lk.take q hc) mdel_same
        rw [mup_mdel (lk.own i l q).2] at z
        exact r1_ret (S := F.sx Ex) (re_nm (S := F.sx Ex) i (lk.own i l q).1 z hN hv hd hcd)
      · exact h.elim
    · exact h.elim
theorem s1_if (ht : ET F a t) (hp : ST F r gp) (hq : ST F sts gq) : S1 F (.If a r sts pos) (gIf t gp gq) := fun M0 bs ps e ρ M D Ex lk h => r1_if (S := F.sx Ex) (ht _ _ _ _ _ _ _ _ lk (pO_imp (pG_b h) fun v e1 M1 l1 h1 => by
  cases v with
  | true => exact ⟨fun _ => hp _ _ _ _ _ _ _ _ l1 h1, (fun q => nomatch q)⟩
  | false => exact ⟨(fun q => nomatch q), fun _ => hq _ _ _ _ _ _ _ _ l1 h1⟩))
theorem s1_pass : S1 F (.Pass pos) gNil := fun M0 bs ps e ρ M D Ex lk h => r1_pass (h ps ρ M lk)
theorem isOwn_get {e : En} {i : Nat} (h : isOwn e i = true) : ∃ l, e[i]? = some (Sv.own l) := by
  unfold isOwn at h
  split at h
  · rename_i l q; exact ⟨l, q⟩
  · cases h
theorem s1_app (i : Nat) {y : Str} {p0 apos p2 : Pos} (ha : EV F b f) (hN : F.S.N[i]? = some y := by rfl) (hv : Vis F.S.sc y := by first | exact Or.inl rfl | exact Or.inr (Or.inl rfl) | exact Or.inr (Or.inr rfl)) (hd : (y == ("__debug__" : Str)) = false := by decide) (hcd : (y == ("__classdict__" : Str)) = false := by decide)
    (hbase : ∀ env, attributeBase (.Name y p0) "append" env (eval (.Name y p0) env) = eval (.Name y p0) env := by intro _; rfl)
    (hfew : ∀ env, ((backTo pos (starEach (b :: []) env)).all (fun x => !x.1) && (backToKw pos (keywordEach [] env)).all (fun x => x.1.isSome) && decide ((b :: []).length + ([] : List Keyword).length + (if ([] : List Keyword).isEmpty then 0 else 1) < 30)) = true := by intro _; rfl)
    (hline : (apos.endLine == pos.line) = true := by rfl) (hs : ∀ env, starEach [b] env = (false, eval b env) :: starEach [] env := by intro _; rfl) (hsw : ∀ env, swapsWith (.Call (.Attribute (.Name y p0) "append" apos) [b] [] pos) none p2.line env = pure false := by intro _; rfl) :
    S1 F (.Expr (.Call (.Attribute (.Name y p0) "append" apos) [b] [] pos) p2) (gApp i f) := fun M0 bs ps e ρ M D Ex lk h => by
  unfold gApp at h
  split at h
  · rename_i ho
    obtain ⟨l0, q0⟩ := isOwn_get ho
    refine r1_expr (S := F.sx Ex) (re_app (S := F.sx Ex) (re_nm (S := F.sx Ex) i (lk.own i l0 q0).1 ⟨_, l0, rfl, (lk.own i l0 q0).2, ha _ _ _ _ _ _ _ _ lk (pO_imp (pG_b h) fun v e1 M1 l1 h1 => ?_)⟩ hN hv hd hcd) hbase hfew hline hs) hsw
    split at h1
    · rename_i l q
      split at h1
      · exact ⟨l, (l1.own i l q).2, by assumption, h1 ps ρ _ (l1.upd q _)⟩
      · exact h1.elim
    · exact h1.elim
  · exact h.elim
theorem s1_ext (i : Nat) {y : Str} {p0 apos p2 : Pos} (ha : EV F b f) (hN : F.S.N[i]? = some y := by rfl) (hv : Vis F.S.sc y := by first | exact Or.inl rfl | exact Or.inr (Or.inl rfl) | exact Or.inr (Or.inr rfl)) (hd : (y == ("__debug__" : Str)) = false := by decide) (hcd : (y == ("__classdict__" : Str)) = false := by decide)
    (hbase : ∀ env, attributeBase (.Name y p0) "extend" env (eval (.Name y p0) env) = eval (.Name y p0) env := by intro _; rfl)
    (hfew : ∀ env, ((backTo pos (starEach (b :: []) env)).all (fun x => !x.1) && (backToKw pos (keywordEach [] env)).all (fun x => x.1.isSome) && decide ((b :: []).length + ([] : List Keyword).length + (if ([] : List Keyword).isEmpty then 0 else 1) < 30)) = true := by intro _; rfl)
    (hline : (apos.endLine == pos.line) = true := by rfl) (hs : ∀ env, starEach [b] env = (false, eval b env) :: starEach [] env := by intro _; rfl) (hsw : ∀ env, swapsWith (.Call (.Attribute (.Name y p0) "extend" apos) [b] [] pos) none p2.line env = pure false := by intro _; rfl) :
    S1 F (.Expr (.Call (.Attribute (.Name y p0) "extend" apos) [b] [] pos) p2) (gExt i f) := fun M0 bs ps e ρ M D Ex lk h => by
  unfold gExt at h
  split at h
  · rename_i ho
    obtain ⟨l0, q0⟩ := isOwn_get ho
    refine r1_expr (S := F.sx Ex) (re_ext (S := F.sx Ex) (re_nm (S := F.sx Ex) i (lk.own i l0 q0).1 ⟨_, l0, rfl, (lk.own i l0 q0).2, ha _ _ _ _ _ _ _ _ lk (pO_imp (pG_b h) fun v e1 M1 l1 h1 => ?_)⟩ hN hv hd hcd) hbase hfew hline hs) hsw
    split at h1
    · rename_i l2 l q2 q
      split at h1
      · exact ⟨l, l2, (l1.own i l q).2, l1.rdN q2, by assumption, h1 ps ρ _ (l1.upd q _)⟩
      · exact h1.elim
    · exact h1.elim
  · exact h.elim
theorem s1_setI (i : Nat) {y : Str} {p0 p2 : Pos} (ha : EV F a f) (hb : EV F b g) (hN : F.S.N[i]? = some y := by rfl) (hv : Vis F.S.sc y := by first | exact Or.inl rfl | exact Or.inr (Or.inl rfl) | exact Or.inr (Or.inr rfl)) (hd : (y == ("__debug__" : Str)) = false := by decide) (hcd : (y == ("__classdict__" : Str)) = false := by decide)
    (hag : ∀ env v, assign (.Subscript (.Name y p0) b p2) env v = (do
      let ov ← holding [v] (eval (.Name y p0) env)
      let iv ← holding [v, ov] (eval b env)
      standAt p2
      holding [v, ov, iv] (setItem ov iv v)
      release [v, ov, iv] []) := by intro _ _; rfl)
    (hs : ∀ env, swapsWithSole [.Subscript (.Name y p0) b p2] a pos.line env = pure false := by intro _; rfl) (hw : ∀ env, swappedStores [.Subscript (.Name y p0) b p2] a env = pure none := by intro _; rfl)
    (h1 : ∀ env, (assignEach [.Subscript (.Name y p0) b p2] env).map (·.2) = [assign (.Subscript (.Name y p0) b p2) env] := by intro _; rfl) : S1 F (.Assign [.Subscript (.Name y p0) b p2] a pos) (gSetI i f g) := fun M0 bs ps e ρ M D Ex lk h =>
  r1_setL (S := F.sx Ex) (ha _ _ _ _ _ _ _ _ lk (pO_imp (pG_b h) fun v e1 M1 l1 h1 => by
    split at h1
    · rename_i ho
      obtain ⟨l0, q0⟩ := isOwn_get ho
      refine re_nm (S := F.sx Ex) i (l1.own i l0 q0).1 (hb _ _ _ _ _ _ _ _ l1 (pO_imp (pG_b h1) fun u e2 M2 l2 h2 => ?_)) hN hv hd hcd
      split at h2
      · rename_i d j l q
        split at h2
        · rename_i hj
          exact ⟨ps i, l, j.toNat, rfl, (l2.own i l q).2, by show Dat.int j = Dat.int (j.toNat : Int); rw [Int.toNat_of_nonneg hj.1], by omega, h2 ps ρ _ (l2.upd q _)⟩
        · exact h2.elim
      · exact h2.elim
    · exact h1.elim)) hag hs hw h1
theorem patS {p : Pat} {tg : Expr} {Ex : Value → List (Str × Dat) → Mem → Prop} (hp : PatOk F.S p tg) : PatOk (F.sx Ex) p tg := fun X fit => hp X ⟨fit.prog, fit.w, fit.K, fit.mg, fit.base, fit.N, fit.sc, fit.calm, fit.room, fit.fn, fit.own⟩
theorem for_body {M0 : Mem} {bs : List (Nat × Addr)} {p : Pat} {D : DE} {Ex : Value → List (Str × Dat) → Mem → Prop} {d : Dat} {xs : List Dat} {e e1 : En} {ρ1 : Env'} {M1 : Mem} {ps : Ad} (hp : ST F sts gp) (q : putE F.np e d p = some e1) (lk : Lk F.np M0 bs ps e1 ρ1 M1) (h : pG F M0 bs D Ex (forGo F.np p gp (d :: xs) e))
    {J : Env' → Mem → Prop} (hJ : ∀ e2 ps2 ρ2 M2, Lk F.np M0 bs ps2 e2 ρ2 M2 → pG F M0 bs D Ex (forGo F.np p gp xs e2) → J ρ2 M2) : RS (F.sx Ex) ρ1 M1 sts { D with nx := J, ct := J, bk := D.nx } := by
  refine hp _ _ _ _ _ _ _ _ lk ?_
  unfold forGo at h
  rw [q] at h
  simp only at h
  cases z : gp e1 with
  | nx e2 => rw [z] at h; exact fun ps2 ρ2 M2 l2 => hJ e2 ps2 ρ2 M2 l2 h
  | ct e2 => rw [z] at h; exact fun ps2 ρ2 M2 l2 => hJ e2 ps2 ρ2 M2 l2 h
  | bk e2 => rw [z] at h; exact h
  | rt v e2 => rw [z] at h; cases v <;> exact h
  | ex c fs e2 => rw [z] at h; exact h
  | no => rw [z] at h; exact h
theorem put_some {M0 : Mem} {bs : List (Nat × Addr)} {p : Pat} {D : DE} {Ex : Value → List (Str × Dat) → Mem → Prop} {d : Dat} {xs : List Dat} {e : En} (h : pG F M0 bs D Ex (forGo F.np p gp (d :: xs) e)) : ∃ e1, putE F.np e d p = some e1 := by
  unfold forGo at h
  cases q : putE F.np e d p with
  | none => rw [q] at h; exact h.elim
  | some e1 => exact ⟨e1, rfl⟩
theorem s1_for (p : Pat) {tg : Expr} (hp : PatOk F.S p tg) (ha : EV F a f) (hb : ST F sts gp) (hs : ∀ env x, foldedSetIterable a env x = pure x := by intro _ _; rfl) : S1 F (.For tg a sts [] pos) (gFor F.np p f gp) := fun M0 bs ps e ρ M D Ex lk h => r1_for (S := F.sx Ex) (ha _ _ _ _ _ _ _ _ lk (pO_imp (pG_b h) fun v e1 M1 l1 h1 => by
  split at h1
  · rename_i ds q
    refine ⟨ds, rdF_fz q, fun i ρ' M' => ∃ ei psi, Lk F.np M0 bs psi ei ρ' M' ∧ pG F M0 bs D Ex (forGo F.np p gp (ds.drop i) ei), ⟨e1, ps, l1, h1⟩, fun i d ρ' M' hd ⟨ei, psi, li, hi⟩ => ?_, fun ρ' M' ⟨ei, psi, li, hi⟩ => ?_⟩
    · rw [drop_cons hd] at hi
      obtain ⟨e2, q2⟩ := put_some hi
      obtain ⟨ρ2, h2, l2⟩ := li.put q2
      exact rg_pat (S := F.sx Ex) (patS hp) h2 (for_body hb q2 l2 hi fun e3 ps3 ρ3 M3 l3 h3 => ⟨e3, ps3, l3, h3⟩)
    · rw [List.drop_length] at hi
      exact hi psi ρ' M' li
  · exact h1.elim)) hs
theorem nm_put {e e2 : En} {i : Nat} {d : Dat} {M0 : Mem} {bs : List (Nat × Addr)} {ps : Ad} {ρ : Env'} {M : Mem} (lk : Lk F.np M0 bs ps e ρ M) (q : putE F.np e d (.nm i) = some e2) : Lk F.np M0 bs ps e2 (ρ.set i (some d)) M := by
  obtain ⟨ρ2, h2, l2⟩ := lk.put q
  cases h2
  exact l2
theorem s1_forR1 (j : Nat) {y : Str} {px p pos' : Pos} (G0 : BI F.S.mg) (ha : EV F a f) (hb : ST F sts gp) (hN : F.S.N.Nodup) (hi : F.S.N[j]? = some y := by rfl) (hx : Loc F.S.sc y := by first | exact Or.inl rfl | exact Or.inr rfl) (hf : F.S.fn y = true ∨ F.S.sc.names.lookup y = some .local := by first | exact .inl rfl | exact .inr rfl)
    (hg : GlN F.S "range" := by rfl) (hs : ∀ env, starEach [a] env = [(false, eval a env)] := by intro _; rfl) (hs0 : ∀ env, starEach [a] env = (false, eval a env) :: starEach [] env := by intro _; rfl) (hfs : ∀ env x, foldedSetIterable (.Call (.Name "range" p) [a] [] pos) env x = pure x := by intro _ _; rfl) :
    S1 F (.For (.Name y px) (.Call (.Name "range" p) [a] [] pos) sts [] pos') (gForR1 F.np j f gp) := fun M0 bs ps e ρ M D Ex lk h => r1_forR (S := F.sx Ex) j G0 (ra_cons (ha _ _ _ _ _ _ _ _ lk (pO_imp (pG_b h) fun v e1 M1 l1 h1 => ra_nil (by
  split at h1
  · rename_i n
    split at h1
    · rename_i hn
      refine ⟨n, rfl, hn.1, hn.2, fun i ρ' M' => ∃ ei psi, Lk F.np M0 bs psi ei ρ' M' ∧ pG F M0 bs D Ex (forGo F.np (.nm j) gp ((rgD 0 n).drop i) ei), ⟨e1, ps, l1, h1⟩, fun i ρ' M' hd ⟨ei, psi, li, hi⟩ => ?_, fun ρ' M' ⟨ei, psi, li, hi⟩ => ?_⟩
      · rw [drop_cons (rgD_get (by omega))] at hi
        obtain ⟨e2, q2⟩ := put_some hi
        have l2 := nm_put li q2
        rw [Int.zero_add] at l2
        exact for_body hb q2 l2 hi fun e3 ps3 ρ3 M3 l3 h3 => ⟨e3, ps3, l3, h3⟩
      · have e9 : (rgD 0 n).length = n.toNat := by rw [rgD_len, Int.sub_zero]
        rw [← e9, List.drop_length] at hi
        exact hi psi ρ' M' li
    · exact h1.elim
  · exact h1.elim))) hs0) hN hi hx hf hg hs hfs
theorem s1_forR2 (j : Nat) {y : Str} {px p pos' : Pos} (G0 : BI F.S.mg) (ha : EV F a f) (ha2 : EV F b g) (hb : ST F sts gp) (hN : F.S.N.Nodup) (hi : F.S.N[j]? = some y := by rfl) (hx : Loc F.S.sc y := by first | exact Or.inl rfl | exact Or.inr rfl) (hf : F.S.fn y = true ∨ F.S.sc.names.lookup y = some .local := by first | exact .inl rfl | exact .inr rfl)
    (hg : GlN F.S "range" := by rfl) (hs : ∀ env, starEach [a, b] env = [(false, eval a env), (false, eval b env)] := by intro _; rfl) (hs2 : ∀ env, starEach [b] env = [(false, eval b env)] := by intro _; rfl) (hs0 : ∀ env, starEach [a, b] env = (false, eval a env) :: starEach [b] env := by intro _; rfl) (hs1 : ∀ env, starEach [b] env = (false, eval b env) :: starEach [] env := by intro _; rfl)
    (hfs : ∀ env x, foldedSetIterable (.Call (.Name "range" p) [a, b] [] pos) env x = pure x := by intro _ _; rfl) :
    S1 F (.For (.Name y px) (.Call (.Name "range" p) [a, b] [] pos) sts [] pos') (gForR2 F.np j f g gp) := fun M0 bs ps e ρ M D Ex lk h => r1_forR2 (S := F.sx Ex) j G0 (ra_cons (ha _ _ _ _ _ _ _ _ lk (pO_imp (pG_b h) fun v e1 M1 l1 h1 => ra_cons (ha2 _ _ _ _ _ _ _ _ l1 (pO_imp (pG_b h1) fun u e2 M2 l2 h2 => ra_nil (by
  split at h2
  · rename_i lo n
    split at h2
    · rename_i hn
      refine ⟨lo, n, rfl, hn, fun i ρ' M' => ∃ ei psi, Lk F.np M0 bs psi ei ρ' M' ∧ pG F M0 bs D Ex (forGo F.np (.nm j) gp ((rgD lo n).drop i) ei), ⟨e2, ps, l2, h2⟩, fun i ρ' M' hd ⟨ei, psi, li, hi⟩ => ?_, fun ρ' M' ⟨ei, psi, li, hi⟩ => ?_⟩
      · rw [drop_cons (rgD_get hd)] at hi
        obtain ⟨e2, q2⟩ := put_some hi
        exact for_body hb q2 (nm_put li q2) hi fun e3 ps3 ρ3 M3 l3 h3 => ⟨e3, ps3, l3, h3⟩
      · rw [← rgD_len, List.drop_length] at hi
        exact hi psi ρ' M' li
    · exact h2.elim
  · exact h2.elim))) hs1)) hs0) hN hi hx hf hg hs hs2 hfs
end
/-! ### defs -/
def mkF (n N : Nat) (g : En → G) : List Sv → O Sv := fun as => if as.length = n then match g (as ++ List.replicate (N - n) Sv.no) with
  | .nx e => .ok (.v .non) (e.take n)
  | .rt r e => .ok r (e.take n)
  | .ex c fs e => .ex c fs (e.take n)
  | _ => .no
  else .no
section
variable {P : Program} {w : World} {K : PySem.W.Frag} {mg : Str → Option Value} {base : Heap}
def adr (ds : List Dat) : Ad := fun i => match ds[i]? with
  | some (.ref p) => p
  | _ => 0
def bors (ds : List Dat) (as : List Sv) : List (Nat × Addr) := (List.range ds.length).filterMap fun i => match as[i]?, ds[i]? with
  | some (Sv.own _), some (Dat.ref p) => some (i, p)
  | _, _ => none
theorem bors_mem {ds : List Dat} {as : List Sv} {i : Nat} {p : Addr} : (i, p) ∈ bors ds as ↔ (∃ l, as[i]? = some (Sv.own l)) ∧ ds[i]? = some (.ref p) := by
  unfold bors
  rw [List.mem_filterMap]
  constructor
  · rintro ⟨j, _, h⟩
    split at h
    · rename_i q1 q2
      cases h
      exact ⟨⟨_, q1⟩, q2⟩
    · cases h
  · rintro ⟨⟨l, h1⟩, h2⟩
    exact ⟨i, List.mem_range.mpr (List.getElem?_eq_some_iff.mp h2).1, by rw [h1, h2]⟩
theorem lk0 {np : Nat} {M : Mem} {ds : List Dat} {as : List Sv} {N : List Str} (hn : as.length = np) (ar : Ar M ds as) : Lk np M (bors ds as) (adr ds) (as ++ List.replicate (N.length - np) Sv.no) (startD N ds) M := by
  have hl : ds.length = np := ar.len.trans hn
  have get : ∀ {i : Nat} {s : Sv}, s ≠ Sv.no → (as ++ List.replicate (N.length - np) Sv.no)[i]? = some s → as[i]? = some s := fun {i s} hs h => by
    by_cases hi : i < as.length
    · rw [List.getElem?_append_left hi] at h; exact h
    · rw [List.getElem?_append_right (by omega), List.getElem?_replicate] at h
      split at h
      · cases h; exact absurd rfl hs
      · cases h
  have gets : ∀ {i : Nat} {d : Dat}, ds[i]? = some d → (startD N ds)[i]? = some (some d) := fun {i d} h => by
    unfold startD
    have hi := (List.getElem?_eq_some_iff.mp h).1
    rw [List.getElem?_append_left (by simpa using hi), List.getElem?_map, h]; rfl
  refine ⟨by unfold startD; simp [hl, hn], fun i d h => gets (ar.val i d (get (by simp) h)), fun i l h => ?_, fun i j l l' h h' c => ?_, fun i a h => ?_, fun i l h hb => ?_, fun a m h _ => h⟩
  · obtain ⟨p, h1, h2⟩ := ar.own i l (get (by simp) h)
    have e : adr ds i = p := by unfold adr; rw [h1]
    rw [e]
    exact ⟨gets h1, h2⟩
  · obtain ⟨p, h1, h2⟩ := ar.own i l (get (by simp) h)
    obtain ⟨p', h1', h2'⟩ := ar.own j l' (get (by simp) h')
    have e : adr ds i = p := by unfold adr; rw [h1]
    have e' : adr ds j = p' := by unfold adr; rw [h1']
    rw [e, e'] at c
    subst c
    exact ar.inj i j p l l' (get (by simp) h) (get (by simp) h') h1 h1'
  · obtain ⟨⟨l, h1⟩, h2⟩ := bors_mem.mp h
    have hi := (List.getElem?_eq_some_iff.mp h1).1
    exact ⟨by omega, by unfold adr; rw [h2], l, by rw [List.getElem?_append_left hi]; exact h1⟩
  · obtain ⟨p, h1, h2⟩ := ar.own i l (get (by simp) h)
    exact absurd (bors_mem.mpr ⟨⟨l, get (by simp) h⟩, h1⟩) (hb p)
/-- the memory at a def's end -/
theorem wb_end {np : Nat} {M M' : Mem} {ds : List Dat} {as : List Sv} {ps : Ad} {e : En} {ρ : Env'} (ar : Ar M ds as) (hn : as.length = np) (lk : Lk np M (bors ds as) ps e ρ M') : ∀ a m, wb M ds as (e.take np) a = some m → M' a = some m := fun a m h => by
  refine wb_sub ds as (e.take np) (fun k p l0 l h1 h2 h3 => ?_) (fun m hm hc => lk.out a m hm fun i hi => ?_) (fun k l0 h1 => ?_) h
  · obtain ⟨hk, hp, _⟩ := lk.bor k p (bors_mem.mpr ⟨⟨l0, h1⟩, h3⟩)
    rw [List.getElem?_take_of_lt hk] at h2
    have := (lk.own k l h2).2
    rw [hp] at this
    exact this
  · obtain ⟨⟨l, h1⟩, h2⟩ := bors_mem.mp hi
    exact hc i l h1 h2
  · obtain ⟨p, h2, _⟩ := ar.own k l0 h1
    obtain ⟨hk, _, l, h3⟩ := lk.bor k p (bors_mem.mpr ⟨⟨l0, h1⟩, h2⟩)
    exact ⟨l, by rw [List.getElem?_take_of_lt hk]; exact h3⟩
theorem m_none {np : Nat} {M M' : Mem} {bs : List (Nat × Addr)} {ps : Ad} {e : En} {ρ : Env'} (lk : Lk np M bs ps e ρ M') {p : Addr} (hp : M' p = none) : M p = none := by
  cases e0 : M p with
  | none => rfl
  | some m =>
    by_cases hb : ∃ j, (j, p) ∈ bs
    · obtain ⟨j, hj⟩ := hb
      obtain ⟨_, h2, l', h3⟩ := lk.bor j p hj
      have := (lk.own j l' h3).2
      rw [h2, hp] at this; cases this
    · have := lk.out p m e0 fun j hj => hb ⟨j, hj⟩
      rw [hp] at this; cases this
/-- THE RULE for a def -/
theorem fn_ok {x qual : Str} {params : Arguments} {body : List Stmt} {scope : Scope} {f : Addr} {fd : FuncData} {N ps : List Str} {k : Nat} {g : En → G} (cv : Str → Value) (F : FunD K x qual params body scope [] [] f fd) (hm : mg x = some (.ref f)) (hb : Binds K fd ps []) (S : FnScope N ps scope)
    (hg : N.Nodup → ST ⟨mkS P w K mg base N scope k fun _ _ _ => False, cv, ps.length⟩ body g) : DefOk P w K mg base x (k + 1) (TF cv (mkF ps.length N.length g)) := by
  refine def_ok' F hm hb S (fun ds M Q E ⟨as, ar, h⟩ => ?_) (fun ds M Q Q' E E' hq he ⟨as, ar, h⟩ => ⟨as, ar, ?_⟩) fun nd ds M Q E ⟨as, ar, h⟩ => ?_
  · unfold mkF at h
    by_cases hl : as.length = ps.length
    · exact ar.len.trans hl
    · rw [if_neg hl] at h; exact h.elim
  · split at h
    · exact hq _ _ h
    · exact fun p hp => hq _ _ (h p hp)
    · exact h.elim
    · exact he _ _ _ h
    · exact h.elim
  · by_cases hl : as.length = ps.length
    · refine hg nd M (bors ds as) (adr ds) _ _ _ _ _ (lk0 hl ar) ?_
      unfold mkF at h
      rw [if_pos hl] at h
      cases z : g (as ++ List.replicate (N.length - ps.length) Sv.no) with
      | nx e =>
        rw [z] at h
        exact fun ps' ρ' M' lk => ⟨_, wb_end ar hl lk, h⟩
      | rt r e =>
        rw [z] at h
        cases r with
        | v d => exact fun ps' ρ' M' lk => ⟨_, wb_end ar hl lk, h⟩
        | own l => exact fun ps' ρ' M' p lk hp => ⟨_, fun a m q => by
            by_cases ha : a = p
            · subst ha; rw [mup_same] at q ⊢; exact q
            · rw [mup_ne ha] at q ⊢; exact wb_end ar hl lk a m q, h p (m_none lk hp)⟩
        | no => exact h.elim
      | bk e => rw [z] at h; exact h.elim
      | ct e => rw [z] at h; exact h.elim
      | ex c fs e =>
        rw [z] at h
        exact fun M' ⟨ps', ρ', lk⟩ => ⟨_, wb_end ar hl lk, h⟩
      | no => rw [z] at h; exact h.elim
    · unfold mkF at h
      rw [if_neg hl] at h
      exact h.elim
end
end FL
set_option Elab.async false
set_option linter.all false
set_option autoImplicit false
set_option maxRecDepth 100000
set_option maxHeartbeats 4000000
/-! The plain functions, reckoned: equations. -/
namespace FL
open PySem PySem.Spec PyProof.Rows L2 DL
section
variable {α β : Type}
theorem q_bind_ok {a : α} {e : En} {k : α → En → O β} : (O.ok a e).bind k = k a e := rfl
theorem q_bind_ex {c : Str} {fs : List (Str × Dat)} {e : En} {k : α → En → O β} : (O.ex c fs e : O α).bind k = .ex c fs e := rfl
theorem q_gB_ok {a : α} {e : En} {k : α → En → G} : gB (O.ok a e) k = k a e := rfl
theorem q_gB_ex {c : Str} {fs : List (Str × Dat)} {e : En} {k : α → En → G} : gB (O.ex c fs e : O α) k = .ex c fs e := rfl
def G.seq (g : G) (k : En → G) : G := match g with
  | .nx e1 => k e1
  | o => o
theorem q_seq_nx {e : En} {k : En → G} : (G.nx e).seq k = k e := rfl
theorem q_seq_rt {r : Sv} {e : En} {k : En → G} : (G.rt r e).seq k = .rt r e := rfl
theorem q_seq_bk {e : En} {k : En → G} : (G.bk e).seq k = .bk e := rfl
theorem q_seq_ex {c : Str} {fs : List (Str × Dat)} {e : En} {k : En → G} : (G.ex c fs e).seq k = .ex c fs e := rfl
end
def nmO (i : Nat) : Option Sv → En → O Vv
  | some (.v d), e => .ok (.d d) e
  | some (.own _), e => .ok (.sl i) e
  | _, _ => .no
def mvO (np i : Nat) : Option Sv → En → O Vv
  | some (.v d), e => .ok (.d d) e
  | some (.own l), e => if np ≤ i then .ok (.d (.lst l)) (e.set i Sv.no) else .no
  | _, _ => .no
section
variable {β : Type} {r : Vv → Vv → En → O β} {f g h : En → O Vv} {e : En} {d : Dat} {i j : Nat} {l l2 : List Dat} {t u : En → O Bool} {a b : Vv} {np : Nat} {x y : Int} {gp gq : En → G}
theorem q_k : eK d e = .ok (.d d) e := rfl
theorem q_nm : eNm i e = nmO i e[i]? e := by unfold eNm nmO; split <;> simp_all
theorem q_nm_v : nmO i (some (Sv.v d)) e = .ok (.d d) e := rfl
theorem q_nm_o : nmO i (some (Sv.own l)) e = .ok (.sl i) e := rfl
theorem q_mv : eMv np i e = mvO np i e[i]? e := by unfold eMv mvO; split <;> simp_all
theorem q_mv_v : mvO np i (some (Sv.v d)) e = .ok (.d d) e := rfl
theorem q_mv_o : mvO np i (some (Sv.own l)) e = if np ≤ i then .ok (.d (.lst l)) (e.set i Sv.no) else .no := rfl
def e2K (r : Vv → Vv → En → O β) (g : En → O Vv) (a : Vv) (e : En) : O β := (g e).bind (r a)
theorem q_e2 : e2 r f g e = (f e).bind (e2K r g) := rfl
theorem q_e2K : e2K r g a e = (g e).bind (r a) := rfl
theorem q_e1 {α : Type} {s : α → En → O β} {f : En → O α} : e1 s f e = (f e).bind s := rfl
theorem q_plus_i : plusO (.d (.int x)) (.d (.int y)) e = .ok (.d (.int (x + y))) e := rfl
theorem q_plus_t : plusO (.d (.tup l)) (.d (.tup l2)) e = if l.length + l2.length ≤ 100000 then .ok (.d (.tup (l ++ l2))) e else .no := rfl
theorem q_plus_l : plusO (.d (.lst l)) (.d (.lst l2)) e = if l.length + l2.length ≤ 100000 then .ok (.d (.lst (l ++ l2))) e else .no := rfl
theorem q_times_i : timesO (.d (.int x)) (.d (.int y)) e = if (-(2 ^ 64) < x ∧ x < 2 ^ 64) ∨ (-(2 ^ 64) < y ∧ y < 2 ^ 64) then .ok (.d (.int (x * y))) e else .no := rfl
theorem q_sub_i : subO (.d (.int x)) (.d (.int y)) e = .ok (.d (.int (x - y))) e := rfl
theorem q_mod_i : modO (.d (.int x)) (.d (.int y)) e = if 0 < y then .ok (.d (.int (x % y))) e else .no := rfl
theorem q_fdiv_i : fdivO (.d (.int x)) (.d (.int y)) e = if 0 < y ∧ y < 1073741824 then .ok (.d (.int (x / y))) e else .no := rfl
theorem q_pow_i : powO (.d (.int x)) (.d (.int y)) e = if 0 ≤ y ∧ y ≤ 1000000 ∧ x.natAbs < 2 ^ 64 then .ok (.d (.int (x ^ y.toNat))) e else .no := rfl
theorem q_neg_i : negO (.d (.int x)) e = .ok (.d (.int (-x))) e := rfl
def slL : Option Sv → Option (List Dat)
  | some (.own l) => some l
  | _ => none
theorem q_sl_o : slL (some (Sv.own l)) = some l := rfl
theorem q_rdL_s : rdL e (.sl i) = slL e[i]? := by
  cases h : e[i]? with
  | none => simp [rdL, slL, h]
  | some s => cases s <;> simp [rdL, slL, h]
theorem q_rdL_l : rdL e (.d (.lst l)) = some l := rfl
theorem q_rdL_f : rdL e (.d (.frl l)) = some l := rfl
theorem q_rdS_t : rdS e (.d (.tup l)) = some l := rfl
theorem q_rdS_l : rdS e (.d (.lst l)) = some l := rfl
theorem q_rdS_f : rdS e (.d (.frl l)) = some l := rfl
theorem q_rdS_s : rdS e (.sl i) = slL e[i]? := q_rdL_s
theorem q_rdN_l : rdN e (.d (.lst l)) = some l := rfl
theorem q_rdN_s : rdN e (.sl i) = slL e[i]? := by
  cases h : e[i]? with
  | none => simp [rdN, slL, h]
  | some s => cases s <;> simp [rdN, slL, h]
theorem q_rdF_l : rdF (.d (.lst l)) = some l := rfl
theorem q_rdF_f : rdF (.d (.frl l)) = some l := rfl
theorem q_vO_i : vO e (.d (.int x)) = some (.int x) := rfl
theorem q_vO_b {b : Bool} : vO e (.d (.bl b)) = some (.bl b) := rfl
theorem q_vO_x {s : Str} : vO e (.d (.str s)) = some (.str s) := rfl
theorem q_vO_n : vO e (.d .non) = some .non := rfl
theorem q_vO_t : vO e (.d (.tup l)) = some (.tup l) := rfl
theorem q_vO_l : vO e (.d (.lst l)) = some (.lst l) := rfl
theorem q_vO_f : vO e (.d (.frl l)) = some (.frl l) := rfl
theorem q_vO_s : vO e (.sl i) = (slL e[i]?).map Dat.lst := by
  cases h : e[i]? with
  | none => simp [vO, slL, h]
  | some s => cases s <;> simp [vO, slL, h]
def ixK : Option (List Dat) → Int → En → O Vv
  | some l, i, e => match atI l i with
    | some d => .ok (.d d) e
    | none => .no
  | none, _, _ => .no
theorem q_ix : ixO a (.d (.int x)) e = ixK (rdS e a) x e := by
  cases h : rdS e a with
  | none => simp [ixO, ixK, h]
  | some l => cases h2 : atI l x <;> simp [ixO, ixK, h, h2]
def ixJ : Option Dat → En → O Vv
  | some d, e => .ok (.d d) e
  | none, _ => .no
theorem q_ixK : ixK (some l) x e = ixJ (atI l x) e := by cases h : atI l x <;> simp [ixK, ixJ, h]
theorem q_ixJ : ixJ (some d) e = .ok (.d d) e := rfl
def lenK : Option (List Dat) → En → O Vv
  | some l, e => .ok (.d (.int l.length)) e
  | none, _ => .no
theorem q_len : lenO a e = lenK (rdS e a) e := by cases h : rdS e a <;> simp [lenO, lenK, h]
theorem q_lenK : lenK (some l) e = .ok (.d (.int l.length)) e := rfl
def tupK : Option (List Dat) → En → O Vv
  | some l, e => .ok (.d (.tup l)) e
  | none, _ => .no
theorem q_tupOf : tupOfO a e = tupK (rdL e a) e := by cases h : rdL e a <;> simp [tupOfO, tupK, h]
theorem q_tupK : tupK (some l) e = .ok (.d (.tup l)) e := rfl
theorem q_intB {b : Bool} : intBO (.d (.bl b)) e = .ok (.d (.int (if b then 1 else 0))) e := rfl
theorem q_sli_t {lo hi : Option Int} : sliO (.d (.tup l)) lo hi e = .ok (.d (.tup (cutD l lo hi))) e := rfl
theorem q_sli_l {lo hi : Option Int} : sliO (.d (.lst l)) lo hi e = .ok (.d (.lst (cutD l lo hi))) e := rfl
theorem q_sli_f {lo hi : Option Int} : sliO (.d (.frl l)) lo hi e = .ok (.d (.lst (cutD l lo hi))) e := rfl
theorem q_cmp {g0 : Int → Int → Bool} : cmpI g0 (.d (.int x)) (.d (.int y)) e = .ok (g0 x y) e := rfl
def eqK (neg : Bool) : Option Dat → Option Dat → En → O Bool
  | some x, some y, e => if lv 20 x = true ∧ lv 20 y = true then .ok (if neg then !eqD x y else eqD x y) e else .no
  | _, _, _ => .no
theorem q_eq {neg : Bool} : eqO neg a b e = eqK neg (vO e a) (vO e b) e := by unfold eqO eqK; split <;> simp_all
theorem q_eqK {neg : Bool} {p q : Dat} : eqK neg (some p) (some q) e = if lv 20 p = true ∧ lv 20 q = true then .ok (if neg then !eqD p q else eqD p q) e else .no := rfl
def inK (neg : Bool) (x : Dat) : Option (List Dat) → En → O Bool
  | some l, e => if flatD x = true ∧ l.all flatD = true then .ok (if neg then !inD x l else inD x l) e else .no
  | _, _ => .no
theorem q_in {neg : Bool} {p : Dat} : inO neg (.d p) b e = inK neg p (rdS e b) e := by unfold inO inK; cases rdS e b <;> rfl
theorem q_inK {neg : Bool} {p : Dat} : inK neg p (some l) e = if flatD p = true ∧ l.all flatD = true then .ok (if neg then !inD p l else inD p l) e else .no := rfl
theorem q_isN_n {neg : Bool} : isNO neg (.d .non) e = .ok (!neg) e := rfl
theorem q_isN_i {neg : Bool} : isNO neg (.d (.int x)) e = .ok neg e := rfl
theorem q_isN_b {neg b : Bool} : isNO neg (.d (.bl b)) e = .ok neg e := rfl
theorem q_isN_x {neg : Bool} {s : Str} : isNO neg (.d (.str s)) e = .ok neg e := rfl
theorem q_isN_t {neg : Bool} : isNO neg (.d (.tup l)) e = .ok neg e := rfl
theorem q_isN_l {neg : Bool} : isNO neg (.d (.lst l)) e = .ok neg e := rfl
theorem q_isN_s {neg : Bool} : isNO neg (.sl i) e = .ok neg e := rfl
def isiK (T : String) : Option String → En → O Bool
  | some t, e => match kitB t T with
    | some k => .ok k e
    | none => .no
  | none, _ => .no
def isiJ : Option Bool → En → O Bool
  | some k, e => .ok k e
  | none, _ => .no
theorem q_isi {T : String} : isiO T a e = isiK T (tyO e a) e := by
  cases h : tyO e a with
  | none => simp [isiO, isiK, h]
  | some t => cases h2 : kitB t T <;> simp [isiO, isiK, h, h2]
theorem q_isiK {T s : String} : isiK T (some s) e = isiJ (kitB s T) e := by cases h : kitB s T <;> simp [isiJ, isiK, h]
theorem q_isiJ {k : Bool} : isiJ (some k) e = .ok k e := rfl
theorem q_kget {tab : List (Str × Int)} {s : Str} : kgetO tab (.d (.str s)) (.d (.int y)) e = .ok (.d (.int ((tab.lookup s).getD y))) e := rfl
def bK (b : Bool) (e : En) : O Vv := .ok (.d (.bl b)) e
theorem q_B : eB t e = (t e).bind bK := rfl
theorem q_bK {b : Bool} : bK b e = .ok (.d (.bl b)) e := rfl
def tvO : Vv → En → O Bool
  | .d (.bl b), e => .ok b e
  | _, _ => .no
theorem q_tV : tV f e = (f e).bind tvO := by
  unfold tV; congr 1; funext a e1
  cases a with
  | d x => cases x <;> rfl
  | sl i => rfl
theorem q_tvO {b : Bool} : tvO (.d (.bl b)) e = .ok b e := rfl
def ntK (b : Bool) (e : En) : O Bool := .ok (!b) e
theorem q_tNot : tNot t e = (t e).bind ntK := rfl
theorem q_ntK {b : Bool} : ntK b e = .ok (!b) e := rfl
def tAK (u : En → O Bool) (b : Bool) (e : En) : O Bool := if b = true then u e else .ok false e
theorem q_tAnd : tAnd t u e = (t e).bind (tAK u) := rfl
theorem q_tAK {b : Bool} : tAK u b e = if b = true then u e else .ok false e := rfl
def tOK (u : En → O Bool) (b : Bool) (e : En) : O Bool := if b = true then .ok true e else u e
theorem q_tOr : tOr t u e = (t e).bind (tOK u) := rfl
theorem q_tOK {b : Bool} : tOK u b e = if b = true then .ok true e else u e := rfl
def chL (g' : Int → Int → Bool) (j : Int) : Vv → En → O Bool
  | .d (.int l), e3 => .ok (g' j l) e3
  | _, _ => .no
def chK (g0 g' : Int → Int → Bool) (fc : En → O Vv) : Vv → Vv → En → O Bool
  | .d (.int i), .d (.int j), e2 => if g0 i j = true then (fc e2).bind (chL g' j) else .ok false e2
  | _, _, _ => .no
def chJ (g0 g' : Int → Int → Bool) (g h : En → O Vv) (a : Vv) (e : En) : O Bool := (g e).bind (chK g0 g' h a)
theorem q_tCh {g0 g' : Int → Int → Bool} : tCh g0 g' f g h e = (f e).bind (chJ g0 g' g h) := by
  unfold tCh
  congr 1; funext a e1
  unfold chJ
  congr 1; funext b e2
  cases a with
  | sl i => rfl
  | d x =>
    cases x <;> try rfl
    cases b with
    | sl i => rfl
    | d y =>
      cases y <;> try rfl
      rename_i p q
      show (if g0 p q = true then _ else _) = (if g0 p q = true then _ else _)
      split
      · congr 1; funext c e3
        cases c with
        | sl i => rfl
        | d z => cases z <;> rfl
      · rfl
theorem q_chJ {g0 g' : Int → Int → Bool} : chJ g0 g' g h a e = (g e).bind (chK g0 g' h a) := rfl
theorem q_chK {g0 g' : Int → Int → Bool} : chK g0 g' h (.d (.int x)) (.d (.int y)) e = if g0 x y = true then (h e).bind (chL g' y) else .ok false e := rfl
theorem q_chL {g' : Int → Int → Bool} {z : Int} : chL g' y (.d (.int z)) e = .ok (g' y z) e := rfl
def ifK (f g : En → O Vv) (k : Bool) (e : En) : O Vv := if k = true then f e else g e
theorem q_if : eIf t f g e = (t e).bind (ifK f g) := rfl
theorem q_ifK {b : Bool} : ifK f g b e = if b = true then f e else g e := rfl
def andK (g : En → O Vv) : Vv → En → O Vv
  | .d (.bl b), e => if b = true then g e else .ok (.d (.bl false)) e
  | _, _ => .no
def orK (g : En → O Vv) : Vv → En → O Vv
  | .d (.bl b), e => if b = true then .ok (.d (.bl true)) e else g e
  | _, _ => .no
theorem q_and : eAnd f g e = (f e).bind (andK g) := by
  unfold eAnd
  congr 1; funext a e1
  unfold andK
  split <;> simp_all
theorem q_or : eOr f g e = (f e).bind (orK g) := by
  unfold eOr
  congr 1; funext a e1
  unfold orK
  split <;> simp_all
theorem q_andK {b : Bool} : andK g (.d (.bl b)) e = if b = true then g e else .ok (.d (.bl false)) e := rfl
theorem q_orK {b : Bool} : orK g (.d (.bl b)) e = if b = true then .ok (.d (.bl true)) e else g e := rfl
theorem q_aNil : aNil e = .ok [] e := rfl
def aL (a : Vv) (as : List Vv) (e : En) : O (List Vv) := .ok (a :: as) e
def aK (ga : En → O (List Vv)) (a : Vv) (e : En) : O (List Vv) := (ga e).bind (aL a)
theorem q_aCons {ga : En → O (List Vv)} : aCons f ga e = (f e).bind (aK ga) := rfl
theorem q_aK {ga : En → O (List Vv)} : aK ga a e = (ga e).bind (aL a) := rfl
theorem q_aL {vs : List Vv} : aL a vs e = .ok (a :: vs) e := rfl
theorem q_allD_n : allD [] = some [] := rfl
theorem q_allD_c {r : List Vv} : allD (.d d :: r) = (allD r).map (d :: ·) := rfl
def tupJ : Option (List Dat) → En → O Vv
  | some ds, e => if ds.length ≤ 100000 then .ok (.d (.tup ds)) e else .no
  | none, _ => .no
def dspJ : Option (List Dat) → En → O (List Dat)
  | some ds, e => if ds.length ≤ 100000 then .ok ds e else .no
  | none, _ => .no
theorem q_tup {vs : List Vv} : tupO vs e = tupJ (allD vs) e := by cases h : allD vs <;> simp [tupO, tupJ, h]
theorem q_tupJ : tupJ (some l) e = if l.length ≤ 100000 then .ok (.d (.tup l)) e else .no := rfl
theorem q_dsp {vs : List Vv} : dspO vs e = dspJ (allD vs) e := by cases h : allD vs <;> simp [dspO, dspJ, h]
theorem q_dspJ : dspJ (some l) e = if l.length ≤ 100000 then .ok l e else .no := rfl
def lstJ : Option (List Dat) → En → O (List Dat)
  | some l, e => .ok l e
  | none, _ => .no
theorem q_list : listO a e = lstJ (rdS e a) e := by cases h : rdS e a <;> simp [listO, lstJ, h]
theorem q_lstJ : lstJ (some l) e = .ok l e := rfl
theorem q_slO {lo hi : Option Int} : slO a lo hi e = lstJ ((rdL e a).map fun l => cutD l lo hi) e := by unfold slO lstJ; cases rdL e a <;> rfl
theorem q_cat_l : catO (.d (.lst l)) (.d (.lst l2)) e = if l.length + l2.length ≤ 100000 then .ok (l ++ l2) e else .no := rfl
theorem q_rg1 : rg1O (.d (.int x)) e = if rgOk 0 x = true then .ok (rgD 0 x) e else .no := rfl
theorem q_rg2 : rg2O (.d (.int x)) (.d (.int y)) e = if rgOk x y = true then .ok (rgD x y) e else .no := rfl
def frK (l : List Dat) (e : En) : O Vv := .ok (.d (.lst l)) e
theorem q_fr {lf : En → O (List Dat)} : eFr lf e = (lf e).bind frK := rfl
theorem q_frK : frK l e = .ok (.d (.lst l)) e := rfl
theorem q_pN : pNone e = .ok none e := rfl
def psO : Vv → En → O (Option Int)
  | .d (.int i), e => .ok (some i) e
  | _, _ => .no
theorem q_pS : pSome f e = (f e).bind psO := by
  unfold pSome; congr 1; funext a e1
  cases a with
  | d x => cases x <;> rfl
  | sl i => rfl
theorem q_psO : psO (.d (.int x)) e = .ok (some x) e := rfl
def SlK (s : Vv → Option Int → Option Int → En → O β) (lo hi : En → O (Option Int)) (a : Vv) (e : En) : O β := (lo e).bind fun l e2 => (hi e2).bind fun u e3 => s a l u e3
def SlJ (s : Vv → Option Int → Option Int → En → O β) (hi : En → O (Option Int)) (a : Vv) (l : Option Int) (e : En) : O β := (hi e).bind (s a l)
theorem q_Sl {s : Vv → Option Int → Option Int → En → O β} {lo hi : En → O (Option Int)} : eSl s f lo hi e = (f e).bind (SlK s lo hi) := rfl
theorem q_SlK {s : Vv → Option Int → Option Int → En → O β} {lo hi : En → O (Option Int)} : SlK s lo hi a e = (lo e).bind (SlJ s hi a) := rfl
theorem q_SlJ {s : Vv → Option Int → Option Int → En → O β} {lo : Option Int} {hi : En → O (Option Int)} : SlJ s hi a lo e = (hi e).bind (s a lo) := rfl
def ssK : Option (List Dat) → En → O (List Dat)
  | some l, e => match intsOf l with
    | some ns => if ns.length ≤ 1000 ∧ (sortU ns).length < 64 then .ok ((sortU ns).map Dat.int) e else .no
    | none => .no
  | none, _ => .no
theorem q_sset : ssetO a e = ssK (rdL e a) e := by
  cases h : rdL e a with
  | none => simp [ssetO, ssK, h]
  | some l => cases h2 : intsOf l <;> simp [ssetO, ssK, h, h2]
theorem q_ssK {ns : List Int} : ssK (some (ns.map Dat.int)) e = if ns.length ≤ 1000 ∧ (sortU ns).length < 64 then .ok ((sortU ns).map Dat.int) e else .no := by simp [ssK, intsOf_ints]
def srK : Option (List Dat) → En → O (List Dat)
  | some l, e => match intsOf l with
    | some ns => .ok ((sortI ns).map Dat.int) e
    | none => .no
  | none, _ => .no
theorem q_sort : sortO a e = srK (rdL e a) e := by
  cases h : rdL e a with
  | none => simp [sortO, srK, h]
  | some l => cases h2 : intsOf l <;> simp [sortO, srK, h, h2]
theorem q_srK {ns : List Int} : srK (some (ns.map Dat.int)) e = .ok ((sortI ns).map Dat.int) e := by simp [srK, intsOf_ints]
/-! calls -/
def callK (f : List Sv → O Sv) (vs : List Vv) (e : En) : Option (List Sv) → O Sv
  | some as => if (slotsV vs).Nodup then callJ vs e (f as) else .no
  | none => .no
where callJ (vs : List Vv) (e : En) : O Sv → O Sv
  | .ok r as' => .ok r (wbE e vs as')
  | .ex c fs as' => .ex c fs (wbE e vs as')
  | .no => .no
theorem q_call {fn : List Sv → O Sv} {vs : List Vv} : callO fn vs e = callK fn vs e (toSvs e vs) := by
  unfold callO callK
  cases toSvs e vs with
  | none => rfl
  | some as =>
    simp only
    split
    · unfold callK.callJ; cases fn as <;> rfl
    · rfl
theorem q_callK {fn : List Sv → O Sv} {vs : List Vv} {as : List Sv} : callK fn vs e (some as) = if (slotsV vs).Nodup then callK.callJ vs e (fn as) else .no := rfl
theorem q_callJ {vs : List Vv} {as : List Sv} {s : Sv} : callK.callJ vs e (.ok s as) = .ok s (wbE e vs as) := rfl
theorem q_callX {vs : List Vv} {as : List Sv} {c : Str} {fs : List (Str × Dat)} : callK.callJ vs e (.ex c fs as) = .ex c fs (wbE e vs as) := rfl
def tsK (l : Option (List Dat)) (r : Option (List Sv)) : Option (List Sv) := match l with
  | some l => r.map (Sv.own l :: ·)
  | none => none
theorem q_ts_n : toSvs e [] = some [] := rfl
theorem q_ts_d {r : List Vv} : toSvs e (.d d :: r) = (toSvs e r).map (Sv.v d :: ·) := rfl
theorem q_ts_s {r : List Vv} : toSvs e (.sl i :: r) = tsK (slL e[i]?) (toSvs e r) := by
  show (match e[i]? with | some (Sv.own l) => _ | _ => none) = _
  unfold tsK slL
  split <;> simp_all
theorem q_tsK {r : Option (List Sv)} : tsK (some l) r = r.map (Sv.own l :: ·) := rfl
theorem q_sv_n : slotsV [] = [] := rfl
theorem q_sv_d {r : List Vv} : slotsV (.d d :: r) = slotsV r := rfl
theorem q_sv_s {r : List Vv} : slotsV (.sl i :: r) = i :: slotsV r := rfl
theorem q_wb_n {as : List Sv} : wbE e [] as = e := by cases as <;> rfl
theorem q_wb_d {vs : List Vv} {s : Sv} {as : List Sv} : wbE e (.d d :: vs) (s :: as) = wbE e vs as := rfl
theorem q_wb_s {vs : List Vv} {as : List Sv} : wbE e (.sl i :: vs) (.own l :: as) = (wbE e vs as).set i (Sv.own l) := rfl
theorem q_frS_v : frS (.v d) e = .ok (.d d) e := rfl
theorem q_frS_o : frS (.own l) e = .ok (.d (.lst l)) e := rfl
theorem q_owS : owS (.own l) e = .ok l e := rfl
/-! statements -/
theorem q_gNil : FL.gNil e = .nx e := rfl
theorem q_gSeq : gSeq gp gq e = (gp e).seq gq := rfl
def csO (np i : Nat) : Option Sv → Bool
  | some (.own _) => decide (np ≤ i)
  | _ => true
theorem q_cs : canSet np e i = csO np i e[i]? := by unfold canSet csO; split <;> simp_all
theorem q_cs_v : csO np i (some (.v d)) = true := rfl
theorem q_cs_n : csO np i (some .no) = true := rfl
theorem q_cs_o : csO np i (some (.own l)) = decide (np ≤ i) := rfl
def ioO : Option Sv → Bool
  | some (.own _) => true
  | _ => false
theorem q_io : isOwn e i = ioO e[i]? := by unfold isOwn ioO; split <;> simp_all
theorem q_io_v : ioO (some (.v d)) = false := rfl
theorem q_io_n : ioO (some .no) = false := rfl
theorem q_io_o : ioO (some (.own l)) = true := rfl
def setK (np i : Nat) : Vv → En → G
  | .d d, e1 => if canSet np e1 i = true then .nx (e1.set i (Sv.v d)) else .no
  | _, _ => .no
theorem q_gSet : gSet np i f e = gB (f e) (setK np i) := by unfold gSet; congr 1; funext a e1; cases a <;> rfl
theorem q_setK : setK np i (.d d) e = if canSet np e i = true then .nx (e.set i (Sv.v d)) else .no := rfl
def soK (np i : Nat) (l : List Dat) (e : En) : G := if canSet np e i = true then .nx (e.set i (Sv.own l)) else .no
theorem q_gSetO {lf : En → O (List Dat)} : gSetO np i lf e = gB (lf e) (soK np i) := rfl
theorem q_soK : soK np i l e = if canSet np e i = true then .nx (e.set i (Sv.own l)) else .no := rfl
def nxO : Option En → G
  | some e => .nx e
  | none => .no
def patK (np : Nat) (p : Pat) : Vv → En → G
  | .d d, e1 => nxO (putE np e1 d p)
  | _, _ => .no
theorem q_gPat {p : Pat} : gPat np p f e = gB (f e) (patK np p) := by
  unfold gPat; congr 1; funext a e1
  cases a with
  | d x => unfold patK nxO; rfl
  | sl i => rfl
theorem q_patK {p : Pat} : patK np p (.d d) e = nxO (putE np e d p) := rfl
theorem q_nxO {e2 : En} : nxO (some e2) = .nx e2 := rfl
theorem q_put_n : putE np e d (.nm i) = if canSet np e i = true then some (e.set i (Sv.v d)) else none := rfl
theorem q_put_t {ls : List Nat} : putE np e (.tup l) (.tp ls) = if l.length = ls.length ∧ ls.all (canSet np e) = true then some (setAllE e ls l) else none := rfl
theorem q_sa_c {ls : List Nat} : setAllE e (i :: ls) (d :: l) = setAllE (e.set i (Sv.v d)) ls l := rfl
theorem q_sa_n : setAllE e [] [] = e := rfl
def xK (_ : Vv) (e : En) : G := .nx e
theorem q_gX : gX f e = gB (f e) xK := rfl
theorem q_xK : xK a e = .nx e := rfl
def rtK : Vv → En → G
  | .d d, e => .rt (.v d) e
  | _, _ => .no
theorem q_gRet : gRet f e = gB (f e) rtK := by unfold gRet; congr 1; funext a e1; cases a <;> rfl
theorem q_rtK : rtK (.d d) e = .rt (.v d) e := rfl
def roK (l : List Dat) (e : En) : G := .rt (.own l) e
theorem q_gRetO {lf : En → O (List Dat)} : gRetO lf e = gB (lf e) roK := rfl
theorem q_roK : roK l e = .rt (.own l) e := rfl
def rsK (np i : Nat) (e : En) : Option Sv → G
  | some (.own l) => if np ≤ i then .rt (.own l) (e.set i Sv.no) else .no
  | _ => .no
theorem q_gRetS : gRetS np i e = rsK np i e e[i]? := by unfold gRetS rsK; split <;> simp_all
theorem q_rsK : rsK np i e (some (.own l)) = if np ≤ i then .rt (.own l) (e.set i Sv.no) else .no := rfl
def giK (gp gq : En → G) (b : Bool) (e : En) : G := if b = true then gp e else gq e
theorem q_gIf : gIf t gp gq e = gB (t e) (giK gp gq) := rfl
theorem q_giK {b : Bool} : giK gp gq b e = if b = true then gp e else gq e := rfl
def apK (i : Nat) (e : En) : Vv → Option (List Dat) → G
  | .d d, some l => if l.length < 100000 then .nx (e.set i (Sv.own (l ++ [d]))) else .no
  | _, _ => .no
def apJ (i : Nat) (a : Vv) (e : En) : G := apK i e a (slL e[i]?)
theorem q_apJ : apJ i a e = apK i e a (slL e[i]?) := rfl
theorem q_gApp : gApp i f e = if isOwn e i = true then gB (f e) (apJ i) else .no := by
  unfold gApp
  split
  · congr 1; funext a e1
    unfold apJ apK slL
    cases a <;> cases e1[i]? with
    | none => rfl
    | some s => cases s <;> rfl
  · rfl
theorem q_apK : apK i e (.d d) (some l) = if l.length < 100000 then .nx (e.set i (Sv.own (l ++ [d]))) else .no := rfl
def exK (i : Nat) (e : En) : Option (List Dat) → Option (List Dat) → G
  | some l2, some l => if l.length + l2.length ≤ 100000 then .nx (e.set i (Sv.own (l ++ l2))) else .no
  | _, _ => .no
def exJ (i : Nat) (a : Vv) (e : En) : G := exK i e (rdN e a) (slL e[i]?)
theorem q_exJ : exJ i a e = exK i e (rdN e a) (slL e[i]?) := rfl
theorem q_gExt : gExt i f e = if isOwn e i = true then gB (f e) (exJ i) else .no := by
  unfold gExt
  split
  · congr 1; funext a e1
    unfold exJ exK slL
    cases rdN e1 a <;> cases e1[i]? with
    | none => rfl
    | some s => cases s <;> rfl
  · rfl
theorem q_exK : exK i e (some l2) (some l) = if l.length + l2.length ≤ 100000 then .nx (e.set i (Sv.own (l ++ l2))) else .no := rfl
def siK (i : Nat) (e : En) : Vv → Vv → Option (List Dat) → G
  | .d d, .d (.int j), some l => if 0 ≤ j ∧ j < l.length then .nx (e.set i (Sv.own (l.set j.toNat d))) else .no
  | _, _, _ => .no
def siJ (i : Nat) (a b : Vv) (e : En) : G := siK i e a b (slL e[i]?)
def siI (i : Nat) (g : En → O Vv) (a : Vv) (e : En) : G := if isOwn e i = true then gB (g e) (siJ i a) else .no
theorem q_siJ : siJ i a b e = siK i e a b (slL e[i]?) := rfl
theorem q_siI : siI i g a e = if isOwn e i = true then gB (g e) (siJ i a) else .no := rfl
theorem q_gSetI : gSetI i f g e = gB (f e) (siI i g) := by
  unfold gSetI
  congr 1; funext a e1
  unfold siI
  split
  · congr 1; funext b e2
    unfold siJ siK slL
    split
    · rename_i h; rw [h]
    · rename_i h
      split
      · rename_i q
        split at q
        · rename_i z; cases q; exact absurd z (by intro z; exact h _ _ _ rfl rfl z)
        · cases q
      · rfl
  · rfl
theorem q_siK : siK i e (.d d) (.d (.int x)) (some l) = if 0 ≤ x ∧ x < l.length then .nx (e.set i (Sv.own (l.set x.toNat d))) else .no := rfl
def foK (np : Nat) (p : Pat) (g : En → G) (e : En) : Option (List Dat) → G
  | some ds => forGo np p g ds e
  | none => .no
def foJ (np : Nat) (p : Pat) (g : En → G) (a : Vv) (e : En) : G := foK np p g e (rdF a)
theorem q_gFor {p : Pat} : gFor np p f gp e = gB (f e) (foJ np p gp) := by unfold gFor; rfl
theorem q_foJ {p : Pat} : foJ np p gp a e = foK np p gp e (rdF a) := rfl
theorem q_foK {p : Pat} : foK np p gp e (some l) = forGo np p gp l e := rfl
def fr1K (np i : Nat) (g : En → G) : Vv → En → G
  | .d (.int n), e1 => if -(2 ^ 62) ≤ n ∧ n < 2 ^ 62 then forGo np (.nm i) g (rgD 0 n) e1 else .no
  | _, _ => .no
theorem q_gForR1 : gForR1 np i f gp e = gB (f e) (fr1K np i gp) := by
  unfold gForR1; congr 1; funext a e1
  cases a with
  | d x => cases x <;> rfl
  | sl i => rfl
theorem q_fr1K : fr1K np i gp (.d (.int x)) e = if -(2 ^ 62) ≤ x ∧ x < 2 ^ 62 then forGo np (.nm i) gp (rgD 0 x) e else .no := rfl
def fr2K (np i : Nat) (g : En → G) : Vv → Vv → En → G
  | .d (.int lo), .d (.int n), e2 => if -(2 ^ 62) ≤ lo ∧ lo < 2 ^ 62 ∧ -(2 ^ 62) ≤ n ∧ n < 2 ^ 62 then forGo np (.nm i) g (rgD lo n) e2 else .no
  | _, _, _ => .no
def fr2J (np i : Nat) (g : En → O Vv) (gp : En → G) (a : Vv) (e : En) : G := gB (g e) (fr2K np i gp a)
theorem q_gForR2 : gForR2 np i f g gp e = gB (f e) (fr2J np i g gp) := by
  unfold gForR2; congr 1; funext a e1
  unfold fr2J; congr 1; funext b e2
  cases a with
  | sl i => rfl
  | d x =>
    cases x <;> try rfl
    cases b with
    | sl i => rfl
    | d y => cases y <;> rfl
theorem q_fr2J : fr2J np i g gp a e = gB (g e) (fr2K np i gp a) := rfl
theorem q_fr2K : fr2K np i gp (.d (.int x)) (.d (.int y)) e = if -(2 ^ 62) ≤ x ∧ x < 2 ^ 62 ∧ -(2 ^ 62) ≤ y ∧ y < 2 ^ 62 then forGo np (.nm i) gp (rgD x y) e else .no := rfl
def fzK (np i : Nat) (g : En → G) (e : En) : Option Sv → G
  | some (.own l) => if np ≤ i then g (e.set i (Sv.v (.lst l))) else .no
  | _ => g e
theorem q_gFrz : gFrz np i gp e = fzK np i gp e e[i]? := by unfold gFrz fzK; split <;> simp_all
theorem q_fzK_o : fzK np i gp e (some (.own l)) = if np ≤ i then gp (e.set i (Sv.v (.lst l))) else .no := rfl
theorem q_fzK_v : fzK np i gp e (some (.v d)) = gp e := rfl
theorem q_gNo : gNo e = .no := rfl
/-! defs -/
def endK (n : Nat) : G → O Sv
  | .nx e => .ok (.v .non) (e.take n)
  | .rt r e => .ok r (e.take n)
  | .ex c fs e => .ex c fs (e.take n)
  | _ => .no
theorem q_mkF {n N : Nat} {as : List Sv} (h : as.length = n) : mkF n N gp as = endK n (gp (as ++ List.replicate (N - n) Sv.no)) := by
  unfold mkF
  rw [if_pos h]
  unfold endK
  rfl
theorem q_end_n {n : Nat} : endK n (.nx e) = .ok (.v .non) (e.take n) := rfl
theorem q_end_r {n : Nat} {s : Sv} : endK n (.rt s e) = .ok s (e.take n) := rfl
theorem q_end_x {n : Nat} {c : Str} {fs : List (Str × Dat)} : endK n (.ex c fs e) = .ex c fs (e.take n) := rfl
/-! loops -/
def stepF (np : Nat) (p : Pat) (g : En → G) (xs : List Dat) : G → G
  | .nx e2 => forGo np p g xs e2
  | .ct e2 => forGo np p g xs e2
  | .bk e2 => .nx e2
  | o => o
theorem q_for_n {p : Pat} : forGo np p gp [] e = .nx e := rfl
theorem q_for_c {p : Pat} {xs : List Dat} {e2 : En} (h : putE np e d p = some e2) : forGo np p gp (d :: xs) e = stepF np p gp xs (gp e2) := by
  show (match putE np e d p with | none => _ | some e1 => _) = _
  rw [h]
  simp only
  unfold stepF
  cases gp e2 <;> rfl
theorem q_st_n {p : Pat} {xs : List Dat} : stepF np p gp xs (.nx e) = forGo np p gp xs e := rfl
theorem q_st_r {p : Pat} {xs : List Dat} {s : Sv} : stepF np p gp xs (.rt s e) = .rt s e := rfl
theorem q_st_x {p : Pat} {xs : List Dat} {c : Str} {fs : List (Str × Dat)} : stepF np p gp xs (.ex c fs e) = .ex c fs e := rfl
end
end FL
set_option Elab.async false
set_option linter.all false
set_option autoImplicit false
set_option maxRecDepth 100000
set_option maxHeartbeats 4000000
namespace FL
open PySem PySem.Spec PyProof.Rows L2 DL
theorem atI_nat {l : List Dat} (n : Nat) : atI l (n : Int) = l[n]? := by
  unfold atI ixN
  by_cases h : n < l.length
  · simp [h]
  · simp [h]
theorem atI_of {l : List Dat} {i : Int} (h : 0 ≤ i) : atI l i = l[i.toNat]? := by
  have e := atI_nat (l := l) i.toNat
  rw [Int.toNat_of_nonneg h] at e
  exact e
theorem atI_0 {a : Dat} {l : List Dat} : atI (a :: l) 0 = some a := atI_nat 0
theorem atI_1 {a b : Dat} {l : List Dat} : atI (a :: b :: l) 1 = some b := atI_nat 1
theorem atI_2 {a b c : Dat} {l : List Dat} : atI (a :: b :: c :: l) 2 = some c := atI_nat 2
theorem atI_3 {a b c d : Dat} {l : List Dat} : atI (a :: b :: c :: d :: l) 3 = some d := atI_nat 3
theorem q_mk0 {N : Nat} {g : En → G}  : mkF 0 N g [] = endK 0 (g ([] ++ List.replicate (N - 0) Sv.no)) := q_mkF rfl
theorem q_mk1 {N : Nat} {g : En → G} {a0 : Sv} : mkF 1 N g [a0] = endK 1 (g ([a0] ++ List.replicate (N - 1) Sv.no)) := q_mkF rfl
theorem q_mk2 {N : Nat} {g : En → G} {a0 a1 : Sv} : mkF 2 N g [a0, a1] = endK 2 (g ([a0, a1] ++ List.replicate (N - 2) Sv.no)) := q_mkF rfl
theorem q_mk3 {N : Nat} {g : En → G} {a0 a1 a2 : Sv} : mkF 3 N g [a0, a1, a2] = endK 3 (g ([a0, a1, a2] ++ List.replicate (N - 3) Sv.no)) := q_mkF rfl
theorem q_mk4 {N : Nat} {g : En → G} {a0 a1 a2 a3 : Sv} : mkF 4 N g [a0, a1, a2, a3] = endK 4 (g ([a0, a1, a2, a3] ++ List.replicate (N - 4) Sv.no)) := q_mkF rfl
theorem q_mk5 {N : Nat} {g : En → G} {a0 a1 a2 a3 a4 : Sv} : mkF 5 N g [a0, a1, a2, a3, a4] = endK 5 (g ([a0, a1, a2, a3, a4] ++ List.replicate (N - 5) Sv.no)) := q_mkF rfl
theorem q_mk6 {N : Nat} {g : En → G} {a0 a1 a2 a3 a4 a5 : Sv} : mkF 6 N g [a0, a1, a2, a3, a4, a5] = endK 6 (g ([a0, a1, a2, a3, a4, a5] ++ List.replicate (N - 6) Sv.no)) := q_mkF rfl
theorem q_cast0 : ((0 : Nat) : Int) = 0 := rfl
theorem q_cast1 : ((1 : Nat) : Int) = 1 := rfl
theorem q_cast2 : ((2 : Nat) : Int) = 2 := rfl
theorem q_cast3 : ((3 : Nat) : Int) = 3 := rfl
theorem q_cast4 : ((4 : Nat) : Int) = 4 := rfl
theorem q_cast5 : ((5 : Nat) : Int) = 5 := rfl
theorem q_cast6 : ((6 : Nat) : Int) = 6 := rfl
theorem q_cast7 : ((7 : Nat) : Int) = 7 := rfl
theorem q_cast8 : ((8 : Nat) : Int) = 8 := rfl
theorem q_cast9 : ((9 : Nat) : Int) = 9 := rfl
theorem q_abs10 : Int.natAbs 10 = 10 := rfl
theorem q_pow1018 {e : En} : powO (.d (.int 10)) (.d (.int 18)) e = .ok (.d (.int 1000000000000000000)) e := by
  rw [q_pow_i, if_pos ⟨by decide, by decide, by decide⟩]; rfl
theorem q_times_c {e : En} {x y : Int} (h : 0 ≤ y ∧ y < 4294967296) : timesO (.d (.int x)) (.d (.int y)) e = .ok (.d (.int (x * y))) e := by
  rw [q_times_i, if_pos (.inr ⟨by omega, by omega⟩)]
end FL
set_option Elab.async false
set_option linter.all false
set_option autoImplicit false
set_option maxRecDepth 100000
set_option maxHeartbeats 4000000
namespace FL
open PySem PySem.Spec PyProof.Rows L2 DL
/-- a comprehension that changes nothing -/
theorem lc_map {α : Type} {np : Nat} {vs : List Nat} {p : Pat} {t : En → O Bool} {el : En → O Vv} {enc : α → Dat} {pt : α → Bool} {gt : α → Dat} {e : En} (hv : vs.all (fun i => !isOwn e i) = true) : ∀ (as : List α) (acc : List Dat),
    (∀ a ∈ as, ∃ e2, putE np (wipeE e vs) (enc a) p = some e2 ∧ t e2 = .ok (pt a) e2 ∧ (pt a = true → el e2 = .ok (.d (gt a)) e2) ∧ e2.length = e.length ∧ mrg e e2 = e) → lcGo np vs p t el (as.map enc) e acc = .ok (acc ++ (as.filter pt).map gt) e
  | [], acc, _ => by simp [lcGo]
  | a :: as, acc, h => by
    obtain ⟨e2, h1, h2, h3, h4, h5⟩ := h a List.mem_cons_self
    have ih := fun acc => lc_map hv as acc fun b hb => h b (List.mem_cons_of_mem _ hb)
    rw [List.map_cons]
    unfold lcGo
    rw [if_pos hv, h1]
    simp only
    rw [h2]
    cases q : pt a with
    | true =>
      simp only
      rw [h3 q]
      simp only
      rw [if_pos h4, h5, ih, List.filter_cons_of_pos q, List.map_cons, List.append_assoc]
      rfl
    | false =>
      simp only
      rw [if_pos h4, h5, ih, List.filter_cons_of_neg (by rw [q]; simp)]
/-- a loop over a state -/
theorem for_map {α σ ζ : Type} {np : Nat} {p : Pat} {g : En → G} {enc : α → Dat} {E : σ → ζ → En} {step : σ → α → σ} {J : σ → Prop} : ∀ (as : List α) (s : σ) (z : ζ), J s →
    (∀ s z a, a ∈ as → J s → J (step s a) ∧ ∃ e1, putE np (E s z) (enc a) p = some e1 ∧ ∃ z', g e1 = .nx (E (step s a) z')) → J (as.foldl step s) ∧ ∃ z', forGo np p g (as.map enc) (E s z) = .nx (E (as.foldl step s) z')
  | [], s, z, j, _ => ⟨j, z, rfl⟩
  | a :: as, s, z, j, h => by
    obtain ⟨j1, e1, h1, z1, h2⟩ := h s z a List.mem_cons_self j
    obtain ⟨j2, z2, h3⟩ := for_map as (step s a) z1 j1 fun s z b hb => h s z b (List.mem_cons_of_mem _ hb)
    refine ⟨j2, z2, ?_⟩
    rw [List.map_cons, q_for_c h1, h2]
    exact h3
/-- a loop that ends at the first bad one -/
theorem for_all {α ζ : Type} {np : Nat} {p : Pat} {g : En → G} {enc : α → Dat} {E : ζ → En} {good : α → Bool} {r : Sv} : ∀ (as : List α) (z : ζ),
    (∀ z a, a ∈ as → ∃ e1, putE np (E z) (enc a) p = some e1 ∧ ∃ z', g e1 = if good a = true then .nx (E z') else .rt r (E z')) → ∃ z', forGo np p g (as.map enc) (E z) = if as.all good = true then .nx (E z') else .rt r (E z')
  | [], z, _ => ⟨z, rfl⟩
  | a :: as, z, h => by
    obtain ⟨e1, h1, z1, h2⟩ := h z a List.mem_cons_self
    rw [List.map_cons, q_for_c h1, h2]
    cases q : good a with
    | true =>
      obtain ⟨z2, h3⟩ := for_all as z1 fun z b hb => h z b (List.mem_cons_of_mem _ hb)
      exact ⟨z2, by rw [if_pos rfl, q_st_n, h3, List.all_cons, q, Bool.true_and]⟩
    | false => exact ⟨z1, by rw [if_neg (by simp), q_st_r, List.all_cons, q, Bool.false_and, if_neg (by simp)]⟩
/-- a loop whose turns choose -/
theorem for_ex {α : Type} {np : Nat} {p : Pat} {g : En → G} {enc : α → Dat} {J : Nat → En → Prop} {as : List α} (h : ∀ i a e, as[i]? = some a → J i e → ∃ e1, putE np e (enc a) p = some e1 ∧ ∃ e2, g e1 = .nx e2 ∧ J (i + 1) e2) :
    ∀ (m : Nat) (i : Nat) (e : En), as.length - i = m → i ≤ as.length → J i e → ∃ e2, forGo np p g ((as.drop i).map enc) e = .nx e2 ∧ J as.length e2
  | 0, i, e, hm, hi, j => by
    have : i = as.length := by omega
    subst this
    exact ⟨e, by rw [List.drop_length]; rfl, j⟩
  | m + 1, i, e, hm, hi, j => by
    have hl : i < as.length := by omega
    obtain ⟨e1, h1, e2, h2, j2⟩ := h i as[i] e (List.getElem?_eq_getElem hl) j
    obtain ⟨e3, h3, j3⟩ := for_ex h m (i + 1) e2 (by omega) hl j2
    exact ⟨e3, by rw [List.drop_eq_getElem_cons hl, List.map_cons, q_for_c h1, h2]; exact h3, j3⟩
theorem for_ex0 {α : Type} {np : Nat} {p : Pat} {g : En → G} {enc : α → Dat} {J : Nat → En → Prop} {as : List α} {e : En} (j : J 0 e) (h : ∀ i a e, as[i]? = some a → J i e → ∃ e1, putE np e (enc a) p = some e1 ∧ ∃ e2, g e1 = .nx e2 ∧ J (i + 1) e2) : ∃ e2, forGo np p g (as.map enc) e = .nx e2 ∧ J as.length e2 := by
  have := for_ex h as.length 0 e rfl (Nat.zero_le _) j
  rw [List.drop_zero] at this
  exact this
theorem rgD_map (lo n : Int) : rgD lo n = ((List.range (n - lo).toNat).map fun (k : Nat) => lo + (k : Int)).map Dat.int := by
  unfold rgD
  rw [List.map_map]
  rfl
theorem rgD_nat (n : Nat) : rgD 0 (n : Int) = ((List.range n).map fun (k : Nat) => (k : Int)).map Dat.int := by
  rw [rgD_map, Int.sub_zero, Int.toNat_natCast]
  congr 1
  exact List.map_congr_left fun k _ => Int.zero_add _
end FL
set_option Elab.async false
set_option linter.all false
set_option autoImplicit false
set_option maxRecDepth 100000
set_option maxHeartbeats 4000000
namespace FL
open PySem PySem.Spec PyProof.Rows L2 DL
/-! equality and what can be laid -/
theorem lv_int {n : Nat} {i : Int} : lv n (.int i) = true := by
  induction n with
  | zero => rfl
  | succ n ih => exact ih
theorem lv_bl {n : Nat} {i : Bool} : lv n (.bl i) = true := by
  induction n with
  | zero => rfl
  | succ n ih => exact ih
theorem lv_non {n : Nat} : lv n .non = true := by
  induction n with
  | zero => rfl
  | succ n ih => exact ih
theorem lv_str {n : Nat} {x : Str} (h : PyData.strOk x = true) : lv n (.str x) = true := by
  induction n with
  | zero => exact h
  | succ n ih => exact ih
theorem lv_tup {n : Nat} {l : List Dat} : lv (n + 1) (.tup l) = l.all (lv n) := rfl
theorem lv_lst {n : Nat} {l : List Dat} : lv (n + 1) (.lst l) = l.all (lv n) := rfl
theorem lv_ints {n : Nat} {l : List Int} : lv (n + 1) (.lst (l.map Dat.int)) = true := by
  rw [lv_lst, List.all_eq_true]
  intro x hx
  obtain ⟨i, _, rfl⟩ := List.mem_map.mp hx
  exact lv_int
theorem lv20_ints {l : List Int} : lv 20 (.lst (l.map Dat.int)) = true := lv_ints
theorem lv20_nil : lv 20 (.lst []) = true := rfl
theorem eqD_int {x y : Int} : eqD (.int x) (.int y) = decide (x = y) := by
  show (x == y) = _
  by_cases h : x = y <;> simp [h]
theorem eqD_str {x y : Str} : eqD (.str x) (.str y) = decide (x = y) := by
  show (x == y) = _
  by_cases h : x = y <;> simp [h]
theorem eqD_bl {x y : Bool} : eqD (.bl x) (.bl y) = decide (x = y) := by cases x <;> cases y <;> rfl
def eqDs (x y : List Dat) : Bool := PyData.eqvAll (pyDs x) (pyDs y)
theorem eqD_lst {x y : List Dat} : eqD (.lst x) (.lst y) = eqDs x y := rfl
theorem eqD_tup {x y : List Dat} : eqD (.tup x) (.tup y) = eqDs x y := rfl
theorem eqDs_nil : eqDs [] [] = true := rfl
theorem eqDs_cn {a : Dat} {x : List Dat} : eqDs (a :: x) [] = false := rfl
theorem eqDs_nc {a : Dat} {x : List Dat} : eqDs [] (a :: x) = false := rfl
theorem eqDs_cc {a b : Dat} {x y : List Dat} : eqDs (a :: x) (b :: y) = (eqD a b && eqDs x y) := rfl
/-- lists of codes that tell one another -/
theorem eqDs_map {α : Type} [DecidableEq α] {enc : α → Dat} : ∀ {l m : List α}, (∀ a ∈ l, ∀ b ∈ m, eqD (enc a) (enc b) = decide (a = b)) → eqDs (l.map enc) (m.map enc) = decide (l = m)
  | [], [], _ => by rw [List.map_nil, eqDs_nil]; simp
  | [], b :: m, _ => by rw [List.map_nil, List.map_cons, eqDs_nc]; simp
  | a :: l, [], _ => by rw [List.map_nil, List.map_cons, eqDs_cn]; simp
  | a :: l, b :: m, h => by
    rw [List.map_cons, List.map_cons, eqDs_cc, h a List.mem_cons_self b List.mem_cons_self, eqDs_map fun a ha b hb => h a (List.mem_cons_of_mem _ ha) b (List.mem_cons_of_mem _ hb)]
    by_cases h1 : a = b <;> by_cases h2 : l = m <;> simp [h1, h2]
theorem eqD_ints {l m : List Int} : eqD (.lst (l.map Dat.int)) (.lst (m.map Dat.int)) = decide (l = m) := eqDs_map fun a _ b _ => eqD_int
theorem eqD_nil_r {l : List Dat} : eqD (.lst l) (.lst []) = decide (l = []) := by
  cases l with
  | nil => rfl
  | cons a l => rw [eqD_lst, eqDs_cn]; simp
theorem inD_ints {x : Int} {l : List Int} : inD (.int x) (l.map Dat.int) = decide (x ∈ l) := by
  unfold inD
  rw [List.any_map]
  induction l with
  | nil => rfl
  | cons a l ih =>
    rw [List.any_cons, ih]
    show ((a == x) || _) = _
    by_cases h1 : a = x
    · subst h1; simp
    · have h2 : ¬ x = a := fun c => h1 c.symm
      by_cases h3 : x ∈ l <;> simp [h1, h2, h3]
theorem flat_ints {l : List Int} : (l.map Dat.int).all flatD = true := by
  rw [List.all_eq_true]
  intro x hx
  obtain ⟨i, _, rfl⟩ := List.mem_map.mp hx
  rfl
theorem flat_int {x : Int} : flatD (.int x) = true := rfl
theorem flat_str {x : Str} : flatD (.str x) = true := rfl
theorem inD_cons {x a : Dat} {l : List Dat} : inD x (a :: l) = (eqF a x || inD x l) := rfl
theorem inD_nil {x : Dat} : inD x [] = false := rfl
theorem eqF_str {x y : Str} : eqF (.str x) (.str y) = decide (x = y) := by
  show (x == y) = _
  by_cases h : x = y <;> simp [h]
theorem q_fr1N {np i : Nat} {gp : En → G} {e : En} {n : Nat} (h : n ≤ 1000000) : fr1K np i gp (.d (.int (n : Int))) e = forGo np (.nm i) gp (((List.range n).map fun (k : Nat) => (k : Int)).map Dat.int) e := by
  rw [q_fr1K, if_pos ⟨by omega, by omega⟩, rgD_nat]
theorem q_lcLK {np : Nat} {vs : List Nat} {p : Pat} {t : En → O Bool} {el : En → O Vv} {l : List Dat} {e : En} (h : l.length ≤ 100000) : lcL np vs p t el (.d (.lst l)) e = lcGo np vs p t el l e [] := by
  show (if l.length ≤ 100000 then _ else _) = _
  rw [if_pos h]
theorem q_lcR1N {np : Nat} {vs : List Nat} {p : Pat} {t : En → O Bool} {el : En → O Vv} {n : Nat} {e : En} (h : n ≤ 100000) : lcR1 np vs p t el (.d (.int (n : Int))) e = lcGo np vs p t el (((List.range n).map fun (k : Nat) => (k : Int)).map Dat.int) e [] := by
  show (if (n : Int) ≤ 100000 ∧ -(2 ^ 62) ≤ (n : Int) then _ else _) = _
  rw [if_pos ⟨by omega, by omega⟩, rgD_nat]
theorem q_rg1N {n : Nat} {e : En} (h : n ≤ 1000000) : rg1O (.d (.int (n : Int))) e = .ok (((List.range n).map fun (k : Nat) => (k : Int)).map Dat.int) e := by
  have hr : rgOk 0 (n : Int) = true := by
    unfold rgOk
    exact decide_eq_true ⟨by omega, by omega, by omega, by omega, by omega⟩
  rw [q_rg1, if_pos hr, rgD_nat]
theorem q_cs_ge {np i : Nat} {s : Option Sv} (h : np ≤ i) : csO np i s = true := by
  cases s with
  | none => rfl
  | some s => cases s <;> first | rfl | exact decide_eq_true h
/-- a loop over a state, its turn told -/
theorem for_st {α σ ζ : Type} {np : Nat} {p : Pat} {g : En → G} {enc : α → Dat} {E : σ → ζ → En} {step : σ → α → σ} {as : List α} (s0 : σ) (z0 : ζ)
    (h : ∀ i a z, as[i]? = some a → ∃ e1, putE np (E ((as.take i).foldl step s0) z) (enc a) p = some e1 ∧ ∃ z', g e1 = .nx (E (step ((as.take i).foldl step s0) a) z')) : ∃ z', forGo np p g (as.map enc) (E s0 z0) = .nx (E (as.foldl step s0) z') := by
  obtain ⟨e2, h1, z', h2⟩ := for_ex0 (np := np) (p := p) (g := g) (enc := enc) (as := as) (e := E s0 z0) (J := fun i e => ∃ z, e = E ((as.take i).foldl step s0) z) ⟨z0, rfl⟩ fun i a e hi ⟨z, he⟩ => by
    subst he
    obtain ⟨e1, k1, z1, k2⟩ := h i a z hi
    refine ⟨e1, k1, _, k2, z1, ?_⟩
    have e3 : as.take (i + 1) = as.take i ++ [a] := by rw [List.take_add_one, hi]; rfl
    rw [e3, List.foldl_append]
    rfl
  rw [List.take_length] at h2
  exact ⟨z', by rw [h1, h2]⟩
theorem rgD_nat2 (b n : Nat) : rgD (b : Int) (n : Int) = ((List.range' b (n - b)).map fun (k : Nat) => (k : Int)).map Dat.int := by
  rw [rgD_map]
  congr 1
  have e : ((n : Int) - (b : Int)).toNat = n - b := by omega
  rw [e, List.range'_eq_map_range, List.map_map]
  exact List.map_congr_left fun k _ => by
    show (b : Int) + (k : Int) = ((b + k : Nat) : Int)
    omega
theorem q_fr2N {np i : Nat} {gp : En → G} {e : En} {b n : Nat} (hb : b ≤ 1000000) (h : n ≤ 1000000) : fr2K np i gp (.d (.int (b : Int))) (.d (.int (n : Int))) e = forGo np (.nm i) gp (((List.range' b (n - b)).map fun (k : Nat) => (k : Int)).map Dat.int) e := by
  rw [q_fr2K, if_pos ⟨by omega, by omega, by omega, by omega⟩, rgD_nat2]
theorem q_lcR2N {np : Nat} {vs : List Nat} {p : Pat} {t : En → O Bool} {el : En → O Vv} {b n : Nat} {e : En} (hb : b ≤ 100000) (h : n ≤ 100000) : lcR2 np vs p t el (.d (.int (b : Int))) (.d (.int (n : Int))) e = lcGo np vs p t el (((List.range' b (n - b)).map fun (k : Nat) => (k : Int)).map Dat.int) e [] := by
  show (if (n : Int) - (b : Int) ≤ 100000 ∧ -(2 ^ 62) ≤ (b : Int) ∧ (b : Int) < 2 ^ 62 ∧ -(2 ^ 62) ≤ (n : Int) ∧ (n : Int) < 2 ^ 62 then _ else _) = _
  rw [if_pos ⟨by omega, by omega, by omega, by omega, by omega⟩, rgD_nat2]
theorem insU_len {i : Int} : ∀ {l : List Int}, (insU i l).length ≤ l.length + 1
  | [] => by simp [insU]
  | j :: r => by
    unfold insU
    split
    · simp
    · split
      · simp
      · have := insU_len (i := i) (l := r); simp; omega
theorem sortU_len : ∀ l : List Int, (sortU l).length ≤ l.length
  | [] => by simp [sortU]
  | i :: r => by
    have h := sortU_len r
    have h2 := insU_len (i := i) (l := sortU r)
    show (insU i (sortU r)).length ≤ _
    rw [List.length_cons]; omega
end FL
set_option Elab.async false
set_option linter.all false
set_option autoImplicit false
set_option maxRecDepth 100000
set_option maxHeartbeats 4000000
namespace FL
open PySem PySem.Spec PyProof.Rows L2 DL
/-- a comprehension whose turns choose -/
theorem lc_ex {α : Type} {np : Nat} {vs : List Nat} {p : Pat} {t : En → O Bool} {el : En → O Vv} {enc : α → Dat} {J : Nat → List Dat → En → Prop} {as : List α}
    (h : ∀ i a e acc, as[i]? = some a → J i acc e → vs.all (fun i => !isOwn e i) = true ∧ ∃ e2, putE np (wipeE e vs) (enc a) p = some e2 ∧ ∃ b e3, t e2 = .ok b e3 ∧
      (b = true → ∃ y e4, el e3 = .ok (.d y) e4 ∧ e4.length = e.length ∧ J (i + 1) (acc ++ [y]) (mrg e e4)) ∧ (b = false → e3.length = e.length ∧ J (i + 1) acc (mrg e e3))) :
    ∀ (m : Nat) (i : Nat) (e : En) (acc : List Dat), as.length - i = m → i ≤ as.length → J i acc e → ∃ e' acc', lcGo np vs p t el ((as.drop i).map enc) e acc = .ok acc' e' ∧ J as.length acc' e'
  | 0, i, e, acc, hm, hi, j => by
    have : i = as.length := by omega
    subst this
    exact ⟨e, acc, by rw [List.drop_length]; rfl, j⟩
  | m + 1, i, e, acc, hm, hi, j => by
    have hl : i < as.length := by omega
    obtain ⟨hv, e2, h1, b, e3, h2, h3, h4⟩ := h i as[i] e acc (List.getElem?_eq_getElem hl) j
    rw [List.drop_eq_getElem_cons hl, List.map_cons]
    unfold lcGo
    rw [if_pos hv, h1]
    simp only
    rw [h2]
    cases b with
    | true =>
      obtain ⟨y, e4, k1, k2, k3⟩ := h3 rfl
      simp only
      rw [k1]
      simp only
      rw [if_pos k2]
      exact lc_ex h m (i + 1) _ _ (by omega) hl k3
    | false =>
      obtain ⟨k2, k3⟩ := h4 rfl
      simp only
      rw [if_pos k2]
      exact lc_ex h m (i + 1) _ _ (by omega) hl k3
theorem lc_ex0 {α : Type} {np : Nat} {vs : List Nat} {p : Pat} {t : En → O Bool} {el : En → O Vv} {enc : α → Dat} {J : Nat → List Dat → En → Prop} {as : List α} {e : En} (j : J 0 [] e)
    (h : ∀ i a e acc, as[i]? = some a → J i acc e → vs.all (fun i => !isOwn e i) = true ∧ ∃ e2, putE np (wipeE e vs) (enc a) p = some e2 ∧ ∃ b e3, t e2 = .ok b e3 ∧
      (b = true → ∃ y e4, el e3 = .ok (.d y) e4 ∧ e4.length = e.length ∧ J (i + 1) (acc ++ [y]) (mrg e e4)) ∧ (b = false → e3.length = e.length ∧ J (i + 1) acc (mrg e e3))) :
    ∃ e' acc', lcGo np vs p t el (as.map enc) e [] = .ok acc' e' ∧ J as.length acc' e' := by
  have := lc_ex h as.length 0 e [] rfl (Nat.zero_le _) j
  rw [List.drop_zero] at this
  exact this
theorem mrg1_self (s : Sv) : mrg1 s s = s := by cases s <;> rfl
theorem mrg1_n (s : Sv) : mrg1 Sv.no s = Sv.no := by cases s <;> rfl
theorem mrg1_v (d : Dat) (s : Sv) : mrg1 (Sv.v d) s = Sv.v d := by cases s <;> rfl
theorem mrg1_o (l m : List Dat) : mrg1 (Sv.own l) (Sv.own m) = Sv.own m := rfl
theorem mrg_c {a b : Sv} {e f : En} : mrg (a :: e) (b :: f) = mrg1 a b :: mrg e f := rfl
theorem mrg_nil : mrg [] [] = [] := rfl
end FL
set_option Elab.async false
set_option linter.all false
set_option autoImplicit false
set_option maxRecDepth 100000
set_option maxHeartbeats 4000000
/-! The end of a law. -/
namespace FL
open PySem PySem.Spec PyProof.Rows L2 DL
section
variable {P : Program} {w : World} {K : PySem.W.Frag} {mg : Str → Option Value} {base : Heap}
theorem def_okF {x qual : Str} {params : Arguments} {body : List Stmt} {scope : Scope} {f : Addr} {fd : FuncData} {N ps : List Str} {k : Nat} {T : DSp} (F : FunD K x qual params body scope [] [] f fd) (hm : mg x = some (.ref f)) (hb : Binds K fd ps []) (S : FnScope N ps scope)
    (len : ∀ ds M Q E, T ds M Q E → ds.length = ps.length)
    (mono : ∀ ds M (Q Q' : DK) (E E' : Value → List (Str × Dat) → Mem → Prop), (∀ d M', Q d M' → Q' d M') → (∀ c f M', E c f M' → E' c f M') → T ds M Q E → T ds M Q' E')
    (run : N.Nodup → ∀ ds M (Q : DK) (E : Value → List (Str × Dat) → Mem → Prop), T ds M Q E → RS (mkS P w K mg base N scope k fun c fs M' => ∃ M'', (∀ a m, M'' a = some m → M' a = some m) ∧ E c fs M'') (startD N ds) M body
      ⟨fun _ M' => ∃ M'', (∀ a m, M'' a = some m → M' a = some m) ∧ Q .non M'', fun d M' => ∃ M'', (∀ a m, M'' a = some m → M' a = some m) ∧ Q d M'', fun _ _ => False, fun _ _ => False⟩) :
    FnOk P w K mg base (L2.CX P w) (k + 1) f fd ps (spD K T) := by
  refine F.ok S (fun vs H Q E ⟨ds, M, B, rd, rp, h⟩ => rd.length.symm.trans (len _ _ _ _ h)) (fun cdv A outer s H vs Q E hr ⟨ds, M, B, rd, rp, h⟩ => ?_)
  have hrun := run S.nd ds M _ _ h
  refine ⟨tS' _ H M B body, pss_of ⟨rfl, rfl, rfl, rfl, rfl, rfl, rfl, rfl, hr, rfl, passes_of rfl⟩ ((takes_of (E := E) rfl rfl rfl rfl).imp fun cls d σ H' z => ?_) body, ⟨_, M, B, _, startD_sl rd, rp, Fr.refl _ _ _, hrun, fun σ' H' z => ?_, fun v H' z => ?_, fun σ' H' z => ?_, fun σ' H' z => ?_⟩⟩
  · obtain ⟨M', B', fs, r1, r2, r3, M2, hs, r4⟩ := z
    exact r4 d H' B' (r1.drop hs) (r2.drop hs) r3
  · obtain ⟨ρ', M', B', r1, r2, r3, M2, hs, r4⟩ := z
    exact r4 .non H' B' (r2.drop hs) (r3.drop hs) .non
  · obtain ⟨d, M', B', r1, r2, r3, M2, hs, r4⟩ := z
    exact r4 v H' B' (r1.drop hs) (r2.drop hs) r3
  · obtain ⟨ρ', M', B', r1, r2, r3, r4⟩ := z
    exact r4.elim
  · obtain ⟨ρ', M', B', r1, r2, r3, r4⟩ := z
    exact r4.elim
theorem fn_okF {x qual : Str} {params : Arguments} {body : List Stmt} {scope : Scope} {f : Addr} {fd : FuncData} {N ps : List Str} {k : Nat} {g : En → G} (cv : Str → Value) (F : FunD K x qual params body scope [] [] f fd) (hm : mg x = some (.ref f)) (hb : Binds K fd ps []) (S : FnScope N ps scope)
    (hg : N.Nodup → ST ⟨mkS P w K mg base N scope k fun _ _ _ => False, cv, ps.length⟩ body g) : FnOk P w K mg base (L2.CX P w) (k + 1) f fd ps (spD K (TF cv (mkF ps.length N.length g))) := by
  refine def_okF F hm hb S (fun ds M Q E ⟨as, ar, h⟩ => ?_) (fun ds M Q Q' E E' hq he ⟨as, ar, h⟩ => ⟨as, ar, ?_⟩) fun nd ds M Q E ⟨as, ar, h⟩ => ?_
  · unfold mkF at h
    by_cases hl : as.length = ps.length
    · exact ar.len.trans hl
    · rw [if_neg hl] at h; exact h.elim
  · split at h
    · exact hq _ _ h
    · exact fun p hp => hq _ _ (h p hp)
    · exact h.elim
    · exact he _ _ _ h
    · exact h.elim
  · by_cases hl : as.length = ps.length
    · refine hg nd M (bors ds as) (adr ds) _ _ _ _ _ (lk0 hl ar) ?_
      unfold mkF at h
      rw [if_pos hl] at h
      cases z : g (as ++ List.replicate (N.length - ps.length) Sv.no) with
      | nx e =>
        rw [z] at h
        exact fun ps' ρ' M' lk => ⟨_, wb_end ar hl lk, h⟩
      | rt r e =>
        rw [z] at h
        cases r with
        | v d => exact fun ps' ρ' M' lk => ⟨_, wb_end ar hl lk, h⟩
        | own l => exact fun ps' ρ' M' p lk hp => ⟨_, fun a m q => by
            by_cases ha : a = p
            · subst ha; rw [mup_same] at q ⊢; exact q
            · rw [mup_ne ha] at q ⊢; exact wb_end ar hl lk a m q, h p (m_none lk hp)⟩
        | no => exact h.elim
      | bk e => rw [z] at h; exact h.elim
      | ct e => rw [z] at h; exact h.elim
      | ex c fs e =>
        rw [z] at h
        exact fun M' ⟨ps', ρ', lk⟩ => ⟨_, wb_end ar hl lk, h⟩
      | no => rw [z] at h; exact h.elim
    · unfold mkF at h
      rw [if_neg hl] at h
      exact h.elim
end
/-- a written table, from the head's facts -/
theorem ktab_of {K : PySem.W.Frag} {w : World} {mg : Str → Option Value} {x : Str} {tab : List (Str × Int)} (hm : mg x = some (.ref (He.ga K x))) (hd : He.dicW K (He.ga K x) = some (He.keysIn w.params (tab.map (·.1)))) (hv : He.valsB K (He.ga K x) (tab.map fun q => (q.1, .int q.2)) = true) : KTab K w mg x tab := by
  obtain ⟨es, n, D⟩ := He.dicW_ok hd
  refine ⟨He.ga K x, es, n, hm, D, fun z => ?_⟩
  have at_ := D.at_
  cases q : tab.lookup z with
  | some i =>
    have hmem : (z, i) ∈ tab := by
      have : ∀ l : List (Str × Int), l.lookup z = some i → (z, i) ∈ l := fun l => by
        induction l with
        | nil => intro h; cases h
        | cons p r ih =>
          intro h
          rw [List.lookup_cons] at h
          split at h
          · rename_i e
            cases h
            rw [beq_iff_eq.mp e]
            exact List.mem_cons_self
          · exact List.mem_cons_of_mem _ (ih h)
      exact this tab q
    obtain ⟨u, h1, h2⟩ := He.valsB_ok hv (List.mem_map.mpr ⟨(z, i), hmem, rfl⟩)
    refine ⟨some u, h1, fun j hj => ?_, fun h => nomatch h⟩
    cases hj
    obtain ⟨t, rfl⟩ := h2
    exact ⟨t, rfl⟩
  | none =>
    have hnot : z ∉ tab.map (·.1) := fun h => by
      obtain ⟨p, hp, rfl⟩ := List.mem_map.mp h
      rw [List.lookup_eq_none_iff] at q
      have := q p hp
      simp at this
    have hk : es.toList.map He.keyOf = He.keysIn w.params (tab.map (·.1)) := by
      unfold He.dicW at hd
      rw [at_] at hd
      simp only at hd
      split at hd
      · exact Option.some.inj hd
      · cases hd
    obtain ⟨a1, a2⟩ := find_absent hk hnot
    refine ⟨none, ?_, (fun i h => nomatch h), fun _ => rfl⟩
    unfold PySem.W.nsIn
    rw [at_]
    simp only
    rw [a1, a2]
    rfl
/-- a law's promise, at its call -/
theorem sp_law {K : PySem.W.Frag} {cv : Str → Value} {f : List Sv → O Sv} {H : Hp} {a : Addr} {ns : List Int} (hf : ∃ l, f [.v (.frl (ns.map Dat.int))] = .ok (.v (.bl true)) l) (h : SqL K H a (ns.map V.int)) :
    spD K (TF cv f) [.ref a] H (fun v _ => v = .bl true) fun _ _ _ => False := by
  obtain ⟨l, e⟩ := hf
  refine ⟨[.frl (ns.map Dat.int)], fun _ => none, H, .cons (.frl h (rds_ints ns)) .nil, ⟨Up.refl H, fun _ _ q => nomatch q⟩, [.v (.frl (ns.map Dat.int))], ⟨rfl, fun i d q => ?_, fun i l q => ?_, fun i j p l l' q => ?_⟩, ?_⟩
  · cases i with
    | zero => cases q; rfl
    | succ i => cases q
  · cases i with
    | zero => cases q
    | succ i => cases q
  · cases i with
    | zero => cases q
    | succ i => cases q
  · rw [e]
    intro v H' B' _ _ r
    cases r
    rfl
end FL
set_option Elab.async false
set_option linter.all false
set_option autoImplicit false
set_option maxRecDepth 100000
set_option maxHeartbeats 0
namespace Hd
open PySem PySem.Spec PyProof.Rows L2
def topS (i : Nat) : Stmt := PySem.Challenge.pw_writeorder_k02_what_may_be_there.main.body.getD i (.Pass ⟨0, 0, 0, 0⟩)
abbrev s_BadRun___init : Stmt := inClass (topS 2) 0
abbrev s_is_deed : Stmt := topS 9
abbrev s_need_run : Stmt := topS 10
abbrev s_need_time : Stmt := topS 11
abbrev s_writes_of : Stmt := topS 12
abbrev s_cuts_of : Stmt := topS 13
abbrev s_values_at : Stmt := topS 14
abbrev s_segments : Stmt := topS 15
abbrev s_synced : Stmt := topS 16
abbrev s_open_segments : Stmt := topS 18
abbrev s_sure : Stmt := topS 19
abbrev s_is_part : Stmt := topS 20
abbrev s_may : Stmt := topS 21
abbrev s_left : Stmt := topS 22
abbrev s_law_dice : Stmt := topS 24
abbrev s_law_next : Stmt := topS 25
abbrev s_law_like : Stmt := topS 26
abbrev s_law_run : Stmt := topS 27
abbrev s_law_words : Stmt := topS 28
abbrev s_law_writes : Stmt := topS 29
abbrev s_law_ahead : Stmt := topS 30
abbrev s_law_may : Stmt := topS 31
abbrev s_law_left : Stmt := topS 32
abbrev s_law_some : Stmt := topS 33
abbrev s_law : Stmt := topS 34
def d_BadRun___init : He.DefD := ⟨("BadRun", some "__init__"), "__init__", "BadRun.__init__", defArgs s_BadRun___init, defBody s_BadRun___init, defScope s_BadRun___init, [], []⟩
def d_is_deed : He.DefD := ⟨("is_deed", none), "is_deed", "is_deed", defArgs s_is_deed, defBody s_is_deed, defScope s_is_deed, [], []⟩
def d_need_run : He.DefD := ⟨("need_run", none), "need_run", "need_run", defArgs s_need_run, defBody s_need_run, defScope s_need_run, [], []⟩
def d_need_time : He.DefD := ⟨("need_time", none), "need_time", "need_time", defArgs s_need_time, defBody s_need_time, defScope s_need_time, [], []⟩
def d_writes_of : He.DefD := ⟨("writes_of", none), "writes_of", "writes_of", defArgs s_writes_of, defBody s_writes_of, defScope s_writes_of, [], []⟩
def d_cuts_of : He.DefD := ⟨("cuts_of", none), "cuts_of", "cuts_of", defArgs s_cuts_of, defBody s_cuts_of, defScope s_cuts_of, [], []⟩
def d_values_at : He.DefD := ⟨("values_at", none), "values_at", "values_at", defArgs s_values_at, defBody s_values_at, defScope s_values_at, [], []⟩
def d_segments : He.DefD := ⟨("segments", none), "segments", "segments", defArgs s_segments, defBody s_segments, defScope s_segments, [], []⟩
def d_synced : He.DefD := ⟨("synced", none), "synced", "synced", defArgs s_synced, defBody s_synced, defScope s_synced, [], []⟩
def d_open_segments : He.DefD := ⟨("open_segments", none), "open_segments", "open_segments", defArgs s_open_segments, defBody s_open_segments, defScope s_open_segments, [], []⟩
def d_sure : He.DefD := ⟨("sure", none), "sure", "sure", defArgs s_sure, defBody s_sure, defScope s_sure, [], []⟩
def d_is_part : He.DefD := ⟨("is_part", none), "is_part", "is_part", defArgs s_is_part, defBody s_is_part, defScope s_is_part, [], []⟩
def d_may : He.DefD := ⟨("may", none), "may", "may", defArgs s_may, defBody s_may, defScope s_may, [], []⟩
def d_left : He.DefD := ⟨("left", none), "left", "left", defArgs s_left, defBody s_left, defScope s_left, [], []⟩
def d_law_dice : He.DefD := ⟨("_law_dice", none), "_law_dice", "_law_dice", defArgs s_law_dice, defBody s_law_dice, defScope s_law_dice, [], []⟩
def d_law_next : He.DefD := ⟨("_law_next", none), "_law_next", "_law_next", defArgs s_law_next, defBody s_law_next, defScope s_law_next, [], []⟩
def d_law_like : He.DefD := ⟨("_law_like", none), "_law_like", "_law_like", defArgs s_law_like, defBody s_law_like, defScope s_law_like, [], []⟩
def d_law_run : He.DefD := ⟨("_law_run", none), "_law_run", "_law_run", defArgs s_law_run, defBody s_law_run, defScope s_law_run, [], []⟩
def d_law_words : He.DefD := ⟨("_law_words", none), "_law_words", "_law_words", defArgs s_law_words, defBody s_law_words, defScope s_law_words, [], []⟩
def d_law_writes : He.DefD := ⟨("_law_writes", none), "_law_writes", "_law_writes", defArgs s_law_writes, defBody s_law_writes, defScope s_law_writes, [], []⟩
def d_law_ahead : He.DefD := ⟨("_law_ahead", none), "_law_ahead", "_law_ahead", defArgs s_law_ahead, defBody s_law_ahead, defScope s_law_ahead, [], []⟩
def d_law_may : He.DefD := ⟨("_law_may", none), "_law_may", "_law_may", defArgs s_law_may, defBody s_law_may, defScope s_law_may, [], []⟩
def d_law_left : He.DefD := ⟨("_law_left", none), "_law_left", "_law_left", defArgs s_law_left, defBody s_law_left, defScope s_law_left, [], []⟩
def d_law_some : He.DefD := ⟨("_law_some", none), "_law_some", "_law_some", defArgs s_law_some, defBody s_law_some, defScope s_law_some, [], []⟩
def d_law : He.DefD := ⟨("law", none), "law", "law", defArgs s_law, defBody s_law, defScope s_law, [], []⟩
def fn : List He.DefD := [d_BadRun___init, d_is_deed, d_need_run, d_need_time, d_writes_of, d_cuts_of, d_values_at, d_segments, d_synced, d_open_segments, d_sure, d_is_part, d_may, d_left, d_law_dice, d_law_next, d_law_like, d_law_run, d_law_words, d_law_writes, d_law_ahead, d_law_may, d_law_left, d_law_some, d_law]
def fa : List He.Fa := [.glo "OrderError", .glo "BadRun", .glo "BadTime", .glo "SIZES", .glo "is_deed", .glo "need_run", .glo "need_time", .glo "writes_of", .glo "cuts_of", .glo "values_at", .glo "segments", .glo "synced", .glo "open_segments", .glo "sure", .glo "is_part", .glo "may", .glo "left", .glo "_law_dice", .glo "_law_next", .glo "_law_like", .glo "_law_run", .glo "_law_words", .glo "_law_writes", .glo "_law_ahead", .glo "_law_may", .glo "_law_left", .glo "_law_some", .glo "law", .free "len", .free "range", .free "list", .free "sorted", .free "set", .free "min", .free "max", .free "int", .free "str", .free "tuple", .free "dict", .free "enumerate", .free "isinstance", .free "bool", .free "ValueError", .int "MOST_BLOCKS" 6, .int "MOST_VALUE" 9, .int "MOST_DEEDS" 60]
def ts : List He.Tab := [(fun K => He.ga K "SIZES", ["write", "wall", "sync"])]
def ex (K : PySem.W.Frag) : Bool := He.valsB K (He.ga K "SIZES") [("write", .int 3), ("wall", .int 1), ("sync", .int 1)]
abbrev R : PySem.W.OpenRow := PySem.W.OpenLaw.row PySem.Challenge.rw_writeorder_k02_what_may_be_there
def loose0 : List PySem.Str := ["OrderError", "BadRun", "BadTime", "MOST_BLOCKS", "MOST_VALUE", "MOST_DEEDS", "SIZES", "is_deed", "need_run", "need_time", "writes_of", "cuts_of", "values_at", "segments", "synced", "open_segments", "sure", "is_part", "may", "left", "_law_dice", "_law_next", "_law_like", "_law_run", "_law_words", "_law_writes", "_law_ahead", "_law_may", "_law_left", "_law_some"]
def loose : List PySem.Str := loose0
abbrev qv : Program := PySem.W.view R.prog [34]
abbrev hk : PySem.W.Hook := He.hookX 4 fa fn ts [] ex
def ob (s : PySem.W.SharedT) : He.AlX := He.obsX 4 fa fn ts [] ex (HandSHeadRun.getT s)
theorem ob_eq (s : PySem.W.SharedT) : ob s = hk.obs s.abs := He.obsX_eq (HandSHeadRun.getT_eq s)
theorem run (w : World) : HandSHeadRun.RunEq R qv hk ob 4000 loose w := by
  refine PySem.W.byRow2 "special-get-raises" (P := fun w => HandSHeadRun.RunEq R qv hk ob 4000 loose w) (fun w => ?_) (fun w => ?_) w
  · intro os
    kernel_rfl
  · intro os
    kernel_rfl
end Hd
set_option Elab.async false
set_option linter.all false
set_option autoImplicit false
set_option maxRecDepth 100000
set_option maxHeartbeats 4000000
namespace Wk
open PySem PySem.Spec PyProof.Rows L2 DL FL
def tab_SIZES : List (Str × Int) := [("write", 3), ("wall", 1), ("sync", 1)]
/-- is_deed: 0 blocks, 1 deed -/
def g_is_deed : En → G := gSeq (gIf (tOr (e2 (eqO false) (e1 lenO (eNm 1)) (eK (.int 0))) (e2 (eqO true) (e2 (kgetO tab_SIZES) (e2 ixO (eNm 1) (eK (.int 0))) (eK (.int 0))) (e1 lenO (eNm 1)))) (gRet (eK (.bl false))) gNil) (gRet (eOr (eB (e2 (eqO true) (e2 ixO (eNm 1) (eK (.int 0))) (eK (.str "write")))) (eAnd (eB (tCh leB ltB (eK (.int 0)) (e2 ixO (eNm 1) (eK (.int 1))) (eNm 0))) (eB (tCh leB leB (eK (.int 0)) (e2 ixO (eNm 1) (eK (.int 2))) (eK (.int 9)))))))
def f_is_deed : List Sv → O Sv := mkF 2 2 g_is_deed
def N_is_deed : List Str := ["blocks", "deed"]
/-- need_run: 0 run, 1 blocks, 2 deeds, 3 place -/
def g_need_run : En → G := gSeq (gPat 1 (.tp [1, 2]) (eNm 0)) (gSeq (gIf (tNot (tCh leB leB (eK (.int 1)) (eNm 1) (eK (.int 6)))) gNo gNil) (gForR1 1 3 (e1 lenO (eNm 2)) (gIf (tOr (e2 (cmpI geB) (eNm 3) (eK (.int 60))) (tNot (tV (e1 (fun r e => frS r e) (e1 (callO f_is_deed) (aCons (eNm 1) (aCons (e2 ixO (eNm 2) (eNm 3)) aNil))))))) gNo gNil)))
def f_need_run : List Sv → O Sv := mkF 1 4 g_need_run
def N_need_run : List Str := ["run", "blocks", "deeds", "place"]
/-- need_time: 0 run, 1 time -/
def g_need_time : En → G := gIf (tNot (tCh leB leB (eK (.int 0)) (eNm 1) (e1 lenO (e2 ixO (eNm 0) (eK (.int 1)))))) gNo gNil
def f_need_time : List Sv → O Sv := mkF 2 2 g_need_time
def N_need_time : List Str := ["run", "time"]
/-- writes_of: 0 deeds, 1 deed -/
def g_writes_of : En → G := gRet (eFr (e1 (lcL 1 [1] (.nm 1) (e2 (eqO false) (e2 ixO (eNm 1) (eK (.int 0))) (eK (.str "write"))) (eSl sliO (eNm 1) (pSome (eK (.int 1))) pNone)) (eNm 0)))
def f_writes_of : List Sv → O Sv := mkF 1 2 g_writes_of
def N_writes_of : List Str := ["deeds", "deed"]
/-- cuts_of: 0 deeds, 1 words, 2 found, 3 many, 4 deed -/
def g_cuts_of : En → G := gSeq (gSetO 2 2 (e1 dspO aNil)) (gSeq (gSet 2 3 (eK (.int 0))) (gSeq (gFor 2 (.nm 4) (eNm 0) (gSeq (gIf (e2 (inO false) (e2 ixO (eNm 4) (eK (.int 0))) (eNm 1)) (gApp 2 (eNm 3)) gNil) (gSet 2 3 (e2 plusO (eNm 3) (e1 intBO (eB (e2 (eqO false) (e2 ixO (eNm 4) (eK (.int 0))) (eK (.str "write"))))))))) (gFrz 2 2 (gRet (eMv 2 2)))))
def f_cuts_of : List Sv → O Sv := mkF 2 5 g_cuts_of
def N_cuts_of : List Str := ["deeds", "words", "found", "many", "deed"]
/-- values_at: 0 blocks, 1 writes, 2 many, 3 found, 4 block, 5 value -/
def g_values_at : En → G := gSeq (gSetO 3 3 (e1 (lcR1 3 [4] (.nm 4) tYes (eK (.int 0))) (eNm 0))) (gSeq (gFor 3 (.tp [4, 5]) (eSl sliO (eNm 1) pNone (pSome (eNm 2))) (gSetI 3 (eNm 5) (eNm 4))) (gFrz 3 3 (gRet (e1 tupOfO (eNm 3)))))
def f_values_at : List Sv → O Sv := mkF 3 6 g_values_at
def N_values_at : List Str := ["blocks", "writes", "many", "found", "block", "value"]
/-- segments: 0 deeds, 1 cuts, 2 k -/
def g_segments : En → G := gSeq (gSet 1 1 (e2 plusO (e2 plusO (eFr (e1 dspO (aCons (eK (.int 0)) aNil))) (e1 (fun r e => frS r e) (e1 (callO f_cuts_of) (aCons (eNm 0) (aCons (e1 tupO (aCons (eK (.str "wall")) (aCons (eK (.str "sync")) aNil))) aNil))))) (eFr (e1 dspO (aCons (e1 lenO (e1 (fun r e => frS r e) (e1 (callO f_writes_of) (aCons (eNm 0) aNil)))) aNil))))) (gRet (eFr (e1 (lcR1 1 [2] (.nm 2) tYes (e1 tupO (aCons (e2 ixO (eNm 1) (eNm 2)) (aCons (e2 ixO (eNm 1) (e2 plusO (eNm 2) (eK (.int 1)))) aNil)))) (e2 subO (e1 lenO (eNm 1)) (eK (.int 1))))))
def f_segments : List Sv → O Sv := mkF 1 3 g_segments
def N_segments : List Str := ["deeds", "cuts", "k"]
/-- synced: 0 deeds -/
def g_synced : En → G := gRet (e2 ixO (e2 plusO (eFr (e1 dspO (aCons (eK (.int 0)) aNil))) (e1 (fun r e => frS r e) (e1 (callO f_cuts_of) (aCons (eNm 0) (aCons (e1 tupO (aCons (eK (.str "sync")) aNil)) aNil))))) (e1 negO (eK (.int 1))))
def f_synced : List Sv → O Sv := mkF 1 1 g_synced
def N_synced : List Str := ["deeds"]
/-- open_segments: 0 deeds, 1 least, 2 segment -/
def g_open_segments : En → G := gSeq (gSet 1 1 (e1 (fun r e => frS r e) (e1 (callO f_synced) (aCons (eNm 0) aNil)))) (gRet (eFr (e1 (lcL 1 [2] (.nm 2) (e2 (cmpI geB) (e2 ixO (eNm 2) (eK (.int 0))) (eNm 1)) (eNm 2)) (e1 (fun r e => frS r e) (e1 (callO f_segments) (aCons (eNm 0) aNil))))))
def f_open_segments : List Sv → O Sv := mkF 1 3 g_open_segments
def N_open_segments : List Str := ["deeds", "least", "segment"]
/-- sure: 0 run, 1 time -/
def g_sure : En → G := gSeq (gX (e1 (fun r e => frS r e) (e1 (callO f_need_run) (aCons (eNm 0) aNil)))) (gSeq (gX (e1 (fun r e => frS r e) (e1 (callO f_need_time) (aCons (eNm 0) (aCons (eNm 1) aNil))))) (gRetO (e1 rg1O (e1 (fun r e => frS r e) (e1 (callO f_synced) (aCons (eSl sliO (e2 ixO (eNm 0) (eK (.int 1))) pNone (pSome (eNm 1))) aNil))))))
def f_sure : List Sv → O Sv := mkF 2 2 g_sure
def N_sure : List Str := ["run", "time"]
/-- is_part: 0 writes, 1 begin, 2 end, 3 done, 4 number, 5 block, 6 one -/
def g_is_part : En → G := gSeq (gForR2 4 4 (eNm 1) (eNm 2) (gIf (e2 (inO false) (eNm 4) (eNm 3)) (gSeq (gSet 4 5 (e2 ixO (e2 ixO (eNm 0) (eNm 4)) (eK (.int 0)))) (gIf (e2 (eqO true) (eFr (e2 (lcR2 4 [6] (.nm 6) (tAnd (e2 (eqO false) (e2 ixO (e2 ixO (eNm 0) (eNm 6)) (eK (.int 0))) (eNm 5)) (e2 (inO true) (eNm 6) (eNm 3))) (eNm 6)) (eNm 1) (eNm 4))) (eFr (e1 dspO aNil))) (gRet (eK (.bl false))) gNil)) gNil)) (gRet (eK (.bl true)))
def f_is_part : List Sv → O Sv := mkF 4 7 g_is_part
def N_is_part : List Str := ["writes", "begin", "end", "done", "number", "block", "one"]
/-- may: 0 run, 1 time, 2 done, 3 deeds, 4 writes, 5 begin, 6 end, 7 inside, 8 number -/
def g_may : En → G := gSeq (gX (e1 (fun r e => frS r e) (e1 (callO f_need_run) (aCons (eNm 0) aNil)))) (gSeq (gX (e1 (fun r e => frS r e) (e1 (callO f_need_time) (aCons (eNm 0) (aCons (eNm 1) aNil))))) (gSeq (gSet 3 3 (eSl sliO (e2 ixO (eNm 0) (eK (.int 1))) pNone (pSome (eNm 1)))) (gSeq (gSet 3 4 (e1 (fun r e => frS r e) (e1 (callO f_writes_of) (aCons (eNm 3) aNil)))) (gSeq (gIf (e2 (eqO true) (eNm 2) (eFr (e1 ssetO (eNm 2)))) (gRet (eK (.bl false))) gNil) (gSeq (gFor 3 (.tp [5, 6]) (e1 (fun r e => frS r e) (e1 (callO f_open_segments) (aCons (eNm 3) aNil))) (gSeq (gSet 3 7 (eFr (e1 (lcL 3 [8] (.nm 8) (tCh leB ltB (eNm 5) (eNm 8) (eNm 6)) (eNm 8)) (eNm 2)))) (gIf (tAnd (e2 (eqO false) (eNm 2) (e2 plusO (eFr (e1 rg1O (eNm 5))) (eNm 7))) (tV (e1 (fun r e => frS r e) (e1 (callO f_is_part) (aCons (eNm 4) (aCons (eNm 5) (aCons (eNm 6) (aCons (eNm 2) aNil)))))))) (gRet (eK (.bl true))) gNil))) (gRet (eK (.bl false))))))))
def f_may : List Sv → O Sv := mkF 3 9 g_may
def N_may : List Str := ["run", "time", "done", "deeds", "writes", "begin", "end", "inside", "number"]
/-- left: 0 run, 1 done, 2 writes, 3 some, 4 number -/
def g_left : En → G := gSeq (gX (e1 (fun r e => frS r e) (e1 (callO f_need_run) (aCons (eNm 0) aNil)))) (gSeq (gSet 2 2 (e1 (fun r e => frS r e) (e1 (callO f_writes_of) (aCons (e2 ixO (eNm 0) (eK (.int 1))) aNil)))) (gSeq (gIf (e2 (eqO true) (eFr (e1 (lcL 2 [4] (.nm 4) (tNot (tCh leB ltB (eK (.int 0)) (eNm 4) (e1 lenO (eNm 2)))) (eNm 4)) (eNm 1))) (eFr (e1 dspO aNil))) gNo gNil) (gSeq (gSet 2 3 (eFr (e1 (lcL 2 [4] (.nm 4) tYes (e2 ixO (eNm 2) (eNm 4))) (eNm 1)))) (gRet (e1 (fun r e => frS r e) (e1 (callO f_values_at) (aCons (e2 ixO (eNm 0) (eK (.int 0))) (aCons (eNm 3) (aCons (e1 lenO (eNm 3)) aNil)))))))))
def f_left : List Sv → O Sv := mkF 2 5 g_left
def N_left : List Str := ["run", "done", "writes", "some", "number"]
/-- law_dice: 0 _law_script, 1 _law_mixed, 2 _law_cell -/
def g_law_dice : En → G := gSeq (gSet 1 1 (eK (.int 0))) (gSeq (gFor 1 (.nm 2) (eNm 0) (gSet 1 1 (e2 modO (e2 plusO (e2 plusO (e2 timesO (eNm 1) (eK (.int 48271))) (e2 timesO (e2 modO (eNm 2) (eK (.int 2147483647))) (eK (.int 69621)))) (eK (.int 11))) (eK (.int 2147483647))))) (gRetO (e1 dspO (aCons (eNm 0) (aCons (eK (.int 0)) (aCons (e2 timesO (eNm 1) (e1 intBO (eB (e2 (cmpI gtB) (e1 lenO (eNm 0)) (eK (.int 2)))))) (aCons (eK (.int 0)) aNil)))))))
def f_law_dice : List Sv → O Sv := mkF 1 3 g_law_dice
def N_law_dice : List Str := ["_law_script", "_law_mixed", "_law_cell"]
/-- law_next: 0 _law_dice_here, 1 _law_many, 2 _law_found, 3 _law_cell -/
def g_law_next : En → G := gSeq (gIf (e2 (cmpI gtB) (e2 ixO (eNm 0) (eK (.int 3))) (eK (.int 0))) (gSeq (gSet 2 2 (e2 modO (e2 ixO (eNm 0) (eK (.int 3))) (eNm 1))) (gSeq (gSetI 0 (e2 fdivO (e2 ixO (eNm 0) (eK (.int 3))) (eNm 1)) (eK (.int 3))) (gRet (eNm 2)))) gNil) (gSeq (gSetI 0 (e2 plusO (e2 ixO (eNm 0) (eK (.int 1))) (eK (.int 1))) (eK (.int 1))) (gSeq (gIf (e2 (cmpI leB) (e2 ixO (eNm 0) (eK (.int 1))) (e1 lenO (e2 ixO (eNm 0) (eK (.int 0))))) (gSeq (gSet 2 3 (e2 ixO (e2 ixO (eNm 0) (eK (.int 0))) (e2 subO (e2 ixO (eNm 0) (eK (.int 1))) (eK (.int 1))))) (gSeq (gSetI 0 (eIf (e2 (cmpI geB) (eNm 3) (e2 powO (eK (.int 10)) (eK (.int 18)))) (e2 fdivO (eNm 3) (eNm 1)) (eK (.int 0))) (eK (.int 3))) (gRet (e2 modO (eNm 3) (eNm 1))))) gNil) (gSeq (gSetI 0 (e2 modO (e2 timesO (e2 ixO (eNm 0) (eK (.int 2))) (eK (.int 48271))) (eK (.int 2147483647))) (eK (.int 2))) (gRet (e2 modO (e2 fdivO (e2 ixO (eNm 0) (eK (.int 2))) (eK (.int 7))) (eNm 1))))))
def f_law_next : List Sv → O Sv := mkF 2 4 g_law_next
def N_law_next : List Str := ["_law_dice_here", "_law_many", "_law_found", "_law_cell"]
/-- law_like: 0 _law_found, 1 _law_due, 2 _law_k, 3 _law_key -/
def g_law_like (self : List Sv → O Sv) : En → G := gSeq (gIf (tV (eB (e1 (isiO "bool") (eNm 1)))) (gRet (eAnd (eB (e1 (isiO "bool") (eNm 0))) (eB (e2 (eqO false) (eNm 0) (eNm 1))))) gNil) (gSeq (gIf (tV (eB (e1 (isiO "str") (eNm 1)))) (gRet (eAnd (eB (e1 (isiO "str") (eNm 0))) (eB (e2 (eqO false) (eNm 0) (eNm 1))))) gNil) (gSeq (gIf (tV (eB (e1 (isiO "int") (eNm 1)))) (gRet (eAnd (eB (e1 (isiO "int") (eNm 0))) (eAnd (eB (tNot (tV (eB (e1 (isiO "bool") (eNm 0)))))) (eB (e2 (eqO false) (eNm 0) (eNm 1)))))) gNil) (gSeq (gIf (e1 (isNO false) (eNm 1)) (gRet (eB (e1 (isNO false) (eNm 0)))) gNil) (gSeq (gIf (tV (eB (e1 (isiO "dict") (eNm 1)))) (gSeq (gIf (tOr (tNot (tV (eB (e1 (isiO "dict") (eNm 0))))) (e2 (eqO true) (e1 lenO (eNm 0)) (e1 lenO (eNm 1)))) (gRet (eK (.bl false))) gNil) (gRet (eB (e2 (eqO false) (eFr (e1 (lcL 2 [3] (.nm 3) (tOr (e2 (inO true) (eNm 3) (eNm 0)) (tNot (tV (e1 (fun r e => frS r e) (e1 (callO self) (aCons (e2 ixO (eNm 0) (eNm 3)) (aCons (e2 ixO (eNm 1) (eNm 3)) aNil))))))) (eNm 3)) (eNm 1))) (eFr (e1 dspO aNil)))))) gNil) (gSeq (gIf (tOr (e2 (eqO true) (eB (e1 (isiO "tuple") (eNm 1))) (eB (e1 (isiO "tuple") (eNm 0)))) (e2 (eqO true) (eB (e1 (isiO "list") (eNm 1))) (eB (e1 (isiO "list") (eNm 0))))) (gRet (eK (.bl false))) gNil) (gSeq (gIf (e2 (eqO true) (e1 lenO (eNm 0)) (e1 lenO (eNm 1))) (gRet (eK (.bl false))) gNil) (gSeq (gForR1 2 2 (e1 lenO (eNm 1)) (gIf (tNot (tV (e1 (fun r e => frS r e) (e1 (callO self) (aCons (e2 ixO (eNm 0) (eNm 2)) (aCons (e2 ixO (eNm 1) (eNm 2)) aNil)))))) (gRet (eK (.bl false))) gNil)) (gRet (eK (.bl true))))))))))
def f_law_like : Nat → List Sv → O Sv
  | 0 => mkF 2 4 gNo
  | n + 1 => mkF 2 4 (g_law_like (f_law_like n))
def N_law_like : List Str := ["_law_found", "_law_due", "_law_k", "_law_key"]
/-- law_run: 0 _law_d, 1 _law_most, 2 _law_words_here, 3 _law_blocks, 4 _law_deeds, 5 _law_k, 6 _law_word, 7 _law_block, 8 _law_value -/
def g_law_run : En → G := gSeq (gSet 3 3 (e2 ixO (eFr (e1 dspO (aCons (eK (.int 2)) (aCons (eK (.int 3)) (aCons (e2 plusO (eK (.int 1)) (e1 (fun r e => frS r e) (e1 (callO f_law_next) (aCons (eNm 0) (aCons (eK (.int 6)) aNil))))) aNil))))) (e1 (fun r e => frS r e) (e1 (callO f_law_next) (aCons (eNm 0) (aCons (eK (.int 3)) aNil)))))) (gSeq (gSetO 3 4 (e1 dspO aNil)) (gSeq (gForR1 3 5 (e1 (fun r e => frS r e) (e1 (callO f_law_next) (aCons (eNm 0) (aCons (e2 plusO (eNm 1) (eK (.int 1))) aNil)))) (gSeq (gSet 3 6 (e2 ixO (eNm 2) (e1 (fun r e => frS r e) (e1 (callO f_law_next) (aCons (eNm 0) (aCons (e1 lenO (eNm 2)) aNil)))))) (gSeq (gSet 3 7 (e1 (fun r e => frS r e) (e1 (callO f_law_next) (aCons (eNm 0) (aCons (eNm 3) aNil))))) (gSeq (gSet 3 8 (e2 ixO (eFr (e1 dspO (aCons (e1 (fun r e => frS r e) (e1 (callO f_law_next) (aCons (eNm 0) (aCons (eK (.int 3)) aNil)))) (aCons (e1 (fun r e => frS r e) (e1 (callO f_law_next) (aCons (eNm 0) (aCons (eK (.int 10)) aNil)))) aNil)))) (e1 intBO (eB (e2 (eqO false) (e1 (fun r e => frS r e) (e1 (callO f_law_next) (aCons (eNm 0) (aCons (eK (.int 3)) aNil)))) (eK (.int 2))))))) (gApp 4 (eIf (e2 (eqO false) (eNm 6) (eK (.str "write"))) (e1 tupO (aCons (eK (.str "write")) (aCons (eNm 7) (aCons (eNm 8) aNil)))) (e1 tupO (aCons (eNm 6) aNil)))))))) (gFrz 3 4 (gRet (e1 tupO (aCons (eNm 3) (aCons (eMv 3 4) aNil)))))))
def f_law_run : List Sv → O Sv := mkF 3 9 g_law_run
def N_law_run : List Str := ["_law_d", "_law_most", "_law_words_here", "_law_blocks", "_law_deeds", "_law_k", "_law_word", "_law_block", "_law_value"]
/-- law_words:  -/
def g_law_words : En → G := gRet (eFr (e1 dspO (aCons (eK (.str "write")) (aCons (eK (.str "write")) (aCons (eK (.str "write")) (aCons (eK (.str "write")) (aCons (eK (.str "wall")) (aCons (eK (.str "sync")) aNil))))))))
def f_law_words : List Sv → O Sv := mkF 0 0 g_law_words
def N_law_words : List Str := []
/-- law_writes: 0 _law_deeds, 1 _law_deed -/
def g_law_writes : En → G := gRet (eFr (e1 (lcL 1 [1] (.nm 1) (e2 (eqO false) (e2 ixO (eNm 1) (eK (.int 0))) (eK (.str "write"))) (eSl sliO (eNm 1) (pSome (eK (.int 1))) pNone)) (eNm 0)))
def f_law_writes : List Sv → O Sv := mkF 1 2 g_law_writes
def N_law_writes : List Str := ["_law_deeds", "_law_deed"]
/-- law_ahead: 0 _law_deeds, 1 _law_found, 2 _law_met, 3 _law_cut, 4 _law_fixed, 5 _law_deed, 6 _law_same, 7 _law_number -/
def g_law_ahead : En → G := gSeq (gSetO 1 1 (e1 dspO aNil)) (gSeq (gSetO 1 2 (e1 dspO aNil)) (gSeq (gSet 1 3 (eK (.int 0))) (gSeq (gSet 1 4 (eK (.int 0))) (gSeq (gFor 1 (.nm 5) (eNm 0) (gIf (e2 (eqO false) (e2 ixO (eNm 5) (eK (.int 0))) (eK (.str "write"))) (gSeq (gSet 1 6 (eFr (e1 (lcR1 1 [7] (.nm 7) (e2 (eqO false) (e2 ixO (eNm 2) (eNm 7)) (e2 ixO (eNm 5) (eK (.int 1)))) (eNm 7)) (e1 lenO (eNm 2))))) (gSeq (gApp 1 (eFr (e1 ssetO (e2 plusO (eNm 6) (eFr (e1 rg1O (eNm 3))))))) (gApp 2 (e2 ixO (eNm 5) (eK (.int 1)))))) (gSeq (gSet 1 3 (e1 lenO (eNm 2))) (gSet 1 4 (e2 ixO (eFr (e1 dspO (aCons (eNm 4) (aCons (eNm 3) aNil)))) (e1 intBO (eB (e2 (eqO false) (e2 ixO (eNm 5) (eK (.int 0))) (eK (.str "sync")))))))))) (gFrz 1 1 (gRet (e1 tupO (aCons (eMv 1 1) (aCons (eNm 4) aNil)))))))))
def f_law_ahead : List Sv → O Sv := mkF 1 8 g_law_ahead
def N_law_ahead : List Str := ["_law_deeds", "_law_found", "_law_met", "_law_cut", "_law_fixed", "_law_deed", "_law_same", "_law_number"]
/-- law_may: 0 _law_deeds, 1 _law_done, 2 _law_ahead_here, 3 _law_fixed, 4 _law_number, 5 _law_one -/
def g_law_may : En → G := gSeq (gPat 2 (.tp [2, 3]) (e1 (fun r e => frS r e) (e1 (callO f_law_ahead) (aCons (eNm 0) aNil)))) (gSeq (gIf (tOr (e2 (eqO true) (eNm 1) (eFr (e1 ssetO (eNm 1)))) (e2 (eqO true) (eFr (e1 (lcL 2 [5] (.nm 5) (tNot (tCh leB ltB (eK (.int 0)) (eNm 5) (e1 lenO (eNm 2)))) (eNm 5)) (eNm 1))) (eFr (e1 dspO aNil)))) (gRet (eK (.bl false))) gNil) (gSeq (gForR1 2 4 (eNm 3) (gIf (e2 (inO true) (eNm 4) (eNm 1)) (gRet (eK (.bl false))) gNil)) (gSeq (gFor 2 (.nm 4) (eNm 1) (gIf (e2 (eqO true) (eFr (e1 (lcL 2 [5] (.nm 5) (e2 (inO true) (eNm 5) (eNm 1)) (eNm 5)) (e2 ixO (eNm 2) (eNm 4)))) (eFr (e1 dspO aNil))) (gRet (eK (.bl false))) gNil)) (gRet (eK (.bl true))))))
def f_law_may : List Sv → O Sv := mkF 2 6 g_law_may
def N_law_may : List Str := ["_law_deeds", "_law_done", "_law_ahead_here", "_law_fixed", "_law_number", "_law_one"]
/-- law_left: 0 _law_blocks, 1 _law_writes_here, 2 _law_done, 3 _law_found, 4 _law_number, 5 _law_block -/
def g_law_left : En → G := gSeq (gSetO 3 3 (e1 (lcR1 3 [5] (.nm 5) tYes (eK (.int 0))) (eNm 0))) (gSeq (gFor 3 (.nm 4) (eNm 2) (gSetI 3 (e2 ixO (e2 ixO (eNm 1) (eNm 4)) (eK (.int 1))) (e2 ixO (e2 ixO (eNm 1) (eNm 4)) (eK (.int 0))))) (gFrz 3 3 (gRet (e1 tupOfO (eNm 3)))))
def f_law_left : List Sv → O Sv := mkF 3 6 g_law_left
def N_law_left : List Str := ["_law_blocks", "_law_writes_here", "_law_done", "_law_found", "_law_number", "_law_block"]
/-- law_some: 0 _law_d, 1 _law_deeds, 2 _law_ahead_here, 3 _law_fixed, 4 _law_often, 5 _law_done, 6 _law_number, 7 _law_good, 8 _law_way, 9 _law_at, 10 _law_one -/
def g_law_some : En → G := gSeq (gPat 2 (.tp [2, 3]) (e1 (fun r e => frS r e) (e1 (callO f_law_ahead) (aCons (eNm 1) aNil)))) (gSeq (gSet 2 4 (e2 plusO (eK (.int 1)) (e1 (fun r e => frS r e) (e1 (callO f_law_next) (aCons (eNm 0) (aCons (eK (.int 6)) aNil)))))) (gSeq (gSetO 2 5 (e1 dspO aNil)) (gSeq (gForR1 2 6 (e1 lenO (eNm 2)) (gSeq (gSet 2 7 (eB (e2 (eqO false) (eFr (e1 (lcL 2 [10] (.nm 10) (e2 (inO true) (eNm 10) (eNm 5)) (eNm 10)) (e2 ixO (eNm 2) (eNm 6)))) (eFr (e1 dspO aNil))))) (gIf (tOr (e2 (cmpI ltB) (eNm 6) (eNm 3)) (tAnd (tV (eNm 7)) (e2 (cmpI gtB) (e1 (fun r e => frS r e) (e1 (callO f_law_next) (aCons (eNm 0) (aCons (eNm 4) aNil)))) (eK (.int 0))))) (gApp 5 (eNm 6)) gNil))) (gFrz 2 5 (gSeq (gSet 2 8 (e1 (fun r e => frS r e) (e1 (callO f_law_next) (aCons (eNm 0) (aCons (eK (.int 5)) aNil))))) (gSeq (gSet 2 9 (e1 (fun r e => frS r e) (e1 (callO f_law_next) (aCons (eNm 0) (aCons (e2 plusO (e1 lenO (eNm 5)) (eK (.int 1))) aNil))))) (gSeq (gIf (e2 (eqO false) (eNm 8) (eK (.int 0))) (gRet (e2 plusO (eSl sliO (eNm 5) pNone (pSome (eNm 9))) (eSl sliO (eNm 5) (pSome (e2 plusO (eNm 9) (eK (.int 1)))) pNone))) gNil) (gSeq (gIf (e2 (eqO false) (eNm 8) (eK (.int 1))) (gRet (eFr (e1 sortO (e2 plusO (eNm 5) (eFr (e1 dspO (aCons (e1 (fun r e => frS r e) (e1 (callO f_law_next) (aCons (eNm 0) (aCons (e2 plusO (e1 lenO (eNm 2)) (eK (.int 2))) aNil)))) aNil))))))) gNil) (gSeq (gIf (e2 (eqO false) (eNm 8) (eK (.int 2))) (gRet (e2 plusO (e2 plusO (eSl sliO (eNm 5) pNone (pSome (eNm 9))) (eFr (e1 dspO (aCons (e2 subO (e1 (fun r e => frS r e) (e1 (callO f_law_next) (aCons (eNm 0) (aCons (e2 plusO (e1 lenO (eNm 2)) (eK (.int 2))) aNil)))) (eK (.int 1))) aNil)))) (eSl sliO (eNm 5) (pSome (eNm 9)) pNone))) gNil) (gRet (eMv 2 5)))))))))))
def f_law_some : List Sv → O Sv := mkF 2 11 g_law_some
def N_law_some : List Str := ["_law_d", "_law_deeds", "_law_ahead_here", "_law_fixed", "_law_often", "_law_done", "_law_number", "_law_good", "_law_way", "_law_at", "_law_one"]
/-- law: 0 _law_script, 1 _law_d, 2 _law_blocks, 3 _law_deeds, 4 _law_writes_here, 5 _law_turn, 6 _law_time, 7 _law_done, 8 _law_handed, 9 _law_found, 10 _law_some_here, 11 _law_again, 12 _law_number -/
def g_law : En → G := gSeq (gSetO 1 1 (e1 (fun r e => owS r e) (e1 (callO f_law_dice) (aCons (eNm 0) aNil)))) (gSeq (gPat 1 (.tp [2, 3]) (e1 (fun r e => frS r e) (e1 (callO f_law_run) (aCons (eNm 1) (aCons (e2 ixO (eFr (e1 dspO (aCons (eK (.int 12)) (aCons (eK (.int 60)) aNil)))) (e1 (fun r e => frS r e) (e1 (callO f_law_next) (aCons (eNm 1) (aCons (eK (.int 2)) aNil))))) (aCons (e1 (fun r e => frS r e) (e1 (callO f_law_words) aNil)) aNil)))))) (gSeq (gSet 1 4 (e1 (fun r e => frS r e) (e1 (callO f_law_writes) (aCons (eNm 3) aNil)))) (gSeq (gForR1 1 5 (eK (.int 8)) (gSeq (gSet 1 6 (e2 ixO (eFr (e1 dspO (aCons (e1 lenO (eNm 3)) (aCons (e1 (fun r e => frS r e) (e1 (callO f_law_next) (aCons (eNm 1) (aCons (e2 plusO (e1 lenO (eNm 3)) (eK (.int 1))) aNil)))) aNil)))) (e1 (fun r e => frS r e) (e1 (callO f_law_next) (aCons (eNm 1) (aCons (eK (.int 2)) aNil)))))) (gSeq (gSet 1 7 (e1 (fun r e => frS r e) (e1 (callO f_law_some) (aCons (eNm 1) (aCons (eSl sliO (eNm 3) pNone (pSome (eNm 6))) aNil))))) (gSeq (gSet 1 8 (eFr (e1 listO (eNm 7)))) (gSeq (gSet 1 9 (e1 (fun r e => frS r e) (e1 (callO f_may) (aCons (e1 tupO (aCons (eNm 2) (aCons (eFr (e1 listO (eNm 3))) aNil))) (aCons (eNm 6) (aCons (eNm 8) aNil)))))) (gSeq (gIf (tNot (tV (e1 (fun r e => frS r e) (e1 (callO (f_law_like 6)) (aCons (eNm 9) (aCons (e1 (fun r e => frS r e) (e1 (callO f_law_may) (aCons (eSl sliO (eNm 3) pNone (pSome (eNm 6))) (aCons (eNm 7) aNil)))) aNil)))))) (gRet (eK (.bl false))) gNil) (gSeq (gSet 1 10 (eFr (e1 (lcR1 1 [12] (.nm 12) (e2 (eqO false) (e1 (fun r e => frS r e) (e1 (callO f_law_next) (aCons (eNm 1) (aCons (eK (.int 2)) aNil)))) (eK (.int 0))) (eNm 12)) (e1 lenO (eNm 4))))) (gSeq (gIf (e2 (eqO true) (eNm 8) (eNm 7)) (gRet (eK (.bl false))) gNil) (gSeq (gIf (tNot (tV (e1 (fun r e => frS r e) (e1 (callO (f_law_like 6)) (aCons (e1 (fun r e => frS r e) (e1 (callO f_left) (aCons (e1 tupO (aCons (eNm 2) (aCons (eNm 3) aNil))) (aCons (eNm 10) aNil)))) (aCons (e1 (fun r e => frS r e) (e1 (callO f_law_left) (aCons (eNm 2) (aCons (eNm 4) (aCons (eNm 10) aNil))))) aNil)))))) (gRet (eK (.bl false))) gNil) (gForR1 1 11 (eK (.int 2)) (gSeq (gSetO 1 9 (e1 (fun r e => owS r e) (e1 (callO f_sure) (aCons (e1 tupO (aCons (eNm 2) (aCons (eNm 3) aNil))) (aCons (eNm 6) aNil))))) (gSeq (gIf (tNot (tV (e1 (fun r e => frS r e) (e1 (callO (f_law_like 6)) (aCons (eNm 9) (aCons (eFr (e1 rg1O (e2 ixO (e1 (fun r e => frS r e) (e1 (callO f_law_ahead) (aCons (eSl sliO (eNm 3) pNone (pSome (eNm 6))) aNil))) (eK (.int 1))))) aNil)))))) (gRet (eK (.bl false))) gNil) (gApp 9 (eK (.int 99))))))))))))))) (gRet (eK (.bl true))))))
def f_law : List Sv → O Sv := mkF 1 13 g_law
def N_law : List Str := ["_law_script", "_law_d", "_law_blocks", "_law_deeds", "_law_writes_here", "_law_turn", "_law_time", "_law_done", "_law_handed", "_law_found", "_law_some_here", "_law_again", "_law_number"]
end Wk
set_option Elab.async false
set_option linter.all false
set_option autoImplicit false
set_option maxRecDepth 100000
set_option maxHeartbeats 4000000
namespace Wk
open PySem PySem.Spec PyProof.Rows L2 DL FL
structure Md (K : PySem.W.Frag) (w : World) (mg : Str → Option Value) : Prop where
  bi : BI mg
  i_MOST_BLOCKS : ∃ t, mg "MOST_BLOCKS" = some (.int 6 t)
  i_MOST_VALUE : ∃ t, mg "MOST_VALUE" = some (.int 9 t)
  i_MOST_DEEDS : ∃ t, mg "MOST_DEEDS" = some (.int 60 t)
  t_SIZES : KTab K w mg "SIZES" tab_SIZES
section
variable {P : Program} {w : World} {K : PySem.W.Frag} {mg : Str → Option Value} {base : Heap} (cv : Str → Value)
theorem sc_is_deed : FnScope N_is_deed ["blocks", "deed"] (defScope Hd.s_is_deed) := ⟨rfl, rfl, rfl, by decide +kernel, rfl, by decide +kernel, by decide +kernel⟩
theorem ok_is_deed (m : Md K w mg) {f : Addr} {fd : FuncData} (F : FunD K "is_deed" "is_deed" (defArgs Hd.s_is_deed) (defBody Hd.s_is_deed) (defScope Hd.s_is_deed) [] [] f fd) (hm : mg "is_deed" = some (.ref f)) : DefOk P w K mg base "is_deed" 1 (TF cv f_is_deed) :=
  fn_ok cv F hm (F.bindsN fun _ _ _ _ _ _ us hl => match us, hl with | [_, _], _ => rfl) sc_is_deed fun nd => st_cons (s1_if (et_w (ew_or (et_eq (ev_len m.bi (ev_nm 1)) ev_int) (ew_or1 (et_ne (ev_kget m.t_SIZES (ev_ix (ev_nm 1) ev_int) ev_int) (ev_len m.bi (ev_nm 1)))))) (st_one (s1_ret ev_bl)) st_nil) (st_one (s1_ret (ev_or (ev_ne (ev_ix (ev_nm 1) ev_int) ev_str) (ev_one (ev_and (ev_ch (fun _ => op_le) (fun _ => op_lt) ev_int (ev_ix (ev_nm 1) ev_int) (ev_nm 0)) (ev_one (ev_ch (fun _ => op_le) (fun _ => op_le) ev_int (ev_ix (ev_nm 1) ev_int) (ev_gi m.i_MOST_VALUE))))))))
theorem sc_need_run : FnScope N_need_run ["run"] (defScope Hd.s_need_run) := ⟨rfl, rfl, rfl, by decide +kernel, rfl, by decide +kernel, by decide +kernel⟩
theorem ok_need_run (m : Md K w mg) (D_is_deed : DefOk P w K mg base "is_deed" 1 (TF cv f_is_deed)) {f : Addr} {fd : FuncData} (F : FunD K "need_run" "need_run" (defArgs Hd.s_need_run) (defBody Hd.s_need_run) (defScope Hd.s_need_run) [] [] f fd) (hm : mg "need_run" = some (.ref f)) : DefOk P w K mg base "need_run" 2 (TF cv f_need_run) :=
  fn_ok cv F hm (F.bindsN fun _ _ _ _ _ _ us hl => match us, hl with | [_], _ => rfl) sc_need_run fun nd => st_cons (s1_pat (.tp [1, 2]) (pat_tp (pats_cons 1 (pats_cons 2 pats_nil nd) nd)) (ev_nm 0)) (st_cons (s1_if (et_not (et_ch (fun _ => op_le) (fun _ => op_le) ev_int (ev_nm 1) (ev_gi m.i_MOST_BLOCKS))) (st_one s1_no) st_nil) (st_one (s1_forR1 3 m.bi (ev_len m.bi (ev_nm 2)) (st_one (s1_if (et_w (ew_or (et_ge (ev_nm 3) (ev_gi m.i_MOST_DEEDS)) (ew_or1 (et_not (et_v (ev_call D_is_deed (ea_cons (ev_nm 1) (ea_cons (ev_ix (ev_nm 2) (ev_nm 3)) ea_nil)))))))) (st_one s1_no) st_nil)) nd)))
theorem sc_need_time : FnScope N_need_time ["run", "time"] (defScope Hd.s_need_time) := ⟨rfl, rfl, rfl, by decide +kernel, rfl, by decide +kernel, by decide +kernel⟩
theorem ok_need_time (m : Md K w mg) {f : Addr} {fd : FuncData} (F : FunD K "need_time" "need_time" (defArgs Hd.s_need_time) (defBody Hd.s_need_time) (defScope Hd.s_need_time) [] [] f fd) (hm : mg "need_time" = some (.ref f)) : DefOk P w K mg base "need_time" 1 (TF cv f_need_time) :=
  fn_ok cv F hm (F.bindsN fun _ _ _ _ _ _ us hl => match us, hl with | [_, _], _ => rfl) sc_need_time fun nd => st_one (s1_if (et_not (et_ch (fun _ => op_le) (fun _ => op_le) ev_int (ev_nm 1) (ev_len m.bi (ev_ix (ev_nm 0) ev_int)))) (st_one s1_no) st_nil)
theorem sc_writes_of : FnScope N_writes_of ["deeds"] (defScope Hd.s_writes_of) := ⟨rfl, rfl, rfl, by decide +kernel, rfl, by decide +kernel, by decide +kernel⟩
theorem ok_writes_of (m : Md K w mg) {f : Addr} {fd : FuncData} (F : FunD K "writes_of" "writes_of" (defArgs Hd.s_writes_of) (defBody Hd.s_writes_of) (defScope Hd.s_writes_of) [] [] f fd) (hm : mg "writes_of" = some (.ref f)) : DefOk P w K mg base "writes_of" 1 (TF cv f_writes_of) :=
  fn_ok cv F hm (F.bindsN fun _ _ _ _ _ _ us hl => match us, hl with | [_], _ => rfl) sc_writes_of fun nd => st_one (s1_ret (ev_fr (el_c (el_lc [("deed", 1)] (.nm 1) rfl (pat_nm 1 nd) (ev_nm 0) (ei_one (et_eq (ev_ix (ev_nm 1) ev_int) ev_str)) (ev_sl (ev_nm 1) (ep_some ev_int) ep_none)) nd)))
theorem sc_cuts_of : FnScope N_cuts_of ["deeds", "words"] (defScope Hd.s_cuts_of) := ⟨rfl, rfl, rfl, by decide +kernel, rfl, by decide +kernel, by decide +kernel⟩
theorem ok_cuts_of (m : Md K w mg) {f : Addr} {fd : FuncData} (F : FunD K "cuts_of" "cuts_of" (defArgs Hd.s_cuts_of) (defBody Hd.s_cuts_of) (defScope Hd.s_cuts_of) [] [] f fd) (hm : mg "cuts_of" = some (.ref f)) : DefOk P w K mg base "cuts_of" 1 (TF cv f_cuts_of) :=
  fn_ok cv F hm (F.bindsN fun _ _ _ _ _ _ us hl => match us, hl with | [_, _], _ => rfl) sc_cuts_of fun nd => st_cons (s1_setO 2 (el_dsp ea_nil) nd) (st_cons (s1_set 3 ev_int nd) (st_cons (s1_for (.nm 4) (pat_nm 4 nd) (ev_nm 0) (st_cons (s1_if (et_in (ev_ix (ev_nm 4) ev_int) (ev_nm 1)) (st_one (s1_app 2 (ev_nm 3))) st_nil) (st_one (s1_set 3 (ev_add (ev_nm 3) (ev_intB m.bi (ev_eq (ev_ix (ev_nm 4) ev_int) ev_str))) nd)))) (st_frz 2 (st_one (s1_ret (ev_mv 2))))))
theorem sc_values_at : FnScope N_values_at ["blocks", "writes", "many"] (defScope Hd.s_values_at) := ⟨rfl, rfl, rfl, by decide +kernel, rfl, by decide +kernel, by decide +kernel⟩
theorem ok_values_at (m : Md K w mg) {f : Addr} {fd : FuncData} (F : FunD K "values_at" "values_at" (defArgs Hd.s_values_at) (defBody Hd.s_values_at) (defScope Hd.s_values_at) [] [] f fd) (hm : mg "values_at" = some (.ref f)) : DefOk P w K mg base "values_at" 1 (TF cv f_values_at) :=
  fn_ok cv F hm (F.bindsN fun _ _ _ _ _ _ us hl => match us, hl with | [_, _, _], _ => rfl) sc_values_at fun nd => st_cons (s1_setCO 3 (el_lcR1 m.bi [("block", 4)] (.nm 4) rfl (pat_nm 4 nd) (ev_nm 0) ei_nil ev_int) nd) (st_cons (s1_for (.tp [4, 5]) (pat_tp (pats_cons 4 (pats_cons 5 pats_nil nd) nd)) (ev_sl (ev_nm 1) ep_none (ep_some (ev_nm 2))) (st_one (s1_setI 3 (ev_nm 5) (ev_nm 4)))) (st_frz 3 (st_one (s1_ret (ev_tupOf m.bi (ev_nm 3))))))
theorem sc_segments : FnScope N_segments ["deeds"] (defScope Hd.s_segments) := ⟨rfl, rfl, rfl, by decide +kernel, rfl, by decide +kernel, by decide +kernel⟩
theorem ok_segments (m : Md K w mg) (D_cuts_of : DefOk P w K mg base "cuts_of" 1 (TF cv f_cuts_of)) (D_writes_of : DefOk P w K mg base "writes_of" 1 (TF cv f_writes_of)) {f : Addr} {fd : FuncData} (F : FunD K "segments" "segments" (defArgs Hd.s_segments) (defBody Hd.s_segments) (defScope Hd.s_segments) [] [] f fd) (hm : mg "segments" = some (.ref f)) : DefOk P w K mg base "segments" 2 (TF cv f_segments) :=
  fn_ok cv F hm (F.bindsN fun _ _ _ _ _ _ us hl => match us, hl with | [_], _ => rfl) sc_segments fun nd => st_cons (s1_set 1 (ev_add (ev_add (ev_fr (el_dsp (ea_cons ev_int ea_nil))) (ev_call D_cuts_of (ea_cons (ev_nm 0) (ea_cons (ev_tup (ea_cons ev_str (ea_cons ev_str ea_nil))) ea_nil)))) (ev_fr (el_dsp (ea_cons (ev_len m.bi (ev_call D_writes_of (ea_cons (ev_nm 0) ea_nil))) ea_nil)))) nd) (st_one (s1_ret (ev_fr (el_c (el_lcR1 m.bi [("k", 2)] (.nm 2) rfl (pat_nm 2 nd) (ev_sub (ev_len m.bi (ev_nm 1)) ev_int) ei_nil (ev_tup (ea_cons (ev_ix (ev_nm 1) (ev_nm 2)) (ea_cons (ev_ix (ev_nm 1) (ev_add (ev_nm 2) ev_int)) ea_nil)))) nd))))
theorem sc_synced : FnScope N_synced ["deeds"] (defScope Hd.s_synced) := ⟨rfl, rfl, rfl, by decide +kernel, rfl, by decide +kernel, by decide +kernel⟩
theorem ok_synced (m : Md K w mg) (D_cuts_of : DefOk P w K mg base "cuts_of" 1 (TF cv f_cuts_of)) {f : Addr} {fd : FuncData} (F : FunD K "synced" "synced" (defArgs Hd.s_synced) (defBody Hd.s_synced) (defScope Hd.s_synced) [] [] f fd) (hm : mg "synced" = some (.ref f)) : DefOk P w K mg base "synced" 2 (TF cv f_synced) :=
  fn_ok cv F hm (F.bindsN fun _ _ _ _ _ _ us hl => match us, hl with | [_], _ => rfl) sc_synced fun nd => st_one (s1_ret (ev_ix (ev_add (ev_fr (el_dsp (ea_cons ev_int ea_nil))) (ev_call D_cuts_of (ea_cons (ev_nm 0) (ea_cons (ev_tup (ea_cons ev_str ea_nil)) ea_nil)))) (ev_neg ev_int)))
theorem sc_open_segments : FnScope N_open_segments ["deeds"] (defScope Hd.s_open_segments) := ⟨rfl, rfl, rfl, by decide +kernel, rfl, by decide +kernel, by decide +kernel⟩
theorem ok_open_segments (m : Md K w mg) (D_segments : DefOk P w K mg base "segments" 2 (TF cv f_segments)) (D_synced : DefOk P w K mg base "synced" 2 (TF cv f_synced)) {f : Addr} {fd : FuncData} (F : FunD K "open_segments" "open_segments" (defArgs Hd.s_open_segments) (defBody Hd.s_open_segments) (defScope Hd.s_open_segments) [] [] f fd) (hm : mg "open_segments" = some (.ref f)) : DefOk P w K mg base "open_segments" 3 (TF cv f_open_segments) :=
  fn_ok cv F hm (F.bindsN fun _ _ _ _ _ _ us hl => match us, hl with | [_], _ => rfl) sc_open_segments fun nd => st_cons (s1_set 1 (ev_call D_synced (ea_cons (ev_nm 0) ea_nil)) nd) (st_one (s1_ret (ev_fr (el_c (el_lc [("segment", 2)] (.nm 2) rfl (pat_nm 2 nd) (ev_call D_segments (ea_cons (ev_nm 0) ea_nil)) (ei_one (et_ge (ev_ix (ev_nm 2) ev_int) (ev_nm 1))) (ev_nm 2)) nd))))
theorem sc_sure : FnScope N_sure ["run", "time"] (defScope Hd.s_sure) := ⟨rfl, rfl, rfl, by decide +kernel, rfl, by decide +kernel, by decide +kernel⟩
theorem ok_sure (m : Md K w mg) (D_synced : DefOk P w K mg base "synced" 2 (TF cv f_synced)) (D_need_time : DefOk P w K mg base "need_time" 1 (TF cv f_need_time)) (D_need_run : DefOk P w K mg base "need_run" 2 (TF cv f_need_run)) {f : Addr} {fd : FuncData} (F : FunD K "sure" "sure" (defArgs Hd.s_sure) (defBody Hd.s_sure) (defScope Hd.s_sure) [] [] f fd) (hm : mg "sure" = some (.ref f)) : DefOk P w K mg base "sure" 3 (TF cv f_sure) :=
  fn_ok cv F hm (F.bindsN fun _ _ _ _ _ _ us hl => match us, hl with | [_, _], _ => rfl) sc_sure fun nd => st_cons (s1_x (ev_call D_need_run (ea_cons (ev_nm 0) ea_nil))) (st_cons (s1_x (ev_call D_need_time (ea_cons (ev_nm 0) (ea_cons (ev_nm 1) ea_nil)))) (st_one (s1_retO (el_rg1 m.bi (ev_call D_synced (ea_cons (ev_sl (ev_ix (ev_nm 0) ev_int) ep_none (ep_some (ev_nm 1))) ea_nil))))))
theorem sc_is_part : FnScope N_is_part ["writes", "begin", "end", "done"] (defScope Hd.s_is_part) := ⟨rfl, rfl, rfl, by decide +kernel, rfl, by decide +kernel, by decide +kernel⟩
theorem ok_is_part (m : Md K w mg) {f : Addr} {fd : FuncData} (F : FunD K "is_part" "is_part" (defArgs Hd.s_is_part) (defBody Hd.s_is_part) (defScope Hd.s_is_part) [] [] f fd) (hm : mg "is_part" = some (.ref f)) : DefOk P w K mg base "is_part" 1 (TF cv f_is_part) :=
  fn_ok cv F hm (F.bindsN fun _ _ _ _ _ _ us hl => match us, hl with | [_, _, _, _], _ => rfl) sc_is_part fun nd => st_cons (s1_forR2 4 m.bi (ev_nm 1) (ev_nm 2) (st_one (s1_if (et_in (ev_nm 4) (ev_nm 3)) (st_cons (s1_set 5 (ev_ix (ev_ix (ev_nm 0) (ev_nm 4)) ev_int) nd) (st_one (s1_if (et_ne (ev_fr (el_c (el_lcR2 m.bi [("one", 6)] (.nm 6) rfl (pat_nm 6 nd) (ev_nm 1) (ev_nm 4) (ei_one (et_w (ew_and (et_eq (ev_ix (ev_ix (ev_nm 0) (ev_nm 6)) ev_int) (ev_nm 5)) (ew_and1 (et_nin (ev_nm 6) (ev_nm 3)))))) (ev_nm 6)) nd)) (ev_fr (el_dsp ea_nil))) (st_one (s1_ret ev_bl)) st_nil))) st_nil)) nd) (st_one (s1_ret ev_bl))
theorem sc_may : FnScope N_may ["run", "time", "done"] (defScope Hd.s_may) := ⟨rfl, rfl, rfl, by decide +kernel, rfl, by decide +kernel, by decide +kernel⟩
theorem ok_may (m : Md K w mg) (D_is_part : DefOk P w K mg base "is_part" 1 (TF cv f_is_part)) (D_open_segments : DefOk P w K mg base "open_segments" 3 (TF cv f_open_segments)) (D_writes_of : DefOk P w K mg base "writes_of" 1 (TF cv f_writes_of)) (D_need_time : DefOk P w K mg base "need_time" 1 (TF cv f_need_time)) (D_need_run : DefOk P w K mg base "need_run" 2 (TF cv f_need_run)) {f : Addr} {fd : FuncData} (F : FunD K "may" "may" (defArgs Hd.s_may) (defBody Hd.s_may) (defScope Hd.s_may) [] [] f fd) (hm : mg "may" = some (.ref f)) : DefOk P w K mg base "may" 4 (TF cv f_may) :=
  fn_ok cv F hm (F.bindsN fun _ _ _ _ _ _ us hl => match us, hl with | [_, _, _], _ => rfl) sc_may fun nd => st_cons (s1_x (ev_call D_need_run (ea_cons (ev_nm 0) ea_nil))) (st_cons (s1_x (ev_call D_need_time (ea_cons (ev_nm 0) (ea_cons (ev_nm 1) ea_nil)))) (st_cons (s1_set 3 (ev_sl (ev_ix (ev_nm 0) ev_int) ep_none (ep_some (ev_nm 1))) nd) (st_cons (s1_set 4 (ev_call D_writes_of (ea_cons (ev_nm 3) ea_nil)) nd) (st_cons (s1_if (et_ne (ev_nm 2) (ev_fr (el_sset m.bi (ev_nm 2)))) (st_one (s1_ret ev_bl)) st_nil) (st_cons (s1_for (.tp [5, 6]) (pat_tp (pats_cons 5 (pats_cons 6 pats_nil nd) nd)) (ev_call D_open_segments (ea_cons (ev_nm 3) ea_nil)) (st_cons (s1_setC 7 (el_lc [("number", 8)] (.nm 8) rfl (pat_nm 8 nd) (ev_nm 2) (ei_one (et_ch (fun _ => op_le) (fun _ => op_lt) (ev_nm 5) (ev_nm 8) (ev_nm 6))) (ev_nm 8)) nd) (st_one (s1_if (et_w (ew_and (et_eq (ev_nm 2) (ev_add (ev_fr (el_rg1 m.bi (ev_nm 5))) (ev_nm 7))) (ew_and1 (et_v (ev_call D_is_part (ea_cons (ev_nm 4) (ea_cons (ev_nm 5) (ea_cons (ev_nm 6) (ea_cons (ev_nm 2) ea_nil))))))))) (st_one (s1_ret ev_bl)) st_nil)))) (st_one (s1_ret ev_bl)))))))
theorem sc_left : FnScope N_left ["run", "done"] (defScope Hd.s_left) := ⟨rfl, rfl, rfl, by decide +kernel, rfl, by decide +kernel, by decide +kernel⟩
theorem ok_left (m : Md K w mg) (D_values_at : DefOk P w K mg base "values_at" 1 (TF cv f_values_at)) (D_writes_of : DefOk P w K mg base "writes_of" 1 (TF cv f_writes_of)) (D_need_run : DefOk P w K mg base "need_run" 2 (TF cv f_need_run)) {f : Addr} {fd : FuncData} (F : FunD K "left" "left" (defArgs Hd.s_left) (defBody Hd.s_left) (defScope Hd.s_left) [] [] f fd) (hm : mg "left" = some (.ref f)) : DefOk P w K mg base "left" 3 (TF cv f_left) :=
  fn_ok cv F hm (F.bindsN fun _ _ _ _ _ _ us hl => match us, hl with | [_, _], _ => rfl) sc_left fun nd => st_cons (s1_x (ev_call D_need_run (ea_cons (ev_nm 0) ea_nil))) (st_cons (s1_set 2 (ev_call D_writes_of (ea_cons (ev_ix (ev_nm 0) ev_int) ea_nil)) nd) (st_cons (s1_if (et_ne (ev_fr (el_c (el_lc [("number", 4)] (.nm 4) rfl (pat_nm 4 nd) (ev_nm 1) (ei_one (et_not (et_ch (fun _ => op_le) (fun _ => op_lt) ev_int (ev_nm 4) (ev_len m.bi (ev_nm 2))))) (ev_nm 4)) nd)) (ev_fr (el_dsp ea_nil))) (st_one s1_no) st_nil) (st_cons (s1_setC 3 (el_lc [("number", 4)] (.nm 4) rfl (pat_nm 4 nd) (ev_nm 1) ei_nil (ev_ix (ev_nm 2) (ev_nm 4))) nd) (st_one (s1_ret (ev_call D_values_at (ea_cons (ev_ix (ev_nm 0) ev_int) (ea_cons (ev_nm 3) (ea_cons (ev_len m.bi (ev_nm 3)) ea_nil)))))))))
theorem sc_law_dice : FnScope N_law_dice ["_law_script"] (defScope Hd.s_law_dice) := ⟨rfl, rfl, rfl, by decide +kernel, rfl, by decide +kernel, by decide +kernel⟩
theorem ok_law_dice (m : Md K w mg) {f : Addr} {fd : FuncData} (F : FunD K "_law_dice" "_law_dice" (defArgs Hd.s_law_dice) (defBody Hd.s_law_dice) (defScope Hd.s_law_dice) [] [] f fd) (hm : mg "_law_dice" = some (.ref f)) : DefOk P w K mg base "_law_dice" 1 (TF cv f_law_dice) :=
  fn_ok cv F hm (F.bindsN fun _ _ _ _ _ _ us hl => match us, hl with | [_], _ => rfl) sc_law_dice fun nd => st_cons (s1_set 1 ev_int nd) (st_cons (s1_for (.nm 2) (pat_nm 2 nd) (ev_nm 0) (st_one (s1_set 1 (ev_mod (ev_add (ev_add (ev_mul (ev_nm 1) ev_int) (ev_mul (ev_mod (ev_nm 2) ev_int) ev_int)) ev_int) ev_int) nd))) (st_one (s1_retO (el_dsp (ea_cons (ev_nm 0) (ea_cons ev_int (ea_cons (ev_mul (ev_nm 1) (ev_intB m.bi (ev_gt (ev_len m.bi (ev_nm 0)) ev_int))) (ea_cons ev_int ea_nil))))))))
theorem sc_law_next : FnScope N_law_next ["_law_dice_here", "_law_many"] (defScope Hd.s_law_next) := ⟨rfl, rfl, rfl, by decide +kernel, rfl, by decide +kernel, by decide +kernel⟩
theorem ok_law_next (m : Md K w mg) {f : Addr} {fd : FuncData} (F : FunD K "_law_next" "_law_next" (defArgs Hd.s_law_next) (defBody Hd.s_law_next) (defScope Hd.s_law_next) [] [] f fd) (hm : mg "_law_next" = some (.ref f)) : DefOk P w K mg base "_law_next" 1 (TF cv f_law_next) :=
  fn_ok cv F hm (F.bindsN fun _ _ _ _ _ _ us hl => match us, hl with | [_, _], _ => rfl) sc_law_next fun nd => st_cons (s1_if (et_gt (ev_ix (ev_nm 0) ev_int) ev_int) (st_cons (s1_set 2 (ev_mod (ev_ix (ev_nm 0) ev_int) (ev_nm 1)) nd) (st_cons (s1_setI 0 (ev_fdiv (ev_ix (ev_nm 0) ev_int) (ev_nm 1)) ev_int) (st_one (s1_ret (ev_nm 2))))) st_nil) (st_cons (s1_setI 0 (ev_add (ev_ix (ev_nm 0) ev_int) ev_int) ev_int) (st_cons (s1_if (et_le (ev_ix (ev_nm 0) ev_int) (ev_len m.bi (ev_ix (ev_nm 0) ev_int))) (st_cons (s1_set 3 (ev_ix (ev_ix (ev_nm 0) ev_int) (ev_sub (ev_ix (ev_nm 0) ev_int) ev_int)) nd) (st_cons (s1_setI 0 (ev_ifE (et_ge (ev_nm 3) (ev_pow ev_int ev_int)) (ev_fdiv (ev_nm 3) (ev_nm 1)) ev_int) ev_int) (st_one (s1_ret (ev_mod (ev_nm 3) (ev_nm 1)))))) st_nil) (st_cons (s1_setI 0 (ev_mod (ev_mul (ev_ix (ev_nm 0) ev_int) ev_int) ev_int) ev_int) (st_one (s1_ret (ev_mod (ev_fdiv (ev_ix (ev_nm 0) ev_int) ev_int) (ev_nm 1)))))))
theorem sc_law_like : FnScope N_law_like ["_law_found", "_law_due"] (defScope Hd.s_law_like) := ⟨rfl, rfl, rfl, by decide +kernel, rfl, by decide +kernel, by decide +kernel⟩
theorem ok_law_like (m : Md K w mg) {f : Addr} {fd : FuncData} (F : FunD K "_law_like" "_law_like" (defArgs Hd.s_law_like) (defBody Hd.s_law_like) (defScope Hd.s_law_like) [] [] f fd) (hm : mg "_law_like" = some (.ref f)) : ∀ n : Nat, DefOk P w K mg base "_law_like" (n + 1) (TF cv (f_law_like n))
  | 0 => fn_ok cv F hm (F.bindsN fun _ _ _ _ _ _ us hl => match us, hl with | [_, _], _ => rfl) sc_law_like fun nd => st_no
  | n + 1 => fn_ok (k := n + 1) cv F hm (F.bindsN fun _ _ _ _ _ _ us hl => match us, hl with | [_, _], _ => rfl) sc_law_like fun nd => by
    have D_law_like := ok_law_like m F hm n
    exact (st_cons (s1_if (et_v (ev_isi m.bi "bool" (ev_nm 1))) (st_one (s1_ret (ev_and (ev_isi m.bi "bool" (ev_nm 0)) (ev_one (ev_eq (ev_nm 0) (ev_nm 1)))))) st_nil) (st_cons (s1_if (et_v (ev_isi m.bi "str" (ev_nm 1))) (st_one (s1_ret (ev_and (ev_isi m.bi "str" (ev_nm 0)) (ev_one (ev_eq (ev_nm 0) (ev_nm 1)))))) st_nil) (st_cons (s1_if (et_v (ev_isi m.bi "int" (ev_nm 1))) (st_one (s1_ret (ev_and (ev_isi m.bi "int" (ev_nm 0)) (ev_and (ev_not (ev_isi m.bi "bool" (ev_nm 0))) (ev_one (ev_eq (ev_nm 0) (ev_nm 1))))))) st_nil) (st_cons (s1_if (et_isN (ev_nm 1)) (st_one (s1_ret (ev_isN (ev_nm 0)))) st_nil) (st_cons (s1_if (et_v (ev_isi m.bi "dict" (ev_nm 1))) (st_cons (s1_if (et_w (ew_or (et_not (et_v (ev_isi m.bi "dict" (ev_nm 0)))) (ew_or1 (et_ne (ev_len m.bi (ev_nm 0)) (ev_len m.bi (ev_nm 1)))))) (st_one (s1_ret ev_bl)) st_nil) (st_one (s1_ret (ev_eq (ev_fr (el_c (el_lc [("_law_key", 3)] (.nm 3) rfl (pat_nm 3 nd) (ev_nm 1) (ei_one (et_w (ew_or (et_nin (ev_nm 3) (ev_nm 0)) (ew_or1 (et_not (et_v (ev_call D_law_like (ea_cons (ev_ix (ev_nm 0) (ev_nm 3)) (ea_cons (ev_ix (ev_nm 1) (ev_nm 3)) ea_nil)) (hk := Nat.le_refl _)))))))) (ev_nm 3)) nd)) (ev_fr (el_dsp ea_nil)))))) st_nil) (st_cons (s1_if (et_w (ew_or (et_ne (ev_isi m.bi "tuple" (ev_nm 1)) (ev_isi m.bi "tuple" (ev_nm 0))) (ew_or1 (et_ne (ev_isi m.bi "list" (ev_nm 1)) (ev_isi m.bi "list" (ev_nm 0)))))) (st_one (s1_ret ev_bl)) st_nil) (st_cons (s1_if (et_ne (ev_len m.bi (ev_nm 0)) (ev_len m.bi (ev_nm 1))) (st_one (s1_ret ev_bl)) st_nil) (st_cons (s1_forR1 2 m.bi (ev_len m.bi (ev_nm 1)) (st_one (s1_if (et_not (et_v (ev_call D_law_like (ea_cons (ev_ix (ev_nm 0) (ev_nm 2)) (ea_cons (ev_ix (ev_nm 1) (ev_nm 2)) ea_nil)) (hk := Nat.le_refl _)))) (st_one (s1_ret ev_bl)) st_nil)) nd) (st_one (s1_ret ev_bl))))))))))
theorem sc_law_run : FnScope N_law_run ["_law_d", "_law_most", "_law_words_here"] (defScope Hd.s_law_run) := ⟨rfl, rfl, rfl, by decide +kernel, rfl, by decide +kernel, by decide +kernel⟩
theorem ok_law_run (m : Md K w mg) (D_law_next : DefOk P w K mg base "_law_next" 1 (TF cv f_law_next)) {f : Addr} {fd : FuncData} (F : FunD K "_law_run" "_law_run" (defArgs Hd.s_law_run) (defBody Hd.s_law_run) (defScope Hd.s_law_run) [] [] f fd) (hm : mg "_law_run" = some (.ref f)) : DefOk P w K mg base "_law_run" 2 (TF cv f_law_run) :=
  fn_ok cv F hm (F.bindsN fun _ _ _ _ _ _ us hl => match us, hl with | [_, _, _], _ => rfl) sc_law_run fun nd => st_cons (s1_set 3 (ev_ix (ev_fr (el_dsp (ea_cons ev_int (ea_cons ev_int (ea_cons (ev_add ev_int (ev_call D_law_next (ea_cons (ev_nm 0) (ea_cons ev_int ea_nil)))) ea_nil))))) (ev_call D_law_next (ea_cons (ev_nm 0) (ea_cons ev_int ea_nil)))) nd) (st_cons (s1_setO 4 (el_dsp ea_nil) nd) (st_cons (s1_forR1 5 m.bi (ev_call D_law_next (ea_cons (ev_nm 0) (ea_cons (ev_add (ev_nm 1) ev_int) ea_nil))) (st_cons (s1_set 6 (ev_ix (ev_nm 2) (ev_call D_law_next (ea_cons (ev_nm 0) (ea_cons (ev_len m.bi (ev_nm 2)) ea_nil)))) nd) (st_cons (s1_set 7 (ev_call D_law_next (ea_cons (ev_nm 0) (ea_cons (ev_nm 3) ea_nil))) nd) (st_cons (s1_set 8 (ev_ix (ev_fr (el_dsp (ea_cons (ev_call D_law_next (ea_cons (ev_nm 0) (ea_cons ev_int ea_nil))) (ea_cons (ev_call D_law_next (ea_cons (ev_nm 0) (ea_cons ev_int ea_nil))) ea_nil)))) (ev_intB m.bi (ev_eq (ev_call D_law_next (ea_cons (ev_nm 0) (ea_cons ev_int ea_nil))) ev_int))) nd) (st_one (s1_app 4 (ev_ifE (et_eq (ev_nm 6) ev_str) (ev_tup (ea_cons ev_str (ea_cons (ev_nm 7) (ea_cons (ev_nm 8) ea_nil)))) (ev_tup (ea_cons (ev_nm 6) ea_nil)))))))) nd) (st_frz 4 (st_one (s1_ret (ev_tup (ea_cons (ev_nm 3) (ea_cons (ev_mv 4) ea_nil))))))))
theorem sc_law_words : FnScope N_law_words [] (defScope Hd.s_law_words) := ⟨rfl, rfl, rfl, by decide +kernel, rfl, by decide +kernel, by decide +kernel⟩
theorem ok_law_words (m : Md K w mg) {f : Addr} {fd : FuncData} (F : FunD K "_law_words" "_law_words" (defArgs Hd.s_law_words) (defBody Hd.s_law_words) (defScope Hd.s_law_words) [] [] f fd) (hm : mg "_law_words" = some (.ref f)) : DefOk P w K mg base "_law_words" 1 (TF cv f_law_words) :=
  fn_ok cv F hm (F.bindsN fun _ _ _ _ _ _ us hl => match us, hl with | [], _ => rfl) sc_law_words fun nd => st_one (s1_ret (ev_fr (el_dsp (ea_cons ev_str (ea_cons ev_str (ea_cons ev_str (ea_cons ev_str (ea_cons ev_str (ea_cons ev_str ea_nil)))))))))
theorem sc_law_writes : FnScope N_law_writes ["_law_deeds"] (defScope Hd.s_law_writes) := ⟨rfl, rfl, rfl, by decide +kernel, rfl, by decide +kernel, by decide +kernel⟩
theorem ok_law_writes (m : Md K w mg) {f : Addr} {fd : FuncData} (F : FunD K "_law_writes" "_law_writes" (defArgs Hd.s_law_writes) (defBody Hd.s_law_writes) (defScope Hd.s_law_writes) [] [] f fd) (hm : mg "_law_writes" = some (.ref f)) : DefOk P w K mg base "_law_writes" 1 (TF cv f_law_writes) :=
  fn_ok cv F hm (F.bindsN fun _ _ _ _ _ _ us hl => match us, hl with | [_], _ => rfl) sc_law_writes fun nd => st_one (s1_ret (ev_fr (el_c (el_lc [("_law_deed", 1)] (.nm 1) rfl (pat_nm 1 nd) (ev_nm 0) (ei_one (et_eq (ev_ix (ev_nm 1) ev_int) ev_str)) (ev_sl (ev_nm 1) (ep_some ev_int) ep_none)) nd)))
theorem sc_law_ahead : FnScope N_law_ahead ["_law_deeds"] (defScope Hd.s_law_ahead) := ⟨rfl, rfl, rfl, by decide +kernel, rfl, by decide +kernel, by decide +kernel⟩
theorem ok_law_ahead (m : Md K w mg) {f : Addr} {fd : FuncData} (F : FunD K "_law_ahead" "_law_ahead" (defArgs Hd.s_law_ahead) (defBody Hd.s_law_ahead) (defScope Hd.s_law_ahead) [] [] f fd) (hm : mg "_law_ahead" = some (.ref f)) : DefOk P w K mg base "_law_ahead" 1 (TF cv f_law_ahead) :=
  fn_ok cv F hm (F.bindsN fun _ _ _ _ _ _ us hl => match us, hl with | [_], _ => rfl) sc_law_ahead fun nd => st_cons (s1_setO 1 (el_dsp ea_nil) nd) (st_cons (s1_setO 2 (el_dsp ea_nil) nd) (st_cons (s1_set 3 ev_int nd) (st_cons (s1_set 4 ev_int nd) (st_cons (s1_for (.nm 5) (pat_nm 5 nd) (ev_nm 0) (st_one (s1_if (et_eq (ev_ix (ev_nm 5) ev_int) ev_str) (st_cons (s1_setC 6 (el_lcR1 m.bi [("_law_number", 7)] (.nm 7) rfl (pat_nm 7 nd) (ev_len m.bi (ev_nm 2)) (ei_one (et_eq (ev_ix (ev_nm 2) (ev_nm 7)) (ev_ix (ev_nm 5) ev_int))) (ev_nm 7)) nd) (st_cons (s1_app 1 (ev_fr (el_sset m.bi (ev_add (ev_nm 6) (ev_fr (el_rg1 m.bi (ev_nm 3))))))) (st_one (s1_app 2 (ev_ix (ev_nm 5) ev_int))))) (st_cons (s1_set 3 (ev_len m.bi (ev_nm 2)) nd) (st_one (s1_set 4 (ev_ix (ev_fr (el_dsp (ea_cons (ev_nm 4) (ea_cons (ev_nm 3) ea_nil)))) (ev_intB m.bi (ev_eq (ev_ix (ev_nm 5) ev_int) ev_str))) nd)))))) (st_frz 1 (st_one (s1_ret (ev_tup (ea_cons (ev_mv 1) (ea_cons (ev_nm 4) ea_nil))))))))))
theorem sc_law_may : FnScope N_law_may ["_law_deeds", "_law_done"] (defScope Hd.s_law_may) := ⟨rfl, rfl, rfl, by decide +kernel, rfl, by decide +kernel, by decide +kernel⟩
theorem ok_law_may (m : Md K w mg) (D_law_ahead : DefOk P w K mg base "_law_ahead" 1 (TF cv f_law_ahead)) {f : Addr} {fd : FuncData} (F : FunD K "_law_may" "_law_may" (defArgs Hd.s_law_may) (defBody Hd.s_law_may) (defScope Hd.s_law_may) [] [] f fd) (hm : mg "_law_may" = some (.ref f)) : DefOk P w K mg base "_law_may" 2 (TF cv f_law_may) :=
  fn_ok cv F hm (F.bindsN fun _ _ _ _ _ _ us hl => match us, hl with | [_, _], _ => rfl) sc_law_may fun nd => st_cons (s1_pat (.tp [2, 3]) (pat_tp (pats_cons 2 (pats_cons 3 pats_nil nd) nd)) (ev_call D_law_ahead (ea_cons (ev_nm 0) ea_nil))) (st_cons (s1_if (et_w (ew_or (et_ne (ev_nm 1) (ev_fr (el_sset m.bi (ev_nm 1)))) (ew_or1 (et_ne (ev_fr (el_c (el_lc [("_law_one", 5)] (.nm 5) rfl (pat_nm 5 nd) (ev_nm 1) (ei_one (et_not (et_ch (fun _ => op_le) (fun _ => op_lt) ev_int (ev_nm 5) (ev_len m.bi (ev_nm 2))))) (ev_nm 5)) nd)) (ev_fr (el_dsp ea_nil)))))) (st_one (s1_ret ev_bl)) st_nil) (st_cons (s1_forR1 4 m.bi (ev_nm 3) (st_one (s1_if (et_nin (ev_nm 4) (ev_nm 1)) (st_one (s1_ret ev_bl)) st_nil)) nd) (st_cons (s1_for (.nm 4) (pat_nm 4 nd) (ev_nm 1) (st_one (s1_if (et_ne (ev_fr (el_c (el_lc [("_law_one", 5)] (.nm 5) rfl (pat_nm 5 nd) (ev_ix (ev_nm 2) (ev_nm 4)) (ei_one (et_nin (ev_nm 5) (ev_nm 1))) (ev_nm 5)) nd)) (ev_fr (el_dsp ea_nil))) (st_one (s1_ret ev_bl)) st_nil))) (st_one (s1_ret ev_bl)))))
theorem sc_law_left : FnScope N_law_left ["_law_blocks", "_law_writes_here", "_law_done"] (defScope Hd.s_law_left) := ⟨rfl, rfl, rfl, by decide +kernel, rfl, by decide +kernel, by decide +kernel⟩
theorem ok_law_left (m : Md K w mg) {f : Addr} {fd : FuncData} (F : FunD K "_law_left" "_law_left" (defArgs Hd.s_law_left) (defBody Hd.s_law_left) (defScope Hd.s_law_left) [] [] f fd) (hm : mg "_law_left" = some (.ref f)) : DefOk P w K mg base "_law_left" 1 (TF cv f_law_left) :=
  fn_ok cv F hm (F.bindsN fun _ _ _ _ _ _ us hl => match us, hl with | [_, _, _], _ => rfl) sc_law_left fun nd => st_cons (s1_setCO 3 (el_lcR1 m.bi [("_law_block", 5)] (.nm 5) rfl (pat_nm 5 nd) (ev_nm 0) ei_nil ev_int) nd) (st_cons (s1_for (.nm 4) (pat_nm 4 nd) (ev_nm 2) (st_one (s1_setI 3 (ev_ix (ev_ix (ev_nm 1) (ev_nm 4)) ev_int) (ev_ix (ev_ix (ev_nm 1) (ev_nm 4)) ev_int)))) (st_frz 3 (st_one (s1_ret (ev_tupOf m.bi (ev_nm 3))))))
theorem sc_law_some : FnScope N_law_some ["_law_d", "_law_deeds"] (defScope Hd.s_law_some) := ⟨rfl, rfl, rfl, by decide +kernel, rfl, by decide +kernel, by decide +kernel⟩
theorem ok_law_some (m : Md K w mg) (D_law_next : DefOk P w K mg base "_law_next" 1 (TF cv f_law_next)) (D_law_ahead : DefOk P w K mg base "_law_ahead" 1 (TF cv f_law_ahead)) {f : Addr} {fd : FuncData} (F : FunD K "_law_some" "_law_some" (defArgs Hd.s_law_some) (defBody Hd.s_law_some) (defScope Hd.s_law_some) [] [] f fd) (hm : mg "_law_some" = some (.ref f)) : DefOk P w K mg base "_law_some" 2 (TF cv f_law_some) :=
  fn_ok cv F hm (F.bindsN fun _ _ _ _ _ _ us hl => match us, hl with | [_, _], _ => rfl) sc_law_some fun nd => st_cons (s1_pat (.tp [2, 3]) (pat_tp (pats_cons 2 (pats_cons 3 pats_nil nd) nd)) (ev_call D_law_ahead (ea_cons (ev_nm 1) ea_nil))) (st_cons (s1_set 4 (ev_add ev_int (ev_call D_law_next (ea_cons (ev_nm 0) (ea_cons ev_int ea_nil)))) nd) (st_cons (s1_setO 5 (el_dsp ea_nil) nd) (st_cons (s1_forR1 6 m.bi (ev_len m.bi (ev_nm 2)) (st_cons (s1_set 7 (ev_eq (ev_fr (el_c (el_lc [("_law_one", 10)] (.nm 10) rfl (pat_nm 10 nd) (ev_ix (ev_nm 2) (ev_nm 6)) (ei_one (et_nin (ev_nm 10) (ev_nm 5))) (ev_nm 10)) nd)) (ev_fr (el_dsp ea_nil))) nd) (st_one (s1_if (et_w (ew_or (et_lt (ev_nm 6) (ev_nm 3)) (ew_or1 (et_w (ew_and (et_v (ev_nm 7)) (ew_and1 (et_gt (ev_call D_law_next (ea_cons (ev_nm 0) (ea_cons (ev_nm 4) ea_nil))) ev_int))))))) (st_one (s1_app 5 (ev_nm 6))) st_nil))) nd) (st_frz 5 (st_cons (s1_set 8 (ev_call D_law_next (ea_cons (ev_nm 0) (ea_cons ev_int ea_nil))) nd) (st_cons (s1_set 9 (ev_call D_law_next (ea_cons (ev_nm 0) (ea_cons (ev_add (ev_len m.bi (ev_nm 5)) ev_int) ea_nil))) nd) (st_cons (s1_if (et_eq (ev_nm 8) ev_int) (st_one (s1_ret (ev_add (ev_sl (ev_nm 5) ep_none (ep_some (ev_nm 9))) (ev_sl (ev_nm 5) (ep_some (ev_add (ev_nm 9) ev_int)) ep_none)))) st_nil) (st_cons (s1_if (et_eq (ev_nm 8) ev_int) (st_one (s1_ret (ev_fr (el_sort m.bi (ev_add (ev_nm 5) (ev_fr (el_dsp (ea_cons (ev_call D_law_next (ea_cons (ev_nm 0) (ea_cons (ev_add (ev_len m.bi (ev_nm 2)) ev_int) ea_nil))) ea_nil)))))))) st_nil) (st_cons (s1_if (et_eq (ev_nm 8) ev_int) (st_one (s1_ret (ev_add (ev_add (ev_sl (ev_nm 5) ep_none (ep_some (ev_nm 9))) (ev_fr (el_dsp (ea_cons (ev_sub (ev_call D_law_next (ea_cons (ev_nm 0) (ea_cons (ev_add (ev_len m.bi (ev_nm 2)) ev_int) ea_nil))) ev_int) ea_nil)))) (ev_sl (ev_nm 5) (ep_some (ev_nm 9)) ep_none)))) st_nil) (st_one (s1_ret (ev_mv 5))))))))))))
theorem sc_law : FnScope N_law ["_law_script"] (defScope Hd.s_law) := ⟨rfl, rfl, rfl, by decide +kernel, rfl, by decide +kernel, by decide +kernel⟩
theorem ok_law (m : Md K w mg) (D_law_like : DefOk P w K mg base "_law_like" 7 (TF cv (f_law_like 6))) (D_law_ahead : DefOk P w K mg base "_law_ahead" 1 (TF cv f_law_ahead)) (D_sure : DefOk P w K mg base "sure" 3 (TF cv f_sure)) (D_law_left : DefOk P w K mg base "_law_left" 1 (TF cv f_law_left)) (D_left : DefOk P w K mg base "left" 3 (TF cv f_left)) (D_law_next : DefOk P w K mg base "_law_next" 1 (TF cv f_law_next)) (D_law_may : DefOk P w K mg base "_law_may" 2 (TF cv f_law_may)) (D_may : DefOk P w K mg base "may" 4 (TF cv f_may)) (D_law_some : DefOk P w K mg base "_law_some" 2 (TF cv f_law_some)) (D_law_writes : DefOk P w K mg base "_law_writes" 1 (TF cv f_law_writes)) (D_law_run : DefOk P w K mg base "_law_run" 2 (TF cv f_law_run)) (D_law_words : DefOk P w K mg base "_law_words" 1 (TF cv f_law_words)) (D_law_dice : DefOk P w K mg base "_law_dice" 1 (TF cv f_law_dice)) {f : Addr} {fd : FuncData} (F : FunD K "law" "law" (defArgs Hd.s_law) (defBody Hd.s_law) (defScope Hd.s_law) [] [] f fd) (hm : mg "law" = some (.ref f)) : FnOk P w K mg base (L2.CX P w) 8 f fd ["_law_script"] (spD K (TF cv f_law)) :=
  fn_okF cv F hm (F.bindsN fun _ _ _ _ _ _ us hl => match us, hl with | [_], _ => rfl) sc_law fun nd => st_cons (s1_setO 1 (el_call D_law_dice (ea_cons (ev_nm 0) ea_nil)) nd) (st_cons (s1_pat (.tp [2, 3]) (pat_tp (pats_cons 2 (pats_cons 3 pats_nil nd) nd)) (ev_call D_law_run (ea_cons (ev_nm 1) (ea_cons (ev_ix (ev_fr (el_dsp (ea_cons ev_int (ea_cons ev_int ea_nil)))) (ev_call D_law_next (ea_cons (ev_nm 1) (ea_cons ev_int ea_nil)))) (ea_cons (ev_call0 D_law_words) ea_nil))))) (st_cons (s1_set 4 (ev_call D_law_writes (ea_cons (ev_nm 3) ea_nil)) nd) (st_cons (s1_forR1 5 m.bi ev_int (st_cons (s1_set 6 (ev_ix (ev_fr (el_dsp (ea_cons (ev_len m.bi (ev_nm 3)) (ea_cons (ev_call D_law_next (ea_cons (ev_nm 1) (ea_cons (ev_add (ev_len m.bi (ev_nm 3)) ev_int) ea_nil))) ea_nil)))) (ev_call D_law_next (ea_cons (ev_nm 1) (ea_cons ev_int ea_nil)))) nd) (st_cons (s1_set 7 (ev_call D_law_some (ea_cons (ev_nm 1) (ea_cons (ev_sl (ev_nm 3) ep_none (ep_some (ev_nm 6))) ea_nil))) nd) (st_cons (s1_set 8 (ev_fr (el_list m.bi (ev_nm 7))) nd) (st_cons (s1_set 9 (ev_call D_may (ea_cons (ev_tup (ea_cons (ev_nm 2) (ea_cons (ev_fr (el_list m.bi (ev_nm 3))) ea_nil))) (ea_cons (ev_nm 6) (ea_cons (ev_nm 8) ea_nil)))) nd) (st_cons (s1_if (et_not (et_v (ev_call D_law_like (ea_cons (ev_nm 9) (ea_cons (ev_call D_law_may (ea_cons (ev_sl (ev_nm 3) ep_none (ep_some (ev_nm 6))) (ea_cons (ev_nm 7) ea_nil))) ea_nil))))) (st_one (s1_ret ev_bl)) st_nil) (st_cons (s1_setC 10 (el_lcR1 m.bi [("_law_number", 12)] (.nm 12) rfl (pat_nm 12 nd) (ev_len m.bi (ev_nm 4)) (ei_one (et_eq (ev_call D_law_next (ea_cons (ev_nm 1) (ea_cons ev_int ea_nil))) ev_int)) (ev_nm 12)) nd) (st_cons (s1_if (et_ne (ev_nm 8) (ev_nm 7)) (st_one (s1_ret ev_bl)) st_nil) (st_cons (s1_if (et_not (et_v (ev_call D_law_like (ea_cons (ev_call D_left (ea_cons (ev_tup (ea_cons (ev_nm 2) (ea_cons (ev_nm 3) ea_nil))) (ea_cons (ev_nm 10) ea_nil))) (ea_cons (ev_call D_law_left (ea_cons (ev_nm 2) (ea_cons (ev_nm 4) (ea_cons (ev_nm 10) ea_nil)))) ea_nil))))) (st_one (s1_ret ev_bl)) st_nil) (st_one (s1_forR1 11 m.bi ev_int (st_cons (s1_setO 9 (el_call D_sure (ea_cons (ev_tup (ea_cons (ev_nm 2) (ea_cons (ev_nm 3) ea_nil))) (ea_cons (ev_nm 6) ea_nil))) nd) (st_cons (s1_if (et_not (et_v (ev_call D_law_like (ea_cons (ev_nm 9) (ea_cons (ev_fr (el_rg1 m.bi (ev_ix (ev_call D_law_ahead (ea_cons (ev_sl (ev_nm 3) ep_none (ep_some (ev_nm 6))) ea_nil)) ev_int))) ea_nil))))) (st_one (s1_ret ev_bl)) st_nil) (st_one (s1_app 9 ev_int)))) nd)))))))))) nd) (st_one (s1_ret ev_bl)))))
end
end Wk
set_option Elab.async false
set_option linter.all false
set_option autoImplicit false
set_option maxRecDepth 100000
set_option maxHeartbeats 4000000
namespace Wk
open PySem PySem.Spec PyProof.Rows L2 DL FL
theorem wo_0 : lv 20 (.str ("write" : Str)) = true := by decide +kernel
theorem wn_0_1 : (("write" : Str) = ("wall" : Str)) = False := by decide +kernel
theorem wn_0_2 : (("write" : Str) = ("sync" : Str)) = False := by decide +kernel
theorem wo_1 : lv 20 (.str ("wall" : Str)) = true := by decide +kernel
theorem wn_1_0 : (("wall" : Str) = ("write" : Str)) = False := by decide +kernel
theorem wn_1_2 : (("wall" : Str) = ("sync" : Str)) = False := by decide +kernel
theorem wo_2 : lv 20 (.str ("sync" : Str)) = true := by decide +kernel
theorem wn_2_0 : (("sync" : Str) = ("write" : Str)) = False := by decide +kernel
theorem wn_2_1 : (("sync" : Str) = ("wall" : Str)) = False := by decide +kernel
theorem wt_SIZES_0 : tab_SIZES.lookup ("write" : Str) = some 3 := by decide +kernel
theorem wt_SIZES_1 : tab_SIZES.lookup ("wall" : Str) = some 1 := by decide +kernel
theorem wt_SIZES_2 : tab_SIZES.lookup ("sync" : Str) = some 1 := by decide +kernel
local macro_rules | `(tactic| walk_at "ev") => `(tactic| simp -implicitDefEqProofs only [List.length_range, lv_int, lv_bl, lv_non, lv20_ints, lv20_nil, eqD_int, eqD_str, eqD_bl, eqD_ints, eqD_nil_r, inD_ints, flat_ints, flat_int, flat_str, inD_cons, inD_nil, eqF_str, Option.getD_some, Option.getD_none, Int.reduceEq, decide_true, decide_false, Bool.not_true, Bool.not_false, Bool.false_and, Bool.and_false, Bool.or_false, Bool.or_true, Bool.false_or, Bool.true_or, decide_not, Bool.not_eq_true, ne_eq, not_true_eq_false, or_false, false_or, and_false, false_and, if_true, if_false, ite_true, ite_false, eq_self, wo_0, wn_0_1, wn_0_2, wo_1, wn_1_0, wn_1_2, wo_2, wn_2_0, wn_2_1, wt_SIZES_0, wt_SIZES_1, wt_SIZES_2, q_bind_ok, q_mk0, q_mk1, q_mk2, q_mk3, q_mk4, q_mk5, q_mk6, q_bind_ex, q_gB_ok, q_gB_ex, q_seq_nx, q_seq_rt, q_seq_bk, q_seq_ex, q_k, q_nm, q_nm_v, q_nm_o, q_mv, q_mv_v, q_mv_o, q_e2, q_e2K, q_e1, q_plus_i, q_plus_t, q_plus_l, q_times_c, q_sub_i, q_mod_i, q_fdiv_i, q_pow1018, q_neg_i, q_sl_o, q_rdL_s, q_rdL_l, q_rdL_f, q_rdS_t, q_rdS_l, q_rdS_f, q_rdS_s, q_rdN_l, q_rdN_s, q_rdF_l, q_rdF_f, q_vO_i, q_vO_b, q_vO_x, q_vO_n, q_vO_t, q_vO_l, q_vO_f, q_vO_s, q_ix, q_ixK, q_ixJ, q_len, q_lenK, q_tupOf, q_tupK, q_intB, q_sli_t, q_sli_l, q_sli_f, q_cmp, q_eq, q_eqK, q_in, q_inK, q_isN_n, q_isN_i, q_isN_b, q_isN_x, q_isN_t, q_isN_l, q_isN_s, q_isi, q_isiK, q_isiJ, q_kget, q_B, q_bK, q_tV, q_tvO, q_tNot, q_ntK, q_tAnd, q_tAK, q_tOr, q_tOK, q_tCh, q_chJ, q_chK, q_chL, q_if, q_ifK, q_and, q_or, q_andK, q_orK, q_aNil, q_aCons, q_aK, q_aL, q_allD_n, q_allD_c, q_tup, q_tupJ, q_dsp, q_dspJ, q_list, q_lstJ, q_slO, q_cat_l, q_fr, q_frK, q_pN, q_pS, q_psO, q_Sl, q_SlK, q_SlJ, q_sset, q_ssK, q_sort, q_srK, q_call, q_callK, q_callJ, q_callX, q_ts_n, q_ts_d, q_ts_s, q_tsK, q_sv_n, q_sv_d, q_sv_s, q_wb_n, q_wb_d, q_wb_s, q_frS_v, q_frS_o, q_owS, q_gNil, q_gSeq, q_cs, q_cs_ge, q_cs_v, q_cs_n, q_cs_o, q_io, q_io_v, q_io_n, q_io_o, q_gSet, q_setK, q_gSetO, q_soK, q_gPat, q_patK, q_nxO, q_put_n, q_put_t, q_sa_c, q_sa_n, q_gX, q_xK, q_gRet, q_rtK, q_gRetO, q_roK, q_gRetS, q_rsK, q_gIf, q_giK, q_apJ, q_gApp, q_apK, q_exJ, q_gExt, q_exK, q_siJ, q_siI, q_gSetI, q_siK, q_gFor, q_foJ, q_foK, q_gForR1, q_gForR2, q_fr2J, q_gFrz, q_fzK_o, q_fzK_v, q_gNo, q_end_n, q_end_r, q_end_x, q_for_n, q_st_n, q_st_r, q_st_x, atI_0, atI_1, atI_2, atI_3, List.length_cons, List.length_nil, List.cons_append, List.nil_append, List.getElem?_cons_zero, List.getElem?_cons_succ, List.getElem?_nil, List.set_cons_zero, List.set_cons_succ, List.take_succ_cons, List.take_zero, List.replicate_succ, List.replicate_zero, Option.map_some, Option.map_none, List.nodup_cons, List.nodup_nil, List.mem_cons, List.not_mem_nil, List.all_cons, List.all_nil, ltB, leB, gtB, geB, decide_eq_true_eq, ↓reduceIte, decide_true, decide_false, Bool.and_true, Bool.true_and, not_false_eq_true, and_self, and_true, true_and, Nat.reduceSub, Nat.reduceAdd, Nat.reduceLeDiff, Bool.false_eq_true, q_abs10, List.length_map, Nat.reduceLT, q_cast0, q_cast1, q_cast2, q_cast3, q_cast4, q_cast5, q_cast6, q_cast7, q_cast8, q_cast9, Int.reduceToNat, Int.reduceLT, Int.reduceLE, Int.reduceAdd, Int.reduceSub, Int.reduceNeg, Int.reduceMul, Int.toNat_one, Int.toNat_zero, or_true, true_or])
local macro_rules | `(tactic| walk_at "evs") => `(tactic| simp -implicitDefEqProofs only [*, List.length_range, lv_int, lv_bl, lv_non, lv20_ints, lv20_nil, eqD_int, eqD_str, eqD_bl, eqD_ints, eqD_nil_r, inD_ints, flat_ints, flat_int, flat_str, inD_cons, inD_nil, eqF_str, Option.getD_some, Option.getD_none, Int.reduceEq, decide_true, decide_false, Bool.not_true, Bool.not_false, Bool.false_and, Bool.and_false, Bool.or_false, Bool.or_true, Bool.false_or, Bool.true_or, decide_not, Bool.not_eq_true, ne_eq, not_true_eq_false, or_false, false_or, and_false, false_and, if_true, if_false, ite_true, ite_false, eq_self, wo_0, wn_0_1, wn_0_2, wo_1, wn_1_0, wn_1_2, wo_2, wn_2_0, wn_2_1, wt_SIZES_0, wt_SIZES_1, wt_SIZES_2, q_bind_ok, q_mk0, q_mk1, q_mk2, q_mk3, q_mk4, q_mk5, q_mk6, q_bind_ex, q_gB_ok, q_gB_ex, q_seq_nx, q_seq_rt, q_seq_bk, q_seq_ex, q_k, q_nm, q_nm_v, q_nm_o, q_mv, q_mv_v, q_mv_o, q_e2, q_e2K, q_e1, q_plus_i, q_plus_t, q_plus_l, q_times_c, q_sub_i, q_mod_i, q_fdiv_i, q_pow1018, q_neg_i, q_sl_o, q_rdL_s, q_rdL_l, q_rdL_f, q_rdS_t, q_rdS_l, q_rdS_f, q_rdS_s, q_rdN_l, q_rdN_s, q_rdF_l, q_rdF_f, q_vO_i, q_vO_b, q_vO_x, q_vO_n, q_vO_t, q_vO_l, q_vO_f, q_vO_s, q_ix, q_ixK, q_ixJ, q_len, q_lenK, q_tupOf, q_tupK, q_intB, q_sli_t, q_sli_l, q_sli_f, q_cmp, q_eq, q_eqK, q_in, q_inK, q_isN_n, q_isN_i, q_isN_b, q_isN_x, q_isN_t, q_isN_l, q_isN_s, q_isi, q_isiK, q_isiJ, q_kget, q_B, q_bK, q_tV, q_tvO, q_tNot, q_ntK, q_tAnd, q_tAK, q_tOr, q_tOK, q_tCh, q_chJ, q_chK, q_chL, q_if, q_ifK, q_and, q_or, q_andK, q_orK, q_aNil, q_aCons, q_aK, q_aL, q_allD_n, q_allD_c, q_tup, q_tupJ, q_dsp, q_dspJ, q_list, q_lstJ, q_slO, q_cat_l, q_fr, q_frK, q_pN, q_pS, q_psO, q_Sl, q_SlK, q_SlJ, q_sset, q_ssK, q_sort, q_srK, q_call, q_callK, q_callJ, q_callX, q_ts_n, q_ts_d, q_ts_s, q_tsK, q_sv_n, q_sv_d, q_sv_s, q_wb_n, q_wb_d, q_wb_s, q_frS_v, q_frS_o, q_owS, q_gNil, q_gSeq, q_cs, q_cs_ge, q_cs_v, q_cs_n, q_cs_o, q_io, q_io_v, q_io_n, q_io_o, q_gSet, q_setK, q_gSetO, q_soK, q_gPat, q_patK, q_nxO, q_put_n, q_put_t, q_sa_c, q_sa_n, q_gX, q_xK, q_gRet, q_rtK, q_gRetO, q_roK, q_gRetS, q_rsK, q_gIf, q_giK, q_apJ, q_gApp, q_apK, q_exJ, q_gExt, q_exK, q_siJ, q_siI, q_gSetI, q_siK, q_gFor, q_foJ, q_foK, q_gForR1, q_gForR2, q_fr2J, q_gFrz, q_fzK_o, q_fzK_v, q_gNo, q_end_n, q_end_r, q_end_x, q_for_n, q_st_n, q_st_r, q_st_x, atI_0, atI_1, atI_2, atI_3, List.length_cons, List.length_nil, List.cons_append, List.nil_append, List.getElem?_cons_zero, List.getElem?_cons_succ, List.getElem?_nil, List.set_cons_zero, List.set_cons_succ, List.take_succ_cons, List.take_zero, List.replicate_succ, List.replicate_zero, Option.map_some, Option.map_none, List.nodup_cons, List.nodup_nil, List.mem_cons, List.not_mem_nil, List.all_cons, List.all_nil, ltB, leB, gtB, geB, decide_eq_true_eq, ↓reduceIte, decide_true, decide_false, Bool.and_true, Bool.true_and, not_false_eq_true, and_self, and_true, true_and, Nat.reduceSub, Nat.reduceAdd, Nat.reduceLeDiff, Bool.false_eq_true, q_abs10, List.length_map, Nat.reduceLT, q_cast0, q_cast1, q_cast2, q_cast3, q_cast4, q_cast5, q_cast6, q_cast7, q_cast8, q_cast9, Int.reduceToNat, Int.reduceLT, Int.reduceLE, Int.reduceAdd, Int.reduceSub, Int.reduceNeg, Int.reduceMul, Int.toNat_one, Int.toNat_zero, or_true, true_or])
/-! ### deeds -/
inductive Dd where
  | wr (b v : Int) | wall | sync
def Dd.d : Dd → Dat
  | .wr b v => .tup [.str "write", .int b, .int v]
  | .wall => .tup [.str "wall"]
  | .sync => .tup [.str "sync"]
def okD (B : Int) : Dd → Prop
  | .wr b v => 0 ≤ b ∧ b < B ∧ 0 ≤ v ∧ v ≤ 9
  | _ => True
def wD (w : Int × Int) : Dat := .tup [.int w.1, .int w.2]
def isW : Dd → Bool
  | .wr _ _ => true
  | _ => false
def wOf : Dd → Int × Int
  | .wr b v => (b, v)
  | _ => (0, 0)
def wrs (ds : List Dd) : List (Int × Int) := (ds.filter isW).map wOf
theorem is_deed_ok {B : Int} {d : Dd} (h : okD B d) : f_is_deed [.v (.int B), .v d.d] = .ok (.v (.bl true)) [.v (.int B), .v d.d] := by
  unfold f_is_deed g_is_deed
  cases d with
  | wr b v =>
    obtain ⟨h1, h2, h3, h4⟩ := h
    unfold Dd.d
    walk_at "evs"
  | wall =>
    unfold Dd.d
    walk_at "ev"
  | sync =>
    unfold Dd.d
    walk_at "ev"
abbrev dsD (ds : List Dd) : Dat := .lst (ds.map Dd.d)
abbrev runD (B : Int) (ds : List Dd) : Dat := .tup [.int B, dsD ds]
structure OkR (B : Int) (ds : List Dd) : Prop where
  b1 : 1 ≤ B
  b6 : B ≤ 6
  len : ds.length ≤ 60
  ok : ∀ d ∈ ds, okD B d
theorem rg_get {n i : Nat} {a : Int} (h : ((List.range n).map fun (k : Nat) => (k : Int))[i]? = some a) : i < n ∧ a = (i : Int) := by
  rw [List.getElem?_map] at h
  by_cases hi : i < n
  · rw [List.getElem?_range hi] at h
    exact ⟨hi, (Option.some.inj h).symm⟩
  · rw [List.getElem?_eq_none (by simpa using hi)] at h
    cases h
theorem need_run_ok {B : Int} {ds : List Dd} (h : OkR B ds) : f_need_run [.v (runD B ds)] = .ok (.v .non) [.v (runD B ds)] := by
  obtain ⟨h1, h2, h3, h4⟩ := h
  unfold f_need_run g_need_run
  have q := @q_fr1N 1 3
  have hl : ds.length ≤ 1000000 := by omega
  walk_at "evs"
  generalize hg : gIf _ _ _ = gg
  obtain ⟨e2, h5, z, rfl⟩ := for_ex0 (np := 1) (p := .nm 3) (g := gg) (enc := Dat.int) (as := (List.range ds.length).map fun (k : Nat) => (k : Int)) (J := fun _ e => ∃ z, e = [Sv.v (runD B ds), Sv.v (Dat.int B), Sv.v (dsD ds), z])
    (e := [Sv.v (runD B ds), Sv.v (Dat.int B), Sv.v (dsD ds), Sv.no]) ⟨_, rfl⟩ fun i a e hi ⟨z, he⟩ => by
      subst he
      obtain ⟨hl, ha⟩ := rg_get hi
      subst ha
      have hl9 : i < ds.length := hl
      have hd : atI (ds.map Dd.d) (i : Int) = some (ds[i]).d := by rw [FL.atI_nat]; simp [hl9]
      have hc := is_deed_ok (h4 ds[i] (List.getElem_mem hl9))
      have hn : ¬ (60 : Int) ≤ (i : Int) := by omega
      refine ⟨[Sv.v (runD B ds), Sv.v (Dat.int B), Sv.v (dsD ds), Sv.v (.int i)], by walk_at "ev", ?_⟩
      subst hg
      refine ⟨[Sv.v (runD B ds), Sv.v (Dat.int B), Sv.v (dsD ds), Sv.v (.int i)], ?_, _, rfl⟩
      walk_at "evs"
  rw [h5]
  walk_at "ev"
theorem need_time_ok {B : Int} {ds : List Dd} {t : Int} (h1 : 0 ≤ t) (h2 : t ≤ ds.length) : f_need_time [.v (runD B ds), .v (.int t)] = .ok (.v .non) [.v (runD B ds), .v (.int t)] := by
  unfold f_need_time g_need_time
  walk_at "evs"
theorem wrs_nil : wrs [] = [] := rfl
theorem writes_of_ok {ds : List Dd} (h : ds.length ≤ 100000) : f_writes_of [.v (dsD ds)] = .ok (.v (.lst ((wrs ds).map wD))) [.v (dsD ds)] := by
  unfold f_writes_of g_writes_of
  have hl : (ds.map Dd.d).length ≤ 100000 := by simpa using h
  have q := @q_lcLK 1 [1] (.nm 1)
  have q2 := fun (e : En) (t : En → O Bool) (el : En → O Vv) hv hx => @lc_map Dd 1 [1] (.nm 1) t el Dd.d isW (fun d => wD (wOf d)) e hv ds [] hx
  walk_at "evs"
  rw [q2 _ _ _ rfl (fun a ha => ?_)]
  · walk_at "ev"
    unfold wrs
    rw [List.map_map]
    rfl
  · refine ⟨[Sv.v (dsD ds), Sv.v a.d], by rfl, ?_, ?_, rfl, rfl⟩
    · cases a <;> (unfold Dd.d isW; walk_at "ev")
    · cases a with
      | wr b v =>
        unfold Dd.d isW wD wOf
        walk_at "ev"
        intro _
        rfl
      | wall => exact fun hf => nomatch hf
      | sync => exact fun hf => nomatch hf
end Wk
set_option Elab.async false
set_option linter.all false
set_option autoImplicit false
set_option maxRecDepth 100000
set_option maxHeartbeats 4000000
namespace Wk
open PySem PySem.Spec PyProof.Rows L2 DL FL
local macro_rules | `(tactic| walk_at "ev") => `(tactic| simp -implicitDefEqProofs only [List.length_range, lv_int, lv_bl, lv_non, lv20_ints, lv20_nil, eqD_int, eqD_str, eqD_bl, eqD_ints, eqD_nil_r, inD_ints, flat_ints, flat_int, flat_str, inD_cons, inD_nil, eqF_str, Option.getD_some, Option.getD_none, Int.reduceEq, decide_true, decide_false, Bool.not_true, Bool.not_false, Bool.false_and, Bool.and_false, Bool.or_false, Bool.or_true, Bool.false_or, Bool.true_or, decide_not, Bool.not_eq_true, ne_eq, not_true_eq_false, or_false, false_or, and_false, false_and, if_true, if_false, ite_true, ite_false, eq_self, wo_0, wn_0_1, wn_0_2, wo_1, wn_1_0, wn_1_2, wo_2, wn_2_0, wn_2_1, wt_SIZES_0, wt_SIZES_1, wt_SIZES_2, q_bind_ok, q_mk0, q_mk1, q_mk2, q_mk3, q_mk4, q_mk5, q_mk6, q_bind_ex, q_gB_ok, q_gB_ex, q_seq_nx, q_seq_rt, q_seq_bk, q_seq_ex, q_k, q_nm, q_nm_v, q_nm_o, q_mv, q_mv_v, q_mv_o, q_e2, q_e2K, q_e1, q_plus_i, q_plus_t, q_plus_l, q_times_c, q_sub_i, q_mod_i, q_fdiv_i, q_pow1018, q_neg_i, q_sl_o, q_rdL_s, q_rdL_l, q_rdL_f, q_rdS_t, q_rdS_l, q_rdS_f, q_rdS_s, q_rdN_l, q_rdN_s, q_rdF_l, q_rdF_f, q_vO_i, q_vO_b, q_vO_x, q_vO_n, q_vO_t, q_vO_l, q_vO_f, q_vO_s, q_ix, q_ixK, q_ixJ, q_len, q_lenK, q_tupOf, q_tupK, q_intB, q_sli_t, q_sli_l, q_sli_f, q_cmp, q_eq, q_eqK, q_in, q_inK, q_isN_n, q_isN_i, q_isN_b, q_isN_x, q_isN_t, q_isN_l, q_isN_s, q_isi, q_isiK, q_isiJ, q_kget, q_B, q_bK, q_tV, q_tvO, q_tNot, q_ntK, q_tAnd, q_tAK, q_tOr, q_tOK, q_tCh, q_chJ, q_chK, q_chL, q_if, q_ifK, q_and, q_or, q_andK, q_orK, q_aNil, q_aCons, q_aK, q_aL, q_allD_n, q_allD_c, q_tup, q_tupJ, q_dsp, q_dspJ, q_list, q_lstJ, q_slO, q_cat_l, q_fr, q_frK, q_pN, q_pS, q_psO, q_Sl, q_SlK, q_SlJ, q_sset, q_ssK, q_sort, q_srK, q_call, q_callK, q_callJ, q_callX, q_ts_n, q_ts_d, q_ts_s, q_tsK, q_sv_n, q_sv_d, q_sv_s, q_wb_n, q_wb_d, q_wb_s, q_frS_v, q_frS_o, q_owS, q_gNil, q_gSeq, q_cs, q_cs_ge, q_cs_v, q_cs_n, q_cs_o, q_io, q_io_v, q_io_n, q_io_o, q_gSet, q_setK, q_gSetO, q_soK, q_gPat, q_patK, q_nxO, q_put_n, q_put_t, q_sa_c, q_sa_n, q_gX, q_xK, q_gRet, q_rtK, q_gRetO, q_roK, q_gRetS, q_rsK, q_gIf, q_giK, q_apJ, q_gApp, q_apK, q_exJ, q_gExt, q_exK, q_siJ, q_siI, q_gSetI, q_siK, q_gFor, q_foJ, q_foK, q_gForR1, q_gForR2, q_fr2J, q_gFrz, q_fzK_o, q_fzK_v, q_gNo, q_end_n, q_end_r, q_end_x, q_for_n, q_st_n, q_st_r, q_st_x, atI_0, atI_1, atI_2, atI_3, List.length_cons, List.length_nil, List.cons_append, List.nil_append, List.getElem?_cons_zero, List.getElem?_cons_succ, List.getElem?_nil, List.set_cons_zero, List.set_cons_succ, List.take_succ_cons, List.take_zero, List.replicate_succ, List.replicate_zero, Option.map_some, Option.map_none, List.nodup_cons, List.nodup_nil, List.mem_cons, List.not_mem_nil, List.all_cons, List.all_nil, ltB, leB, gtB, geB, decide_eq_true_eq, ↓reduceIte, decide_true, decide_false, Bool.and_true, Bool.true_and, not_false_eq_true, and_self, and_true, true_and, Nat.reduceSub, Nat.reduceAdd, Nat.reduceLeDiff, Bool.false_eq_true, q_abs10, List.length_map, Nat.reduceLT, q_cast0, q_cast1, q_cast2, q_cast3, q_cast4, q_cast5, q_cast6, q_cast7, q_cast8, q_cast9, Int.reduceToNat, Int.reduceLT, Int.reduceLE, Int.reduceAdd, Int.reduceSub, Int.reduceNeg, Int.reduceMul, Int.toNat_one, Int.toNat_zero, or_true, true_or])
local macro_rules | `(tactic| walk_at "evs") => `(tactic| simp -implicitDefEqProofs only [*, List.length_range, lv_int, lv_bl, lv_non, lv20_ints, lv20_nil, eqD_int, eqD_str, eqD_bl, eqD_ints, eqD_nil_r, inD_ints, flat_ints, flat_int, flat_str, inD_cons, inD_nil, eqF_str, Option.getD_some, Option.getD_none, Int.reduceEq, decide_true, decide_false, Bool.not_true, Bool.not_false, Bool.false_and, Bool.and_false, Bool.or_false, Bool.or_true, Bool.false_or, Bool.true_or, decide_not, Bool.not_eq_true, ne_eq, not_true_eq_false, or_false, false_or, and_false, false_and, if_true, if_false, ite_true, ite_false, eq_self, wo_0, wn_0_1, wn_0_2, wo_1, wn_1_0, wn_1_2, wo_2, wn_2_0, wn_2_1, wt_SIZES_0, wt_SIZES_1, wt_SIZES_2, q_bind_ok, q_mk0, q_mk1, q_mk2, q_mk3, q_mk4, q_mk5, q_mk6, q_bind_ex, q_gB_ok, q_gB_ex, q_seq_nx, q_seq_rt, q_seq_bk, q_seq_ex, q_k, q_nm, q_nm_v, q_nm_o, q_mv, q_mv_v, q_mv_o, q_e2, q_e2K, q_e1, q_plus_i, q_plus_t, q_plus_l, q_times_c, q_sub_i, q_mod_i, q_fdiv_i, q_pow1018, q_neg_i, q_sl_o, q_rdL_s, q_rdL_l, q_rdL_f, q_rdS_t, q_rdS_l, q_rdS_f, q_rdS_s, q_rdN_l, q_rdN_s, q_rdF_l, q_rdF_f, q_vO_i, q_vO_b, q_vO_x, q_vO_n, q_vO_t, q_vO_l, q_vO_f, q_vO_s, q_ix, q_ixK, q_ixJ, q_len, q_lenK, q_tupOf, q_tupK, q_intB, q_sli_t, q_sli_l, q_sli_f, q_cmp, q_eq, q_eqK, q_in, q_inK, q_isN_n, q_isN_i, q_isN_b, q_isN_x, q_isN_t, q_isN_l, q_isN_s, q_isi, q_isiK, q_isiJ, q_kget, q_B, q_bK, q_tV, q_tvO, q_tNot, q_ntK, q_tAnd, q_tAK, q_tOr, q_tOK, q_tCh, q_chJ, q_chK, q_chL, q_if, q_ifK, q_and, q_or, q_andK, q_orK, q_aNil, q_aCons, q_aK, q_aL, q_allD_n, q_allD_c, q_tup, q_tupJ, q_dsp, q_dspJ, q_list, q_lstJ, q_slO, q_cat_l, q_fr, q_frK, q_pN, q_pS, q_psO, q_Sl, q_SlK, q_SlJ, q_sset, q_ssK, q_sort, q_srK, q_call, q_callK, q_callJ, q_callX, q_ts_n, q_ts_d, q_ts_s, q_tsK, q_sv_n, q_sv_d, q_sv_s, q_wb_n, q_wb_d, q_wb_s, q_frS_v, q_frS_o, q_owS, q_gNil, q_gSeq, q_cs, q_cs_ge, q_cs_v, q_cs_n, q_cs_o, q_io, q_io_v, q_io_n, q_io_o, q_gSet, q_setK, q_gSetO, q_soK, q_gPat, q_patK, q_nxO, q_put_n, q_put_t, q_sa_c, q_sa_n, q_gX, q_xK, q_gRet, q_rtK, q_gRetO, q_roK, q_gRetS, q_rsK, q_gIf, q_giK, q_apJ, q_gApp, q_apK, q_exJ, q_gExt, q_exK, q_siJ, q_siI, q_gSetI, q_siK, q_gFor, q_foJ, q_foK, q_gForR1, q_gForR2, q_fr2J, q_gFrz, q_fzK_o, q_fzK_v, q_gNo, q_end_n, q_end_r, q_end_x, q_for_n, q_st_n, q_st_r, q_st_x, atI_0, atI_1, atI_2, atI_3, List.length_cons, List.length_nil, List.cons_append, List.nil_append, List.getElem?_cons_zero, List.getElem?_cons_succ, List.getElem?_nil, List.set_cons_zero, List.set_cons_succ, List.take_succ_cons, List.take_zero, List.replicate_succ, List.replicate_zero, Option.map_some, Option.map_none, List.nodup_cons, List.nodup_nil, List.mem_cons, List.not_mem_nil, List.all_cons, List.all_nil, ltB, leB, gtB, geB, decide_eq_true_eq, ↓reduceIte, decide_true, decide_false, Bool.and_true, Bool.true_and, not_false_eq_true, and_self, and_true, true_and, Nat.reduceSub, Nat.reduceAdd, Nat.reduceLeDiff, Bool.false_eq_true, q_abs10, List.length_map, Nat.reduceLT, q_cast0, q_cast1, q_cast2, q_cast3, q_cast4, q_cast5, q_cast6, q_cast7, q_cast8, q_cast9, Int.reduceToNat, Int.reduceLT, Int.reduceLE, Int.reduceAdd, Int.reduceSub, Int.reduceNeg, Int.reduceMul, Int.toNat_one, Int.toNat_zero, or_true, true_or])
/-! ### cuts, segments -/
def cutF (p : Dd → Bool) (s : List Int × Int) (d : Dd) : List Int × Int := (if p d = true then s.1 ++ [s.2] else s.1, s.2 + (if isW d = true then 1 else 0))
def cuts (p : Dd → Bool) (ds : List Dd) : List Int := (ds.foldl (cutF p) ([], 0)).1
def isS : Dd → Bool
  | .sync => true
  | _ => false
def isC : Dd → Bool
  | .wr _ _ => false
  | _ => true
theorem cutF_len (p : Dd → Bool) : ∀ (ds : List Dd) (s : List Int × Int), (ds.foldl (cutF p) s).1.length ≤ s.1.length + ds.length
  | [], s => by simp
  | d :: ds, s => by
    have h := cutF_len p ds (cutF p s d)
    have h2 : (cutF p s d).1.length ≤ s.1.length + 1 := by unfold cutF; simp only; split <;> simp
    rw [List.foldl_cons, List.length_cons]
    omega
def wS : Dat := .tup [.str "sync"]
def wC : Dat := .tup [.str "wall", .str "sync"]
theorem cuts_of_ok {ds : List Dd} (h : ds.length ≤ 1000) (p : Dd → Bool) (w : Dat) (hp : (p = isS ∧ w = wS) ∨ (p = isC ∧ w = wC)) : f_cuts_of [.v (dsD ds), .v w] = .ok (.v (.lst ((cuts p ds).map Dat.int))) [.v (dsD ds), .v w] := by
  unfold f_cuts_of g_cuts_of
  walk_at "evs"
  generalize hg : gSeq _ _ = gg
  obtain ⟨z, hz⟩ := for_st (np := 2) (p := .nm 4) (g := gg) (enc := Dd.d) (as := ds) (E := fun (s : List Int × Int) z => [Sv.v (dsD ds), Sv.v w, Sv.own (s.1.map Dat.int), Sv.v (.int s.2), z]) (step := cutF p) ([], 0) Sv.no fun i a z hi => by
    have hlen : ((ds.take i).foldl (cutF p) ([], 0)).1.length < 100000 := by
      have := cutF_len p (ds.take i) ([], 0)
      have h2 : (ds.take i).length ≤ ds.length := by rw [List.length_take]; omega
      simp only [List.length_nil] at this
      omega
    generalize (ds.take i).foldl (cutF p) ([], 0) = s at hlen ⊢
    obtain ⟨l, n⟩ := s
    simp only at hlen ⊢
    refine ⟨[Sv.v (dsD ds), Sv.v w, Sv.own (l.map Dat.int), Sv.v (.int n), Sv.v a.d], by walk_at "ev", Sv.v a.d, ?_⟩
    subst hg
    rcases hp with ⟨rfl, rfl⟩ | ⟨rfl, rfl⟩
    · cases a <;> (unfold Dd.d cutF wS isS isW; walk_at "evs") <;> (rw [List.map_append]; rfl)
    · cases a <;> (unfold Dd.d cutF wC isC isW; walk_at "evs") <;> (rw [List.map_append]; rfl)
  have hz' : forGo 2 (.nm 4) gg (ds.map Dd.d) [Sv.v (dsD ds), Sv.v w, Sv.own [], Sv.v (.int 0), Sv.no] = _ := hz
  rw [hz']
  walk_at "ev"
  rfl
end Wk
set_option Elab.async false
set_option linter.all false
set_option autoImplicit false
set_option maxRecDepth 100000
set_option maxHeartbeats 4000000
namespace Wk
open PySem PySem.Spec PyProof.Rows L2 DL FL
local macro_rules | `(tactic| walk_at "ev") => `(tactic| simp -implicitDefEqProofs only [List.length_range, lv_int, lv_bl, lv_non, lv20_ints, lv20_nil, eqD_int, eqD_str, eqD_bl, eqD_ints, eqD_nil_r, inD_ints, flat_ints, flat_int, flat_str, inD_cons, inD_nil, eqF_str, Option.getD_some, Option.getD_none, Int.reduceEq, decide_true, decide_false, Bool.not_true, Bool.not_false, Bool.false_and, Bool.and_false, Bool.or_false, Bool.or_true, Bool.false_or, Bool.true_or, decide_not, Bool.not_eq_true, ne_eq, not_true_eq_false, or_false, false_or, and_false, false_and, if_true, if_false, ite_true, ite_false, eq_self, wo_0, wn_0_1, wn_0_2, wo_1, wn_1_0, wn_1_2, wo_2, wn_2_0, wn_2_1, wt_SIZES_0, wt_SIZES_1, wt_SIZES_2, q_bind_ok, q_mk0, q_mk1, q_mk2, q_mk3, q_mk4, q_mk5, q_mk6, q_bind_ex, q_gB_ok, q_gB_ex, q_seq_nx, q_seq_rt, q_seq_bk, q_seq_ex, q_k, q_nm, q_nm_v, q_nm_o, q_mv, q_mv_v, q_mv_o, q_e2, q_e2K, q_e1, q_plus_i, q_plus_t, q_plus_l, q_times_c, q_sub_i, q_mod_i, q_fdiv_i, q_pow1018, q_neg_i, q_sl_o, q_rdL_s, q_rdL_l, q_rdL_f, q_rdS_t, q_rdS_l, q_rdS_f, q_rdS_s, q_rdN_l, q_rdN_s, q_rdF_l, q_rdF_f, q_vO_i, q_vO_b, q_vO_x, q_vO_n, q_vO_t, q_vO_l, q_vO_f, q_vO_s, q_ix, q_ixK, q_ixJ, q_len, q_lenK, q_tupOf, q_tupK, q_intB, q_sli_t, q_sli_l, q_sli_f, q_cmp, q_eq, q_eqK, q_in, q_inK, q_isN_n, q_isN_i, q_isN_b, q_isN_x, q_isN_t, q_isN_l, q_isN_s, q_isi, q_isiK, q_isiJ, q_kget, q_B, q_bK, q_tV, q_tvO, q_tNot, q_ntK, q_tAnd, q_tAK, q_tOr, q_tOK, q_tCh, q_chJ, q_chK, q_chL, q_if, q_ifK, q_and, q_or, q_andK, q_orK, q_aNil, q_aCons, q_aK, q_aL, q_allD_n, q_allD_c, q_tup, q_tupJ, q_dsp, q_dspJ, q_list, q_lstJ, q_slO, q_cat_l, q_fr, q_frK, q_pN, q_pS, q_psO, q_Sl, q_SlK, q_SlJ, q_sset, q_ssK, q_sort, q_srK, q_call, q_callK, q_callJ, q_callX, q_ts_n, q_ts_d, q_ts_s, q_tsK, q_sv_n, q_sv_d, q_sv_s, q_wb_n, q_wb_d, q_wb_s, q_frS_v, q_frS_o, q_owS, q_gNil, q_gSeq, q_cs, q_cs_ge, q_cs_v, q_cs_n, q_cs_o, q_io, q_io_v, q_io_n, q_io_o, q_gSet, q_setK, q_gSetO, q_soK, q_gPat, q_patK, q_nxO, q_put_n, q_put_t, q_sa_c, q_sa_n, q_gX, q_xK, q_gRet, q_rtK, q_gRetO, q_roK, q_gRetS, q_rsK, q_gIf, q_giK, q_apJ, q_gApp, q_apK, q_exJ, q_gExt, q_exK, q_siJ, q_siI, q_gSetI, q_siK, q_gFor, q_foJ, q_foK, q_gForR1, q_gForR2, q_fr2J, q_gFrz, q_fzK_o, q_fzK_v, q_gNo, q_end_n, q_end_r, q_end_x, q_for_n, q_st_n, q_st_r, q_st_x, atI_0, atI_1, atI_2, atI_3, List.length_cons, List.length_nil, List.cons_append, List.nil_append, List.getElem?_cons_zero, List.getElem?_cons_succ, List.getElem?_nil, List.set_cons_zero, List.set_cons_succ, List.take_succ_cons, List.take_zero, List.replicate_succ, List.replicate_zero, Option.map_some, Option.map_none, List.nodup_cons, List.nodup_nil, List.mem_cons, List.not_mem_nil, List.all_cons, List.all_nil, ltB, leB, gtB, geB, decide_eq_true_eq, ↓reduceIte, decide_true, decide_false, Bool.and_true, Bool.true_and, not_false_eq_true, and_self, and_true, true_and, Nat.reduceSub, Nat.reduceAdd, Nat.reduceLeDiff, Bool.false_eq_true, q_abs10, List.length_map, Nat.reduceLT, q_cast0, q_cast1, q_cast2, q_cast3, q_cast4, q_cast5, q_cast6, q_cast7, q_cast8, q_cast9, Int.reduceToNat, Int.reduceLT, Int.reduceLE, Int.reduceAdd, Int.reduceSub, Int.reduceNeg, Int.reduceMul, Int.toNat_one, Int.toNat_zero, or_true, true_or])
local macro_rules | `(tactic| walk_at "evs") => `(tactic| simp -implicitDefEqProofs only [*, List.length_range, lv_int, lv_bl, lv_non, lv20_ints, lv20_nil, eqD_int, eqD_str, eqD_bl, eqD_ints, eqD_nil_r, inD_ints, flat_ints, flat_int, flat_str, inD_cons, inD_nil, eqF_str, Option.getD_some, Option.getD_none, Int.reduceEq, decide_true, decide_false, Bool.not_true, Bool.not_false, Bool.false_and, Bool.and_false, Bool.or_false, Bool.or_true, Bool.false_or, Bool.true_or, decide_not, Bool.not_eq_true, ne_eq, not_true_eq_false, or_false, false_or, and_false, false_and, if_true, if_false, ite_true, ite_false, eq_self, wo_0, wn_0_1, wn_0_2, wo_1, wn_1_0, wn_1_2, wo_2, wn_2_0, wn_2_1, wt_SIZES_0, wt_SIZES_1, wt_SIZES_2, q_bind_ok, q_mk0, q_mk1, q_mk2, q_mk3, q_mk4, q_mk5, q_mk6, q_bind_ex, q_gB_ok, q_gB_ex, q_seq_nx, q_seq_rt, q_seq_bk, q_seq_ex, q_k, q_nm, q_nm_v, q_nm_o, q_mv, q_mv_v, q_mv_o, q_e2, q_e2K, q_e1, q_plus_i, q_plus_t, q_plus_l, q_times_c, q_sub_i, q_mod_i, q_fdiv_i, q_pow1018, q_neg_i, q_sl_o, q_rdL_s, q_rdL_l, q_rdL_f, q_rdS_t, q_rdS_l, q_rdS_f, q_rdS_s, q_rdN_l, q_rdN_s, q_rdF_l, q_rdF_f, q_vO_i, q_vO_b, q_vO_x, q_vO_n, q_vO_t, q_vO_l, q_vO_f, q_vO_s, q_ix, q_ixK, q_ixJ, q_len, q_lenK, q_tupOf, q_tupK, q_intB, q_sli_t, q_sli_l, q_sli_f, q_cmp, q_eq, q_eqK, q_in, q_inK, q_isN_n, q_isN_i, q_isN_b, q_isN_x, q_isN_t, q_isN_l, q_isN_s, q_isi, q_isiK, q_isiJ, q_kget, q_B, q_bK, q_tV, q_tvO, q_tNot, q_ntK, q_tAnd, q_tAK, q_tOr, q_tOK, q_tCh, q_chJ, q_chK, q_chL, q_if, q_ifK, q_and, q_or, q_andK, q_orK, q_aNil, q_aCons, q_aK, q_aL, q_allD_n, q_allD_c, q_tup, q_tupJ, q_dsp, q_dspJ, q_list, q_lstJ, q_slO, q_cat_l, q_fr, q_frK, q_pN, q_pS, q_psO, q_Sl, q_SlK, q_SlJ, q_sset, q_ssK, q_sort, q_srK, q_call, q_callK, q_callJ, q_callX, q_ts_n, q_ts_d, q_ts_s, q_tsK, q_sv_n, q_sv_d, q_sv_s, q_wb_n, q_wb_d, q_wb_s, q_frS_v, q_frS_o, q_owS, q_gNil, q_gSeq, q_cs, q_cs_ge, q_cs_v, q_cs_n, q_cs_o, q_io, q_io_v, q_io_n, q_io_o, q_gSet, q_setK, q_gSetO, q_soK, q_gPat, q_patK, q_nxO, q_put_n, q_put_t, q_sa_c, q_sa_n, q_gX, q_xK, q_gRet, q_rtK, q_gRetO, q_roK, q_gRetS, q_rsK, q_gIf, q_giK, q_apJ, q_gApp, q_apK, q_exJ, q_gExt, q_exK, q_siJ, q_siI, q_gSetI, q_siK, q_gFor, q_foJ, q_foK, q_gForR1, q_gForR2, q_fr2J, q_gFrz, q_fzK_o, q_fzK_v, q_gNo, q_end_n, q_end_r, q_end_x, q_for_n, q_st_n, q_st_r, q_st_x, atI_0, atI_1, atI_2, atI_3, List.length_cons, List.length_nil, List.cons_append, List.nil_append, List.getElem?_cons_zero, List.getElem?_cons_succ, List.getElem?_nil, List.set_cons_zero, List.set_cons_succ, List.take_succ_cons, List.take_zero, List.replicate_succ, List.replicate_zero, Option.map_some, Option.map_none, List.nodup_cons, List.nodup_nil, List.mem_cons, List.not_mem_nil, List.all_cons, List.all_nil, ltB, leB, gtB, geB, decide_eq_true_eq, ↓reduceIte, decide_true, decide_false, Bool.and_true, Bool.true_and, not_false_eq_true, and_self, and_true, true_and, Nat.reduceSub, Nat.reduceAdd, Nat.reduceLeDiff, Bool.false_eq_true, q_abs10, List.length_map, Nat.reduceLT, q_cast0, q_cast1, q_cast2, q_cast3, q_cast4, q_cast5, q_cast6, q_cast7, q_cast8, q_cast9, Int.reduceToNat, Int.reduceLT, Int.reduceLE, Int.reduceAdd, Int.reduceSub, Int.reduceNeg, Int.reduceMul, Int.toNat_one, Int.toNat_zero, or_true, true_or])
theorem cuts_len (p : Dd → Bool) (ds : List Dd) : (cuts p ds).length ≤ ds.length := by
  have := cutF_len p ds ([], 0)
  simpa [cuts] using this
theorem wrs_len (ds : List Dd) : (wrs ds).length ≤ ds.length := by
  unfold wrs
  rw [List.length_map]
  exact List.length_filter_le _ _
/-- all cuts, with both ends -/
def cl (ds : List Dd) : List Int := 0 :: (cuts isC ds ++ [((wrs ds).length : Int)])
def segs (ds : List Dd) : List (Int × Int) := (List.range ((cl ds).length - 1)).map fun k => ((cl ds).getD k 0, (cl ds).getD (k + 1) 0)
def sync (ds : List Dd) : Int := ((0 : Int) :: cuts isS ds).getLastD 0
theorem atI_ints {l : List Int} {k : Nat} (h : k < l.length) : atI (l.map Dat.int) (k : Int) = some (.int (l.getD k 0)) := by
  rw [FL.atI_nat]
  simp [h]
theorem segments_ok {ds : List Dd} (h : ds.length ≤ 1000) : f_segments [.v (dsD ds)] = .ok (.v (.lst ((segs ds).map wD))) [.v (dsD ds)] := by
  have hc := cuts_of_ok h isC wC (.inr ⟨rfl, rfl⟩)
  unfold wC at hc
  have hw := writes_of_ok (ds := ds) (by omega)
  have l1 := cuts_len isC ds
  have l2 := wrs_len ds
  have e1 : 0 + 1 + (cuts isC ds).length ≤ 100000 := by omega
  have e2 : (cuts isC ds).length ≤ 99998 := by omega
  have e3 : Dat.int 0 :: (List.map Dat.int (cuts isC ds) ++ [Dat.int ((wrs ds).length : Int)]) = (cl ds).map Dat.int := by simp [cl]
  have hlen : (cl ds).length = (cuts isC ds).length + 2 := by simp [cl]
  have e4 : ((cl ds).length : Int) - 1 = (((cl ds).length - 1 : Nat) : Int) := by omega
  have e5 : (cl ds).length - 1 ≤ 100000 := by omega
  have q := @q_lcR1N 1 [2] (.nm 2)
  unfold f_segments g_segments
  clear hlen l1 l2
  walk_at "evs"
  generalize ht : FL.e1 tupO _ = tt
  have q2 := fun (e : En) hv hx => @lc_map Int 1 [2] (.nm 2) FL.tYes tt Dat.int (fun _ => true) (fun a => wD ((cl ds).getD a.toNat 0, (cl ds).getD (a.toNat + 1) 0)) e hv ((List.range ((cl ds).length - 1)).map fun (k : Nat) => (k : Int)) [] hx
  rw [q2 _ rfl (fun a ha => ?_)]
  · walk_at "ev"
    rw [List.filter_eq_self.mpr (fun _ _ => rfl)]
    unfold segs
    rw [List.map_map, List.map_map]
    rfl
  · obtain ⟨k, hk, rfl⟩ := List.mem_map.mp ha
    have hk := List.mem_range.mp hk
    have a1 := atI_ints (l := cl ds) (k := k) (by omega)
    have a2 := atI_ints (l := cl ds) (k := k + 1) (by omega)
    have a3 : ((k : Int) + 1) = ((k + 1 : Nat) : Int) := rfl
    refine ⟨[Sv.v (dsD ds), Sv.v (.lst ((cl ds).map Dat.int)), Sv.v (.int k)], rfl, rfl, fun _ => ?_, rfl, rfl⟩
    subst ht
    rw [Int.toNat_natCast]
    clear e4 e3 ha
    walk_at "evs"
    rfl
theorem atI_last {l : List Int} : atI ((0 :: l).map Dat.int) (-1) = some (.int ((0 :: l).getLastD 0)) := by
  unfold atI ixN
  rw [if_neg (by decide), if_pos (by simp only [List.length_map, List.length_cons]; omega)]
  have e : (-1 + (((0 :: l).map Dat.int).length : Int)).toNat = l.length := by simp only [List.length_map, List.length_cons]; omega
  rw [e]
  show ((0 :: l).map Dat.int)[l.length]? = _
  rw [List.getElem?_map]
  have : (0 :: l)[l.length]? = some ((0 :: l).getLastD 0) := by
    rw [List.getLastD_cons, List.getLastD_eq_getLast?, List.getLast?_eq_getElem?]
    cases l with
    | nil => rfl
    | cons a r => simp
  rw [this]; rfl
theorem synced_ok {ds : List Dd} (h : ds.length ≤ 1000) : f_synced [.v (dsD ds)] = .ok (.v (.int (sync ds))) [.v (dsD ds)] := by
  have hc := cuts_of_ok h isS wS (.inl ⟨rfl, rfl⟩)
  unfold wS at hc
  have l1 := cuts_len isS ds
  have e1 : 0 + 1 + (cuts isS ds).length ≤ 100000 := by omega
  have e3 : atI (Dat.int 0 :: List.map Dat.int (cuts isS ds)) (-1) = some (.int (sync ds)) := atI_last
  unfold f_synced g_synced
  walk_at "evs"
end Wk
set_option Elab.async false
set_option linter.all false
set_option autoImplicit false
set_option maxRecDepth 100000
set_option maxHeartbeats 4000000
namespace Wk
open PySem PySem.Spec PyProof.Rows L2 DL FL
local macro_rules | `(tactic| walk_at "ev") => `(tactic| simp -implicitDefEqProofs only [List.length_range, lv_int, lv_bl, lv_non, lv20_ints, lv20_nil, eqD_int, eqD_str, eqD_bl, eqD_ints, eqD_nil_r, inD_ints, flat_ints, flat_int, flat_str, inD_cons, inD_nil, eqF_str, Option.getD_some, Option.getD_none, Int.reduceEq, decide_true, decide_false, Bool.not_true, Bool.not_false, Bool.false_and, Bool.and_false, Bool.or_false, Bool.or_true, Bool.false_or, Bool.true_or, decide_not, Bool.not_eq_true, ne_eq, not_true_eq_false, or_false, false_or, and_false, false_and, if_true, if_false, ite_true, ite_false, eq_self, wo_0, wn_0_1, wn_0_2, wo_1, wn_1_0, wn_1_2, wo_2, wn_2_0, wn_2_1, wt_SIZES_0, wt_SIZES_1, wt_SIZES_2, q_bind_ok, q_mk0, q_mk1, q_mk2, q_mk3, q_mk4, q_mk5, q_mk6, q_bind_ex, q_gB_ok, q_gB_ex, q_seq_nx, q_seq_rt, q_seq_bk, q_seq_ex, q_k, q_nm, q_nm_v, q_nm_o, q_mv, q_mv_v, q_mv_o, q_e2, q_e2K, q_e1, q_plus_i, q_plus_t, q_plus_l, q_times_c, q_sub_i, q_mod_i, q_fdiv_i, q_pow1018, q_neg_i, q_sl_o, q_rdL_s, q_rdL_l, q_rdL_f, q_rdS_t, q_rdS_l, q_rdS_f, q_rdS_s, q_rdN_l, q_rdN_s, q_rdF_l, q_rdF_f, q_vO_i, q_vO_b, q_vO_x, q_vO_n, q_vO_t, q_vO_l, q_vO_f, q_vO_s, q_ix, q_ixK, q_ixJ, q_len, q_lenK, q_tupOf, q_tupK, q_intB, q_sli_t, q_sli_l, q_sli_f, q_cmp, q_eq, q_eqK, q_in, q_inK, q_isN_n, q_isN_i, q_isN_b, q_isN_x, q_isN_t, q_isN_l, q_isN_s, q_isi, q_isiK, q_isiJ, q_kget, q_B, q_bK, q_tV, q_tvO, q_tNot, q_ntK, q_tAnd, q_tAK, q_tOr, q_tOK, q_tCh, q_chJ, q_chK, q_chL, q_if, q_ifK, q_and, q_or, q_andK, q_orK, q_aNil, q_aCons, q_aK, q_aL, q_allD_n, q_allD_c, q_tup, q_tupJ, q_dsp, q_dspJ, q_list, q_lstJ, q_slO, q_cat_l, q_fr, q_frK, q_pN, q_pS, q_psO, q_Sl, q_SlK, q_SlJ, q_sset, q_ssK, q_sort, q_srK, q_call, q_callK, q_callJ, q_callX, q_ts_n, q_ts_d, q_ts_s, q_tsK, q_sv_n, q_sv_d, q_sv_s, q_wb_n, q_wb_d, q_wb_s, q_frS_v, q_frS_o, q_owS, q_gNil, q_gSeq, q_cs, q_cs_ge, q_cs_v, q_cs_n, q_cs_o, q_io, q_io_v, q_io_n, q_io_o, q_gSet, q_setK, q_gSetO, q_soK, q_gPat, q_patK, q_nxO, q_put_n, q_put_t, q_sa_c, q_sa_n, q_gX, q_xK, q_gRet, q_rtK, q_gRetO, q_roK, q_gRetS, q_rsK, q_gIf, q_giK, q_apJ, q_gApp, q_apK, q_exJ, q_gExt, q_exK, q_siJ, q_siI, q_gSetI, q_siK, q_gFor, q_foJ, q_foK, q_gForR1, q_gForR2, q_fr2J, q_gFrz, q_fzK_o, q_fzK_v, q_gNo, q_end_n, q_end_r, q_end_x, q_for_n, q_st_n, q_st_r, q_st_x, atI_0, atI_1, atI_2, atI_3, List.length_cons, List.length_nil, List.cons_append, List.nil_append, List.getElem?_cons_zero, List.getElem?_cons_succ, List.getElem?_nil, List.set_cons_zero, List.set_cons_succ, List.take_succ_cons, List.take_zero, List.replicate_succ, List.replicate_zero, Option.map_some, Option.map_none, List.nodup_cons, List.nodup_nil, List.mem_cons, List.not_mem_nil, List.all_cons, List.all_nil, ltB, leB, gtB, geB, decide_eq_true_eq, ↓reduceIte, decide_true, decide_false, Bool.and_true, Bool.true_and, not_false_eq_true, and_self, and_true, true_and, Nat.reduceSub, Nat.reduceAdd, Nat.reduceLeDiff, Bool.false_eq_true, q_abs10, List.length_map, Nat.reduceLT, q_cast0, q_cast1, q_cast2, q_cast3, q_cast4, q_cast5, q_cast6, q_cast7, q_cast8, q_cast9, Int.reduceToNat, Int.reduceLT, Int.reduceLE, Int.reduceAdd, Int.reduceSub, Int.reduceNeg, Int.reduceMul, Int.toNat_one, Int.toNat_zero, or_true, true_or])
local macro_rules | `(tactic| walk_at "evs") => `(tactic| simp -implicitDefEqProofs only [*, List.length_range, lv_int, lv_bl, lv_non, lv20_ints, lv20_nil, eqD_int, eqD_str, eqD_bl, eqD_ints, eqD_nil_r, inD_ints, flat_ints, flat_int, flat_str, inD_cons, inD_nil, eqF_str, Option.getD_some, Option.getD_none, Int.reduceEq, decide_true, decide_false, Bool.not_true, Bool.not_false, Bool.false_and, Bool.and_false, Bool.or_false, Bool.or_true, Bool.false_or, Bool.true_or, decide_not, Bool.not_eq_true, ne_eq, not_true_eq_false, or_false, false_or, and_false, false_and, if_true, if_false, ite_true, ite_false, eq_self, wo_0, wn_0_1, wn_0_2, wo_1, wn_1_0, wn_1_2, wo_2, wn_2_0, wn_2_1, wt_SIZES_0, wt_SIZES_1, wt_SIZES_2, q_bind_ok, q_mk0, q_mk1, q_mk2, q_mk3, q_mk4, q_mk5, q_mk6, q_bind_ex, q_gB_ok, q_gB_ex, q_seq_nx, q_seq_rt, q_seq_bk, q_seq_ex, q_k, q_nm, q_nm_v, q_nm_o, q_mv, q_mv_v, q_mv_o, q_e2, q_e2K, q_e1, q_plus_i, q_plus_t, q_plus_l, q_times_c, q_sub_i, q_mod_i, q_fdiv_i, q_pow1018, q_neg_i, q_sl_o, q_rdL_s, q_rdL_l, q_rdL_f, q_rdS_t, q_rdS_l, q_rdS_f, q_rdS_s, q_rdN_l, q_rdN_s, q_rdF_l, q_rdF_f, q_vO_i, q_vO_b, q_vO_x, q_vO_n, q_vO_t, q_vO_l, q_vO_f, q_vO_s, q_ix, q_ixK, q_ixJ, q_len, q_lenK, q_tupOf, q_tupK, q_intB, q_sli_t, q_sli_l, q_sli_f, q_cmp, q_eq, q_eqK, q_in, q_inK, q_isN_n, q_isN_i, q_isN_b, q_isN_x, q_isN_t, q_isN_l, q_isN_s, q_isi, q_isiK, q_isiJ, q_kget, q_B, q_bK, q_tV, q_tvO, q_tNot, q_ntK, q_tAnd, q_tAK, q_tOr, q_tOK, q_tCh, q_chJ, q_chK, q_chL, q_if, q_ifK, q_and, q_or, q_andK, q_orK, q_aNil, q_aCons, q_aK, q_aL, q_allD_n, q_allD_c, q_tup, q_tupJ, q_dsp, q_dspJ, q_list, q_lstJ, q_slO, q_cat_l, q_fr, q_frK, q_pN, q_pS, q_psO, q_Sl, q_SlK, q_SlJ, q_sset, q_ssK, q_sort, q_srK, q_call, q_callK, q_callJ, q_callX, q_ts_n, q_ts_d, q_ts_s, q_tsK, q_sv_n, q_sv_d, q_sv_s, q_wb_n, q_wb_d, q_wb_s, q_frS_v, q_frS_o, q_owS, q_gNil, q_gSeq, q_cs, q_cs_ge, q_cs_v, q_cs_n, q_cs_o, q_io, q_io_v, q_io_n, q_io_o, q_gSet, q_setK, q_gSetO, q_soK, q_gPat, q_patK, q_nxO, q_put_n, q_put_t, q_sa_c, q_sa_n, q_gX, q_xK, q_gRet, q_rtK, q_gRetO, q_roK, q_gRetS, q_rsK, q_gIf, q_giK, q_apJ, q_gApp, q_apK, q_exJ, q_gExt, q_exK, q_siJ, q_siI, q_gSetI, q_siK, q_gFor, q_foJ, q_foK, q_gForR1, q_gForR2, q_fr2J, q_gFrz, q_fzK_o, q_fzK_v, q_gNo, q_end_n, q_end_r, q_end_x, q_for_n, q_st_n, q_st_r, q_st_x, atI_0, atI_1, atI_2, atI_3, List.length_cons, List.length_nil, List.cons_append, List.nil_append, List.getElem?_cons_zero, List.getElem?_cons_succ, List.getElem?_nil, List.set_cons_zero, List.set_cons_succ, List.take_succ_cons, List.take_zero, List.replicate_succ, List.replicate_zero, Option.map_some, Option.map_none, List.nodup_cons, List.nodup_nil, List.mem_cons, List.not_mem_nil, List.all_cons, List.all_nil, ltB, leB, gtB, geB, decide_eq_true_eq, ↓reduceIte, decide_true, decide_false, Bool.and_true, Bool.true_and, not_false_eq_true, and_self, and_true, true_and, Nat.reduceSub, Nat.reduceAdd, Nat.reduceLeDiff, Bool.false_eq_true, q_abs10, List.length_map, Nat.reduceLT, q_cast0, q_cast1, q_cast2, q_cast3, q_cast4, q_cast5, q_cast6, q_cast7, q_cast8, q_cast9, Int.reduceToNat, Int.reduceLT, Int.reduceLE, Int.reduceAdd, Int.reduceSub, Int.reduceNeg, Int.reduceMul, Int.toNat_one, Int.toNat_zero, or_true, true_or])
/-! ### open segments, what is sure -/
theorem segs_len {ds : List Dd} (h : ds.length ≤ 1000) : (segs ds).length ≤ 100000 := by
  unfold segs
  rw [List.length_map, List.length_range]
  have := cuts_len isC ds
  have e : (cl ds).length = (cuts isC ds).length + 2 := by simp [cl]
  omega
def osegs (ds : List Dd) : List (Int × Int) := (segs ds).filter fun s => decide (sync ds ≤ s.1)
theorem open_segments_ok {ds : List Dd} (h : ds.length ≤ 1000) : f_open_segments [.v (dsD ds)] = .ok (.v (.lst ((osegs ds).map wD))) [.v (dsD ds)] := by
  have hc := synced_ok h
  have hs := segments_ok h
  have hl : ((segs ds).map wD).length ≤ 100000 := by rw [List.length_map]; exact segs_len h
  have q := @q_lcLK 1 [2] (.nm 2)
  unfold f_open_segments g_open_segments
  walk_at "evs"
  have hl2 : (segs ds).length ≤ 100000 := segs_len h
  rw [q (by rw [List.length_map]; exact hl2)]
  rw [lc_map (pt := fun s => decide (sync ds ≤ s.1)) (gt := wD) rfl (segs ds) [] (fun s _ => ⟨[Sv.v (dsD ds), Sv.v (.int (sync ds)), Sv.v (wD s)], rfl, ?_, fun _ => rfl, rfl, rfl⟩)]
  · walk_at "ev"
    rfl
  · unfold wD
    walk_at "ev"
theorem cutF_n (p : Dd → Bool) : ∀ (ds : List Dd) (s : List Int × Int), (ds.foldl (cutF p) s).2 = s.2 + ((wrs ds).length : Int)
  | [], s => by simp [wrs]
  | d :: ds, s => by
    rw [List.foldl_cons, cutF_n p ds]
    unfold cutF wrs
    cases q : isW d
    · rw [List.filter_cons_of_neg (by rw [q]; simp)]; simp
    · rw [List.filter_cons_of_pos q, List.map_cons, List.length_cons]; simp; omega
theorem cuts_mem (p : Dd → Bool) : ∀ (ds : List Dd) (s : List Int × Int), (∀ c ∈ s.1, 0 ≤ c ∧ c ≤ s.2) → 0 ≤ s.2 → ∀ c ∈ (ds.foldl (cutF p) s).1, 0 ≤ c ∧ c ≤ (ds.foldl (cutF p) s).2
  | [], s, h, h0 => h
  | d :: ds, s, h, h0 => by
    rw [List.foldl_cons]
    have h2 : s.2 ≤ (cutF p s d).2 := by unfold cutF; simp only; split <;> omega
    refine cuts_mem p ds (cutF p s d) (fun c hc => ?_) (by omega)
    have : c ∈ s.1 ∨ c = s.2 := by
      unfold cutF at hc
      simp only at hc
      split at hc
      · rw [List.mem_append, List.mem_singleton] at hc; exact hc
      · exact .inl hc
    rcases this with e | e
    · have := h c e; omega
    · subst e; omega
theorem cuts_bd (p : Dd → Bool) (ds : List Dd) : ∀ c ∈ cuts p ds, 0 ≤ c ∧ c ≤ ((wrs ds).length : Int) := by
  have h := cuts_mem p ds ([], 0) (by simp) (by simp)
  rw [cutF_n] at h
  simpa [cuts] using h
theorem sync_bd (ds : List Dd) : 0 ≤ sync ds ∧ sync ds ≤ ((wrs ds).length : Int) := by
  unfold sync
  have hm : ((0 : Int) :: cuts isS ds).getLastD 0 ∈ (0 : Int) :: cuts isS ds := by
    have h9 : ∀ (l : List Int) (a : Int), (a :: l).getLastD 0 ∈ a :: l := fun l => by
      induction l with
      | nil => intro a; simp
      | cons b r ih =>
        intro a
        rw [List.getLastD_cons]
        have := ih b
        rw [List.getLastD_cons] at this ⊢
        exact List.mem_cons_of_mem _ this
    exact h9 _ _
  rcases List.mem_cons.mp hm with e | e
  · rw [e]; omega
  · exact cuts_bd isS ds _ e
def syncN (ds : List Dd) : Nat := (sync ds).toNat
theorem syncN_eq (ds : List Dd) : sync ds = (syncN ds : Int) := (Int.toNat_of_nonneg (sync_bd ds).1).symm
theorem take_d {ds : List Dd} {t : Nat} : cutD (ds.map Dd.d) none (some (t : Int)) = (ds.take t).map Dd.d := by
  rw [cutD_map, cutD_to]
abbrev natsD (n : Nat) : List Dat := ((List.range n).map fun (k : Nat) => (k : Int)).map Dat.int
theorem sure_ok {B : Int} {ds : List Dd} {t : Nat} (h : OkR B ds) (ht : t ≤ ds.length) : f_sure [.v (runD B ds), .v (.int t)] = .ok (.own (natsD (syncN (ds.take t)))) [.v (runD B ds), .v (.int t)] := by
  have h1 := need_run_ok h
  have h2 := need_time_ok (B := B) (ds := ds) (t := t) (by omega) (by omega)
  have hl : (ds.take t).length ≤ 1000 := by rw [List.length_take]; have := h.len; omega
  have h3 := synced_ok hl
  have h4 := syncN_eq (ds.take t)
  have h5 : syncN (ds.take t) ≤ 1000000 := by
    have a := (sync_bd (ds.take t)).2
    have b := wrs_len (ds.take t)
    omega
  have q := @q_rg1N
  have e1 := @take_d ds t
  rw [h4] at h3
  clear h4 h hl
  unfold f_sure g_sure
  walk_at "evs"
end Wk
set_option Elab.async false
set_option linter.all false
set_option autoImplicit false
set_option maxRecDepth 100000
set_option maxHeartbeats 4000000
namespace Wk
open PySem PySem.Spec PyProof.Rows L2 DL FL
local macro_rules | `(tactic| walk_at "ev") => `(tactic| simp -implicitDefEqProofs only [List.length_range, lv_int, lv_bl, lv_non, lv20_ints, lv20_nil, eqD_int, eqD_str, eqD_bl, eqD_ints, eqD_nil_r, inD_ints, flat_ints, flat_int, flat_str, inD_cons, inD_nil, eqF_str, Option.getD_some, Option.getD_none, Int.reduceEq, decide_true, decide_false, Bool.not_true, Bool.not_false, Bool.false_and, Bool.and_false, Bool.or_false, Bool.or_true, Bool.false_or, Bool.true_or, decide_not, Bool.not_eq_true, ne_eq, not_true_eq_false, or_false, false_or, and_false, false_and, if_true, if_false, ite_true, ite_false, eq_self, wo_0, wn_0_1, wn_0_2, wo_1, wn_1_0, wn_1_2, wo_2, wn_2_0, wn_2_1, wt_SIZES_0, wt_SIZES_1, wt_SIZES_2, q_bind_ok, q_mk0, q_mk1, q_mk2, q_mk3, q_mk4, q_mk5, q_mk6, q_bind_ex, q_gB_ok, q_gB_ex, q_seq_nx, q_seq_rt, q_seq_bk, q_seq_ex, q_k, q_nm, q_nm_v, q_nm_o, q_mv, q_mv_v, q_mv_o, q_e2, q_e2K, q_e1, q_plus_i, q_plus_t, q_plus_l, q_times_c, q_sub_i, q_mod_i, q_fdiv_i, q_pow1018, q_neg_i, q_sl_o, q_rdL_s, q_rdL_l, q_rdL_f, q_rdS_t, q_rdS_l, q_rdS_f, q_rdS_s, q_rdN_l, q_rdN_s, q_rdF_l, q_rdF_f, q_vO_i, q_vO_b, q_vO_x, q_vO_n, q_vO_t, q_vO_l, q_vO_f, q_vO_s, q_ix, q_ixK, q_ixJ, q_len, q_lenK, q_tupOf, q_tupK, q_intB, q_sli_t, q_sli_l, q_sli_f, q_cmp, q_eq, q_eqK, q_in, q_inK, q_isN_n, q_isN_i, q_isN_b, q_isN_x, q_isN_t, q_isN_l, q_isN_s, q_isi, q_isiK, q_isiJ, q_kget, q_B, q_bK, q_tV, q_tvO, q_tNot, q_ntK, q_tAnd, q_tAK, q_tOr, q_tOK, q_tCh, q_chJ, q_chK, q_chL, q_if, q_ifK, q_and, q_or, q_andK, q_orK, q_aNil, q_aCons, q_aK, q_aL, q_allD_n, q_allD_c, q_tup, q_tupJ, q_dsp, q_dspJ, q_list, q_lstJ, q_slO, q_cat_l, q_fr, q_frK, q_pN, q_pS, q_psO, q_Sl, q_SlK, q_SlJ, q_sset, q_ssK, q_sort, q_srK, q_call, q_callK, q_callJ, q_callX, q_ts_n, q_ts_d, q_ts_s, q_tsK, q_sv_n, q_sv_d, q_sv_s, q_wb_n, q_wb_d, q_wb_s, q_frS_v, q_frS_o, q_owS, q_gNil, q_gSeq, q_cs, q_cs_ge, q_cs_v, q_cs_n, q_cs_o, q_io, q_io_v, q_io_n, q_io_o, q_gSet, q_setK, q_gSetO, q_soK, q_gPat, q_patK, q_nxO, q_put_n, q_put_t, q_sa_c, q_sa_n, q_gX, q_xK, q_gRet, q_rtK, q_gRetO, q_roK, q_gRetS, q_rsK, q_gIf, q_giK, q_apJ, q_gApp, q_apK, q_exJ, q_gExt, q_exK, q_siJ, q_siI, q_gSetI, q_siK, q_gFor, q_foJ, q_foK, q_gForR1, q_gForR2, q_fr2J, q_gFrz, q_fzK_o, q_fzK_v, q_gNo, q_end_n, q_end_r, q_end_x, q_for_n, q_st_n, q_st_r, q_st_x, atI_0, atI_1, atI_2, atI_3, List.length_cons, List.length_nil, List.cons_append, List.nil_append, List.getElem?_cons_zero, List.getElem?_cons_succ, List.getElem?_nil, List.set_cons_zero, List.set_cons_succ, List.take_succ_cons, List.take_zero, List.replicate_succ, List.replicate_zero, Option.map_some, Option.map_none, List.nodup_cons, List.nodup_nil, List.mem_cons, List.not_mem_nil, List.all_cons, List.all_nil, ltB, leB, gtB, geB, decide_eq_true_eq, ↓reduceIte, decide_true, decide_false, Bool.and_true, Bool.true_and, not_false_eq_true, and_self, and_true, true_and, Nat.reduceSub, Nat.reduceAdd, Nat.reduceLeDiff, Bool.false_eq_true, q_abs10, List.length_map, Nat.reduceLT, q_cast0, q_cast1, q_cast2, q_cast3, q_cast4, q_cast5, q_cast6, q_cast7, q_cast8, q_cast9, Int.reduceToNat, Int.reduceLT, Int.reduceLE, Int.reduceAdd, Int.reduceSub, Int.reduceNeg, Int.reduceMul, Int.toNat_one, Int.toNat_zero, or_true, true_or])
local macro_rules | `(tactic| walk_at "evs") => `(tactic| simp -implicitDefEqProofs only [*, List.length_range, lv_int, lv_bl, lv_non, lv20_ints, lv20_nil, eqD_int, eqD_str, eqD_bl, eqD_ints, eqD_nil_r, inD_ints, flat_ints, flat_int, flat_str, inD_cons, inD_nil, eqF_str, Option.getD_some, Option.getD_none, Int.reduceEq, decide_true, decide_false, Bool.not_true, Bool.not_false, Bool.false_and, Bool.and_false, Bool.or_false, Bool.or_true, Bool.false_or, Bool.true_or, decide_not, Bool.not_eq_true, ne_eq, not_true_eq_false, or_false, false_or, and_false, false_and, if_true, if_false, ite_true, ite_false, eq_self, wo_0, wn_0_1, wn_0_2, wo_1, wn_1_0, wn_1_2, wo_2, wn_2_0, wn_2_1, wt_SIZES_0, wt_SIZES_1, wt_SIZES_2, q_bind_ok, q_mk0, q_mk1, q_mk2, q_mk3, q_mk4, q_mk5, q_mk6, q_bind_ex, q_gB_ok, q_gB_ex, q_seq_nx, q_seq_rt, q_seq_bk, q_seq_ex, q_k, q_nm, q_nm_v, q_nm_o, q_mv, q_mv_v, q_mv_o, q_e2, q_e2K, q_e1, q_plus_i, q_plus_t, q_plus_l, q_times_c, q_sub_i, q_mod_i, q_fdiv_i, q_pow1018, q_neg_i, q_sl_o, q_rdL_s, q_rdL_l, q_rdL_f, q_rdS_t, q_rdS_l, q_rdS_f, q_rdS_s, q_rdN_l, q_rdN_s, q_rdF_l, q_rdF_f, q_vO_i, q_vO_b, q_vO_x, q_vO_n, q_vO_t, q_vO_l, q_vO_f, q_vO_s, q_ix, q_ixK, q_ixJ, q_len, q_lenK, q_tupOf, q_tupK, q_intB, q_sli_t, q_sli_l, q_sli_f, q_cmp, q_eq, q_eqK, q_in, q_inK, q_isN_n, q_isN_i, q_isN_b, q_isN_x, q_isN_t, q_isN_l, q_isN_s, q_isi, q_isiK, q_isiJ, q_kget, q_B, q_bK, q_tV, q_tvO, q_tNot, q_ntK, q_tAnd, q_tAK, q_tOr, q_tOK, q_tCh, q_chJ, q_chK, q_chL, q_if, q_ifK, q_and, q_or, q_andK, q_orK, q_aNil, q_aCons, q_aK, q_aL, q_allD_n, q_allD_c, q_tup, q_tupJ, q_dsp, q_dspJ, q_list, q_lstJ, q_slO, q_cat_l, q_fr, q_frK, q_pN, q_pS, q_psO, q_Sl, q_SlK, q_SlJ, q_sset, q_ssK, q_sort, q_srK, q_call, q_callK, q_callJ, q_callX, q_ts_n, q_ts_d, q_ts_s, q_tsK, q_sv_n, q_sv_d, q_sv_s, q_wb_n, q_wb_d, q_wb_s, q_frS_v, q_frS_o, q_owS, q_gNil, q_gSeq, q_cs, q_cs_ge, q_cs_v, q_cs_n, q_cs_o, q_io, q_io_v, q_io_n, q_io_o, q_gSet, q_setK, q_gSetO, q_soK, q_gPat, q_patK, q_nxO, q_put_n, q_put_t, q_sa_c, q_sa_n, q_gX, q_xK, q_gRet, q_rtK, q_gRetO, q_roK, q_gRetS, q_rsK, q_gIf, q_giK, q_apJ, q_gApp, q_apK, q_exJ, q_gExt, q_exK, q_siJ, q_siI, q_gSetI, q_siK, q_gFor, q_foJ, q_foK, q_gForR1, q_gForR2, q_fr2J, q_gFrz, q_fzK_o, q_fzK_v, q_gNo, q_end_n, q_end_r, q_end_x, q_for_n, q_st_n, q_st_r, q_st_x, atI_0, atI_1, atI_2, atI_3, List.length_cons, List.length_nil, List.cons_append, List.nil_append, List.getElem?_cons_zero, List.getElem?_cons_succ, List.getElem?_nil, List.set_cons_zero, List.set_cons_succ, List.take_succ_cons, List.take_zero, List.replicate_succ, List.replicate_zero, Option.map_some, Option.map_none, List.nodup_cons, List.nodup_nil, List.mem_cons, List.not_mem_nil, List.all_cons, List.all_nil, ltB, leB, gtB, geB, decide_eq_true_eq, ↓reduceIte, decide_true, decide_false, Bool.and_true, Bool.true_and, not_false_eq_true, and_self, and_true, true_and, Nat.reduceSub, Nat.reduceAdd, Nat.reduceLeDiff, Bool.false_eq_true, q_abs10, List.length_map, Nat.reduceLT, q_cast0, q_cast1, q_cast2, q_cast3, q_cast4, q_cast5, q_cast6, q_cast7, q_cast8, q_cast9, Int.reduceToNat, Int.reduceLT, Int.reduceLE, Int.reduceAdd, Int.reduceSub, Int.reduceNeg, Int.reduceMul, Int.toNat_one, Int.toNat_zero, or_true, true_or])
/-! ### parts -/
abbrev intsD (l : List Int) : Dat := .lst (l.map Dat.int)
abbrev wsD (ws : List (Int × Int)) : Dat := .lst (ws.map wD)
abbrev betw (b n : Nat) : List Int := (List.range' b (n - b)).map fun (k : Nat) => (k : Int)
def blk (ws : List (Int × Int)) (a : Int) : Int := (ws.getD a.toNat (0, 0)).1
def missing (ws : List (Int × Int)) (done : List Int) (b k : Nat) : List Int := (betw b k).filter fun a => decide (blk ws a = blk ws k) && !decide (a ∈ done)
def goodAt (ws : List (Int × Int)) (done : List Int) (b : Nat) (a : Int) : Bool := !(decide (a ∈ done) && !decide (missing ws done b a.toNat = []))
def isPart (ws : List (Int × Int)) (b n : Nat) (done : List Int) : Bool := (betw b n).all (goodAt ws done b)
theorem betw_mem {b n : Nat} {a : Int} (h : a ∈ betw b n) : ∃ k : Nat, a = (k : Int) ∧ b ≤ k ∧ k < n := by
  obtain ⟨k, hk, rfl⟩ := List.mem_map.mp h
  rw [List.mem_range'_1] at hk
  exact ⟨k, rfl, by omega, by omega⟩
theorem atI_ws {ws : List (Int × Int)} {k : Nat} (h : k < ws.length) : atI (ws.map wD) (k : Int) = some (.tup [.int (blk ws k), .int (ws.getD k (0, 0)).2]) := by
  rw [FL.atI_nat]
  unfold blk
  simp [h, wD]
theorem is_part_ok {ws : List (Int × Int)} {b n : Nat} {done : List Int} (hw : ws.length ≤ 1000) (hn : n ≤ ws.length) (hb : b ≤ n) :
    f_is_part [.v (wsD ws), .v (.int b), .v (.int n), .v (intsD done)] = .ok (.v (.bl (isPart ws b n done))) [.v (wsD ws), .v (.int b), .v (.int n), .v (intsD done)] := by
  have q := @q_fr2N 4 4
  have hn2 : n ≤ 1000000 := by omega
  have hb2 : b ≤ 1000000 := by omega
  unfold f_is_part g_is_part
  walk_at "evs"
  generalize hg : gIf _ _ _ = gg
  obtain ⟨z, hz⟩ := for_all (np := 4) (p := .nm 4) (g := gg) (enc := Dat.int) (E := fun (z : Sv × Sv) => [Sv.v (wsD ws), Sv.v (.int b), Sv.v (.int n), Sv.v (intsD done), z.1, z.2, Sv.no]) (good := goodAt ws done b) (r := .v (.bl false)) (betw b n) (Sv.no, Sv.no) fun z a ha => by
    obtain ⟨k, rfl, h1, h2⟩ := betw_mem ha
    have a1 := atI_ws (ws := ws) (k := k) (by omega)
    refine ⟨[Sv.v (wsD ws), Sv.v (.int b), Sv.v (.int n), Sv.v (intsD done), Sv.v (.int k), z.2, Sv.no], by walk_at "ev", ?_⟩
    subst hg
    unfold goodAt
    by_cases hd : (k : Int) ∈ done
    · refine ⟨(Sv.v (.int k), Sv.v (.int (blk ws k))), ?_⟩
      have q3 := @q_lcR2N 4 [6] (.nm 6)
      have hk3 : k ≤ 100000 := by omega
      have hb3 : b ≤ 100000 := by omega
      clear q hn2 hb2
      walk_at "evs"
      rw [lc_map (α := Int) (enc := Dat.int) (pt := fun a => decide (blk ws a = blk ws k) && !decide (a ∈ done)) (gt := Dat.int) rfl (betw b k) [] fun a ha2 => ?h9]
      case h9 =>
        obtain ⟨j, rfl, h3, h4⟩ := betw_mem ha2
        have a2 := atI_ws (ws := ws) (k := j) (by omega)
        refine ⟨[Sv.v (wsD ws), Sv.v (.int b), Sv.v (.int n), Sv.v (intsD done), Sv.v (.int k), Sv.v (.int (blk ws k)), Sv.v (.int j)], rfl, ?_, fun _ => rfl, rfl, rfl⟩
        clear a1 hd
        walk_at "evs"
        by_cases h5 : blk ws j = blk ws k
        · walk_at "evs"
        · walk_at "evs"
      rw [Int.toNat_natCast]
      have e9 : (betw b k).filter (fun a => decide (blk ws a = blk ws k) && !decide (a ∈ done)) = missing ws done b k := rfl
      rw [e9, List.nil_append]
      clear a1 hd
      by_cases h5 : missing ws done b k = []
      · rw [h5]; walk_at "ev"
        rfl
      · have h6 : ¬ (missing ws done b k).map Dat.int = [] := fun c => h5 (List.map_eq_nil_iff.mp c)
        walk_at "evs"
    · refine ⟨(Sv.v (.int k), z.2), ?_⟩
      walk_at "evs"
  have hz' : forGo 4 (.nm 4) gg ((betw b n).map Dat.int) [Sv.v (wsD ws), Sv.v (.int b), Sv.v (.int n), Sv.v (intsD done), Sv.no, Sv.no, Sv.no] = _ := hz
  rw [hz']
  unfold isPart
  cases (betw b n).all (goodAt ws done b) <;> walk_at "ev"
end Wk
set_option Elab.async false
set_option linter.all false
set_option autoImplicit false
set_option maxRecDepth 100000
set_option maxHeartbeats 4000000
namespace Wk
open PySem PySem.Spec PyProof.Rows L2 DL FL
local macro_rules | `(tactic| walk_at "ev") => `(tactic| simp -implicitDefEqProofs only [List.length_range, lv_int, lv_bl, lv_non, lv20_ints, lv20_nil, eqD_int, eqD_str, eqD_bl, eqD_ints, eqD_nil_r, inD_ints, flat_ints, flat_int, flat_str, inD_cons, inD_nil, eqF_str, Option.getD_some, Option.getD_none, Int.reduceEq, decide_true, decide_false, Bool.not_true, Bool.not_false, Bool.false_and, Bool.and_false, Bool.or_false, Bool.or_true, Bool.false_or, Bool.true_or, decide_not, Bool.not_eq_true, ne_eq, not_true_eq_false, or_false, false_or, and_false, false_and, if_true, if_false, ite_true, ite_false, eq_self, wo_0, wn_0_1, wn_0_2, wo_1, wn_1_0, wn_1_2, wo_2, wn_2_0, wn_2_1, wt_SIZES_0, wt_SIZES_1, wt_SIZES_2, q_bind_ok, q_mk0, q_mk1, q_mk2, q_mk3, q_mk4, q_mk5, q_mk6, q_bind_ex, q_gB_ok, q_gB_ex, q_seq_nx, q_seq_rt, q_seq_bk, q_seq_ex, q_k, q_nm, q_nm_v, q_nm_o, q_mv, q_mv_v, q_mv_o, q_e2, q_e2K, q_e1, q_plus_i, q_plus_t, q_plus_l, q_times_c, q_sub_i, q_mod_i, q_fdiv_i, q_pow1018, q_neg_i, q_sl_o, q_rdL_s, q_rdL_l, q_rdL_f, q_rdS_t, q_rdS_l, q_rdS_f, q_rdS_s, q_rdN_l, q_rdN_s, q_rdF_l, q_rdF_f, q_vO_i, q_vO_b, q_vO_x, q_vO_n, q_vO_t, q_vO_l, q_vO_f, q_vO_s, q_ix, q_ixK, q_ixJ, q_len, q_lenK, q_tupOf, q_tupK, q_intB, q_sli_t, q_sli_l, q_sli_f, q_cmp, q_eq, q_eqK, q_in, q_inK, q_isN_n, q_isN_i, q_isN_b, q_isN_x, q_isN_t, q_isN_l, q_isN_s, q_isi, q_isiK, q_isiJ, q_kget, q_B, q_bK, q_tV, q_tvO, q_tNot, q_ntK, q_tAnd, q_tAK, q_tOr, q_tOK, q_tCh, q_chJ, q_chK, q_chL, q_if, q_ifK, q_and, q_or, q_andK, q_orK, q_aNil, q_aCons, q_aK, q_aL, q_allD_n, q_allD_c, q_tup, q_tupJ, q_dsp, q_dspJ, q_list, q_lstJ, q_slO, q_cat_l, q_fr, q_frK, q_pN, q_pS, q_psO, q_Sl, q_SlK, q_SlJ, q_sset, q_ssK, q_sort, q_srK, q_call, q_callK, q_callJ, q_callX, q_ts_n, q_ts_d, q_ts_s, q_tsK, q_sv_n, q_sv_d, q_sv_s, q_wb_n, q_wb_d, q_wb_s, q_frS_v, q_frS_o, q_owS, q_gNil, q_gSeq, q_cs, q_cs_ge, q_cs_v, q_cs_n, q_cs_o, q_io, q_io_v, q_io_n, q_io_o, q_gSet, q_setK, q_gSetO, q_soK, q_gPat, q_patK, q_nxO, q_put_n, q_put_t, q_sa_c, q_sa_n, q_gX, q_xK, q_gRet, q_rtK, q_gRetO, q_roK, q_gRetS, q_rsK, q_gIf, q_giK, q_apJ, q_gApp, q_apK, q_exJ, q_gExt, q_exK, q_siJ, q_siI, q_gSetI, q_siK, q_gFor, q_foJ, q_foK, q_gForR1, q_gForR2, q_fr2J, q_gFrz, q_fzK_o, q_fzK_v, q_gNo, q_end_n, q_end_r, q_end_x, q_for_n, q_st_n, q_st_r, q_st_x, atI_0, atI_1, atI_2, atI_3, List.length_cons, List.length_nil, List.cons_append, List.nil_append, List.getElem?_cons_zero, List.getElem?_cons_succ, List.getElem?_nil, List.set_cons_zero, List.set_cons_succ, List.take_succ_cons, List.take_zero, List.replicate_succ, List.replicate_zero, Option.map_some, Option.map_none, List.nodup_cons, List.nodup_nil, List.mem_cons, List.not_mem_nil, List.all_cons, List.all_nil, ltB, leB, gtB, geB, decide_eq_true_eq, ↓reduceIte, decide_true, decide_false, Bool.and_true, Bool.true_and, not_false_eq_true, and_self, and_true, true_and, Nat.reduceSub, Nat.reduceAdd, Nat.reduceLeDiff, Bool.false_eq_true, q_abs10, List.length_map, Nat.reduceLT, q_cast0, q_cast1, q_cast2, q_cast3, q_cast4, q_cast5, q_cast6, q_cast7, q_cast8, q_cast9, Int.reduceToNat, Int.reduceLT, Int.reduceLE, Int.reduceAdd, Int.reduceSub, Int.reduceNeg, Int.reduceMul, Int.toNat_one, Int.toNat_zero, or_true, true_or])
local macro_rules | `(tactic| walk_at "evs") => `(tactic| simp -implicitDefEqProofs only [*, List.length_range, lv_int, lv_bl, lv_non, lv20_ints, lv20_nil, eqD_int, eqD_str, eqD_bl, eqD_ints, eqD_nil_r, inD_ints, flat_ints, flat_int, flat_str, inD_cons, inD_nil, eqF_str, Option.getD_some, Option.getD_none, Int.reduceEq, decide_true, decide_false, Bool.not_true, Bool.not_false, Bool.false_and, Bool.and_false, Bool.or_false, Bool.or_true, Bool.false_or, Bool.true_or, decide_not, Bool.not_eq_true, ne_eq, not_true_eq_false, or_false, false_or, and_false, false_and, if_true, if_false, ite_true, ite_false, eq_self, wo_0, wn_0_1, wn_0_2, wo_1, wn_1_0, wn_1_2, wo_2, wn_2_0, wn_2_1, wt_SIZES_0, wt_SIZES_1, wt_SIZES_2, q_bind_ok, q_mk0, q_mk1, q_mk2, q_mk3, q_mk4, q_mk5, q_mk6, q_bind_ex, q_gB_ok, q_gB_ex, q_seq_nx, q_seq_rt, q_seq_bk, q_seq_ex, q_k, q_nm, q_nm_v, q_nm_o, q_mv, q_mv_v, q_mv_o, q_e2, q_e2K, q_e1, q_plus_i, q_plus_t, q_plus_l, q_times_c, q_sub_i, q_mod_i, q_fdiv_i, q_pow1018, q_neg_i, q_sl_o, q_rdL_s, q_rdL_l, q_rdL_f, q_rdS_t, q_rdS_l, q_rdS_f, q_rdS_s, q_rdN_l, q_rdN_s, q_rdF_l, q_rdF_f, q_vO_i, q_vO_b, q_vO_x, q_vO_n, q_vO_t, q_vO_l, q_vO_f, q_vO_s, q_ix, q_ixK, q_ixJ, q_len, q_lenK, q_tupOf, q_tupK, q_intB, q_sli_t, q_sli_l, q_sli_f, q_cmp, q_eq, q_eqK, q_in, q_inK, q_isN_n, q_isN_i, q_isN_b, q_isN_x, q_isN_t, q_isN_l, q_isN_s, q_isi, q_isiK, q_isiJ, q_kget, q_B, q_bK, q_tV, q_tvO, q_tNot, q_ntK, q_tAnd, q_tAK, q_tOr, q_tOK, q_tCh, q_chJ, q_chK, q_chL, q_if, q_ifK, q_and, q_or, q_andK, q_orK, q_aNil, q_aCons, q_aK, q_aL, q_allD_n, q_allD_c, q_tup, q_tupJ, q_dsp, q_dspJ, q_list, q_lstJ, q_slO, q_cat_l, q_fr, q_frK, q_pN, q_pS, q_psO, q_Sl, q_SlK, q_SlJ, q_sset, q_ssK, q_sort, q_srK, q_call, q_callK, q_callJ, q_callX, q_ts_n, q_ts_d, q_ts_s, q_tsK, q_sv_n, q_sv_d, q_sv_s, q_wb_n, q_wb_d, q_wb_s, q_frS_v, q_frS_o, q_owS, q_gNil, q_gSeq, q_cs, q_cs_ge, q_cs_v, q_cs_n, q_cs_o, q_io, q_io_v, q_io_n, q_io_o, q_gSet, q_setK, q_gSetO, q_soK, q_gPat, q_patK, q_nxO, q_put_n, q_put_t, q_sa_c, q_sa_n, q_gX, q_xK, q_gRet, q_rtK, q_gRetO, q_roK, q_gRetS, q_rsK, q_gIf, q_giK, q_apJ, q_gApp, q_apK, q_exJ, q_gExt, q_exK, q_siJ, q_siI, q_gSetI, q_siK, q_gFor, q_foJ, q_foK, q_gForR1, q_gForR2, q_fr2J, q_gFrz, q_fzK_o, q_fzK_v, q_gNo, q_end_n, q_end_r, q_end_x, q_for_n, q_st_n, q_st_r, q_st_x, atI_0, atI_1, atI_2, atI_3, List.length_cons, List.length_nil, List.cons_append, List.nil_append, List.getElem?_cons_zero, List.getElem?_cons_succ, List.getElem?_nil, List.set_cons_zero, List.set_cons_succ, List.take_succ_cons, List.take_zero, List.replicate_succ, List.replicate_zero, Option.map_some, Option.map_none, List.nodup_cons, List.nodup_nil, List.mem_cons, List.not_mem_nil, List.all_cons, List.all_nil, ltB, leB, gtB, geB, decide_eq_true_eq, ↓reduceIte, decide_true, decide_false, Bool.and_true, Bool.true_and, not_false_eq_true, and_self, and_true, true_and, Nat.reduceSub, Nat.reduceAdd, Nat.reduceLeDiff, Bool.false_eq_true, q_abs10, List.length_map, Nat.reduceLT, q_cast0, q_cast1, q_cast2, q_cast3, q_cast4, q_cast5, q_cast6, q_cast7, q_cast8, q_cast9, Int.reduceToNat, Int.reduceLT, Int.reduceLE, Int.reduceAdd, Int.reduceSub, Int.reduceNeg, Int.reduceMul, Int.toNat_one, Int.toNat_zero, or_true, true_or])
/-! ### segments rise -/
theorem cuts_pw (p : Dd → Bool) : ∀ (ds : List Dd) (s : List Int × Int), (∀ c ∈ s.1, c ≤ s.2) → s.1.Pairwise (· ≤ ·) → (ds.foldl (cutF p) s).1.Pairwise (· ≤ ·)
  | [], s, _, h => h
  | d :: ds, s, h0, h => by
    rw [List.foldl_cons]
    have h2 : s.2 ≤ (cutF p s d).2 := by unfold cutF; simp only; split <;> omega
    have h3 : ∀ c ∈ (cutF p s d).1, c ∈ s.1 ∨ c = s.2 := fun c hc => by
      unfold cutF at hc
      simp only at hc
      split at hc
      · rw [List.mem_append, List.mem_singleton] at hc; exact hc
      · exact .inl hc
    refine cuts_pw p ds (cutF p s d) (fun c hc => ?_) ?_
    · rcases h3 c hc with e | e
      · have := h0 c e; omega
      · omega
    · unfold cutF
      simp only
      split
      · rw [List.pairwise_append]
        exact ⟨h, by simp, fun a ha b hb => by rw [List.mem_singleton.mp hb]; exact h0 a ha⟩
      · exact h
theorem cl_pw (ds : List Dd) : (cl ds).Pairwise (· ≤ ·) := by
  unfold cl
  have hb := cuts_bd isC ds
  refine List.pairwise_cons.mpr ⟨fun c hc => ?_, ?_⟩
  · rw [List.mem_append, List.mem_singleton] at hc
    rcases hc with e | e
    · exact (hb c e).1
    · omega
  · rw [List.pairwise_append]
    exact ⟨cuts_pw isC ds ([], 0) (by simp) (by simp), by simp, fun a ha b hb2 => by rw [List.mem_singleton.mp hb2]; exact (hb a ha).2⟩
theorem cl_bd (ds : List Dd) : ∀ c ∈ cl ds, 0 ≤ c ∧ c ≤ ((wrs ds).length : Int) := fun c hc => by
  unfold cl at hc
  rcases List.mem_cons.mp hc with e | e
  · omega
  · rw [List.mem_append, List.mem_singleton] at e
    rcases e with e | e
    · exact cuts_bd isC ds c e
    · omega
theorem segs_mem {ds : List Dd} {s : Int × Int} (h : s ∈ segs ds) : ∃ b n : Nat, s = ((b : Int), (n : Int)) ∧ b ≤ n ∧ n ≤ (wrs ds).length := by
  unfold segs at h
  obtain ⟨k, hk, rfl⟩ := List.mem_map.mp h
  have hk := List.mem_range.mp hk
  have h1 : k < (cl ds).length := by omega
  have h2 : k + 1 < (cl ds).length := by omega
  have e1 : (cl ds).getD k 0 = (cl ds)[k] := by simp [h1]
  have e2 : (cl ds).getD (k + 1) 0 = (cl ds)[k + 1] := by simp [h2]
  have b1 := cl_bd ds _ (List.getElem_mem h1)
  have b2 := cl_bd ds _ (List.getElem_mem h2)
  have b3 := List.pairwise_iff_getElem.mp (cl_pw ds) k (k + 1) h1 h2 (by omega)
  refine ⟨((cl ds)[k]).toNat, ((cl ds)[k + 1]).toNat, ?_, by omega, by omega⟩
  rw [e1, e2, Int.toNat_of_nonneg b1.1, Int.toNat_of_nonneg b2.1]
/-! ### may -/
def inside (done : List Int) (b n : Nat) : List Int := done.filter fun a => decide ((b : Int) ≤ a) && decide (a < (n : Int))
def segOk (ws : List (Int × Int)) (done : List Int) (s : Int × Int) : Bool := decide (done = ((List.range s.1.toNat).map fun (k : Nat) => (k : Int)) ++ inside done s.1.toNat s.2.toNat) && isPart ws s.1.toNat s.2.toNat done
def mayN (ds : List Dd) (done : List Int) : Bool := decide (done = sortU done) && (osegs ds).any (segOk (wrs ds) done)
theorem may_ok {B : Int} {ds : List Dd} {t : Nat} {done : List Int} (h : OkR B ds) (ht : t ≤ ds.length) (hd : done.length < 64) :
    f_may [.v (runD B ds), .v (.int t), .v (intsD done)] = .ok (.v (.bl (mayN (ds.take t) done))) [.v (runD B ds), .v (.int t), .v (intsD done)] := by
  have h1 := need_run_ok h
  have h2 := need_time_ok (B := B) (ds := ds) (t := t) (by omega) (by omega)
  have hl : (ds.take t).length ≤ 1000 := by rw [List.length_take]; have := h.len; omega
  have h3 := open_segments_ok hl
  have h4 := writes_of_ok (ds := ds.take t) (by omega)
  have hwl := wrs_len (ds.take t)
  have e1 := @take_d ds t
  have q := @q_ssK
  have hsl : (sortU done).length < 64 := Nat.lt_of_le_of_lt (sortU_len done) hd
  have hd2 : done.length ≤ 1000 := by omega
  clear h
  generalize hD : ds.take t = dt at *
  unfold f_may g_may mayN
  by_cases hs : done = sortU done
  · have hs2 : sortU done = done := hs.symm
    clear hs hsl
    walk_at "evs"
    generalize hg : gSeq (gSet 3 7 _) _ = gg
    obtain ⟨z, hz⟩ := for_all (np := 3) (p := .tp [5, 6]) (g := gg) (enc := wD) (E := fun (z : Sv × Sv × Sv) => [Sv.v (runD B ds), Sv.v (.int t), Sv.v (intsD done), Sv.v (dsD dt), Sv.v (wsD (wrs dt)), z.1, z.2.1, z.2.2, Sv.no]) (good := fun s => !segOk (wrs dt) done s) (r := .v (.bl true)) (osegs dt) (Sv.no, Sv.no, Sv.no) fun z s hs => by
      obtain ⟨b, n, rfl, k1, k2⟩ := segs_mem (List.mem_filter.mp hs).1
      refine ⟨[Sv.v (runD B ds), Sv.v (.int t), Sv.v (intsD done), Sv.v (dsD dt), Sv.v (wsD (wrs dt)), Sv.v (.int b), Sv.v (.int n), z.2.2, Sv.no], by unfold wD; walk_at "ev", ?_⟩
      subst hg
      refine ⟨(Sv.v (.int b), Sv.v (.int n), Sv.v (intsD (inside done b n))), ?_⟩
      have q3 := @q_lcLK 3 [8] (.nm 8)
      have hdl : done.length ≤ 100000 := by omega
      have hp := is_part_ok (ws := wrs dt) (b := b) (n := n) (done := done) (by omega) k2 k1
      have hil : (inside done b n).length ≤ done.length := List.length_filter_le _ _
      have hil2 : b + (inside done b n).length ≤ 100000 := by omega
      have q4 := @q_rg1N b
      have hb3 : b ≤ 1000000 := by omega
      have e5 : natsD b ++ (inside done b n).map Dat.int = (((List.range b).map fun (k : Nat) => (k : Int)) ++ inside done b n).map Dat.int := (List.map_append).symm
      clear h1 h2 h3 h4 hD e1 hs2 q hs k1 k2 hwl hl ht hd
      have lc := @lc_map Int 3 [8] (.nm 8) (tCh leB ltB (eNm 5) (eNm 8) (eNm 6)) (eNm 8) Dat.int (fun a => decide ((b : Int) ≤ a) && decide (a < (n : Int))) Dat.int [Sv.v (runD B ds), Sv.v (.int t), Sv.v (intsD done), Sv.v (dsD dt), Sv.v (wsD (wrs dt)), Sv.v (.int b), Sv.v (.int n), z.2.2, Sv.no] rfl done [] fun a _ => by
        refine ⟨[Sv.v (runD B ds), Sv.v (.int t), Sv.v (intsD done), Sv.v (dsD dt), Sv.v (wsD (wrs dt)), Sv.v (.int b), Sv.v (.int n), z.2.2, Sv.v (.int a)], rfl, ?_, fun _ => rfl, rfl, by cases z.2.2 <;> rfl⟩
        by_cases h5 : (b : Int) ≤ a
        · walk_at "evs"
        · walk_at "evs"
      rw [List.nil_append] at lc
      have e6 : done.filter (fun a => decide ((b : Int) ≤ a) && decide (a < (n : Int))) = inside done b n := rfl
      rw [e6] at lc
      have e7 : segOk (wrs dt) done ((b : Int), (n : Int)) = (decide (done = ((List.range b).map fun (k : Nat) => (k : Int)) ++ inside done b n) && isPart (wrs dt) b n done) := by
        unfold segOk
        simp only [Int.toNat_natCast]
      rw [e7]
      by_cases h6 : done = ((List.range b).map fun (k : Nat) => (k : Int)) ++ inside done b n
      · have h7 : decide (done = ((List.range b).map fun (k : Nat) => (k : Int)) ++ inside done b n) = true := decide_eq_true h6
        clear h6 e7 e6 hil
        walk_at "evs"
        cases isPart (wrs dt) b n done <;> rfl
      · have h7 : decide (done = ((List.range b).map fun (k : Nat) => (k : Int)) ++ inside done b n) = false := decide_eq_false h6
        clear e7 e6 hil
        walk_at "evs"
    have hz' : forGo 3 (.tp [5, 6]) gg ((osegs dt).map wD) [Sv.v (runD B ds), Sv.v (.int t), Sv.v (intsD done), Sv.v (dsD dt), Sv.v (wsD (wrs dt)), Sv.no, Sv.no, Sv.no, Sv.no] = _ := hz
    rw [hz']
    have e9 : (osegs dt).any (segOk (wrs dt) done) = !(osegs dt).all (fun s => !segOk (wrs dt) done s) := by
      induction osegs dt with
      | nil => rfl
      | cons a l ih => rw [List.any_cons, List.all_cons, ih]; cases segOk (wrs dt) done a <;> simp
    rw [e9]
    cases (osegs dt).all (fun s => !segOk (wrs dt) done s) <;> walk_at "ev"
  · walk_at "evs"
end Wk
set_option Elab.async false
set_option linter.all false
set_option autoImplicit false
set_option maxRecDepth 100000
set_option maxHeartbeats 4000000
namespace Wk
open PySem PySem.Spec PyProof.Rows L2 DL FL
local macro_rules | `(tactic| walk_at "ev") => `(tactic| simp -implicitDefEqProofs only [List.length_range, lv_int, lv_bl, lv_non, lv20_ints, lv20_nil, eqD_int, eqD_str, eqD_bl, eqD_ints, eqD_nil_r, inD_ints, flat_ints, flat_int, flat_str, inD_cons, inD_nil, eqF_str, Option.getD_some, Option.getD_none, Int.reduceEq, decide_true, decide_false, Bool.not_true, Bool.not_false, Bool.false_and, Bool.and_false, Bool.or_false, Bool.or_true, Bool.false_or, Bool.true_or, decide_not, Bool.not_eq_true, ne_eq, not_true_eq_false, or_false, false_or, and_false, false_and, if_true, if_false, ite_true, ite_false, eq_self, wo_0, wn_0_1, wn_0_2, wo_1, wn_1_0, wn_1_2, wo_2, wn_2_0, wn_2_1, wt_SIZES_0, wt_SIZES_1, wt_SIZES_2, q_bind_ok, q_mk0, q_mk1, q_mk2, q_mk3, q_mk4, q_mk5, q_mk6, q_bind_ex, q_gB_ok, q_gB_ex, q_seq_nx, q_seq_rt, q_seq_bk, q_seq_ex, q_k, q_nm, q_nm_v, q_nm_o, q_mv, q_mv_v, q_mv_o, q_e2, q_e2K, q_e1, q_plus_i, q_plus_t, q_plus_l, q_times_c, q_sub_i, q_mod_i, q_fdiv_i, q_pow1018, q_neg_i, q_sl_o, q_rdL_s, q_rdL_l, q_rdL_f, q_rdS_t, q_rdS_l, q_rdS_f, q_rdS_s, q_rdN_l, q_rdN_s, q_rdF_l, q_rdF_f, q_vO_i, q_vO_b, q_vO_x, q_vO_n, q_vO_t, q_vO_l, q_vO_f, q_vO_s, q_ix, q_ixK, q_ixJ, q_len, q_lenK, q_tupOf, q_tupK, q_intB, q_sli_t, q_sli_l, q_sli_f, q_cmp, q_eq, q_eqK, q_in, q_inK, q_isN_n, q_isN_i, q_isN_b, q_isN_x, q_isN_t, q_isN_l, q_isN_s, q_isi, q_isiK, q_isiJ, q_kget, q_B, q_bK, q_tV, q_tvO, q_tNot, q_ntK, q_tAnd, q_tAK, q_tOr, q_tOK, q_tCh, q_chJ, q_chK, q_chL, q_if, q_ifK, q_and, q_or, q_andK, q_orK, q_aNil, q_aCons, q_aK, q_aL, q_allD_n, q_allD_c, q_tup, q_tupJ, q_dsp, q_dspJ, q_list, q_lstJ, q_slO, q_cat_l, q_fr, q_frK, q_pN, q_pS, q_psO, q_Sl, q_SlK, q_SlJ, q_sset, q_ssK, q_sort, q_srK, q_call, q_callK, q_callJ, q_callX, q_ts_n, q_ts_d, q_ts_s, q_tsK, q_sv_n, q_sv_d, q_sv_s, q_wb_n, q_wb_d, q_wb_s, q_frS_v, q_frS_o, q_owS, q_gNil, q_gSeq, q_cs, q_cs_ge, q_cs_v, q_cs_n, q_cs_o, q_io, q_io_v, q_io_n, q_io_o, q_gSet, q_setK, q_gSetO, q_soK, q_gPat, q_patK, q_nxO, q_put_n, q_put_t, q_sa_c, q_sa_n, q_gX, q_xK, q_gRet, q_rtK, q_gRetO, q_roK, q_gRetS, q_rsK, q_gIf, q_giK, q_apJ, q_gApp, q_apK, q_exJ, q_gExt, q_exK, q_siJ, q_siI, q_gSetI, q_siK, q_gFor, q_foJ, q_foK, q_gForR1, q_gForR2, q_fr2J, q_gFrz, q_fzK_o, q_fzK_v, q_gNo, q_end_n, q_end_r, q_end_x, q_for_n, q_st_n, q_st_r, q_st_x, atI_0, atI_1, atI_2, atI_3, List.length_cons, List.length_nil, List.cons_append, List.nil_append, List.getElem?_cons_zero, List.getElem?_cons_succ, List.getElem?_nil, List.set_cons_zero, List.set_cons_succ, List.take_succ_cons, List.take_zero, List.replicate_succ, List.replicate_zero, Option.map_some, Option.map_none, List.nodup_cons, List.nodup_nil, List.mem_cons, List.not_mem_nil, List.all_cons, List.all_nil, ltB, leB, gtB, geB, decide_eq_true_eq, ↓reduceIte, decide_true, decide_false, Bool.and_true, Bool.true_and, not_false_eq_true, and_self, and_true, true_and, Nat.reduceSub, Nat.reduceAdd, Nat.reduceLeDiff, Bool.false_eq_true, q_abs10, List.length_map, Nat.reduceLT, q_cast0, q_cast1, q_cast2, q_cast3, q_cast4, q_cast5, q_cast6, q_cast7, q_cast8, q_cast9, Int.reduceToNat, Int.reduceLT, Int.reduceLE, Int.reduceAdd, Int.reduceSub, Int.reduceNeg, Int.reduceMul, Int.toNat_one, Int.toNat_zero, or_true, true_or])
local macro_rules | `(tactic| walk_at "evs") => `(tactic| simp -implicitDefEqProofs only [*, List.length_range, lv_int, lv_bl, lv_non, lv20_ints, lv20_nil, eqD_int, eqD_str, eqD_bl, eqD_ints, eqD_nil_r, inD_ints, flat_ints, flat_int, flat_str, inD_cons, inD_nil, eqF_str, Option.getD_some, Option.getD_none, Int.reduceEq, decide_true, decide_false, Bool.not_true, Bool.not_false, Bool.false_and, Bool.and_false, Bool.or_false, Bool.or_true, Bool.false_or, Bool.true_or, decide_not, Bool.not_eq_true, ne_eq, not_true_eq_false, or_false, false_or, and_false, false_and, if_true, if_false, ite_true, ite_false, eq_self, wo_0, wn_0_1, wn_0_2, wo_1, wn_1_0, wn_1_2, wo_2, wn_2_0, wn_2_1, wt_SIZES_0, wt_SIZES_1, wt_SIZES_2, q_bind_ok, q_mk0, q_mk1, q_mk2, q_mk3, q_mk4, q_mk5, q_mk6, q_bind_ex, q_gB_ok, q_gB_ex, q_seq_nx, q_seq_rt, q_seq_bk, q_seq_ex, q_k, q_nm, q_nm_v, q_nm_o, q_mv, q_mv_v, q_mv_o, q_e2, q_e2K, q_e1, q_plus_i, q_plus_t, q_plus_l, q_times_c, q_sub_i, q_mod_i, q_fdiv_i, q_pow1018, q_neg_i, q_sl_o, q_rdL_s, q_rdL_l, q_rdL_f, q_rdS_t, q_rdS_l, q_rdS_f, q_rdS_s, q_rdN_l, q_rdN_s, q_rdF_l, q_rdF_f, q_vO_i, q_vO_b, q_vO_x, q_vO_n, q_vO_t, q_vO_l, q_vO_f, q_vO_s, q_ix, q_ixK, q_ixJ, q_len, q_lenK, q_tupOf, q_tupK, q_intB, q_sli_t, q_sli_l, q_sli_f, q_cmp, q_eq, q_eqK, q_in, q_inK, q_isN_n, q_isN_i, q_isN_b, q_isN_x, q_isN_t, q_isN_l, q_isN_s, q_isi, q_isiK, q_isiJ, q_kget, q_B, q_bK, q_tV, q_tvO, q_tNot, q_ntK, q_tAnd, q_tAK, q_tOr, q_tOK, q_tCh, q_chJ, q_chK, q_chL, q_if, q_ifK, q_and, q_or, q_andK, q_orK, q_aNil, q_aCons, q_aK, q_aL, q_allD_n, q_allD_c, q_tup, q_tupJ, q_dsp, q_dspJ, q_list, q_lstJ, q_slO, q_cat_l, q_fr, q_frK, q_pN, q_pS, q_psO, q_Sl, q_SlK, q_SlJ, q_sset, q_ssK, q_sort, q_srK, q_call, q_callK, q_callJ, q_callX, q_ts_n, q_ts_d, q_ts_s, q_tsK, q_sv_n, q_sv_d, q_sv_s, q_wb_n, q_wb_d, q_wb_s, q_frS_v, q_frS_o, q_owS, q_gNil, q_gSeq, q_cs, q_cs_ge, q_cs_v, q_cs_n, q_cs_o, q_io, q_io_v, q_io_n, q_io_o, q_gSet, q_setK, q_gSetO, q_soK, q_gPat, q_patK, q_nxO, q_put_n, q_put_t, q_sa_c, q_sa_n, q_gX, q_xK, q_gRet, q_rtK, q_gRetO, q_roK, q_gRetS, q_rsK, q_gIf, q_giK, q_apJ, q_gApp, q_apK, q_exJ, q_gExt, q_exK, q_siJ, q_siI, q_gSetI, q_siK, q_gFor, q_foJ, q_foK, q_gForR1, q_gForR2, q_fr2J, q_gFrz, q_fzK_o, q_fzK_v, q_gNo, q_end_n, q_end_r, q_end_x, q_for_n, q_st_n, q_st_r, q_st_x, atI_0, atI_1, atI_2, atI_3, List.length_cons, List.length_nil, List.cons_append, List.nil_append, List.getElem?_cons_zero, List.getElem?_cons_succ, List.getElem?_nil, List.set_cons_zero, List.set_cons_succ, List.take_succ_cons, List.take_zero, List.replicate_succ, List.replicate_zero, Option.map_some, Option.map_none, List.nodup_cons, List.nodup_nil, List.mem_cons, List.not_mem_nil, List.all_cons, List.all_nil, ltB, leB, gtB, geB, decide_eq_true_eq, ↓reduceIte, decide_true, decide_false, Bool.and_true, Bool.true_and, not_false_eq_true, and_self, and_true, true_and, Nat.reduceSub, Nat.reduceAdd, Nat.reduceLeDiff, Bool.false_eq_true, q_abs10, List.length_map, Nat.reduceLT, q_cast0, q_cast1, q_cast2, q_cast3, q_cast4, q_cast5, q_cast6, q_cast7, q_cast8, q_cast9, Int.reduceToNat, Int.reduceLT, Int.reduceLE, Int.reduceAdd, Int.reduceSub, Int.reduceNeg, Int.reduceMul, Int.toNat_one, Int.toNat_zero, or_true, true_or])
/-! ### values -/
def setW (f : List Int) (w : Int × Int) : List Int := f.set w.1.toNat w.2
def valsN (B : Nat) (ws : List (Int × Int)) : List Int := ws.foldl setW (List.replicate B 0)
theorem vals_len : ∀ (ws : List (Int × Int)) (f : List Int), (ws.foldl setW f).length = f.length
  | [], f => rfl
  | w :: ws, f => by rw [List.foldl_cons, vals_len ws]; unfold setW; simp
theorem cutD_all {α : Type} (l : List α) : cutD l none (some (l.length : Int)) = l := by rw [cutD_to, List.take_length]
theorem values_at_ok {B : Nat} {ws : List (Int × Int)} (hB : B ≤ 1000) (hw : ∀ w ∈ ws, 0 ≤ w.1 ∧ w.1 < (B : Int)) :
    f_values_at [.v (.int B), .v (wsD ws), .v (.int ws.length)] = .ok (.v (.tup ((valsN B ws).map Dat.int))) [.v (.int B), .v (wsD ws), .v (.int ws.length)] := by
  have q := @q_lcR1N 3 [4] (.nm 4)
  have hB2 : B ≤ 100000 := by omega
  have e1 : cutD (ws.map wD) none (some (ws.length : Int)) = ws.map wD := by rw [cutD_map, cutD_all]
  have lc := @lc_map Int 3 [4] (.nm 4) FL.tYes (eK (.int 0)) Dat.int (fun _ => true) (fun _ => Dat.int 0) [Sv.v (.int B), Sv.v (wsD ws), Sv.v (.int ws.length), Sv.no, Sv.no, Sv.no] rfl ((List.range B).map fun (k : Nat) => (k : Int)) [] fun a _ => ⟨[Sv.v (.int B), Sv.v (wsD ws), Sv.v (.int ws.length), Sv.no, Sv.v (.int a), Sv.no], rfl, rfl, fun _ => rfl, rfl, rfl⟩
  have e2 : ((((List.range B).map fun (k : Nat) => (k : Int)).filter fun _ => true).map fun _ => Dat.int 0) = (List.replicate B (0 : Int)).map Dat.int := by
    rw [List.filter_eq_self.mpr (fun _ _ => rfl), List.map_map, List.map_replicate]
    show (List.range B).map (fun _ => Dat.int 0) = _
    rw [List.map_const', List.length_range]
  rw [e2, List.nil_append] at lc
  clear e2
  unfold f_values_at g_values_at
  walk_at "evs"
  generalize hg : gSetI 3 _ _ = gg
  obtain ⟨z, hz⟩ := for_st (np := 3) (p := .tp [4, 5]) (g := gg) (enc := wD) (as := ws) (E := fun (f : List Int) (z : Sv × Sv) => [Sv.v (.int B), Sv.v (wsD ws), Sv.v (.int ws.length), Sv.own (f.map Dat.int), z.1, z.2]) (step := setW) (List.replicate B 0) (Sv.no, Sv.no) fun i w z hi => by
    have hl : ((ws.take i).foldl setW (List.replicate B 0)).length = B := by rw [vals_len, List.length_replicate]
    generalize (ws.take i).foldl setW (List.replicate B 0) = f at hl ⊢
    obtain ⟨h1, h2⟩ := hw w (List.mem_of_getElem? hi)
    obtain ⟨b, v⟩ := w
    simp only at h1 h2
    refine ⟨[Sv.v (.int B), Sv.v (wsD ws), Sv.v (.int ws.length), Sv.own (f.map Dat.int), Sv.v (.int b), Sv.v (.int v)], by unfold wD; walk_at "ev", (Sv.v (.int b), Sv.v (.int v)), ?_⟩
    subst hg
    clear q lc e1 hw hi
    unfold setW
    have h3 : b < (f.length : Int) := by rw [hl]; exact h2
    rw [List.map_set]
    walk_at "evs"
  have hz' : forGo 3 (.tp [4, 5]) gg (ws.map wD) [Sv.v (.int B), Sv.v (wsD ws), Sv.v (.int ws.length), Sv.own ((List.replicate B (0 : Int)).map Dat.int), Sv.no, Sv.no] = _ := hz
  rw [hz']
  walk_at "ev"
  rfl
theorem mem_wrs {B : Int} {ds : List Dd} (h : ∀ d ∈ ds, okD B d) : ∀ w ∈ wrs ds, 0 ≤ w.1 ∧ w.1 < B ∧ 0 ≤ w.2 ∧ w.2 ≤ 9 := fun w hw => by
  unfold wrs at hw
  obtain ⟨d, hd, rfl⟩ := List.mem_map.mp hw
  obtain ⟨h1, h2⟩ := List.mem_filter.mp hd
  have h3 := h d h1
  cases d with
  | wr b v => exact h3
  | wall => cases h2
  | sync => cases h2
def pick (ws : List (Int × Int)) (done : List Int) : List (Int × Int) := done.map fun a => ws.getD a.toNat (0, 0)
theorem left_ok {B : Nat} {ds : List Dd} {done : List Int} (h : OkR B ds) (hd : ∀ a ∈ done, 0 ≤ a ∧ a < ((wrs ds).length : Int)) (hl : done.length ≤ 1000) :
    f_left [.v (runD B ds), .v (intsD done)] = .ok (.v (.tup ((valsN B (pick (wrs ds) done)).map Dat.int))) [.v (runD B ds), .v (intsD done)] := by
  have h1 := need_run_ok h
  have h2 := writes_of_ok (ds := ds) (by have := h.len; omega)
  have hb := h.b6
  have hv := values_at_ok (B := B) (ws := pick (wrs ds) done) (by omega) fun w hw => by
    obtain ⟨a, ha, rfl⟩ := List.mem_map.mp hw
    obtain ⟨k1, k2⟩ := hd a ha
    have k3 : a.toNat < (wrs ds).length := by omega
    have k4 : (wrs ds).getD a.toNat (0, 0) = (wrs ds)[a.toNat] := by simp [k3]
    have := mem_wrs h.ok _ (List.getElem_mem k3)
    rw [k4]
    exact ⟨this.1, this.2.1⟩
  have q := @q_lcLK 2 [4] (.nm 4)
  have hl2 : done.length ≤ 100000 := by omega
  have lc1 := @lc_map Int 2 [4] (.nm 4) (FL.tNot (tCh leB ltB (eK (.int 0)) (eNm 4) (FL.e1 lenO (eNm 2)))) (eNm 4) Dat.int (fun a => false) Dat.int [Sv.v (runD B ds), Sv.v (intsD done), Sv.v (wsD (wrs ds)), Sv.no, Sv.no] rfl done [] fun a ha => by
    obtain ⟨k1, k2⟩ := hd a ha
    refine ⟨[Sv.v (runD B ds), Sv.v (intsD done), Sv.v (wsD (wrs ds)), Sv.no, Sv.v (.int a)], rfl, ?_, (fun q => nomatch q), rfl, rfl⟩
    clear h hd h1 h2 hv q hl2 ha
    walk_at "evs"
  have lc2 := @lc_map Int 2 [4] (.nm 4) FL.tYes (FL.e2 ixO (eNm 2) (eNm 4)) Dat.int (fun a => true) (fun a => wD ((wrs ds).getD a.toNat (0, 0))) [Sv.v (runD B ds), Sv.v (intsD done), Sv.v (wsD (wrs ds)), Sv.no, Sv.no] rfl done [] fun a ha => by
    obtain ⟨k1, k2⟩ := hd a ha
    obtain ⟨k, rfl⟩ := Int.eq_ofNat_of_zero_le k1
    have k3 : k < (wrs ds).length := by omega
    have a1 := atI_ws (ws := wrs ds) (k := k) k3
    refine ⟨[Sv.v (runD B ds), Sv.v (intsD done), Sv.v (wsD (wrs ds)), Sv.no, Sv.v (.int k)], rfl, rfl, fun _ => ?_, rfl, rfl⟩
    clear h hd h1 h2 hv q hl2 ha lc1
    walk_at "evs"
    rfl
  have f1 : done.filter (fun _ => false) = [] := List.filter_eq_nil_iff.mpr fun _ _ => by simp
  have f2 : (done.filter (fun _ => true)).map (fun a => wD ((wrs ds).getD a.toNat (0, 0))) = (pick (wrs ds) done).map wD := by
    rw [List.filter_eq_self.mpr (fun _ _ => rfl)]
    unfold pick
    rw [List.map_map]
    rfl
  rw [f1, List.map_nil, List.nil_append] at lc1
  rw [f2, List.nil_append] at lc2
  clear f1 f2 hd h
  unfold f_left g_left
  walk_at "evs"
end Wk
set_option Elab.async false
set_option linter.all false
set_option autoImplicit false
set_option maxRecDepth 100000
set_option maxHeartbeats 4000000
namespace Wk
open PySem PySem.Spec PyProof.Rows L2 DL FL
local macro_rules | `(tactic| walk_at "ev") => `(tactic| simp -implicitDefEqProofs only [List.length_range, lv_int, lv_bl, lv_non, lv20_ints, lv20_nil, eqD_int, eqD_str, eqD_bl, eqD_ints, eqD_nil_r, inD_ints, flat_ints, flat_int, flat_str, inD_cons, inD_nil, eqF_str, Option.getD_some, Option.getD_none, Int.reduceEq, decide_true, decide_false, Bool.not_true, Bool.not_false, Bool.false_and, Bool.and_false, Bool.or_false, Bool.or_true, Bool.false_or, Bool.true_or, decide_not, Bool.not_eq_true, ne_eq, not_true_eq_false, or_false, false_or, and_false, false_and, if_true, if_false, ite_true, ite_false, eq_self, wo_0, wn_0_1, wn_0_2, wo_1, wn_1_0, wn_1_2, wo_2, wn_2_0, wn_2_1, wt_SIZES_0, wt_SIZES_1, wt_SIZES_2, q_bind_ok, q_mk0, q_mk1, q_mk2, q_mk3, q_mk4, q_mk5, q_mk6, q_bind_ex, q_gB_ok, q_gB_ex, q_seq_nx, q_seq_rt, q_seq_bk, q_seq_ex, q_k, q_nm, q_nm_v, q_nm_o, q_mv, q_mv_v, q_mv_o, q_e2, q_e2K, q_e1, q_plus_i, q_plus_t, q_plus_l, q_times_c, q_sub_i, q_mod_i, q_fdiv_i, q_pow1018, q_neg_i, q_sl_o, q_rdL_s, q_rdL_l, q_rdL_f, q_rdS_t, q_rdS_l, q_rdS_f, q_rdS_s, q_rdN_l, q_rdN_s, q_rdF_l, q_rdF_f, q_vO_i, q_vO_b, q_vO_x, q_vO_n, q_vO_t, q_vO_l, q_vO_f, q_vO_s, q_ix, q_ixK, q_ixJ, q_len, q_lenK, q_tupOf, q_tupK, q_intB, q_sli_t, q_sli_l, q_sli_f, q_cmp, q_eq, q_eqK, q_in, q_inK, q_isN_n, q_isN_i, q_isN_b, q_isN_x, q_isN_t, q_isN_l, q_isN_s, q_isi, q_isiK, q_isiJ, q_kget, q_B, q_bK, q_tV, q_tvO, q_tNot, q_ntK, q_tAnd, q_tAK, q_tOr, q_tOK, q_tCh, q_chJ, q_chK, q_chL, q_if, q_ifK, q_and, q_or, q_andK, q_orK, q_aNil, q_aCons, q_aK, q_aL, q_allD_n, q_allD_c, q_tup, q_tupJ, q_dsp, q_dspJ, q_list, q_lstJ, q_slO, q_cat_l, q_fr, q_frK, q_pN, q_pS, q_psO, q_Sl, q_SlK, q_SlJ, q_sset, q_ssK, q_sort, q_srK, q_call, q_callK, q_callJ, q_callX, q_ts_n, q_ts_d, q_ts_s, q_tsK, q_sv_n, q_sv_d, q_sv_s, q_wb_n, q_wb_d, q_wb_s, q_frS_v, q_frS_o, q_owS, q_gNil, q_gSeq, q_cs, q_cs_ge, q_cs_v, q_cs_n, q_cs_o, q_io, q_io_v, q_io_n, q_io_o, q_gSet, q_setK, q_gSetO, q_soK, q_gPat, q_patK, q_nxO, q_put_n, q_put_t, q_sa_c, q_sa_n, q_gX, q_xK, q_gRet, q_rtK, q_gRetO, q_roK, q_gRetS, q_rsK, q_gIf, q_giK, q_apJ, q_gApp, q_apK, q_exJ, q_gExt, q_exK, q_siJ, q_siI, q_gSetI, q_siK, q_gFor, q_foJ, q_foK, q_gForR1, q_gForR2, q_fr2J, q_gFrz, q_fzK_o, q_fzK_v, q_gNo, q_end_n, q_end_r, q_end_x, q_for_n, q_st_n, q_st_r, q_st_x, atI_0, atI_1, atI_2, atI_3, List.length_cons, List.length_nil, List.cons_append, List.nil_append, List.getElem?_cons_zero, List.getElem?_cons_succ, List.getElem?_nil, List.set_cons_zero, List.set_cons_succ, List.take_succ_cons, List.take_zero, List.replicate_succ, List.replicate_zero, Option.map_some, Option.map_none, List.nodup_cons, List.nodup_nil, List.mem_cons, List.not_mem_nil, List.all_cons, List.all_nil, ltB, leB, gtB, geB, decide_eq_true_eq, ↓reduceIte, decide_true, decide_false, Bool.and_true, Bool.true_and, not_false_eq_true, and_self, and_true, true_and, Nat.reduceSub, Nat.reduceAdd, Nat.reduceLeDiff, Bool.false_eq_true, q_abs10, List.length_map, Nat.reduceLT, q_cast0, q_cast1, q_cast2, q_cast3, q_cast4, q_cast5, q_cast6, q_cast7, q_cast8, q_cast9, Int.reduceToNat, Int.reduceLT, Int.reduceLE, Int.reduceAdd, Int.reduceSub, Int.reduceNeg, Int.reduceMul, Int.toNat_one, Int.toNat_zero, or_true, true_or])
local macro_rules | `(tactic| walk_at "evs") => `(tactic| simp -implicitDefEqProofs only [*, List.length_range, lv_int, lv_bl, lv_non, lv20_ints, lv20_nil, eqD_int, eqD_str, eqD_bl, eqD_ints, eqD_nil_r, inD_ints, flat_ints, flat_int, flat_str, inD_cons, inD_nil, eqF_str, Option.getD_some, Option.getD_none, Int.reduceEq, decide_true, decide_false, Bool.not_true, Bool.not_false, Bool.false_and, Bool.and_false, Bool.or_false, Bool.or_true, Bool.false_or, Bool.true_or, decide_not, Bool.not_eq_true, ne_eq, not_true_eq_false, or_false, false_or, and_false, false_and, if_true, if_false, ite_true, ite_false, eq_self, wo_0, wn_0_1, wn_0_2, wo_1, wn_1_0, wn_1_2, wo_2, wn_2_0, wn_2_1, wt_SIZES_0, wt_SIZES_1, wt_SIZES_2, q_bind_ok, q_mk0, q_mk1, q_mk2, q_mk3, q_mk4, q_mk5, q_mk6, q_bind_ex, q_gB_ok, q_gB_ex, q_seq_nx, q_seq_rt, q_seq_bk, q_seq_ex, q_k, q_nm, q_nm_v, q_nm_o, q_mv, q_mv_v, q_mv_o, q_e2, q_e2K, q_e1, q_plus_i, q_plus_t, q_plus_l, q_times_c, q_sub_i, q_mod_i, q_fdiv_i, q_pow1018, q_neg_i, q_sl_o, q_rdL_s, q_rdL_l, q_rdL_f, q_rdS_t, q_rdS_l, q_rdS_f, q_rdS_s, q_rdN_l, q_rdN_s, q_rdF_l, q_rdF_f, q_vO_i, q_vO_b, q_vO_x, q_vO_n, q_vO_t, q_vO_l, q_vO_f, q_vO_s, q_ix, q_ixK, q_ixJ, q_len, q_lenK, q_tupOf, q_tupK, q_intB, q_sli_t, q_sli_l, q_sli_f, q_cmp, q_eq, q_eqK, q_in, q_inK, q_isN_n, q_isN_i, q_isN_b, q_isN_x, q_isN_t, q_isN_l, q_isN_s, q_isi, q_isiK, q_isiJ, q_kget, q_B, q_bK, q_tV, q_tvO, q_tNot, q_ntK, q_tAnd, q_tAK, q_tOr, q_tOK, q_tCh, q_chJ, q_chK, q_chL, q_if, q_ifK, q_and, q_or, q_andK, q_orK, q_aNil, q_aCons, q_aK, q_aL, q_allD_n, q_allD_c, q_tup, q_tupJ, q_dsp, q_dspJ, q_list, q_lstJ, q_slO, q_cat_l, q_fr, q_frK, q_pN, q_pS, q_psO, q_Sl, q_SlK, q_SlJ, q_sset, q_ssK, q_sort, q_srK, q_call, q_callK, q_callJ, q_callX, q_ts_n, q_ts_d, q_ts_s, q_tsK, q_sv_n, q_sv_d, q_sv_s, q_wb_n, q_wb_d, q_wb_s, q_frS_v, q_frS_o, q_owS, q_gNil, q_gSeq, q_cs, q_cs_ge, q_cs_v, q_cs_n, q_cs_o, q_io, q_io_v, q_io_n, q_io_o, q_gSet, q_setK, q_gSetO, q_soK, q_gPat, q_patK, q_nxO, q_put_n, q_put_t, q_sa_c, q_sa_n, q_gX, q_xK, q_gRet, q_rtK, q_gRetO, q_roK, q_gRetS, q_rsK, q_gIf, q_giK, q_apJ, q_gApp, q_apK, q_exJ, q_gExt, q_exK, q_siJ, q_siI, q_gSetI, q_siK, q_gFor, q_foJ, q_foK, q_gForR1, q_gForR2, q_fr2J, q_gFrz, q_fzK_o, q_fzK_v, q_gNo, q_end_n, q_end_r, q_end_x, q_for_n, q_st_n, q_st_r, q_st_x, atI_0, atI_1, atI_2, atI_3, List.length_cons, List.length_nil, List.cons_append, List.nil_append, List.getElem?_cons_zero, List.getElem?_cons_succ, List.getElem?_nil, List.set_cons_zero, List.set_cons_succ, List.take_succ_cons, List.take_zero, List.replicate_succ, List.replicate_zero, Option.map_some, Option.map_none, List.nodup_cons, List.nodup_nil, List.mem_cons, List.not_mem_nil, List.all_cons, List.all_nil, ltB, leB, gtB, geB, decide_eq_true_eq, ↓reduceIte, decide_true, decide_false, Bool.and_true, Bool.true_and, not_false_eq_true, and_self, and_true, true_and, Nat.reduceSub, Nat.reduceAdd, Nat.reduceLeDiff, Bool.false_eq_true, q_abs10, List.length_map, Nat.reduceLT, q_cast0, q_cast1, q_cast2, q_cast3, q_cast4, q_cast5, q_cast6, q_cast7, q_cast8, q_cast9, Int.reduceToNat, Int.reduceLT, Int.reduceLE, Int.reduceAdd, Int.reduceSub, Int.reduceNeg, Int.reduceMul, Int.toNat_one, Int.toNat_zero, or_true, true_or])
/-! ### the dice, drawn runs -/
def Dice (l : List Dat) : Prop := ∃ (ns : List Int) (i m x : Int), l = [.frl (ns.map Dat.int), .int i, .int m, .int x] ∧ 0 ≤ i
theorem next_ok {l : List Dat} (h : Dice l) {k : Int} (h1 : 0 < k) (h2 : k < 1073741824) : ∃ r l', Dice l' ∧ 0 ≤ r ∧ r < k ∧ f_law_next [.own l, .v (.int k)] = .ok (.v (.int r)) [.own l', .v (.int k)] := by
  obtain ⟨ns, i, m, x, rfl, hi⟩ := h
  unfold f_law_next g_law_next
  by_cases hx : 0 < x
  · walk_at "evs"
    exact ⟨_, _, ⟨ns, i, m, _, rfl, hi⟩, Int.emod_nonneg _ (by omega), Int.emod_lt_of_pos _ h1, rfl⟩
  · by_cases hl : i + 1 ≤ (ns.length : Int)
    · have hg : (ns.map Dat.int)[i.toNat]? = some (.int (ns[i.toNat]'(by omega))) := by simp
      have ha : atI (ns.map Dat.int) i = some (.int (ns[i.toNat]'(by omega))) := by rw [atI_of hi, hg]
      have e1 : i + 1 - 1 = i := by omega
      by_cases hc : 1000000000000000000 ≤ ns[i.toNat]'(by omega)
      · walk_at "evs"
        exact ⟨_, _, ⟨ns, i + 1, m, _, rfl, by omega⟩, Int.emod_nonneg _ (by omega), Int.emod_lt_of_pos _ h1, rfl⟩
      · walk_at "evs"
        exact ⟨_, _, ⟨ns, i + 1, m, _, rfl, by omega⟩, Int.emod_nonneg _ (by omega), Int.emod_lt_of_pos _ h1, rfl⟩
    · walk_at "evs"
      exact ⟨_, _, ⟨ns, i + 1, _, _, rfl, by omega⟩, Int.emod_nonneg _ (by omega), Int.emod_lt_of_pos _ h1, rfl⟩
theorem dice_ok (ns : List Int) : ∃ l, Dice l ∧ f_law_dice [.v (.frl (ns.map Dat.int))] = .ok (.own l) [.v (.frl (ns.map Dat.int))] := by
  unfold f_law_dice g_law_dice
  walk_at "ev"
  generalize hg : gSet 1 1 _ = gg
  obtain ⟨e2, hz, m, z, rfl⟩ := for_ex0 (np := 1) (p := .nm 2) (g := gg) (enc := Dat.int) (as := ns) (e := [Sv.v (.frl (ns.map Dat.int)), Sv.v (.int 0), Sv.no]) (J := fun _ e => ∃ m z, e = [Sv.v (.frl (ns.map Dat.int)), Sv.v (.int m), z]) ⟨_, _, rfl⟩ fun i a e hi ⟨m, z, he⟩ => by
    subst he
    refine ⟨[Sv.v (.frl (ns.map Dat.int)), Sv.v (.int m), Sv.v (.int a)], by walk_at "ev", ?_⟩
    subst hg
    walk_at "ev"
    exact ⟨_, rfl, _, _, rfl⟩
  rw [hz]
  by_cases h : (2 : Int) < (ns.length : Int)
  · walk_at "evs"
    exact ⟨_, ⟨ns, 0, _, _, rfl, by omega⟩, rfl⟩
  · walk_at "evs"
    exact ⟨_, ⟨ns, 0, _, _, rfl, by omega⟩, rfl⟩
abbrev wordsD : Dat := .lst [.str "write", .str "write", .str "write", .str "write", .str "wall", .str "sync"]
theorem words_ok : f_law_words [] = .ok (.v wordsD) [] := by
  unfold f_law_words g_law_words
  walk_at "ev"
theorem law_writes_ok {ds : List Dd} (h : ds.length ≤ 100000) : f_law_writes [.v (dsD ds)] = .ok (.v (.lst ((wrs ds).map wD))) [.v (dsD ds)] := writes_of_ok h
def wordD (r : Nat) : Str := if r < 4 then "write" else if r = 4 then "wall" else "sync"
theorem word_at {r : Int} (h0 : 0 ≤ r) (h1 : r < 6) : atI [Dat.str "write", Dat.str "write", Dat.str "write", Dat.str "write", Dat.str "wall", Dat.str "sync"] r = some (.str (wordD r.toNat)) := by
  rw [atI_of h0]
  have : r.toNat < 6 := by omega
  generalize r.toNat = n at this
  match n, this with
  | 0, _ => rfl
  | 1, _ => rfl
  | 2, _ => rfl
  | 3, _ => rfl
  | 4, _ => rfl
  | 5, _ => rfl
theorem run_ok {l : List Dat} (h : Dice l) {most : Int} (h1 : 0 ≤ most) (h2 : most ≤ 60) : ∃ (B : Nat) (ds : List Dd) (l' : List Dat), Dice l' ∧ OkR B ds ∧ (ds.length : Int) ≤ most ∧
    f_law_run [.own l, .v (.int most), .v wordsD] = .ok (.v (runD B ds)) [.own l', .v (.int most), .v wordsD] := by
  unfold f_law_run g_law_run
  obtain ⟨r1, l1, d1, a1, b1, c1⟩ := next_ok h (k := 6) (by omega) (by omega)
  obtain ⟨r2, l2, d2, a2, b2, c2⟩ := next_ok d1 (k := 3) (by omega) (by omega)
  have hB : ∃ B : Nat, 1 ≤ B ∧ B ≤ 6 ∧ atI [Dat.int 2, Dat.int 3, Dat.int (1 + r1)] r2 = some (.int (B : Int)) := by
    rcases (show r2 = 0 ∨ r2 = 1 ∨ r2 = 2 by omega) with e | e | e
    · exact ⟨2, by omega, by omega, by rw [e]; rfl⟩
    · exact ⟨3, by omega, by omega, by rw [e]; rfl⟩
    · refine ⟨(1 + r1).toNat, by omega, by omega, ?_⟩
      rw [e, Int.toNat_of_nonneg (by omega)]
      rfl
  obtain ⟨B, hB1, hB6, hB⟩ := hB
  obtain ⟨r3, l3, d3, a3, b3, c3⟩ := next_ok d2 (k := most + 1) (by omega) (by omega)
  obtain ⟨n, rfl⟩ := Int.eq_ofNat_of_zero_le a3
  have q := @q_fr1N 3 5
  have hn : n ≤ 1000000 := by omega
  have hn2 : (n : Int) ≤ most := by omega
  clear a1 b1 a2 b2 h h1 d1 d2 a3 b3
  walk_at "evs"
  generalize hg : gSeq (gSet 3 6 _) _ = gg
  obtain ⟨e2, hz, lf, ds, z5, z6, z7, z8, df, hlen, hok, rfl⟩ := for_ex0 (np := 3) (p := .nm 5) (g := gg) (enc := Dat.int) (as := (List.range n).map fun (k : Nat) => (k : Int)) (e := [Sv.own l3, Sv.v (Dat.int most), Sv.v wordsD, Sv.v (Dat.int ↑B), Sv.own [], Sv.no, Sv.no, Sv.no, Sv.no])
    (J := fun i e => ∃ (l : List Dat) (ds : List Dd) (z5 z6 z7 z8 : Sv), Dice l ∧ ds.length = i ∧ (∀ d ∈ ds, okD B d) ∧ e = [Sv.own l, Sv.v (Dat.int most), Sv.v wordsD, Sv.v (Dat.int ↑B), Sv.own (ds.map Dd.d), z5, z6, z7, z8]) ⟨l3, [], _, _, _, _, d3, rfl, by simp, rfl⟩ fun i a e hi ⟨l, ds, z5, z6, z7, z8, dl, hlen, hok, he⟩ => by
      subst he
      obtain ⟨hin, ha⟩ := rg_get hi
      clear c1 c2 c3 hB q hn d3
      refine ⟨[Sv.own l, Sv.v (Dat.int most), Sv.v wordsD, Sv.v (Dat.int ↑B), Sv.own (ds.map Dd.d), Sv.v (.int a), z6, z7, z8], by walk_at "ev", ?_⟩
      subst hg
      obtain ⟨s1, m1, d1, a1, b1, c1⟩ := next_ok dl (k := 6) (by omega) (by omega)
      obtain ⟨s2, m2, d2, a2, b2, c2⟩ := next_ok d1 (k := (B : Int)) (by omega) (by omega)
      obtain ⟨s3, m3, d3, a3, b3, c3⟩ := next_ok d2 (k := 3) (by omega) (by omega)
      obtain ⟨s4, m4, d4, a4, b4, c4⟩ := next_ok d3 (k := 10) (by omega) (by omega)
      obtain ⟨s5, m5, d5, a5, b5, c5⟩ := next_ok d4 (k := 3) (by omega) (by omega)
      have hw := word_at a1 b1
      have hv : ∃ v : Int, 0 ≤ v ∧ v ≤ 9 ∧ atI [Dat.int s3, Dat.int s4] (if decide (s5 = 2) = true then 1 else 0) = some (.int v) := by
        by_cases h : s5 = 2
        · exact ⟨s4, a4, by omega, by rw [if_pos (decide_eq_true h)]; rfl⟩
        · exact ⟨s3, a3, by omega, by rw [if_neg (by simpa using h)]; rfl⟩
      obtain ⟨v, v0, v9, hv⟩ := hv
      simp only [decide_eq_true_eq] at hv
      have hl5 : ds.length < 100000 := by omega
      have hwd : wordD s1.toNat = "write" ∨ wordD s1.toNat = "wall" ∨ wordD s1.toNat = "sync" := by
        unfold wordD
        split
        · exact .inl rfl
        · split
          · exact .inr (.inl rfl)
          · exact .inr (.inr rfl)
      clear a1 b1 d1 d2 d3 d4 a3 b3 a4 b4 a5 b5 hi hin hn2 dl
      generalize wordD s1.toNat = wd at hw hwd
      rcases hwd with rfl | rfl | rfl
      · refine ⟨[Sv.own m5, Sv.v (Dat.int most), Sv.v wordsD, Sv.v (Dat.int ↑B), Sv.own (ds.map Dd.d ++ [Dat.tup [.str "write", .int s2, .int v]]), Sv.v (.int a), Sv.v (.str "write"), Sv.v (.int s2), Sv.v (.int v)], ?_, m5, ds ++ [Dd.wr s2 v], _, _, _, _, d5, by simp [hlen], fun x hx => ?_, by rw [List.map_append]; rfl⟩
        · clear hok d5 hlen
          walk_at "evs"
        · rcases List.mem_append.mp hx with h | h
          · exact hok x h
          · rw [List.mem_singleton.mp h]
            exact ⟨a2, b2, v0, v9⟩
      · refine ⟨[Sv.own m5, Sv.v (Dat.int most), Sv.v wordsD, Sv.v (Dat.int ↑B), Sv.own (ds.map Dd.d ++ [Dat.tup [.str "wall"]]), Sv.v (.int a), Sv.v (.str "wall"), Sv.v (.int s2), Sv.v (.int v)], ?_, m5, ds ++ [Dd.wall], _, _, _, _, d5, by simp [hlen], fun x hx => ?_, by rw [List.map_append]; rfl⟩
        · clear hok d5 hlen
          walk_at "evs"
        · rcases List.mem_append.mp hx with h | h
          · exact hok x h
          · rw [List.mem_singleton.mp h]
            exact trivial
      · refine ⟨[Sv.own m5, Sv.v (Dat.int most), Sv.v wordsD, Sv.v (Dat.int ↑B), Sv.own (ds.map Dd.d ++ [Dat.tup [.str "sync"]]), Sv.v (.int a), Sv.v (.str "sync"), Sv.v (.int s2), Sv.v (.int v)], ?_, m5, ds ++ [Dd.sync], _, _, _, _, d5, by simp [hlen], fun x hx => ?_, by rw [List.map_append]; rfl⟩
        · clear hok d5 hlen
          walk_at "evs"
        · rcases List.mem_append.mp hx with h | h
          · exact hok x h
          · rw [List.mem_singleton.mp h]
            exact trivial
  rw [hz]
  rw [List.length_map, List.length_range] at hlen
  refine ⟨B, ds, lf, df, ⟨by omega, by omega, by omega, hok⟩, by omega, ?_⟩
  clear c1 c2 c3 hB q hn d3 hg hz
  walk_at "ev"
end Wk
set_option Elab.async false
set_option linter.all false
set_option autoImplicit false
set_option maxRecDepth 100000
set_option maxHeartbeats 4000000
namespace Wk
open PySem PySem.Spec PyProof.Rows L2 DL FL
local macro_rules | `(tactic| walk_at "ev") => `(tactic| simp -implicitDefEqProofs only [List.length_range, lv_int, lv_bl, lv_non, lv20_ints, lv20_nil, eqD_int, eqD_str, eqD_bl, eqD_ints, eqD_nil_r, inD_ints, flat_ints, flat_int, flat_str, inD_cons, inD_nil, eqF_str, Option.getD_some, Option.getD_none, Int.reduceEq, decide_true, decide_false, Bool.not_true, Bool.not_false, Bool.false_and, Bool.and_false, Bool.or_false, Bool.or_true, Bool.false_or, Bool.true_or, decide_not, Bool.not_eq_true, ne_eq, not_true_eq_false, or_false, false_or, and_false, false_and, if_true, if_false, ite_true, ite_false, eq_self, wo_0, wn_0_1, wn_0_2, wo_1, wn_1_0, wn_1_2, wo_2, wn_2_0, wn_2_1, wt_SIZES_0, wt_SIZES_1, wt_SIZES_2, q_bind_ok, q_mk0, q_mk1, q_mk2, q_mk3, q_mk4, q_mk5, q_mk6, q_bind_ex, q_gB_ok, q_gB_ex, q_seq_nx, q_seq_rt, q_seq_bk, q_seq_ex, q_k, q_nm, q_nm_v, q_nm_o, q_mv, q_mv_v, q_mv_o, q_e2, q_e2K, q_e1, q_plus_i, q_plus_t, q_plus_l, q_times_c, q_sub_i, q_mod_i, q_fdiv_i, q_pow1018, q_neg_i, q_sl_o, q_rdL_s, q_rdL_l, q_rdL_f, q_rdS_t, q_rdS_l, q_rdS_f, q_rdS_s, q_rdN_l, q_rdN_s, q_rdF_l, q_rdF_f, q_vO_i, q_vO_b, q_vO_x, q_vO_n, q_vO_t, q_vO_l, q_vO_f, q_vO_s, q_ix, q_ixK, q_ixJ, q_len, q_lenK, q_tupOf, q_tupK, q_intB, q_sli_t, q_sli_l, q_sli_f, q_cmp, q_eq, q_eqK, q_in, q_inK, q_isN_n, q_isN_i, q_isN_b, q_isN_x, q_isN_t, q_isN_l, q_isN_s, q_isi, q_isiK, q_isiJ, q_kget, q_B, q_bK, q_tV, q_tvO, q_tNot, q_ntK, q_tAnd, q_tAK, q_tOr, q_tOK, q_tCh, q_chJ, q_chK, q_chL, q_if, q_ifK, q_and, q_or, q_andK, q_orK, q_aNil, q_aCons, q_aK, q_aL, q_allD_n, q_allD_c, q_tup, q_tupJ, q_dsp, q_dspJ, q_list, q_lstJ, q_slO, q_cat_l, q_fr, q_frK, q_pN, q_pS, q_psO, q_Sl, q_SlK, q_SlJ, q_sset, q_ssK, q_sort, q_srK, q_call, q_callK, q_callJ, q_callX, q_ts_n, q_ts_d, q_ts_s, q_tsK, q_sv_n, q_sv_d, q_sv_s, q_wb_n, q_wb_d, q_wb_s, q_frS_v, q_frS_o, q_owS, q_gNil, q_gSeq, q_cs, q_cs_ge, q_cs_v, q_cs_n, q_cs_o, q_io, q_io_v, q_io_n, q_io_o, q_gSet, q_setK, q_gSetO, q_soK, q_gPat, q_patK, q_nxO, q_put_n, q_put_t, q_sa_c, q_sa_n, q_gX, q_xK, q_gRet, q_rtK, q_gRetO, q_roK, q_gRetS, q_rsK, q_gIf, q_giK, q_apJ, q_gApp, q_apK, q_exJ, q_gExt, q_exK, q_siJ, q_siI, q_gSetI, q_siK, q_gFor, q_foJ, q_foK, q_gForR1, q_gForR2, q_fr2J, q_gFrz, q_fzK_o, q_fzK_v, q_gNo, q_end_n, q_end_r, q_end_x, q_for_n, q_st_n, q_st_r, q_st_x, atI_0, atI_1, atI_2, atI_3, List.length_cons, List.length_nil, List.cons_append, List.nil_append, List.getElem?_cons_zero, List.getElem?_cons_succ, List.getElem?_nil, List.set_cons_zero, List.set_cons_succ, List.take_succ_cons, List.take_zero, List.replicate_succ, List.replicate_zero, Option.map_some, Option.map_none, List.nodup_cons, List.nodup_nil, List.mem_cons, List.not_mem_nil, List.all_cons, List.all_nil, ltB, leB, gtB, geB, decide_eq_true_eq, ↓reduceIte, decide_true, decide_false, Bool.and_true, Bool.true_and, not_false_eq_true, and_self, and_true, true_and, Nat.reduceSub, Nat.reduceAdd, Nat.reduceLeDiff, Bool.false_eq_true, q_abs10, List.length_map, Nat.reduceLT, q_cast0, q_cast1, q_cast2, q_cast3, q_cast4, q_cast5, q_cast6, q_cast7, q_cast8, q_cast9, Int.reduceToNat, Int.reduceLT, Int.reduceLE, Int.reduceAdd, Int.reduceSub, Int.reduceNeg, Int.reduceMul, Int.toNat_one, Int.toNat_zero, or_true, true_or])
local macro_rules | `(tactic| walk_at "evs") => `(tactic| simp -implicitDefEqProofs only [*, List.length_range, lv_int, lv_bl, lv_non, lv20_ints, lv20_nil, eqD_int, eqD_str, eqD_bl, eqD_ints, eqD_nil_r, inD_ints, flat_ints, flat_int, flat_str, inD_cons, inD_nil, eqF_str, Option.getD_some, Option.getD_none, Int.reduceEq, decide_true, decide_false, Bool.not_true, Bool.not_false, Bool.false_and, Bool.and_false, Bool.or_false, Bool.or_true, Bool.false_or, Bool.true_or, decide_not, Bool.not_eq_true, ne_eq, not_true_eq_false, or_false, false_or, and_false, false_and, if_true, if_false, ite_true, ite_false, eq_self, wo_0, wn_0_1, wn_0_2, wo_1, wn_1_0, wn_1_2, wo_2, wn_2_0, wn_2_1, wt_SIZES_0, wt_SIZES_1, wt_SIZES_2, q_bind_ok, q_mk0, q_mk1, q_mk2, q_mk3, q_mk4, q_mk5, q_mk6, q_bind_ex, q_gB_ok, q_gB_ex, q_seq_nx, q_seq_rt, q_seq_bk, q_seq_ex, q_k, q_nm, q_nm_v, q_nm_o, q_mv, q_mv_v, q_mv_o, q_e2, q_e2K, q_e1, q_plus_i, q_plus_t, q_plus_l, q_times_c, q_sub_i, q_mod_i, q_fdiv_i, q_pow1018, q_neg_i, q_sl_o, q_rdL_s, q_rdL_l, q_rdL_f, q_rdS_t, q_rdS_l, q_rdS_f, q_rdS_s, q_rdN_l, q_rdN_s, q_rdF_l, q_rdF_f, q_vO_i, q_vO_b, q_vO_x, q_vO_n, q_vO_t, q_vO_l, q_vO_f, q_vO_s, q_ix, q_ixK, q_ixJ, q_len, q_lenK, q_tupOf, q_tupK, q_intB, q_sli_t, q_sli_l, q_sli_f, q_cmp, q_eq, q_eqK, q_in, q_inK, q_isN_n, q_isN_i, q_isN_b, q_isN_x, q_isN_t, q_isN_l, q_isN_s, q_isi, q_isiK, q_isiJ, q_kget, q_B, q_bK, q_tV, q_tvO, q_tNot, q_ntK, q_tAnd, q_tAK, q_tOr, q_tOK, q_tCh, q_chJ, q_chK, q_chL, q_if, q_ifK, q_and, q_or, q_andK, q_orK, q_aNil, q_aCons, q_aK, q_aL, q_allD_n, q_allD_c, q_tup, q_tupJ, q_dsp, q_dspJ, q_list, q_lstJ, q_slO, q_cat_l, q_fr, q_frK, q_pN, q_pS, q_psO, q_Sl, q_SlK, q_SlJ, q_sset, q_ssK, q_sort, q_srK, q_call, q_callK, q_callJ, q_callX, q_ts_n, q_ts_d, q_ts_s, q_tsK, q_sv_n, q_sv_d, q_sv_s, q_wb_n, q_wb_d, q_wb_s, q_frS_v, q_frS_o, q_owS, q_gNil, q_gSeq, q_cs, q_cs_ge, q_cs_v, q_cs_n, q_cs_o, q_io, q_io_v, q_io_n, q_io_o, q_gSet, q_setK, q_gSetO, q_soK, q_gPat, q_patK, q_nxO, q_put_n, q_put_t, q_sa_c, q_sa_n, q_gX, q_xK, q_gRet, q_rtK, q_gRetO, q_roK, q_gRetS, q_rsK, q_gIf, q_giK, q_apJ, q_gApp, q_apK, q_exJ, q_gExt, q_exK, q_siJ, q_siI, q_gSetI, q_siK, q_gFor, q_foJ, q_foK, q_gForR1, q_gForR2, q_fr2J, q_gFrz, q_fzK_o, q_fzK_v, q_gNo, q_end_n, q_end_r, q_end_x, q_for_n, q_st_n, q_st_r, q_st_x, atI_0, atI_1, atI_2, atI_3, List.length_cons, List.length_nil, List.cons_append, List.nil_append, List.getElem?_cons_zero, List.getElem?_cons_succ, List.getElem?_nil, List.set_cons_zero, List.set_cons_succ, List.take_succ_cons, List.take_zero, List.replicate_succ, List.replicate_zero, Option.map_some, Option.map_none, List.nodup_cons, List.nodup_nil, List.mem_cons, List.not_mem_nil, List.all_cons, List.all_nil, ltB, leB, gtB, geB, decide_eq_true_eq, ↓reduceIte, decide_true, decide_false, Bool.and_true, Bool.true_and, not_false_eq_true, and_self, and_true, true_and, Nat.reduceSub, Nat.reduceAdd, Nat.reduceLeDiff, Bool.false_eq_true, q_abs10, List.length_map, Nat.reduceLT, q_cast0, q_cast1, q_cast2, q_cast3, q_cast4, q_cast5, q_cast6, q_cast7, q_cast8, q_cast9, Int.reduceToNat, Int.reduceLT, Int.reduceLE, Int.reduceAdd, Int.reduceSub, Int.reduceNeg, Int.reduceMul, Int.toNat_one, Int.toNat_zero, or_true, true_or])
/-! ### what is ahead -/
theorem rise_len {hi : Int} : ∀ (l : List Int) (lo : Int), lo ≤ hi → l.Pairwise (· < ·) → (∀ k ∈ l, lo ≤ k ∧ k < hi) → (l.length : Int) ≤ hi - lo
  | [], lo, h, _, _ => by simp; omega
  | a :: r, lo, h, hp, hb => by
    obtain ⟨h1, h2⟩ := List.pairwise_cons.mp hp
    have ha := hb a List.mem_cons_self
    have ih := rise_len r (a + 1) (by omega) h2 fun k hk => ⟨by have := h1 k hk; omega, (hb k (List.mem_cons_of_mem _ hk)).2⟩
    rw [List.length_cons]
    omega
structure AS where
  found : List (List Int)
  met : List Int
  cut : Nat
  fixed : Nat
abbrev nats (n : Nat) : List Int := (List.range n).map fun (k : Nat) => (k : Int)
def sameN (met : List Int) (b : Int) : List Int := (nats met.length).filter fun a => decide (met.getD a.toNat 0 = b)
def stepA (s : AS) : Dd → AS
  | .wr b _ => ⟨s.found ++ [sortU (sameN s.met b ++ nats s.cut)], s.met ++ [b], s.cut, s.fixed⟩
  | .wall => ⟨s.found, s.met, s.met.length, s.fixed⟩
  | .sync => ⟨s.found, s.met, s.met.length, s.met.length⟩
def aheadN (ds : List Dd) : AS := ds.foldl stepA ⟨[], [], 0, 0⟩
theorem nats_mem {n : Nat} {a : Int} : a ∈ nats n ↔ 0 ≤ a ∧ a < (n : Int) := by
  constructor
  · intro h
    obtain ⟨k, hk, rfl⟩ := List.mem_map.mp h
    have := List.mem_range.mp hk
    omega
  · rintro ⟨h1, h2⟩
    exact List.mem_map.mpr ⟨a.toNat, List.mem_range.mpr (by omega), Int.toNat_of_nonneg h1⟩
structure AOk (s : AS) (i : Nat) : Prop where
  f : s.found.length = s.met.length
  m : s.met.length ≤ i
  c : s.cut ≤ s.met.length
  x : s.fixed ≤ s.met.length
theorem AOk.step {s : AS} {i : Nat} (h : AOk s i) (d : Dd) : AOk (stepA s d) (i + 1) := by
  obtain ⟨h1, h2, h3, h4⟩ := h
  cases d with
  | wr b v => exact ⟨by simp [stepA, h1], by simp [stepA]; omega, by simp [stepA]; omega, by simp [stepA]; omega⟩
  | wall => exact ⟨h1, by simp [stepA]; omega, Nat.le_refl _, h4⟩
  | sync => exact ⟨h1, by simp [stepA]; omega, Nat.le_refl _, Nat.le_refl _⟩
theorem AOk.fold : ∀ (ds : List Dd) {s : AS} {i : Nat}, AOk s i → AOk (ds.foldl stepA s) (i + ds.length)
  | [], s, i, h => h
  | d :: ds, s, i, h => by
    have := AOk.fold ds (h.step d)
    rw [List.foldl_cons, List.length_cons]
    rw [show i + (ds.length + 1) = i + 1 + ds.length by omega]
    exact this
theorem aheadN_ok (ds : List Dd) : AOk (aheadN ds) ds.length := by
  have := AOk.fold ds (s := ⟨[], [], 0, 0⟩) (i := 0) ⟨rfl, Nat.le_refl _, Nat.le_refl _, Nat.le_refl _⟩
  rw [Nat.zero_add] at this
  exact this
theorem ahead_ok {ds : List Dd} (h : ds.length ≤ 60) : f_law_ahead [.v (dsD ds)] = .ok (.v (.tup [.lst ((aheadN ds).found.map intsD), .int (aheadN ds).fixed])) [.v (dsD ds)] := by
  unfold f_law_ahead g_law_ahead
  walk_at "ev"
  generalize hg : gIf _ _ _ = gg
  obtain ⟨z, hz⟩ := for_st (np := 1) (p := .nm 5) (g := gg) (enc := Dd.d) (as := ds) (E := fun (s : AS) (z : Sv × Sv) => [Sv.v (dsD ds), Sv.own (s.found.map intsD), Sv.own (s.met.map Dat.int), Sv.v (.int s.cut), Sv.v (.int s.fixed), z.1, z.2, Sv.no]) (step := stepA) ⟨[], [], 0, 0⟩ (Sv.no, Sv.no) fun i d z hi => by
    have hil : i < ds.length := (List.getElem?_eq_some_iff.mp hi).1
    have ok : AOk ((ds.take i).foldl stepA ⟨[], [], 0, 0⟩) i := by
      have := AOk.fold (ds.take i) (s := ⟨[], [], 0, 0⟩) (i := 0) ⟨rfl, Nat.le_refl _, Nat.le_refl _, Nat.le_refl _⟩
      rw [Nat.zero_add, List.length_take, Nat.min_eq_left (by omega)] at this
      exact this
    generalize (ds.take i).foldl stepA ⟨[], [], 0, 0⟩ = s at ok ⊢
    obtain ⟨fd, mt, ct, fx⟩ := s
    obtain ⟨k1, k2, k3, k4⟩ := ok
    simp only at k1 k2 k3 k4 ⊢
    refine ⟨[Sv.v (dsD ds), Sv.own (fd.map intsD), Sv.own (mt.map Dat.int), Sv.v (.int ct), Sv.v (.int fx), Sv.v d.d, z.2, Sv.no], by walk_at "ev", ?_⟩
    subst hg
    cases d with
    | wr b v =>
      refine ⟨(Sv.v (Dd.wr b v).d, Sv.v (intsD (sameN mt b))), ?_⟩
      have q := @q_lcR1N 1 [7] (.nm 7)
      have q2 := @q_rg1N ct
      have lc := @lc_map Int 1 [7] (.nm 7) (FL.e2 (eqO false) (FL.e2 ixO (eNm 2) (eNm 7)) (FL.e2 ixO (eNm 5) (eK (.int 1)))) (eNm 7) Dat.int (fun a => decide (mt.getD a.toNat 0 = b)) Dat.int [Sv.v (dsD ds), Sv.own (fd.map intsD), Sv.own (mt.map Dat.int), Sv.v (.int ct), Sv.v (.int fx), Sv.v (Dd.wr b v).d, z.2, Sv.no] rfl (nats mt.length) [] fun a ha => by
        obtain ⟨a0, a1⟩ := nats_mem.mp ha
        obtain ⟨k, rfl⟩ := Int.eq_ofNat_of_zero_le a0
        have a2 := atI_ints (l := mt) (k := k) (by omega)
        refine ⟨[Sv.v (dsD ds), Sv.own (fd.map intsD), Sv.own (mt.map Dat.int), Sv.v (.int ct), Sv.v (.int fx), Sv.v (Dd.wr b v).d, z.2, Sv.v (.int k)], rfl, ?_, fun _ => rfl, rfl, by cases z.2 <;> rfl⟩
        rw [Int.toNat_natCast]
        clear a1 ha a0 hi hil k1 k2 k3 k4 q q2
        unfold Dd.d
        walk_at "evs"
      have e1 : (nats mt.length).filter (fun a => decide (mt.getD a.toNat 0 = b)) = sameN mt b := rfl
      rw [e1, List.nil_append] at lc
      have l1 : (sameN mt b).length ≤ mt.length := by
        have := List.length_filter_le (fun a => decide (mt.getD a.toNat 0 = b)) (nats mt.length)
        rw [e1] at this
        simpa using this
      have l2 : (sortU (sameN mt b ++ nats ct)).length < 64 := by
        have := rise_len (hi := (mt.length : Int)) (sortU (sameN mt b ++ nats ct)) 0 (by omega) (sortU_pw _) fun k hk => by
          rw [sortU_mem, List.mem_append] at hk
          rcases hk with hk | hk
          · have := nats_mem.mp (List.mem_filter.mp hk).1; omega
          · have := nats_mem.mp hk; omega
        omega
      have e2 : (sameN mt b).map Dat.int ++ (nats ct).map Dat.int = (sameN mt b ++ nats ct).map Dat.int := List.map_append.symm
      have l3 : (sameN mt b).length + ct ≤ 100000 := by omega
      have l4 : (sameN mt b).length + ct ≤ 1000 := by omega
      have l5 : fd.length < 100000 := by omega
      have l6 : mt.length < 100000 := by omega
      have l7 : mt.length ≤ 100000 := by omega
      have l8 : ct ≤ 1000000 := by omega
      have q3 := @q_ssK (ns := sameN mt b ++ nats ct)
      have l9 : (sameN mt b ++ nats ct).length ≤ 1000 := by rw [List.length_append]; simpa using l4
      clear k1 k2 k3 k4 hil hi e1 l1
      unfold Dd.d at lc ⊢
      unfold stepA
      have g1 : (fd ++ [sortU (sameN mt b ++ nats ct)]).map intsD = fd.map intsD ++ [intsD (sortU (sameN mt b ++ nats ct))] := by rw [List.map_append]; rfl
      have g2 : (mt ++ [b]).map Dat.int = mt.map Dat.int ++ [Dat.int b] := by rw [List.map_append]; rfl
      simp only
      rw [g1, g2]
      clear g1 g2
      walk_at "evs"
    | wall =>
      refine ⟨(Sv.v Dd.wall.d, z.2), ?_⟩
      unfold stepA Dd.d
      clear hi k1 k2 k3 k4
      walk_at "evs"
    | sync =>
      refine ⟨(Sv.v Dd.sync.d, z.2), ?_⟩
      unfold stepA Dd.d
      clear hi k1 k2 k3 k4
      walk_at "evs"
  have hz' : forGo 1 (.nm 5) gg (ds.map Dd.d) [Sv.v (dsD ds), Sv.own [], Sv.own [], Sv.v (.int 0), Sv.v (.int 0), Sv.no, Sv.no, Sv.no] = _ := hz
  rw [hz']
  walk_at "ev"
  rfl
end Wk
set_option Elab.async false
set_option linter.all false
set_option autoImplicit false
set_option maxRecDepth 100000
set_option maxHeartbeats 4000000
namespace Wk
open PySem PySem.Spec PyProof.Rows L2 DL FL
local macro_rules | `(tactic| walk_at "ev") => `(tactic| simp -implicitDefEqProofs only [List.length_range, lv_int, lv_bl, lv_non, lv20_ints, lv20_nil, eqD_int, eqD_str, eqD_bl, eqD_ints, eqD_nil_r, inD_ints, flat_ints, flat_int, flat_str, inD_cons, inD_nil, eqF_str, Option.getD_some, Option.getD_none, Int.reduceEq, decide_true, decide_false, Bool.not_true, Bool.not_false, Bool.false_and, Bool.and_false, Bool.or_false, Bool.or_true, Bool.false_or, Bool.true_or, decide_not, Bool.not_eq_true, ne_eq, not_true_eq_false, or_false, false_or, and_false, false_and, if_true, if_false, ite_true, ite_false, eq_self, wo_0, wn_0_1, wn_0_2, wo_1, wn_1_0, wn_1_2, wo_2, wn_2_0, wn_2_1, wt_SIZES_0, wt_SIZES_1, wt_SIZES_2, q_bind_ok, q_mk0, q_mk1, q_mk2, q_mk3, q_mk4, q_mk5, q_mk6, q_bind_ex, q_gB_ok, q_gB_ex, q_seq_nx, q_seq_rt, q_seq_bk, q_seq_ex, q_k, q_nm, q_nm_v, q_nm_o, q_mv, q_mv_v, q_mv_o, q_e2, q_e2K, q_e1, q_plus_i, q_plus_t, q_plus_l, q_times_c, q_sub_i, q_mod_i, q_fdiv_i, q_pow1018, q_neg_i, q_sl_o, q_rdL_s, q_rdL_l, q_rdL_f, q_rdS_t, q_rdS_l, q_rdS_f, q_rdS_s, q_rdN_l, q_rdN_s, q_rdF_l, q_rdF_f, q_vO_i, q_vO_b, q_vO_x, q_vO_n, q_vO_t, q_vO_l, q_vO_f, q_vO_s, q_ix, q_ixK, q_ixJ, q_len, q_lenK, q_tupOf, q_tupK, q_intB, q_sli_t, q_sli_l, q_sli_f, q_cmp, q_eq, q_eqK, q_in, q_inK, q_isN_n, q_isN_i, q_isN_b, q_isN_x, q_isN_t, q_isN_l, q_isN_s, q_isi, q_isiK, q_isiJ, q_kget, q_B, q_bK, q_tV, q_tvO, q_tNot, q_ntK, q_tAnd, q_tAK, q_tOr, q_tOK, q_tCh, q_chJ, q_chK, q_chL, q_if, q_ifK, q_and, q_or, q_andK, q_orK, q_aNil, q_aCons, q_aK, q_aL, q_allD_n, q_allD_c, q_tup, q_tupJ, q_dsp, q_dspJ, q_list, q_lstJ, q_slO, q_cat_l, q_fr, q_frK, q_pN, q_pS, q_psO, q_Sl, q_SlK, q_SlJ, q_sset, q_ssK, q_sort, q_srK, q_call, q_callK, q_callJ, q_callX, q_ts_n, q_ts_d, q_ts_s, q_tsK, q_sv_n, q_sv_d, q_sv_s, q_wb_n, q_wb_d, q_wb_s, q_frS_v, q_frS_o, q_owS, q_gNil, q_gSeq, q_cs, q_cs_ge, q_cs_v, q_cs_n, q_cs_o, q_io, q_io_v, q_io_n, q_io_o, q_gSet, q_setK, q_gSetO, q_soK, q_gPat, q_patK, q_nxO, q_put_n, q_put_t, q_sa_c, q_sa_n, q_gX, q_xK, q_gRet, q_rtK, q_gRetO, q_roK, q_gRetS, q_rsK, q_gIf, q_giK, q_apJ, q_gApp, q_apK, q_exJ, q_gExt, q_exK, q_siJ, q_siI, q_gSetI, q_siK, q_gFor, q_foJ, q_foK, q_gForR1, q_gForR2, q_fr2J, q_gFrz, q_fzK_o, q_fzK_v, q_gNo, q_end_n, q_end_r, q_end_x, q_for_n, q_st_n, q_st_r, q_st_x, atI_0, atI_1, atI_2, atI_3, List.length_cons, List.length_nil, List.cons_append, List.nil_append, List.getElem?_cons_zero, List.getElem?_cons_succ, List.getElem?_nil, List.set_cons_zero, List.set_cons_succ, List.take_succ_cons, List.take_zero, List.replicate_succ, List.replicate_zero, Option.map_some, Option.map_none, List.nodup_cons, List.nodup_nil, List.mem_cons, List.not_mem_nil, List.all_cons, List.all_nil, ltB, leB, gtB, geB, decide_eq_true_eq, ↓reduceIte, decide_true, decide_false, Bool.and_true, Bool.true_and, not_false_eq_true, and_self, and_true, true_and, Nat.reduceSub, Nat.reduceAdd, Nat.reduceLeDiff, Bool.false_eq_true, q_abs10, List.length_map, Nat.reduceLT, q_cast0, q_cast1, q_cast2, q_cast3, q_cast4, q_cast5, q_cast6, q_cast7, q_cast8, q_cast9, Int.reduceToNat, Int.reduceLT, Int.reduceLE, Int.reduceAdd, Int.reduceSub, Int.reduceNeg, Int.reduceMul, Int.toNat_one, Int.toNat_zero, or_true, true_or])
local macro_rules | `(tactic| walk_at "evs") => `(tactic| simp -implicitDefEqProofs only [*, List.length_range, lv_int, lv_bl, lv_non, lv20_ints, lv20_nil, eqD_int, eqD_str, eqD_bl, eqD_ints, eqD_nil_r, inD_ints, flat_ints, flat_int, flat_str, inD_cons, inD_nil, eqF_str, Option.getD_some, Option.getD_none, Int.reduceEq, decide_true, decide_false, Bool.not_true, Bool.not_false, Bool.false_and, Bool.and_false, Bool.or_false, Bool.or_true, Bool.false_or, Bool.true_or, decide_not, Bool.not_eq_true, ne_eq, not_true_eq_false, or_false, false_or, and_false, false_and, if_true, if_false, ite_true, ite_false, eq_self, wo_0, wn_0_1, wn_0_2, wo_1, wn_1_0, wn_1_2, wo_2, wn_2_0, wn_2_1, wt_SIZES_0, wt_SIZES_1, wt_SIZES_2, q_bind_ok, q_mk0, q_mk1, q_mk2, q_mk3, q_mk4, q_mk5, q_mk6, q_bind_ex, q_gB_ok, q_gB_ex, q_seq_nx, q_seq_rt, q_seq_bk, q_seq_ex, q_k, q_nm, q_nm_v, q_nm_o, q_mv, q_mv_v, q_mv_o, q_e2, q_e2K, q_e1, q_plus_i, q_plus_t, q_plus_l, q_times_c, q_sub_i, q_mod_i, q_fdiv_i, q_pow1018, q_neg_i, q_sl_o, q_rdL_s, q_rdL_l, q_rdL_f, q_rdS_t, q_rdS_l, q_rdS_f, q_rdS_s, q_rdN_l, q_rdN_s, q_rdF_l, q_rdF_f, q_vO_i, q_vO_b, q_vO_x, q_vO_n, q_vO_t, q_vO_l, q_vO_f, q_vO_s, q_ix, q_ixK, q_ixJ, q_len, q_lenK, q_tupOf, q_tupK, q_intB, q_sli_t, q_sli_l, q_sli_f, q_cmp, q_eq, q_eqK, q_in, q_inK, q_isN_n, q_isN_i, q_isN_b, q_isN_x, q_isN_t, q_isN_l, q_isN_s, q_isi, q_isiK, q_isiJ, q_kget, q_B, q_bK, q_tV, q_tvO, q_tNot, q_ntK, q_tAnd, q_tAK, q_tOr, q_tOK, q_tCh, q_chJ, q_chK, q_chL, q_if, q_ifK, q_and, q_or, q_andK, q_orK, q_aNil, q_aCons, q_aK, q_aL, q_allD_n, q_allD_c, q_tup, q_tupJ, q_dsp, q_dspJ, q_list, q_lstJ, q_slO, q_cat_l, q_fr, q_frK, q_pN, q_pS, q_psO, q_Sl, q_SlK, q_SlJ, q_sset, q_ssK, q_sort, q_srK, q_call, q_callK, q_callJ, q_callX, q_ts_n, q_ts_d, q_ts_s, q_tsK, q_sv_n, q_sv_d, q_sv_s, q_wb_n, q_wb_d, q_wb_s, q_frS_v, q_frS_o, q_owS, q_gNil, q_gSeq, q_cs, q_cs_ge, q_cs_v, q_cs_n, q_cs_o, q_io, q_io_v, q_io_n, q_io_o, q_gSet, q_setK, q_gSetO, q_soK, q_gPat, q_patK, q_nxO, q_put_n, q_put_t, q_sa_c, q_sa_n, q_gX, q_xK, q_gRet, q_rtK, q_gRetO, q_roK, q_gRetS, q_rsK, q_gIf, q_giK, q_apJ, q_gApp, q_apK, q_exJ, q_gExt, q_exK, q_siJ, q_siI, q_gSetI, q_siK, q_gFor, q_foJ, q_foK, q_gForR1, q_gForR2, q_fr2J, q_gFrz, q_fzK_o, q_fzK_v, q_gNo, q_end_n, q_end_r, q_end_x, q_for_n, q_st_n, q_st_r, q_st_x, atI_0, atI_1, atI_2, atI_3, List.length_cons, List.length_nil, List.cons_append, List.nil_append, List.getElem?_cons_zero, List.getElem?_cons_succ, List.getElem?_nil, List.set_cons_zero, List.set_cons_succ, List.take_succ_cons, List.take_zero, List.replicate_succ, List.replicate_zero, Option.map_some, Option.map_none, List.nodup_cons, List.nodup_nil, List.mem_cons, List.not_mem_nil, List.all_cons, List.all_nil, ltB, leB, gtB, geB, decide_eq_true_eq, ↓reduceIte, decide_true, decide_false, Bool.and_true, Bool.true_and, not_false_eq_true, and_self, and_true, true_and, Nat.reduceSub, Nat.reduceAdd, Nat.reduceLeDiff, Bool.false_eq_true, q_abs10, List.length_map, Nat.reduceLT, q_cast0, q_cast1, q_cast2, q_cast3, q_cast4, q_cast5, q_cast6, q_cast7, q_cast8, q_cast9, Int.reduceToNat, Int.reduceLT, Int.reduceLE, Int.reduceAdd, Int.reduceSub, Int.reduceNeg, Int.reduceMul, Int.toNat_one, Int.toNat_zero, or_true, true_or])
/-! ### the law's own may, left -/
def outN (n : Nat) (done : List Int) : List Int := done.filter fun a => !(decide (0 ≤ a) && decide (a < (n : Int)))
def lackN (s : AS) (done : List Int) (a : Int) : List Int := (s.found.getD a.toNat []).filter fun b => !decide (b ∈ done)
def lawMayN (ds : List Dd) (done : List Int) : Bool := decide (done = sortU done) && (decide (outN (aheadN ds).found.length done = []) && ((nats (aheadN ds).fixed).all (fun a => decide (a ∈ done)) && done.all fun a => decide (lackN (aheadN ds) done a = [])))
theorem fold_short : ∀ (ds : List Dd) {s : AS} {i : Nat}, AOk s i → i + ds.length ≤ 60 → (∀ l ∈ s.found, l.length ≤ 100000) → ∀ l ∈ (ds.foldl stepA s).found, l.length ≤ 100000
  | [], s, i, _, _, h => h
  | d :: ds, s, i, ok, hi, h => by
    rw [List.foldl_cons]
    rw [List.length_cons] at hi
    refine fold_short ds (ok.step d) (by omega) fun l hl => ?_
    cases d with
    | wr b v =>
      rcases List.mem_append.mp hl with e | e
      · exact h l e
      · rw [List.mem_singleton.mp e]
        refine Nat.le_trans (sortU_len _) ?_
        have h1 : (sameN s.met b).length ≤ s.met.length := by
          have := List.length_filter_le (fun a => decide (s.met.getD a.toNat 0 = b)) (nats s.met.length)
          simpa [sameN] using this
        have h2 := ok.m
        have h3 := ok.c
        rw [List.length_append, List.length_map, List.length_range]
        omega
    | wall => exact h l hl
    | sync => exact h l hl
theorem law_may_ok {ds : List Dd} {done : List Int} (h : ds.length ≤ 60) (hd : done.length < 64) :
    f_law_may [.v (dsD ds), .v (intsD done)] = .ok (.v (.bl (lawMayN ds done))) [.v (dsD ds), .v (intsD done)] := by
  have h1 := ahead_ok h
  obtain ⟨k1, k2, k3, k4⟩ := aheadN_ok ds
  have hfd : ∀ l ∈ (aheadN ds).found, l.length ≤ 100000 := fold_short ds (s := ⟨[], [], 0, 0⟩) (i := 0) ⟨rfl, Nat.le_refl _, Nat.le_refl _, Nat.le_refl _⟩ (by omega) (by simp)
  unfold f_law_may g_law_may lawMayN
  generalize aheadN ds = s at *
  obtain ⟨fd, mt, ct, fx⟩ := s
  simp only at *
  have q := @q_ssK (ns := done)
  have hsl : (sortU done).length < 64 := Nat.lt_of_le_of_lt (sortU_len done) hd
  have hd2 : done.length ≤ 1000 := by omega
  have hd3 : done.length ≤ 100000 := by omega
  have q2 := @q_lcLK 2 [5] (.nm 5)
  have q3 := @q_fr1N 2 4
  have hfx : fx ≤ 1000000 := by omega
  by_cases hs : done = sortU done
  · have hs2 : sortU done = done := hs.symm
    clear hs hsl
    have lc := @lc_map Int 2 [5] (.nm 5) (FL.tNot (tCh leB ltB (eK (.int 0)) (eNm 5) (FL.e1 lenO (eNm 2)))) (eNm 5) Dat.int (fun a => !(decide (0 ≤ a) && decide (a < (fd.length : Int)))) Dat.int [Sv.v (dsD ds), Sv.v (intsD done), Sv.v (.lst (fd.map intsD)), Sv.v (.int fx), Sv.no, Sv.no] rfl done [] fun a _ => by
      refine ⟨[Sv.v (dsD ds), Sv.v (intsD done), Sv.v (.lst (fd.map intsD)), Sv.v (.int fx), Sv.no, Sv.v (.int a)], rfl, ?_, fun _ => rfl, rfl, rfl⟩
      clear h1 q q2 q3 hs2 k1 k2 k3 k4 hfd
      by_cases h5 : 0 ≤ a
      · walk_at "evs"
      · walk_at "evs"
    rw [List.nil_append] at lc
    have e6 : done.filter (fun a => !(decide (0 ≤ a) && decide (a < (fd.length : Int)))) = outN fd.length done := rfl
    rw [e6] at lc
    clear e6
    by_cases ho : outN fd.length done = []
    · rw [ho, List.map_nil] at lc
      have hr : ∀ a ∈ done, 0 ≤ a ∧ a < (fd.length : Int) := fun a ha => by
        have := List.filter_eq_nil_iff.mp ho a ha
        simpa using this
      clear k1 k2 k3 k4 h
      walk_at "evs"
      obtain ⟨z, hz⟩ := for_all (np := 2) (p := .nm 4) (g := gIf (FL.e2 (inO true) (eNm 4) (eNm 1)) (gRet (eK (.bl false))) FL.gNil) (enc := Dat.int) (E := fun (z : Sv) => [Sv.v (dsD ds), Sv.v (intsD done), Sv.v (.lst (fd.map intsD)), Sv.v (.int fx), z, Sv.no]) (good := fun a => decide (a ∈ done)) (r := .v (.bl false)) (nats fx) Sv.no fun z a _ => by
        refine ⟨[Sv.v (dsD ds), Sv.v (intsD done), Sv.v (.lst (fd.map intsD)), Sv.v (.int fx), Sv.v (.int a), Sv.no], by walk_at "ev", Sv.v (.int a), ?_⟩
        clear h1 q q2 q3 hs2 lc ho hr hfd
        by_cases h5 : a ∈ done
        · walk_at "evs"
        · walk_at "evs"
      rw [hz]
      cases hall : (nats fx).all fun a => decide (a ∈ done) with
      | false => walk_at "ev"
      | true =>
        clear q q3 hs2 lc ho hz hall h1
        walk_at "ev"
        generalize hg : gIf _ _ _ = gg
        obtain ⟨z2, hz2⟩ := for_all (np := 2) (p := .nm 4) (g := gg) (enc := Dat.int) (E := fun (z : Sv) => [Sv.v (dsD ds), Sv.v (intsD done), Sv.v (.lst (fd.map intsD)), Sv.v (.int fx), z, Sv.no]) (good := fun a => decide (lackN ⟨fd, mt, ct, fx⟩ done a = [])) (r := .v (.bl false)) done z fun z a ha => by
          obtain ⟨a0, a1⟩ := hr a ha
          obtain ⟨k, rfl⟩ := Int.eq_ofNat_of_zero_le a0
          have hk : k < fd.length := by omega
          have a2 : atI (fd.map intsD) (k : Int) = some (intsD (fd.getD k [])) := by rw [FL.atI_nat]; simp [hk]
          refine ⟨[Sv.v (dsD ds), Sv.v (intsD done), Sv.v (.lst (fd.map intsD)), Sv.v (.int fx), Sv.v (.int k), Sv.no], by walk_at "ev", Sv.v (.int k), ?_⟩
          subst hg
          have lc := @lc_map Int 2 [5] (.nm 5) (FL.e2 (inO true) (eNm 5) (eNm 1)) (eNm 5) Dat.int (fun b => !decide (b ∈ done)) Dat.int [Sv.v (dsD ds), Sv.v (intsD done), Sv.v (.lst (fd.map intsD)), Sv.v (.int fx), Sv.v (.int k), Sv.no] rfl (fd.getD k []) [] fun b _ => by
            refine ⟨[Sv.v (dsD ds), Sv.v (intsD done), Sv.v (.lst (fd.map intsD)), Sv.v (.int fx), Sv.v (.int k), Sv.v (.int b)], rfl, ?_, fun _ => rfl, rfl, rfl⟩
            clear a2 hk a0 a1 ha hr
            walk_at "ev"
          have e6 : (fd.getD k []).filter (fun b => !decide (b ∈ done)) = lackN ⟨fd, mt, ct, fx⟩ done (k : Int) := by unfold lackN; rw [Int.toNat_natCast]
          rw [e6, List.nil_append] at lc
          have hfl : (fd.getD k []).length ≤ 100000 := hfd _ (by
            have : fd.getD k [] = fd[k] := by simp [hk]
            rw [this]; exact List.getElem_mem hk)
          clear a0 a1 ha hr hk e6 hfd
          by_cases h5 : lackN ⟨fd, mt, ct, fx⟩ done (k : Int) = []
          · rw [h5, List.map_nil] at lc
            walk_at "evs"
          · have h6 : ¬ (lackN ⟨fd, mt, ct, fx⟩ done (k : Int)).map Dat.int = [] := fun c => h5 (List.map_eq_nil_iff.mp c)
            walk_at "evs"
        rw [hz2]
        cases done.all fun a => decide (lackN ⟨fd, mt, ct, fx⟩ done a = []) <;> walk_at "ev"
    · have ho2 : ¬ (outN fd.length done).map Dat.int = [] := fun c => ho (List.map_eq_nil_iff.mp c)
      clear k1 k2 k3 k4 h
      walk_at "evs"
  · walk_at "evs"
end Wk
set_option Elab.async false
set_option linter.all false
set_option autoImplicit false
set_option maxRecDepth 100000
set_option maxHeartbeats 4000000
namespace Wk
open PySem PySem.Spec PyProof.Rows L2 DL FL
local macro_rules | `(tactic| walk_at "ev") => `(tactic| simp -implicitDefEqProofs only [List.length_range, lv_int, lv_bl, lv_non, lv20_ints, lv20_nil, eqD_int, eqD_str, eqD_bl, eqD_ints, eqD_nil_r, inD_ints, flat_ints, flat_int, flat_str, inD_cons, inD_nil, eqF_str, Option.getD_some, Option.getD_none, Int.reduceEq, decide_true, decide_false, Bool.not_true, Bool.not_false, Bool.false_and, Bool.and_false, Bool.or_false, Bool.or_true, Bool.false_or, Bool.true_or, decide_not, Bool.not_eq_true, ne_eq, not_true_eq_false, or_false, false_or, and_false, false_and, if_true, if_false, ite_true, ite_false, eq_self, wo_0, wn_0_1, wn_0_2, wo_1, wn_1_0, wn_1_2, wo_2, wn_2_0, wn_2_1, wt_SIZES_0, wt_SIZES_1, wt_SIZES_2, q_bind_ok, q_mk0, q_mk1, q_mk2, q_mk3, q_mk4, q_mk5, q_mk6, q_bind_ex, q_gB_ok, q_gB_ex, q_seq_nx, q_seq_rt, q_seq_bk, q_seq_ex, q_k, q_nm, q_nm_v, q_nm_o, q_mv, q_mv_v, q_mv_o, q_e2, q_e2K, q_e1, q_plus_i, q_plus_t, q_plus_l, q_times_c, q_sub_i, q_mod_i, q_fdiv_i, q_pow1018, q_neg_i, q_sl_o, q_rdL_s, q_rdL_l, q_rdL_f, q_rdS_t, q_rdS_l, q_rdS_f, q_rdS_s, q_rdN_l, q_rdN_s, q_rdF_l, q_rdF_f, q_vO_i, q_vO_b, q_vO_x, q_vO_n, q_vO_t, q_vO_l, q_vO_f, q_vO_s, q_ix, q_ixK, q_ixJ, q_len, q_lenK, q_tupOf, q_tupK, q_intB, q_sli_t, q_sli_l, q_sli_f, q_cmp, q_eq, q_eqK, q_in, q_inK, q_isN_n, q_isN_i, q_isN_b, q_isN_x, q_isN_t, q_isN_l, q_isN_s, q_isi, q_isiK, q_isiJ, q_kget, q_B, q_bK, q_tV, q_tvO, q_tNot, q_ntK, q_tAnd, q_tAK, q_tOr, q_tOK, q_tCh, q_chJ, q_chK, q_chL, q_if, q_ifK, q_and, q_or, q_andK, q_orK, q_aNil, q_aCons, q_aK, q_aL, q_allD_n, q_allD_c, q_tup, q_tupJ, q_dsp, q_dspJ, q_list, q_lstJ, q_slO, q_cat_l, q_fr, q_frK, q_pN, q_pS, q_psO, q_Sl, q_SlK, q_SlJ, q_sset, q_ssK, q_sort, q_srK, q_call, q_callK, q_callJ, q_callX, q_ts_n, q_ts_d, q_ts_s, q_tsK, q_sv_n, q_sv_d, q_sv_s, q_wb_n, q_wb_d, q_wb_s, q_frS_v, q_frS_o, q_owS, q_gNil, q_gSeq, q_cs, q_cs_ge, q_cs_v, q_cs_n, q_cs_o, q_io, q_io_v, q_io_n, q_io_o, q_gSet, q_setK, q_gSetO, q_soK, q_gPat, q_patK, q_nxO, q_put_n, q_put_t, q_sa_c, q_sa_n, q_gX, q_xK, q_gRet, q_rtK, q_gRetO, q_roK, q_gRetS, q_rsK, q_gIf, q_giK, q_apJ, q_gApp, q_apK, q_exJ, q_gExt, q_exK, q_siJ, q_siI, q_gSetI, q_siK, q_gFor, q_foJ, q_foK, q_gForR1, q_gForR2, q_fr2J, q_gFrz, q_fzK_o, q_fzK_v, q_gNo, q_end_n, q_end_r, q_end_x, q_for_n, q_st_n, q_st_r, q_st_x, atI_0, atI_1, atI_2, atI_3, List.length_cons, List.length_nil, List.cons_append, List.nil_append, List.getElem?_cons_zero, List.getElem?_cons_succ, List.getElem?_nil, List.set_cons_zero, List.set_cons_succ, List.take_succ_cons, List.take_zero, List.replicate_succ, List.replicate_zero, Option.map_some, Option.map_none, List.nodup_cons, List.nodup_nil, List.mem_cons, List.not_mem_nil, List.all_cons, List.all_nil, ltB, leB, gtB, geB, decide_eq_true_eq, ↓reduceIte, decide_true, decide_false, Bool.and_true, Bool.true_and, not_false_eq_true, and_self, and_true, true_and, Nat.reduceSub, Nat.reduceAdd, Nat.reduceLeDiff, Bool.false_eq_true, q_abs10, List.length_map, Nat.reduceLT, q_cast0, q_cast1, q_cast2, q_cast3, q_cast4, q_cast5, q_cast6, q_cast7, q_cast8, q_cast9, Int.reduceToNat, Int.reduceLT, Int.reduceLE, Int.reduceAdd, Int.reduceSub, Int.reduceNeg, Int.reduceMul, Int.toNat_one, Int.toNat_zero, or_true, true_or])
local macro_rules | `(tactic| walk_at "evs") => `(tactic| simp -implicitDefEqProofs only [*, List.length_range, lv_int, lv_bl, lv_non, lv20_ints, lv20_nil, eqD_int, eqD_str, eqD_bl, eqD_ints, eqD_nil_r, inD_ints, flat_ints, flat_int, flat_str, inD_cons, inD_nil, eqF_str, Option.getD_some, Option.getD_none, Int.reduceEq, decide_true, decide_false, Bool.not_true, Bool.not_false, Bool.false_and, Bool.and_false, Bool.or_false, Bool.or_true, Bool.false_or, Bool.true_or, decide_not, Bool.not_eq_true, ne_eq, not_true_eq_false, or_false, false_or, and_false, false_and, if_true, if_false, ite_true, ite_false, eq_self, wo_0, wn_0_1, wn_0_2, wo_1, wn_1_0, wn_1_2, wo_2, wn_2_0, wn_2_1, wt_SIZES_0, wt_SIZES_1, wt_SIZES_2, q_bind_ok, q_mk0, q_mk1, q_mk2, q_mk3, q_mk4, q_mk5, q_mk6, q_bind_ex, q_gB_ok, q_gB_ex, q_seq_nx, q_seq_rt, q_seq_bk, q_seq_ex, q_k, q_nm, q_nm_v, q_nm_o, q_mv, q_mv_v, q_mv_o, q_e2, q_e2K, q_e1, q_plus_i, q_plus_t, q_plus_l, q_times_c, q_sub_i, q_mod_i, q_fdiv_i, q_pow1018, q_neg_i, q_sl_o, q_rdL_s, q_rdL_l, q_rdL_f, q_rdS_t, q_rdS_l, q_rdS_f, q_rdS_s, q_rdN_l, q_rdN_s, q_rdF_l, q_rdF_f, q_vO_i, q_vO_b, q_vO_x, q_vO_n, q_vO_t, q_vO_l, q_vO_f, q_vO_s, q_ix, q_ixK, q_ixJ, q_len, q_lenK, q_tupOf, q_tupK, q_intB, q_sli_t, q_sli_l, q_sli_f, q_cmp, q_eq, q_eqK, q_in, q_inK, q_isN_n, q_isN_i, q_isN_b, q_isN_x, q_isN_t, q_isN_l, q_isN_s, q_isi, q_isiK, q_isiJ, q_kget, q_B, q_bK, q_tV, q_tvO, q_tNot, q_ntK, q_tAnd, q_tAK, q_tOr, q_tOK, q_tCh, q_chJ, q_chK, q_chL, q_if, q_ifK, q_and, q_or, q_andK, q_orK, q_aNil, q_aCons, q_aK, q_aL, q_allD_n, q_allD_c, q_tup, q_tupJ, q_dsp, q_dspJ, q_list, q_lstJ, q_slO, q_cat_l, q_fr, q_frK, q_pN, q_pS, q_psO, q_Sl, q_SlK, q_SlJ, q_sset, q_ssK, q_sort, q_srK, q_call, q_callK, q_callJ, q_callX, q_ts_n, q_ts_d, q_ts_s, q_tsK, q_sv_n, q_sv_d, q_sv_s, q_wb_n, q_wb_d, q_wb_s, q_frS_v, q_frS_o, q_owS, q_gNil, q_gSeq, q_cs, q_cs_ge, q_cs_v, q_cs_n, q_cs_o, q_io, q_io_v, q_io_n, q_io_o, q_gSet, q_setK, q_gSetO, q_soK, q_gPat, q_patK, q_nxO, q_put_n, q_put_t, q_sa_c, q_sa_n, q_gX, q_xK, q_gRet, q_rtK, q_gRetO, q_roK, q_gRetS, q_rsK, q_gIf, q_giK, q_apJ, q_gApp, q_apK, q_exJ, q_gExt, q_exK, q_siJ, q_siI, q_gSetI, q_siK, q_gFor, q_foJ, q_foK, q_gForR1, q_gForR2, q_fr2J, q_gFrz, q_fzK_o, q_fzK_v, q_gNo, q_end_n, q_end_r, q_end_x, q_for_n, q_st_n, q_st_r, q_st_x, atI_0, atI_1, atI_2, atI_3, List.length_cons, List.length_nil, List.cons_append, List.nil_append, List.getElem?_cons_zero, List.getElem?_cons_succ, List.getElem?_nil, List.set_cons_zero, List.set_cons_succ, List.take_succ_cons, List.take_zero, List.replicate_succ, List.replicate_zero, Option.map_some, Option.map_none, List.nodup_cons, List.nodup_nil, List.mem_cons, List.not_mem_nil, List.all_cons, List.all_nil, ltB, leB, gtB, geB, decide_eq_true_eq, ↓reduceIte, decide_true, decide_false, Bool.and_true, Bool.true_and, not_false_eq_true, and_self, and_true, true_and, Nat.reduceSub, Nat.reduceAdd, Nat.reduceLeDiff, Bool.false_eq_true, q_abs10, List.length_map, Nat.reduceLT, q_cast0, q_cast1, q_cast2, q_cast3, q_cast4, q_cast5, q_cast6, q_cast7, q_cast8, q_cast9, Int.reduceToNat, Int.reduceLT, Int.reduceLE, Int.reduceAdd, Int.reduceSub, Int.reduceNeg, Int.reduceMul, Int.toNat_one, Int.toNat_zero, or_true, true_or])
theorem law_left_ok {B : Nat} {ws : List (Int × Int)} {done : List Int} (hB : B ≤ 1000) (hd : ∀ a ∈ done, 0 ≤ a ∧ a < (ws.length : Int)) (hw : ∀ w ∈ ws, 0 ≤ w.1 ∧ w.1 < (B : Int)) :
    f_law_left [.v (.int B), .v (wsD ws), .v (intsD done)] = .ok (.v (.tup ((valsN B (pick ws done)).map Dat.int))) [.v (.int B), .v (wsD ws), .v (intsD done)] := by
  have q := @q_lcR1N 3 [5] (.nm 5)
  have hB2 : B ≤ 100000 := by omega
  have lc := @lc_map Int 3 [5] (.nm 5) FL.tYes (eK (.int 0)) Dat.int (fun _ => true) (fun _ => Dat.int 0) [Sv.v (.int B), Sv.v (wsD ws), Sv.v (intsD done), Sv.no, Sv.no, Sv.no] rfl ((List.range B).map fun (k : Nat) => (k : Int)) [] fun a _ => ⟨[Sv.v (.int B), Sv.v (wsD ws), Sv.v (intsD done), Sv.no, Sv.no, Sv.v (.int a)], rfl, rfl, fun _ => rfl, rfl, rfl⟩
  have e2 : ((((List.range B).map fun (k : Nat) => (k : Int)).filter fun _ => true).map fun _ => Dat.int 0) = (List.replicate B (0 : Int)).map Dat.int := by
    rw [List.filter_eq_self.mpr (fun _ _ => rfl), List.map_map, List.map_replicate]
    show (List.range B).map (fun _ => Dat.int 0) = _
    rw [List.map_const', List.length_range]
  rw [e2, List.nil_append] at lc
  clear e2
  unfold f_law_left g_law_left
  have keep : (∀ a ∈ done, 0 ≤ a ∧ a < (ws.length : Int)) ∧ ∀ w ∈ ws, 0 ≤ w.1 ∧ w.1 < (B : Int) := ⟨hd, hw⟩
  clear hd hw
  revert keep
  walk_at "evs"
  intro keep
  obtain ⟨hd, hw⟩ := keep
  generalize hg : gSetI 3 _ _ = gg
  obtain ⟨z, hz⟩ := for_st (np := 3) (p := .nm 4) (g := gg) (enc := Dat.int) (as := done) (E := fun (f : List Int) (z : Sv) => [Sv.v (.int B), Sv.v (wsD ws), Sv.v (intsD done), Sv.own (f.map Dat.int), z, Sv.no]) (step := fun f a => setW f (ws.getD a.toNat (0, 0))) (List.replicate B 0) Sv.no fun i a z hi => by
    have hl : ((done.take i).foldl (fun f a => setW f (ws.getD a.toNat (0, 0))) (List.replicate B 0)).length = B := by
      have : ∀ (l : List Int) (f : List Int), (l.foldl (fun f a => setW f (ws.getD a.toNat (0, 0))) f).length = f.length := fun l => by
        induction l with
        | nil => intro f; rfl
        | cons x r ih => intro f; rw [List.foldl_cons, ih]; unfold setW; simp
      rw [this, List.length_replicate]
    generalize (done.take i).foldl (fun f a => setW f (ws.getD a.toNat (0, 0))) (List.replicate B 0) = f at hl ⊢
    obtain ⟨a0, a1⟩ := hd a (List.mem_of_getElem? hi)
    obtain ⟨k, rfl⟩ := Int.eq_ofNat_of_zero_le a0
    have hk : k < ws.length := by omega
    have a2 := atI_ws (ws := ws) (k := k) hk
    have e1 : ws.getD k (0, 0) = ws[k] := by simp [hk]
    obtain ⟨h1, h2⟩ := hw _ (List.getElem_mem hk)
    rw [← e1] at h1 h2
    have h3 : (ws.getD k (0, 0)).1 < (f.length : Int) := by rw [hl]; exact h2
    refine ⟨[Sv.v (.int B), Sv.v (wsD ws), Sv.v (intsD done), Sv.own (f.map Dat.int), Sv.v (.int k), Sv.no], by walk_at "ev", Sv.v (.int k), ?_⟩
    subst hg
    unfold blk at a2
    rw [Int.toNat_natCast] at a2 ⊢
    clear q lc hd hw hi e1 a0 a1 hk h2 hl
    unfold setW
    rw [List.map_set]
    generalize ws.getD k (0, 0) = w at *
    walk_at "evs"
  have hz' : forGo 3 (.nm 4) gg (done.map Dat.int) [Sv.v (.int B), Sv.v (wsD ws), Sv.v (intsD done), Sv.own ((List.replicate B (0 : Int)).map Dat.int), Sv.no, Sv.no] = _ := hz
  rw [hz']
  walk_at "ev"
  have e : done.foldl (fun f a => setW f (ws.getD a.toNat (0, 0))) (List.replicate B 0) = valsN B (pick ws done) := by
    unfold valsN pick
    rw [List.foldl_map]
  rw [e]
end Wk
set_option Elab.async false
set_option linter.all false
set_option autoImplicit false
set_option maxRecDepth 100000
set_option maxHeartbeats 4000000
namespace Wk
open PySem PySem.Spec PyProof.Rows L2 DL FL
local macro_rules | `(tactic| walk_at "ev") => `(tactic| simp -implicitDefEqProofs only [List.length_range, lv_int, lv_bl, lv_non, lv20_ints, lv20_nil, eqD_int, eqD_str, eqD_bl, eqD_ints, eqD_nil_r, inD_ints, flat_ints, flat_int, flat_str, inD_cons, inD_nil, eqF_str, Option.getD_some, Option.getD_none, Int.reduceEq, decide_true, decide_false, Bool.not_true, Bool.not_false, Bool.false_and, Bool.and_false, Bool.or_false, Bool.or_true, Bool.false_or, Bool.true_or, decide_not, Bool.not_eq_true, ne_eq, not_true_eq_false, or_false, false_or, and_false, false_and, if_true, if_false, ite_true, ite_false, eq_self, wo_0, wn_0_1, wn_0_2, wo_1, wn_1_0, wn_1_2, wo_2, wn_2_0, wn_2_1, wt_SIZES_0, wt_SIZES_1, wt_SIZES_2, q_bind_ok, q_mk0, q_mk1, q_mk2, q_mk3, q_mk4, q_mk5, q_mk6, q_bind_ex, q_gB_ok, q_gB_ex, q_seq_nx, q_seq_rt, q_seq_bk, q_seq_ex, q_k, q_nm, q_nm_v, q_nm_o, q_mv, q_mv_v, q_mv_o, q_e2, q_e2K, q_e1, q_plus_i, q_plus_t, q_plus_l, q_times_c, q_sub_i, q_mod_i, q_fdiv_i, q_pow1018, q_neg_i, q_sl_o, q_rdL_s, q_rdL_l, q_rdL_f, q_rdS_t, q_rdS_l, q_rdS_f, q_rdS_s, q_rdN_l, q_rdN_s, q_rdF_l, q_rdF_f, q_vO_i, q_vO_b, q_vO_x, q_vO_n, q_vO_t, q_vO_l, q_vO_f, q_vO_s, q_ix, q_ixK, q_ixJ, q_len, q_lenK, q_tupOf, q_tupK, q_intB, q_sli_t, q_sli_l, q_sli_f, q_cmp, q_eq, q_eqK, q_in, q_inK, q_isN_n, q_isN_i, q_isN_b, q_isN_x, q_isN_t, q_isN_l, q_isN_s, q_isi, q_isiK, q_isiJ, q_kget, q_B, q_bK, q_tV, q_tvO, q_tNot, q_ntK, q_tAnd, q_tAK, q_tOr, q_tOK, q_tCh, q_chJ, q_chK, q_chL, q_if, q_ifK, q_and, q_or, q_andK, q_orK, q_aNil, q_aCons, q_aK, q_aL, q_allD_n, q_allD_c, q_tup, q_tupJ, q_dsp, q_dspJ, q_list, q_lstJ, q_slO, q_cat_l, q_fr, q_frK, q_pN, q_pS, q_psO, q_Sl, q_SlK, q_SlJ, q_sset, q_ssK, q_sort, q_srK, q_call, q_callK, q_callJ, q_callX, q_ts_n, q_ts_d, q_ts_s, q_tsK, q_sv_n, q_sv_d, q_sv_s, q_wb_n, q_wb_d, q_wb_s, q_frS_v, q_frS_o, q_owS, q_gNil, q_gSeq, q_cs, q_cs_ge, q_cs_v, q_cs_n, q_cs_o, q_io, q_io_v, q_io_n, q_io_o, q_gSet, q_setK, q_gSetO, q_soK, q_gPat, q_patK, q_nxO, q_put_n, q_put_t, q_sa_c, q_sa_n, q_gX, q_xK, q_gRet, q_rtK, q_gRetO, q_roK, q_gRetS, q_rsK, q_gIf, q_giK, q_apJ, q_gApp, q_apK, q_exJ, q_gExt, q_exK, q_siJ, q_siI, q_gSetI, q_siK, q_gFor, q_foJ, q_foK, q_gForR1, q_gForR2, q_fr2J, q_gFrz, q_fzK_o, q_fzK_v, q_gNo, q_end_n, q_end_r, q_end_x, q_for_n, q_st_n, q_st_r, q_st_x, atI_0, atI_1, atI_2, atI_3, List.length_cons, List.length_nil, List.cons_append, List.nil_append, List.getElem?_cons_zero, List.getElem?_cons_succ, List.getElem?_nil, List.set_cons_zero, List.set_cons_succ, List.take_succ_cons, List.take_zero, List.replicate_succ, List.replicate_zero, Option.map_some, Option.map_none, List.nodup_cons, List.nodup_nil, List.mem_cons, List.not_mem_nil, List.all_cons, List.all_nil, ltB, leB, gtB, geB, decide_eq_true_eq, ↓reduceIte, decide_true, decide_false, Bool.and_true, Bool.true_and, not_false_eq_true, and_self, and_true, true_and, Nat.reduceSub, Nat.reduceAdd, Nat.reduceLeDiff, Bool.false_eq_true, q_abs10, List.length_map, Nat.reduceLT, q_cast0, q_cast1, q_cast2, q_cast3, q_cast4, q_cast5, q_cast6, q_cast7, q_cast8, q_cast9, Int.reduceToNat, Int.reduceLT, Int.reduceLE, Int.reduceAdd, Int.reduceSub, Int.reduceNeg, Int.reduceMul, Int.toNat_one, Int.toNat_zero, or_true, true_or])
local macro_rules | `(tactic| walk_at "evs") => `(tactic| simp -implicitDefEqProofs only [*, List.length_range, lv_int, lv_bl, lv_non, lv20_ints, lv20_nil, eqD_int, eqD_str, eqD_bl, eqD_ints, eqD_nil_r, inD_ints, flat_ints, flat_int, flat_str, inD_cons, inD_nil, eqF_str, Option.getD_some, Option.getD_none, Int.reduceEq, decide_true, decide_false, Bool.not_true, Bool.not_false, Bool.false_and, Bool.and_false, Bool.or_false, Bool.or_true, Bool.false_or, Bool.true_or, decide_not, Bool.not_eq_true, ne_eq, not_true_eq_false, or_false, false_or, and_false, false_and, if_true, if_false, ite_true, ite_false, eq_self, wo_0, wn_0_1, wn_0_2, wo_1, wn_1_0, wn_1_2, wo_2, wn_2_0, wn_2_1, wt_SIZES_0, wt_SIZES_1, wt_SIZES_2, q_bind_ok, q_mk0, q_mk1, q_mk2, q_mk3, q_mk4, q_mk5, q_mk6, q_bind_ex, q_gB_ok, q_gB_ex, q_seq_nx, q_seq_rt, q_seq_bk, q_seq_ex, q_k, q_nm, q_nm_v, q_nm_o, q_mv, q_mv_v, q_mv_o, q_e2, q_e2K, q_e1, q_plus_i, q_plus_t, q_plus_l, q_times_c, q_sub_i, q_mod_i, q_fdiv_i, q_pow1018, q_neg_i, q_sl_o, q_rdL_s, q_rdL_l, q_rdL_f, q_rdS_t, q_rdS_l, q_rdS_f, q_rdS_s, q_rdN_l, q_rdN_s, q_rdF_l, q_rdF_f, q_vO_i, q_vO_b, q_vO_x, q_vO_n, q_vO_t, q_vO_l, q_vO_f, q_vO_s, q_ix, q_ixK, q_ixJ, q_len, q_lenK, q_tupOf, q_tupK, q_intB, q_sli_t, q_sli_l, q_sli_f, q_cmp, q_eq, q_eqK, q_in, q_inK, q_isN_n, q_isN_i, q_isN_b, q_isN_x, q_isN_t, q_isN_l, q_isN_s, q_isi, q_isiK, q_isiJ, q_kget, q_B, q_bK, q_tV, q_tvO, q_tNot, q_ntK, q_tAnd, q_tAK, q_tOr, q_tOK, q_tCh, q_chJ, q_chK, q_chL, q_if, q_ifK, q_and, q_or, q_andK, q_orK, q_aNil, q_aCons, q_aK, q_aL, q_allD_n, q_allD_c, q_tup, q_tupJ, q_dsp, q_dspJ, q_list, q_lstJ, q_slO, q_cat_l, q_fr, q_frK, q_pN, q_pS, q_psO, q_Sl, q_SlK, q_SlJ, q_sset, q_ssK, q_sort, q_srK, q_call, q_callK, q_callJ, q_callX, q_ts_n, q_ts_d, q_ts_s, q_tsK, q_sv_n, q_sv_d, q_sv_s, q_wb_n, q_wb_d, q_wb_s, q_frS_v, q_frS_o, q_owS, q_gNil, q_gSeq, q_cs, q_cs_ge, q_cs_v, q_cs_n, q_cs_o, q_io, q_io_v, q_io_n, q_io_o, q_gSet, q_setK, q_gSetO, q_soK, q_gPat, q_patK, q_nxO, q_put_n, q_put_t, q_sa_c, q_sa_n, q_gX, q_xK, q_gRet, q_rtK, q_gRetO, q_roK, q_gRetS, q_rsK, q_gIf, q_giK, q_apJ, q_gApp, q_apK, q_exJ, q_gExt, q_exK, q_siJ, q_siI, q_gSetI, q_siK, q_gFor, q_foJ, q_foK, q_gForR1, q_gForR2, q_fr2J, q_gFrz, q_fzK_o, q_fzK_v, q_gNo, q_end_n, q_end_r, q_end_x, q_for_n, q_st_n, q_st_r, q_st_x, atI_0, atI_1, atI_2, atI_3, List.length_cons, List.length_nil, List.cons_append, List.nil_append, List.getElem?_cons_zero, List.getElem?_cons_succ, List.getElem?_nil, List.set_cons_zero, List.set_cons_succ, List.take_succ_cons, List.take_zero, List.replicate_succ, List.replicate_zero, Option.map_some, Option.map_none, List.nodup_cons, List.nodup_nil, List.mem_cons, List.not_mem_nil, List.all_cons, List.all_nil, ltB, leB, gtB, geB, decide_eq_true_eq, ↓reduceIte, decide_true, decide_false, Bool.and_true, Bool.true_and, not_false_eq_true, and_self, and_true, true_and, Nat.reduceSub, Nat.reduceAdd, Nat.reduceLeDiff, Bool.false_eq_true, q_abs10, List.length_map, Nat.reduceLT, q_cast0, q_cast1, q_cast2, q_cast3, q_cast4, q_cast5, q_cast6, q_cast7, q_cast8, q_cast9, Int.reduceToNat, Int.reduceLT, Int.reduceLE, Int.reduceAdd, Int.reduceSub, Int.reduceNeg, Int.reduceMul, Int.toNat_one, Int.toNat_zero, or_true, true_or])
/-! ### drawn lists of writes -/
theorem some_ok {l : List Dat} (h : Dice l) {ds : List Dd} (hds : ds.length ≤ 60) : ∃ (done : List Int) (l' : List Dat), Dice l' ∧ done.length ≤ 61 ∧ f_law_some [.own l, .v (dsD ds)] = .ok (.v (intsD done)) [.own l', .v (dsD ds)] := by
  have h1 := ahead_ok hds
  obtain ⟨k1, k2, k3, k4⟩ := aheadN_ok ds
  have hfd : ∀ l ∈ (aheadN ds).found, l.length ≤ 100000 := fold_short ds (s := ⟨[], [], 0, 0⟩) (i := 0) ⟨rfl, Nat.le_refl _, Nat.le_refl _, Nat.le_refl _⟩ (by omega) (by simp)
  unfold f_law_some g_law_some
  generalize aheadN ds = s at *
  obtain ⟨fd, mt, ct, fx⟩ := s
  simp only at *
  obtain ⟨r1, l1, d1, a1, b1, c1⟩ := next_ok h (k := 6) (by omega) (by omega)
  have q3 := @q_fr1N 2 6
  have hl1 : fd.length ≤ 1000000 := by omega
  have hl2 : fd.length ≤ 60 := by omega
  clear k1 k2 k3 k4 h
  revert hl2
  walk_at "evs"
  intro hl2
  generalize hg : gSeq (gSet 2 7 _) _ = gg
  obtain ⟨e2, hz, lf, done, z6, z7, df, hlen, rfl⟩ := for_ex0 (np := 2) (p := .nm 6) (g := gg) (enc := Dat.int) (as := nats fd.length) (e := [Sv.own l1, Sv.v (dsD ds), Sv.v (.lst (fd.map intsD)), Sv.v (.int fx), Sv.v (.int (1 + r1)), Sv.own [], Sv.no, Sv.no, Sv.no, Sv.no, Sv.no])
    (J := fun i e => ∃ (l : List Dat) (done : List Int) (z6 z7 : Sv), Dice l ∧ done.length ≤ i ∧ e = [Sv.own l, Sv.v (dsD ds), Sv.v (.lst (fd.map intsD)), Sv.v (.int fx), Sv.v (.int (1 + r1)), Sv.own (done.map Dat.int), z6, z7, Sv.no, Sv.no, Sv.no]) ⟨l1, [], _, _, d1, by simp, rfl⟩ fun i a e hi ⟨l, done, z6, z7, dl, hlen, he⟩ => by
      subst he
      obtain ⟨hin, rfl⟩ := rg_get hi
      have a2 : atI (fd.map intsD) (i : Int) = some (intsD (fd.getD i [])) := by rw [FL.atI_nat]; simp [hin]
      have hfl : (fd.getD i []).length ≤ 100000 := hfd _ (by
        have : fd.getD i [] = fd[i] := by simp [hin]
        rw [this]; exact List.getElem_mem hin)
      obtain ⟨s1, m1, e1, x1, y1, n1⟩ := next_ok dl (k := 1 + r1) (by omega) (by omega)
      have q2 := @q_lcLK 2 [10] (.nm 10)
      refine ⟨[Sv.own l, Sv.v (dsD ds), Sv.v (.lst (fd.map intsD)), Sv.v (.int fx), Sv.v (.int (1 + r1)), Sv.own (done.map Dat.int), Sv.v (.int i), z7, Sv.no, Sv.no, Sv.no], by walk_at "ev", ?_⟩
      have lc := @lc_map Int 2 [10] (.nm 10) (FL.e2 (inO true) (eNm 10) (eNm 5)) (eNm 10) Dat.int (fun b => !decide (b ∈ done)) Dat.int [Sv.own l, Sv.v (dsD ds), Sv.v (.lst (fd.map intsD)), Sv.v (.int fx), Sv.v (.int (1 + r1)), Sv.own (done.map Dat.int), Sv.v (.int i), z7, Sv.no, Sv.no, Sv.no] rfl (fd.getD i []) [] fun b _ => by
        refine ⟨[Sv.own l, Sv.v (dsD ds), Sv.v (.lst (fd.map intsD)), Sv.v (.int fx), Sv.v (.int (1 + r1)), Sv.own (done.map Dat.int), Sv.v (.int i), z7, Sv.no, Sv.no, Sv.v (.int b)], rfl, ?_, fun _ => rfl, rfl, by cases z7 <;> rfl⟩
        walk_at "ev"
      rw [List.nil_append] at lc
      generalize (fd.getD i []).filter (fun b => !decide (b ∈ done)) = lk at lc
      subst hg
      have hl5 : done.length < 100000 := by omega
      have fin1 : done.length ≤ i + 1 ∧ (done ++ [(i : Int)]).length ≤ i + 1 := ⟨by omega, by simp; omega⟩
      clear h1 c1 q3 hl1 hi hin x1 y1 hfd hlen a1 b1 d1
      revert fin1 e1 dl
      by_cases g1 : lk = []
      · subst g1
        rw [List.map_nil] at lc
        by_cases g2 : (i : Int) < (fx : Int)
        · walk_at "evs"
          intro dl e1 fin1
          exact ⟨_, rfl, l, done ++ [(i : Int)], _, _, dl, fin1.2, by rw [List.map_append]; rfl⟩
        · by_cases g3 : 0 < s1
          · walk_at "evs"
            intro dl e1 fin1
            exact ⟨_, rfl, m1, done ++ [(i : Int)], _, _, e1, fin1.2, by rw [List.map_append]; rfl⟩
          · walk_at "evs"
            intro dl e1 fin1
            exact ⟨_, rfl, m1, done, _, _, e1, fin1.1, rfl⟩
      · have g4 : ¬ lk.map Dat.int = [] := fun c => g1 (List.map_eq_nil_iff.mp c)
        by_cases g2 : (i : Int) < (fx : Int)
        · walk_at "evs"
          intro dl e1 fin1
          exact ⟨_, rfl, l, done ++ [(i : Int)], _, _, dl, fin1.2, by rw [List.map_append]; rfl⟩
        · walk_at "evs"
          intro dl e1 fin1
          exact ⟨_, rfl, l, done, _, _, dl, fin1.1, rfl⟩
  rw [List.length_map, List.length_range] at hlen
  rw [hz]
  obtain ⟨r2, l2, d2, a2, b2, c2⟩ := next_ok df (k := 5) (by omega) (by omega)
  obtain ⟨r3, l3, d3, a3, b3, c3⟩ := next_ok d2 (k := (done.length : Int) + 1) (by omega) (by omega)
  obtain ⟨r4, l4, d4, a4, b4, c4⟩ := next_ok d3 (k := (fd.length : Int) + 2) (by omega) (by omega)
  obtain ⟨n, rfl⟩ := Int.eq_ofNat_of_zero_le a3
  have u0 : cutD (done.map Dat.int) none (some (n : Int)) = (done.take n).map Dat.int := by rw [cutD_map, cutD_to]
  have u1 : cutD (done.map Dat.int) (some ((n : Int) + 1)) none = (done.drop (n + 1)).map Dat.int := by
    rw [cutD_map]
    exact congrArg _ (cutD_from done (n + 1))
  have u2 : cutD (done.map Dat.int) (some (n : Int)) none = (done.drop n).map Dat.int := by rw [cutD_map, cutD_from]
  have t0 : (done.take n).length ≤ done.length := by rw [List.length_take]; omega
  have t1 : (done.drop (n + 1)).length ≤ done.length := by rw [List.length_drop]; omega
  have t2 : (done.take n).length + (done.drop n).length = done.length := by rw [← List.length_append, List.take_append_drop]
  have t3 : (done.take n).length + (done.drop (n + 1)).length ≤ done.length := by rw [List.length_take, List.length_drop]; omega
  clear hz hg h1 c1 q3 hl1 a1 b1 d1 hfd a3 b3 a4 b4 df d2
  rcases (show r2 = 0 ∨ r2 = 1 ∨ r2 = 2 ∨ (r2 ≠ 0 ∧ r2 ≠ 1 ∧ r2 ≠ 2) by omega) with e | e | e | e
  · subst e
    have v1 : (done.take n).length + (done.drop (n + 1)).length ≤ 100000 := by omega
    refine ⟨done.take n ++ done.drop (n + 1), l3, d3, by rw [List.length_append]; omega, ?_⟩
    have g : (done.take n ++ done.drop (n + 1)).map Dat.int = (done.take n).map Dat.int ++ (done.drop (n + 1)).map Dat.int := List.map_append
    show _ = O.ok (Sv.v (.lst ((done.take n ++ done.drop (n + 1)).map Dat.int))) _
    rw [g]
    clear t0 t1 t2 t3 hlen hl2 g d3 d4 a2 b2 hds
    walk_at "evs"
  · subst e
    have v1 : done.length ≤ 99999 := by omega
    have e5 : done.map Dat.int ++ [Dat.int r4] = (done ++ [r4]).map Dat.int := by rw [List.map_append]; rfl
    have q9 := @q_srK (ns := done ++ [r4])
    refine ⟨sortI (done ++ [r4]), l4, d4, by rw [(sortI_perm _).length_eq, List.length_append, List.length_singleton]; omega, ?_⟩
    clear t0 t1 t2 t3 hlen hl2 d3 d4 a2 b2 hds
    walk_at "evs"
  · subst e
    have v1 : (done.take n).length ≤ 99999 := by omega
    have v2 : (done.take n).length + (0 + 1) + (done.drop n).length ≤ 100000 := by omega
    refine ⟨done.take n ++ [r4 - 1] ++ done.drop n, l4, d4, by rw [List.length_append, List.length_append, List.length_singleton]; omega, ?_⟩
    have g : (done.take n ++ [r4 - 1] ++ done.drop n).map Dat.int = (done.take n).map Dat.int ++ [Dat.int (r4 - 1)] ++ (done.drop n).map Dat.int := by rw [List.map_append, List.map_append]; rfl
    show _ = O.ok (Sv.v (.lst ((done.take n ++ [r4 - 1] ++ done.drop n).map Dat.int))) _
    rw [g]
    have v3 : ((done.take n).map Dat.int ++ [Dat.int (r4 - 1)]).length = (done.take n).length + 1 := by simp
    have v4 : (done.take n).length + 1 + (done.drop n).length ≤ 100000 := by omega
    clear t0 t1 t2 t3 hlen hl2 g d3 d4 a2 b2 hds v2
    walk_at "evs"
  · obtain ⟨x0, x1, x2⟩ := e
    refine ⟨done, l3, d3, by omega, ?_⟩
    clear t0 t1 t2 t3 hlen hl2 d3 d4 a2 b2 hds
    walk_at "evs"
end Wk
set_option Elab.async false
set_option linter.all false
set_option autoImplicit false
set_option maxRecDepth 100000
set_option maxHeartbeats 4000000
namespace Wk
open PySem PySem.Spec PyProof.Rows L2 DL FL
local macro_rules | `(tactic| walk_at "ev") => `(tactic| simp -implicitDefEqProofs only [List.length_range, lv_int, lv_bl, lv_non, lv20_ints, lv20_nil, eqD_int, eqD_str, eqD_bl, eqD_ints, eqD_nil_r, inD_ints, flat_ints, flat_int, flat_str, inD_cons, inD_nil, eqF_str, Option.getD_some, Option.getD_none, Int.reduceEq, decide_true, decide_false, Bool.not_true, Bool.not_false, Bool.false_and, Bool.and_false, Bool.or_false, Bool.or_true, Bool.false_or, Bool.true_or, decide_not, Bool.not_eq_true, ne_eq, not_true_eq_false, or_false, false_or, and_false, false_and, if_true, if_false, ite_true, ite_false, eq_self, wo_0, wn_0_1, wn_0_2, wo_1, wn_1_0, wn_1_2, wo_2, wn_2_0, wn_2_1, wt_SIZES_0, wt_SIZES_1, wt_SIZES_2, q_bind_ok, q_mk0, q_mk1, q_mk2, q_mk3, q_mk4, q_mk5, q_mk6, q_bind_ex, q_gB_ok, q_gB_ex, q_seq_nx, q_seq_rt, q_seq_bk, q_seq_ex, q_k, q_nm, q_nm_v, q_nm_o, q_mv, q_mv_v, q_mv_o, q_e2, q_e2K, q_e1, q_plus_i, q_plus_t, q_plus_l, q_times_c, q_sub_i, q_mod_i, q_fdiv_i, q_pow1018, q_neg_i, q_sl_o, q_rdL_s, q_rdL_l, q_rdL_f, q_rdS_t, q_rdS_l, q_rdS_f, q_rdS_s, q_rdN_l, q_rdN_s, q_rdF_l, q_rdF_f, q_vO_i, q_vO_b, q_vO_x, q_vO_n, q_vO_t, q_vO_l, q_vO_f, q_vO_s, q_ix, q_ixK, q_ixJ, q_len, q_lenK, q_tupOf, q_tupK, q_intB, q_sli_t, q_sli_l, q_sli_f, q_cmp, q_eq, q_eqK, q_in, q_inK, q_isN_n, q_isN_i, q_isN_b, q_isN_x, q_isN_t, q_isN_l, q_isN_s, q_isi, q_isiK, q_isiJ, q_kget, q_B, q_bK, q_tV, q_tvO, q_tNot, q_ntK, q_tAnd, q_tAK, q_tOr, q_tOK, q_tCh, q_chJ, q_chK, q_chL, q_if, q_ifK, q_and, q_or, q_andK, q_orK, q_aNil, q_aCons, q_aK, q_aL, q_allD_n, q_allD_c, q_tup, q_tupJ, q_dsp, q_dspJ, q_list, q_lstJ, q_slO, q_cat_l, q_fr, q_frK, q_pN, q_pS, q_psO, q_Sl, q_SlK, q_SlJ, q_sset, q_ssK, q_sort, q_srK, q_call, q_callK, q_callJ, q_callX, q_ts_n, q_ts_d, q_ts_s, q_tsK, q_sv_n, q_sv_d, q_sv_s, q_wb_n, q_wb_d, q_wb_s, q_frS_v, q_frS_o, q_owS, q_gNil, q_gSeq, q_cs, q_cs_ge, q_cs_v, q_cs_n, q_cs_o, q_io, q_io_v, q_io_n, q_io_o, q_gSet, q_setK, q_gSetO, q_soK, q_gPat, q_patK, q_nxO, q_put_n, q_put_t, q_sa_c, q_sa_n, q_gX, q_xK, q_gRet, q_rtK, q_gRetO, q_roK, q_gRetS, q_rsK, q_gIf, q_giK, q_apJ, q_gApp, q_apK, q_exJ, q_gExt, q_exK, q_siJ, q_siI, q_gSetI, q_siK, q_gFor, q_foJ, q_foK, q_gForR1, q_gForR2, q_fr2J, q_gFrz, q_fzK_o, q_fzK_v, q_gNo, q_end_n, q_end_r, q_end_x, q_for_n, q_st_n, q_st_r, q_st_x, atI_0, atI_1, atI_2, atI_3, List.length_cons, List.length_nil, List.cons_append, List.nil_append, List.getElem?_cons_zero, List.getElem?_cons_succ, List.getElem?_nil, List.set_cons_zero, List.set_cons_succ, List.take_succ_cons, List.take_zero, List.replicate_succ, List.replicate_zero, Option.map_some, Option.map_none, List.nodup_cons, List.nodup_nil, List.mem_cons, List.not_mem_nil, List.all_cons, List.all_nil, ltB, leB, gtB, geB, decide_eq_true_eq, ↓reduceIte, decide_true, decide_false, Bool.and_true, Bool.true_and, not_false_eq_true, and_self, and_true, true_and, Nat.reduceSub, Nat.reduceAdd, Nat.reduceLeDiff, Bool.false_eq_true, q_abs10, List.length_map, Nat.reduceLT, q_cast0, q_cast1, q_cast2, q_cast3, q_cast4, q_cast5, q_cast6, q_cast7, q_cast8, q_cast9, Int.reduceToNat, Int.reduceLT, Int.reduceLE, Int.reduceAdd, Int.reduceSub, Int.reduceNeg, Int.reduceMul, Int.toNat_one, Int.toNat_zero, or_true, true_or])
local macro_rules | `(tactic| walk_at "evs") => `(tactic| simp -implicitDefEqProofs only [*, List.length_range, lv_int, lv_bl, lv_non, lv20_ints, lv20_nil, eqD_int, eqD_str, eqD_bl, eqD_ints, eqD_nil_r, inD_ints, flat_ints, flat_int, flat_str, inD_cons, inD_nil, eqF_str, Option.getD_some, Option.getD_none, Int.reduceEq, decide_true, decide_false, Bool.not_true, Bool.not_false, Bool.false_and, Bool.and_false, Bool.or_false, Bool.or_true, Bool.false_or, Bool.true_or, decide_not, Bool.not_eq_true, ne_eq, not_true_eq_false, or_false, false_or, and_false, false_and, if_true, if_false, ite_true, ite_false, eq_self, wo_0, wn_0_1, wn_0_2, wo_1, wn_1_0, wn_1_2, wo_2, wn_2_0, wn_2_1, wt_SIZES_0, wt_SIZES_1, wt_SIZES_2, q_bind_ok, q_mk0, q_mk1, q_mk2, q_mk3, q_mk4, q_mk5, q_mk6, q_bind_ex, q_gB_ok, q_gB_ex, q_seq_nx, q_seq_rt, q_seq_bk, q_seq_ex, q_k, q_nm, q_nm_v, q_nm_o, q_mv, q_mv_v, q_mv_o, q_e2, q_e2K, q_e1, q_plus_i, q_plus_t, q_plus_l, q_times_c, q_sub_i, q_mod_i, q_fdiv_i, q_pow1018, q_neg_i, q_sl_o, q_rdL_s, q_rdL_l, q_rdL_f, q_rdS_t, q_rdS_l, q_rdS_f, q_rdS_s, q_rdN_l, q_rdN_s, q_rdF_l, q_rdF_f, q_vO_i, q_vO_b, q_vO_x, q_vO_n, q_vO_t, q_vO_l, q_vO_f, q_vO_s, q_ix, q_ixK, q_ixJ, q_len, q_lenK, q_tupOf, q_tupK, q_intB, q_sli_t, q_sli_l, q_sli_f, q_cmp, q_eq, q_eqK, q_in, q_inK, q_isN_n, q_isN_i, q_isN_b, q_isN_x, q_isN_t, q_isN_l, q_isN_s, q_isi, q_isiK, q_isiJ, q_kget, q_B, q_bK, q_tV, q_tvO, q_tNot, q_ntK, q_tAnd, q_tAK, q_tOr, q_tOK, q_tCh, q_chJ, q_chK, q_chL, q_if, q_ifK, q_and, q_or, q_andK, q_orK, q_aNil, q_aCons, q_aK, q_aL, q_allD_n, q_allD_c, q_tup, q_tupJ, q_dsp, q_dspJ, q_list, q_lstJ, q_slO, q_cat_l, q_fr, q_frK, q_pN, q_pS, q_psO, q_Sl, q_SlK, q_SlJ, q_sset, q_ssK, q_sort, q_srK, q_call, q_callK, q_callJ, q_callX, q_ts_n, q_ts_d, q_ts_s, q_tsK, q_sv_n, q_sv_d, q_sv_s, q_wb_n, q_wb_d, q_wb_s, q_frS_v, q_frS_o, q_owS, q_gNil, q_gSeq, q_cs, q_cs_ge, q_cs_v, q_cs_n, q_cs_o, q_io, q_io_v, q_io_n, q_io_o, q_gSet, q_setK, q_gSetO, q_soK, q_gPat, q_patK, q_nxO, q_put_n, q_put_t, q_sa_c, q_sa_n, q_gX, q_xK, q_gRet, q_rtK, q_gRetO, q_roK, q_gRetS, q_rsK, q_gIf, q_giK, q_apJ, q_gApp, q_apK, q_exJ, q_gExt, q_exK, q_siJ, q_siI, q_gSetI, q_siK, q_gFor, q_foJ, q_foK, q_gForR1, q_gForR2, q_fr2J, q_gFrz, q_fzK_o, q_fzK_v, q_gNo, q_end_n, q_end_r, q_end_x, q_for_n, q_st_n, q_st_r, q_st_x, atI_0, atI_1, atI_2, atI_3, List.length_cons, List.length_nil, List.cons_append, List.nil_append, List.getElem?_cons_zero, List.getElem?_cons_succ, List.getElem?_nil, List.set_cons_zero, List.set_cons_succ, List.take_succ_cons, List.take_zero, List.replicate_succ, List.replicate_zero, Option.map_some, Option.map_none, List.nodup_cons, List.nodup_nil, List.mem_cons, List.not_mem_nil, List.all_cons, List.all_nil, ltB, leB, gtB, geB, decide_eq_true_eq, ↓reduceIte, decide_true, decide_false, Bool.and_true, Bool.true_and, not_false_eq_true, and_self, and_true, true_and, Nat.reduceSub, Nat.reduceAdd, Nat.reduceLeDiff, Bool.false_eq_true, q_abs10, List.length_map, Nat.reduceLT, q_cast0, q_cast1, q_cast2, q_cast3, q_cast4, q_cast5, q_cast6, q_cast7, q_cast8, q_cast9, Int.reduceToNat, Int.reduceLT, Int.reduceLE, Int.reduceAdd, Int.reduceSub, Int.reduceNeg, Int.reduceMul, Int.toNat_one, Int.toNat_zero, or_true, true_or])
/-! ### alike -/
theorem ty_b {e : En} {a : Bool} : tyO e (.d (.bl a)) = some "bool" := rfl
theorem ty_i {e : En} {a : Int} : tyO e (.d (.int a)) = some "int" := rfl
theorem ty_t {e : En} {a : List Dat} : tyO e (.d (.tup a)) = some "tuple" := rfl
theorem ty_l {e : En} {a : List Dat} : tyO e (.d (.lst a)) = some "list" := rfl
theorem ty_o {e : En} {i : Nat} {a : List Dat} (h : e[i]? = some (Sv.own a)) : tyO e (.sl i) = some "list" := by simp only [tyO, h]
theorem ki_bb : kitB "bool" "bool" = some true := by decide +kernel
theorem ki_ib : kitB "int" "bool" = some false := by decide +kernel
theorem ki_is : kitB "int" "str" = some false := by decide +kernel
theorem ki_ii : kitB "int" "int" = some true := by decide +kernel
theorem ki_tb : kitB "tuple" "bool" = some false := by decide +kernel
theorem ki_ts : kitB "tuple" "str" = some false := by decide +kernel
theorem ki_ti : kitB "tuple" "int" = some false := by decide +kernel
theorem ki_td : kitB "tuple" "dict" = some false := by decide +kernel
theorem ki_tt : kitB "tuple" "tuple" = some true := by decide +kernel
theorem ki_tl : kitB "tuple" "list" = some false := by decide +kernel
theorem ki_lb : kitB "list" "bool" = some false := by decide +kernel
theorem ki_ls : kitB "list" "str" = some false := by decide +kernel
theorem ki_li : kitB "list" "int" = some false := by decide +kernel
theorem ki_ld : kitB "list" "dict" = some false := by decide +kernel
theorem ki_lt : kitB "list" "tuple" = some false := by decide +kernel
theorem ki_ll : kitB "list" "list" = some true := by decide +kernel
theorem like_b (n : Nat) (a : Bool) : f_law_like (n + 1) [.v (.bl a), .v (.bl a)] = .ok (.v (.bl true)) [.v (.bl a), .v (.bl a)] := by
  unfold f_law_like g_law_like
  have h1 := @ty_b
  have h2 := ki_bb
  walk_at "evs"
theorem like_i (n : Nat) (a : Int) : f_law_like (n + 1) [.v (.int a), .v (.int a)] = .ok (.v (.bl true)) [.v (.int a), .v (.int a)] := by
  unfold f_law_like g_law_like
  have h1 := @ty_i
  have h2 := ki_ib
  have h3 := ki_is
  have h4 := ki_ii
  walk_at "evs"
theorem like_t (n : Nat) (ns : List Int) (hl : ns.length ≤ 1000) : f_law_like (n + 2) [.v (.tup (ns.map Dat.int)), .v (.tup (ns.map Dat.int))] = .ok (.v (.bl true)) [.v (.tup (ns.map Dat.int)), .v (.tup (ns.map Dat.int))] := by
  unfold f_law_like g_law_like
  have h1 := @ty_t
  have h2 := ki_tb
  have h3 := ki_ts
  have h4 := ki_ti
  have h5 := ki_td
  have h6 := ki_tt
  have h7 := ki_tl
  have q := @q_fr1N 2 2
  have hl2 : ns.length ≤ 1000000 := by omega
  walk_at "evs"
  generalize hg : gIf _ _ _ = gg
  obtain ⟨e2, hz, z, rfl⟩ := for_ex0 (np := 2) (p := .nm 2) (g := gg) (enc := Dat.int) (as := (List.range ns.length).map fun (k : Nat) => (k : Int)) (e := [Sv.v (.tup (ns.map Dat.int)), Sv.v (.tup (ns.map Dat.int)), Sv.no, Sv.no]) (J := fun i e => ∃ z, e = [Sv.v (.tup (ns.map Dat.int)), Sv.v (.tup (ns.map Dat.int)), z, Sv.no]) ⟨_, rfl⟩ fun i a e hi ⟨z, he⟩ => by
    subst he
    obtain ⟨hin, rfl⟩ := rg_get hi
    have a2 := atI_ints (l := ns) (k := i) hin
    have hc := like_i n (ns.getD i 0)
    refine ⟨[Sv.v (.tup (ns.map Dat.int)), Sv.v (.tup (ns.map Dat.int)), Sv.v (.int i), Sv.no], by walk_at "ev", ?_⟩
    subst hg
    refine ⟨[Sv.v (.tup (ns.map Dat.int)), Sv.v (.tup (ns.map Dat.int)), Sv.v (.int i), Sv.no], ?_, _, rfl⟩
    clear h1 h2 h3 h4 h5 h6 h7 q hl2 hl hi hin
    walk_at "evs"
  rw [hz]
  walk_at "ev"
theorem like_l (n : Nat) (ns : List Int) (hl : ns.length ≤ 1000) : f_law_like (n + 2) [.own (ns.map Dat.int), .v (intsD ns)] = .ok (.v (.bl true)) [.own (ns.map Dat.int), .v (intsD ns)] := by
  unfold f_law_like g_law_like
  have h1 := @ty_l
  have h0 : tyO [Sv.own (ns.map Dat.int), Sv.v (intsD ns), Sv.no, Sv.no] (.sl 0) = some "list" := rfl
  have h2 := ki_lb
  have h3 := ki_ls
  have h4 := ki_li
  have h5 := ki_ld
  have h6 := ki_lt
  have h7 := ki_ll
  have q := @q_fr1N 2 2
  have hl2 : ns.length ≤ 1000000 := by omega
  walk_at "evs"
  generalize hg : gIf _ _ _ = gg
  obtain ⟨e2, hz, z, rfl⟩ := for_ex0 (np := 2) (p := .nm 2) (g := gg) (enc := Dat.int) (as := (List.range ns.length).map fun (k : Nat) => (k : Int)) (e := [Sv.own (ns.map Dat.int), Sv.v (intsD ns), Sv.no, Sv.no]) (J := fun i e => ∃ z, e = [Sv.own (ns.map Dat.int), Sv.v (intsD ns), z, Sv.no]) ⟨_, rfl⟩ fun i a e hi ⟨z, he⟩ => by
    subst he
    obtain ⟨hin, rfl⟩ := rg_get hi
    have a2 := atI_ints (l := ns) (k := i) hin
    have hc := like_i n (ns.getD i 0)
    refine ⟨[Sv.own (ns.map Dat.int), Sv.v (intsD ns), Sv.v (.int i), Sv.no], by walk_at "ev", ?_⟩
    subst hg
    refine ⟨[Sv.own (ns.map Dat.int), Sv.v (intsD ns), Sv.v (.int i), Sv.no], ?_, _, rfl⟩
    clear h0 h1 h2 h3 h4 h5 h6 h7 q hl2 hl hi hin
    walk_at "evs"
  rw [hz]
  walk_at "ev"
end Wk
set_option Elab.async false
set_option linter.all false
set_option autoImplicit false
set_option maxRecDepth 100000
set_option maxHeartbeats 4000000
namespace Wk
open PySem PySem.Spec PyProof.Rows L2 DL FL
local macro_rules | `(tactic| walk_at "ev") => `(tactic| simp -implicitDefEqProofs only [List.length_range, lv_int, lv_bl, lv_non, lv20_ints, lv20_nil, eqD_int, eqD_str, eqD_bl, eqD_ints, eqD_nil_r, inD_ints, flat_ints, flat_int, flat_str, inD_cons, inD_nil, eqF_str, Option.getD_some, Option.getD_none, Int.reduceEq, decide_true, decide_false, Bool.not_true, Bool.not_false, Bool.false_and, Bool.and_false, Bool.or_false, Bool.or_true, Bool.false_or, Bool.true_or, decide_not, Bool.not_eq_true, ne_eq, not_true_eq_false, or_false, false_or, and_false, false_and, if_true, if_false, ite_true, ite_false, eq_self, wo_0, wn_0_1, wn_0_2, wo_1, wn_1_0, wn_1_2, wo_2, wn_2_0, wn_2_1, wt_SIZES_0, wt_SIZES_1, wt_SIZES_2, q_bind_ok, q_mk0, q_mk1, q_mk2, q_mk3, q_mk4, q_mk5, q_mk6, q_bind_ex, q_gB_ok, q_gB_ex, q_seq_nx, q_seq_rt, q_seq_bk, q_seq_ex, q_k, q_nm, q_nm_v, q_nm_o, q_mv, q_mv_v, q_mv_o, q_e2, q_e2K, q_e1, q_plus_i, q_plus_t, q_plus_l, q_times_c, q_sub_i, q_mod_i, q_fdiv_i, q_pow1018, q_neg_i, q_sl_o, q_rdL_s, q_rdL_l, q_rdL_f, q_rdS_t, q_rdS_l, q_rdS_f, q_rdS_s, q_rdN_l, q_rdN_s, q_rdF_l, q_rdF_f, q_vO_i, q_vO_b, q_vO_x, q_vO_n, q_vO_t, q_vO_l, q_vO_f, q_vO_s, q_ix, q_ixK, q_ixJ, q_len, q_lenK, q_tupOf, q_tupK, q_intB, q_sli_t, q_sli_l, q_sli_f, q_cmp, q_eq, q_eqK, q_in, q_inK, q_isN_n, q_isN_i, q_isN_b, q_isN_x, q_isN_t, q_isN_l, q_isN_s, q_isi, q_isiK, q_isiJ, q_kget, q_B, q_bK, q_tV, q_tvO, q_tNot, q_ntK, q_tAnd, q_tAK, q_tOr, q_tOK, q_tCh, q_chJ, q_chK, q_chL, q_if, q_ifK, q_and, q_or, q_andK, q_orK, q_aNil, q_aCons, q_aK, q_aL, q_allD_n, q_allD_c, q_tup, q_tupJ, q_dsp, q_dspJ, q_list, q_lstJ, q_slO, q_cat_l, q_fr, q_frK, q_pN, q_pS, q_psO, q_Sl, q_SlK, q_SlJ, q_sset, q_ssK, q_sort, q_srK, q_call, q_callK, q_callJ, q_callX, q_ts_n, q_ts_d, q_ts_s, q_tsK, q_sv_n, q_sv_d, q_sv_s, q_wb_n, q_wb_d, q_wb_s, q_frS_v, q_frS_o, q_owS, q_gNil, q_gSeq, q_cs, q_cs_ge, q_cs_v, q_cs_n, q_cs_o, q_io, q_io_v, q_io_n, q_io_o, q_gSet, q_setK, q_gSetO, q_soK, q_gPat, q_patK, q_nxO, q_put_n, q_put_t, q_sa_c, q_sa_n, q_gX, q_xK, q_gRet, q_rtK, q_gRetO, q_roK, q_gRetS, q_rsK, q_gIf, q_giK, q_apJ, q_gApp, q_apK, q_exJ, q_gExt, q_exK, q_siJ, q_siI, q_gSetI, q_siK, q_gFor, q_foJ, q_foK, q_gForR1, q_gForR2, q_fr2J, q_gFrz, q_fzK_o, q_fzK_v, q_gNo, q_end_n, q_end_r, q_end_x, q_for_n, q_st_n, q_st_r, q_st_x, atI_0, atI_1, atI_2, atI_3, List.length_cons, List.length_nil, List.cons_append, List.nil_append, List.getElem?_cons_zero, List.getElem?_cons_succ, List.getElem?_nil, List.set_cons_zero, List.set_cons_succ, List.take_succ_cons, List.take_zero, List.replicate_succ, List.replicate_zero, Option.map_some, Option.map_none, List.nodup_cons, List.nodup_nil, List.mem_cons, List.not_mem_nil, List.all_cons, List.all_nil, ltB, leB, gtB, geB, decide_eq_true_eq, ↓reduceIte, decide_true, decide_false, Bool.and_true, Bool.true_and, not_false_eq_true, and_self, and_true, true_and, Nat.reduceSub, Nat.reduceAdd, Nat.reduceLeDiff, Bool.false_eq_true, q_abs10, List.length_map, Nat.reduceLT, q_cast0, q_cast1, q_cast2, q_cast3, q_cast4, q_cast5, q_cast6, q_cast7, q_cast8, q_cast9, Int.reduceToNat, Int.reduceLT, Int.reduceLE, Int.reduceAdd, Int.reduceSub, Int.reduceNeg, Int.reduceMul, Int.toNat_one, Int.toNat_zero, or_true, true_or])
local macro_rules | `(tactic| walk_at "evs") => `(tactic| simp -implicitDefEqProofs only [*, List.length_range, lv_int, lv_bl, lv_non, lv20_ints, lv20_nil, eqD_int, eqD_str, eqD_bl, eqD_ints, eqD_nil_r, inD_ints, flat_ints, flat_int, flat_str, inD_cons, inD_nil, eqF_str, Option.getD_some, Option.getD_none, Int.reduceEq, decide_true, decide_false, Bool.not_true, Bool.not_false, Bool.false_and, Bool.and_false, Bool.or_false, Bool.or_true, Bool.false_or, Bool.true_or, decide_not, Bool.not_eq_true, ne_eq, not_true_eq_false, or_false, false_or, and_false, false_and, if_true, if_false, ite_true, ite_false, eq_self, wo_0, wn_0_1, wn_0_2, wo_1, wn_1_0, wn_1_2, wo_2, wn_2_0, wn_2_1, wt_SIZES_0, wt_SIZES_1, wt_SIZES_2, q_bind_ok, q_mk0, q_mk1, q_mk2, q_mk3, q_mk4, q_mk5, q_mk6, q_bind_ex, q_gB_ok, q_gB_ex, q_seq_nx, q_seq_rt, q_seq_bk, q_seq_ex, q_k, q_nm, q_nm_v, q_nm_o, q_mv, q_mv_v, q_mv_o, q_e2, q_e2K, q_e1, q_plus_i, q_plus_t, q_plus_l, q_times_c, q_sub_i, q_mod_i, q_fdiv_i, q_pow1018, q_neg_i, q_sl_o, q_rdL_s, q_rdL_l, q_rdL_f, q_rdS_t, q_rdS_l, q_rdS_f, q_rdS_s, q_rdN_l, q_rdN_s, q_rdF_l, q_rdF_f, q_vO_i, q_vO_b, q_vO_x, q_vO_n, q_vO_t, q_vO_l, q_vO_f, q_vO_s, q_ix, q_ixK, q_ixJ, q_len, q_lenK, q_tupOf, q_tupK, q_intB, q_sli_t, q_sli_l, q_sli_f, q_cmp, q_eq, q_eqK, q_in, q_inK, q_isN_n, q_isN_i, q_isN_b, q_isN_x, q_isN_t, q_isN_l, q_isN_s, q_isi, q_isiK, q_isiJ, q_kget, q_B, q_bK, q_tV, q_tvO, q_tNot, q_ntK, q_tAnd, q_tAK, q_tOr, q_tOK, q_tCh, q_chJ, q_chK, q_chL, q_if, q_ifK, q_and, q_or, q_andK, q_orK, q_aNil, q_aCons, q_aK, q_aL, q_allD_n, q_allD_c, q_tup, q_tupJ, q_dsp, q_dspJ, q_list, q_lstJ, q_slO, q_cat_l, q_fr, q_frK, q_pN, q_pS, q_psO, q_Sl, q_SlK, q_SlJ, q_sset, q_ssK, q_sort, q_srK, q_call, q_callK, q_callJ, q_callX, q_ts_n, q_ts_d, q_ts_s, q_tsK, q_sv_n, q_sv_d, q_sv_s, q_wb_n, q_wb_d, q_wb_s, q_frS_v, q_frS_o, q_owS, q_gNil, q_gSeq, q_cs, q_cs_ge, q_cs_v, q_cs_n, q_cs_o, q_io, q_io_v, q_io_n, q_io_o, q_gSet, q_setK, q_gSetO, q_soK, q_gPat, q_patK, q_nxO, q_put_n, q_put_t, q_sa_c, q_sa_n, q_gX, q_xK, q_gRet, q_rtK, q_gRetO, q_roK, q_gRetS, q_rsK, q_gIf, q_giK, q_apJ, q_gApp, q_apK, q_exJ, q_gExt, q_exK, q_siJ, q_siI, q_gSetI, q_siK, q_gFor, q_foJ, q_foK, q_gForR1, q_gForR2, q_fr2J, q_gFrz, q_fzK_o, q_fzK_v, q_gNo, q_end_n, q_end_r, q_end_x, q_for_n, q_st_n, q_st_r, q_st_x, atI_0, atI_1, atI_2, atI_3, List.length_cons, List.length_nil, List.cons_append, List.nil_append, List.getElem?_cons_zero, List.getElem?_cons_succ, List.getElem?_nil, List.set_cons_zero, List.set_cons_succ, List.take_succ_cons, List.take_zero, List.replicate_succ, List.replicate_zero, Option.map_some, Option.map_none, List.nodup_cons, List.nodup_nil, List.mem_cons, List.not_mem_nil, List.all_cons, List.all_nil, ltB, leB, gtB, geB, decide_eq_true_eq, ↓reduceIte, decide_true, decide_false, Bool.and_true, Bool.true_and, not_false_eq_true, and_self, and_true, true_and, Nat.reduceSub, Nat.reduceAdd, Nat.reduceLeDiff, Bool.false_eq_true, q_abs10, List.length_map, Nat.reduceLT, q_cast0, q_cast1, q_cast2, q_cast3, q_cast4, q_cast5, q_cast6, q_cast7, q_cast8, q_cast9, Int.reduceToNat, Int.reduceLT, Int.reduceLE, Int.reduceAdd, Int.reduceSub, Int.reduceNeg, Int.reduceMul, Int.toNat_one, Int.toNat_zero, or_true, true_or])
/-! ### the two ways to tell what may be -/
theorem fixed_eq : ∀ (ds : List Dd) (s : AS) (t : List Int × Int), t.2 = (s.met.length : Int) → ((0 : Int) :: t.1).getLastD 0 = (s.fixed : Int) → (((0 : Int) :: (ds.foldl (cutF isS) t).1).getLastD 0 = ((ds.foldl stepA s).fixed : Int)) ∧ (ds.foldl (cutF isS) t).2 = ((ds.foldl stepA s).met.length : Int)
  | [], s, t, h1, h2 => ⟨h2, h1⟩
  | d :: ds, s, t, h1, h2 => by
    rw [List.foldl_cons, List.foldl_cons]
    refine fixed_eq ds (stepA s d) (cutF isS t d) ?_ ?_
    · cases d with
      | wr b v => simp [cutF, stepA, isS, isW, h1]
      | wall => simp [cutF, stepA, isS, isW, h1]
      | sync => simp [cutF, stepA, isS, isW, h1]
    · cases d with
      | wr b v => simpa [cutF, stepA, isS] using h2
      | wall => simpa [cutF, stepA, isS] using h2
      | sync =>
        have e : (0 : Int) :: (t.1 ++ [t.2]) = ((0 : Int) :: t.1) ++ [t.2] := rfl
        show ((0 : Int) :: (t.1 ++ [t.2])).getLastD 0 = (s.met.length : Int)
        rw [e, List.getLastD_eq_getLast?, List.getLast?_append, h1]
        rfl
theorem sync_fixed (ds : List Dd) : sync ds = ((aheadN ds).fixed : Int) := (fixed_eq ds ⟨[], [], 0, 0⟩ ([], 0) rfl rfl).1
theorem met_len (ds : List Dd) : (aheadN ds).met = (wrs ds).map (·.1) := by
  have : ∀ (ds : List Dd) (s : AS), (ds.foldl stepA s).met = s.met ++ (wrs ds).map (·.1) := by
    intro ds
    induction ds with
    | nil => intro s; simp [wrs]
    | cons d ds ih =>
      intro s
      rw [List.foldl_cons, ih]
      cases d with
      | wr b v =>
        have e : wrs (Dd.wr b v :: ds) = (b, v) :: wrs ds := by unfold wrs; rw [List.filter_cons_of_pos (by rfl)]; rfl
        rw [e]
        simp [stepA]
      | wall =>
        have e : wrs (Dd.wall :: ds) = wrs ds := by unfold wrs; rw [List.filter_cons_of_neg (by simp [isW])]
        rw [e]; rfl
      | sync =>
        have e : wrs (Dd.sync :: ds) = wrs ds := by unfold wrs; rw [List.filter_cons_of_neg (by simp [isW])]
        rw [e]; rfl
  have h := this ds ⟨[], [], 0, 0⟩
  rw [List.nil_append] at h
  exact h
end Wk
set_option Elab.async false
set_option linter.all false
set_option autoImplicit false
set_option maxRecDepth 100000
set_option maxHeartbeats 4000000
namespace Wk
open PySem PySem.Spec PyProof.Rows L2 DL FL
local macro_rules | `(tactic| walk_at "ev") => `(tactic| simp -implicitDefEqProofs only [List.length_range, lv_int, lv_bl, lv_non, lv20_ints, lv20_nil, eqD_int, eqD_str, eqD_bl, eqD_ints, eqD_nil_r, inD_ints, flat_ints, flat_int, flat_str, inD_cons, inD_nil, eqF_str, Option.getD_some, Option.getD_none, Int.reduceEq, decide_true, decide_false, Bool.not_true, Bool.not_false, Bool.false_and, Bool.and_false, Bool.or_false, Bool.or_true, Bool.false_or, Bool.true_or, decide_not, Bool.not_eq_true, ne_eq, not_true_eq_false, or_false, false_or, and_false, false_and, if_true, if_false, ite_true, ite_false, eq_self, wo_0, wn_0_1, wn_0_2, wo_1, wn_1_0, wn_1_2, wo_2, wn_2_0, wn_2_1, wt_SIZES_0, wt_SIZES_1, wt_SIZES_2, q_bind_ok, q_mk0, q_mk1, q_mk2, q_mk3, q_mk4, q_mk5, q_mk6, q_bind_ex, q_gB_ok, q_gB_ex, q_seq_nx, q_seq_rt, q_seq_bk, q_seq_ex, q_k, q_nm, q_nm_v, q_nm_o, q_mv, q_mv_v, q_mv_o, q_e2, q_e2K, q_e1, q_plus_i, q_plus_t, q_plus_l, q_times_c, q_sub_i, q_mod_i, q_fdiv_i, q_pow1018, q_neg_i, q_sl_o, q_rdL_s, q_rdL_l, q_rdL_f, q_rdS_t, q_rdS_l, q_rdS_f, q_rdS_s, q_rdN_l, q_rdN_s, q_rdF_l, q_rdF_f, q_vO_i, q_vO_b, q_vO_x, q_vO_n, q_vO_t, q_vO_l, q_vO_f, q_vO_s, q_ix, q_ixK, q_ixJ, q_len, q_lenK, q_tupOf, q_tupK, q_intB, q_sli_t, q_sli_l, q_sli_f, q_cmp, q_eq, q_eqK, q_in, q_inK, q_isN_n, q_isN_i, q_isN_b, q_isN_x, q_isN_t, q_isN_l, q_isN_s, q_isi, q_isiK, q_isiJ, q_kget, q_B, q_bK, q_tV, q_tvO, q_tNot, q_ntK, q_tAnd, q_tAK, q_tOr, q_tOK, q_tCh, q_chJ, q_chK, q_chL, q_if, q_ifK, q_and, q_or, q_andK, q_orK, q_aNil, q_aCons, q_aK, q_aL, q_allD_n, q_allD_c, q_tup, q_tupJ, q_dsp, q_dspJ, q_list, q_lstJ, q_slO, q_cat_l, q_fr, q_frK, q_pN, q_pS, q_psO, q_Sl, q_SlK, q_SlJ, q_sset, q_ssK, q_sort, q_srK, q_call, q_callK, q_callJ, q_callX, q_ts_n, q_ts_d, q_ts_s, q_tsK, q_sv_n, q_sv_d, q_sv_s, q_wb_n, q_wb_d, q_wb_s, q_frS_v, q_frS_o, q_owS, q_gNil, q_gSeq, q_cs, q_cs_ge, q_cs_v, q_cs_n, q_cs_o, q_io, q_io_v, q_io_n, q_io_o, q_gSet, q_setK, q_gSetO, q_soK, q_gPat, q_patK, q_nxO, q_put_n, q_put_t, q_sa_c, q_sa_n, q_gX, q_xK, q_gRet, q_rtK, q_gRetO, q_roK, q_gRetS, q_rsK, q_gIf, q_giK, q_apJ, q_gApp, q_apK, q_exJ, q_gExt, q_exK, q_siJ, q_siI, q_gSetI, q_siK, q_gFor, q_foJ, q_foK, q_gForR1, q_gForR2, q_fr2J, q_gFrz, q_fzK_o, q_fzK_v, q_gNo, q_end_n, q_end_r, q_end_x, q_for_n, q_st_n, q_st_r, q_st_x, atI_0, atI_1, atI_2, atI_3, List.length_cons, List.length_nil, List.cons_append, List.nil_append, List.getElem?_cons_zero, List.getElem?_cons_succ, List.getElem?_nil, List.set_cons_zero, List.set_cons_succ, List.take_succ_cons, List.take_zero, List.replicate_succ, List.replicate_zero, Option.map_some, Option.map_none, List.nodup_cons, List.nodup_nil, List.mem_cons, List.not_mem_nil, List.all_cons, List.all_nil, ltB, leB, gtB, geB, decide_eq_true_eq, ↓reduceIte, decide_true, decide_false, Bool.and_true, Bool.true_and, not_false_eq_true, and_self, and_true, true_and, Nat.reduceSub, Nat.reduceAdd, Nat.reduceLeDiff, Bool.false_eq_true, q_abs10, List.length_map, Nat.reduceLT, q_cast0, q_cast1, q_cast2, q_cast3, q_cast4, q_cast5, q_cast6, q_cast7, q_cast8, q_cast9, Int.reduceToNat, Int.reduceLT, Int.reduceLE, Int.reduceAdd, Int.reduceSub, Int.reduceNeg, Int.reduceMul, Int.toNat_one, Int.toNat_zero, or_true, true_or])
local macro_rules | `(tactic| walk_at "evs") => `(tactic| simp -implicitDefEqProofs only [*, List.length_range, lv_int, lv_bl, lv_non, lv20_ints, lv20_nil, eqD_int, eqD_str, eqD_bl, eqD_ints, eqD_nil_r, inD_ints, flat_ints, flat_int, flat_str, inD_cons, inD_nil, eqF_str, Option.getD_some, Option.getD_none, Int.reduceEq, decide_true, decide_false, Bool.not_true, Bool.not_false, Bool.false_and, Bool.and_false, Bool.or_false, Bool.or_true, Bool.false_or, Bool.true_or, decide_not, Bool.not_eq_true, ne_eq, not_true_eq_false, or_false, false_or, and_false, false_and, if_true, if_false, ite_true, ite_false, eq_self, wo_0, wn_0_1, wn_0_2, wo_1, wn_1_0, wn_1_2, wo_2, wn_2_0, wn_2_1, wt_SIZES_0, wt_SIZES_1, wt_SIZES_2, q_bind_ok, q_mk0, q_mk1, q_mk2, q_mk3, q_mk4, q_mk5, q_mk6, q_bind_ex, q_gB_ok, q_gB_ex, q_seq_nx, q_seq_rt, q_seq_bk, q_seq_ex, q_k, q_nm, q_nm_v, q_nm_o, q_mv, q_mv_v, q_mv_o, q_e2, q_e2K, q_e1, q_plus_i, q_plus_t, q_plus_l, q_times_c, q_sub_i, q_mod_i, q_fdiv_i, q_pow1018, q_neg_i, q_sl_o, q_rdL_s, q_rdL_l, q_rdL_f, q_rdS_t, q_rdS_l, q_rdS_f, q_rdS_s, q_rdN_l, q_rdN_s, q_rdF_l, q_rdF_f, q_vO_i, q_vO_b, q_vO_x, q_vO_n, q_vO_t, q_vO_l, q_vO_f, q_vO_s, q_ix, q_ixK, q_ixJ, q_len, q_lenK, q_tupOf, q_tupK, q_intB, q_sli_t, q_sli_l, q_sli_f, q_cmp, q_eq, q_eqK, q_in, q_inK, q_isN_n, q_isN_i, q_isN_b, q_isN_x, q_isN_t, q_isN_l, q_isN_s, q_isi, q_isiK, q_isiJ, q_kget, q_B, q_bK, q_tV, q_tvO, q_tNot, q_ntK, q_tAnd, q_tAK, q_tOr, q_tOK, q_tCh, q_chJ, q_chK, q_chL, q_if, q_ifK, q_and, q_or, q_andK, q_orK, q_aNil, q_aCons, q_aK, q_aL, q_allD_n, q_allD_c, q_tup, q_tupJ, q_dsp, q_dspJ, q_list, q_lstJ, q_slO, q_cat_l, q_fr, q_frK, q_pN, q_pS, q_psO, q_Sl, q_SlK, q_SlJ, q_sset, q_ssK, q_sort, q_srK, q_call, q_callK, q_callJ, q_callX, q_ts_n, q_ts_d, q_ts_s, q_tsK, q_sv_n, q_sv_d, q_sv_s, q_wb_n, q_wb_d, q_wb_s, q_frS_v, q_frS_o, q_owS, q_gNil, q_gSeq, q_cs, q_cs_ge, q_cs_v, q_cs_n, q_cs_o, q_io, q_io_v, q_io_n, q_io_o, q_gSet, q_setK, q_gSetO, q_soK, q_gPat, q_patK, q_nxO, q_put_n, q_put_t, q_sa_c, q_sa_n, q_gX, q_xK, q_gRet, q_rtK, q_gRetO, q_roK, q_gRetS, q_rsK, q_gIf, q_giK, q_apJ, q_gApp, q_apK, q_exJ, q_gExt, q_exK, q_siJ, q_siI, q_gSetI, q_siK, q_gFor, q_foJ, q_foK, q_gForR1, q_gForR2, q_fr2J, q_gFrz, q_fzK_o, q_fzK_v, q_gNo, q_end_n, q_end_r, q_end_x, q_for_n, q_st_n, q_st_r, q_st_x, atI_0, atI_1, atI_2, atI_3, List.length_cons, List.length_nil, List.cons_append, List.nil_append, List.getElem?_cons_zero, List.getElem?_cons_succ, List.getElem?_nil, List.set_cons_zero, List.set_cons_succ, List.take_succ_cons, List.take_zero, List.replicate_succ, List.replicate_zero, Option.map_some, Option.map_none, List.nodup_cons, List.nodup_nil, List.mem_cons, List.not_mem_nil, List.all_cons, List.all_nil, ltB, leB, gtB, geB, decide_eq_true_eq, ↓reduceIte, decide_true, decide_false, Bool.and_true, Bool.true_and, not_false_eq_true, and_self, and_true, true_and, Nat.reduceSub, Nat.reduceAdd, Nat.reduceLeDiff, Bool.false_eq_true, q_abs10, List.length_map, Nat.reduceLT, q_cast0, q_cast1, q_cast2, q_cast3, q_cast4, q_cast5, q_cast6, q_cast7, q_cast8, q_cast9, Int.reduceToNat, Int.reduceLT, Int.reduceLE, Int.reduceAdd, Int.reduceSub, Int.reduceNeg, Int.reduceMul, Int.toNat_one, Int.toNat_zero, or_true, true_or])
/-! ### each write's cut -/
structure CutI (s : AS) (t : List Int × Int) : Prop where
  n : t.2 = (s.met.length : Int)
  f : s.found.length = s.met.length
  c : ((s.cut : Int) ∈ (0 : Int) :: t.1) ∧ (∀ x ∈ t.1, x ≤ (s.cut : Int)) ∧ s.cut ≤ s.met.length
  a : ∀ n : Nat, n < s.met.length → ∃ c : Nat, s.found.getD n [] = sortU (sameN (s.met.take n) (s.met.getD n 0) ++ nats c) ∧ ((c : Int) ∈ (0 : Int) :: t.1) ∧ c ≤ n ∧ ∀ x ∈ t.1, x ≤ (n : Int) → x ≤ (c : Int)
theorem cut_step {s s' : AS} {t : List Int × Int} (h : CutI s t) (e1 : s'.found = s.found) (e2 : s'.met = s.met) (e3 : s'.cut = s.met.length) : CutI s' (t.1 ++ [t.2], t.2 + 0) := by
  obtain ⟨h1, h2, ⟨h3, h4, h5⟩, h6⟩ := h
  refine ⟨by rw [e2, ← h1]; simp, by rw [e1, e2, h2], ⟨by rw [e3, ← h1]; simp, fun x hx => ?_, by rw [e2, e3]; exact Nat.le_refl _⟩, fun n hn => ?_⟩
  · rw [e3]
    rcases List.mem_append.mp hx with g | g
    · have := h4 x g; omega
    · rw [List.mem_singleton.mp g, h1]; omega
  · rw [e2] at hn
    obtain ⟨c, k1, k2, k3, k4⟩ := h6 n hn
    refine ⟨c, by rw [e1, e2]; exact k1, ?_, k3, fun x hx hxn => ?_⟩
    · rcases List.mem_cons.mp k2 with g | g
      · rw [g]; exact List.mem_cons_self
      · exact List.mem_cons_of_mem _ (List.mem_append_left _ g)
    · rcases List.mem_append.mp hx with g | g
      · exact k4 x g hxn
      · rw [List.mem_singleton.mp g, h1] at hxn; omega
theorem CutI.step {s : AS} {t : List Int × Int} (h : CutI s t) (d : Dd) : CutI (stepA s d) (cutF isC t d) := by
  obtain ⟨h1, h2, ⟨h3, h4, h5⟩, h6⟩ := h
  cases d with
  | wr b v =>
    refine ⟨by simp [cutF, stepA, isW, h1], by simp [stepA, h2], ⟨by simpa [cutF, stepA, isC] using h3, by simpa [cutF, stepA, isC] using h4, by simp [stepA]; omega⟩, fun n hn => ?_⟩
    have hn : n < s.met.length + 1 := by simpa [stepA] using hn
    by_cases hl : n < s.met.length
    · obtain ⟨c, k1, k2, k3, k4⟩ := h6 n hl
      refine ⟨c, ?_, by simpa [cutF, isC] using k2, k3, by simpa [cutF, isC] using k4⟩
      have e1 : (s.met ++ [b]).take n = s.met.take n := List.take_append_of_le_length (by omega)
      have e2 : (s.met ++ [b]).getD n 0 = s.met.getD n 0 := by simp [List.getElem?_append_left hl]
      have e3 : (s.found ++ [sortU (sameN s.met b ++ nats s.cut)]).getD n [] = s.found.getD n [] := by simp [List.getElem?_append_left (show n < s.found.length by omega)]
      show (s.found ++ [sortU (sameN s.met b ++ nats s.cut)]).getD n [] = sortU (sameN ((s.met ++ [b]).take n) ((s.met ++ [b]).getD n 0) ++ nats c)
      rw [e1, e2, e3]
      exact k1
    · have hn2 : n = s.met.length := by omega
      subst hn2
      refine ⟨s.cut, ?_, by simpa [cutF, isC] using h3, h5, fun x hx _ => h4 x (by simpa [cutF, isC] using hx)⟩
      have e1 : (s.met ++ [b]).take s.met.length = s.met := by simp
      have e2 : (s.met ++ [b]).getD s.met.length 0 = b := by simp
      have e3 : (s.found ++ [sortU (sameN s.met b ++ nats s.cut)]).getD s.met.length [] = sortU (sameN s.met b ++ nats s.cut) := by rw [← h2]; simp
      show (s.found ++ [sortU (sameN s.met b ++ nats s.cut)]).getD s.met.length [] = sortU (sameN ((s.met ++ [b]).take s.met.length) ((s.met ++ [b]).getD s.met.length 0) ++ nats s.cut)
      rw [e1, e2, e3]
  | wall => exact cut_step ⟨h1, h2, ⟨h3, h4, h5⟩, h6⟩ rfl rfl rfl
  | sync => exact cut_step ⟨h1, h2, ⟨h3, h4, h5⟩, h6⟩ rfl rfl rfl
theorem cutI (ds : List Dd) : CutI (aheadN ds) (ds.foldl (cutF isC) ([], 0)) := by
  have : ∀ (ds : List Dd) (s : AS) (t : List Int × Int), CutI s t → CutI (ds.foldl stepA s) (ds.foldl (cutF isC) t) := by
    intro ds
    induction ds with
    | nil => intro s t h; exact h
    | cons d ds ih => intro s t h; exact ih _ _ (h.step d)
  exact this ds _ _ ⟨rfl, rfl, ⟨by simp, by simp, Nat.le_refl _⟩, fun n hn => by simp at hn⟩
end Wk
set_option Elab.async false
set_option linter.all false
set_option autoImplicit false
set_option maxRecDepth 100000
set_option maxHeartbeats 4000000
namespace Wk
open PySem PySem.Spec PyProof.Rows L2 DL FL
local macro_rules | `(tactic| walk_at "ev") => `(tactic| simp -implicitDefEqProofs only [List.length_range, lv_int, lv_bl, lv_non, lv20_ints, lv20_nil, eqD_int, eqD_str, eqD_bl, eqD_ints, eqD_nil_r, inD_ints, flat_ints, flat_int, flat_str, inD_cons, inD_nil, eqF_str, Option.getD_some, Option.getD_none, Int.reduceEq, decide_true, decide_false, Bool.not_true, Bool.not_false, Bool.false_and, Bool.and_false, Bool.or_false, Bool.or_true, Bool.false_or, Bool.true_or, decide_not, Bool.not_eq_true, ne_eq, not_true_eq_false, or_false, false_or, and_false, false_and, if_true, if_false, ite_true, ite_false, eq_self, wo_0, wn_0_1, wn_0_2, wo_1, wn_1_0, wn_1_2, wo_2, wn_2_0, wn_2_1, wt_SIZES_0, wt_SIZES_1, wt_SIZES_2, q_bind_ok, q_mk0, q_mk1, q_mk2, q_mk3, q_mk4, q_mk5, q_mk6, q_bind_ex, q_gB_ok, q_gB_ex, q_seq_nx, q_seq_rt, q_seq_bk, q_seq_ex, q_k, q_nm, q_nm_v, q_nm_o, q_mv, q_mv_v, q_mv_o, q_e2, q_e2K, q_e1, q_plus_i, q_plus_t, q_plus_l, q_times_c, q_sub_i, q_mod_i, q_fdiv_i, q_pow1018, q_neg_i, q_sl_o, q_rdL_s, q_rdL_l, q_rdL_f, q_rdS_t, q_rdS_l, q_rdS_f, q_rdS_s, q_rdN_l, q_rdN_s, q_rdF_l, q_rdF_f, q_vO_i, q_vO_b, q_vO_x, q_vO_n, q_vO_t, q_vO_l, q_vO_f, q_vO_s, q_ix, q_ixK, q_ixJ, q_len, q_lenK, q_tupOf, q_tupK, q_intB, q_sli_t, q_sli_l, q_sli_f, q_cmp, q_eq, q_eqK, q_in, q_inK, q_isN_n, q_isN_i, q_isN_b, q_isN_x, q_isN_t, q_isN_l, q_isN_s, q_isi, q_isiK, q_isiJ, q_kget, q_B, q_bK, q_tV, q_tvO, q_tNot, q_ntK, q_tAnd, q_tAK, q_tOr, q_tOK, q_tCh, q_chJ, q_chK, q_chL, q_if, q_ifK, q_and, q_or, q_andK, q_orK, q_aNil, q_aCons, q_aK, q_aL, q_allD_n, q_allD_c, q_tup, q_tupJ, q_dsp, q_dspJ, q_list, q_lstJ, q_slO, q_cat_l, q_fr, q_frK, q_pN, q_pS, q_psO, q_Sl, q_SlK, q_SlJ, q_sset, q_ssK, q_sort, q_srK, q_call, q_callK, q_callJ, q_callX, q_ts_n, q_ts_d, q_ts_s, q_tsK, q_sv_n, q_sv_d, q_sv_s, q_wb_n, q_wb_d, q_wb_s, q_frS_v, q_frS_o, q_owS, q_gNil, q_gSeq, q_cs, q_cs_ge, q_cs_v, q_cs_n, q_cs_o, q_io, q_io_v, q_io_n, q_io_o, q_gSet, q_setK, q_gSetO, q_soK, q_gPat, q_patK, q_nxO, q_put_n, q_put_t, q_sa_c, q_sa_n, q_gX, q_xK, q_gRet, q_rtK, q_gRetO, q_roK, q_gRetS, q_rsK, q_gIf, q_giK, q_apJ, q_gApp, q_apK, q_exJ, q_gExt, q_exK, q_siJ, q_siI, q_gSetI, q_siK, q_gFor, q_foJ, q_foK, q_gForR1, q_gForR2, q_fr2J, q_gFrz, q_fzK_o, q_fzK_v, q_gNo, q_end_n, q_end_r, q_end_x, q_for_n, q_st_n, q_st_r, q_st_x, atI_0, atI_1, atI_2, atI_3, List.length_cons, List.length_nil, List.cons_append, List.nil_append, List.getElem?_cons_zero, List.getElem?_cons_succ, List.getElem?_nil, List.set_cons_zero, List.set_cons_succ, List.take_succ_cons, List.take_zero, List.replicate_succ, List.replicate_zero, Option.map_some, Option.map_none, List.nodup_cons, List.nodup_nil, List.mem_cons, List.not_mem_nil, List.all_cons, List.all_nil, ltB, leB, gtB, geB, decide_eq_true_eq, ↓reduceIte, decide_true, decide_false, Bool.and_true, Bool.true_and, not_false_eq_true, and_self, and_true, true_and, Nat.reduceSub, Nat.reduceAdd, Nat.reduceLeDiff, Bool.false_eq_true, q_abs10, List.length_map, Nat.reduceLT, q_cast0, q_cast1, q_cast2, q_cast3, q_cast4, q_cast5, q_cast6, q_cast7, q_cast8, q_cast9, Int.reduceToNat, Int.reduceLT, Int.reduceLE, Int.reduceAdd, Int.reduceSub, Int.reduceNeg, Int.reduceMul, Int.toNat_one, Int.toNat_zero, or_true, true_or])
local macro_rules | `(tactic| walk_at "evs") => `(tactic| simp -implicitDefEqProofs only [*, List.length_range, lv_int, lv_bl, lv_non, lv20_ints, lv20_nil, eqD_int, eqD_str, eqD_bl, eqD_ints, eqD_nil_r, inD_ints, flat_ints, flat_int, flat_str, inD_cons, inD_nil, eqF_str, Option.getD_some, Option.getD_none, Int.reduceEq, decide_true, decide_false, Bool.not_true, Bool.not_false, Bool.false_and, Bool.and_false, Bool.or_false, Bool.or_true, Bool.false_or, Bool.true_or, decide_not, Bool.not_eq_true, ne_eq, not_true_eq_false, or_false, false_or, and_false, false_and, if_true, if_false, ite_true, ite_false, eq_self, wo_0, wn_0_1, wn_0_2, wo_1, wn_1_0, wn_1_2, wo_2, wn_2_0, wn_2_1, wt_SIZES_0, wt_SIZES_1, wt_SIZES_2, q_bind_ok, q_mk0, q_mk1, q_mk2, q_mk3, q_mk4, q_mk5, q_mk6, q_bind_ex, q_gB_ok, q_gB_ex, q_seq_nx, q_seq_rt, q_seq_bk, q_seq_ex, q_k, q_nm, q_nm_v, q_nm_o, q_mv, q_mv_v, q_mv_o, q_e2, q_e2K, q_e1, q_plus_i, q_plus_t, q_plus_l, q_times_c, q_sub_i, q_mod_i, q_fdiv_i, q_pow1018, q_neg_i, q_sl_o, q_rdL_s, q_rdL_l, q_rdL_f, q_rdS_t, q_rdS_l, q_rdS_f, q_rdS_s, q_rdN_l, q_rdN_s, q_rdF_l, q_rdF_f, q_vO_i, q_vO_b, q_vO_x, q_vO_n, q_vO_t, q_vO_l, q_vO_f, q_vO_s, q_ix, q_ixK, q_ixJ, q_len, q_lenK, q_tupOf, q_tupK, q_intB, q_sli_t, q_sli_l, q_sli_f, q_cmp, q_eq, q_eqK, q_in, q_inK, q_isN_n, q_isN_i, q_isN_b, q_isN_x, q_isN_t, q_isN_l, q_isN_s, q_isi, q_isiK, q_isiJ, q_kget, q_B, q_bK, q_tV, q_tvO, q_tNot, q_ntK, q_tAnd, q_tAK, q_tOr, q_tOK, q_tCh, q_chJ, q_chK, q_chL, q_if, q_ifK, q_and, q_or, q_andK, q_orK, q_aNil, q_aCons, q_aK, q_aL, q_allD_n, q_allD_c, q_tup, q_tupJ, q_dsp, q_dspJ, q_list, q_lstJ, q_slO, q_cat_l, q_fr, q_frK, q_pN, q_pS, q_psO, q_Sl, q_SlK, q_SlJ, q_sset, q_ssK, q_sort, q_srK, q_call, q_callK, q_callJ, q_callX, q_ts_n, q_ts_d, q_ts_s, q_tsK, q_sv_n, q_sv_d, q_sv_s, q_wb_n, q_wb_d, q_wb_s, q_frS_v, q_frS_o, q_owS, q_gNil, q_gSeq, q_cs, q_cs_ge, q_cs_v, q_cs_n, q_cs_o, q_io, q_io_v, q_io_n, q_io_o, q_gSet, q_setK, q_gSetO, q_soK, q_gPat, q_patK, q_nxO, q_put_n, q_put_t, q_sa_c, q_sa_n, q_gX, q_xK, q_gRet, q_rtK, q_gRetO, q_roK, q_gRetS, q_rsK, q_gIf, q_giK, q_apJ, q_gApp, q_apK, q_exJ, q_gExt, q_exK, q_siJ, q_siI, q_gSetI, q_siK, q_gFor, q_foJ, q_foK, q_gForR1, q_gForR2, q_fr2J, q_gFrz, q_fzK_o, q_fzK_v, q_gNo, q_end_n, q_end_r, q_end_x, q_for_n, q_st_n, q_st_r, q_st_x, atI_0, atI_1, atI_2, atI_3, List.length_cons, List.length_nil, List.cons_append, List.nil_append, List.getElem?_cons_zero, List.getElem?_cons_succ, List.getElem?_nil, List.set_cons_zero, List.set_cons_succ, List.take_succ_cons, List.take_zero, List.replicate_succ, List.replicate_zero, Option.map_some, Option.map_none, List.nodup_cons, List.nodup_nil, List.mem_cons, List.not_mem_nil, List.all_cons, List.all_nil, ltB, leB, gtB, geB, decide_eq_true_eq, ↓reduceIte, decide_true, decide_false, Bool.and_true, Bool.true_and, not_false_eq_true, and_self, and_true, true_and, Nat.reduceSub, Nat.reduceAdd, Nat.reduceLeDiff, Bool.false_eq_true, q_abs10, List.length_map, Nat.reduceLT, q_cast0, q_cast1, q_cast2, q_cast3, q_cast4, q_cast5, q_cast6, q_cast7, q_cast8, q_cast9, Int.reduceToNat, Int.reduceLT, Int.reduceLE, Int.reduceAdd, Int.reduceSub, Int.reduceNeg, Int.reduceMul, Int.toNat_one, Int.toNat_zero, or_true, true_or])
theorem seg_cut {ds : List Dd} {b e : Nat} (h : ((b : Int), (e : Int)) ∈ segs ds) {n : Nat} (h1 : b ≤ n) (h2 : n < e) {c : Nat} (hc : (c : Int) ∈ (0 : Int) :: cuts isC ds) (hcn : c ≤ n) (hm : ∀ x ∈ cuts isC ds, x ≤ (n : Int) → x ≤ (c : Int)) : c = b := by
  unfold segs at h
  obtain ⟨k, hk, e0⟩ := List.mem_map.mp h
  have hk := List.mem_range.mp hk
  have l1 : k < (cl ds).length := by omega
  have l2 : k + 1 < (cl ds).length := by omega
  have g1 : (cl ds).getD k 0 = (cl ds)[k] := by simp [l1]
  have g2 : (cl ds).getD (k + 1) 0 = (cl ds)[k + 1] := by simp [l2]
  rw [g1, g2] at e0
  have eb : (cl ds)[k] = (b : Int) := (Prod.mk.inj e0).1
  have ee : (cl ds)[k + 1] = (e : Int) := (Prod.mk.inj e0).2
  have pw := List.pairwise_iff_getElem.mp (cl_pw ds)
  have hlen : (cl ds).length = (cuts isC ds).length + 2 := by simp [cl]
  have front : ∀ (j : Nat) (hj : j < (cl ds).length), j < (cuts isC ds).length + 1 → (cl ds)[j] ∈ (0 : Int) :: cuts isC ds := fun j hj hj2 => by
    cases j with
    | zero => simp [cl]
    | succ j => simp only [cl, List.getElem_cons_succ]; rw [List.getElem_append_left (by omega)]; exact List.mem_cons_of_mem _ (List.getElem_mem _)
  have hb := front k l1 (by omega)
  rw [eb] at hb
  have hbc : (b : Int) ≤ (c : Int) := by
    rcases List.mem_cons.mp hb with g | g
    · omega
    · exact hm _ g (by omega)
  have hcl : (c : Int) ∈ cl ds := by
    unfold cl
    rcases List.mem_cons.mp hc with g | g
    · rw [g]; exact List.mem_cons_self
    · exact List.mem_cons_of_mem _ (List.mem_append_left _ g)
  obtain ⟨j, hj, ej⟩ := List.mem_iff_getElem.mp hcl
  by_cases hjk : j ≤ k
  · have : (cl ds)[j] ≤ (cl ds)[k] := by
      by_cases q : j = k
      · subst q; exact Int.le_refl _
      · exact pw j k hj l1 (by omega)
    omega
  · have : (cl ds)[k + 1] ≤ (cl ds)[j] := by
      by_cases q : k + 1 = j
      · subst q; exact Int.le_refl _
      · exact pw (k + 1) j l2 hj (by omega)
    omega
end Wk
set_option Elab.async false
set_option linter.all false
set_option autoImplicit false
set_option maxRecDepth 100000
set_option maxHeartbeats 4000000
namespace Wk
open PySem PySem.Spec PyProof.Rows L2 DL FL
local macro_rules | `(tactic| walk_at "ev") => `(tactic| simp -implicitDefEqProofs only [List.length_range, lv_int, lv_bl, lv_non, lv20_ints, lv20_nil, eqD_int, eqD_str, eqD_bl, eqD_ints, eqD_nil_r, inD_ints, flat_ints, flat_int, flat_str, inD_cons, inD_nil, eqF_str, Option.getD_some, Option.getD_none, Int.reduceEq, decide_true, decide_false, Bool.not_true, Bool.not_false, Bool.false_and, Bool.and_false, Bool.or_false, Bool.or_true, Bool.false_or, Bool.true_or, decide_not, Bool.not_eq_true, ne_eq, not_true_eq_false, or_false, false_or, and_false, false_and, if_true, if_false, ite_true, ite_false, eq_self, wo_0, wn_0_1, wn_0_2, wo_1, wn_1_0, wn_1_2, wo_2, wn_2_0, wn_2_1, wt_SIZES_0, wt_SIZES_1, wt_SIZES_2, q_bind_ok, q_mk0, q_mk1, q_mk2, q_mk3, q_mk4, q_mk5, q_mk6, q_bind_ex, q_gB_ok, q_gB_ex, q_seq_nx, q_seq_rt, q_seq_bk, q_seq_ex, q_k, q_nm, q_nm_v, q_nm_o, q_mv, q_mv_v, q_mv_o, q_e2, q_e2K, q_e1, q_plus_i, q_plus_t, q_plus_l, q_times_c, q_sub_i, q_mod_i, q_fdiv_i, q_pow1018, q_neg_i, q_sl_o, q_rdL_s, q_rdL_l, q_rdL_f, q_rdS_t, q_rdS_l, q_rdS_f, q_rdS_s, q_rdN_l, q_rdN_s, q_rdF_l, q_rdF_f, q_vO_i, q_vO_b, q_vO_x, q_vO_n, q_vO_t, q_vO_l, q_vO_f, q_vO_s, q_ix, q_ixK, q_ixJ, q_len, q_lenK, q_tupOf, q_tupK, q_intB, q_sli_t, q_sli_l, q_sli_f, q_cmp, q_eq, q_eqK, q_in, q_inK, q_isN_n, q_isN_i, q_isN_b, q_isN_x, q_isN_t, q_isN_l, q_isN_s, q_isi, q_isiK, q_isiJ, q_kget, q_B, q_bK, q_tV, q_tvO, q_tNot, q_ntK, q_tAnd, q_tAK, q_tOr, q_tOK, q_tCh, q_chJ, q_chK, q_chL, q_if, q_ifK, q_and, q_or, q_andK, q_orK, q_aNil, q_aCons, q_aK, q_aL, q_allD_n, q_allD_c, q_tup, q_tupJ, q_dsp, q_dspJ, q_list, q_lstJ, q_slO, q_cat_l, q_fr, q_frK, q_pN, q_pS, q_psO, q_Sl, q_SlK, q_SlJ, q_sset, q_ssK, q_sort, q_srK, q_call, q_callK, q_callJ, q_callX, q_ts_n, q_ts_d, q_ts_s, q_tsK, q_sv_n, q_sv_d, q_sv_s, q_wb_n, q_wb_d, q_wb_s, q_frS_v, q_frS_o, q_owS, q_gNil, q_gSeq, q_cs, q_cs_ge, q_cs_v, q_cs_n, q_cs_o, q_io, q_io_v, q_io_n, q_io_o, q_gSet, q_setK, q_gSetO, q_soK, q_gPat, q_patK, q_nxO, q_put_n, q_put_t, q_sa_c, q_sa_n, q_gX, q_xK, q_gRet, q_rtK, q_gRetO, q_roK, q_gRetS, q_rsK, q_gIf, q_giK, q_apJ, q_gApp, q_apK, q_exJ, q_gExt, q_exK, q_siJ, q_siI, q_gSetI, q_siK, q_gFor, q_foJ, q_foK, q_gForR1, q_gForR2, q_fr2J, q_gFrz, q_fzK_o, q_fzK_v, q_gNo, q_end_n, q_end_r, q_end_x, q_for_n, q_st_n, q_st_r, q_st_x, atI_0, atI_1, atI_2, atI_3, List.length_cons, List.length_nil, List.cons_append, List.nil_append, List.getElem?_cons_zero, List.getElem?_cons_succ, List.getElem?_nil, List.set_cons_zero, List.set_cons_succ, List.take_succ_cons, List.take_zero, List.replicate_succ, List.replicate_zero, Option.map_some, Option.map_none, List.nodup_cons, List.nodup_nil, List.mem_cons, List.not_mem_nil, List.all_cons, List.all_nil, ltB, leB, gtB, geB, decide_eq_true_eq, ↓reduceIte, decide_true, decide_false, Bool.and_true, Bool.true_and, not_false_eq_true, and_self, and_true, true_and, Nat.reduceSub, Nat.reduceAdd, Nat.reduceLeDiff, Bool.false_eq_true, q_abs10, List.length_map, Nat.reduceLT, q_cast0, q_cast1, q_cast2, q_cast3, q_cast4, q_cast5, q_cast6, q_cast7, q_cast8, q_cast9, Int.reduceToNat, Int.reduceLT, Int.reduceLE, Int.reduceAdd, Int.reduceSub, Int.reduceNeg, Int.reduceMul, Int.toNat_one, Int.toNat_zero, or_true, true_or])
local macro_rules | `(tactic| walk_at "evs") => `(tactic| simp -implicitDefEqProofs only [*, List.length_range, lv_int, lv_bl, lv_non, lv20_ints, lv20_nil, eqD_int, eqD_str, eqD_bl, eqD_ints, eqD_nil_r, inD_ints, flat_ints, flat_int, flat_str, inD_cons, inD_nil, eqF_str, Option.getD_some, Option.getD_none, Int.reduceEq, decide_true, decide_false, Bool.not_true, Bool.not_false, Bool.false_and, Bool.and_false, Bool.or_false, Bool.or_true, Bool.false_or, Bool.true_or, decide_not, Bool.not_eq_true, ne_eq, not_true_eq_false, or_false, false_or, and_false, false_and, if_true, if_false, ite_true, ite_false, eq_self, wo_0, wn_0_1, wn_0_2, wo_1, wn_1_0, wn_1_2, wo_2, wn_2_0, wn_2_1, wt_SIZES_0, wt_SIZES_1, wt_SIZES_2, q_bind_ok, q_mk0, q_mk1, q_mk2, q_mk3, q_mk4, q_mk5, q_mk6, q_bind_ex, q_gB_ok, q_gB_ex, q_seq_nx, q_seq_rt, q_seq_bk, q_seq_ex, q_k, q_nm, q_nm_v, q_nm_o, q_mv, q_mv_v, q_mv_o, q_e2, q_e2K, q_e1, q_plus_i, q_plus_t, q_plus_l, q_times_c, q_sub_i, q_mod_i, q_fdiv_i, q_pow1018, q_neg_i, q_sl_o, q_rdL_s, q_rdL_l, q_rdL_f, q_rdS_t, q_rdS_l, q_rdS_f, q_rdS_s, q_rdN_l, q_rdN_s, q_rdF_l, q_rdF_f, q_vO_i, q_vO_b, q_vO_x, q_vO_n, q_vO_t, q_vO_l, q_vO_f, q_vO_s, q_ix, q_ixK, q_ixJ, q_len, q_lenK, q_tupOf, q_tupK, q_intB, q_sli_t, q_sli_l, q_sli_f, q_cmp, q_eq, q_eqK, q_in, q_inK, q_isN_n, q_isN_i, q_isN_b, q_isN_x, q_isN_t, q_isN_l, q_isN_s, q_isi, q_isiK, q_isiJ, q_kget, q_B, q_bK, q_tV, q_tvO, q_tNot, q_ntK, q_tAnd, q_tAK, q_tOr, q_tOK, q_tCh, q_chJ, q_chK, q_chL, q_if, q_ifK, q_and, q_or, q_andK, q_orK, q_aNil, q_aCons, q_aK, q_aL, q_allD_n, q_allD_c, q_tup, q_tupJ, q_dsp, q_dspJ, q_list, q_lstJ, q_slO, q_cat_l, q_fr, q_frK, q_pN, q_pS, q_psO, q_Sl, q_SlK, q_SlJ, q_sset, q_ssK, q_sort, q_srK, q_call, q_callK, q_callJ, q_callX, q_ts_n, q_ts_d, q_ts_s, q_tsK, q_sv_n, q_sv_d, q_sv_s, q_wb_n, q_wb_d, q_wb_s, q_frS_v, q_frS_o, q_owS, q_gNil, q_gSeq, q_cs, q_cs_ge, q_cs_v, q_cs_n, q_cs_o, q_io, q_io_v, q_io_n, q_io_o, q_gSet, q_setK, q_gSetO, q_soK, q_gPat, q_patK, q_nxO, q_put_n, q_put_t, q_sa_c, q_sa_n, q_gX, q_xK, q_gRet, q_rtK, q_gRetO, q_roK, q_gRetS, q_rsK, q_gIf, q_giK, q_apJ, q_gApp, q_apK, q_exJ, q_gExt, q_exK, q_siJ, q_siI, q_gSetI, q_siK, q_gFor, q_foJ, q_foK, q_gForR1, q_gForR2, q_fr2J, q_gFrz, q_fzK_o, q_fzK_v, q_gNo, q_end_n, q_end_r, q_end_x, q_for_n, q_st_n, q_st_r, q_st_x, atI_0, atI_1, atI_2, atI_3, List.length_cons, List.length_nil, List.cons_append, List.nil_append, List.getElem?_cons_zero, List.getElem?_cons_succ, List.getElem?_nil, List.set_cons_zero, List.set_cons_succ, List.take_succ_cons, List.take_zero, List.replicate_succ, List.replicate_zero, Option.map_some, Option.map_none, List.nodup_cons, List.nodup_nil, List.mem_cons, List.not_mem_nil, List.all_cons, List.all_nil, ltB, leB, gtB, geB, decide_eq_true_eq, ↓reduceIte, decide_true, decide_false, Bool.and_true, Bool.true_and, not_false_eq_true, and_self, and_true, true_and, Nat.reduceSub, Nat.reduceAdd, Nat.reduceLeDiff, Bool.false_eq_true, q_abs10, List.length_map, Nat.reduceLT, q_cast0, q_cast1, q_cast2, q_cast3, q_cast4, q_cast5, q_cast6, q_cast7, q_cast8, q_cast9, Int.reduceToNat, Int.reduceLT, Int.reduceLE, Int.reduceAdd, Int.reduceSub, Int.reduceNeg, Int.reduceMul, Int.toNat_one, Int.toNat_zero, or_true, true_or])
/-! ### may, both ways -/
theorem found_mem {ds : List Dd} {n : Nat} (hn : n < (wrs ds).length) : ∃ c : Nat, ((c : Int) ∈ (0 : Int) :: cuts isC ds) ∧ c ≤ n ∧ (∀ x ∈ cuts isC ds, x ≤ (n : Int) → x ≤ (c : Int)) ∧
    ∀ x : Int, x ∈ (aheadN ds).found.getD n [] ↔ (0 ≤ x ∧ x < (n : Int) ∧ blk (wrs ds) x = blk (wrs ds) n) ∨ (0 ≤ x ∧ x < (c : Int)) := by
  have hm := met_len ds
  have hl : (aheadN ds).met.length = (wrs ds).length := by rw [hm, List.length_map]
  obtain ⟨c, k1, k2, k3, k4⟩ := (cutI ds).a n (by omega)
  refine ⟨c, k2, k3, k4, fun x => ?_⟩
  rw [k1, sortU_mem, List.mem_append, nats_mem]
  have e : x ∈ sameN ((aheadN ds).met.take n) ((aheadN ds).met.getD n 0) ↔ (0 ≤ x ∧ x < (n : Int) ∧ blk (wrs ds) x = blk (wrs ds) n) := by
    unfold sameN
    rw [List.mem_filter, nats_mem, List.length_take, Nat.min_eq_left (by omega), decide_eq_true_eq]
    have g : ∀ j : Nat, j < (wrs ds).length → (aheadN ds).met.getD j 0 = blk (wrs ds) j := fun j hj => by
      rw [hm]; unfold blk; simp [hj]
    constructor
    · rintro ⟨⟨a, b⟩, d⟩
      obtain ⟨j, rfl⟩ := Int.eq_ofNat_of_zero_le a
      have hj : j < n := by omega
      rw [Int.toNat_natCast] at d
      have e1 : ((aheadN ds).met.take n).getD j 0 = (aheadN ds).met.getD j 0 := by simp [List.getElem?_take, hj]
      rw [e1, g j (by omega), g n hn] at d
      exact ⟨a, b, d⟩
    · rintro ⟨a, b, d⟩
      obtain ⟨j, rfl⟩ := Int.eq_ofNat_of_zero_le a
      have hj : j < n := by omega
      refine ⟨⟨a, b⟩, ?_⟩
      rw [Int.toNat_natCast]
      have e1 : ((aheadN ds).met.take n).getD j 0 = (aheadN ds).met.getD j 0 := by simp [List.getElem?_take, hj]
      rw [e1, g j (by omega), g n hn]
      exact d
  rw [e]
end Wk
set_option Elab.async false
set_option linter.all false
set_option autoImplicit false
set_option maxRecDepth 100000
set_option maxHeartbeats 4000000
namespace Wk
open PySem PySem.Spec PyProof.Rows L2 DL FL
local macro_rules | `(tactic| walk_at "ev") => `(tactic| simp -implicitDefEqProofs only [List.length_range, lv_int, lv_bl, lv_non, lv20_ints, lv20_nil, eqD_int, eqD_str, eqD_bl, eqD_ints, eqD_nil_r, inD_ints, flat_ints, flat_int, flat_str, inD_cons, inD_nil, eqF_str, Option.getD_some, Option.getD_none, Int.reduceEq, decide_true, decide_false, Bool.not_true, Bool.not_false, Bool.false_and, Bool.and_false, Bool.or_false, Bool.or_true, Bool.false_or, Bool.true_or, decide_not, Bool.not_eq_true, ne_eq, not_true_eq_false, or_false, false_or, and_false, false_and, if_true, if_false, ite_true, ite_false, eq_self, wo_0, wn_0_1, wn_0_2, wo_1, wn_1_0, wn_1_2, wo_2, wn_2_0, wn_2_1, wt_SIZES_0, wt_SIZES_1, wt_SIZES_2, q_bind_ok, q_mk0, q_mk1, q_mk2, q_mk3, q_mk4, q_mk5, q_mk6, q_bind_ex, q_gB_ok, q_gB_ex, q_seq_nx, q_seq_rt, q_seq_bk, q_seq_ex, q_k, q_nm, q_nm_v, q_nm_o, q_mv, q_mv_v, q_mv_o, q_e2, q_e2K, q_e1, q_plus_i, q_plus_t, q_plus_l, q_times_c, q_sub_i, q_mod_i, q_fdiv_i, q_pow1018, q_neg_i, q_sl_o, q_rdL_s, q_rdL_l, q_rdL_f, q_rdS_t, q_rdS_l, q_rdS_f, q_rdS_s, q_rdN_l, q_rdN_s, q_rdF_l, q_rdF_f, q_vO_i, q_vO_b, q_vO_x, q_vO_n, q_vO_t, q_vO_l, q_vO_f, q_vO_s, q_ix, q_ixK, q_ixJ, q_len, q_lenK, q_tupOf, q_tupK, q_intB, q_sli_t, q_sli_l, q_sli_f, q_cmp, q_eq, q_eqK, q_in, q_inK, q_isN_n, q_isN_i, q_isN_b, q_isN_x, q_isN_t, q_isN_l, q_isN_s, q_isi, q_isiK, q_isiJ, q_kget, q_B, q_bK, q_tV, q_tvO, q_tNot, q_ntK, q_tAnd, q_tAK, q_tOr, q_tOK, q_tCh, q_chJ, q_chK, q_chL, q_if, q_ifK, q_and, q_or, q_andK, q_orK, q_aNil, q_aCons, q_aK, q_aL, q_allD_n, q_allD_c, q_tup, q_tupJ, q_dsp, q_dspJ, q_list, q_lstJ, q_slO, q_cat_l, q_fr, q_frK, q_pN, q_pS, q_psO, q_Sl, q_SlK, q_SlJ, q_sset, q_ssK, q_sort, q_srK, q_call, q_callK, q_callJ, q_callX, q_ts_n, q_ts_d, q_ts_s, q_tsK, q_sv_n, q_sv_d, q_sv_s, q_wb_n, q_wb_d, q_wb_s, q_frS_v, q_frS_o, q_owS, q_gNil, q_gSeq, q_cs, q_cs_ge, q_cs_v, q_cs_n, q_cs_o, q_io, q_io_v, q_io_n, q_io_o, q_gSet, q_setK, q_gSetO, q_soK, q_gPat, q_patK, q_nxO, q_put_n, q_put_t, q_sa_c, q_sa_n, q_gX, q_xK, q_gRet, q_rtK, q_gRetO, q_roK, q_gRetS, q_rsK, q_gIf, q_giK, q_apJ, q_gApp, q_apK, q_exJ, q_gExt, q_exK, q_siJ, q_siI, q_gSetI, q_siK, q_gFor, q_foJ, q_foK, q_gForR1, q_gForR2, q_fr2J, q_gFrz, q_fzK_o, q_fzK_v, q_gNo, q_end_n, q_end_r, q_end_x, q_for_n, q_st_n, q_st_r, q_st_x, atI_0, atI_1, atI_2, atI_3, List.length_cons, List.length_nil, List.cons_append, List.nil_append, List.getElem?_cons_zero, List.getElem?_cons_succ, List.getElem?_nil, List.set_cons_zero, List.set_cons_succ, List.take_succ_cons, List.take_zero, List.replicate_succ, List.replicate_zero, Option.map_some, Option.map_none, List.nodup_cons, List.nodup_nil, List.mem_cons, List.not_mem_nil, List.all_cons, List.all_nil, ltB, leB, gtB, geB, decide_eq_true_eq, ↓reduceIte, decide_true, decide_false, Bool.and_true, Bool.true_and, not_false_eq_true, and_self, and_true, true_and, Nat.reduceSub, Nat.reduceAdd, Nat.reduceLeDiff, Bool.false_eq_true, q_abs10, List.length_map, Nat.reduceLT, q_cast0, q_cast1, q_cast2, q_cast3, q_cast4, q_cast5, q_cast6, q_cast7, q_cast8, q_cast9, Int.reduceToNat, Int.reduceLT, Int.reduceLE, Int.reduceAdd, Int.reduceSub, Int.reduceNeg, Int.reduceMul, Int.toNat_one, Int.toNat_zero, or_true, true_or])
local macro_rules | `(tactic| walk_at "evs") => `(tactic| simp -implicitDefEqProofs only [*, List.length_range, lv_int, lv_bl, lv_non, lv20_ints, lv20_nil, eqD_int, eqD_str, eqD_bl, eqD_ints, eqD_nil_r, inD_ints, flat_ints, flat_int, flat_str, inD_cons, inD_nil, eqF_str, Option.getD_some, Option.getD_none, Int.reduceEq, decide_true, decide_false, Bool.not_true, Bool.not_false, Bool.false_and, Bool.and_false, Bool.or_false, Bool.or_true, Bool.false_or, Bool.true_or, decide_not, Bool.not_eq_true, ne_eq, not_true_eq_false, or_false, false_or, and_false, false_and, if_true, if_false, ite_true, ite_false, eq_self, wo_0, wn_0_1, wn_0_2, wo_1, wn_1_0, wn_1_2, wo_2, wn_2_0, wn_2_1, wt_SIZES_0, wt_SIZES_1, wt_SIZES_2, q_bind_ok, q_mk0, q_mk1, q_mk2, q_mk3, q_mk4, q_mk5, q_mk6, q_bind_ex, q_gB_ok, q_gB_ex, q_seq_nx, q_seq_rt, q_seq_bk, q_seq_ex, q_k, q_nm, q_nm_v, q_nm_o, q_mv, q_mv_v, q_mv_o, q_e2, q_e2K, q_e1, q_plus_i, q_plus_t, q_plus_l, q_times_c, q_sub_i, q_mod_i, q_fdiv_i, q_pow1018, q_neg_i, q_sl_o, q_rdL_s, q_rdL_l, q_rdL_f, q_rdS_t, q_rdS_l, q_rdS_f, q_rdS_s, q_rdN_l, q_rdN_s, q_rdF_l, q_rdF_f, q_vO_i, q_vO_b, q_vO_x, q_vO_n, q_vO_t, q_vO_l, q_vO_f, q_vO_s, q_ix, q_ixK, q_ixJ, q_len, q_lenK, q_tupOf, q_tupK, q_intB, q_sli_t, q_sli_l, q_sli_f, q_cmp, q_eq, q_eqK, q_in, q_inK, q_isN_n, q_isN_i, q_isN_b, q_isN_x, q_isN_t, q_isN_l, q_isN_s, q_isi, q_isiK, q_isiJ, q_kget, q_B, q_bK, q_tV, q_tvO, q_tNot, q_ntK, q_tAnd, q_tAK, q_tOr, q_tOK, q_tCh, q_chJ, q_chK, q_chL, q_if, q_ifK, q_and, q_or, q_andK, q_orK, q_aNil, q_aCons, q_aK, q_aL, q_allD_n, q_allD_c, q_tup, q_tupJ, q_dsp, q_dspJ, q_list, q_lstJ, q_slO, q_cat_l, q_fr, q_frK, q_pN, q_pS, q_psO, q_Sl, q_SlK, q_SlJ, q_sset, q_ssK, q_sort, q_srK, q_call, q_callK, q_callJ, q_callX, q_ts_n, q_ts_d, q_ts_s, q_tsK, q_sv_n, q_sv_d, q_sv_s, q_wb_n, q_wb_d, q_wb_s, q_frS_v, q_frS_o, q_owS, q_gNil, q_gSeq, q_cs, q_cs_ge, q_cs_v, q_cs_n, q_cs_o, q_io, q_io_v, q_io_n, q_io_o, q_gSet, q_setK, q_gSetO, q_soK, q_gPat, q_patK, q_nxO, q_put_n, q_put_t, q_sa_c, q_sa_n, q_gX, q_xK, q_gRet, q_rtK, q_gRetO, q_roK, q_gRetS, q_rsK, q_gIf, q_giK, q_apJ, q_gApp, q_apK, q_exJ, q_gExt, q_exK, q_siJ, q_siI, q_gSetI, q_siK, q_gFor, q_foJ, q_foK, q_gForR1, q_gForR2, q_fr2J, q_gFrz, q_fzK_o, q_fzK_v, q_gNo, q_end_n, q_end_r, q_end_x, q_for_n, q_st_n, q_st_r, q_st_x, atI_0, atI_1, atI_2, atI_3, List.length_cons, List.length_nil, List.cons_append, List.nil_append, List.getElem?_cons_zero, List.getElem?_cons_succ, List.getElem?_nil, List.set_cons_zero, List.set_cons_succ, List.take_succ_cons, List.take_zero, List.replicate_succ, List.replicate_zero, Option.map_some, Option.map_none, List.nodup_cons, List.nodup_nil, List.mem_cons, List.not_mem_nil, List.all_cons, List.all_nil, ltB, leB, gtB, geB, decide_eq_true_eq, ↓reduceIte, decide_true, decide_false, Bool.and_true, Bool.true_and, not_false_eq_true, and_self, and_true, true_and, Nat.reduceSub, Nat.reduceAdd, Nat.reduceLeDiff, Bool.false_eq_true, q_abs10, List.length_map, Nat.reduceLT, q_cast0, q_cast1, q_cast2, q_cast3, q_cast4, q_cast5, q_cast6, q_cast7, q_cast8, q_cast9, Int.reduceToNat, Int.reduceLT, Int.reduceLE, Int.reduceAdd, Int.reduceSub, Int.reduceNeg, Int.reduceMul, Int.toNat_one, Int.toNat_zero, or_true, true_or])
theorem cuts_sub : ∀ (ds : List Dd) (s t : List Int × Int), s.2 = t.2 → (∀ x ∈ s.1, x ∈ t.1) → ∀ x ∈ (ds.foldl (cutF isS) s).1, x ∈ (ds.foldl (cutF isC) t).1
  | [], s, t, _, h => h
  | d :: ds, s, t, e, h => by
    rw [List.foldl_cons, List.foldl_cons]
    refine cuts_sub ds _ _ (by simp [cutF, e]) fun x hx => ?_
    cases d with
    | wr b v => simp [cutF, isS, isC] at hx ⊢; exact h x hx
    | wall => simp [cutF, isS, isC] at hx ⊢; exact .inl (h x hx)
    | sync =>
      simp [cutF, isS, isC] at hx ⊢
      rcases hx with g | g
      · exact .inl (h x g)
      · exact .inr (by rw [g, e])
theorem sync_mem (ds : List Dd) : sync ds ∈ (0 : Int) :: cuts isC ds := by
  have h9 : ∀ (l : List Int) (a : Int), (a :: l).getLastD 0 ∈ a :: l := fun l => by
    induction l with
    | nil => intro a; simp
    | cons b r ih =>
      intro a
      rw [List.getLastD_cons]
      have := ih b
      rw [List.getLastD_cons] at this ⊢
      exact List.mem_cons_of_mem _ this
  have := h9 (cuts isS ds) 0
  rcases List.mem_cons.mp this with g | g
  · unfold sync; rw [g]; exact List.mem_cons_self
  · exact List.mem_cons_of_mem _ (cuts_sub ds ([], 0) ([], 0) rfl (fun x hx => hx) _ g)
/-- a segment that begins at a cut -/
theorem seg_at {ds : List Dd} {b : Nat} (h : (b : Int) ∈ (0 : Int) :: cuts isC ds) : ∃ e : Nat, ((b : Int), (e : Int)) ∈ segs ds := by
  obtain ⟨j, hj, ej⟩ := List.mem_iff_getElem.mp h
  have hlen : (cl ds).length = (cuts isC ds).length + 2 := by simp [cl]
  rw [List.length_cons] at hj
  have l1 : j < (cl ds).length := by omega
  have l2 : j + 1 < (cl ds).length := by omega
  have e1 : (cl ds)[j] = (b : Int) := by
    rw [← ej]
    cases j with
    | zero => simp [cl]
    | succ j => simp only [cl, List.getElem_cons_succ]; rw [List.getElem_append_left (by omega)]
  have hb := (cl_bd ds _ (List.getElem_mem l2)).1
  refine ⟨((cl ds)[j + 1]).toNat, ?_⟩
  unfold segs
  refine List.mem_map.mpr ⟨j, List.mem_range.mpr (by omega), ?_⟩
  have g1 : (cl ds).getD j 0 = (cl ds)[j] := by simp [l1]
  have g2 : (cl ds).getD (j + 1) 0 = (cl ds)[j + 1] := by simp [l2]
  rw [g1, g2, e1, Int.toNat_of_nonneg hb]
/-- a segment that holds a write -/
theorem seg_of {ds : List Dd} {n : Nat} (h : n < (wrs ds).length) : ∃ b e : Nat, ((b : Int), (e : Int)) ∈ segs ds ∧ b ≤ n ∧ n < e := by
  have hlen : (cl ds).length = (cuts isC ds).length + 2 := by simp [cl]
  have key : ∀ m : Nat, m + 1 < (cl ds).length → (∃ b e : Nat, ((b : Int), (e : Int)) ∈ segs ds ∧ b ≤ n ∧ n < e) ∨ (cl ds).getD (m + 1) 0 ≤ (n : Int) := by
    intro m
    induction m with
    | zero =>
      intro hm
      by_cases q : (cl ds).getD 1 0 ≤ (n : Int)
      · exact .inr q
      · obtain ⟨e, he⟩ := seg_at (ds := ds) (b := 0) List.mem_cons_self
        have l2 : 1 < (cl ds).length := hm
        have hb := (cl_bd ds _ (List.getElem_mem l2)).1
        have g2 : (cl ds).getD 1 0 = (cl ds)[1] := by simp [l2]
        refine .inl ⟨0, ((cl ds)[1]).toNat, ?_, by omega, by rw [g2] at q; omega⟩
        unfold segs
        refine List.mem_map.mpr ⟨0, List.mem_range.mpr (by omega), ?_⟩
        rw [g2, Int.toNat_of_nonneg hb]
        simp [cl]
    | succ m ih =>
      intro hm
      rcases ih (by omega) with g | g
      · exact .inl g
      · by_cases q : (cl ds).getD (m + 1 + 1) 0 ≤ (n : Int)
        · exact .inr q
        · have l1 : m + 1 < (cl ds).length := by omega
          have hb1 := (cl_bd ds _ (List.getElem_mem l1)).1
          have hb2 := (cl_bd ds _ (List.getElem_mem hm)).1
          have g1 : (cl ds).getD (m + 1) 0 = (cl ds)[m + 1] := by simp [l1]
          have g2 : (cl ds).getD (m + 1 + 1) 0 = (cl ds)[m + 1 + 1] := by simp [hm]
          refine .inl ⟨((cl ds)[m + 1]).toNat, ((cl ds)[m + 1 + 1]).toNat, ?_, by rw [g1] at g; omega, by rw [g2] at q; omega⟩
          unfold segs
          refine List.mem_map.mpr ⟨m + 1, List.mem_range.mpr (by omega), ?_⟩
          rw [g1, g2, Int.toNat_of_nonneg hb1, Int.toNat_of_nonneg hb2]
  rcases key ((cl ds).length - 2) (by omega) with g | g
  · exact g
  · have e1 : (cl ds).length - 2 + 1 = (cuts isC ds).length + 1 := by omega
    have e2 : (cl ds).getD ((cuts isC ds).length + 1) 0 = ((wrs ds).length : Int) := by simp [cl]
    rw [e1, e2] at g
    omega
end Wk
set_option Elab.async false
set_option linter.all false
set_option autoImplicit false
set_option maxRecDepth 100000
set_option maxHeartbeats 4000000
namespace Wk
open PySem PySem.Spec PyProof.Rows L2 DL FL
local macro_rules | `(tactic| walk_at "ev") => `(tactic| simp -implicitDefEqProofs only [List.length_range, lv_int, lv_bl, lv_non, lv20_ints, lv20_nil, eqD_int, eqD_str, eqD_bl, eqD_ints, eqD_nil_r, inD_ints, flat_ints, flat_int, flat_str, inD_cons, inD_nil, eqF_str, Option.getD_some, Option.getD_none, Int.reduceEq, decide_true, decide_false, Bool.not_true, Bool.not_false, Bool.false_and, Bool.and_false, Bool.or_false, Bool.or_true, Bool.false_or, Bool.true_or, decide_not, Bool.not_eq_true, ne_eq, not_true_eq_false, or_false, false_or, and_false, false_and, if_true, if_false, ite_true, ite_false, eq_self, wo_0, wn_0_1, wn_0_2, wo_1, wn_1_0, wn_1_2, wo_2, wn_2_0, wn_2_1, wt_SIZES_0, wt_SIZES_1, wt_SIZES_2, q_bind_ok, q_mk0, q_mk1, q_mk2, q_mk3, q_mk4, q_mk5, q_mk6, q_bind_ex, q_gB_ok, q_gB_ex, q_seq_nx, q_seq_rt, q_seq_bk, q_seq_ex, q_k, q_nm, q_nm_v, q_nm_o, q_mv, q_mv_v, q_mv_o, q_e2, q_e2K, q_e1, q_plus_i, q_plus_t, q_plus_l, q_times_c, q_sub_i, q_mod_i, q_fdiv_i, q_pow1018, q_neg_i, q_sl_o, q_rdL_s, q_rdL_l, q_rdL_f, q_rdS_t, q_rdS_l, q_rdS_f, q_rdS_s, q_rdN_l, q_rdN_s, q_rdF_l, q_rdF_f, q_vO_i, q_vO_b, q_vO_x, q_vO_n, q_vO_t, q_vO_l, q_vO_f, q_vO_s, q_ix, q_ixK, q_ixJ, q_len, q_lenK, q_tupOf, q_tupK, q_intB, q_sli_t, q_sli_l, q_sli_f, q_cmp, q_eq, q_eqK, q_in, q_inK, q_isN_n, q_isN_i, q_isN_b, q_isN_x, q_isN_t, q_isN_l, q_isN_s, q_isi, q_isiK, q_isiJ, q_kget, q_B, q_bK, q_tV, q_tvO, q_tNot, q_ntK, q_tAnd, q_tAK, q_tOr, q_tOK, q_tCh, q_chJ, q_chK, q_chL, q_if, q_ifK, q_and, q_or, q_andK, q_orK, q_aNil, q_aCons, q_aK, q_aL, q_allD_n, q_allD_c, q_tup, q_tupJ, q_dsp, q_dspJ, q_list, q_lstJ, q_slO, q_cat_l, q_fr, q_frK, q_pN, q_pS, q_psO, q_Sl, q_SlK, q_SlJ, q_sset, q_ssK, q_sort, q_srK, q_call, q_callK, q_callJ, q_callX, q_ts_n, q_ts_d, q_ts_s, q_tsK, q_sv_n, q_sv_d, q_sv_s, q_wb_n, q_wb_d, q_wb_s, q_frS_v, q_frS_o, q_owS, q_gNil, q_gSeq, q_cs, q_cs_ge, q_cs_v, q_cs_n, q_cs_o, q_io, q_io_v, q_io_n, q_io_o, q_gSet, q_setK, q_gSetO, q_soK, q_gPat, q_patK, q_nxO, q_put_n, q_put_t, q_sa_c, q_sa_n, q_gX, q_xK, q_gRet, q_rtK, q_gRetO, q_roK, q_gRetS, q_rsK, q_gIf, q_giK, q_apJ, q_gApp, q_apK, q_exJ, q_gExt, q_exK, q_siJ, q_siI, q_gSetI, q_siK, q_gFor, q_foJ, q_foK, q_gForR1, q_gForR2, q_fr2J, q_gFrz, q_fzK_o, q_fzK_v, q_gNo, q_end_n, q_end_r, q_end_x, q_for_n, q_st_n, q_st_r, q_st_x, atI_0, atI_1, atI_2, atI_3, List.length_cons, List.length_nil, List.cons_append, List.nil_append, List.getElem?_cons_zero, List.getElem?_cons_succ, List.getElem?_nil, List.set_cons_zero, List.set_cons_succ, List.take_succ_cons, List.take_zero, List.replicate_succ, List.replicate_zero, Option.map_some, Option.map_none, List.nodup_cons, List.nodup_nil, List.mem_cons, List.not_mem_nil, List.all_cons, List.all_nil, ltB, leB, gtB, geB, decide_eq_true_eq, ↓reduceIte, decide_true, decide_false, Bool.and_true, Bool.true_and, not_false_eq_true, and_self, and_true, true_and, Nat.reduceSub, Nat.reduceAdd, Nat.reduceLeDiff, Bool.false_eq_true, q_abs10, List.length_map, Nat.reduceLT, q_cast0, q_cast1, q_cast2, q_cast3, q_cast4, q_cast5, q_cast6, q_cast7, q_cast8, q_cast9, Int.reduceToNat, Int.reduceLT, Int.reduceLE, Int.reduceAdd, Int.reduceSub, Int.reduceNeg, Int.reduceMul, Int.toNat_one, Int.toNat_zero, or_true, true_or])
local macro_rules | `(tactic| walk_at "evs") => `(tactic| simp -implicitDefEqProofs only [*, List.length_range, lv_int, lv_bl, lv_non, lv20_ints, lv20_nil, eqD_int, eqD_str, eqD_bl, eqD_ints, eqD_nil_r, inD_ints, flat_ints, flat_int, flat_str, inD_cons, inD_nil, eqF_str, Option.getD_some, Option.getD_none, Int.reduceEq, decide_true, decide_false, Bool.not_true, Bool.not_false, Bool.false_and, Bool.and_false, Bool.or_false, Bool.or_true, Bool.false_or, Bool.true_or, decide_not, Bool.not_eq_true, ne_eq, not_true_eq_false, or_false, false_or, and_false, false_and, if_true, if_false, ite_true, ite_false, eq_self, wo_0, wn_0_1, wn_0_2, wo_1, wn_1_0, wn_1_2, wo_2, wn_2_0, wn_2_1, wt_SIZES_0, wt_SIZES_1, wt_SIZES_2, q_bind_ok, q_mk0, q_mk1, q_mk2, q_mk3, q_mk4, q_mk5, q_mk6, q_bind_ex, q_gB_ok, q_gB_ex, q_seq_nx, q_seq_rt, q_seq_bk, q_seq_ex, q_k, q_nm, q_nm_v, q_nm_o, q_mv, q_mv_v, q_mv_o, q_e2, q_e2K, q_e1, q_plus_i, q_plus_t, q_plus_l, q_times_c, q_sub_i, q_mod_i, q_fdiv_i, q_pow1018, q_neg_i, q_sl_o, q_rdL_s, q_rdL_l, q_rdL_f, q_rdS_t, q_rdS_l, q_rdS_f, q_rdS_s, q_rdN_l, q_rdN_s, q_rdF_l, q_rdF_f, q_vO_i, q_vO_b, q_vO_x, q_vO_n, q_vO_t, q_vO_l, q_vO_f, q_vO_s, q_ix, q_ixK, q_ixJ, q_len, q_lenK, q_tupOf, q_tupK, q_intB, q_sli_t, q_sli_l, q_sli_f, q_cmp, q_eq, q_eqK, q_in, q_inK, q_isN_n, q_isN_i, q_isN_b, q_isN_x, q_isN_t, q_isN_l, q_isN_s, q_isi, q_isiK, q_isiJ, q_kget, q_B, q_bK, q_tV, q_tvO, q_tNot, q_ntK, q_tAnd, q_tAK, q_tOr, q_tOK, q_tCh, q_chJ, q_chK, q_chL, q_if, q_ifK, q_and, q_or, q_andK, q_orK, q_aNil, q_aCons, q_aK, q_aL, q_allD_n, q_allD_c, q_tup, q_tupJ, q_dsp, q_dspJ, q_list, q_lstJ, q_slO, q_cat_l, q_fr, q_frK, q_pN, q_pS, q_psO, q_Sl, q_SlK, q_SlJ, q_sset, q_ssK, q_sort, q_srK, q_call, q_callK, q_callJ, q_callX, q_ts_n, q_ts_d, q_ts_s, q_tsK, q_sv_n, q_sv_d, q_sv_s, q_wb_n, q_wb_d, q_wb_s, q_frS_v, q_frS_o, q_owS, q_gNil, q_gSeq, q_cs, q_cs_ge, q_cs_v, q_cs_n, q_cs_o, q_io, q_io_v, q_io_n, q_io_o, q_gSet, q_setK, q_gSetO, q_soK, q_gPat, q_patK, q_nxO, q_put_n, q_put_t, q_sa_c, q_sa_n, q_gX, q_xK, q_gRet, q_rtK, q_gRetO, q_roK, q_gRetS, q_rsK, q_gIf, q_giK, q_apJ, q_gApp, q_apK, q_exJ, q_gExt, q_exK, q_siJ, q_siI, q_gSetI, q_siK, q_gFor, q_foJ, q_foK, q_gForR1, q_gForR2, q_fr2J, q_gFrz, q_fzK_o, q_fzK_v, q_gNo, q_end_n, q_end_r, q_end_x, q_for_n, q_st_n, q_st_r, q_st_x, atI_0, atI_1, atI_2, atI_3, List.length_cons, List.length_nil, List.cons_append, List.nil_append, List.getElem?_cons_zero, List.getElem?_cons_succ, List.getElem?_nil, List.set_cons_zero, List.set_cons_succ, List.take_succ_cons, List.take_zero, List.replicate_succ, List.replicate_zero, Option.map_some, Option.map_none, List.nodup_cons, List.nodup_nil, List.mem_cons, List.not_mem_nil, List.all_cons, List.all_nil, ltB, leB, gtB, geB, decide_eq_true_eq, ↓reduceIte, decide_true, decide_false, Bool.and_true, Bool.true_and, not_false_eq_true, and_self, and_true, true_and, Nat.reduceSub, Nat.reduceAdd, Nat.reduceLeDiff, Bool.false_eq_true, q_abs10, List.length_map, Nat.reduceLT, q_cast0, q_cast1, q_cast2, q_cast3, q_cast4, q_cast5, q_cast6, q_cast7, q_cast8, q_cast9, Int.reduceToNat, Int.reduceLT, Int.reduceLE, Int.reduceAdd, Int.reduceSub, Int.reduceNeg, Int.reduceMul, Int.toNat_one, Int.toNat_zero, or_true, true_or])
/-! ### may, both ways: the end -/
theorem isPart_iff {ws : List (Int × Int)} {b n : Nat} {done : List Int} : isPart ws b n done = true ↔ ∀ k : Nat, b ≤ k → k < n → (k : Int) ∈ done → ∀ j : Nat, b ≤ j → j < k → blk ws j = blk ws k → (j : Int) ∈ done := by
  unfold isPart
  rw [List.all_eq_true]
  have hb : ∀ {b n k : Nat}, b ≤ k → k < n → (k : Int) ∈ betw b n := fun {b n k} h1 h2 => List.mem_map.mpr ⟨k, List.mem_range'_1.mpr ⟨h1, by omega⟩, rfl⟩
  constructor
  · intro h k h1 h2 h3 j h4 h5 h6
    have g := h k (hb h1 h2)
    unfold goodAt at g
    rw [Int.toNat_natCast, decide_eq_true h3, Bool.true_and, Bool.not_not, decide_eq_true_eq] at g
    have g2 := List.filter_eq_nil_iff.mp g j (hb h4 h5)
    rw [decide_eq_true h6, Bool.true_and, Bool.not_eq_true, Bool.not_eq_false', decide_eq_true_eq] at g2
    exact g2
  · intro h a ha
    obtain ⟨k, rfl, h1, h2⟩ := betw_mem ha
    unfold goodAt
    rw [Int.toNat_natCast]
    by_cases h3 : (k : Int) ∈ done
    · have g : missing ws done b k = [] := List.filter_eq_nil_iff.mpr fun x hx => by
        obtain ⟨j, rfl, h4, h5⟩ := betw_mem hx
        by_cases h6 : blk ws j = blk ws k
        · have := h k h1 h2 h3 j h4 h5 h6
          simp [this]
        · simp [h6]
      simp [g]
    · simp [h3]
theorem found_len (ds : List Dd) : (aheadN ds).found.length = (wrs ds).length := by
  rw [(cutI ds).f, met_len, List.length_map]
theorem last_of : ∀ (l : List Int), l ≠ [] → l.Pairwise (· < ·) → ∃ m ∈ l, ∀ x ∈ l, x ≤ m
  | [], h, _ => absurd rfl h
  | [a], _, _ => ⟨a, List.mem_cons_self, fun x hx => by rw [List.mem_singleton.mp hx]; exact Int.le_refl _⟩
  | a :: b :: r, _, h => by
    obtain ⟨h1, h2⟩ := List.pairwise_cons.mp h
    obtain ⟨m, hm, k⟩ := last_of (b :: r) (by simp) h2
    refine ⟨m, List.mem_cons_of_mem _ hm, fun x hx => ?_⟩
    rcases List.mem_cons.mp hx with e | e
    · have := h1 m hm; omega
    · exact k x e
/-- what may be there, by members -/
structure MayP (ds : List Dd) (done : List Int) : Prop where
  rg : ∀ a ∈ done, 0 ≤ a ∧ a < ((wrs ds).length : Int)
  sy : ∀ a : Int, 0 ≤ a → a < sync ds → a ∈ done
  ah : ∀ n : Nat, (n : Int) ∈ done → ∀ x ∈ (aheadN ds).found.getD n [], x ∈ done
theorem law_may_iff {ds : List Dd} {done : List Int} : lawMayN ds done = true ↔ done = sortU done ∧ MayP ds done := by
  unfold lawMayN
  rw [Bool.and_eq_true, Bool.and_eq_true, Bool.and_eq_true, decide_eq_true_eq, decide_eq_true_eq, List.all_eq_true, List.all_eq_true, found_len]
  have h1 : outN (wrs ds).length done = [] ↔ ∀ a ∈ done, 0 ≤ a ∧ a < ((wrs ds).length : Int) := by
    unfold outN
    rw [List.filter_eq_nil_iff]
    constructor
    · intro h a ha
      have := h a ha
      simpa using this
    · intro h a ha
      have := h a ha
      simpa using this
  have h2 : (∀ x ∈ nats (aheadN ds).fixed, decide (x ∈ done) = true) ↔ ∀ a : Int, 0 ≤ a → a < sync ds → a ∈ done := by
    rw [sync_fixed]
    constructor
    · intro h a a0 a1
      exact of_decide_eq_true (h a (nats_mem.mpr ⟨a0, a1⟩))
    · intro h x hx
      obtain ⟨a0, a1⟩ := nats_mem.mp hx
      exact decide_eq_true (h x a0 a1)
  rw [h1, h2]
  constructor
  · rintro ⟨e, k1, k2, k3⟩
    refine ⟨e, k1, k2, fun n hn x hx => ?_⟩
    have g := of_decide_eq_true (k3 n hn)
    unfold lackN at g
    rw [Int.toNat_natCast] at g
    have g2 := List.filter_eq_nil_iff.mp g x hx
    simpa using g2
  · rintro ⟨e, k1, k2, k3⟩
    refine ⟨e, k1, k2, fun a ha => ?_⟩
    obtain ⟨n, rfl⟩ := Int.eq_ofNat_of_zero_le (k1 a ha).1
    refine decide_eq_true ?_
    unfold lackN
    rw [Int.toNat_natCast]
    refine List.filter_eq_nil_iff.mpr fun x hx => ?_
    have := k3 n ha x hx
    simp [this]
theorem nats_pw (n : Nat) : (nats n).Pairwise (· < ·) := by
  unfold nats
  rw [List.pairwise_map]
  exact List.pairwise_lt_range.imp fun h => by omega
theorem inside_mem {done : List Int} {b n : Nat} {x : Int} : x ∈ inside done b n ↔ x ∈ done ∧ (b : Int) ≤ x ∧ x < (n : Int) := by
  unfold inside
  rw [List.mem_filter, Bool.and_eq_true, decide_eq_true_eq, decide_eq_true_eq]
theorem seg_ok_iff {ws : List (Int × Int)} {done : List Int} {b n : Nat} : segOk ws done ((b : Int), (n : Int)) = true ↔ done = nats b ++ inside done b n ∧ isPart ws b n done = true := by
  unfold segOk
  rw [Bool.and_eq_true, decide_eq_true_eq]
  simp only [Int.toNat_natCast]
theorem cut_eq {done : List Int} (hp : done.Pairwise (· < ·)) {b n : Nat} (h1 : ∀ a ∈ done, 0 ≤ a ∧ a < (n : Int)) (h2 : ∀ a : Int, 0 ≤ a → a < (b : Int) → a ∈ done) : done = nats b ++ inside done b n := by
  refine rise_eq hp ?_ fun x => ?_
  · rw [List.pairwise_append]
    refine ⟨nats_pw b, hp.filter _, fun x hx y hy => ?_⟩
    have := nats_mem.mp hx
    have := inside_mem.mp hy
    omega
  · rw [List.mem_append, nats_mem, inside_mem]
    constructor
    · intro h
      have := h1 x h
      by_cases hx : x < (b : Int)
      · exact .inl ⟨this.1, hx⟩
      · exact .inr ⟨h, by omega, this.2⟩
    · rintro (⟨a, b⟩ | h)
      · exact h2 x a b
      · exact h.1
theorem may_to {ds : List Dd} {done : List Int} {b e : Nat} (hs : ((b : Int), (e : Int)) ∈ segs ds) (hy : sync ds ≤ (b : Int)) (h1 : done = nats b ++ inside done b e) (h2 : isPart (wrs ds) b e done = true) : MayP ds done := by
  obtain ⟨b', e', eq, hbe, hen⟩ := segs_mem hs
  have eb : b = b' := by have := (Prod.mk.inj eq).1; omega
  have ee : e = e' := by have := (Prod.mk.inj eq).2; omega
  subst eb ee
  have hm : ∀ x, x ∈ done → (0 ≤ x ∧ x < (b : Int)) ∨ ((b : Int) ≤ x ∧ x < (e : Int)) := fun x hx => by
    rw [h1, List.mem_append, nats_mem, inside_mem] at hx
    rcases hx with g | g
    · exact .inl g
    · exact .inr g.2
  have hb : ∀ x : Int, 0 ≤ x → x < (b : Int) → x ∈ done := fun x x0 x1 => by
    rw [h1, List.mem_append, nats_mem]
    exact .inl ⟨x0, x1⟩
  refine ⟨fun a ha => ?_, fun a a0 a1 => hb a a0 (by omega), fun n hn x hx => ?_⟩
  · rcases hm a ha with g | g
    · omega
    · omega
  · have hnN : n < (wrs ds).length := by rcases hm n hn with g | g <;> omega
    obtain ⟨c, k1, k2, k3, k4⟩ := found_mem hnN
    rcases hm n hn with g | g
    · rcases (k4 x).mp hx with q | q
      · exact hb x q.1 (by omega)
      · exact hb x q.1 (by omega)
    · have ec : c = b := seg_cut hs (by omega) (by omega) k1 k2 k3
      rcases (k4 x).mp hx with q | q
      · by_cases hxb : x < (b : Int)
        · exact hb x q.1 hxb
        · obtain ⟨j, rfl⟩ := Int.eq_ofNat_of_zero_le q.1
          exact isPart_iff.mp h2 n (by omega) (by omega) hn j (by omega) (by omega) q.2.2
      · exact hb x q.1 (by omega)
theorem may_fr {ds : List Dd} {done : List Int} (hp : done.Pairwise (· < ·)) (h : MayP ds done) : ∃ b e : Nat, ((b : Int), (e : Int)) ∈ segs ds ∧ sync ds ≤ (b : Int) ∧ done = nats b ++ inside done b e ∧ isPart (wrs ds) b e done = true := by
  have pt : ∀ b e : Nat, e ≤ (wrs ds).length → isPart (wrs ds) b e done = true := fun b e he => isPart_iff.mpr fun k k1 k2 k3 j j1 j2 j3 => by
    obtain ⟨c, _, _, _, q4⟩ := found_mem (ds := ds) (n := k) (by omega)
    exact h.ah k k3 j ((q4 j).mpr (.inl ⟨by omega, by omega, j3⟩))
  have ls : ∀ b e : Nat, ((b : Int), (e : Int)) ∈ segs ds → e ≤ (wrs ds).length := fun b e hs => by
    obtain ⟨b', e', eq, hbe, hen⟩ := segs_mem hs
    have := (Prod.mk.inj eq).2
    omega
  have hS := syncN_eq ds
  by_cases hd : done = []
  · have hs : syncN ds = 0 := by
      by_cases q : syncN ds = 0
      · exact q
      · have := h.sy 0 (Int.le_refl _) (by omega)
        rw [hd] at this
        cases this
    obtain ⟨e, he⟩ := seg_at (ds := ds) (b := 0) List.mem_cons_self
    refine ⟨0, e, he, by omega, ?_, pt 0 e (ls 0 e he)⟩
    rw [hd]
    rfl
  · obtain ⟨m, hm, hmx⟩ := last_of done hd hp
    obtain ⟨m0, m1⟩ := h.rg m hm
    obtain ⟨n, rfl⟩ := Int.eq_ofNat_of_zero_le m0
    have hn : n < (wrs ds).length := by omega
    obtain ⟨b, e, hs, hb1, hb2⟩ := seg_of hn
    obtain ⟨c, k1, k2, k3, k4⟩ := found_mem hn
    have ec : c = b := seg_cut hs hb1 hb2 k1 k2 k3
    have low : ∀ a : Int, 0 ≤ a → a < (b : Int) → a ∈ done := fun a a0 a1 => h.ah n hm a ((k4 a).mpr (.inr ⟨a0, by omega⟩))
    by_cases hy : sync ds ≤ (b : Int)
    · exact ⟨b, e, hs, hy, cut_eq hp (fun a ha => ⟨(h.rg a ha).1, by have := hmx a ha; omega⟩) low, pt b e (ls b e hs)⟩
    · have hyn : (n : Int) < sync ds := by
        by_cases q : (n : Int) < sync ds
        · exact q
        · have hc : sync ds ∈ cuts isC ds := by
            rcases List.mem_cons.mp (sync_mem ds) with g | g
            · omega
            · exact g
          have := k3 _ hc (by omega)
          omega
      have hsy := sync_mem ds
      rw [hS] at hsy hyn
      obtain ⟨e2, he2⟩ := seg_at hsy
      obtain ⟨b', e', eq, hbe, hen⟩ := segs_mem he2
      have q1 := (Prod.mk.inj eq).1
      have q2 := (Prod.mk.inj eq).2
      refine ⟨syncN ds, e2, he2, by omega, cut_eq hp (fun a ha => ⟨(h.rg a ha).1, by have := hmx a ha; omega⟩) (fun a a0 a1 => h.sy a a0 (by omega)), pt _ e2 (ls _ e2 he2)⟩
theorem sortU_self {l : List Int} (h : l = sortU l) : l.Pairwise (· < ·) := by rw [h]; exact sortU_pw l
theorem may_eq (ds : List Dd) (done : List Int) : mayN ds done = lawMayN ds done := by
  rw [Bool.eq_iff_iff, law_may_iff]
  unfold mayN
  rw [Bool.and_eq_true, decide_eq_true_eq, List.any_eq_true]
  constructor
  · rintro ⟨e, s, hs, ok⟩
    obtain ⟨h1, h2⟩ := List.mem_filter.mp hs
    obtain ⟨b, n, rfl, _, _⟩ := segs_mem h1
    obtain ⟨k1, k2⟩ := seg_ok_iff.mp ok
    exact ⟨e, may_to h1 (of_decide_eq_true h2) k1 k2⟩
  · rintro ⟨e, h⟩
    obtain ⟨b, n, h1, h2, h3, h4⟩ := may_fr (sortU_self e) h
    exact ⟨e, _, List.mem_filter.mpr ⟨h1, decide_eq_true h2⟩, seg_ok_iff.mpr ⟨h3, h4⟩⟩
end Wk
set_option Elab.async false
set_option linter.all false
set_option autoImplicit false
set_option maxRecDepth 100000
set_option maxHeartbeats 4000000
namespace Wk
open PySem PySem.Spec PyProof.Rows L2 DL FL
local macro_rules | `(tactic| walk_at "ev") => `(tactic| simp -implicitDefEqProofs only [List.length_range, lv_int, lv_bl, lv_non, lv20_ints, lv20_nil, eqD_int, eqD_str, eqD_bl, eqD_ints, eqD_nil_r, inD_ints, flat_ints, flat_int, flat_str, inD_cons, inD_nil, eqF_str, Option.getD_some, Option.getD_none, Int.reduceEq, decide_true, decide_false, Bool.not_true, Bool.not_false, Bool.false_and, Bool.and_false, Bool.or_false, Bool.or_true, Bool.false_or, Bool.true_or, decide_not, Bool.not_eq_true, ne_eq, not_true_eq_false, or_false, false_or, and_false, false_and, if_true, if_false, ite_true, ite_false, eq_self, wo_0, wn_0_1, wn_0_2, wo_1, wn_1_0, wn_1_2, wo_2, wn_2_0, wn_2_1, wt_SIZES_0, wt_SIZES_1, wt_SIZES_2, q_bind_ok, q_mk0, q_mk1, q_mk2, q_mk3, q_mk4, q_mk5, q_mk6, q_bind_ex, q_gB_ok, q_gB_ex, q_seq_nx, q_seq_rt, q_seq_bk, q_seq_ex, q_k, q_nm, q_nm_v, q_nm_o, q_mv, q_mv_v, q_mv_o, q_e2, q_e2K, q_e1, q_plus_i, q_plus_t, q_plus_l, q_times_c, q_sub_i, q_mod_i, q_fdiv_i, q_pow1018, q_neg_i, q_sl_o, q_rdL_s, q_rdL_l, q_rdL_f, q_rdS_t, q_rdS_l, q_rdS_f, q_rdS_s, q_rdN_l, q_rdN_s, q_rdF_l, q_rdF_f, q_vO_i, q_vO_b, q_vO_x, q_vO_n, q_vO_t, q_vO_l, q_vO_f, q_vO_s, q_ix, q_ixK, q_ixJ, q_len, q_lenK, q_tupOf, q_tupK, q_intB, q_sli_t, q_sli_l, q_sli_f, q_cmp, q_eq, q_eqK, q_in, q_inK, q_isN_n, q_isN_i, q_isN_b, q_isN_x, q_isN_t, q_isN_l, q_isN_s, q_isi, q_isiK, q_isiJ, q_kget, q_B, q_bK, q_tV, q_tvO, q_tNot, q_ntK, q_tAnd, q_tAK, q_tOr, q_tOK, q_tCh, q_chJ, q_chK, q_chL, q_if, q_ifK, q_and, q_or, q_andK, q_orK, q_aNil, q_aCons, q_aK, q_aL, q_allD_n, q_allD_c, q_tup, q_tupJ, q_dsp, q_dspJ, q_list, q_lstJ, q_slO, q_cat_l, q_fr, q_frK, q_pN, q_pS, q_psO, q_Sl, q_SlK, q_SlJ, q_sset, q_ssK, q_sort, q_srK, q_call, q_callK, q_callJ, q_callX, q_ts_n, q_ts_d, q_ts_s, q_tsK, q_sv_n, q_sv_d, q_sv_s, q_wb_n, q_wb_d, q_wb_s, q_frS_v, q_frS_o, q_owS, q_gNil, q_gSeq, q_cs, q_cs_ge, q_cs_v, q_cs_n, q_cs_o, q_io, q_io_v, q_io_n, q_io_o, q_gSet, q_setK, q_gSetO, q_soK, q_gPat, q_patK, q_nxO, q_put_n, q_put_t, q_sa_c, q_sa_n, q_gX, q_xK, q_gRet, q_rtK, q_gRetO, q_roK, q_gRetS, q_rsK, q_gIf, q_giK, q_apJ, q_gApp, q_apK, q_exJ, q_gExt, q_exK, q_siJ, q_siI, q_gSetI, q_siK, q_gFor, q_foJ, q_foK, q_gForR1, q_gForR2, q_fr2J, q_gFrz, q_fzK_o, q_fzK_v, q_gNo, q_end_n, q_end_r, q_end_x, q_for_n, q_st_n, q_st_r, q_st_x, atI_0, atI_1, atI_2, atI_3, List.length_cons, List.length_nil, List.cons_append, List.nil_append, List.getElem?_cons_zero, List.getElem?_cons_succ, List.getElem?_nil, List.set_cons_zero, List.set_cons_succ, List.take_succ_cons, List.take_zero, List.replicate_succ, List.replicate_zero, Option.map_some, Option.map_none, List.nodup_cons, List.nodup_nil, List.mem_cons, List.not_mem_nil, List.all_cons, List.all_nil, ltB, leB, gtB, geB, decide_eq_true_eq, ↓reduceIte, decide_true, decide_false, Bool.and_true, Bool.true_and, not_false_eq_true, and_self, and_true, true_and, Nat.reduceSub, Nat.reduceAdd, Nat.reduceLeDiff, Bool.false_eq_true, q_abs10, List.length_map, Nat.reduceLT, q_cast0, q_cast1, q_cast2, q_cast3, q_cast4, q_cast5, q_cast6, q_cast7, q_cast8, q_cast9, Int.reduceToNat, Int.reduceLT, Int.reduceLE, Int.reduceAdd, Int.reduceSub, Int.reduceNeg, Int.reduceMul, Int.toNat_one, Int.toNat_zero, or_true, true_or])
local macro_rules | `(tactic| walk_at "evs") => `(tactic| simp -implicitDefEqProofs only [*, List.length_range, lv_int, lv_bl, lv_non, lv20_ints, lv20_nil, eqD_int, eqD_str, eqD_bl, eqD_ints, eqD_nil_r, inD_ints, flat_ints, flat_int, flat_str, inD_cons, inD_nil, eqF_str, Option.getD_some, Option.getD_none, Int.reduceEq, decide_true, decide_false, Bool.not_true, Bool.not_false, Bool.false_and, Bool.and_false, Bool.or_false, Bool.or_true, Bool.false_or, Bool.true_or, decide_not, Bool.not_eq_true, ne_eq, not_true_eq_false, or_false, false_or, and_false, false_and, if_true, if_false, ite_true, ite_false, eq_self, wo_0, wn_0_1, wn_0_2, wo_1, wn_1_0, wn_1_2, wo_2, wn_2_0, wn_2_1, wt_SIZES_0, wt_SIZES_1, wt_SIZES_2, q_bind_ok, q_mk0, q_mk1, q_mk2, q_mk3, q_mk4, q_mk5, q_mk6, q_bind_ex, q_gB_ok, q_gB_ex, q_seq_nx, q_seq_rt, q_seq_bk, q_seq_ex, q_k, q_nm, q_nm_v, q_nm_o, q_mv, q_mv_v, q_mv_o, q_e2, q_e2K, q_e1, q_plus_i, q_plus_t, q_plus_l, q_times_c, q_sub_i, q_mod_i, q_fdiv_i, q_pow1018, q_neg_i, q_sl_o, q_rdL_s, q_rdL_l, q_rdL_f, q_rdS_t, q_rdS_l, q_rdS_f, q_rdS_s, q_rdN_l, q_rdN_s, q_rdF_l, q_rdF_f, q_vO_i, q_vO_b, q_vO_x, q_vO_n, q_vO_t, q_vO_l, q_vO_f, q_vO_s, q_ix, q_ixK, q_ixJ, q_len, q_lenK, q_tupOf, q_tupK, q_intB, q_sli_t, q_sli_l, q_sli_f, q_cmp, q_eq, q_eqK, q_in, q_inK, q_isN_n, q_isN_i, q_isN_b, q_isN_x, q_isN_t, q_isN_l, q_isN_s, q_isi, q_isiK, q_isiJ, q_kget, q_B, q_bK, q_tV, q_tvO, q_tNot, q_ntK, q_tAnd, q_tAK, q_tOr, q_tOK, q_tCh, q_chJ, q_chK, q_chL, q_if, q_ifK, q_and, q_or, q_andK, q_orK, q_aNil, q_aCons, q_aK, q_aL, q_allD_n, q_allD_c, q_tup, q_tupJ, q_dsp, q_dspJ, q_list, q_lstJ, q_slO, q_cat_l, q_fr, q_frK, q_pN, q_pS, q_psO, q_Sl, q_SlK, q_SlJ, q_sset, q_ssK, q_sort, q_srK, q_call, q_callK, q_callJ, q_callX, q_ts_n, q_ts_d, q_ts_s, q_tsK, q_sv_n, q_sv_d, q_sv_s, q_wb_n, q_wb_d, q_wb_s, q_frS_v, q_frS_o, q_owS, q_gNil, q_gSeq, q_cs, q_cs_ge, q_cs_v, q_cs_n, q_cs_o, q_io, q_io_v, q_io_n, q_io_o, q_gSet, q_setK, q_gSetO, q_soK, q_gPat, q_patK, q_nxO, q_put_n, q_put_t, q_sa_c, q_sa_n, q_gX, q_xK, q_gRet, q_rtK, q_gRetO, q_roK, q_gRetS, q_rsK, q_gIf, q_giK, q_apJ, q_gApp, q_apK, q_exJ, q_gExt, q_exK, q_siJ, q_siI, q_gSetI, q_siK, q_gFor, q_foJ, q_foK, q_gForR1, q_gForR2, q_fr2J, q_gFrz, q_fzK_o, q_fzK_v, q_gNo, q_end_n, q_end_r, q_end_x, q_for_n, q_st_n, q_st_r, q_st_x, atI_0, atI_1, atI_2, atI_3, List.length_cons, List.length_nil, List.cons_append, List.nil_append, List.getElem?_cons_zero, List.getElem?_cons_succ, List.getElem?_nil, List.set_cons_zero, List.set_cons_succ, List.take_succ_cons, List.take_zero, List.replicate_succ, List.replicate_zero, Option.map_some, Option.map_none, List.nodup_cons, List.nodup_nil, List.mem_cons, List.not_mem_nil, List.all_cons, List.all_nil, ltB, leB, gtB, geB, decide_eq_true_eq, ↓reduceIte, decide_true, decide_false, Bool.and_true, Bool.true_and, not_false_eq_true, and_self, and_true, true_and, Nat.reduceSub, Nat.reduceAdd, Nat.reduceLeDiff, Bool.false_eq_true, q_abs10, List.length_map, Nat.reduceLT, q_cast0, q_cast1, q_cast2, q_cast3, q_cast4, q_cast5, q_cast6, q_cast7, q_cast8, q_cast9, Int.reduceToNat, Int.reduceLT, Int.reduceLE, Int.reduceAdd, Int.reduceSub, Int.reduceNeg, Int.reduceMul, Int.toNat_one, Int.toNat_zero, or_true, true_or])
/-! ### the law -/
theorem mem_take {ds : List Dd} {t : Nat} : (ds.take t).length ≤ ds.length := by rw [List.length_take]; omega
theorem law_ok (ns : List Int) (_ : ns.length ≤ 63) : ∃ l, f_law [.v (.frl (ns.map Dat.int))] = .ok (.v (.bl true)) l := by
  obtain ⟨l0, d0, c0⟩ := dice_ok ns
  obtain ⟨r1, l1, d1, a1, b1, c1⟩ := next_ok d0 (k := 2) (by omega) (by omega)
  have hm : ∃ m : Int, 0 ≤ m ∧ m ≤ 60 ∧ atI [Dat.int 12, Dat.int 60] r1 = some (.int m) := by
    rcases (show r1 = 0 ∨ r1 = 1 by omega) with e | e
    · exact ⟨12, by omega, by omega, by rw [e]; rfl⟩
    · exact ⟨60, by omega, by omega, by rw [e]; rfl⟩
  obtain ⟨most, hm0, hm1, hm⟩ := hm
  obtain ⟨B, ds, l2, d2, okr, hlen, c2⟩ := run_ok d1 hm0 hm1
  have hl60 : ds.length ≤ 60 := by omega
  have hw := law_writes_ok (ds := ds) (by omega)
  have hwd := words_ok
  unfold f_law g_law
  clear d0 d1 a1 b1 hm0 hm1 hlen
  revert hl60 okr d2
  walk_at "evs"
  intro d2 okr hl60
  generalize hg : gSeq (gSet 1 6 _) _ = gg
  rw [show (8 : Int) = ((8 : Nat) : Int) from rfl, q_fr1N (by omega)]
  obtain ⟨e2, hz, lf, z5, z6, z7, z8, z9, z10, z11, df, rfl⟩ := for_ex0 (np := 1) (p := .nm 5) (g := gg) (enc := Dat.int) (as := (List.range 8).map fun (k : Nat) => (k : Int))
    (e := [Sv.v (.frl (ns.map Dat.int)), Sv.own l2, Sv.v (.int B), Sv.v (dsD ds), Sv.v (wsD (wrs ds)), Sv.no, Sv.no, Sv.no, Sv.no, Sv.no, Sv.no, Sv.no, Sv.no])
    (J := fun i e => ∃ (l : List Dat) (z5 z6 z7 z8 z9 z10 z11 : Sv), Dice l ∧ e = [Sv.v (.frl (ns.map Dat.int)), Sv.own l, Sv.v (.int B), Sv.v (dsD ds), Sv.v (wsD (wrs ds)), z5, z6, z7, z8, z9, z10, z11, Sv.no])
    ⟨l2, _, _, _, _, _, _, _, d2, rfl⟩ fun i a e hi ⟨l, z5, z6, z7, z8, z9, z10, z11, dl, he⟩ => by
      subst he
      clear c0 c1 c2 hm hw hwd d2
      obtain ⟨s1, m1, e1, x1, y1, n1⟩ := next_ok dl (k := (ds.length : Int) + 1) (by omega) (by omega)
      obtain ⟨s2, m2, e2, x2, y2, n2⟩ := next_ok e1 (k := 2) (by omega) (by omega)
      have ht : ∃ t : Nat, t ≤ ds.length ∧ atI [Dat.int (ds.length : Int), Dat.int s1] s2 = some (.int (t : Int)) := by
        rcases (show s2 = 0 ∨ s2 = 1 by omega) with e | e
        · exact ⟨ds.length, Nat.le_refl _, by rw [e]; rfl⟩
        · exact ⟨s1.toNat, by omega, by rw [e, Int.toNat_of_nonneg x1]; rfl⟩
      obtain ⟨t, ht, hta⟩ := ht
      have htl := mem_take (ds := ds) (t := t)
      obtain ⟨done, m3, e3, hdl, n3⟩ := some_ok e2 (ds := ds.take t) (by omega)
      have hmay := may_ok okr ht (done := done) (by omega)
      have hlmay := law_may_ok (ds := ds.take t) (done := done) (by omega) (by omega)
      rw [may_eq] at hmay
      have hlk := like_b 5 (lawMayN (ds.take t) done)
      have hsl := @take_d ds t
      have hdone : lv 20 (intsD done) = true := lv20_ints
      refine ⟨[Sv.v (.frl (ns.map Dat.int)), Sv.own l, Sv.v (.int B), Sv.v (dsD ds), Sv.v (wsD (wrs ds)), Sv.v (.int a), z6, z7, z8, z9, z10, z11, Sv.no], by walk_at "ev", ?_⟩
      subst hg
      have hwl := wrs_len ds
      have q := @q_lcR1N 1 [12] (.nm 12)
      have hwl2 : (wrs ds).length ≤ 100000 := by omega
      -- the drawn writes
      obtain ⟨ec, accc, hc, lc, some', dc, hsome, hsl2, rfl, rfl⟩ := lc_ex0 (np := 1) (vs := [12]) (p := .nm 12) (t := FL.e2 (eqO false) (FL.e1 (fun r e => frS r e) (FL.e1 (callO f_law_next) (aCons (eNm 1) (aCons (eK (.int 2)) aNil)))) (eK (.int 0))) (el := eNm 12) (enc := Dat.int) (as := nats (wrs ds).length)
        (e := [Sv.v (.frl (ns.map Dat.int)), Sv.own m3, Sv.v (.int B), Sv.v (dsD ds), Sv.v (wsD (wrs ds)), Sv.v (.int a), Sv.v (.int t), Sv.v (intsD done), Sv.v (intsD done), Sv.v (.bl (lawMayN (ds.take t) done)), z10, z11, Sv.no])
        (J := fun i acc e => ∃ (l : List Dat) (some' : List Int), Dice l ∧ (∀ a ∈ some', 0 ≤ a ∧ a < ((wrs ds).length : Int)) ∧ some'.length ≤ i ∧ acc = some'.map Dat.int ∧ e = [Sv.v (.frl (ns.map Dat.int)), Sv.own l, Sv.v (.int B), Sv.v (dsD ds), Sv.v (wsD (wrs ds)), Sv.v (.int a), Sv.v (.int t), Sv.v (intsD done), Sv.v (intsD done), Sv.v (.bl (lawMayN (ds.take t) done)), z10, z11, Sv.no])
        ⟨m3, [], e3, by simp, by simp, rfl, rfl⟩ fun i b e acc hi ⟨l, some', dl, hsome, hsl, ha, he⟩ => by
          subst he ha
          obtain ⟨hin, rfl⟩ := rg_get hi
          obtain ⟨s1, k1, g1, x1, y1, n1⟩ := next_ok dl (k := 2) (by omega) (by omega)
          refine ⟨rfl, [Sv.v (.frl (ns.map Dat.int)), Sv.own l, Sv.v (.int B), Sv.v (dsD ds), Sv.v (wsD (wrs ds)), Sv.v (.int a), Sv.v (.int t), Sv.v (intsD done), Sv.v (intsD done), Sv.v (.bl (lawMayN (ds.take t) done)), z10, z11, Sv.v (.int i)], rfl, decide (s1 = 0), [Sv.v (.frl (ns.map Dat.int)), Sv.own k1, Sv.v (.int B), Sv.v (dsD ds), Sv.v (wsD (wrs ds)), Sv.v (.int a), Sv.v (.int t), Sv.v (intsD done), Sv.v (intsD done), Sv.v (.bl (lawMayN (ds.take t) done)), z10, z11, Sv.v (.int i)], ?_, fun _ => ⟨_, _, rfl, rfl, k1, some' ++ [(i : Int)], g1, fun c hc => ?_, by simp; omega, by rw [List.map_append]; rfl, ?_⟩, fun _ => ⟨rfl, k1, some', g1, hsome, by omega, rfl, ?_⟩⟩
          · clear hmay hlmay hlk hsl q hsome
            walk_at "evs"
          · rcases List.mem_append.mp hc with h | h
            · exact hsome c h
            · rw [List.mem_singleton.mp h]; omega
          · simp only [mrg_c, mrg_nil, mrg1_self, mrg1_v, mrg1_o, mrg1_n]
          · simp only [mrg_c, mrg_nil, mrg1_self, mrg1_v, mrg1_o, mrg1_n]
      rw [List.length_map, List.length_range] at hsl2
      have hB6 := okr.b6
      have hleft := left_ok (B := B) okr (done := some') hsome (by omega)
      have hlleft := law_left_ok (B := B) (ws := wrs ds) (done := some') (by omega) hsome (fun w hw => ⟨(mem_wrs okr.ok w hw).1, (mem_wrs okr.ok w hw).2.1⟩)
      have hlk2 := like_t 4 (valsN B (pick (wrs ds) some')) (by unfold valsN; rw [vals_len, List.length_replicate]; omega)
      have hsure := sure_ok okr ht
      have hahead := ahead_ok (ds := ds.take t) (by omega)
      have hfix : (aheadN (ds.take t)).fixed = syncN (ds.take t) := by
        have h1 := sync_fixed (ds.take t)
        have h2 := syncN_eq (ds.take t)
        omega
      rw [hfix] at hahead
      have hsn : syncN (ds.take t) ≤ 1000 := by
        have h1 := (sync_bd (ds.take t)).2
        have h2 := wrs_len (ds.take t)
        have h3 := syncN_eq (ds.take t)
        omega
      have hlk3 := like_l 4 (nats (syncN (ds.take t))) (by rw [List.length_map, List.length_range]; exact hsn)
      have q4 := @q_rg1N (syncN (ds.take t))
      have hsn2 : syncN (ds.take t) ≤ 1000000 := by omega
      have hsn3 : syncN (ds.take t) < 100000 := by omega
      clear hfix e1 x1 y1 x2 y2 e2 htl hwl e3 hdl hsome hsl2 hB6 hsn hi hl60 ht okr
      revert dc
      walk_at "evs"
      intro dc
      generalize hg : gSeq (gSetO 1 9 _) _ = gg
      rw [show (2 : Int) = ((2 : Nat) : Int) from rfl, q_fr1N (by omega)]
      obtain ⟨e5, hz5, y9, y11, rfl⟩ := for_ex0 (np := 1) (p := .nm 11) (g := gg) (enc := Dat.int) (as := (List.range 2).map fun (k : Nat) => (k : Int))
        (e := [Sv.v (.frl (ns.map Dat.int)), Sv.own lc, Sv.v (.int B), Sv.v (dsD ds), Sv.v (wsD (wrs ds)), Sv.v (.int a), Sv.v (.int t), Sv.v (intsD done), Sv.v (intsD done), Sv.v (.bl (lawMayN (ds.take t) done)), Sv.v (intsD some'), z11, Sv.no])
        (J := fun i e => ∃ y9 y11, e = [Sv.v (.frl (ns.map Dat.int)), Sv.own lc, Sv.v (.int B), Sv.v (dsD ds), Sv.v (wsD (wrs ds)), Sv.v (.int a), Sv.v (.int t), Sv.v (intsD done), Sv.v (intsD done), y9, Sv.v (intsD some'), y11, Sv.no]) ⟨_, _, rfl⟩ fun i a2 e hi ⟨y9, y11, he⟩ => by
          subst he
          refine ⟨[Sv.v (.frl (ns.map Dat.int)), Sv.own lc, Sv.v (.int B), Sv.v (dsD ds), Sv.v (wsD (wrs ds)), Sv.v (.int a), Sv.v (.int t), Sv.v (intsD done), Sv.v (intsD done), y9, Sv.v (intsD some'), Sv.v (.int a2), Sv.no], by walk_at "ev", ?_⟩
          subst hg
          refine ⟨[Sv.v (.frl (ns.map Dat.int)), Sv.own lc, Sv.v (.int B), Sv.v (dsD ds), Sv.v (wsD (wrs ds)), Sv.v (.int a), Sv.v (.int t), Sv.v (intsD done), Sv.v (intsD done), Sv.own ((nats (syncN (ds.take t))).map Dat.int ++ [.int 99]), Sv.v (intsD some'), Sv.v (.int a2), Sv.no], ?_, _, _, rfl⟩
          clear hmay hlmay hlk hleft hlleft hlk2 hc n1 n2 n3 q hta
          walk_at "evs"
      rw [hz5]
      exact ⟨_, rfl, lc, _, _, _, _, _, _, _, dc, rfl⟩
  rw [hz]
  walk_at "ev"
  exact ⟨_, rfl⟩
end Wk
set_option Elab.async false
set_option linter.all false
set_option autoImplicit false
set_option maxRecDepth 100000
set_option maxHeartbeats 4000000
namespace Wk
open PySem PySem.Spec PyProof.Rows L2 DL FL
theorem facts {P : Program} {w : World} {K : PySem.W.Frag} {h : Heap} {mg : Str → Option Value} {f : Addr} (X : K.In h) (G : h.Ns mainGlobals mg) (hfa : mg ("law" : Str) = some (.ref f)) (c : He.SaysX Hd.fa Hd.fn Hd.ts [] Hd.ex w h K) :
    ∃ fd : FuncData, (∀ (s : Shared) (v : Value), BindsTo s fd ⟨[v], []⟩ [("_law_script", v)]) ∧ ∀ base : Heap, FnOk P w K mg base (L2.CX P w) 8 f fd ["_law_script"] (spD K (TF (fun x => .ref (He.ga K x)) f_law)) := by
  have cd := c.t.d
  have bi : BI mg := fun x hx => by
    have hx2 : x ∈ (["len", "range", "list", "sorted", "set", "min", "max", "int", "str", "tuple", "dict", "enumerate", "isinstance", "bool", "ValueError"] : List Str) := hx
    simp only [List.mem_cons, List.not_mem_nil, or_false] at hx2
    rcases hx2 with rfl | rfl | rfl | rfl | rfl | rfl | rfl | rfl | rfl | rfl | rfl | rfl | rfl | rfl | rfl
    · exact He.free_ok X G (cd.fact 28 (f := .free "len") rfl)
    · exact He.free_ok X G (cd.fact 29 (f := .free "range") rfl)
    · exact He.free_ok X G (cd.fact 30 (f := .free "list") rfl)
    · exact He.free_ok X G (cd.fact 31 (f := .free "sorted") rfl)
    · exact He.free_ok X G (cd.fact 32 (f := .free "set") rfl)
    · exact He.free_ok X G (cd.fact 33 (f := .free "min") rfl)
    · exact He.free_ok X G (cd.fact 34 (f := .free "max") rfl)
    · exact He.free_ok X G (cd.fact 35 (f := .free "int") rfl)
    · exact He.free_ok X G (cd.fact 36 (f := .free "str") rfl)
    · exact He.free_ok X G (cd.fact 37 (f := .free "tuple") rfl)
    · exact He.free_ok X G (cd.fact 38 (f := .free "dict") rfl)
    · exact He.free_ok X G (cd.fact 39 (f := .free "enumerate") rfl)
    · exact He.free_ok X G (cd.fact 40 (f := .free "isinstance") rfl)
    · exact He.free_ok X G (cd.fact 41 (f := .free "bool") rfl)
    · exact He.free_ok X G (cd.fact 42 (f := .free "ValueError") rfl)
  have ht := congrArg (fun z : He.AlT => z.2) c.t
  have t_SIZES : KTab K w mg "SIZES" tab_SIZES := ktab_of (He.glo_ok X G (cd.fact 3 (f := .glo "SIZES") rfl)) (List.cons.inj ht).1 (by have q := c.more; unfold Hd.ex at q; exact q)
  have m : Md K w mg := ⟨bi, He.int_ok X G (cd.fact 43 (f := .int "MOST_BLOCKS" 6) rfl), He.int_ok X G (cd.fact 44 (f := .int "MOST_VALUE" 9) rfl), He.int_ok X G (cd.fact 45 (f := .int "MOST_DEEDS" 60) rfl), t_SIZES⟩
  obtain ⟨fd_law_like, F_law_like⟩ := cd.def_ 16 (d := Hd.d_law_like) rfl
  obtain ⟨fd_law_ahead, F_law_ahead⟩ := cd.def_ 20 (d := Hd.d_law_ahead) rfl
  obtain ⟨fd_cuts_of, F_cuts_of⟩ := cd.def_ 5 (d := Hd.d_cuts_of) rfl
  obtain ⟨fd_synced, F_synced⟩ := cd.def_ 8 (d := Hd.d_synced) rfl
  obtain ⟨fd_need_time, F_need_time⟩ := cd.def_ 3 (d := Hd.d_need_time) rfl
  obtain ⟨fd_is_deed, F_is_deed⟩ := cd.def_ 1 (d := Hd.d_is_deed) rfl
  obtain ⟨fd_need_run, F_need_run⟩ := cd.def_ 2 (d := Hd.d_need_run) rfl
  obtain ⟨fd_sure, F_sure⟩ := cd.def_ 10 (d := Hd.d_sure) rfl
  obtain ⟨fd_law_left, F_law_left⟩ := cd.def_ 22 (d := Hd.d_law_left) rfl
  obtain ⟨fd_values_at, F_values_at⟩ := cd.def_ 6 (d := Hd.d_values_at) rfl
  obtain ⟨fd_writes_of, F_writes_of⟩ := cd.def_ 4 (d := Hd.d_writes_of) rfl
  obtain ⟨fd_left, F_left⟩ := cd.def_ 13 (d := Hd.d_left) rfl
  obtain ⟨fd_law_next, F_law_next⟩ := cd.def_ 15 (d := Hd.d_law_next) rfl
  obtain ⟨fd_law_may, F_law_may⟩ := cd.def_ 21 (d := Hd.d_law_may) rfl
  obtain ⟨fd_is_part, F_is_part⟩ := cd.def_ 11 (d := Hd.d_is_part) rfl
  obtain ⟨fd_segments, F_segments⟩ := cd.def_ 7 (d := Hd.d_segments) rfl
  obtain ⟨fd_open_segments, F_open_segments⟩ := cd.def_ 9 (d := Hd.d_open_segments) rfl
  obtain ⟨fd_may, F_may⟩ := cd.def_ 12 (d := Hd.d_may) rfl
  obtain ⟨fd_law_some, F_law_some⟩ := cd.def_ 23 (d := Hd.d_law_some) rfl
  obtain ⟨fd_law_writes, F_law_writes⟩ := cd.def_ 19 (d := Hd.d_law_writes) rfl
  obtain ⟨fd_law_run, F_law_run⟩ := cd.def_ 17 (d := Hd.d_law_run) rfl
  obtain ⟨fd_law_words, F_law_words⟩ := cd.def_ 18 (d := Hd.d_law_words) rfl
  obtain ⟨fd_law_dice, F_law_dice⟩ := cd.def_ 14 (d := Hd.d_law_dice) rfl
  obtain ⟨fd_law, F_law⟩ := cd.def_ 24 (d := Hd.d_law) rfl
  have e := hfa.symm.trans (He.glo_ok X G (cd.fact 27 (f := .glo "law") rfl))
  cases e
  have b := FunD.bindsA (ps := ["_law_script"]) F_law fun _ _ _ _ _ _ us hl => match us, hl with | [_], _ => rfl
  refine ⟨fd_law, fun s v => b s [v] rfl, fun base => ?_⟩
  have D_law_like := ok_law_like (P := P) (base := base) (fun x => .ref (He.ga K x)) m  F_law_like (He.glo_ok X G (cd.fact 19 (f := .glo "_law_like") rfl)) 6
  have D_law_ahead := ok_law_ahead (P := P) (base := base) (fun x => .ref (He.ga K x)) m  F_law_ahead (He.glo_ok X G (cd.fact 23 (f := .glo "_law_ahead") rfl))
  have D_cuts_of := ok_cuts_of (P := P) (base := base) (fun x => .ref (He.ga K x)) m  F_cuts_of (He.glo_ok X G (cd.fact 8 (f := .glo "cuts_of") rfl))
  have D_synced := ok_synced (P := P) (base := base) (fun x => .ref (He.ga K x)) m D_cuts_of F_synced (He.glo_ok X G (cd.fact 11 (f := .glo "synced") rfl))
  have D_need_time := ok_need_time (P := P) (base := base) (fun x => .ref (He.ga K x)) m  F_need_time (He.glo_ok X G (cd.fact 6 (f := .glo "need_time") rfl))
  have D_is_deed := ok_is_deed (P := P) (base := base) (fun x => .ref (He.ga K x)) m  F_is_deed (He.glo_ok X G (cd.fact 4 (f := .glo "is_deed") rfl))
  have D_need_run := ok_need_run (P := P) (base := base) (fun x => .ref (He.ga K x)) m D_is_deed F_need_run (He.glo_ok X G (cd.fact 5 (f := .glo "need_run") rfl))
  have D_sure := ok_sure (P := P) (base := base) (fun x => .ref (He.ga K x)) m D_synced D_need_time D_need_run F_sure (He.glo_ok X G (cd.fact 13 (f := .glo "sure") rfl))
  have D_law_left := ok_law_left (P := P) (base := base) (fun x => .ref (He.ga K x)) m  F_law_left (He.glo_ok X G (cd.fact 25 (f := .glo "_law_left") rfl))
  have D_values_at := ok_values_at (P := P) (base := base) (fun x => .ref (He.ga K x)) m  F_values_at (He.glo_ok X G (cd.fact 9 (f := .glo "values_at") rfl))
  have D_writes_of := ok_writes_of (P := P) (base := base) (fun x => .ref (He.ga K x)) m  F_writes_of (He.glo_ok X G (cd.fact 7 (f := .glo "writes_of") rfl))
  have D_left := ok_left (P := P) (base := base) (fun x => .ref (He.ga K x)) m D_values_at D_writes_of D_need_run F_left (He.glo_ok X G (cd.fact 16 (f := .glo "left") rfl))
  have D_law_next := ok_law_next (P := P) (base := base) (fun x => .ref (He.ga K x)) m  F_law_next (He.glo_ok X G (cd.fact 18 (f := .glo "_law_next") rfl))
  have D_law_may := ok_law_may (P := P) (base := base) (fun x => .ref (He.ga K x)) m D_law_ahead F_law_may (He.glo_ok X G (cd.fact 24 (f := .glo "_law_may") rfl))
  have D_is_part := ok_is_part (P := P) (base := base) (fun x => .ref (He.ga K x)) m  F_is_part (He.glo_ok X G (cd.fact 14 (f := .glo "is_part") rfl))
  have D_segments := ok_segments (P := P) (base := base) (fun x => .ref (He.ga K x)) m D_cuts_of D_writes_of F_segments (He.glo_ok X G (cd.fact 10 (f := .glo "segments") rfl))
  have D_open_segments := ok_open_segments (P := P) (base := base) (fun x => .ref (He.ga K x)) m D_segments D_synced F_open_segments (He.glo_ok X G (cd.fact 12 (f := .glo "open_segments") rfl))
  have D_may := ok_may (P := P) (base := base) (fun x => .ref (He.ga K x)) m D_is_part D_open_segments D_writes_of D_need_time D_need_run F_may (He.glo_ok X G (cd.fact 15 (f := .glo "may") rfl))
  have D_law_some := ok_law_some (P := P) (base := base) (fun x => .ref (He.ga K x)) m D_law_next D_law_ahead F_law_some (He.glo_ok X G (cd.fact 26 (f := .glo "_law_some") rfl))
  have D_law_writes := ok_law_writes (P := P) (base := base) (fun x => .ref (He.ga K x)) m  F_law_writes (He.glo_ok X G (cd.fact 22 (f := .glo "_law_writes") rfl))
  have D_law_run := ok_law_run (P := P) (base := base) (fun x => .ref (He.ga K x)) m D_law_next F_law_run (He.glo_ok X G (cd.fact 20 (f := .glo "_law_run") rfl))
  have D_law_words := ok_law_words (P := P) (base := base) (fun x => .ref (He.ga K x)) m  F_law_words (He.glo_ok X G (cd.fact 21 (f := .glo "_law_words") rfl))
  have D_law_dice := ok_law_dice (P := P) (base := base) (fun x => .ref (He.ga K x)) m  F_law_dice (He.glo_ok X G (cd.fact 17 (f := .glo "_law_dice") rfl))
  exact ok_law (fun x => .ref (He.ga K x)) m D_law_like D_law_ahead D_sure D_law_left D_left D_law_next D_law_may D_may D_law_some D_law_writes D_law_run D_law_words D_law_dice F_law (He.glo_ok X G (cd.fact 27 (f := .glo "law") rfl))
end Wk
open PySem PySem.W PySem.Calls PyProof.Rows
set_option maxRecDepth 100000 in
set_option maxHeartbeats 0 in
theorem PySem.Challenge.cw_writeorder_k02_what_may_be_there_holds : PySem.Challenge.rw_writeorder_k02_what_may_be_there.Holds := by
  w_on; o_law
  refine HandSHeadRun.head_any (r := OpenLaw.row PySem.Challenge.rw_writeorder_k02_what_may_be_there) (q := view (OpenLaw.row PySem.Challenge.rw_writeorder_k02_what_may_be_there).prog [34]) (H := Hd.hk) (ob := Hd.ob) (M := 4000) (loose := Hd.loose) (d := HandSHeadRun.topDef (OpenLaw.row PySem.Challenge.rw_writeorder_k02_what_may_be_there).prog 34) (kwd := []) Hd.ob_eq
    (by kernel_rfl) (fun s => by kernel_rfl) Hd.run (by kernel_rfl) (by kernel_rfl) (by kernel_rfl) (by rfl) (by first | assumption | decide +kernel) (by decide +kernel) ⟨rfl, rfl, rfl, rfl, rfl, by decide +kernel⟩ ?hw ?hc
  case hw => w_witness2
  case hc =>
    refine LamX.walk_ofTsE (l := PySem.Challenge.rw_writeorder_k02_what_may_be_there) (n := 63) (k := 8) (x := "_law_script") (CX := fun w => L2.CX (PySem.Challenge.rw_writeorder_k02_what_may_be_there).prog w) rfl (by decide) (by kernel_rfl) ⟨rfl, by decide, by decide⟩ ?F (fun w H s e s' z => by
      obtain ⟨_, _, _, _, _, _, _, _, _, _, _, _, z⟩ := z
      exact z)
    intro w mg fa h Y G hmg0
    obtain ⟨K, KX, c⟩ := Y
    have hmg : mg ("law" : PySem.Str) = some (.ref fa) := by
      have e : (HandSHeadRun.topDef (OpenLaw.row PySem.Challenge.rw_writeorder_k02_what_may_be_there).prog 34).name = ("law" : PySem.Str) := by kernel_rfl
      rw [← e]
      exact hmg0
    obtain ⟨fd, hb, hF⟩ := Wk.facts (P := (PySem.Challenge.rw_writeorder_k02_what_may_be_there).prog) (w := w) KX G hmg c
    exact ⟨K, KX, fd, [], _, (fun _ h => nomatch h), (fun _ h => nomatch h), (fun _ h => nomatch h), hb, fun H a ns hl _ _ hS => FL.sp_law (Wk.law_ok ns hl) hS, fun base _ _ _ => hF base⟩
