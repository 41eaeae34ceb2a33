import PyProof.Rows.All
import HandS.ExcValue
import HandS.ExcIs
import HandS.SetFor
import HandS.Conv
import HandS.FStr
import HandS.HotCalls
import Wide.All
import OpenK.AllK
import Wide.FinOn
import HandS.ForMost
import HandS.ForExc
import HandS.IsInst
import HandS.Deep
import HandS.TupLe
import HandS.Wide
import HandS.Style
import PySem.Challenge.RW_shortdecimals_k08_whole_readers
import PyProof.StrOps2
set_option Elab.async false
set_option linter.all false
set_option maxRecDepth 100000
set_option maxHeartbeats 4000000
/-! DL: a layer of plain data over HandS. A def's body is read as a predicate over lists of plain data (slots); the heap is hidden behind Rep. -/
namespace DL
open PySem PySem.Spec PyProof.Rows L2

/-- the package's errors -/
inductive Er where
  | frac | rng | rul | num | txt | nof
  deriving DecidableEq

/-- plain data at a value, lists tracked as they are -/
inductive Dv (K : PySem.W.Frag) (H : Hp) : V → PyData → Prop
  | non : Dv K H .non .none
  | bl (b : Bool) : Dv K H (.bl b) (.bool b)
  | int (i : Int) : Dv K H (.int i) (.int i)
  | str (x : Str) : Dv K H (.str x) (.str x)
  | lst {a : Addr} {xs : List V} {ds : List PyData} : H a = some (.lst xs) → xs.length = ds.length → (∀ (i : Nat) (v : V) (d : PyData), xs[i]? = some v → ds[i]? = some d → Dv K H v d) → Dv K H (.ref a) (.list ds)
  | tup {a : Addr} {xs : List V} {ds : List PyData} : SqT K H a xs → xs.length = ds.length → (∀ (i : Nat) (v : V) (d : PyData), xs[i]? = some v → ds[i]? = some d → Dv K H v d) → Dv K H (.ref a) (.tuple ds)

/-- lists of values, item by item -/
def DvAll (K : PySem.W.Frag) (H : Hp) (xs : List V) (ds : List PyData) : Prop := xs.length = ds.length ∧ ∀ (i : Nat) (v : V) (d : PyData), xs[i]? = some v → ds[i]? = some d → Dv K H v d

theorem Dv.lst' {K H a} {xs : List V} {ds : List PyData} (h : H a = some (.lst xs)) (q : DvAll K H xs ds) : Dv K H (.ref a) (.list ds) := .lst h q.1 q.2
theorem Dv.tup' {K H a} {xs : List V} {ds : List PyData} (h : SqT K H a xs) (q : DvAll K H xs ds) : Dv K H (.ref a) (.tuple ds) := .tup h q.1 q.2

theorem DvAll.nil {K H} : DvAll K H [] [] := ⟨rfl, fun i v d h => by simp at h⟩
theorem DvAll.cons {K H v d} {vs : List V} {ds : List PyData} (h : Dv K H v d) (q : DvAll K H vs ds) : DvAll K H (v :: vs) (d :: ds) :=
  ⟨by simp [q.1], fun i w e h1 h2 => by
    cases i with
    | zero =>
      simp at h1 h2
      subst h1
      subst h2
      exact h
    | succ i => exact q.2 i w e (by simpa using h1) (by simpa using h2)⟩
theorem DvAll.uncons {K H v d} {vs : List V} {ds : List PyData} (q : DvAll K H (v :: vs) (d :: ds)) : Dv K H v d ∧ DvAll K H vs ds :=
  ⟨q.2 0 v d rfl rfl, by simpa using q.1, fun i w e h1 h2 => q.2 (i + 1) w e (by simpa using h1) (by simpa using h2)⟩
theorem DvAll.nil_inv {K H} {vs : List V} (q : DvAll K H vs []) : vs = [] := List.length_eq_zero_iff.mp q.1
theorem DvAll.cons_inv {K H d} {vs : List V} {ds : List PyData} (q : DvAll K H vs (d :: ds)) : ∃ v r, vs = v :: r ∧ Dv K H v d ∧ DvAll K H r ds := by
  cases vs with
  | nil => exact absurd q.1 (by simp)
  | cons v r => exact ⟨v, r, rfl, q.uncons.1, q.uncons.2⟩
theorem DvAll.append {K H} {vs ws : List V} {ds es : List PyData} (p : DvAll K H vs ds) (q : DvAll K H ws es) : DvAll K H (vs ++ ws) (ds ++ es) := by
  induction vs generalizing ds with
  | nil =>
    cases ds with
    | nil => exact q
    | cons d ds => exact absurd p.1 (by simp)
  | cons v vs ih =>
    cases ds with
    | nil => exact absurd p.1 (by simp)
    | cons d ds => exact .cons p.uncons.1 (ih p.uncons.2)

theorem sqT_mono {K : PySem.W.Frag} {H H' : Hp} {a : Addr} {xs : List V} (e : Same H H') (h : SqT K H a xs) : SqT K H' a xs := by
  rcases h with (h | ⟨o, h⟩) | h
  · exact .inl (.inl (e _ _ h))
  · exact .inl (.inr ⟨o, e _ _ h⟩)
  · exact .inr h

theorem Dv.mono {K : PySem.W.Frag} {H H' : Hp} (e : Same H H') {v : V} {d : PyData} (h : Dv K H v d) : Dv K H' v d := by
  induction h with
  | non => exact .non
  | bl b => exact .bl b
  | int i => exact .int i
  | str x => exact .str x
  | lst h l _ ih => exact .lst (e _ _ h) l ih
  | tup h l _ ih => exact .tup (sqT_mono e h) l ih
theorem DvAll.mono {K : PySem.W.Frag} {H H' : Hp} (e : Same H H') {vs : List V} {ds : List PyData} (q : DvAll K H vs ds) : DvAll K H' vs ds := ⟨q.1, fun i v d h1 h2 => (q.2 i v d h1 h2).mono e⟩

theorem Dv.int_inv {K H v i} (h : Dv K H v (.int i)) : v = .int i := by cases h; rfl
theorem Dv.bl_inv {K H v i} (h : Dv K H v (.bool i)) : v = .bl i := by cases h; rfl
theorem Dv.str_inv {K H v i} (h : Dv K H v (.str i)) : v = .str i := by cases h; rfl
theorem Dv.non_inv {K H v} (h : Dv K H v .none) : v = .non := by cases h; rfl
theorem Dv.list_inv {K H v ds} (h : Dv K H v (.list ds)) : ∃ a xs, v = .ref a ∧ H a = some (.lst xs) ∧ DvAll K H xs ds := by
  cases h with
  | lst h l q => exact ⟨_, _, rfl, h, l, q⟩
theorem Dv.tuple_inv {K H v ds} (h : Dv K H v (.tuple ds)) : ∃ a xs, v = .ref a ∧ SqT K H a xs ∧ DvAll K H xs ds := by
  cases h with
  | tup h l q => exact ⟨_, _, rfl, h, l, q⟩

theorem dpAll_of {K : PySem.W.Frag} {H : Hp} : ∀ {xs : List V} {ds : List PyData}, xs.length = ds.length → (∀ (i : Nat) (v : V) (d : PyData), xs[i]? = some v → ds[i]? = some d → Dp K H v d) → DpAll K H xs ds
  | [], [], _, _ => .nil
  | [], _ :: _, h, _ => absurd h (by simp)
  | _ :: _, [], h, _ => absurd h (by simp)
  | v :: vs, d :: ds, h, q => .cons (q 0 v d rfl rfl) (dpAll_of (by simpa using h) fun i w e h1 h2 => q (i + 1) w e (by simpa using h1) (by simpa using h2))
theorem Dv.dp {K : PySem.W.Frag} {H : Hp} {v : V} {d : PyData} (h : Dv K H v d) : Dp K H v d := by
  induction h with
  | non => exact .non
  | bl b => exact .bl b
  | int i => exact .int i
  | str x => exact .str x
  | lst h l _ ih => exact .lst (.inl (.inl h)) (dpAll_of l ih)
  | tup h l _ ih => exact .tup h (dpAll_of l ih)

/-! ### the frame of a call -/
structure Frm (ex : List Addr) (H Hf H' Hf' : Hp) : Prop where
  keep : ∀ b o, b ∉ ex → H b = some o → H' b = some o
  there : ∀ b o, H b = some o → ∃ o', H' b = some o'
  fz : ∀ b o, H b = some o → Hf' b = Hf b
  sub : Same Hf' H'
theorem Frm.refl {ex : List Addr} {H Hf : Hp} (s : Same Hf H) : Frm ex H Hf H Hf := ⟨fun _ _ _ h => h, fun _ o h => ⟨o, h⟩, fun _ _ _ => rfl, s⟩
theorem Frm.sameF {ex : List Addr} {H Hf H' Hf' : Hp} (f : Frm ex H Hf H' Hf') (s : Same Hf H) : Same Hf Hf' := fun b o h => by
  rw [f.fz b o (s b o h)]
  exact h
theorem Frm.trans {ex ex2 : List Addr} {H0 Hf0 H1 Hf1 H2 Hf2 : Hp} (f : Frm ex H0 Hf0 H1 Hf1) (g : Frm ex2 H1 Hf1 H2 Hf2) (h : ∀ b ∈ ex2, b ∈ ex ∨ H0 b = none) : Frm ex H0 Hf0 H2 Hf2 := by
  refine ⟨fun b o hb e => ?_, fun b o e => ?_, fun b o e => ?_, g.sub⟩
  · refine g.keep b o (fun z => ?_) (f.keep b o hb e)
    rcases h b z with q | q
    · exact hb q
    · rw [q] at e
      cases e
  · obtain ⟨o1, e1⟩ := f.there b o e
    exact g.there b o1 e1
  · obtain ⟨o1, e1⟩ := f.there b o e
    rw [g.fz b o1 e1, f.fz b o e]
theorem Frm.trans0 {ex : List Addr} {H0 Hf0 H1 Hf1 H2 Hf2 : Hp} (f : Frm ex H0 Hf0 H1 Hf1) (g : Frm [] H1 Hf1 H2 Hf2) : Frm ex H0 Hf0 H2 Hf2 := f.trans g fun _ z => nomatch z
theorem same_upd {H : Hp} {p : Addr} {o : HO} (h : H p = none) : Same H (upd H p o) := fun b x e => by
  rw [upd_ne (ne_of_none e h)]
  exact e
/-- a new object, frozen at once -/
theorem Frm.new {ex : List Addr} {H Hf : Hp} {p : Addr} {o : HO} (s : Same Hf H) (h : H p = none) : Frm ex H Hf (upd H p o) (upd Hf p o) := by
  refine ⟨fun b u _ e => same_upd h b u e, fun b u e => ⟨u, same_upd h b u e⟩, fun b u e => upd_ne (ne_of_none e h), fun b u e => ?_⟩
  by_cases hb : b = p
  · subst hb
    rw [upd_same] at e ⊢
    exact e
  · rw [upd_ne hb] at e ⊢
    exact s b u e
/-- a new object, kept as one's own -/
theorem Frm.newOwn {ex : List Addr} {H Hf : Hp} {p : Addr} {o : HO} (s : Same Hf H) (h : H p = none) : Frm ex H Hf (upd H p o) Hf :=
  ⟨fun b u _ e => same_upd h b u e, fun b u e => ⟨u, same_upd h b u e⟩, fun _ _ _ => rfl, fun b u e => same_upd h b u (s b u e)⟩
/-- one's own object changed -/
theorem Frm.mut {ex : List Addr} {H Hf : Hp} {p : Addr} {o : HO} (s : Same Hf H) (hp : p ∈ ex) (hf : Hf p = none) : Frm ex H Hf (upd H p o) Hf := by
  refine ⟨fun b u hb e => ?_, fun b u e => ?_, fun _ _ _ => rfl, fun b u e => ?_⟩
  · rw [upd_ne (fun z => hb (by rw [z]; exact hp))]
    exact e
  · by_cases hb : b = p
    · subst hb
      exact ⟨o, upd_same⟩
    · exact ⟨u, by rw [upd_ne hb]; exact e⟩
  · rw [upd_ne (ne_of_none e hf)]
    exact s b u e

/-! ### slots -/
/-- what a slot is known to hold: data; a list of one's own at p; the draws at a, their numbers at b; the script -/
inductive S where
  | val (d : PyData)
  | own (p : Addr) (ds : List PyData)
  | drw (a b : Addr)
  | scr
  | exn (C : Addr)
  | rdr (p dx l C : Addr) (now : PyData) (past : List PyData)
abbrev Sl := List (Option S)
/-- what is fixed through a def's run -/
structure Gm where
  ex : List Addr
  H0 : Hp
  Hf0 : Hp

/-- a caught exception of the class C, kept as a value -/
def ExK (C a : Addr) : HO := .ext fun h => ∃ (oe : Obj) (vs : Array Value), h.get? a = some oe ∧ (oe.cls = .ref C ∧ oe.dict = none) ∧ oe.data = .fields vs
/-- a reader: its fields; the object at p, its dict at dx, its list at l -/
def rf (v : V) (l : Addr) : List (Str × V) := [("now", v), ("past", .ref l)]
def RdrAt (K : PySem.W.Frag) (H Hf : Hp) (p dx l C : Addr) (now : PyData) (past : List PyData) : Prop := ∃ (vn : V) (vs : List V), H p = some (.ins C dx (rf vn l)) ∧ H dx = some (.own p) ∧ H l = some (.lst vs) ∧ Dv K Hf vn now ∧ DvAll K Hf vs past
def DrwAt (H : Hp) (a b : Addr) : Prop := ∃ (ns : List Int) (k : Int), H a = some (.lst [.ref b, .int k]) ∧ H b = some (.lst (ns.map V.int)) ∧ ns ≠ [] ∧ ns.length ≤ 1000
def SOk (K : PySem.W.Frag) (H Hf : Hp) (v : V) : S → Prop
  | .val d => Dv K Hf v d
  | .own p ds => v = .ref p ∧ ∃ vs, H p = some (.lst vs) ∧ DvAll K Hf vs ds
  | .drw a b => v = .ref a ∧ DrwAt H a b
  | .scr => ∃ (a : Addr) (ns : List Int), v = .ref a ∧ SqL K Hf a (ns.map V.int) ∧ ns.length ≤ 63
  | .exn C => ∃ a : Addr, v = .ref a ∧ Hf a = some (ExK C a)
  | .rdr p dx l C now past => v = .ref p ∧ RdrAt K H Hf p dx l C now past
def foot : Option S → List Addr
  | some (.own p _) => [p]
  | some (.drw a b) => [a, b]
  | some (.rdr p dx l _ _ _) => [p, dx, l]
  | _ => []
def feet (l : Sl) : List Addr := l.flatMap foot

structure Rep (K : PySem.W.Frag) (G : Gm) (H Hf : Hp) (σ : L2.St) (l : Sl) : Prop where
  len : σ.length = l.length
  slot : ∀ (i : Nat) (s : S), l[i]? = some (some s) → ∃ v, σ[i]? = some (some v) ∧ SOk K H Hf v s
  nd : (feet l).Nodup
  free : ∀ b ∈ feet l, Hf b = none ∧ (b ∈ G.ex ∨ G.H0 b = none)
  ownNew : ∀ (i : Nat) (p : Addr) (ds : List PyData), l[i]? = some (some (.own p ds)) → G.H0 p = none
  frm : Frm G.ex G.H0 G.Hf0 H Hf

theorem feet_set_sub {l : Sl} {i : Nat} {x : Option S} (h : foot x = []) : (feet (l.set i x)).Sublist (feet l) := by
  induction l generalizing i with
  | nil => exact List.Sublist.refl _
  | cons y r ih =>
    cases i with
    | zero =>
      show (foot x ++ feet r).Sublist (foot y ++ feet r)
      rw [h]
      exact List.sublist_append_right _ _
    | succ i =>
      show (foot y ++ feet (r.set i x)).Sublist (foot y ++ feet r)
      exact (List.Sublist.refl _).append ih
theorem feet_set_same {l : Sl} {i : Nat} {x y : Option S} (hi : l[i]? = some y) (h : foot x = foot y) : feet (l.set i x) = feet l := by
  induction l generalizing i with
  | nil => simp at hi
  | cons z r ih =>
    cases i with
    | zero =>
      have e : z = y := by simpa using hi
      subst e
      show foot x ++ feet r = foot z ++ feet r
      rw [h]
    | succ i =>
      show foot z ++ feet (r.set i x) = foot z ++ feet r
      rw [ih (by simpa using hi)]
theorem mem_feet {l : Sl} {i : Nat} {x : Option S} {b : Addr} (hi : l[i]? = some x) (hb : b ∈ foot x) : b ∈ feet l := List.mem_flatMap.mpr ⟨x, List.mem_of_getElem? hi, hb⟩
/-- a footed slot put in: its feet new -/
theorem feet_set_nd {l : Sl} {i : Nat} {x : Option S} (hl : (feet l).Nodup) (hx : (foot x).Nodup) (hn : ∀ b ∈ foot x, b ∉ feet l) : (feet (l.set i x)).Nodup ∧ ∀ b ∈ feet (l.set i x), b ∈ feet l ∨ b ∈ foot x := by
  induction l generalizing i with
  | nil => exact ⟨hl, fun b hb => .inl hb⟩
  | cons y r ih =>
    have hl' : (foot y ++ feet r).Nodup := hl
    have hr := (List.nodup_append.mp hl').2.1
    have hn' : ∀ b ∈ foot x, b ∉ foot y ∧ b ∉ feet r := fun b hb => ⟨fun z => hn b hb (show b ∈ foot y ++ feet r from List.mem_append_left _ z), fun z => hn b hb (show b ∈ foot y ++ feet r from List.mem_append_right _ z)⟩
    cases i with
    | zero =>
      show (foot x ++ feet r).Nodup ∧ ∀ b ∈ foot x ++ feet r, b ∈ foot y ++ feet r ∨ b ∈ foot x
      refine ⟨List.nodup_append.mpr ⟨hx, hr, fun b hb c hc e => (hn' b hb).2 (e ▸ hc)⟩, fun b hb => ?_⟩
      rcases List.mem_append.mp hb with z | z
      · exact .inr z
      · exact .inl (List.mem_append_right _ z)
    | succ i =>
      obtain ⟨h1, h2⟩ := ih (i := i) hr fun b hb => (hn' b hb).2
      show (foot y ++ feet (r.set i x)).Nodup ∧ ∀ b ∈ foot y ++ feet (r.set i x), b ∈ foot y ++ feet r ∨ b ∈ foot x
      refine ⟨List.nodup_append.mpr ⟨(List.nodup_append.mp hl').1, h1, fun b hb c hc e => ?_⟩, fun b hb => ?_⟩
      · subst e
        rcases h2 b hc with z | z
        · exact (List.nodup_append.mp hl').2.2 b hb b z rfl
        · exact (hn' b z).1 hb
      · rcases List.mem_append.mp hb with z | z
        · exact .inl (List.mem_append_left _ z)
        · rcases h2 b z with z | z
          · exact .inl (List.mem_append_right _ z)
          · exact .inr z

section
variable {K : PySem.W.Frag} {G : Gm} {H Hf H' Hf' : Hp} {σ : L2.St} {l : Sl}
theorem SOk.grow {v : V} {s : S} (h : SOk K H Hf v s) (f : Frm [] H Hf H' Hf') (sb : Same Hf H) : SOk K H' Hf' v s := by
  cases s with
  | val d => exact Dv.mono (f.sameF sb) h
  | own p ds =>
    obtain ⟨e, vs, h1, h2⟩ := h
    exact ⟨e, vs, f.keep p _ (fun z => nomatch z) h1, h2.mono (f.sameF sb)⟩
  | drw a b =>
    obtain ⟨e, ns, k, h1, h2, h3⟩ := h
    exact ⟨e, ns, k, f.keep a _ (fun z => nomatch z) h1, f.keep b _ (fun z => nomatch z) h2, h3⟩
  | scr =>
    obtain ⟨a, ns, e, h1, h2⟩ := h
    exact ⟨a, ns, e, (f.sameF sb).seq h1, h2⟩
  | exn C =>
    obtain ⟨a, e, h1⟩ := h
    exact ⟨a, e, f.sameF sb _ _ h1⟩
  | rdr p dx l C now past =>
    obtain ⟨e, vn, vs, h1, h2, h3, h4, h5⟩ := h
    exact ⟨e, vn, vs, f.keep p _ (fun z => nomatch z) h1, f.keep dx _ (fun z => nomatch z) h2, f.keep l _ (fun z => nomatch z) h3, h4.mono (f.sameF sb), h5.mono (f.sameF sb)⟩
theorem SOk.there {v : V} {s : S} (h : SOk K H Hf v s) {b : Addr} (hb : b ∈ foot (some s)) : ∃ o, H b = some o := by
  cases s with
  | val d => exact nomatch hb
  | own p ds =>
    obtain ⟨e, vs, h1, h2⟩ := h
    have e : b = p := by simpa [foot] using hb
    exact ⟨_, e ▸ h1⟩
  | drw a c =>
    obtain ⟨e, ns, k, h1, h2, h3⟩ := h
    have e : b = a ∨ b = c := by simpa [foot] using hb
    rcases e with e | e
    · exact ⟨_, e ▸ h1⟩
    · exact ⟨_, e ▸ h2⟩
  | scr => exact nomatch hb
  | exn C => exact nomatch hb
  | rdr p dx l C now past =>
    obtain ⟨e, vn, vs, h1, h2, h3, h4, h5⟩ := h
    have e : b = p ∨ b = dx ∨ b = l := by simpa [foot] using hb
    rcases e with e | e | e
    · exact ⟨_, e ▸ h1⟩
    · exact ⟨_, e ▸ h2⟩
    · exact ⟨_, e ▸ h3⟩
theorem Rep.there (R : Rep K G H Hf σ l) {b : Addr} (hb : b ∈ feet l) : ∃ o, H b = some o := by
  obtain ⟨x, hx, hb⟩ := List.mem_flatMap.mp hb
  obtain ⟨i, hi⟩ := List.getElem?_of_mem hx
  cases x with
  | none => exact nomatch hb
  | some s =>
    obtain ⟨v, _, h⟩ := R.slot i s hi
    exact h.there hb
theorem Rep.grow (R : Rep K G H Hf σ l) (f : Frm [] H Hf H' Hf') : Rep K G H' Hf' σ l := by
  refine ⟨R.len, fun i s h => ?_, R.nd, fun b hb => ?_, R.ownNew, R.frm.trans0 f⟩
  · obtain ⟨v, e, q⟩ := R.slot i s h
    exact ⟨v, e, q.grow f R.frm.sub⟩
  · obtain ⟨o, ho⟩ := R.there hb
    rw [f.fz b o ho]
    exact R.free b hb
theorem Rep.sub (R : Rep K G H Hf σ l) : Same Hf H := R.frm.sub
/-- a slot forgotten -/
theorem Rep.forget (R : Rep K G H Hf σ l) (i : Nat) (o : Option V) : Rep K G H Hf (σ.set i o) (l.set i none) := by
  have sl : (feet (l.set i none)).Sublist (feet l) := feet_set_sub rfl
  have old : ∀ (j : Nat) (s : S), (l.set i none)[j]? = some (some s) → i ≠ j ∧ l[j]? = some (some s) := fun j s h => by
    by_cases e : i = j
    · subst e
      rw [List.getElem?_set_self'] at h
      cases q : l[i]? with
      | none => rw [q] at h; simp at h
      | some y => rw [q] at h; simp at h
    · rw [List.getElem?_set_ne e] at h
      exact ⟨e, h⟩
  refine ⟨by simp [R.len], fun j s h => ?_, R.nd.sublist sl, fun b hb => R.free b (sl.subset hb), fun j p ds h => R.ownNew j p ds (old j _ h).2, R.frm⟩
  obtain ⟨e, h⟩ := old j s h
  rw [List.getElem?_set_ne e]
  exact R.slot j s h
/-- data stored -/
theorem Rep.put (R : Rep K G H Hf σ l) (i : Nat) {v : V} {d : PyData} (h : Dv K Hf v d) : Rep K G H Hf (σ.set i (some v)) (l.set i (some (.val d))) := by
  have sl : (feet (l.set i (some (.val d)))).Sublist (feet l) := feet_set_sub rfl
  refine ⟨by simp [R.len], fun j s q => ?_, R.nd.sublist sl, fun b hb => R.free b (sl.subset hb), fun j p ds q => ?_, R.frm⟩
  · by_cases e : i = j
    · subst e
      have hlt : i < l.length := by
        have z := (List.getElem?_eq_some_iff.mp q).1
        simpa using z
      rw [List.getElem?_set_self hlt] at q
      have e : s = .val d := by simpa using q.symm
      subst e
      exact ⟨v, List.getElem?_set_self (by rw [R.len]; exact hlt), h⟩
    · rw [List.getElem?_set_ne e] at q
      rw [List.getElem?_set_ne e]
      exact R.slot j s q
  · by_cases e : i = j
    · subst e
      have hlt : i < l.length := by
        have z := (List.getElem?_eq_some_iff.mp q).1
        simpa using z
      rw [List.getElem?_set_self hlt] at q
      simp at q
    · rw [List.getElem?_set_ne e] at q
      exact R.ownNew j p ds q
/-- an exception stored -/
theorem Rep.putExn (R : Rep K G H Hf σ l) (i : Nat) {v : V} {C a : Addr} (hv : v = .ref a) (h : Hf a = some (ExK C a)) : Rep K G H Hf (σ.set i (some v)) (l.set i (some (.exn C))) := by
  have sl : (feet (l.set i (some (.exn C)))).Sublist (feet l) := feet_set_sub rfl
  refine ⟨by simp [R.len], fun j s q => ?_, R.nd.sublist sl, fun b hb => R.free b (sl.subset hb), fun j p ds q => ?_, R.frm⟩
  · by_cases e : i = j
    · subst e
      have hlt : i < l.length := by
        have z := (List.getElem?_eq_some_iff.mp q).1
        simpa using z
      rw [List.getElem?_set_self hlt] at q
      have e : s = .exn C := by simpa using q.symm
      subst e
      exact ⟨v, List.getElem?_set_self (by rw [R.len]; exact hlt), a, hv, h⟩
    · rw [List.getElem?_set_ne e] at q
      rw [List.getElem?_set_ne e]
      exact R.slot j s q
  · by_cases e : i = j
    · subst e
      have hlt : i < l.length := by
        have z := (List.getElem?_eq_some_iff.mp q).1
        simpa using z
      rw [List.getElem?_set_self hlt] at q
      simp at q
    · rw [List.getElem?_set_ne e] at q
      exact R.ownNew j p ds q
/-- a new list, one's own, stored -/
theorem Rep.putOwn (R : Rep K G H Hf σ l) (i : Nat) {p : Addr} {vs : List V} {ds : List PyData} (hp : H p = none) (h : DvAll K Hf vs ds) : Rep K G (upd H p (.lst vs)) Hf (σ.set i (some (.ref p))) (l.set i (some (.own p ds))) := by
  have R1 : Rep K G (upd H p (.lst vs)) Hf σ l := R.grow (Frm.newOwn R.sub hp)
  have nin : p ∉ feet l := fun z => by
    obtain ⟨o, ho⟩ := R.there z
    rw [hp] at ho
    cases ho
  have hf0 : G.H0 p = none := by
    cases e : G.H0 p with
    | none => rfl
    | some o =>
      obtain ⟨o', e'⟩ := R.frm.there p o e
      rw [hp] at e'
      cases e'
  have hff : Hf p = none := by
    cases e : Hf p with
    | none => rfl
    | some o =>
      have e' := R.sub p o e
      rw [hp] at e'
      cases e'
  obtain ⟨n1, n2⟩ := feet_set_nd (i := i) (x := some (.own p ds)) R.nd (by simp [foot]) (fun b hb => by
    have e : b = p := by simpa [foot] using hb
    rw [e]
    exact nin)
  refine ⟨by simp [R.len], fun j s q => ?_, n1, fun b hb => ?_, fun j p' ds' q => ?_, R1.frm⟩
  · by_cases e : i = j
    · subst e
      have hlt : i < l.length := by
        have z := (List.getElem?_eq_some_iff.mp q).1
        simpa using z
      rw [List.getElem?_set_self hlt] at q
      have e : s = .own p ds := by simpa using q.symm
      subst e
      exact ⟨.ref p, List.getElem?_set_self (by rw [R.len]; exact hlt), rfl, vs, upd_same, h⟩
    · rw [List.getElem?_set_ne e] at q
      rw [List.getElem?_set_ne e]
      exact R1.slot j s q
  · rcases n2 b hb with z | z
    · exact R.free b z
    · have e : b = p := by simpa [foot] using z
      rw [e]
      exact ⟨hff, .inr hf0⟩
  · by_cases e : i = j
    · subst e
      have hlt : i < l.length := by
        have z := (List.getElem?_eq_some_iff.mp q).1
        simpa using z
      rw [List.getElem?_set_self hlt] at q
      have e : p = p' := by
        have z : S.own p ds = S.own p' ds' := by simpa using q
        exact (S.own.inj z).1
      rw [← e]
      exact hf0
    · rw [List.getElem?_set_ne e] at q
      exact R.ownNew j p' ds' q
theorem feet_ne {i j : Nat} {s s' : S} (nd : (feet l).Nodup) (hi : l[i]? = some (some s)) (hj : l[j]? = some (some s')) (ne : i ≠ j) {b c : Addr} (hb : b ∈ foot (some s)) (hc : c ∈ foot (some s')) : b ≠ c := by
  induction l generalizing i j with
  | nil => simp at hi
  | cons x r ih =>
    have nd' : (foot x ++ feet r).Nodup := nd
    have h3 := (List.nodup_append.mp nd').2.2
    cases i with
    | zero =>
      cases j with
      | zero => exact absurd rfl ne
      | succ j =>
        have e : x = some s := by simpa using hi
        subst e
        exact h3 b hb c (mem_feet (by simpa using hj) hc)
    | succ i =>
      cases j with
      | zero =>
        have e : x = some s' := by simpa using hj
        subst e
        exact fun z => h3 c hc b (mem_feet (by simpa using hi) hb) z.symm
      | succ j => exact ih (List.nodup_append.mp nd').2.1 (by simpa using hi) (by simpa using hj) (by omega)
/-- one's own list changed -/
theorem Rep.mutOwn (R : Rep K G H Hf σ l) {i : Nat} {p : Addr} {ds es : List PyData} {vs : List V} (hi : l[i]? = some (some (.own p ds))) (h : DvAll K Hf vs es) : Rep K G (upd H p (.lst vs)) Hf σ (l.set i (some (.own p es))) := by
  have hlt : i < l.length := (List.getElem?_eq_some_iff.mp hi).1
  have ft : feet (l.set i (some (.own p es))) = feet l := feet_set_same hi rfl
  have pin : p ∈ feet l := mem_feet hi (by simp [foot])
  obtain ⟨pf, pe⟩ := R.free p pin
  refine ⟨by simp [R.len], fun j s q => ?_, by rw [ft]; exact R.nd, fun b hb => R.free b (ft ▸ hb), fun j p' ds' q => ?_, ?_⟩
  · by_cases e : i = j
    · subst e
      rw [List.getElem?_set_self hlt] at q
      have e : s = .own p es := by simpa using q.symm
      subst e
      obtain ⟨v, e1, e2, _⟩ := R.slot i _ hi
      exact ⟨v, e1, e2, vs, upd_same, h⟩
    · rw [List.getElem?_set_ne e] at q
      obtain ⟨v, e1, e2⟩ := R.slot j s q
      refine ⟨v, e1, ?_⟩
      have ne : ∀ b ∈ foot (some s), b ≠ p := fun b hb => feet_ne R.nd q hi (fun z => e z.symm) hb (by simp [foot])
      cases s with
      | val d => exact e2
      | own p' ds' =>
        obtain ⟨e3, ws, h1, h2⟩ := e2
        exact ⟨e3, ws, by rw [upd_ne (ne p' (by simp [foot]))]; exact h1, h2⟩
      | drw a b =>
        obtain ⟨e3, ns, k, h1, h2, h3⟩ := e2
        exact ⟨e3, ns, k, by rw [upd_ne (ne a (by simp [foot]))]; exact h1, by rw [upd_ne (ne b (by simp [foot]))]; exact h2, h3⟩
      | scr => exact e2
      | exn C => exact e2
      | rdr pp dx l C now past =>
        obtain ⟨e3, vn, ws, h1, h2, h3, h4, h5⟩ := e2
        exact ⟨e3, vn, ws, by rw [upd_ne (ne pp (by simp [foot]))]; exact h1, by rw [upd_ne (ne dx (by simp [foot]))]; exact h2, by rw [upd_ne (ne l (by simp [foot]))]; exact h3, h4, h5⟩
  · by_cases e : i = j
    · subst e
      rw [List.getElem?_set_self hlt] at q
      have e : p = p' := by
        have z : S.own p es = S.own p' ds' := by simpa using q
        exact (S.own.inj z).1
      rw [← e]
      exact R.ownNew i p ds hi
    · rw [List.getElem?_set_ne e] at q
      exact R.ownNew j p' ds' q
  · refine R.frm.trans (Frm.mut (ex := [p]) R.sub (by simp) pf) fun b hb => ?_
    have e : b = p := by simpa using hb
    rw [e]
    exact pe
/-- a list of one's own is left as it is from now on -/
theorem Rep.freeze (R : Rep K G H Hf σ l) {i : Nat} {p : Addr} {ds : List PyData} (hi : l[i]? = some (some (.own p ds))) : ∃ Hf', Same Hf Hf' ∧ Rep K G H Hf' σ (l.set i (some (.val (.list ds)))) := by
  have hlt : i < l.length := (List.getElem?_eq_some_iff.mp hi).1
  have pin : p ∈ feet l := mem_feet hi (by simp [foot])
  obtain ⟨pf, _⟩ := R.free p pin
  have p0 := R.ownNew i p ds hi
  obtain ⟨v, e1, e2, vs, e3, e4⟩ := R.slot i _ hi
  have sm : Same Hf (upd Hf p (.lst vs)) := same_upd pf
  have sl : (feet (l.set i (some (.val (.list ds))))).Sublist (feet l) := feet_set_sub rfl
  refine ⟨upd Hf p (.lst vs), sm, by simp [R.len], fun j s q => ?_, R.nd.sublist sl, fun b hb => ?_, fun j p' ds' q => ?_, ⟨R.frm.keep, R.frm.there, fun b o e => ?_, fun b o e => ?_⟩⟩
  · by_cases e : i = j
    · subst e
      rw [List.getElem?_set_self hlt] at q
      have e : s = .val (.list ds) := by simpa using q.symm
      subst e
      refine ⟨v, e1, ?_⟩
      subst e2
      exact .lst' upd_same (e4.mono sm)
    · rw [List.getElem?_set_ne e] at q
      obtain ⟨v, e1, e2⟩ := R.slot j s q
      refine ⟨v, e1, ?_⟩
      cases s with
      | val d => exact Dv.mono sm e2
      | own p' ds' =>
        obtain ⟨e3, ws, h1, h2⟩ := e2
        exact ⟨e3, ws, h1, h2.mono sm⟩
      | drw a b => exact e2
      | scr =>
        obtain ⟨a, ns, e, h1, h2⟩ := e2
        exact ⟨a, ns, e, sm.seq h1, h2⟩
      | exn C =>
        obtain ⟨a, e, h1⟩ := e2
        exact ⟨a, e, sm _ _ h1⟩
      | rdr pp dx l C now past =>
        obtain ⟨e3, vn, ws, h1, h2, h3, h4, h5⟩ := e2
        exact ⟨e3, vn, ws, h1, h2, h3, h4.mono sm, h5.mono sm⟩
  · obtain ⟨f1, f2⟩ := R.free b (sl.subset hb)
    have nb : b ≠ p := fun z => by
      subst z
      obtain ⟨x, hx, hb2⟩ := List.mem_flatMap.mp hb
      obtain ⟨j, hj⟩ := List.getElem?_of_mem hx
      by_cases e : i = j
      · subst e
        rw [List.getElem?_set_self hlt] at hj
        have e : x = some (.val (.list ds)) := by simpa using hj.symm
        subst e
        exact nomatch hb2
      · rw [List.getElem?_set_ne e] at hj
        cases x with
        | none => exact nomatch hb2
        | some s => exact feet_ne R.nd hj hi (fun z => e z.symm) hb2 (by simp [foot]) rfl
    rw [upd_ne nb]
    exact ⟨f1, f2⟩
  · by_cases e : i = j
    · subst e
      rw [List.getElem?_set_self hlt] at q
      simp at q
    · rw [List.getElem?_set_ne e] at q
      exact R.ownNew j p' ds' q
  · rw [upd_ne (ne_of_none e p0)]
    exact R.frm.fz b o e
  · by_cases hb : b = p
    · subst hb
      rw [upd_same] at e
      rw [← e]
      exact e3
    · rw [upd_ne hb] at e
      exact R.sub b o e
/-- what was done may have changed the things at ex2: the slots that stand there are shown anew -/
theorem Rep.growEx {ex2 : List Addr} (R : Rep K G H Hf σ l) (f : Frm ex2 H Hf H' Hf') (he : ∀ b ∈ ex2, b ∈ G.ex ∨ G.H0 b = none)
    (hs : ∀ (i : Nat) (s : S) (v : V), l[i]? = some (some s) → σ[i]? = some (some v) → SOk K H Hf v s → (∀ b ∈ foot (some s), b ∉ ex2) ∨ SOk K H' Hf' v s) : Rep K G H' Hf' σ l := by
  refine ⟨R.len, fun i s h => ?_, R.nd, fun b hb => ?_, R.ownNew, R.frm.trans f he⟩
  · obtain ⟨v, e, q⟩ := R.slot i s h
    refine ⟨v, e, ?_⟩
    rcases hs i s v h e q with z | z
    · cases s with
      | val d => exact Dv.mono (f.sameF R.sub) q
      | own p ds =>
        obtain ⟨e, vs, h1, h2⟩ := q
        exact ⟨e, vs, f.keep p _ (z p (by simp [foot])) h1, h2.mono (f.sameF R.sub)⟩
      | drw a b =>
        obtain ⟨e, ns, k, h1, h2, h3⟩ := q
        exact ⟨e, ns, k, f.keep a _ (z a (by simp [foot])) h1, f.keep b _ (z b (by simp [foot])) h2, h3⟩
      | scr =>
        obtain ⟨a, ns, e, h1, h2⟩ := q
        exact ⟨a, ns, e, (f.sameF R.sub).seq h1, h2⟩
      | exn C =>
        obtain ⟨a, e, h1⟩ := q
        exact ⟨a, e, f.sameF R.sub _ _ h1⟩
      | rdr q dx l C now past =>
        obtain ⟨e, vn, vs, h1, h2, h3, h4, h5⟩ := q
        exact ⟨e, vn, vs, f.keep _ _ (z _ (by simp [foot])) h1, f.keep dx _ (z dx (by simp [foot])) h2, f.keep l _ (z l (by simp [foot])) h3, h4.mono (f.sameF R.sub), h5.mono (f.sameF R.sub)⟩
    · exact z
  · obtain ⟨o, ho⟩ := R.there hb
    rw [f.fz b o ho]
    exact R.free b hb
end
end DL

namespace DL
open PySem PySem.Spec PyProof.Rows L2

/-! ### readings over data -/
abbrev DQ := PyData → Sl → Prop
abbrev DR := Er → Sl → Prop
abbrev DE := Sl → DQ → DR → Prop
abbrev DT := Sl → (Bool → Sl → Prop) → DR → Prop
abbrev DA := Sl → (List PyData → Sl → Prop) → DR → Prop

/-- what the data's ends promise of the run's: a value, frozen -/
def KQ (K : PySem.W.Frag) (G : Gm) (σ : L2.St) (Hf : Hp) (q : DQ) (Q : VK) : Prop := ∀ x l' v H' Hf', q x l' → Rep K G H' Hf' σ l' → Same Hf Hf' → Dv K Hf' v x → Q v H'
/-- a value as it is seen now -/
def KV (K : PySem.W.Frag) (G : Gm) (σ : L2.St) (Hf : Hp) (q : DQ) (Q : VK) : Prop := ∀ x l' v H' Hf', q x l' → Rep K G H' Hf' σ l' → Same Hf Hf' → Dv K H' v x → Q v H'
def KT (K : PySem.W.Frag) (G : Gm) (σ : L2.St) (Hf : Hp) (q : Bool → Sl → Prop) (Q : Bool → Hp → Prop) : Prop := ∀ x l' H' Hf', q x l' → Rep K G H' Hf' σ l' → Same Hf Hf' → Q x H'
def KA (K : PySem.W.Frag) (G : Gm) (σ : L2.St) (Hf : Hp) (n : Nat) (q : List PyData → Sl → Prop) (Q : List V → Hp → Prop) : Prop := ∀ x l' v H' Hf', q x l' → x.length = n → Rep K G H' Hf' σ l' → Same Hf Hf' → DvAll K Hf' v x → Q v H'
def KR (K : PySem.W.Frag) (ca : Er → Addr) (G : Gm) (W : WX) (σ : L2.St) (r : DR) : Prop := ∀ e l' H' Hf', r e l' → Rep K G H' Hf' σ l' → W (.ref (ca e)) none σ H'
def ES (K : PySem.W.Frag) (ca : Er → Addr) (W : WX) (te : TE) (d : DE) : Prop := ∀ (G : Gm) (σ : L2.St) (H Hf : Hp) (l : Sl) (Q : VK) (q : DQ) (r : DR), Rep K G H Hf σ l → KQ K G σ Hf q Q → KR K ca G W σ r → d l q r → te σ H Q
def EV (K : PySem.W.Frag) (ca : Er → Addr) (W : WX) (te : TE) (d : DE) : Prop := ∀ (G : Gm) (σ : L2.St) (H Hf : Hp) (l : Sl) (Q : VK) (q : DQ) (r : DR), Rep K G H Hf σ l → KV K G σ Hf q Q → KR K ca G W σ r → d l q r → te σ H Q
def ET (K : PySem.W.Frag) (ca : Er → Addr) (W : WX) (te : TT) (d : DT) : Prop := ∀ (G : Gm) (σ : L2.St) (H Hf : Hp) (l : Sl) (Q : Bool → Hp → Prop) (q : Bool → Sl → Prop) (r : DR), Rep K G H Hf σ l → KT K G σ Hf q Q → KR K ca G W σ r → d l q r → te σ H Q
def EA (K : PySem.W.Frag) (ca : Er → Addr) (W : WX) (n : Nat) (te : TA) (d : DA) : Prop := ∀ (G : Gm) (σ : L2.St) (H Hf : Hp) (l : Sl) (Q : List V → Hp → Prop) (q : List PyData → Sl → Prop) (r : DR), Rep K G H Hf σ l → KA K G σ Hf n q Q → KR K ca G W σ r → d l q r → te σ H Q
structure PD (X : Cx) (ca : Er → Addr) (W : WX) (e : Expr) (u : TE) (d : DE) : Prop where
  pe : PE X e u
  es : ES X.K ca W u d
structure PV (X : Cx) (ca : Er → Addr) (W : WX) (e : Expr) (u : TE) (d : DE) : Prop where
  pe : PE X e u
  es : EV X.K ca W u d
structure PDT (X : Cx) (ca : Er → Addr) (W : WX) (e : Expr) (u : TT) (d : DT) : Prop where
  pe : PT X e u
  es : ET X.K ca W u d
structure PDW (X : Cx) (ca : Er → Addr) (W : WX) (e : Expr) (u : TT) (d : DT) : Prop where
  pe : PW X e u
  es : ET X.K ca W u d
structure PDA (X : Cx) (ca : Er → Addr) (W : WX) (es : List Expr) (u : TA) (d : DA) : Prop where
  pe : PA X es u
  es : EA X.K ca W es.length u d

def dVar (i : Nat) : DE := fun l Q _ => ∃ d, l[i]? = some (some (.val d)) ∧ Q d l
def dOwn (i : Nat) : DE := fun l Q _ => ∃ p ds, l[i]? = some (some (.own p ds)) ∧ Q (.list ds) l
def dC (d : PyData) : DE := fun l Q _ => Q d l
def dNil : DA := fun l Q _ => Q [] l
def dCons (a : DE) (r : DA) : DA := fun l Q R => a l (fun x l1 => r l1 (fun xs l2 => Q (x :: xs) l2) R) R
def dU (f : PyData → Option PyData) (a : DE) : DE := fun l Q R => a l (fun x l1 => ∃ z, f x = some z ∧ Q z l1) R
def dB (f : PyData → PyData → Option PyData) (a b : DE) : DE := fun l Q R => a l (fun x l1 => b l1 (fun y l2 => ∃ z, f x y = some z ∧ Q z l2) R) R
/-- a comparison -/
def dCmp (f : PyData → PyData → Option Bool) (a b : DE) : DE := fun l Q R => a l (fun x l1 => b l1 (fun y l2 => ∃ z, f x y = some z ∧ Q (.bool z) l2) R) R
def dCmpT (f : PyData → PyData → Option Bool) (a b : DE) : DT := fun l Q R => a l (fun x l1 => b l1 (fun y l2 => ∃ z, f x y = some z ∧ Q z l2) R) R
def dOwnCmp (i : Nat) (f : PyData → PyData → Option Bool) (b : DE) : DE := fun l Q R => ∃ p ds, l[i]? = some (some (.own p ds)) ∧ b l (fun y l2 => ∃ es z, l2[i]? = some (some (.own p es)) ∧ f (.list es) y = some z ∧ Q (.bool z) l2) R
def dOwnCmpT (i : Nat) (f : PyData → PyData → Option Bool) (b : DE) : DT := fun l Q R => ∃ p ds, l[i]? = some (some (.own p ds)) ∧ b l (fun y l2 => ∃ es z, l2[i]? = some (some (.own p es)) ∧ f (.list es) y = some z ∧ Q z l2) R
def dChain (f g : PyData → PyData → Option Bool) (a b c : DE) : DE := fun l Q R => a l (fun x l1 => b l1 (fun y l2 => ∃ z, f x y = some z ∧ if z = true then c l2 (fun w l3 => ∃ u, g y w = some u ∧ Q (.bool u) l3) R else Q (.bool false) l2) R) R
def dChainT (f g : PyData → PyData → Option Bool) (a b c : DE) : DT := fun l Q R => a l (fun x l1 => b l1 (fun y l2 => ∃ z, f x y = some z ∧ if z = true then c l2 (fun w l3 => ∃ u, g y w = some u ∧ Q u l3) R else Q false l2) R) R
def dTest (a : DE) : DT := fun l Q R => a l (fun x l1 => ∃ b, x = .bool b ∧ Q b l1) R
def dAndV (a b : DE) : DE := fun l Q R => a l (fun x l1 => ∃ c, x = .bool c ∧ if c = true then b l1 Q R else Q (.bool false) l1) R
def dOrV (a b : DE) : DE := fun l Q R => a l (fun x l1 => ∃ c, x = .bool c ∧ if c = true then Q (.bool true) l1 else b l1 Q R) R
def dNotV (a : DE) : DE := fun l Q R => a l (fun x l1 => ∃ c, x = .bool c ∧ Q (.bool (!c)) l1) R
def dAnd (a b : DT) : DT := fun l Q R => a l (fun c l1 => if c = true then b l1 Q R else Q false l1) R
def dOr (a b : DT) : DT := fun l Q R => a l (fun c l1 => if c = true then Q true l1 else b l1 Q R) R
def dNot (a : DT) : DT := fun l Q R => a l (fun c l1 => Q (!c) l1) R
def dIf (c : DT) (a b : DE) : DE := fun l Q R => c l (fun k l1 => if k = true then a l1 Q R else b l1 Q R) R
def dTup (a : DA) : DE := fun l Q R => a l (fun xs l1 => xs.length ≤ sizeLine ∧ Q (.tuple xs) l1) R
def dLst (a : DA) : DE := fun l Q R => a l (fun xs l1 => xs.length ≤ sizeLine ∧ Q (.list xs) l1) R

section
variable {X : Cx} {ca : Er → Addr} {W : WX} {a b c e : Expr} {es : List Expr} {ua ub uc : TE} {va vb vc : TT} {da db dc : DE} {ta tb tc : DT} {pos : Pos}


theorem pd_var {i : Nat} (h : PE X e (tVar i)) : PD X ca W e (tVar i) (dVar i) := ⟨h, fun G σ H Hf l Q q r R k _ hd => by
  obtain ⟨d, hi, z⟩ := hd
  obtain ⟨v, e1, e2⟩ := R.slot i _ hi
  exact ⟨v, e1, k _ _ _ _ _ z R (Same.refl _) e2⟩⟩
theorem pv_own {i : Nat} (h : PE X e (tVar i)) : PV X ca W e (tVar i) (dOwn i) := ⟨h, fun G σ H Hf l Q q r R k _ hd => by
  obtain ⟨p, ds, hi, z⟩ := hd
  obtain ⟨v, e1, e2, vs, e3, e4⟩ := R.slot i _ hi
  subst e2
  exact ⟨_, e1, k _ _ _ _ _ z R (Same.refl _) (.lst' e3 (e4.mono R.sub))⟩⟩
theorem PD.pv (h : PD X ca W e ua da) : PV X ca W e ua da := by
  obtain ⟨h1, h2⟩ := h
  exact ⟨h1, fun G σ H Hf l Q q r R k kr hd => h2 G σ H Hf l Q q r R (fun x l' v H' Hf' z R' s d => k x l' v H' Hf' z R' s (d.mono R'.sub)) kr hd⟩
/-- a constant -/
theorem pd_const {v : V} {d : PyData} (h : PE X e (tC v)) (hv : ∀ K H, Dv K H v d) : PD X ca W e (tC v) (dC d) := ⟨h, fun G σ H Hf l Q q r R k _ hd => k _ _ _ _ _ hd R (Same.refl _) (hv _ _)⟩
theorem pd_int {i : Int} {j : Nat} : PD X ca W (.Constant (.int i) j pos) (tC (.int i)) (dC (.int i)) := pd_const pe_int fun _ _ => .int i
theorem pd_bl {i : Bool} {j : Nat} : PD X ca W (.Constant (.bool i) j pos) (tC (.bl i)) (dC (.bool i)) := pd_const pe_bl fun _ _ => .bl i
theorem pd_str {i : Str} {j : Nat} : PD X ca W (.Constant (.str i) j pos) (tC (.str i)) (dC (.str i)) := pd_const pe_str fun _ _ => .str i
theorem pd_non {j : Nat} : PD X ca W (.Constant .none j pos) (tC .non) (dC .none) := pd_const pe_non fun _ _ => .non
/-- arguments -/
theorem pda_nil : PDA X ca W [] tNil dNil := ⟨pa_nil, fun G σ H Hf l Q q r R k _ hd => k _ _ _ _ _ hd rfl R (Same.refl _) .nil⟩
theorem pda_cons {r : DA} {ur : TA} (ha : PD X ca W e ua da) (hr : PDA X ca W es ur r) (hs : starEach (e :: es) X.env = (false, eval e X.env) :: starEach es X.env := by rfl) : PDA X ca W (e :: es) (tCons ua ur) (dCons da r) := by
  obtain ⟨h1, h2⟩ := ha
  obtain ⟨h3, h4⟩ := hr
  refine ⟨pa_cons h1 h3 hs, fun G σ H Hf l Q q r R k kr hd => ?_⟩
  refine h2 G σ H Hf l _ _ r R (fun x l1 v H1 Hf1 z R1 s1 d1 => ?_) kr hd
  refine h4 G σ H1 Hf1 l1 _ _ r R1 (fun xs l2 vs H2 Hf2 z hn R2 s2 d2 => ?_) kr z
  exact k _ _ _ _ _ z (by simp [hn]) R2 (s1.trans s2) (.cons (d1.mono s2) d2)
/-- a binary operator upon frozen data -/
def OpD (K : PySem.W.Frag) (r : R2) (f : PyData → PyData → Option PyData) : Prop := ∀ (x y : V) (dx dy z : PyData) (H Hf : Hp) (Q : VK), Same Hf H → Dv K Hf x dx → Dv K Hf y dy → f dx dy = some z →
  (∀ v H' Hf', Frm [] H Hf H' Hf' → Dv K Hf' v z → Q v H') → r x y H Q
theorem pd_op {op : Operator} {r : R2} {f : PyData → PyData → Option PyData} (ho : OpR X (binaryOp op) r) (hf : OpD X.K r f) (ha : PD X ca W a ua da) (hb : PD X ca W b ub db) : PD X ca W (.BinOp a op b pos) (tOp r ua ub) (dB f da db) := by
  obtain ⟨h1, h2⟩ := ha
  obtain ⟨h3, h4⟩ := hb
  refine ⟨pe_op ho h1 h3, fun G σ H Hf l Q q r R k kr hd => ?_⟩
  refine h2 G σ H Hf l _ _ r R (fun x l1 v H1 Hf1 z R1 s1 d1 => ?_) kr hd
  refine h4 G σ H1 Hf1 l1 _ _ r R1 (fun y l2 v2 H2 Hf2 z R2 s2 d2 => ?_) kr z
  obtain ⟨w, e, z⟩ := z
  exact hf v v2 _ _ _ H2 Hf2 _ R2.sub (d1.mono s2) d2 e fun v3 H3 Hf3 F d3 => k _ _ _ _ _ z (R2.grow F) ((s1.trans s2).trans (F.sameF R2.sub)) d3
/-- the same for a subscript -/
theorem pd_ix {r : R2} {f : PyData → PyData → Option PyData} (hr : IxR X r) (hf : OpD X.K r f) (ha : PD X ca W a ua da) (hb : PD X ca W b ub db) (hs : PlainIx b) : PD X ca W (.Subscript a b pos) (tOp r ua ub) (dB f da db) := by
  obtain ⟨h1, h2⟩ := ha
  obtain ⟨h3, h4⟩ := hb
  refine ⟨pe_ix hr h1 h3 hs, fun G σ H Hf l Q q r R k kr hd => ?_⟩
  refine h2 G σ H Hf l _ _ r R (fun x l1 v H1 Hf1 z R1 s1 d1 => ?_) kr hd
  refine h4 G σ H1 Hf1 l1 _ _ r R1 (fun y l2 v2 H2 Hf2 z R2 s2 d2 => ?_) kr z
  obtain ⟨w, e, z⟩ := z
  exact hf v v2 _ _ _ H2 Hf2 _ R2.sub (d1.mono s2) d2 e fun v3 H3 Hf3 F d3 => k _ _ _ _ _ z (R2.grow F) ((s1.trans s2).trans (F.sameF R2.sub)) d3
/-- a comparison upon data as they are seen -/
def CmD (K : PySem.W.Frag) (r : R2) (f : PyData → PyData → Option Bool) : Prop := ∀ (x y : V) (dx dy : PyData) (z : Bool) (H : Hp) (Q : VK), Dv K H x dx → Dv K H y dy → f dx dy = some z → Q (.bl z) H → r x y H Q
theorem pd_cmp {op : CmpOp} {r : R2} {f : PyData → PyData → Option Bool} (ho : OpR X (compareOp op) r) (hf : CmD X.K r f) (ha : PD X ca W a ua da) (hb : PV X ca W b ub db) (hm : behindInMarks op b = false) : PD X ca W (.Compare a [op] [b] pos) (tOp r ua ub) (dCmp f da db) := by
  obtain ⟨h1, h2⟩ := ha
  obtain ⟨h3, h4⟩ := hb
  refine ⟨pe_cmpR ho h1 h3 hm, fun G σ H Hf l Q q r R k kr hd => ?_⟩
  refine h2 G σ H Hf l _ _ r R (fun x l1 v H1 Hf1 z R1 s1 d1 => ?_) kr hd
  refine h4 G σ H1 Hf1 l1 _ _ r R1 (fun y l2 v2 H2 Hf2 z R2 s2 d2 => ?_) kr z
  obtain ⟨w, e, z⟩ := z
  exact hf v v2 _ _ _ H2 _ (d1.mono (s2.trans R2.sub)) d2 e (k _ _ _ _ _ z R2 (s1.trans s2) (.bl w))
theorem pdt_cmp {op : CmpOp} {r : R2} {f : PyData → PyData → Option Bool} (ho : OpR X (compareOp op) r) (hf : CmD X.K r f) (ha : PD X ca W a ua da) (hb : PV X ca W b ub db) (hm : behindInMarks op b = false) : PDT X ca W (.Compare a [op] [b] pos) (tTest (tOp r ua ub)) (dCmpT f da db) := by
  obtain ⟨h1, h2⟩ := ha
  obtain ⟨h3, h4⟩ := hb
  refine ⟨pt_cmpR ho h1 h3 hm, fun G σ H Hf l Q q r R k kr hd => ?_⟩
  refine h2 G σ H Hf l _ _ r R (fun x l1 v H1 Hf1 z R1 s1 d1 => ?_) kr hd
  refine h4 G σ H1 Hf1 l1 _ _ r R1 (fun y l2 v2 H2 Hf2 z R2 s2 d2 => ?_) kr z
  obtain ⟨w, e, z⟩ := z
  exact hf v v2 _ _ _ H2 _ (d1.mono (s2.trans R2.sub)) d2 e ⟨w, rfl, k _ _ _ _ z R2 (s1.trans s2)⟩
/-- .. the left one a list of one's own -/
theorem pd_ocmp {op : CmpOp} {r : R2} {i : Nat} {f : PyData → PyData → Option Bool} (ho : OpR X (compareOp op) r) (hf : CmD X.K r f) (ha : PE X a (tVar i)) (hb : PV X ca W b ub db) (hm : behindInMarks op b = false) : PD X ca W (.Compare a [op] [b] pos) (tOp r (tVar i) ub) (dOwnCmp i f db) := by
  obtain ⟨h3, h4⟩ := hb
  refine ⟨pe_cmpR ho ha h3 hm, fun G σ H Hf l Q q r R k kr hd => ?_⟩
  obtain ⟨p, ds, hi, hd⟩ := hd
  obtain ⟨v, e1, e2, _⟩ := R.slot i _ hi
  subst e2
  refine ⟨_, e1, ?_⟩
  refine h4 G σ H Hf l _ _ r R (fun y l2 v2 H2 Hf2 z R2 s2 d2 => ?_) kr hd
  obtain ⟨es, w, hi2, e, z⟩ := z
  obtain ⟨v, _, _, vs, e3, e4⟩ := R2.slot i _ hi2
  exact hf _ v2 _ _ _ H2 _ (.lst' e3 (e4.mono R2.sub)) d2 e (k _ _ _ _ _ z R2 s2 (.bl w))
theorem pdt_ocmp {op : CmpOp} {r : R2} {i : Nat} {f : PyData → PyData → Option Bool} (ho : OpR X (compareOp op) r) (hf : CmD X.K r f) (ha : PE X a (tVar i)) (hb : PV X ca W b ub db) (hm : behindInMarks op b = false) : PDT X ca W (.Compare a [op] [b] pos) (tTest (tOp r (tVar i) ub)) (dOwnCmpT i f db) := by
  obtain ⟨h3, h4⟩ := hb
  refine ⟨pt_cmpR ho ha h3 hm, fun G σ H Hf l Q q r R k kr hd => ?_⟩
  obtain ⟨p, ds, hi, hd⟩ := hd
  obtain ⟨v, e1, e2, _⟩ := R.slot i _ hi
  subst e2
  refine ⟨_, e1, ?_⟩
  refine h4 G σ H Hf l _ _ r R (fun y l2 v2 H2 Hf2 z R2 s2 d2 => ?_) kr hd
  obtain ⟨es, w, hi2, e, z⟩ := z
  obtain ⟨v, _, _, vs, e3, e4⟩ := R2.slot i _ hi2
  exact hf _ v2 _ _ _ H2 _ (.lst' e3 (e4.mono R2.sub)) d2 e ⟨w, rfl, k _ _ _ _ z R2 s2⟩
/-- a chain of two -/
theorem pd_chain {op op' : CmpOp} {r r' : R2} {f g : PyData → PyData → Option Bool} (ho : OpR X (compareOp op) r) (hf : CmD X.K r f) (ho' : OpR X (compareOp op') r') (hg : CmD X.K r' g) (ha : PD X ca W a ua da) (hb : PD X ca W b ub db) (hc : PD X ca W c uc dc) (hm : lastMarks [op, op'] [b, c] = false := by rfl) : PD X ca W (.Compare a [op, op'] [b, c] pos) (tChain r r' ua ub uc) (dChain f g da db dc) := by
  obtain ⟨h1, h2⟩ := ha
  obtain ⟨h3, h4⟩ := hb
  obtain ⟨h5, h6⟩ := hc
  refine ⟨pe_chain ho ho' h1 h3 h5 hm, fun G σ H Hf l Q q r R k kr hd => ?_⟩
  refine h2 G σ H Hf l _ _ r R (fun x l1 v H1 Hf1 z R1 s1 d1 => ?_) kr hd
  refine h4 G σ H1 Hf1 l1 _ _ r R1 (fun y l2 v2 H2 Hf2 z R2 s2 d2 => ?_) kr z
  obtain ⟨w, e, z⟩ := z
  refine hf v v2 _ _ _ H2 _ (d1.mono (s2.trans R2.sub)) (d2.mono R2.sub) e ⟨w, rfl, ?_⟩
  cases w with
  | true =>
    rw [if_pos rfl] at z ⊢
    refine h6 G σ H2 Hf2 l2 _ _ r R2 (fun y l3 v3 H3 Hf3 z R3 s3 d3 => ?_) kr z
    obtain ⟨w, e, z⟩ := z
    exact hg v2 v3 _ _ _ H3 _ (d2.mono (s3.trans R3.sub)) (d3.mono R3.sub) e (k _ _ _ _ _ z R3 ((s1.trans s2).trans s3) (.bl w))
  | false =>
    rw [if_neg Bool.false_ne_true] at z ⊢
    exact k _ _ _ _ _ z R2 (s1.trans s2) (.bl _)
theorem pdt_chain {op op' : CmpOp} {r r' : R2} {f g : PyData → PyData → Option Bool} (ho : OpR X (compareOp op) r) (hf : CmD X.K r f) (ho' : OpR X (compareOp op') r') (hg : CmD X.K r' g) (ha : PD X ca W a ua da) (hb : PD X ca W b ub db) (hc : PD X ca W c uc dc) (hm : lastMarks [op, op'] [b, c] = false := by rfl) : PDT X ca W (.Compare a [op, op'] [b, c] pos) (tTest (tChain r r' ua ub uc)) (dChainT f g da db dc) := by
  obtain ⟨h1, h2⟩ := ha
  obtain ⟨h3, h4⟩ := hb
  obtain ⟨h5, h6⟩ := hc
  refine ⟨pt_chain ho ho' h1 h3 h5 hm, fun G σ H Hf l Q q r R k kr hd => ?_⟩
  refine h2 G σ H Hf l _ _ r R (fun x l1 v H1 Hf1 z R1 s1 d1 => ?_) kr hd
  refine h4 G σ H1 Hf1 l1 _ _ r R1 (fun y l2 v2 H2 Hf2 z R2 s2 d2 => ?_) kr z
  obtain ⟨w, e, z⟩ := z
  refine hf v v2 _ _ _ H2 _ (d1.mono (s2.trans R2.sub)) (d2.mono R2.sub) e ⟨w, rfl, ?_⟩
  cases w with
  | true =>
    rw [if_pos rfl] at z ⊢
    refine h6 G σ H2 Hf2 l2 _ _ r R2 (fun y l3 v3 H3 Hf3 z R3 s3 d3 => ?_) kr z
    obtain ⟨w, e, z⟩ := z
    exact hg v2 v3 _ _ _ H3 _ (d2.mono (s3.trans R3.sub)) (d3.mono R3.sub) e ⟨w, rfl, k _ _ _ _ z R3 ((s1.trans s2).trans s3)⟩
  | false =>
    rw [if_neg Bool.false_ne_true] at z ⊢
    exact ⟨_, rfl, k _ _ _ _ z R2 (s1.trans s2)⟩
/-- a value that is a bool, as a test -/
theorem pdt_val (h : PD X ca W e ua da) (he : ∀ whole, isTrue e X.env whole = (do let v ← whole; standAt e.pos; holding [v] (truthy v)) := by intro _; rfl) : PDT X ca W e (L2.tB ua) (dTest da) := by
  obtain ⟨h1, h2⟩ := h
  refine ⟨pt_val h1 he, fun G σ H Hf l Q q r R k kr hd => ?_⟩
  refine h2 G σ H Hf l _ _ r R (fun x l1 v H1 Hf1 z R1 s1 d1 => ?_) kr hd
  obtain ⟨b, rfl, z⟩ := z
  exact ⟨b, d1.bl_inv, k _ _ _ _ z R1 s1⟩
theorem PDW.pt {d : DT} (h : PDW X ca W e va d) : PDT X ca W e va d := by
  obtain ⟨h1, h2⟩ := h
  exact ⟨h1.pt, h2⟩
theorem pdw_and1 (h : PDT X ca W a va ta) : PDW X ca W (.BoolOp .And [a] pos) va ta := by
  obtain ⟨h1, h2⟩ := h
  exact ⟨pw_and1 h1, h2⟩
theorem pdw_or1 (h : PDT X ca W a va ta) : PDW X ca W (.BoolOp .Or [a] pos) va ta := by
  obtain ⟨h1, h2⟩ := h
  exact ⟨pw_or1 h1, h2⟩
theorem pdw_and {rest : List Expr} (ha : PDT X ca W a va ta) (hb : PDW X ca W (.BoolOp .And (b :: rest) pos) vb tb) : PDW X ca W (.BoolOp .And (a :: b :: rest) pos) (tAnd va vb) (dAnd ta tb) := by
  obtain ⟨h1, h2⟩ := ha
  obtain ⟨h3, h4⟩ := hb
  refine ⟨pw_and h1 h3, fun G σ H Hf l Q q r R k kr hd => ?_⟩
  refine h2 G σ H Hf l _ _ r R (fun x l1 H1 Hf1 z R1 s1 => ?_) kr hd
  cases x with
  | true =>
    rw [if_pos rfl] at z ⊢
    exact h4 G σ H1 Hf1 l1 _ _ r R1 (fun x l2 H2 Hf2 z R2 s2 => k _ _ _ _ z R2 (s1.trans s2)) kr z
  | false =>
    rw [if_neg Bool.false_ne_true] at z ⊢
    exact k _ _ _ _ z R1 s1
theorem pdw_or {rest : List Expr} (ha : PDT X ca W a va ta) (hb : PDW X ca W (.BoolOp .Or (b :: rest) pos) vb tb) : PDW X ca W (.BoolOp .Or (a :: b :: rest) pos) (tOr va vb) (dOr ta tb) := by
  obtain ⟨h1, h2⟩ := ha
  obtain ⟨h3, h4⟩ := hb
  refine ⟨pw_or h1 h3, fun G σ H Hf l Q q r R k kr hd => ?_⟩
  refine h2 G σ H Hf l _ _ r R (fun x l1 H1 Hf1 z R1 s1 => ?_) kr hd
  cases x with
  | true =>
    rw [if_pos rfl] at z ⊢
    exact k _ _ _ _ z R1 s1
  | false =>
    rw [if_neg Bool.false_ne_true] at z ⊢
    exact h4 G σ H1 Hf1 l1 _ _ r R1 (fun x l2 H2 Hf2 z R2 s2 => k _ _ _ _ z R2 (s1.trans s2)) kr z
theorem pdt_not (ha : PDT X ca W a va ta) : PDT X ca W (.UnaryOp .Not a pos) (tNot va) (dNot ta) := by
  obtain ⟨h1, h2⟩ := ha
  refine ⟨pt_not h1, fun G σ H Hf l Q q r R k kr hd => ?_⟩
  exact h2 G σ H Hf l _ _ r R (fun x l1 H1 Hf1 z R1 s1 => k _ _ _ _ z R1 s1) kr hd
theorem pd_one {op} (h : PD X ca W a ua da) : PD X ca W (.BoolOp op [a] pos) ua da := by
  obtain ⟨h1, h2⟩ := h
  exact ⟨pe_one h1, h2⟩
theorem pd_and {rest : List Expr} (ha : PD X ca W a ua da) (hb : PD X ca W (.BoolOp .And (b :: rest) pos) ub db) : PD X ca W (.BoolOp .And (a :: b :: rest) pos) (tAndV ua ub) (dAndV da db) := by
  obtain ⟨h1, h2⟩ := ha
  obtain ⟨h3, h4⟩ := hb
  refine ⟨pe_and h1 h3, fun G σ H Hf l Q q r R k kr hd => ?_⟩
  refine h2 G σ H Hf l _ _ r R (fun x l1 v H1 Hf1 z R1 s1 d1 => ?_) kr hd
  obtain ⟨c, rfl, z⟩ := z
  refine ⟨c, d1.bl_inv, ?_⟩
  cases c with
  | true =>
    rw [if_pos rfl] at z ⊢
    exact h4 G σ H1 Hf1 l1 _ _ r R1 (fun x l2 v H2 Hf2 z R2 s2 d2 => k _ _ _ _ _ z R2 (s1.trans s2) d2) kr z
  | false =>
    rw [if_neg Bool.false_ne_true] at z ⊢
    exact k _ _ _ _ _ z R1 s1 (.bl _)
theorem pd_or {rest : List Expr} (ha : PD X ca W a ua da) (hb : PD X ca W (.BoolOp .Or (b :: rest) pos) ub db) : PD X ca W (.BoolOp .Or (a :: b :: rest) pos) (tOrV ua ub) (dOrV da db) := by
  obtain ⟨h1, h2⟩ := ha
  obtain ⟨h3, h4⟩ := hb
  refine ⟨pe_or h1 h3, fun G σ H Hf l Q q r R k kr hd => ?_⟩
  refine h2 G σ H Hf l _ _ r R (fun x l1 v H1 Hf1 z R1 s1 d1 => ?_) kr hd
  obtain ⟨c, rfl, z⟩ := z
  refine ⟨c, d1.bl_inv, ?_⟩
  cases c with
  | true =>
    rw [if_pos rfl] at z ⊢
    exact k _ _ _ _ _ z R1 s1 (.bl _)
  | false =>
    rw [if_neg Bool.false_ne_true] at z ⊢
    exact h4 G σ H1 Hf1 l1 _ _ r R1 (fun x l2 v H2 Hf2 z R2 s2 d2 => k _ _ _ _ _ z R2 (s1.trans s2) d2) kr z
theorem pd_not (ha : PD X ca W a ua da) : PD X ca W (.UnaryOp .Not a pos) (tNotV ua) (dNotV da) := by
  obtain ⟨h1, h2⟩ := ha
  refine ⟨pe_not h1, fun G σ H Hf l Q q r R k kr hd => ?_⟩
  refine h2 G σ H Hf l _ _ r R (fun x l1 v H1 Hf1 z R1 s1 d1 => ?_) kr hd
  obtain ⟨c, rfl, z⟩ := z
  exact ⟨c, d1.bl_inv, k _ _ _ _ _ z R1 s1 (.bl _)⟩
theorem pd_if (hc : PDT X ca W c vc tc) (ha : PD X ca W a ua da) (hb : PD X ca W b ub db) : PD X ca W (.IfExp c a b pos) (tIf vc ua ub) (dIf tc da db) := by
  obtain ⟨h1, h2⟩ := hc
  obtain ⟨h3, h4⟩ := ha
  obtain ⟨h5, h6⟩ := hb
  refine ⟨pe_ifExp h1 h3 h5, fun G σ H Hf l Q q r R k kr hd => ?_⟩
  refine h2 G σ H Hf l _ _ r R (fun x l1 H1 Hf1 z R1 s1 => ?_) kr hd
  cases x with
  | true =>
    rw [if_pos rfl] at z ⊢
    exact h4 G σ H1 Hf1 l1 _ _ r R1 (fun x l2 v H2 Hf2 z R2 s2 d2 => k _ _ _ _ _ z R2 (s1.trans s2) d2) kr z
  | false =>
    rw [if_neg Bool.false_ne_true] at z ⊢
    exact h6 G σ H1 Hf1 l1 _ _ r R1 (fun x l2 v H2 Hf2 z R2 s2 d2 => k _ _ _ _ _ z R2 (s1.trans s2) d2) kr z
theorem pd_tup {x1} {d : DA} {u : TA} (h : PDA X ca W es u d) : PD X ca W (.Tuple es x1 pos) (tTup u) (dTup d) := by
  obtain ⟨h1, h2⟩ := h
  refine ⟨pe_tup h1, fun G σ H Hf l Q q r R k kr hd => ?_⟩
  refine h2 G σ H Hf l _ _ r R (fun xs l1 vs H1 Hf1 z hn R1 s1 d1 => ?_) kr hd
  obtain ⟨hz, z⟩ := z
  refine ⟨by rw [d1.1]; exact hz, fun p hp => ?_⟩
  have F : Frm [] H1 Hf1 (upd H1 p (.tup vs)) (upd Hf1 p (.tup vs)) := Frm.new R1.sub hp
  exact k _ _ _ _ _ z (R1.grow F) (s1.trans (F.sameF R1.sub)) (.tup' (.inl (.inl upd_same)) (d1.mono (F.sameF R1.sub)))
theorem pd_lst {d : DA} {u : TA} (h : PDA X ca W es u d) : PD X ca W (.List es pos) (tLst u) (dLst d) := by
  obtain ⟨h1, h2⟩ := h
  refine ⟨pe_lst h1, fun G σ H Hf l Q q r R k kr hd => ?_⟩
  refine h2 G σ H Hf l _ _ r R (fun xs l1 vs H1 Hf1 z hn R1 s1 d1 => ?_) kr hd
  obtain ⟨hz, z⟩ := z
  refine ⟨by rw [d1.1]; exact hz, fun p hp => ?_⟩
  have F : Frm [] H1 Hf1 (upd H1 p (.lst vs)) (upd Hf1 p (.lst vs)) := Frm.new R1.sub hp
  exact k _ _ _ _ _ z (R1.grow F) (s1.trans (F.sameF R1.sub)) (.lst' upd_same (d1.mono (F.sameF R1.sub)))

/-! ### unary operators, built-ins -/
def UnD (K : PySem.W.Frag) (r : V → Hp → VK → Prop) (f : PyData → Option PyData) : Prop := ∀ (x : V) (dx z : PyData) (H Hf : Hp) (Q : VK), Same Hf H → Dv K Hf x dx → f dx = some z → (∀ v H' Hf', Frm [] H Hf H' Hf' → Dv K Hf' v z → Q v H') → r x H Q
theorem pd_un {op : UnaryOp} {r : V → Hp → VK → Prop} {f : PyData → Option PyData} (ho : UnR X (unaryOp op) r) (hf : UnD X.K r f) (ha : PD X ca W a ua da) : PD X ca W (.UnaryOp op a pos) (tUn r ua) (dU f da) := by
  obtain ⟨h1, h2⟩ := ha
  refine ⟨pe_un ho h1, fun G σ H Hf l Q q r R k kr hd => ?_⟩
  refine h2 G σ H Hf l _ _ r R (fun x l1 v H1 Hf1 z R1 s1 d1 => ?_) kr hd
  obtain ⟨w, e, z⟩ := z
  exact hf v _ _ H1 Hf1 _ R1.sub d1 e fun v3 H3 Hf3 F d3 => k _ _ _ _ _ z (R1.grow F) (s1.trans (F.sameF R1.sub)) d3
/-- a built-in upon its arguments, frozen -/
def CaD (K : PySem.W.Frag) (r : List V → Hp → VK → Prop) (f : List PyData → Option PyData) : Prop := ∀ (xs : List V) (ds : List PyData) (z : PyData) (H Hf : Hp) (Q : VK), Same Hf H → DvAll K Hf xs ds → f ds = some z → (∀ v H' Hf', Frm [] H Hf H' Hf' → Dv K Hf' v z → Q v H') → r xs H Q
def dCaB (f : List PyData → Option PyData) (d : DA) : DE := fun l Q R => d l (fun xs l1 => ∃ z, f xs = some z ∧ Q z l1) R
theorem pd_callB {x : Str} {p : Pos} {id : String} {r : List V → Hp → VK → Prop} {f : List PyData → Option PyData} {d : DA} {u : TA} (hc : CallR X (.builtin id) r) (hf : CaD X.K r f) (hg : Gl X x) (hm : X.mg x = none) (hv : bootBuiltins x = some (.builtin id)) (ha : PDA X ca W (e :: es) u d)
    (hn : x ≠ "__name__" := by decide) (hdb : (x == ("__debug__" : Str)) = false := by decide) (he : starEach (e :: es) X.env = (false, eval e X.env) :: starEach es X.env := by rfl) (hpl : (backTo pos (starEach es X.env)).any (·.1) = false := by rfl) :
    PD X ca W (.Call (.Name x p) (e :: es) [] pos) (tCB r u) (dCaB f d) := by
  obtain ⟨h1, h2⟩ := ha
  refine ⟨pe_callB hc hg hm hv h1 hn hdb he hpl, fun G σ H Hf l Q q r R k kr hd => ?_⟩
  refine h2 G σ H Hf l _ _ r R (fun xs l1 vs H1 Hf1 z hn R1 s1 d1 => ?_) kr hd
  obtain ⟨w, e, z⟩ := z
  exact hf vs _ _ H1 Hf1 _ R1.sub d1 e fun v3 H3 Hf3 F d3 => k _ _ _ _ _ z (R1.grow F) (s1.trans (F.sameF R1.sub)) d3
theorem pd_callTy {x : Str} {p : Pos} {T : String} {r : List V → Hp → VK → Prop} {f : List PyData → Option PyData} {d : DA} {u : TA} (hc : CallR X (.type T) r) (hf : CaD X.K r f) (hg : Gl X x) (hm : X.mg x = none) (hv : bootBuiltins x = some (.type T)) (ha : PDA X ca W (e :: es) u d)
    (hn : x ≠ "__name__" := by decide) (hdb : (x == ("__debug__" : Str)) = false := by decide) (he : starEach (e :: es) X.env = (false, eval e X.env) :: starEach es X.env := by rfl) (hpl : (backTo pos (starEach es X.env)).any (·.1) = false := by rfl) :
    PD X ca W (.Call (.Name x p) (e :: es) [] pos) (tCB r u) (dCaB f d) := by
  obtain ⟨h1, h2⟩ := ha
  refine ⟨pe_callTy hc hg hm hv h1 hn hdb he hpl, fun G σ H Hf l Q q r R k kr hd => ?_⟩
  refine h2 G σ H Hf l _ _ r R (fun xs l1 vs H1 Hf1 z hn R1 s1 d1 => ?_) kr hd
  obtain ⟨w, e, z⟩ := z
  exact hf vs _ _ H1 Hf1 _ R1.sub d1 e fun v3 H3 Hf3 F d3 => k _ _ _ _ _ z (R1.grow F) (s1.trans (F.sameF R1.sub)) d3

/-! ### a def's contract -/
inductive Res where
  | ok (d : PyData)
  | er (e : Er)
/-- from the arguments: what is wanted of the end -/
abbrev Ct := List PyData → (Res → Prop) → Prop
def spD (K : PySem.W.Frag) (ca : Er → Addr) (c : Ct) (n : Nat) : Sp := fun vs H Q E => ∃ (Hf : Hp) (ds : List PyData) (q : Res → Prop), ds.length = n ∧ Same Hf H ∧ DvAll K Hf vs ds ∧ c ds q ∧
  (∀ d v H' Hf', q (.ok d) → Frm [] H Hf H' Hf' → Dv K Hf' v d → Q v H') ∧ (∀ e H' Hf', q (.er e) → Frm [] H Hf H' Hf' → E (.ref (ca e)) none H')
def dCall (c : Ct) (d : DA) : DE := fun l Q R => d l (fun ds l1 => c ds fun r => match r with | .ok x => Q x l1 | .er e => R e l1) R
theorem pd_call {x : Str} {p : Pos} {k n : Nat} {f : Addr} {fd : FuncData} {ps : List Str} {c : Ct} {d : DA} {u : TA} (F : FnOk X.prog X.w X.K X.mg X.base (L2.CX X.prog X.w) k f fd ps (spD X.K ca c n)) (hr : Room k X.A) (hg : Gl X x) (hm : X.mg x = some (.ref f)) (hk : PySem.W.keepIn X.K (.ref f) = true)
    (hb : Binds X.K fd ps []) (tk : Takes X W) (ha : PDA X ca W (e :: es) u d) (hl : (e :: es).length = n := by rfl) (hdb : (x == ("__debug__" : Str)) = false := by decide) (he : starEach (e :: es) X.env = (false, eval e X.env) :: starEach es X.env := by rfl) (hpl : (backTo pos (starEach es X.env)).any (·.1) = false := by rfl) :
    PD X ca W (.Call (.Name x p) (e :: es) [] pos) (tCallS (spD X.K ca c n) (WE W) u) (dCall c d) := by
  obtain ⟨h1, h2⟩ := ha
  refine ⟨pe_callS (E := WE W) F hr hg hm hk hb (fun σ => passAt tk σ) h1 hdb he hpl, fun G σ H Hf l Q q r R k kr hd => ?_⟩
  refine h2 G σ H Hf l _ _ r R (fun xs l1 vs H1 Hf1 z hn R1 s1 d1 => ?_) kr hd
  exact ⟨Hf1, xs, _, hn.trans hl, R1.sub, d1, z, fun d v H' Hf' q' F' dv => k _ _ _ _ _ q' (R1.grow F') (s1.trans (F'.sameF R1.sub)) dv, fun e H' Hf' q' F' => kr _ _ _ _ q' (R1.grow F')⟩
end
end DL

namespace DL
open PySem PySem.Spec PyProof.Rows L2

/-! ### statements -/
structure DEnd where
  nx : Sl → Prop
  rt : PyData → Sl → Prop
  bk : Sl → Prop
  ct : Sl → Prop
  rs : Er → Sl → Prop
abbrev DS := DEnd → Sl → Prop
structure Mt (K : PySem.W.Frag) (ca : Er → Addr) (G : Gm) (W : WX) (Hs : Hp) (D : Ends) (E : DEnd) : Prop where
  nx : ∀ σ' l' H' Hf', E.nx l' → Rep K G H' Hf' σ' l' → Same Hs Hf' → D.nx σ' H'
  rt : ∀ σ' l' v d H' Hf', E.rt d l' → Rep K G H' Hf' σ' l' → Same Hs Hf' → Dv K Hf' v d → D.rt v H'
  bk : ∀ σ' l' H' Hf', E.bk l' → Rep K G H' Hf' σ' l' → Same Hs Hf' → D.bk σ' H'
  ct : ∀ σ' l' H' Hf', E.ct l' → Rep K G H' Hf' σ' l' → Same Hs Hf' → D.ct σ' H'
  rs : ∀ e σ' l' H' Hf', E.rs e l' → Rep K G H' Hf' σ' l' → W (.ref (ca e)) none σ' H'
def SS (K : PySem.W.Frag) (ca : Er → Addr) (W : WX) (t : TS) (d : DS) : Prop := ∀ (G : Gm) (D : Ends) (E : DEnd) (σ : L2.St) (H Hf : Hp) (l : Sl), Rep K G H Hf σ l → Mt K ca G W Hf D E → d E l → t D σ H
structure PDS (X : Cx) (ca : Er → Addr) (W : WX) (s : Stmt) (t : TS) (d : DS) : Prop where
  pe : PS X s t
  es : SS X.K ca W t d
structure PDB (X : Cx) (ca : Er → Addr) (W : WX) (s : List Stmt) (t : TS) (d : DS) : Prop where
  pe : PSs X s t
  es : SS X.K ca W t d
section
variable {K : PySem.W.Frag} {ca : Er → Addr} {G : Gm} {W : WX} {Hs Hs' : Hp} {D : Ends} {E : DEnd}
theorem Mt.later (m : Mt K ca G W Hs D E) (s : Same Hs Hs') : Mt K ca G W Hs' D E :=
  ⟨fun σ' l' H' Hf' h R s' => m.nx σ' l' H' Hf' h R (s.trans s'), fun σ' l' v d H' Hf' h R s' => m.rt σ' l' v d H' Hf' h R (s.trans s'), fun σ' l' H' Hf' h R s' => m.bk σ' l' H' Hf' h R (s.trans s'), fun σ' l' H' Hf' h R s' => m.ct σ' l' H' Hf' h R (s.trans s'), m.rs⟩
theorem Mt.kr (m : Mt K ca G W Hs D E) (σ : L2.St) : KR K ca G W σ E.rs := fun e l' H' Hf' h R => m.rs e σ l' H' Hf' h R
end

def dNext : DS := fun E l => E.nx l
def dSeq (t u : DS) : DS := fun E l => t { E with nx := u E } l
def dBreak : DS := fun E l => E.bk l
def dCont : DS := fun E l => E.ct l
def dNever : DS := fun _ _ => False
def dDrop (d : DE) : DS := fun E l => d l (fun _ l' => E.nx l') E.rs
def dRet (d : DE) : DS := fun E l => d l E.rt E.rs
def dRetN : DS := fun E l => E.rt .none l
def dIfS (c : DT) (t u : DS) : DS := fun E l => c l (fun b l' => if b = true then t E l' else u E l') E.rs
abbrev DG := PyData → Sl → (Sl → Prop) → Prop
abbrev DGs := List PyData → Sl → (Sl → Prop) → Prop
def gN (i : Nat) : DG := fun d l q => q (l.set i (some (.val d)))
def gT (n : Nat) (g : DGs) : DG := fun d l q => ∃ ds, d = .tuple ds ∧ ds.length = n ∧ g ds l q
def gs0 : DGs := fun ds l q => ds = [] ∧ q l
def gs1 (g : DG) (r : DGs) : DGs := fun ds l q => ∃ d t, ds = d :: t ∧ g d l fun l' => r t l' q
def dAsg (d : DE) (g : DG) : DS := fun E l => d l (fun x l' => g x l' E.nx) E.rs
def dPar (i j : Nat) (d : DA) : DS := fun E l => d l (fun xs l' => ∃ x y, xs = [x, y] ∧ E.nx ((l'.set i (some (.val x))).set j (some (.val y)))) E.rs
def dPar3 (i j k : Nat) (d : DA) : DS := fun E l => d l (fun xs l' => ∃ x y z, xs = [x, y, z] ∧ E.nx (((l'.set i (some (.val x))).set j (some (.val y))).set k (some (.val z)))) E.rs
def dAug (i : Nat) (f : PyData → PyData → Option PyData) (d : DE) : DS := fun E l => ∃ x, l[i]? = some (some (.val x)) ∧ d l (fun y l' => ∃ z, f x y = some z ∧ E.nx (l'.set i (some (.val z)))) E.rs
def dOwnNil (i : Nat) : DS := fun E l => ∀ p, E.nx (l.set i (some (.own p [])))
def dApp (i : Nat) (d : DE) : DS := fun E l => ∃ p ds, l[i]? = some (some (.own p ds)) ∧ d l (fun y l' => ∃ es, l'[i]? = some (some (.own p es)) ∧ es.length < sizeLine ∧ E.nx (l'.set i (some (.own p (es ++ [y]))))) E.rs
def dFreeze (i : Nat) (t : DS) : DS := fun E l => ∃ p ds, l[i]? = some (some (.own p ds)) ∧ t E (l.set i (some (.val (.list ds))))
def forW (g : DG) (t : DS) (E : DEnd) : List PyData → Sl → Prop
  | [], l => E.nx l
  | x :: xs, l => g x l fun l2 => t { E with nx := forW g t E xs, ct := forW g t E xs, bk := E.nx } l2
abbrev DI := Sl → (List PyData → Sl → Prop) → DR → Prop
def dFor (w : DI) (g : DG) (t : DS) : DS := fun E l => w l (fun xs l' => forW g t E xs l') E.rs
def whW (c : DT) (t : DS) (E : DEnd) : Nat → Sl → Prop
  | 0, _ => False
  | n + 1, l => c l (fun b l' => if b = true then t { E with nx := whW c t E n, ct := whW c t E n, bk := E.nx } l' else E.nx l') E.rs
def dWhile (c : DT) (t : DS) : DS := fun E l => ∃ n, whW c t E n l

section
variable {X : Cx} {ca : Er → Addr} {W : WX} {a b c e : Expr} {es : List Expr} {ua ub uc : TE} {va vb vc : TT} {da db dc : DE} {ta tb tc : DT} {pos : Pos} {st : Stmt} {rest sa sb : List Stmt} {t u : TS} {d d' : DS}
theorem pdb_nil : PDB X ca W [] tNext dNext := ⟨pss_nil, fun G D E σ H Hf l R m h => m.nx _ _ _ _ h R (Same.refl _)⟩
theorem pdb_cons (h1 : PDS X ca W st t d) (h2 : PDB X ca W rest u d') : PDB X ca W (st :: rest) (tSeq t u) (dSeq d d') :=
  ⟨pss_cons h1.pe h2.pe, fun G D E σ H Hf l R m h => h1.es G { D with nx := u D } { E with nx := d' E } σ H Hf l R
    ⟨fun σ' l' H' Hf' z R' s => h2.es G D E σ' H' Hf' l' R' (m.later s) z, m.rt, m.bk, m.ct, m.rs⟩ h⟩
theorem pdb_one (h : PDS X ca W st t d) : PDB X ca W [st] t d := ⟨pss_one h.pe, h.es⟩
theorem pds_pass : PDS X ca W (.Pass pos) tNext dNext := ⟨ps_pass, fun G D E σ H Hf l R m h => m.nx _ _ _ _ h R (Same.refl _)⟩
theorem pds_break : PDS X ca W (.Break pos) tBreak dBreak := ⟨ps_break, fun G D E σ H Hf l R m h => m.bk _ _ _ _ h R (Same.refl _)⟩
theorem pds_continue : PDS X ca W (.Continue pos) tCont dCont := ⟨ps_continue, fun G D E σ H Hf l R m h => m.ct _ _ _ _ h R (Same.refl _)⟩
theorem pds_never : PDS X ca W st tNever dNever := ⟨ps_never, fun G D E σ H Hf l R m h => h⟩
theorem pdb_never : PDB X ca W rest tNever dNever := ⟨pss_never, fun G D E σ H Hf l R m h => h⟩
theorem pds_expr (h : PD X ca W e ua da) (hs : swapsWith e none pos.line X.env = pure false := by rfl) : PDS X ca W (.Expr e pos) (tDrop ua) (dDrop da) :=
  ⟨ps_expr h.pe hs, fun G D E σ H Hf l R m z => h.es G σ H Hf l _ _ E.rs R (fun x l' v H' Hf' q R' s _ => m.nx _ _ _ _ q R' s) (m.kr σ) z⟩
theorem pds_ret (h : PD X ca W e ua da) : PDS X ca W (.Return (some e) pos) (tRet ua) (dRet da) :=
  ⟨ps_ret h.pe, fun G D E σ H Hf l R m z => h.es G σ H Hf l _ _ E.rs R (fun x l' v H' Hf' q R' s dv => m.rt _ _ _ _ _ _ q R' s dv) (m.kr σ) z⟩
theorem pds_retN : PDS X ca W (.Return none pos) tRetN dRetN := ⟨ps_retN, fun G D E σ H Hf l R m z => m.rt _ _ _ _ _ _ z R (Same.refl _) .non⟩
theorem pds_if (h : PDT X ca W c vc tc) (h1 : PDB X ca W sa t d) (h2 : PDB X ca W sb u d') : PDS X ca W (.If c sa sb pos) (tIfS vc t u) (dIfS tc d d') :=
  ⟨ps_if h.pe h1.pe h2.pe, fun G D E σ H Hf l R m z => h.es G σ H Hf l _ _ E.rs R (fun x l' H' Hf' q R' s => by
    cases x with
    | true =>
      rw [if_pos rfl] at q ⊢
      exact h1.es G D E σ H' Hf' l' R' (m.later s) q
    | false =>
      rw [if_neg Bool.false_ne_true] at q ⊢
      exact h2.es G D E σ H' Hf' l' R' (m.later s) q) (m.kr σ) z⟩
theorem pdb_freeze {i : Nat} (h : PDB X ca W rest t d) : PDB X ca W rest t (dFreeze i d) := ⟨h.pe, fun G D E σ H Hf l R m z => by
  obtain ⟨p, ds, hi, z⟩ := z
  obtain ⟨Hf', s, R'⟩ := R.freeze hi
  exact h.es G D E σ H Hf' _ R' (m.later s) z⟩

/-! targets -/
def GS (K : PySem.W.Frag) (g : TG) (d : DG) : Prop := ∀ (G : Gm) (σ : L2.St) (H Hf : Hp) (l : Sl) (v : V) (x : PyData) (Q : L2.St → Hp → Prop) (q : Sl → Prop), Rep K G H Hf σ l → Dv K Hf v x → (∀ σ' l', q l' → Rep K G H Hf σ' l' → Q σ' H) → d x l q → g v σ H Q
def GSs (K : PySem.W.Frag) (g : TGs) (d : DGs) : Prop := ∀ (G : Gm) (σ : L2.St) (H Hf : Hp) (l : Sl) (v : List V) (x : List PyData) (Q : L2.St → Hp → Prop) (q : Sl → Prop), Rep K G H Hf σ l → DvAll K Hf v x → (∀ σ' l', q l' → Rep K G H Hf σ' l' → Q σ' H) → d x l q → g v σ H Q
structure PDG (X : Cx) (e : Expr) (g : TG) (d : DG) : Prop where
  pe : PG X e g
  es : GS X.K g d
structure PDGs (X : Cx) (e : List Expr) (g : TGs) (d : DGs) : Prop where
  pe : PGs X e g
  es : GSs X.K g d
theorem pdg_name {i : Nat} (h : PG X e (gName i)) : PDG X e (gName i) (gN i) := ⟨h, fun G σ H Hf l v x Q q R dv k z => k _ _ z (R.put i dv)⟩
theorem pdgs_nil : PDGs X [] gNil gs0 := ⟨pgs_nil, fun G σ H Hf l v x Q q R dv k z => by
  obtain ⟨rfl, z⟩ := z
  exact ⟨dv.nil_inv, k _ _ z R⟩⟩
theorem pdgs_cons {g : TG} {r : TGs} {dg : DG} {dr : DGs} (h1 : PDG X e g dg) (h2 : PDGs X es r dr) (hs : (assignEach (e :: es) X.env).map (·.2) = assign e X.env :: (assignEach es X.env).map (·.2) := by rfl) : PDGs X (e :: es) (gCons g r) (gs1 dg dr) :=
  ⟨pgs_cons h1.pe h2.pe hs, fun G σ H Hf l v x Q q R dv k z => by
    obtain ⟨x1, x2, rfl, z⟩ := z
    obtain ⟨v1, v2, rfl, hv1, hv2⟩ := dv.cons_inv
    exact ⟨v1, v2, rfl, h1.es G σ H Hf l v1 x1 _ _ R hv1 (fun σ' l' z R' => h2.es G σ' H Hf l' v2 x2 _ _ R' hv2 k z) z⟩⟩
theorem pdg_tup {k n : Nat} {g : TGs} {dg : DGs} (hc : X.calm = true) (h : PDGs X es g dg) (hn : (assignEach es X.env).length = n := by rfl) (hst : (assignEach es X.env).findIdx? (·.1) = none := by rfl) : PDG X (.Tuple es k pos) (gTup X.K n g) (gT n dg) :=
  ⟨pg_tup hc h.pe hn hst, fun G σ H Hf l v x Q q R dv k z => by
    obtain ⟨ds, rfl, hl, z⟩ := z
    obtain ⟨a, xs, rfl, h1, h2⟩ := dv.tuple_inv
    exact ⟨a, xs, rfl, sqT_mono R.sub h1, by rw [h2.1]; exact hl, h.es G σ H Hf l xs ds _ _ R h2 k z⟩⟩
theorem pds_asg {tg : Expr} {g : TG} {dg : DG} (h : PD X ca W e ua da) (hg : PDG X tg g dg) (hs : swapsWithSole [tg] e pos.line X.env = pure false := by rfl) (hw : swappedStores [tg] e X.env = pure none := by rfl) (h1 : (assignEach [tg] X.env).map (·.2) = [assign tg X.env] := by rfl) :
    PDS X ca W (.Assign [tg] e pos) (tAsg ua g) (dAsg da dg) :=
  ⟨ps_asg h.pe hg.pe hs hw h1, fun G D E σ H Hf l R m z => h.es G σ H Hf l _ _ E.rs R (fun x l' v H' Hf' q R' s dv => hg.es G σ H' Hf' l' v x _ _ R' dv (fun σ' l2 z R2 => m.nx _ _ _ _ z R2 s) q) (m.kr σ) z⟩
/-- name = e; of the kit's rule for it (a store by name) -/
theorem pds_set {i : Nat} {tg : Expr} (h : PD X ca W e ua da) (hp : PE X e ua → PS X (.Assign [tg] e pos) (tAsg ua (gName i))) : PDS X ca W (.Assign [tg] e pos) (tAsg ua (gName i)) (dAsg da (gN i)) :=
  ⟨hp h.pe, fun G D E σ H Hf l R m z => h.es G σ H Hf l _ _ E.rs R (fun x l' v H' Hf' q R' s dv => m.nx _ _ _ _ q (R'.put i dv) s) (m.kr σ) z⟩
theorem pds_par {i j : Nat} {ual : TA} {dal : DA} (h : PDA X ca W [a, b] ual dal) (hp : PA X [a, b] ual → PS X st (tPar i j ual)) : PDS X ca W st (tPar i j ual) (dPar i j dal) :=
  ⟨hp h.pe, fun G D E σ H Hf l R m z => h.es G σ H Hf l _ _ E.rs R (fun xs l' vs H' Hf' q _ R' s dv => by
    obtain ⟨x, y, rfl, q⟩ := q
    obtain ⟨v1, r1, rfl, hv1, hr1⟩ := dv.cons_inv
    obtain ⟨v2, r2, rfl, hv2, hr2⟩ := hr1.cons_inv
    obtain rfl := hr2.nil_inv
    exact ⟨v1, v2, rfl, m.nx _ _ _ _ q ((R'.put i hv1).put j hv2) s⟩) (m.kr σ) z⟩
theorem pds_par3 {i j k : Nat} {ual : TA} {dal : DA} (h : PDA X ca W [a, b, c] ual dal) (hp : PA X [a, b, c] ual → PS X st (tPar3 i j k ual)) : PDS X ca W st (tPar3 i j k ual) (dPar3 i j k dal) :=
  ⟨hp h.pe, fun G D E σ H Hf l R m z => h.es G σ H Hf l _ _ E.rs R (fun xs l' vs H' Hf' q _ R' s dv => by
    obtain ⟨x, y, w, rfl, q⟩ := q
    obtain ⟨v1, r1, rfl, hv1, hr1⟩ := dv.cons_inv
    obtain ⟨v2, r2, rfl, hv2, hr2⟩ := hr1.cons_inv
    obtain ⟨v3, r3, rfl, hv3, hr3⟩ := hr2.cons_inv
    obtain rfl := hr3.nil_inv
    exact ⟨v1, v2, v3, rfl, m.nx _ _ _ _ q (((R'.put i hv1).put j hv2).put k hv3) s⟩) (m.kr σ) z⟩
theorem pds_aug {i : Nat} {ti : TIp} {f : PyData → PyData → Option PyData} (h : PD X ca W e ua da) (hf : OpD X.K ti f) (hp : PE X e ua → PS X st (tAug i ua ti)) : PDS X ca W st (tAug i ua ti) (dAug i f da) :=
  ⟨hp h.pe, fun G D E σ H Hf l R m z => by
    obtain ⟨x, hi, z⟩ := z
    obtain ⟨v, e1, e2⟩ := R.slot i _ hi
    refine ⟨v, e1, h.es G σ H Hf l _ _ E.rs R (fun y l' w H' Hf' q R' s dv => ?_) (m.kr σ) z⟩
    obtain ⟨z, ez, q⟩ := q
    refine hf v w x y z H' Hf' _ R'.sub (Dv.mono s e2) dv ez fun v3 H3 Hf3 F d3 => ?_
    exact m.nx _ _ _ _ q ((R'.grow F).put i d3) (s.trans (F.sameF R'.sub))⟩
/-- name = [] -/
theorem pds_nil {i : Nat} {tg : Expr} {p2 : Pos} (hp : PE X (.List [] p2) (tLst tNil) → PS X (.Assign [tg] (.List [] p2) pos) (tAsg (tLst tNil) (gName i))) : PDS X ca W (.Assign [tg] (.List [] p2) pos) (tAsg (tLst tNil) (gName i)) (dOwnNil i) :=
  ⟨hp (pe_lst pa_nil), fun G D E σ H Hf l R m z => ⟨Nat.zero_le _, fun p hp => m.nx _ _ _ _ (z p) (R.putOwn i hp .nil) (Same.refl _)⟩⟩
/-- name.append(e) -/
theorem pds_app {i : Nat} {o : Expr} (ho : PE X o (tVar i)) (h : PD X ca W e ua da)
    (hp : PE X o (tVar i) → PA X [e] (tCons ua tNil) → PS X st (tDrop (tBM X.K "list" rAppend (tVar i) (tCons ua tNil)))) (hst : starEach [e] X.env = (false, eval e X.env) :: starEach [] X.env := by rfl) : PDS X ca W st (tDrop (tBM X.K "list" rAppend (tVar i) (tCons ua tNil))) (dApp i da) := by
  refine ⟨hp ho (pa_cons h.pe pa_nil hst), fun G D E σ H Hf l R m z => ?_⟩
  obtain ⟨p, ds, hi, z⟩ := z
  obtain ⟨v, e1, e2, vs, e3, e4⟩ := R.slot i _ hi
  subst e2
  refine ⟨_, e1, .inl ⟨rfl, _, .inl (.inl e3)⟩, h.es G σ H Hf l _ _ E.rs R (fun y l' w H' Hf' q R' s dv => ?_) (m.kr σ) z⟩
  obtain ⟨fs, hi', hl, q⟩ := q
  obtain ⟨v, e1', e2', ws, e3', e4'⟩ := R'.slot i _ hi'
  exact ⟨p, ws, w, rfl, rfl, e3', by rw [e4'.1]; exact hl, m.nx _ _ _ _ q (R'.mutOwn hi' (e4'.append (.cons dv .nil))) s⟩

/-! loops -/
/-- how a walk runs over data -/
structure Wk (K : PySem.W.Frag) (J : It) (Hf : Hp) (xs : List PyData) : Prop where
  go : ∀ i H, Same Hf H → i < xs.length → J.go i H
  stop : ∀ i H, Same Hf H → xs.length ≤ i → J.stop i H
  yld : ∀ i H Hf1 v H' d, Same Hf Hf1 → Same Hf1 H → xs[i]? = some d → J.yld i H v H' → ∃ Hf2, Frm [] H Hf1 H' Hf2 ∧ Dv K Hf2 v d
theorem Wk.mono {K : PySem.W.Frag} {J : It} {Hf Hf' : Hp} {xs : List PyData} (w : Wk K J Hf xs) (s : Same Hf Hf') : Wk K J Hf' xs :=
  ⟨fun i H h => w.go i H (s.trans h), fun i H h => w.stop i H (s.trans h), fun i H Hf1 v H' d h => w.yld i H Hf1 v H' d (s.trans h)⟩
def IS (K : PySem.W.Frag) (ca : Er → Addr) (W : WX) (w : TI) (d : DI) : Prop := ∀ (G : Gm) (σ : L2.St) (H Hf : Hp) (l : Sl) (R : It → Hp → Prop) (q : List PyData → Sl → Prop) (r : DR), Rep K G H Hf σ l →
  (∀ xs l' J H' Hf', q xs l' → Rep K G H' Hf' σ l' → Same Hf Hf' → Wk K J Hf' xs → R J H') → KR K ca G W σ r → d l q r → w σ H R
structure PDI (X : Cx) (ca : Er → Addr) (W : WX) (tg e : Expr) (w : TI) (d : DI) : Prop where
  pe : PI X tg e w
  es : IS X.K ca W w d
theorem pds_for {tg : Expr} {w : TI} {wd : DI} {g : TG} {dg : DG} (hp : PassesOwn (model X.prog X.w) X.A X.env X.xe) (hc : X.calm = true) (hi : PDI X ca W tg e w wd) (hg : PDG X tg g dg) (hb : PDB X ca W rest t d)
    (hs : ∀ x, foldedSetIterable e X.env x = pure x := by intro _; rfl) : PDS X ca W (.For tg e rest [] pos) (tFor w g t) (dFor wd dg d) := by
  refine ⟨ps_for hp hc hi.pe hg.pe hb.pe hs, fun G D E σ H Hf l R m z => ?_⟩
  refine hi.es G σ H Hf l _ _ E.rs R (fun xs l1 J H1 Hf1 z1 R1 s1 wk => ?_) (m.kr σ) z
  refine ⟨fun i n σ' H' => n = xs.length - i ∧ ∃ l' Hf', Rep X.K G H' Hf' σ' l' ∧ Same Hf1 Hf' ∧ forW dg d E (xs.drop i) l', ⟨xs.length, by simp, l1, Hf1, R1, Same.refl _, by simpa using z1⟩, ?_⟩
  rintro i n σ' H' ⟨rfl, l', Hf', R', s', z'⟩
  by_cases hlt : i < xs.length
  · right
    have ed : xs.drop i = xs[i] :: xs.drop (i + 1) := List.drop_eq_getElem_cons hlt
    rw [ed] at z'
    refine ⟨wk.go i H' (s'.trans R'.sub) hlt, fun σ2 H2 => ∃ l2 Hf2, Rep X.K G H2 Hf2 σ2 l2 ∧ Same Hf1 Hf2 ∧ forW dg d E (xs.drop (i + 1)) l2, fun σ2 H2 ⟨l2, Hf2, R2, s2, z2⟩ => ⟨xs.length - (i + 1), by omega, rfl, l2, Hf2, R2, s2, z2⟩, fun v H2 y => ?_⟩
    obtain ⟨Hf2, F2, dv⟩ := wk.yld i H' Hf' v H2 xs[i] s' R'.sub (List.getElem?_eq_getElem hlt) y
    have R2 := R'.grow F2
    have s2 : Same Hf1 Hf2 := s'.trans (F2.sameF R'.sub)
    refine hg.es G σ' H2 Hf2 l' v xs[i] _ _ R2 dv (fun σ3 l3 z3 R3 => ?_) z'
    refine hb.es G _ { E with nx := forW dg d E (xs.drop (i + 1)), ct := forW dg d E (xs.drop (i + 1)), bk := E.nx } σ3 H2 Hf2 l3 R3 ⟨fun σ4 l4 H4 Hf4 z4 R4 s4 => ⟨l4, Hf4, R4, s2.trans s4, z4⟩, fun σ4 l4 v4 d4 H4 Hf4 z4 R4 s4 => m.rt _ _ _ _ _ _ z4 R4 ((s1.trans s2).trans s4), fun σ4 l4 H4 Hf4 z4 R4 s4 => m.nx _ _ _ _ z4 R4 ((s1.trans s2).trans s4), fun σ4 l4 H4 Hf4 z4 R4 s4 => ⟨l4, Hf4, R4, s2.trans s4, z4⟩, m.rs⟩ z3
  · left
    have ed : xs.drop i = [] := List.drop_eq_nil_of_le (by omega)
    rw [ed] at z'
    exact ⟨wk.stop i H' (s'.trans R'.sub) (by omega), m.nx _ _ _ _ z' R' (s1.trans s')⟩
theorem pds_while (hp : PassesOwn (model X.prog X.w) X.A X.env X.xe) (h : PDT X ca W c vc tc) (hb : PDB X ca W rest t d) : PDS X ca W (.While c rest [] pos) (tWhile vc t) (dWhile tc d) := by
  refine ⟨ps_while hp h.pe hb.pe, fun G D E σ H Hf l R m z => ?_⟩
  obtain ⟨n, z⟩ := z
  refine ⟨fun n σ' H' => ∃ l' Hf', Rep X.K G H' Hf' σ' l' ∧ Same Hf Hf' ∧ whW tc d E n l', ⟨n, l, Hf, R, Same.refl _, z⟩, ?_⟩
  rintro n σ' H' ⟨l', Hf', R', s', z'⟩
  cases n with
  | zero => exact z'.elim
  | succ n =>
    refine h.es G σ' H' Hf' l' _ _ E.rs R' (fun b l2 H2 Hf2 z2 R2 s2 => ?_) (m.kr σ') z'
    cases b with
    | true =>
      rw [if_pos rfl] at z2 ⊢
      refine ⟨fun σ3 H3 => ∃ l3 Hf3, Rep X.K G H3 Hf3 σ3 l3 ∧ Same Hf Hf3 ∧ whW tc d E n l3, fun σ3 H3 z3 => ⟨n, Nat.lt_succ_self _, z3⟩, ?_⟩
      exact hb.es G _ { E with nx := whW tc d E n, ct := whW tc d E n, bk := E.nx } σ' H2 Hf2 l2 R2 ⟨fun σ4 l4 H4 Hf4 z4 R4 s4 => ⟨l4, Hf4, R4, (s'.trans s2).trans s4, z4⟩, fun σ4 l4 v4 d4 H4 Hf4 z4 R4 s4 => m.rt _ _ _ _ _ _ z4 R4 ((s'.trans s2).trans s4), fun σ4 l4 H4 Hf4 z4 R4 s4 => m.nx _ _ _ _ z4 R4 ((s'.trans s2).trans s4), fun σ4 l4 H4 Hf4 z4 R4 s4 => ⟨l4, Hf4, R4, (s'.trans s2).trans s4, z4⟩, m.rs⟩ z2
    | false =>
      rw [if_neg Bool.false_ne_true] at z2 ⊢
      exact m.nx _ _ _ _ z2 R2 (s'.trans s2)

/-! walks -/
def rngD (lo : Int) (n : Nat) : List PyData := (List.range n).map fun (k : Nat) => PyData.int (lo + k)
theorem rngD_len (lo : Int) (n : Nat) : (rngD lo n).length = n := by simp [rngD]
theorem rngD_get {lo : Int} {n i : Nat} {d : PyData} (h : (rngD lo n)[i]? = some d) : i < n ∧ d = .int (lo + i) := by
  have hi : i < n := by
    have z := (List.getElem?_eq_some_iff.mp h).1
    rwa [rngD_len] at z
  refine ⟨hi, ?_⟩
  simp [rngD, hi] at h
  exact h.symm
def small62 (i : Int) : Bool := decide (-(2 ^ 62) ≤ i) && decide (i < 2 ^ 62)
theorem small62_of {i : Int} (h : small62 i = true) : -(2 ^ 62) ≤ i ∧ i < 2 ^ 62 := by simpa [small62] using h
def dRng1 (d : DA) : DI := fun l Q R => d l (fun xs l' => ∃ j : Int, xs = [.int j] ∧ small62 j = true ∧ Q (rngD 0 j.toNat) l') R
def dRng2 (d : DA) : DI := fun l Q R => d l (fun xs l' => ∃ i j : Int, xs = [.int i, .int j] ∧ small62 i = true ∧ small62 j = true ∧ Q (rngD i (j - i).toNat) l') R
theorem wk_range {K : PySem.W.Frag} {Hf : Hp} (lo : Int) (n : Nat) : Wk K (Itr lo n) Hf (rngD lo n) := by
  refine ⟨fun i H _ h => ?_, fun i H _ h => ?_, fun i H Hf1 v H' d s s' h y => ?_⟩
  · rw [rngD_len] at h
    exact h
  · rw [rngD_len] at h
    exact h
  · obtain ⟨rfl, rfl⟩ := y
    obtain ⟨_, rfl⟩ := rngD_get h
    exact ⟨Hf1, Frm.refl s', .int _⟩
theorem pdi_range1 {tg : Expr} {ual : TA} {dal : DA} {p : Pos} (hg : Gl X "range") (hm : X.mg "range" = none) (h : PDA X ca W [a] ual dal) (hs : starEach [a] X.env = [(false, eval a X.env)] := by rfl) : PDI X ca W tg (.Call (.Name "range" p) [a] [] pos) (iRng1 ual) (dRng1 dal) :=
  ⟨pi_range1 hg hm h.pe hs, fun G σ H Hf l R q r Rp k kr z => h.es G σ H Hf l _ _ r Rp (fun xs l' vs H' Hf' z' _ R' s dv => by
    obtain ⟨j, rfl, hj, z'⟩ := z'
    obtain ⟨v1, r1, rfl, hv1, hr1⟩ := dv.cons_inv
    obtain rfl := hr1.nil_inv
    obtain rfl := hv1.int_inv
    obtain ⟨j1, j2⟩ := small62_of hj
    exact ⟨j, rfl, j1, j2, k _ _ _ _ _ z' R' s (wk_range 0 _)⟩) kr z⟩
theorem pdi_range2 {tg : Expr} {ual : TA} {dal : DA} {p : Pos} (hg : Gl X "range") (hm : X.mg "range" = none) (h : PDA X ca W [a, b] ual dal) (hs : starEach [a, b] X.env = [(false, eval a X.env), (false, eval b X.env)] := by rfl) (hs2 : starEach [b] X.env = [(false, eval b X.env)] := by rfl) : PDI X ca W tg (.Call (.Name "range" p) [a, b] [] pos) (iRng2 ual) (dRng2 dal) :=
  ⟨pi_range2 hg hm h.pe hs hs2, fun G σ H Hf l R q r Rp k kr z => h.es G σ H Hf l _ _ r Rp (fun xs l' vs H' Hf' z' _ R' s dv => by
    obtain ⟨i, j, rfl, hi, hj, z'⟩ := z'
    obtain ⟨v1, r1, rfl, hv1, hr1⟩ := dv.cons_inv
    obtain ⟨v2, r2, rfl, hv2, hr2⟩ := hr1.cons_inv
    obtain rfl := hr2.nil_inv
    obtain rfl := hv1.int_inv
    obtain rfl := hv2.int_inv
    obtain ⟨j1, j2⟩ := small62_of hj
    obtain ⟨i1, i2⟩ := small62_of hi
    exact ⟨i, j, rfl, ⟨i1, i2, j1, j2⟩, k _ _ _ _ _ z' R' s (wk_range i _)⟩) kr z⟩
/-- over a list, a tuple -/
def dItL (d : DE) : DI := fun l Q R => d l (fun x l' => ∃ ds, x = .list ds ∧ Q ds l') R
def dItT (d : DE) : DI := fun l Q R => d l (fun x l' => ∃ ds, x = .tuple ds ∧ Q ds l') R
theorem wk_list {K : PySem.W.Frag} {Hf : Hp} {p : Addr} {vs : List V} {ds : List PyData} (h : Hf p = some (.lst vs)) (q : DvAll K Hf vs ds) : Wk K (Itl K p) Hf ds := by
  refine ⟨fun i H s hi => ?_, fun i H s hi => ?_, fun i H Hf1 v H' d s s' hd y => ?_⟩
  · have hi' : i < vs.length := by rw [q.1]; exact hi
    exact ⟨vs, vs[i], .inl (.inl (s _ _ h)), List.getElem?_eq_getElem hi'⟩
  · exact ⟨vs, .inl (.inl (s _ _ h)), by rw [q.1]; exact hi⟩
  · obtain ⟨rfl, y⟩ := y
    have y1 := y vs (.inl (.inl (s' _ _ (s _ _ h))))
    exact ⟨Hf1, Frm.refl s', (q.2 i v d y1 hd).mono s⟩
theorem wk_tup {K : PySem.W.Frag} {Hf : Hp} {p : Addr} {vs : List V} {ds : List PyData} (h : SqT K Hf p vs) (q : DvAll K Hf vs ds) : Wk K (Itt K p) Hf ds := by
  refine ⟨fun i H s hi => ?_, fun i H s hi => ?_, fun i H Hf1 v H' d s s' hd y => ?_⟩
  · have hi' : i < vs.length := by rw [q.1]; exact hi
    exact ⟨vs, vs[i], sqT_mono s h, List.getElem?_eq_getElem hi'⟩
  · exact ⟨vs, sqT_mono s h, by rw [q.1]; exact hi⟩
  · obtain ⟨rfl, y⟩ := y
    have y1 := y vs (sqT_mono (s.trans s') h)
    exact ⟨Hf1, Frm.refl s', (q.2 i v d y1 hd).mono s⟩
theorem pdi_list {K : PySem.W.Frag} {tg : Expr} (h : PD X ca W a ua da) (hK : X.K = K := by rfl) : PDI X ca W tg a (iList K ua) (dItL da) := by
  subst hK
  exact ⟨pi_list h.pe, fun G σ H Hf l R q r Rp k kr z => h.es G σ H Hf l _ _ r Rp (fun x l' v H' Hf' z' R' s dv => by
    obtain ⟨ds, rfl, z'⟩ := z'
    obtain ⟨p, vs, rfl, h1, h2⟩ := dv.list_inv
    exact ⟨p, rfl, ⟨vs, .inl (.inl (R'.sub _ _ h1))⟩, k _ _ _ _ _ z' R' s (wk_list h1 h2)⟩) kr z⟩
theorem pdi_tup {K : PySem.W.Frag} {tg : Expr} (h : PD X ca W a ua da) (hK : X.K = K := by rfl) : PDI X ca W tg a (iTup K ua) (dItT da) := by
  subst hK
  exact ⟨pi_tup h.pe, fun G σ H Hf l R q r Rp k kr z => h.es G σ H Hf l _ _ r Rp (fun x l' v H' Hf' z' R' s dv => by
    obtain ⟨ds, rfl, z'⟩ := z'
    obtain ⟨p, vs, rfl, h1, h2⟩ := dv.tuple_inv
    exact ⟨p, rfl, ⟨vs, sqT_mono R'.sub h1⟩, k _ _ _ _ _ z' R' s (wk_tup h1 h2)⟩) kr z⟩
end
end DL

namespace DL
open PySem PySem.Spec PyProof.Rows L2

/-! ### list comprehensions -/
def lcW (g : DG) (tt : DT) (de : DE) (lb : Sl) : List PyData → List PyData → (List PyData → Prop) → Prop
  | [], acc, k => k acc
  | x :: xs, acc, k => g x lb fun l2 => tt l2 (fun b l3 => l3 = l2 ∧ if b = true then de l2 (fun y l4 => l4 = l2 ∧ acc.length < sizeLine ∧ lcW g tt de lb xs (acc ++ [y]) k) (fun _ _ => False) else lcW g tt de lb xs acc k) (fun _ _ => False)
def unOwn : Option S → Option S
  | some (.rdr _ _ _ _ _ _) => none
  | some (.own _ _) => none
  | x => x
def wipeL (l : Sl) : List Nat → Sl
  | [] => l
  | v :: vs => (wipeL l vs).set v none
def blkL (l : Sl) (vs : List Nat) : Sl := wipeL (l.map unOwn) vs
def dLc (w : DI) (g : DG) (tt : DT) (de : DE) (vs : List Nat) : DE := fun l Q R => w l (fun xs l1 => lcW g tt de (blkL l1 vs) xs [] fun out => Q (.list out) l1) R
def dYes : DT := fun l Q _ => Q true l

theorem wipe_get (σ : L2.St) : ∀ (vs : List Nat) (j : Nat), (wipe σ vs)[j]? = if j ∈ vs then (σ[j]?.map fun _ => none) else σ[j]?
  | [], j => by simp [wipe]
  | v :: vs, j => by
    have ih := wipe_get σ vs j
    unfold wipe
    by_cases e : v = j
    · subst e
      rw [List.getElem?_set_self']
      by_cases h : v < σ.length
      · have h2 : v < (wipe σ vs).length := by rw [wipe_length]; exact h
        simp [h, h2]
      · have h2 : ¬ v < (wipe σ vs).length := by rw [wipe_length]; exact h
        simp [h, h2]
    · rw [List.getElem?_set_ne e, ih]
      have e2 : j ≠ v := fun z => e z.symm
      simp [e2]
def Agree (vs : List Nat) (σ τ : L2.St) (l m : Sl) : Prop := τ.length = σ.length ∧ ∀ j, j ∉ vs → τ[j]? = σ[j]? ∧ m[j]? = l[j]?
theorem wipe_agree {vs : List Nat} {σ τ : L2.St} {l m : Sl} (h : Agree vs (wipe σ vs) τ l m) : wipe τ vs = wipe σ vs := by
  have hl : τ.length = σ.length := h.1.trans (wipe_length σ vs)
  apply List.ext_getElem?
  intro j
  rw [wipe_get, wipe_get]
  by_cases e : j ∈ vs
  · rw [if_pos e, if_pos e]
    by_cases z : j < σ.length
    · rw [List.getElem?_eq_getElem z, List.getElem?_eq_getElem (by omega)]
      rfl
    · rw [List.getElem?_eq_none (by omega), List.getElem?_eq_none (by omega)]
  · rw [if_neg e, if_neg e, (h.2 j e).1, wipe_get, if_neg e]
theorem wipeL_get (l : Sl) : ∀ (vs : List Nat) (j : Nat) (s : S), (wipeL l vs)[j]? = some (some s) → j ∉ vs ∧ l[j]? = some (some s)
  | [], j, s, h => ⟨by simp, h⟩
  | v :: vs, j, s, h => by
    unfold wipeL at h
    by_cases e : v = j
    · subst e
      rw [List.getElem?_set_self'] at h
      cases q : (wipeL l vs)[v]? with
      | none => rw [q] at h; simp at h
      | some y => rw [q] at h; simp at h
    · rw [List.getElem?_set_ne e] at h
      obtain ⟨h1, h2⟩ := wipeL_get l vs j s h
      exact ⟨by simp only [List.mem_cons, not_or]; exact ⟨fun z => e z.symm, h1⟩, h2⟩
theorem wipeL_len (l : Sl) : ∀ vs : List Nat, (wipeL l vs).length = l.length
  | [] => rfl
  | v :: vs => by unfold wipeL; rw [List.length_set, wipeL_len l vs]
theorem blkL_get {l : Sl} {vs : List Nat} {j : Nat} {s : S} (h : (blkL l vs)[j]? = some (some s)) : j ∉ vs ∧ l[j]? = some (some s) ∧ ∀ p ds, s ≠ .own p ds := by
  obtain ⟨h1, h2⟩ := wipeL_get _ vs j s h
  refine ⟨h1, ?_⟩
  rw [List.getElem?_map] at h2
  cases q : l[j]? with
  | none => rw [q] at h2; simp at h2
  | some y =>
    rw [q] at h2
    have h3 : unOwn y = some s := by simpa using h2
    cases y with
    | none => exact nomatch h3
    | some s' =>
      cases s' with
      | own p ds => exact nomatch h3
      | val d =>
        have e : S.val d = s := Option.some.inj h3
        subst e
        exact ⟨rfl, fun p ds z => nomatch z⟩
      | drw a b =>
        have e : S.drw a b = s := Option.some.inj h3
        subst e
        exact ⟨rfl, fun p ds z => nomatch z⟩
      | scr =>
        have e : S.scr = s := Option.some.inj h3
        subst e
        exact ⟨rfl, fun p ds z => nomatch z⟩
      | exn C =>
        have e : S.exn C = s := Option.some.inj h3
        subst e
        exact ⟨rfl, fun p ds z => nomatch z⟩
      | rdr p dx l C now past => exact nomatch h3
theorem blkL_no {l : Sl} {vs : List Nat} {j : Nat} {p dx q C : Addr} {now : PyData} {past : List PyData} (h : (blkL l vs)[j]? = some (some (.rdr p dx q C now past))) : False := by
  obtain ⟨h1, h2⟩ := wipeL_get _ vs j _ h
  rw [List.getElem?_map] at h2
  cases qq : l[j]? with
  | none => rw [qq] at h2; simp at h2
  | some y =>
    rw [qq] at h2
    have h3 : unOwn y = some (.rdr p dx q C now past) := by simpa using h2
    cases y with
    | none => exact nomatch h3
    | some s' => cases s' <;> exact nomatch h3
theorem feet_sub_of {l l' : Sl} (h : ∀ (j : Nat) (s : S), l'[j]? = some (some s) → l[j]? = some (some s)) {b : Addr} (hb : b ∈ feet l') : b ∈ feet l := by
  obtain ⟨x, hx, hb⟩ := List.mem_flatMap.mp hb
  obtain ⟨j, hj⟩ := List.getElem?_of_mem hx
  cases x with
  | none => exact nomatch hb
  | some s => exact mem_feet (h j s hj) hb
theorem feet_sublist : ∀ {l l' : Sl}, l'.length = l.length → (∀ (j : Nat) (s : S), l'[j]? = some (some s) → l[j]? = some (some s)) → (feet l').Sublist (feet l)
  | [], [], _, _ => List.Sublist.refl _
  | [], _ :: _, h, _ => absurd h (by simp)
  | _ :: _, [], h, _ => absurd h (by simp)
  | x :: l, y :: l', h, q => by
    have ih := feet_sublist (l := l) (l' := l') (by simpa using h) fun j s e => by simpa using q (j + 1) s (by simpa using e)
    show (foot y ++ feet l').Sublist (foot x ++ feet l)
    cases y with
    | none => exact ih.trans (List.sublist_append_right _ _)
    | some s =>
      have e : x = some s := by simpa using q 0 s rfl
      subst e
      exact (List.Sublist.refl _).append ih

/-- targets of a comprehension: only the slots vs are set -/
def GSv (K : PySem.W.Frag) (vs : List Nat) (g : TG) (d : DG) : Prop := ∀ (G : Gm) (σ : L2.St) (H Hf : Hp) (l : Sl) (v : V) (x : PyData) (Q : L2.St → Hp → Prop) (q : Sl → Prop), Rep K G H Hf σ l → Dv K Hf v x →
  (∀ σ' l', q l' → Rep K G H Hf σ' l' → Agree vs σ σ' l l' → Q σ' H) → d x l q → g v σ H Q
def GSvs (K : PySem.W.Frag) (vs : List Nat) (g : TGs) (d : DGs) : Prop := ∀ (G : Gm) (σ : L2.St) (H Hf : Hp) (l : Sl) (v : List V) (x : List PyData) (Q : L2.St → Hp → Prop) (q : Sl → Prop), Rep K G H Hf σ l → DvAll K Hf v x →
  (∀ σ' l', q l' → Rep K G H Hf σ' l' → Agree vs σ σ' l l' → Q σ' H) → d x l q → g v σ H Q
theorem gsv_name {K : PySem.W.Frag} {vs : List Nat} {i : Nat} (hi : i ∈ vs) : GSv K vs (gName i) (gN i) := fun G σ H Hf l v x Q q R dv k z => k _ _ z (R.put i dv) ⟨by simp, fun j hj => by
  have ne : i ≠ j := fun e => hj (by rw [← e]; exact hi)
  rw [List.getElem?_set_ne ne, List.getElem?_set_ne ne]
  exact ⟨rfl, rfl⟩⟩
theorem gsv_nil {K : PySem.W.Frag} {vs : List Nat} : GSvs K vs gNil gs0 := fun G σ H Hf l v x Q q R dv k z => by
  obtain ⟨rfl, z⟩ := z
  exact ⟨dv.nil_inv, k _ _ z R ⟨rfl, fun _ _ => ⟨rfl, rfl⟩⟩⟩
theorem gsv_cons {K : PySem.W.Frag} {vs : List Nat} {g : TG} {r : TGs} {dg : DG} {dr : DGs} (h1 : GSv K vs g dg) (h2 : GSvs K vs r dr) : GSvs K vs (gCons g r) (gs1 dg dr) := fun G σ H Hf l v x Q q R dv k z => by
  obtain ⟨x1, x2, rfl, z⟩ := z
  obtain ⟨v1, v2, rfl, hv1, hv2⟩ := dv.cons_inv
  exact ⟨v1, v2, rfl, h1 G σ H Hf l v1 x1 _ _ R hv1 (fun σ' l' z R' ag => h2 G σ' H Hf l' v2 x2 _ _ R' hv2 (fun σ2 l2 z2 R2 ag2 => k σ2 l2 z2 R2 ⟨ag2.1.trans ag.1, fun j hj => ⟨(ag2.2 j hj).1.trans (ag.2 j hj).1, (ag2.2 j hj).2.trans (ag.2 j hj).2⟩⟩) z) z⟩
theorem gsv_tup {K : PySem.W.Frag} {vs : List Nat} {n : Nat} {g : TGs} {dg : DGs} (h : GSvs K vs g dg) : GSv K vs (gTup K n g) (gT n dg) := fun G σ H Hf l v x Q q R dv k z => by
  obtain ⟨ds, rfl, hl, z⟩ := z
  obtain ⟨a, xs, rfl, h1, h2⟩ := dv.tuple_inv
  exact ⟨a, xs, rfl, sqT_mono R.sub h1, by rw [h2.1]; exact hl, h G σ H Hf l xs ds _ _ R h2 k z⟩

abbrev W0 : WX := fun _ _ _ _ => False

theorem lc_es {K : PySem.W.Frag} {ca : Er → Addr} {W : WX} {wi : TI} {wd : DI} {g : TG} {dg : DG} {tt : TT} {dt : DT} {te : TE} {de : DE} {vs : List Nat} (hi : IS K ca W wi wd) (hg : GSv K vs g dg) (ht : ET K ca W0 tt dt) (he : ES K ca W0 te de) :
    ES K ca W (tLc wi g tt te vs) (dLc wd dg dt de vs) := by
  intro G σ H Hf l Q q r R k kr z
  refine hi G σ H Hf l _ _ r R (fun xs l1 J H1 Hf1 z1 R1 s1 wk => ?_) kr z
  intro D hD
  have dnew : ∀ b ∈ feet l1, b ≠ D := fun b hb e => by
    obtain ⟨o, ho⟩ := R1.there hb
    rw [e, hD] at ho
    cases ho
  have bsub : ∀ (j : Nat) (s : S), (blkL l1 vs)[j]? = some (some s) → l1[j]? = some (some s) := fun j s h => (blkL_get h).2.1
  have exsub : ∀ b ∈ feet (blkL l1 vs), b ∈ feet l1 := fun b hb => feet_sub_of bsub hb
  have blen : (blkL l1 vs).length = l1.length := by unfold blkL; rw [wipeL_len, List.length_map]
  -- what holds ahead of turn i
  refine ⟨fun i m H' => m = xs.length - i ∧ ∃ (Hf' : Hp) (acc : List V) (accd : List PyData), H' D = some (.lst acc) ∧ Hf' D = none ∧ DvAll K Hf' acc accd ∧ Frm (feet (blkL l1 vs)) H1 Hf1 H' Hf' ∧
      (∀ (j : Nat) (a b : Addr), (blkL l1 vs)[j]? = some (some (.drw a b)) → DrwAt H' a b) ∧ lcW dg dt de (blkL l1 vs) (xs.drop i) accd (fun out => q (.list out) l1), ⟨xs.length, by simp, Hf1, [], [], upd_same, ?_, .nil, ⟨fun b o _ e => ?_, fun b o e => ?_, fun _ _ _ => rfl, fun b o e => ?_⟩, fun j a b hj => ?_, by simpa using z1⟩, ?_⟩
  · cases e : Hf1 D with
    | none => rfl
    | some o =>
      have e' := R1.sub D o e
      rw [hD] at e'
      cases e'
  · exact same_upd hD b o e
  · exact ⟨o, same_upd hD b o e⟩
  · exact same_upd hD b o (R1.sub b o e)
  · obtain ⟨v, _, _, ns, kk, h1, h2, h3⟩ := R1.slot j _ (bsub j _ hj)
    exact ⟨ns, kk, same_upd hD _ _ h1, same_upd hD _ _ h2, h3⟩
  · rintro i m H' ⟨rfl, Hf', acc, accd, eD, fD, hacc, F, hdrw, zz⟩
    have sF : Same Hf1 Hf' := F.sameF R1.sub
    by_cases hlt : i < xs.length
    · right
      have ed : xs.drop i = xs[i] :: xs.drop (i + 1) := List.drop_eq_getElem_cons hlt
      rw [ed] at zz
      refine ⟨wk.go i H' (sF.trans F.sub) hlt, fun H2 => ∃ (Hf2 : Hp) (acc : List V) (accd : List PyData), H2 D = some (.lst acc) ∧ Hf2 D = none ∧ DvAll K Hf2 acc accd ∧ Frm (feet (blkL l1 vs)) H1 Hf1 H2 Hf2 ∧
        (∀ (j : Nat) (a b : Addr), (blkL l1 vs)[j]? = some (some (.drw a b)) → DrwAt H2 a b) ∧ lcW dg dt de (blkL l1 vs) (xs.drop (i + 1)) accd (fun out => q (.list out) l1), fun H2 h2 => ⟨xs.length - (i + 1), by omega, rfl, h2⟩, fun v H2 y => ?_⟩
      obtain ⟨Hf2, F2, dv⟩ := wk.yld i H' Hf' v H2 xs[i] sF F.sub (List.getElem?_eq_getElem hlt) y
      have eD2 : H2 D = some (.lst acc) := F2.keep D _ (fun z => nomatch z) eD
      have fD2 : Hf2 D = none := by rw [F2.fz D _ eD]; exact fD
      -- the block's own frame
      have RB : Rep K ⟨feet (blkL l1 vs), H2, Hf2⟩ H2 Hf2 (wipe σ vs) (blkL l1 vs) := by
        have G12 : Frm (feet (blkL l1 vs)) H1 Hf1 H2 Hf2 := F.trans0 F2
        refine ⟨by rw [wipe_length, blen]; exact R1.len, fun j s hj => ?_, R1.nd.sublist (feet_sublist blen bsub), fun b hb => ⟨?_, .inl hb⟩, fun j p ds hj => absurd rfl ((blkL_get hj).2.2 p ds), Frm.refl F2.sub⟩
        · obtain ⟨n1, n2, n3⟩ := blkL_get hj
          obtain ⟨w, e1, e2⟩ := R1.slot j s n2
          refine ⟨w, by rw [wipe_get, if_neg n1]; exact e1, ?_⟩
          cases s with
          | val d => exact Dv.mono (G12.sameF R1.sub) e2
          | own p ds => exact absurd rfl (n3 p ds)
          | drw a b =>
            obtain ⟨ns, kk, h1, h2, h3⟩ := hdrw j a b hj
            exact ⟨e2.1, ns, kk, F2.keep _ _ (fun z => nomatch z) h1, F2.keep _ _ (fun z => nomatch z) h2, h3⟩
          | scr =>
            obtain ⟨a, ns, e, h1, h2⟩ := e2
            exact ⟨a, ns, e, (G12.sameF R1.sub).seq h1, h2⟩
          | exn C =>
            obtain ⟨a, e, h1⟩ := e2
            exact ⟨a, e, G12.sameF R1.sub _ _ h1⟩
          | rdr p dx l C now past => exact (blkL_no hj).elim
        · obtain ⟨o, ho⟩ := R1.there (exsub b hb)
          rw [G12.fz b o ho]
          exact (R1.free b (exsub b hb)).1
      refine hg ⟨feet (blkL l1 vs), H2, Hf2⟩ (wipe σ vs) H2 Hf2 (blkL l1 vs) v xs[i] _ _ RB dv (fun σ2 l2 z2 R2 ag => ?_) zz
      refine ⟨wipe_agree ag, ?_⟩
      -- what the turn leaves
      have back : ∀ (H4 Hf4 : Hp), Rep K ⟨feet (blkL l1 vs), H2, Hf2⟩ H4 Hf4 σ2 l2 → Frm (feet (blkL l1 vs)) H1 Hf1 H4 Hf4 ∧ H4 D = some (.lst acc) ∧ Hf4 D = none ∧ (∀ (j : Nat) (a b : Addr), (blkL l1 vs)[j]? = some (some (.drw a b)) → DrwAt H4 a b) := by
        intro H4 Hf4 R4
        have f4 : Frm (feet (blkL l1 vs)) H2 Hf2 H4 Hf4 := R4.frm
        refine ⟨(F.trans0 F2).trans f4 fun b hb => .inl hb, f4.keep D _ (fun z => dnew D (exsub D z) rfl) eD2, by rw [f4.fz D _ eD2]; exact fD2, fun j a b hj => ?_⟩
        obtain ⟨n1, _, _⟩ := blkL_get hj
        obtain ⟨w, _, _, h⟩ := R4.slot j _ ((ag.2 j n1).2.trans hj)
        exact h
      refine ht ⟨feet (blkL l1 vs), H2, Hf2⟩ σ2 H2 Hf2 l2 _ _ (fun _ _ => False) R2 (fun b l3 H3 Hf3 z3 R3 s3 => ?_) (fun _ _ _ _ z => z.elim) z2
      obtain ⟨rfl, z3⟩ := z3
      cases b with
      | false =>
        rw [if_neg Bool.false_ne_true] at z3 ⊢
        obtain ⟨b1, b2, b3, b4⟩ := back H3 Hf3 R3
        exact ⟨Hf3, acc, accd, b2, b3, hacc.mono ((F2.sameF F.sub).trans s3), b1, b4, z3⟩
      | true =>
        rw [if_pos rfl] at z3 ⊢
        refine he ⟨feet (blkL l1 vs), H2, Hf2⟩ σ2 H3 Hf3 _ _ _ (fun _ _ => False) R3 (fun y l4 w H4 Hf4 z4 R4 s4 dw => ?_) (fun _ _ _ _ z => z.elim) z3
        obtain ⟨rfl, hsz, z4⟩ := z4
        obtain ⟨b1, b2, b3, b4⟩ := back H4 Hf4 R4
        have sacc : DvAll K Hf4 acc accd := hacc.mono (((F2.sameF F.sub).trans s3).trans s4)
        refine ⟨acc, b2, by rw [sacc.1]; exact hsz, Hf4, acc ++ [w], accd ++ [y], upd_same, b3, sacc.append (.cons dw .nil), ⟨fun b o hb e => ?_, fun b o e => ?_, b1.fz, fun b o e => ?_⟩, fun j a b hj => ?_, z4⟩
        · rw [upd_ne (ne_of_none e hD)]
          exact b1.keep b o hb e
        · rw [upd_ne (ne_of_none e hD)]
          exact b1.there b o e
        · rw [upd_ne (ne_of_none e b3)]
          exact b1.sub b o e
        · obtain ⟨ns, kk, h1, h2, h3⟩ := b4 j a b hj
          have na : a ≠ D := dnew a (mem_feet (bsub j _ hj) (by simp [foot]))
          have nb : b ≠ D := dnew b (mem_feet (bsub j _ hj) (by simp [foot]))
          exact ⟨ns, kk, by rw [upd_ne na]; exact h1, by rw [upd_ne nb]; exact h2, h3⟩
    · left
      have ed : xs.drop i = [] := List.drop_eq_nil_of_le (by omega)
      rw [ed] at zz
      refine ⟨wk.stop i H' (sF.trans F.sub) (by omega), ?_⟩
      have FE : Frm (feet (blkL l1 vs)) H1 Hf1 H' (upd Hf' D (.lst acc)) := by
        refine ⟨F.keep, F.there, fun b o e => ?_, fun b o e => ?_⟩
        · rw [upd_ne (ne_of_none e hD)]
          exact F.fz b o e
        · by_cases hb : b = D
          · subst hb
            rw [upd_same] at e
            rw [← e]
            exact eD
          · rw [upd_ne hb] at e
            exact F.sub b o e
      have sE : Same Hf' (upd Hf' D (.lst acc)) := same_upd fD
      have RE : Rep K G H' (upd Hf' D (.lst acc)) σ l1 := by
        refine R1.growEx FE (fun b hb => (R1.free b (exsub b hb)).2) fun j s v hj hv hs => ?_
        cases s with
        | val d => exact .inl fun b hb => nomatch hb
        | scr => exact .inl fun b hb => nomatch hb
        | exn C => exact .inl fun b hb => nomatch hb
        | rdr p dx l C now past =>
          refine .inl fun b hb z => ?_
          obtain ⟨x, hx, hb2⟩ := List.mem_flatMap.mp z
          obtain ⟨j2, hj2⟩ := List.getElem?_of_mem hx
          cases x with
          | none => exact nomatch hb2
          | some s2 =>
            obtain ⟨_, n2, n3⟩ := blkL_get hj2
            by_cases e : j2 = j
            · subst e
              rw [hj] at n2
              have e2 : S.rdr p dx l C now past = s2 := by simpa using n2
              subst e2
              exact blkL_no hj2
            · exact feet_ne R1.nd n2 hj e hb2 hb rfl
        | own p ds =>
          refine .inl fun b hb z => ?_
          have e : b = p := by simpa [foot] using hb
          subst e
          obtain ⟨x, hx, hb2⟩ := List.mem_flatMap.mp z
          obtain ⟨j2, hj2⟩ := List.getElem?_of_mem hx
          cases x with
          | none => exact nomatch hb2
          | some s2 =>
            obtain ⟨_, n2, n3⟩ := blkL_get hj2
            by_cases e : j2 = j
            · subst e
              rw [hj] at n2
              have e2 : S.own b ds = s2 := by simpa using n2
              exact n3 b ds e2.symm
            · exact feet_ne R1.nd n2 hj e hb2 (by simp [foot]) rfl
        | drw a b =>
          -- a draws' slot: either it stands in the block as well, or its feet are not touched
          by_cases hb : (blkL l1 vs)[j]? = some (some (.drw a b))
          · exact .inr ⟨hs.1, hdrw j a b hb⟩
          · refine .inl fun c hc z => ?_
            obtain ⟨x, hx, hb2⟩ := List.mem_flatMap.mp z
            obtain ⟨j2, hj2⟩ := List.getElem?_of_mem hx
            cases x with
            | none => exact nomatch hb2
            | some s2 =>
              obtain ⟨_, n2, n3⟩ := blkL_get hj2
              by_cases e : j2 = j
              · subst e
                rw [hj] at n2
                have e2 : S.drw a b = s2 := by simpa using n2
                exact hb (by rw [e2]; exact hj2)
              · exact feet_ne R1.nd n2 hj e hb2 hc rfl
      exact k _ _ _ _ _ zz RE ((s1.trans sF).trans sE) (.lst' upd_same (hacc.mono sE))

structure PDTs (X : Cx) (ca : Er → Addr) (W : WX) (ifs : List Expr) (v : TT) (d : DT) : Prop where
  pe : PTs X ifs v
  es : ET X.K ca W v d
section
variable {X : Cx} {ca : Er → Addr} {W : WX} {a b c e : Expr} {va : TT} {ta : DT} {pos : Pos}
theorem pdts_nil : PDTs X ca W [] tYes dYes := ⟨pts_nil, fun G σ H Hf l Q q r R k kr z => k _ _ _ _ z R (Same.refl _)⟩
theorem pdts_one (h : PDT X ca W a va ta) : PDTs X ca W [a] va ta := ⟨pts_one h.pe, h.es⟩
/-- the target's rule in each block, one reading -/
theorem pd_lc {elt tg iter : Expr} {ifs : List Expr} {scope : Scope} {own : List (Str × Nat)} {wi : TI} {wd : DI} {g : TG} {dg : DG} {tt : TT} {dt : DT} {te : TE} {de : DE} (hc : X.calm = true) (hN : X.N.Nodup) (hi : PDI X ca W tg iter wi wd) (ok : BlkOk X.N X.env.scope scope own)
    (hg : ∀ (s : Shared) (H : Hp) (C : Addr) (cl : List (Str × Addr)) (fp : List Addr), PG (X.blk s H scope (compEnvC scope cl C X.env) fp) tg g) (hgs : GSv X.K (own.map (·.2)) g dg)
    (ht : ∀ (s : Shared) (H : Hp) (C : Addr) (cl : List (Str × Addr)) (fp : List Addr), PDTs (X.blk s H scope (compEnvC scope cl C X.env) fp) ca W0 ifs tt dt)
    (he : ∀ (s : Shared) (H : Hp) (C : Addr) (cl : List (Str × Addr)) (fp : List Addr), PD (X.blk s H scope (compEnvC scope cl C X.env) fp) ca W0 elt te de) (hs : ∀ x, foldedSetIterable iter X.env x = pure x := by intro _; rfl) :
    PD X ca W (.ListComp elt [⟨tg, iter, ifs, 0⟩] scope pos) (tLc wi g tt te (own.map (·.2))) (dLc wd dg dt de (own.map (·.2))) :=
  ⟨pe_lc hc hN hi.pe ok hg (fun s H C cl fp => (ht s H C cl fp).pe) (fun s H C cl fp => (he s H C cl fp).pe) hs, lc_es hi.es hgs (ht X.s_0 (fun _ => none) 0 [] []).es (he X.s_0 (fun _ => none) 0 [] []).es⟩
theorem pds_setLc {i : Nat} {y : Str} {py : Pos} {elt tg iter : Expr} {ifs : List Expr} {scope : Scope} {own : List (Str × Nat)} {wi : TI} {wd : DI} {g : TG} {dg : DG} {tt : TT} {dt : DT} {te : TE} {de : DE} {spos : Pos} (hc : X.calm = true) (hN : X.N.Nodup) (hy : X.N[i]? = some y) (hyl : X.env.scope.names.lookup y = some .local)
    (hsw : swapsWith (.ListComp elt [⟨tg, iter, ifs, 0⟩] scope pos) (some (.Name y py)) spos.line X.env = pure true) (hi : PDI X ca W tg iter wi wd) (ok : BlkOk X.N X.env.scope scope own)
    (hg : ∀ (s : Shared) (H : Hp) (C : Addr) (cl : List (Str × Addr)) (fp : List Addr), PG (X.blk s H scope (compEnvC scope cl C X.env) fp) tg g) (hgs : GSv X.K (own.map (·.2)) g dg)
    (ht : ∀ (s : Shared) (H : Hp) (C : Addr) (cl : List (Str × Addr)) (fp : List Addr), PDTs (X.blk s H scope (compEnvC scope cl C X.env) fp) ca W0 ifs tt dt)
    (he : ∀ (s : Shared) (H : Hp) (C : Addr) (cl : List (Str × Addr)) (fp : List Addr), PD (X.blk s H scope (compEnvC scope cl C X.env) fp) ca W0 elt te de) (hs : ∀ x, foldedSetIterable iter X.env x = pure x := by intro _; rfl) :
    PDS X ca W (.Assign [.Name y py] (.ListComp elt [⟨tg, iter, ifs, 0⟩] scope pos) spos) (tAsg (tLc wi g tt te (own.map (·.2))) (gName i)) (dAsg (dLc wd dg dt de (own.map (·.2))) (gN i)) :=
  ⟨ps_setLc hc hN hy hyl hsw hi.pe ok hg (fun s H C cl fp => (ht s H C cl fp).pe) (fun s H C cl fp => (he s H C cl fp).pe) hs,
    fun G D E σ H Hf l R m z => lc_es hi.es hgs (ht X.s_0 (fun _ => none) 0 [] []).es (he X.s_0 (fun _ => none) 0 [] []).es G σ H Hf l _ _ E.rs R (fun x l' v H' Hf' q R' s dv => m.nx _ _ _ _ q (R'.put i dv) s) (m.kr σ) z⟩
end
end DL

namespace DL
open PySem PySem.Spec PyProof.Rows L2

/-! ### operators upon data -/
def addD : PyData → PyData → Option PyData
  | .int a, .int b => some (.int (a + b))
  | .str a, .str b => if a.length + b.length ≤ sizeLine then some (.str (a ++ b)) else none
  | .list a, .list b => if a.length + b.length ≤ sizeLine then some (.list (a ++ b)) else none
  | _, _ => none
def subD : PyData → PyData → Option PyData
  | .int a, .int b => some (.int (a - b))
  | _, _ => none
def mulOk (a b : Int) : Bool := (decide (-(2 ^ 64) < a) && decide (a < 2 ^ 64)) || (decide (-(2 ^ 64) < b) && decide (b < 2 ^ 64))
def mulD : PyData → PyData → Option PyData
  | .int a, .int b => if mulOk a b = true then some (.int (a * b)) else none
  | _, _ => none
/-- [..] * n -/
def repD : PyData → PyData → Option PyData
  | .list a, .int b => if 0 ≤ b ∧ b < 2 ^ 63 ∧ a.length * b.toNat ≤ sizeLine then some (.list (List.replicate b.toNat a).flatten) else none
  | _, _ => none
def fdivD : PyData → PyData → Option PyData
  | .int a, .int b => if 0 < b ∧ b < 2 ^ 64 then some (.int (a / b)) else none
  | _, _ => none
def modD : PyData → PyData → Option PyData
  | .int a, .int b => if 0 < b then some (.int (a % b)) else none
  | _, _ => none
def powD : PyData → PyData → Option PyData
  | .int a, .int b => if 0 ≤ b ∧ b ≤ 1000000 ∧ a.natAbs < 2 ^ 64 then some (.int (a ^ b.toNat)) else none
  | _, _ => none
def negD : PyData → Option PyData
  | .int a => some (.int (-a))
  | _ => none
def ixD : PyData → PyData → Option PyData
  | .list xs, .int i => atI xs i
  | .tuple xs, .int i => atI xs i
  | .str z, .int i => if z.length ≤ sizeLine then (atI z.cps.toList i).map fun c => .str ⟨#[c]⟩ else none
  | _, _ => none
def eqD (a b : PyData) : Option Bool := if SeqAt.shaped a = true ∧ SeqAt.shaped b = true then some (PyData.eqv a b) else none
def neD (a b : PyData) : Option Bool := if SeqAt.shaped a = true ∧ SeqAt.shaped b = true then some (!PyData.eqv a b) else none
def ltD : PyData → PyData → Option Bool
  | .int a, .int b => some (decide (a < b))
  | _, _ => none
def leD : PyData → PyData → Option Bool
  | .int a, .int b => some (decide (a ≤ b))
  | _, _ => none
def gtD : PyData → PyData → Option Bool
  | .int a, .int b => some (decide (b < a))
  | _, _ => none
def geD : PyData → PyData → Option Bool
  | .int a, .int b => some (decide (b ≤ a))
  | _, _ => none
def isNonD : PyData → Bool
  | .none => true
  | _ => false
def isNd : PyData → PyData → Option Bool
  | a, .none => some (isNonD a)
  | _, _ => none
def notNd : PyData → PyData → Option Bool
  | a, .none => some (!isNonD a)
  | _, _ => none
def isBd : PyData → PyData → Option Bool
  | .bool a, .bool b => some (decide (a = b))
  | _, _ => none
def notBd : PyData → PyData → Option Bool
  | .bool a, .bool b => some (!decide (a = b))
  | _, _ => none
def inLd : PyData → PyData → Option Bool
  | d, .list ds => if SeqAt.shaped d = true ∧ SeqAt.shaped (.list ds) = true then some (ds.any fun z => PyData.eqv z d) else none
  | _, _ => none
def notInLd : PyData → PyData → Option Bool
  | d, .list ds => if SeqAt.shaped d = true ∧ SeqAt.shaped (.list ds) = true then some (!ds.any fun z => PyData.eqv z d) else none
  | _, _ => none
def strsOf : List PyData → Option (List Str)
  | [] => some []
  | .str x :: r => (strsOf r).map (x :: ·)
  | _ => none
/-- a text in a tuple of texts -/
def inTd : PyData → PyData → Option Bool
  | .str x, .tuple ds => (strsOf ds).map fun ys => decide (x ∈ ys)
  | _, _ => none
def notInTd : PyData → PyData → Option Bool
  | .str x, .tuple ds => (strsOf ds).map fun ys => !decide (x ∈ ys)
  | _, _ => none

section
variable {K : PySem.W.Frag}
/-- an answer that lays nothing -/
theorem opd_flat {r : R2} {f : PyData → PyData → Option PyData} (h : ∀ (x y : V) (dx dy z : PyData) (H Hf : Hp) (Q : VK), Same Hf H → Dv K Hf x dx → Dv K Hf y dy → f dx dy = some z → (∀ v, Dv K Hf v z → Q v H) → r x y H Q) : OpD K r f :=
  fun x y dx dy z H Hf Q s hx hy e k => h x y dx dy z H Hf Q s hx hy e fun v dv => k v H Hf (Frm.refl s) dv
theorem od_add : OpD K (fun x y H Q => rI0 (fun i j => .int (i + j)) x y H Q ∨ (∃ i j, x = .str i ∧ y = .str j ∧ i.length + j.length ≤ sizeLine ∧ Q (.str (i ++ j)) H) ∨ rCat x y H Q) addD := by
  intro x y dx dy z H Hf Q s hx hy e k
  unfold addD at e
  split at e
  · cases e
    obtain rfl := hx.int_inv
    obtain rfl := hy.int_inv
    exact .inl ⟨_, _, rfl, rfl, k _ H Hf (Frm.refl s) (.int _)⟩
  · split at e
    · rename_i hl
      cases e
      obtain rfl := hx.str_inv
      obtain rfl := hy.str_inv
      exact .inr (.inl ⟨_, _, rfl, rfl, hl, k _ H Hf (Frm.refl s) (.str _)⟩)
    · cases e
  · split at e
    · rename_i hl
      cases e
      obtain ⟨p, vs, rfl, h1, h2⟩ := hx.list_inv
      obtain ⟨q, ws, rfl, h3, h4⟩ := hy.list_inv
      refine .inr (.inr ⟨p, q, vs, ws, rfl, rfl, s _ _ h1, s _ _ h3, by rw [h2.1, h4.1]; exact hl, fun a ha => ?_⟩)
      have F : Frm [] H Hf (upd H a (.lst (vs ++ ws))) (upd Hf a (.lst (vs ++ ws))) := Frm.new s ha
      exact k _ _ _ F (.lst' upd_same ((h2.append h4).mono (F.sameF s)))
    · cases e
  · cases e
theorem od_sub : OpD K (rI0 fun i j => .int (i - j)) subD := opd_flat fun x y dx dy z H Hf Q s hx hy e k => by
  unfold subD at e
  split at e
  · cases e
    obtain rfl := hx.int_inv
    obtain rfl := hy.int_inv
    exact ⟨_, _, rfl, rfl, k _ (.int _)⟩
  · cases e
theorem mulOk_of {a b : Int} (h : mulOk a b = true) : CMul a b := by
  unfold mulOk at h
  simp only [Bool.or_eq_true, Bool.and_eq_true, decide_eq_true_eq] at h
  exact h
theorem od_mul : OpD K (rI CMul fun i j => .int (i * j)) mulD := opd_flat fun x y dx dy z H Hf Q s hx hy e k => by
  unfold mulD at e
  split at e
  · split at e
    · rename_i hm
      cases e
      obtain rfl := hx.int_inv
      obtain rfl := hy.int_inv
      exact ⟨_, _, rfl, rfl, mulOk_of hm, k _ (.int _)⟩
    · cases e
  · cases e
theorem dvAll_rep {H : Hp} {vs : List V} {ds : List PyData} (q : DvAll K H vs ds) : ∀ n : Nat, DvAll K H (List.replicate n vs).flatten (List.replicate n ds).flatten
  | 0 => .nil
  | n + 1 => by
    rw [List.replicate_succ, List.replicate_succ, List.flatten_cons, List.flatten_cons]
    exact q.append (dvAll_rep q n)
theorem od_rep : OpD K rRep repD := fun x y dx dy z H Hf Q s hx hy e k => by
  unfold repD at e
  split at e
  · split at e
    · rename_i n hm
      obtain ⟨h1, h2, h3⟩ := hm
      cases e
      obtain ⟨p, vs, rfl, h4, h5⟩ := hx.list_inv
      obtain rfl := hy.int_inv
      refine ⟨p, _, vs, rfl, rfl, s _ _ h4, by omega, h2, by rw [h5.1]; exact h3, fun a ha => ?_⟩
      have F : Frm [] H Hf (upd H a (.lst (List.replicate n.toNat vs).flatten)) (upd Hf a (.lst (List.replicate n.toNat vs).flatten)) := Frm.new s ha
      exact k _ _ _ F (.lst' upd_same ((dvAll_rep h5 _).mono (F.sameF s)))
    · cases e
  · cases e
theorem od_fdiv : OpD K (rI CDivW fun i j => .int (i / j)) fdivD := opd_flat fun x y dx dy z H Hf Q s hx hy e k => by
  unfold fdivD at e
  split at e
  · split at e
    · rename_i hm
      cases e
      obtain rfl := hx.int_inv
      obtain rfl := hy.int_inv
      exact ⟨_, _, rfl, rfl, wide_div (b := 64) hm.1 (by omega) (by decide) (by decide), k _ (.int _)⟩
    · cases e
  · cases e
theorem od_mod : OpD K (rI (fun _ j => 0 < j) fun i j => .int (i % j)) modD := opd_flat fun x y dx dy z H Hf Q s hx hy e k => by
  unfold modD at e
  split at e
  · split at e
    · rename_i hm
      cases e
      obtain rfl := hx.int_inv
      obtain rfl := hy.int_inv
      exact ⟨_, _, rfl, rfl, hm, k _ (.int _)⟩
    · cases e
  · cases e
theorem od_pow : OpD K (rI CPow fun i j => .int (i ^ j.toNat)) powD := opd_flat fun x y dx dy z H Hf Q s hx hy e k => by
  unfold powD at e
  split at e
  · split at e
    · rename_i hm
      cases e
      obtain rfl := hx.int_inv
      obtain rfl := hy.int_inv
      exact ⟨_, _, rfl, rfl, hm, k _ (.int _)⟩
    · cases e
  · cases e
theorem ud_neg : UnD K (rU fun i => .int (-i)) negD := fun x dx z H Hf Q s hx e k => by
  unfold negD at e
  split at e
  · cases e
    obtain rfl := hx.int_inv
    exact ⟨_, rfl, k _ H Hf (Frm.refl s) (.int _)⟩
  · cases e
theorem atI_dv {H : Hp} {vs : List V} {ds : List PyData} {i : Int} {d : PyData} (q : DvAll K H vs ds) (h : atI ds i = some d) : ∃ v, atI vs i = some v ∧ Dv K H v d := by
  unfold atI at h ⊢
  rw [q.1]
  cases e : ixN ds.length i with
  | none => rw [e] at h; cases h
  | some j =>
    rw [e] at h
    have h : ds[j]? = some d := h
    have hj : j < ds.length := (List.getElem?_eq_some_iff.mp h).1
    refine ⟨vs[j]'(by rw [q.1]; exact hj), ?_, q.2 j _ d (List.getElem?_eq_getElem _) h⟩
    show vs[j]? = _
    exact List.getElem?_eq_getElem _
theorem od_ix : OpD K (rIx K) ixD := opd_flat fun x y dx dy z H Hf Q s hx hy e k => by
  unfold ixD at e
  split at e
  · obtain ⟨p, vs, rfl, h1, h2⟩ := hx.list_inv
    obtain rfl := hy.int_inv
    obtain ⟨v, h3, h4⟩ := atI_dv h2 e
    exact .inl ⟨p, vs, _, v, rfl, rfl, .inl (.inl (s _ _ h1)), h3, k v h4⟩
  · obtain ⟨p, vs, rfl, h1, h2⟩ := hx.tuple_inv
    obtain rfl := hy.int_inv
    obtain ⟨v, h3, h4⟩ := atI_dv h2 e
    exact .inr (.inl ⟨p, vs, _, v, rfl, rfl, sqT_mono s h1, h3, k v h4⟩)
  · obtain rfl := hx.str_inv
    obtain rfl := hy.int_inv
    split at e
    · rename_i hl
      cases h : atI (_ : List Nat) _ with
      | none => rw [h] at e; cases e
      | some c =>
        rw [h] at e
        cases e
        exact .inr (.inr ⟨_, _, c, rfl, rfl, hl, h, k _ (.str _)⟩)
    · cases e
  · cases e
theorem cm_eq : CmD K (rEqD K) eqD := fun x y dx dy z H Q hx hy e q => by
  unfold eqD at e
  split at e
  · rename_i h
    cases e
    exact ⟨dx, dy, hx.dp, hy.dp, h.1, h.2, q⟩
  · cases e
theorem cm_ne : CmD K (rNeD K) neD := fun x y dx dy z H Q hx hy e q => by
  unfold neD at e
  split at e
  · rename_i h
    cases e
    exact ⟨dx, dy, hx.dp, hy.dp, h.1, h.2, q⟩
  · cases e
theorem cm_lt : CmD K (rI0 fun i j => .bl (decide (i < j))) ltD := fun x y dx dy z H Q hx hy e q => by
  unfold ltD at e
  split at e
  · cases e
    exact ⟨_, _, hx.int_inv, hy.int_inv, q⟩
  · cases e
theorem cm_le : CmD K (rI0 fun i j => .bl (decide (i ≤ j))) leD := fun x y dx dy z H Q hx hy e q => by
  unfold leD at e
  split at e
  · cases e
    exact ⟨_, _, hx.int_inv, hy.int_inv, q⟩
  · cases e
theorem cm_gt : CmD K (rI0 fun i j => .bl (decide (j < i))) gtD := fun x y dx dy z H Q hx hy e q => by
  unfold gtD at e
  split at e
  · cases e
    exact ⟨_, _, hx.int_inv, hy.int_inv, q⟩
  · cases e
theorem cm_ge : CmD K (rI0 fun i j => .bl (decide (j ≤ i))) geD := fun x y dx dy z H Q hx hy e q => by
  unfold geD at e
  split at e
  · cases e
    exact ⟨_, _, hx.int_inv, hy.int_inv, q⟩
  · cases e
theorem isNon_dec {H : Hp} {x : V} {d : PyData} (h : Dv K H x d) : decide (x = .non) = isNonD d := by
  cases h <;> rfl
theorem cm_isN : CmD K (fun x y H Q => y = .non ∧ Q (.bl (decide (x = .non))) H) isNd := fun x y dx dy z H Q hx hy e q => by
  unfold isNd at e
  split at e
  · cases e
    exact ⟨hy.non_inv, by rw [isNon_dec hx]; exact q⟩
  · cases e
theorem cm_notN : CmD K (fun x y H Q => y = .non ∧ Q (.bl (!decide (x = .non))) H) notNd := fun x y dx dy z H Q hx hy e q => by
  unfold notNd at e
  split at e
  · cases e
    exact ⟨hy.non_inv, by rw [isNon_dec hx]; exact q⟩
  · cases e
theorem cm_isB : CmD K (fun x y H Q => ∃ a b, x = .bl a ∧ y = .bl b ∧ Q (.bl (decide (a = b))) H) isBd := fun x y dx dy z H Q hx hy e q => by
  unfold isBd at e
  split at e
  · cases e
    exact ⟨_, _, hx.bl_inv, hy.bl_inv, q⟩
  · cases e
theorem cm_notB : CmD K (fun x y H Q => ∃ a b, x = .bl a ∧ y = .bl b ∧ Q (.bl (!decide (a = b))) H) notBd := fun x y dx dy z H Q hx hy e q => by
  unfold notBd at e
  split at e
  · cases e
    exact ⟨_, _, hx.bl_inv, hy.bl_inv, q⟩
  · cases e
theorem cm_inL : CmD K (rInD K) inLd := fun x y dx dy z H Q hx hy e q => by
  unfold inLd at e
  split at e
  · split at e
    · rename_i h
      cases e
      exact ⟨_, _, hx.dp, hy.dp, h.1, h.2, q⟩
    · cases e
  · cases e
theorem cm_notInL : CmD K (rNotInD K) notInLd := fun x y dx dy z H Q hx hy e q => by
  unfold notInLd at e
  split at e
  · split at e
    · rename_i h
      cases e
      exact ⟨_, _, hx.dp, hy.dp, h.1, h.2, q⟩
    · cases e
  · cases e
theorem strs_vals {H : Hp} {x : Str} : ∀ {ds : List PyData} {ys : List Str} {vs : List V}, strsOf ds = some ys → DvAll K H vs ds → vs.all flatV = true ∧ inV (.str x) vs = decide (x ∈ ys)
  | [], ys, vs, e, q => by
    cases e
    obtain rfl := q.nil_inv
    exact ⟨rfl, rfl⟩
  | d :: ds, ys, vs, e, q => by
    obtain ⟨v, r, rfl, h1, h2⟩ := q.cons_inv
    cases d with
    | str y =>
      have e : (strsOf ds).map (y :: ·) = some ys := e
      cases e2 : strsOf ds with
      | none => rw [e2] at e; cases e
      | some zs =>
        rw [e2] at e
        cases e
        obtain rfl := h1.str_inv
        obtain ⟨i1, i2⟩ := strs_vals e2 h2
        refine ⟨by simp only [List.all_cons, i1]; rfl, ?_⟩
        have i3 : r.any (fun z => eqV z (.str x)) = decide (x ∈ zs) := i2
        show (eqV (.str y) (.str x) || r.any fun z => eqV z (.str x)) = decide (x ∈ y :: zs)
        rw [i3]
        have e4 : eqV (.str y) (.str x) = (y == x) := rfl
        rw [e4]
        by_cases hxy : y = x
        · subst hxy
          simp
        · have hyx : ¬ x = y := fun z => hxy z.symm
          simp [hxy, hyx]
    | _ => cases e
theorem cm_inT : CmD K (rIn K false) inTd := fun x y dx dy z H Q hx hy e q => by
  unfold inTd at e
  split at e
  · rename_i xx ds
    cases e2 : strsOf ds with
    | none => rw [e2] at e; cases e
    | some ys =>
      rw [e2] at e
      cases e
      obtain rfl := hx.str_inv
      obtain ⟨p, vs, rfl, h1, h2⟩ := hy.tuple_inv
      obtain ⟨i1, i2⟩ := strs_vals (x := xx) e2 h2
      refine ⟨p, vs, rfl, .inr h1, rfl, i1, ?_⟩
      rw [if_neg Bool.false_ne_true, i2]
      exact q
  · cases e
theorem cm_notInT : CmD K (rIn K true) notInTd := fun x y dx dy z H Q hx hy e q => by
  unfold notInTd at e
  split at e
  · rename_i xx ds
    cases e2 : strsOf ds with
    | none => rw [e2] at e; cases e
    | some ys =>
      rw [e2] at e
      cases e
      obtain rfl := hx.str_inv
      obtain ⟨p, vs, rfl, h1, h2⟩ := hy.tuple_inv
      obtain ⟨i1, i2⟩ := strs_vals (x := xx) e2 h2
      refine ⟨p, vs, rfl, .inr h1, rfl, i1, ?_⟩
      rw [if_pos rfl, i2]
      exact q
  · cases e
end
end DL

namespace DL
open PySem PySem.Spec PyProof.Rows L2

/-! ### built-ins upon data -/
def absD : List PyData → Option PyData
  | [.int i] => some (.int (i.natAbs : Int))
  | _ => none
def maxD : List PyData → Option PyData
  | [.int i, .int j] => some (.int (max i j))
  | _ => none
def lenD : List PyData → Option PyData
  | [.list xs] => some (.int (xs.length : Int))
  | [.tuple xs] => some (.int (xs.length : Int))
  | [.str z] => if z.length ≤ sizeLine then some (.int (z.length : Int)) else none
  | _ => none
def intsOf : List PyData → Option (List Int)
  | [] => some []
  | .int x :: r => (intsOf r).map (x :: ·)
  | _ => none
def sumD : List PyData → Option PyData
  | [.list xs] => (intsOf xs).map fun ns => .int ns.sum
  | _ => none
section
variable {K : PySem.W.Frag}
theorem dv1 {H : Hp} {vs : List V} {d : PyData} (q : DvAll K H vs [d]) : ∃ v, vs = [v] ∧ Dv K H v d := by
  obtain ⟨v, r, rfl, h1, h2⟩ := q.cons_inv
  obtain rfl := h2.nil_inv
  exact ⟨v, rfl, h1⟩
theorem dv2 {H : Hp} {vs : List V} {d e : PyData} (q : DvAll K H vs [d, e]) : ∃ v w, vs = [v, w] ∧ Dv K H v d ∧ Dv K H w e := by
  obtain ⟨v, r, rfl, h1, h2⟩ := q.cons_inv
  obtain ⟨w, rfl, h3⟩ := dv1 h2
  exact ⟨v, w, rfl, h1, h3⟩
theorem cd_abs : CaD K (fun xs H Q => ∃ i, xs = [.int i] ∧ Q (.int (if i < 0 then -i else i)) H) absD := fun xs ds z H Hf Q s h e k => by
  unfold absD at e
  split at e
  · cases e
    obtain ⟨v, rfl, hv⟩ := dv1 h
    obtain rfl := hv.int_inv
    rename_i i
    refine ⟨i, rfl, ?_⟩
    have e : (if i < 0 then -i else i) = (i.natAbs : Int) := by split <;> omega
    rw [e]
    exact k _ H Hf (Frm.refl s) (.int _)
  · cases e
theorem cd_max : CaD K (fun xs H Q => ∃ i j, xs = [.int i, .int j] ∧ Q (.int (if j > i then j else i)) H) maxD := fun xs ds z H Hf Q s h e k => by
  unfold maxD at e
  split at e
  · cases e
    obtain ⟨v, w, rfl, hv, hw⟩ := dv2 h
    obtain rfl := hv.int_inv
    obtain rfl := hw.int_inv
    rename_i i j
    refine ⟨i, j, rfl, ?_⟩
    have e : (if j > i then j else i) = max i j := by split <;> omega
    rw [e]
    exact k _ H Hf (Frm.refl s) (.int _)
  · cases e
def rLenA (K : PySem.W.Frag) : List V → Hp → VK → Prop := fun xs H Q => (∃ p ys, xs = [.ref p] ∧ (SqL K H p ys ∨ SqT K H p ys) ∧ Q (.int ys.length) H) ∨ ∃ z, xs = [.str z] ∧ z.length ≤ sizeLine ∧ Q (.int z.length) H
theorem call_lenA {X : Cx} : CallR X (.builtin "len") (rLenA X.K) := call_len_seq.or call_len_str
theorem cd_len : CaD K (rLenA K) lenD := fun xs ds z H Hf Q s h e k => by
  unfold lenD at e
  split at e
  · cases e
    obtain ⟨v, rfl, hv⟩ := dv1 h
    obtain ⟨p, vs, rfl, h1, h2⟩ := hv.list_inv
    exact .inl ⟨p, vs, rfl, .inl (.inl (.inl (s _ _ h1))), by rw [h2.1]; exact k _ H Hf (Frm.refl s) (.int _)⟩
  · cases e
    obtain ⟨v, rfl, hv⟩ := dv1 h
    obtain ⟨p, vs, rfl, h1, h2⟩ := hv.tuple_inv
    exact .inl ⟨p, vs, rfl, .inr (sqT_mono s h1), by rw [h2.1]; exact k _ H Hf (Frm.refl s) (.int _)⟩
  · split at e
    · rename_i hl
      cases e
      obtain ⟨v, rfl, hv⟩ := dv1 h
      obtain rfl := hv.str_inv
      exact .inr ⟨_, rfl, hl, k _ H Hf (Frm.refl s) (.int _)⟩
    · cases e
  · cases e
theorem intsOf_vals {H : Hp} : ∀ {ds : List PyData} {ns : List Int} {vs : List V}, intsOf ds = some ns → DvAll K H vs ds → vs = ns.map V.int
  | [], ns, vs, e, q => by
    cases e
    exact q.nil_inv
  | d :: ds, ns, vs, e, q => by
    obtain ⟨v, r, rfl, h1, h2⟩ := q.cons_inv
    cases d with
    | int y =>
      have e : (intsOf ds).map (y :: ·) = some ns := e
      cases e2 : intsOf ds with
      | none => rw [e2] at e; cases e
      | some zs =>
        rw [e2] at e
        cases e
        obtain rfl := h1.int_inv
        rw [intsOf_vals e2 h2]
        rfl
    | _ => cases e
theorem intsOf_map (ns : List Int) : intsOf (ns.map PyData.int) = some ns := by
  induction ns with
  | nil => rfl
  | cons n ns ih =>
    show (intsOf (ns.map PyData.int)).map (n :: ·) = _
    rw [ih]
    rfl
theorem cd_sum : CaD K (rSum K) sumD := fun xs ds z H Hf Q s h e k => by
  unfold sumD at e
  split at e
  · rename_i xs'
    cases e2 : intsOf xs' with
    | none => rw [e2] at e; cases e
    | some ns =>
      rw [e2] at e
      cases e
      obtain ⟨v, rfl, hv⟩ := dv1 h
      obtain ⟨p, vs, rfl, h1, h2⟩ := hv.list_inv
      refine ⟨p, ns, rfl, .inl (.inl ?_), k _ H Hf (Frm.refl s) (.int _)⟩
      rw [← intsOf_vals e2 h2]
      exact s _ _ h1
  · cases e
end

/-! ### isinstance(x, T), T a built-in class -/
def tyn : PyData → String
  | .none => "NoneType"
  | .bool _ => "bool"
  | .int _ => "int"
  | .str _ => "str"
  | .list _ => "list"
  | .tuple _ => "tuple"
  | .dict _ => "dict"
def dIsi (T : String) (d : DE) : DE := fun l Q R => d l (fun x l' => ∃ b, kitB (tyn x) T = some b ∧ Q (.bool b) l') R
theorem Dv.ty {K : PySem.W.Frag} {H : Hp} {v : V} {d : PyData} (h : Dv K H v d) : TyX K H v (.type (tyn d)) := by
  cases h with
  | non => exact .base .non
  | bl b => exact .base (.bl b)
  | int i => exact .base (.int i)
  | str x => exact .base (.str x)
  | lst h _ _ => exact .base (.lst h)
  | tup h _ _ =>
    rcases h with (h | ⟨o, h⟩) | ⟨o, its, n, h1, h2, _⟩
    · exact .base (.tup h)
    · exact .fTuple h
    · exact .kTuple h1 h2
section
variable {X : Cx} {ca : Er → Addr} {W : WX} {a b c e : Expr} {es : List Expr} {ua ub uc : TE} {va vb vc : TT} {da db dc : DE} {ta tb tc : DT} {pos : Pos}
theorem pd_isi {K : PySem.W.Frag} {x : Str} {T : String} {p p2 : Pos} (ha : PD X ca W a ua da) (hg : Gl X "isinstance") (hm : X.mg "isinstance" = none) (hT : PE X (.Name x p2) (tC (.ty T)))
    (hs : starEach [a, .Name x p2] X.env = (false, eval a X.env) :: starEach [.Name x p2] X.env := by rfl) (hs2 : starEach [.Name x p2] X.env = (false, eval (.Name x p2) X.env) :: starEach [] X.env := by rfl)
    (hpl : (backTo pos (starEach [.Name x p2] X.env)).any (·.1) = false := by rfl) (hK : X.K = K := by rfl) :
    PD X ca W (.Call (.Name "isinstance" p) [a, .Name x p2] [] pos) (tCB (rIsi K) (tCons ua (tCons (tC (.ty T)) tNil))) (dIsi T da) := by
  subst hK
  refine ⟨pe_callB call_isi hg hm boot_isinstance (pa_cons ha.pe (pa_cons hT pa_nil hs2) hs) (by decide) (by decide) hs hpl, fun G σ H Hf l Q q r R k kr z => ?_⟩
  refine ha.es G σ H Hf l _ _ r R (fun x l' v H' Hf' z' R' s dv => ?_) kr z
  obtain ⟨b, e, z'⟩ := z'
  exact ⟨v, .ty T, .type (tyn x), .type T, b, rfl, .ty T, (dv.mono R'.sub).ty, kit_ty e, k _ _ _ _ _ z' R' s (.bl b)⟩

/-! ### slices -/
def cutD {α : Type} (xs : List α) (lo hi : Option Int) : List α := (xs.drop (HT.sIx xs.length 0 lo)).take (HT.sIx xs.length xs.length hi - HT.sIx xs.length 0 lo)
theorem dvAll_cut {K : PySem.W.Frag} {H : Hp} {vs : List V} {ds : List PyData} (q : DvAll K H vs ds) (lo hi : Option Int) : DvAll K H (cutV vs lo hi) (cutD ds lo hi) := by
  unfold cutV cutD
  rw [q.1]
  refine ⟨by simp [q.1], fun i v d h1 h2 => ?_⟩
  rw [List.getElem?_take] at h1 h2
  split at h1
  · rename_i hlt
    rw [if_pos hlt] at h2
    rw [List.getElem?_drop] at h1 h2
    exact q.2 _ v d h1 h2
  · cases h1
abbrev DO := Sl → (Option Int → Sl → Prop) → DR → Prop
def dO0 : DO := fun l Q _ => Q none l
def dO1 (d : DE) : DO := fun l Q R => d l (fun x l' => ∃ i, x = .int i ∧ Q (some i) l') R
def KO (K : PySem.W.Frag) (G : Gm) (σ : L2.St) (Hf : Hp) (q : Option Int → Sl → Prop) (Q : Option Int → Hp → Prop) : Prop := ∀ x l' H' Hf', q x l' → Rep K G H' Hf' σ l' → Same Hf Hf' → Q x H'
def EO (K : PySem.W.Frag) (ca : Er → Addr) (W : WX) (t : TO) (d : DO) : Prop := ∀ (G : Gm) (σ : L2.St) (H Hf : Hp) (l : Sl) (Q : Option Int → Hp → Prop) (q : Option Int → Sl → Prop) (r : DR), Rep K G H Hf σ l → KO K G σ Hf q Q → KR K ca G W σ r → d l q r → t σ H Q
structure PDO (X : Cx) (ca : Er → Addr) (W : WX) (e : Option Expr) (t : TO) (d : DO) : Prop where
  pe : PO X e t
  es : EO X.K ca W t d
theorem pdo_none : PDO X ca W none tNoPart dO0 := ⟨po_none, fun G σ H Hf l Q q r R k kr z => k _ _ _ _ z R (Same.refl _)⟩
theorem pdo_some (h : PD X ca W a ua da) : PDO X ca W (some a) (tPart ua) (dO1 da) := ⟨po_some h.pe, fun G σ H Hf l Q q r R k kr z => h.es G σ H Hf l _ _ r R (fun x l' v H' Hf' z' R' s dv => by
  obtain ⟨i, rfl, z'⟩ := z'
  exact ⟨i, dv.int_inv, k _ _ _ _ z' R' s⟩) kr z⟩
def dSlL (d : DE) (lo hi : DO) : DE := fun l Q R => d l (fun x l1 => lo l1 (fun i l2 => hi l2 (fun j l3 => ∃ ds, x = .list ds ∧ Q (.list (cutD ds i j)) l3) R) R) R
theorem pd_slL {K : PySem.W.Frag} {lo hi : Option Expr} {tl th : TO} {dl dh : DO} {p2 : Pos} (h : PD X ca W a ua da) (hl : PDO X ca W lo tl dl) (hh : PDO X ca W hi th dh) (hK : X.K = K := by rfl) : PD X ca W (.Subscript a (.Slice lo hi none p2) pos) (tSl (rSlL K) ua tl th) (dSlL da dl dh) := by
  subst hK
  refine ⟨pe_slice sl_list h.pe hl.pe hh.pe, fun G σ H Hf l Q q r R k kr z => ?_⟩
  refine h.es G σ H Hf l _ _ r R (fun x l1 v H1 Hf1 z1 R1 s1 d1 => ?_) kr z
  refine hl.es G σ H1 Hf1 l1 _ _ r R1 (fun i l2 H2 Hf2 z2 R2 s2 => ?_) kr z1
  refine hh.es G σ H2 Hf2 l2 _ _ r R2 (fun j l3 H3 Hf3 z3 R3 s3 => ?_) kr z2
  obtain ⟨ds, rfl, z3⟩ := z3
  obtain ⟨p, vs, rfl, h1, h2⟩ := d1.list_inv
  have s13 : Same Hf1 Hf3 := s2.trans s3
  refine ⟨p, vs, rfl, .inl (.inl (R3.sub _ _ (s13 _ _ h1))), fun b hb => ?_⟩
  have F : Frm [] H3 Hf3 (upd H3 b (.lst (cutV vs i j))) (upd Hf3 b (.lst (cutV vs i j))) := Frm.new R3.sub hb
  exact k _ _ _ _ _ z3 (R3.grow F) (((s1.trans s2).trans s3).trans (F.sameF R3.sub)) (.lst' upd_same ((dvAll_cut (h2.mono s13) i j).mono (F.sameF R3.sub)))
/-- a module's constant -/
theorem pd_glob {x : Str} {v : V} {u : Value} {d : PyData} {p : Pos} (hg : Gl X x) (hm : X.mg x = some u) (r : RelV v u) (hd : ∀ H, Dv X.K H v d) (hdb : (x == ("__debug__" : Str)) = false := by decide) : PD X ca W (.Name x p) (tC v) (dC d) :=
  ⟨pe_glob hg hm r hdb, fun G σ H Hf l Q q r R k _ hd' => k _ _ _ _ _ hd' R (Same.refl _) (hd _)⟩
end

/-! ### a def's body keeps its contract -/
def start0 (N : List Str) (ds : List PyData) : Sl := ds.map (fun d => some (S.val d)) ++ List.replicate (N.length - ds.length) none
theorem feet_none (n : Nat) : feet (List.replicate n (none : Option S)) = [] := by
  induction n with
  | zero => rfl
  | succ n ih =>
    rw [List.replicate_succ]
    exact ih
theorem feet_vals (ds : List PyData) (r : Sl) : feet (ds.map (fun d => some (S.val d)) ++ r) = feet r := by
  induction ds with
  | nil => rfl
  | cons d ds ih => exact ih
theorem start0_slot {N : List Str} {ds : List PyData} {i : Nat} {s : S} (h : (start0 N ds)[i]? = some (some s)) : ∃ d, ds[i]? = some d ∧ s = .val d := by
  unfold start0 at h
  rw [List.getElem?_append] at h
  split at h
  · rename_i hl
    rw [List.getElem?_map] at h
    cases e : ds[i]? with
    | none => rw [e] at h; cases h
    | some d =>
      rw [e] at h
      refine ⟨d, rfl, ?_⟩
      have z : some (S.val d) = some s := by simpa using h
      exact (Option.some.inj z).symm
  · rw [List.getElem?_replicate] at h
    split at h
    · simp at h
    · cases h
theorem rep_start {K : PySem.W.Frag} {H Hf : Hp} {N : List Str} {vs : List V} {ds : List PyData} (s : Same Hf H) (q : DvAll K Hf vs ds) : Rep K ⟨[], H, Hf⟩ H Hf (L2.start N vs) (start0 N ds) := by
  have ft : feet (start0 N ds) = [] := by
    unfold start0
    rw [feet_vals, feet_none]
  refine ⟨by simp [L2.start, start0, q.1], fun i x h => ?_, by rw [ft]; exact List.nodup_nil, fun b hb => absurd (ft ▸ hb) (List.not_mem_nil), fun i p es h => ?_, Frm.refl s⟩
  · obtain ⟨d, h1, rfl⟩ := start0_slot h
    have hi : i < ds.length := (List.getElem?_eq_some_iff.mp h1).1
    have hi2 : i < vs.length := by rw [q.1]; exact hi
    refine ⟨vs[i], ?_, q.2 i _ d (List.getElem?_eq_getElem hi2) h1⟩
    unfold L2.start
    rw [List.getElem?_append, if_pos (by rw [List.length_map]; exact hi2), List.getElem?_map, List.getElem?_eq_getElem hi2]
    rfl
  · obtain ⟨d, _, z⟩ := start0_slot h
    exact nomatch z
def topE (q : Res → Prop) : DEnd := ⟨fun _ => q (.ok .none), fun d _ => q (.ok d), fun _ => False, fun _ => False, fun e _ => q (.er e)⟩
section
variable {P : Program} {w : World} {K : PySem.W.Frag} {mg : Str → Option Value} {base : Heap}
abbrev fnX (P : Program) (w : World) (K : PySem.W.Frag) (mg : Str → Option Value) (base : Heap) (N : List Str) (qual : Str) (st : Stmt) (f : Addr) (cdv : Value) (A : Around) (outer : List Env) (s : Shared) (H : Hp) (E : XK) : Cx := cxOf (L2.CX P w) P w K mg base N qual (defScope st) f cdv A outer s H E
abbrev fnW (E : XK) : WX := fun cls d _ H => E cls d H
theorem fn_ok {x qual : Str} {st : Stmt} {f : Addr} {fd : FuncData} {N ps : List Str} {k n : Nat} {ca : Er → Addr} {c : Ct} (F : Fun K x qual st f fd) (S : FnScope N ps (defScope st)) (hn : ps.length = n)
    (body : ∀ (cdv : Value) (A : Around) (outer : List Env) (s : Shared) (H : Hp) (E : XK), Room k (fnX P w K mg base N qual st f cdv A outer s H E).A → Takes (fnX P w K mg base N qual st f cdv A outer s H E) (fnW E) →
      PassesOwn (model P w) (fnX P w K mg base N qual st f cdv A outer s H E).A (fnX P w K mg base N qual st f cdv A outer s H E).env (fnX P w K mg base N qual st f cdv A outer s H E).xe → (fnX P w K mg base N qual st f cdv A outer s H E).A.units + 64 < cLine → (fnX P w K mg base N qual st f cdv A outer s H E).A.units + 65 < cLine →
      ∃ t d, PDB (fnX P w K mg base N qual st f cdv A outer s H E) ca (fnW E) (defBody st) t d ∧ ∀ ds q, ds.length = n → c ds q → d (topE q) (start0 N ds)) :
    FnOk P w K mg base (L2.CX P w) (k + 1) f fd ps (spD K ca c n) := by
  refine F.okX S (fun vs H Q E h => ?_) (fun cdv A outer s H vs Q E hr h => ?_)
  · obtain ⟨Hf, ds, q, h1, _, h2, _⟩ := h
    rw [h2.1, h1, hn]
  · obtain ⟨Hf, ds, q, h1, h2, h3, h4, h5, h6⟩ := h
    obtain ⟨t, d, hb, hd⟩ := body cdv A outer s H E hr (takes_of rfl rfl rfl rfl) (passes_of rfl) hr.units (by have := hr.un; show (A.deeper _).units + 65 < cLine; omega)
    refine ⟨t, hb.pe, ?_⟩
    refine hb.es ⟨[], H, Hf⟩ _ (topE q) _ H Hf _ (rep_start h2 h3) ⟨?_, ?_, ?_, ?_, ?_⟩ (hd ds q h1 h4)
    · exact fun σ' l' H' Hf' z R _ => h5 _ _ _ _ z R.frm .non
    · exact fun σ' l' v d H' Hf' z R _ dv => h5 _ _ _ _ z R.frm dv
    · exact fun σ' l' H' Hf' z R _ => z.elim
    · exact fun σ' l' H' Hf' z R _ => z.elim
    · exact fun e σ' l' H' Hf' z R => h6 _ _ _ z R.frm
end
end DL

namespace DL
open PySem PySem.Spec PyProof.Rows L2

def iaddD : PyData → PyData → Option PyData
  | .int a, .int b => some (.int (a + b))
  | _, _ => none
def ifdivD : PyData → PyData → Option PyData
  | .int a, .int b => if 0 < b ∧ b < 1073741824 then some (.int (a / b)) else none
  | _, _ => none
section
variable {K : PySem.W.Frag}
theorem od_iadd : OpD K (rI0 fun i j => .int (i + j)) iaddD := opd_flat fun x y dx dy z H Hf Q s hx hy e k => by
  unfold iaddD at e
  split at e
  · cases e
    obtain rfl := hx.int_inv
    obtain rfl := hy.int_inv
    exact ⟨_, _, rfl, rfl, k _ (.int _)⟩
  · cases e
theorem od_ifdiv : OpD K (rI CDiv fun i j => .int (i / j)) ifdivD := opd_flat fun x y dx dy z H Hf Q s hx hy e k => by
  unfold ifdivD at e
  split at e
  · split at e
    · rename_i hm
      cases e
      obtain rfl := hx.int_inv
      obtain rfl := hy.int_inv
      exact ⟨_, _, rfl, rfl, hm, k _ (.int _)⟩
    · cases e
  · cases e
end

/-! ### raise -/
def dRaise (e : Er) : DS := fun E l => E.rs e l
/-- what the written part says of an error's class -/
structure Xf (K : PySem.W.Frag) (mg : Str → Option Value) (x : Str) (C : Addr) : Prop where
  g : mg x = some (.ref C)
  ex : PySem.W.excIn K C [.type "ValueError", .type "Exception", .type "BaseException", .type "object"] "ValueError.__new__" = true
  kp : PySem.W.keepIn K (.ref C) = true
  sb : PySem.W.subIn K (.ref C) (.type "BaseException") = some true
  ty : PySem.W.typeIn K (.ref C) = some (.type "type")
theorem pds_raise {X : Cx} {ca : Er → Addr} {W : WX} {x m : Str} {j : Nat} {p p2 pos pos2 : Pos} {er : Er} (h : Xf X.K X.mg x (ca er)) (hc : X.calm = true) (tk : Takes X W) (hg : Gl X x) (hdb : (x == ("__debug__" : Str)) = false := by decide) :
    PDS X ca W (.Raise (some (.Call (.Name x p) [.Constant (.str m) j p2] [] pos)) none pos2) (fun _ σ H => W (.ref (ca er)) none σ H) (dRaise er) :=
  ⟨ps_raise hc tk (pmk_own PySem.F.excBase_ValueError h.ex h.g h.kp (raises_own h.sb h.ty) hg hdb), fun G D E σ H Hf l R m z => m.rs _ _ _ _ _ z R⟩

/-! ### a def by its name -/
structure Fd (P : Program) (w : World) (K : PySem.W.Frag) (mg : Str → Option Value) (base : Heap) (ca : Er → Addr) (x : Str) (c : Ct) (n k : Nat) : Prop where
  ex : ∃ (f : Addr) (fd : FuncData) (ps : List Str), FnOk P w K mg base (L2.CX P w) k f fd ps (spD K ca c n) ∧ mg x = some (.ref f) ∧ PySem.W.keepIn K (.ref f) = true ∧ Binds K fd ps []
section
variable {X : Cx} {ca : Er → Addr} {W : WX} {a b c e : Expr} {es : List Expr} {pos : Pos}
theorem pd_fn {P : Program} {w : World} {K : PySem.W.Frag} {mg : Str → Option Value} {base : Heap} {x : Str} {p : Pos} {k n : Nat} {c : Ct} {d : DA} {u : TA} (F : Fd P w K mg base ca x c n k) (hr : Room k X.A) (hg : Gl X x) (tk : Takes X W) (ha : PDA X ca W (e :: es) u d) (hl : (e :: es).length = n := by rfl)
    (hdb : (x == ("__debug__" : Str)) = false := by decide) (he : starEach (e :: es) X.env = (false, eval e X.env) :: starEach es X.env := by rfl) (hpl : (backTo pos (starEach es X.env)).any (·.1) = false := by rfl)
    (hP : X.prog = P := by rfl) (hw : X.w = w := by rfl) (hK : X.K = K := by rfl) (hM : X.mg = mg := by rfl) (hB : X.base = base := by rfl) :
    PD X ca W (.Call (.Name x p) (e :: es) [] pos) (tCallS (spD K ca c n) (WE W) u) (dCall c d) := by
  subst hP hw hK hM hB
  obtain ⟨f, fd, ps, h1, h2, h3, h4⟩ := F
  exact pd_call h1 hr hg h2 h3 h4 tk ha hl hdb he hpl
/-- a module's whole number -/
theorem pd_gint {x : Str} {i : Int} {p : Pos} (hg : Gl X x) (hm : ∃ t, X.mg x = some (.int i t)) (hdb : (x == ("__debug__" : Str)) = false := by decide) : PD X ca W (.Name x p) (tC (.int i)) (dC (.int i)) := by
  obtain ⟨t, hm⟩ := hm
  exact pd_glob hg hm ⟨t, rfl⟩ (fun _ => .int i) hdb
/-- a module's tuple of texts -/
theorem pd_gtup {x : Str} {a : Addr} {d : PyData} {p : Pos} (hg : Gl X x) (hm : X.mg x = some (.ref a)) (hd : ∀ H, Dv X.K H (.ref a) d) (hdb : (x == ("__debug__" : Str)) = false := by decide) : PD X ca W (.Name x p) (tC (.ref a)) (dC d) := pd_glob hg hm rfl hd hdb
end
section
variable {P : Program} {w : World} {K : PySem.W.Frag} {mg : Str → Option Value} {base : Heap} {ca : Er → Addr}
theorem Fd.mk' {x qual : Str} {st : Stmt} {f : Addr} {fd : FuncData} {ps : List Str} {c : Ct} {n k : Nat} (F : Fun K x qual st f fd) (g : mg x = some (.ref f)) (ok : FnOk P w K mg base (L2.CX P w) k f fd ps (spD K ca c n))
    (b : ∀ (kV doc pm : Value) (an : Option Addr) (cdv ct : Value) (us : List Value), us.length = ps.length → bindArgs (PySem.W.fnOf x qual (defArgs st) (defBody st) (defScope st) .none kV doc pm an cdv ct) ⟨us, []⟩ = pure (ps.zip us)) : Fd P w K mg base ca x c n k :=
  ⟨f, fd, ps, ok, g, F.kp, F.binds b⟩
end
end DL

namespace DL
open PySem PySem.Spec PyProof.Rows L2

/-! ### the readings over data, said for rewriting -/
theorem shaped_int (a : Int) : SeqAt.shaped (.int a) = true := by simp [SeqAt.shaped, PyData.canLay0, PyData.depth]
theorem shaped_bool (a : Bool) : SeqAt.shaped (.bool a) = true := by simp [SeqAt.shaped, PyData.canLay0, PyData.depth]
theorem shaped_none : SeqAt.shaped .none = true := by simp [SeqAt.shaped, PyData.canLay0, PyData.depth]
theorem eqv_int (a b : Int) : PyData.eqv (.int a) (.int b) = decide (a = b) := by
  simp [PyData.eqv]
  by_cases h : a = b <;> simp [h]
theorem eqv_bool (a b : Bool) : PyData.eqv (.bool a) (.bool b) = decide (a = b) := by
  cases a <;> cases b <;> simp [PyData.eqv]
theorem eqv_str (a b : Str) : PyData.eqv (.str a) (.str b) = decide (a = b) := by
  simp [PyData.eqv]
  by_cases h : a = b <;> simp [h]
theorem eqD_int (a b : Int) : eqD (.int a) (.int b) = some (decide (a = b)) := by simp [eqD, shaped_int, eqv_int]
theorem neD_int (a b : Int) : neD (.int a) (.int b) = some (!decide (a = b)) := by simp [neD, shaped_int, eqv_int]
theorem eqD_bool (a b : Bool) : eqD (.bool a) (.bool b) = some (decide (a = b)) := by simp [eqD, shaped_bool, eqv_bool]
theorem neD_bool (a b : Bool) : neD (.bool a) (.bool b) = some (!decide (a = b)) := by simp [neD, shaped_bool, eqv_bool]
/-- a fraction -/
abbrev fr (a b : Int) : PyData := .tuple [.int a, .int b]
theorem shaped_fr (a b : Int) : SeqAt.shaped (fr a b) = true := by simp [SeqAt.shaped, PyData.canLay0, PyData.canLayAll0, PyData.depth, PyData.depthAll]
theorem eqv_fr (a b c d : Int) : PyData.eqv (fr a b) (fr c d) = decide (a = c ∧ b = d) := by
  simp [PyData.eqv, PyData.eqvAll]
  by_cases h : a = c <;> by_cases g : b = d <;> simp [h, g]
theorem eqD_fr (a b c d : Int) : eqD (fr a b) (fr c d) = some (decide (a = c ∧ b = d)) := by simp [eqD, shaped_fr, eqv_fr]
theorem neD_fr (a b c d : Int) : neD (fr a b) (fr c d) = some (!decide (a = c ∧ b = d)) := by simp [neD, shaped_fr, eqv_fr]
theorem ix_fr0 (a b : PyData) : ixD (.tuple [a, b]) (.int 0) = some a := rfl
theorem ix_fr1 (a b : PyData) : ixD (.tuple [a, b]) (.int 1) = some b := rfl
def yInt : PyData → Bool
  | .bool _ => true
  | .int _ => true
  | _ => false
theorem kit_int_NoneType : kitB "NoneType" "int" = some false := by decide +kernel
theorem kit_int_bool : kitB "bool" "int" = some true := by decide +kernel
theorem kit_int_int : kitB "int" "int" = some true := by decide +kernel
theorem kit_int_str : kitB "str" "int" = some false := by decide +kernel
theorem kit_int_list : kitB "list" "int" = some false := by decide +kernel
theorem kit_int_tuple : kitB "tuple" "int" = some false := by decide +kernel
theorem kit_int_dict : kitB "dict" "int" = some false := by decide +kernel
theorem kit_int (d : PyData) : kitB (tyn d) "int" = some (yInt d) := by
  cases d
  · exact kit_int_NoneType
  · exact kit_int_bool
  · exact kit_int_int
  · exact kit_int_str
  · exact kit_int_list
  · exact kit_int_tuple
  · exact kit_int_dict
def yBool : PyData → Bool
  | .bool _ => true
  | _ => false
theorem kit_bool_NoneType : kitB "NoneType" "bool" = some false := by decide +kernel
theorem kit_bool_bool : kitB "bool" "bool" = some true := by decide +kernel
theorem kit_bool_int : kitB "int" "bool" = some false := by decide +kernel
theorem kit_bool_str : kitB "str" "bool" = some false := by decide +kernel
theorem kit_bool_list : kitB "list" "bool" = some false := by decide +kernel
theorem kit_bool_tuple : kitB "tuple" "bool" = some false := by decide +kernel
theorem kit_bool_dict : kitB "dict" "bool" = some false := by decide +kernel
theorem kit_bool (d : PyData) : kitB (tyn d) "bool" = some (yBool d) := by
  cases d
  · exact kit_bool_NoneType
  · exact kit_bool_bool
  · exact kit_bool_int
  · exact kit_bool_str
  · exact kit_bool_list
  · exact kit_bool_tuple
  · exact kit_bool_dict
def yStr : PyData → Bool
  | .str _ => true
  | _ => false
theorem kit_str_NoneType : kitB "NoneType" "str" = some false := by decide +kernel
theorem kit_str_bool : kitB "bool" "str" = some false := by decide +kernel
theorem kit_str_int : kitB "int" "str" = some false := by decide +kernel
theorem kit_str_str : kitB "str" "str" = some true := by decide +kernel
theorem kit_str_list : kitB "list" "str" = some false := by decide +kernel
theorem kit_str_tuple : kitB "tuple" "str" = some false := by decide +kernel
theorem kit_str_dict : kitB "dict" "str" = some false := by decide +kernel
theorem kit_str (d : PyData) : kitB (tyn d) "str" = some (yStr d) := by
  cases d
  · exact kit_str_NoneType
  · exact kit_str_bool
  · exact kit_str_int
  · exact kit_str_str
  · exact kit_str_list
  · exact kit_str_tuple
  · exact kit_str_dict
def yTup : PyData → Bool
  | .tuple _ => true
  | _ => false
theorem kit_tuple_NoneType : kitB "NoneType" "tuple" = some false := by decide +kernel
theorem kit_tuple_bool : kitB "bool" "tuple" = some false := by decide +kernel
theorem kit_tuple_int : kitB "int" "tuple" = some false := by decide +kernel
theorem kit_tuple_str : kitB "str" "tuple" = some false := by decide +kernel
theorem kit_tuple_list : kitB "list" "tuple" = some false := by decide +kernel
theorem kit_tuple_tuple : kitB "tuple" "tuple" = some true := by decide +kernel
theorem kit_tuple_dict : kitB "dict" "tuple" = some false := by decide +kernel
theorem kit_tuple (d : PyData) : kitB (tyn d) "tuple" = some (yTup d) := by
  cases d
  · exact kit_tuple_NoneType
  · exact kit_tuple_bool
  · exact kit_tuple_int
  · exact kit_tuple_str
  · exact kit_tuple_list
  · exact kit_tuple_tuple
  · exact kit_tuple_dict
/-! each operator at the shapes that occur -/
theorem ex_if {c : Prop} [Decidable c] (v : PyData) (q : PyData → Prop) : (∃ z, (if c then some v else none) = some z ∧ q z) ↔ c ∧ q v := by
  by_cases h : c
  · rw [if_pos h]
    exact ⟨fun ⟨z, e, k⟩ => ⟨h, by cases e; exact k⟩, fun k => ⟨v, rfl, k.2⟩⟩
  · rw [if_neg h]
    exact ⟨fun ⟨z, e, k⟩ => (by cases e), fun k => absurd k.1 h⟩
theorem addD_i (a b : Int) : addD (.int a) (.int b) = some (.int (a + b)) := rfl
theorem iaddD_i (a b : Int) : iaddD (.int a) (.int b) = some (.int (a + b)) := rfl
theorem subD_i (a b : Int) : subD (.int a) (.int b) = some (.int (a - b)) := rfl
theorem negD_i (a : Int) : negD (.int a) = some (.int (-a)) := rfl
theorem mulD_i {a b : Int} (h : mulOk a b = true) : mulD (.int a) (.int b) = some (.int (a * b)) := if_pos h
theorem mulD_e (a b : Int) (q : PyData → Prop) : (∃ z, mulD (.int a) (.int b) = some z ∧ q z) ↔ mulOk a b = true ∧ q (.int (a * b)) := ex_if _ q
theorem fdivD_e (a b : Int) (q : PyData → Prop) : (∃ z, fdivD (.int a) (.int b) = some z ∧ q z) ↔ (0 < b ∧ b < 2 ^ 64) ∧ q (.int (a / b)) := ex_if _ q
theorem ifdivD_e (a b : Int) (q : PyData → Prop) : (∃ z, ifdivD (.int a) (.int b) = some z ∧ q z) ↔ (0 < b ∧ b < 1073741824) ∧ q (.int (a / b)) := ex_if _ q
theorem modD_e (a b : Int) (q : PyData → Prop) : (∃ z, modD (.int a) (.int b) = some z ∧ q z) ↔ 0 < b ∧ q (.int (a % b)) := ex_if _ q
theorem ltD_i (a b : Int) : ltD (.int a) (.int b) = some (decide (a < b)) := rfl
theorem leD_i (a b : Int) : leD (.int a) (.int b) = some (decide (a ≤ b)) := rfl
theorem gtD_i (a b : Int) : gtD (.int a) (.int b) = some (decide (b < a)) := rfl
theorem geD_i (a b : Int) : geD (.int a) (.int b) = some (decide (b ≤ a)) := rfl
theorem absD_i (a : Int) : absD [.int a] = some (.int (a.natAbs : Int)) := rfl
theorem maxD_i (a b : Int) : maxD [.int a, .int b] = some (.int (max a b)) := rfl
theorem lenD_t (xs : List PyData) : lenD [.tuple xs] = some (.int (xs.length : Int)) := rfl
theorem lenD_l (xs : List PyData) : lenD [.list xs] = some (.int (xs.length : Int)) := rfl
theorem isNd_n (a : PyData) : isNd a .none = some (isNonD a) := rfl
theorem notNd_n (a : PyData) : notNd a .none = some (!isNonD a) := rfl
theorem isBd_b (a b : Bool) : isBd (.bool a) (.bool b) = some (decide (a = b)) := rfl
theorem notBd_b (a b : Bool) : notBd (.bool a) (.bool b) = some (!decide (a = b)) := rfl
theorem isNonD_i (a : Int) : isNonD (.int a) = false := rfl
theorem isNonD_n : isNonD .none = true := rfl
theorem isNonD_t (a : List PyData) : isNonD (.tuple a) = false := rfl
theorem isNonD_l (a : List PyData) : isNonD (.list a) = false := rfl
/-- a statement, then the rest: the rest is a letter meanwhile -/
theorem seq_mk {t u : DS} {E : DEnd} {l : Sl} (h : ∀ k : Sl → Prop, (∀ l', u E l' → k l') → t { E with nx := k } l) : dSeq t u E l := h _ fun _ z => z
/-- a for loop by what holds ahead of each turn -/
theorem forW_inv {g : DG} {t : DS} {E : DEnd} {xs : List PyData} (I : Nat → Sl → Prop)
    (hs : ∀ (i : Nat) (x : PyData) (l : Sl) (k : Sl → Prop), xs[i]? = some x → I i l → (∀ l', I (i + 1) l' → k l') → g x l fun l2 => t { E with nx := k, ct := k, bk := E.nx } l2)
    (hd : ∀ l, I xs.length l → E.nx l) (l : Sl) (h : I 0 l) : forW g t E xs l := by
  have key : ∀ (m i : Nat) (l : Sl), xs.length - i = m → i ≤ xs.length → I i l → forW g t E (xs.drop i) l := by
    intro m
    induction m with
    | zero =>
      intro i l hm hi h
      have e : i = xs.length := by omega
      subst e
      rw [List.drop_length]
      exact hd l h
    | succ m ih =>
      intro i l hm hi h
      have hlt : i < xs.length := by omega
      rw [List.drop_eq_getElem_cons hlt]
      exact hs i _ l _ (List.getElem?_eq_getElem hlt) h fun l' h' => ih (i + 1) l' (by omega) hlt h'
  simpa using key xs.length 0 l (by omega) (Nat.zero_le _) h
theorem forW_rng {g : DG} {t : DS} {E : DEnd} {lo : Int} {n : Nat} (I : Nat → Sl → Prop)
    (hs : ∀ (i : Nat) (l : Sl) (k : Sl → Prop), i < n → I i l → (∀ l', I (i + 1) l' → k l') → g (.int (lo + i)) l fun l2 => t { E with nx := k, ct := k, bk := E.nx } l2)
    (hd : ∀ l, I n l → E.nx l) (l : Sl) (h : I 0 l) : forW g t E (rngD lo n) l :=
  forW_inv I (fun i x l k hx h q => by
    obtain ⟨hi, rfl⟩ := rngD_get hx
    exact hs i l k hi h q) (fun l h => hd l (by rwa [rngD_len] at h)) l h
/-- a while loop by what holds ahead of each turn and a number that falls -/
theorem whW_inv {c : DT} {t : DS} {E : DEnd} (I : Nat → Sl → Prop)
    (hs : ∀ (n : Nat) (l : Sl) (k : Sl → Prop), I n l → (∀ l' m, m < n → I m l' → k l') → c l (fun b l' => if b = true then t { E with nx := k, ct := k, bk := E.nx } l' else E.nx l') E.rs) (n : Nat) (l : Sl) (h : I n l) : dWhile c t E l := by
  have key : ∀ (N n : Nat) (l : Sl), n ≤ N → I n l → whW c t E (N + 1) l := by
    intro N
    induction N with
    | zero =>
      intro n l hn h
      exact hs n l _ h fun l' m hm _ => absurd hm (by omega)
    | succ N ih =>
      intro n l hn h
      exact hs n l _ h fun l' m hm h' => ih m l' (by omega) h'
  exact ⟨n + 1, key n n l (Nat.le_refl _) h⟩
theorem line_nil : ([] : List PyData).length ≤ sizeLine := Nat.zero_le _
theorem line1 (a : PyData) : [a].length ≤ sizeLine := by rw [sizeLine_eq]; exact (by decide : 1 ≤ 16777216)
theorem line2 (a b : PyData) : [a, b].length ≤ sizeLine := by rw [sizeLine_eq]; exact (by decide : 2 ≤ 16777216)
theorem line3 (a b c : PyData) : [a, b, c].length ≤ sizeLine := by rw [sizeLine_eq]; exact (by decide : 3 ≤ 16777216)
theorem line4 (a b c d : PyData) : [a, b, c, d].length ≤ sizeLine := by rw [sizeLine_eq]; exact (by decide : 4 ≤ 16777216)
theorem mulOk_l {a b : Int} (h1 : -(2 ^ 64) < a) (h2 : a < 2 ^ 64) : mulOk a b = true := by simp [mulOk]; omega
theorem mulOk_r {a b : Int} (h1 : -(2 ^ 64) < b) (h2 : b < 2 ^ 64) : mulOk a b = true := by simp [mulOk]; omega
end DL

/-! the package's functions as plain Lean -/
namespace SD
open PySem DL

inductive Ru where
  | down | up | zero | nup | nzero | naway | neven
  deriving DecidableEq
def ruS : Ru → Str
  | .down => "down"
  | .up => "up"
  | .zero => "zero"
  | .nup => "near-up"
  | .nzero => "near-zero"
  | .naway => "near-away"
  | .neven => "near-even"
def ruAll : List Ru := [.down, .up, .zero, .nup, .nzero, .naway, .neven]
theorem ruAll_mem (r : Ru) : r ∈ ruAll := by cases r <;> decide
/-- the rules as data -/
def rulesD : List PyData := ruAll.map fun r => .str (ruS r)
theorem ru_shaped (r : Ru) : SeqAt.shaped (.str (ruS r)) = true := by cases r <;> decide +kernel
theorem ruS_inj : ∀ r s : Ru, ruS r = ruS s → r = s := by
  intro r s
  cases r <;> cases s <;> first | (intro _; rfl) | (intro h; exact absurd h (by decide +kernel))
theorem eqD_ru (r s : Ru) : eqD (.str (ruS r)) (.str (ruS s)) = some (decide (r = s)) := by
  unfold eqD
  rw [if_pos ⟨ru_shaped r, ru_shaped s⟩, eqv_str]
  by_cases h : r = s
  · subst h
    simp
  · have h2 : ¬ ruS r = ruS s := fun z => h (ruS_inj r s z)
    simp [h, h2]
theorem eqD_down (r : Ru) : eqD (.str (ruS r)) (.str "down") = some (decide (r = .down)) := eqD_ru r .down
theorem eqD_up (r : Ru) : eqD (.str (ruS r)) (.str "up") = some (decide (r = .up)) := eqD_ru r .up
theorem eqD_zero (r : Ru) : eqD (.str (ruS r)) (.str "zero") = some (decide (r = .zero)) := eqD_ru r .zero
theorem eqD_nup (r : Ru) : eqD (.str (ruS r)) (.str "near-up") = some (decide (r = .nup)) := eqD_ru r .nup
theorem eqD_nzero (r : Ru) : eqD (.str (ruS r)) (.str "near-zero") = some (decide (r = .nzero)) := eqD_ru r .nzero
theorem eqD_naway (r : Ru) : eqD (.str (ruS r)) (.str "near-away") = some (decide (r = .naway)) := eqD_ru r .naway
theorem eqD_neven (r : Ru) : eqD (.str (ruS r)) (.str "near-even") = some (decide (r = .neven)) := eqD_ru r .neven

theorem strs_rules : strsOf rulesD = some (ruAll.map ruS) := rfl
theorem notInRules (x : Str) : notInTd (.str x) (.tuple rulesD) = some (!decide (x ∈ ruAll.map ruS)) := by
  show (strsOf rulesD).map (fun ys => !decide (x ∈ ys)) = _
  rw [strs_rules]
  rfl
/-! ### whole numbers, fractions -/
def isIntB (v : PyData) (lo hi : Int) : Bool := match v with
  | .int i => decide (lo ≤ i ∧ i ≤ hi)
  | _ => false
def isFracB (v : PyData) : Bool := match v with
  | .tuple [.int p, .int q] => decide (1 ≤ q ∧ q ≤ 60 ∧ -100 * q ≤ p ∧ p ≤ 100 * q ∧ Int.gcd p q = 1)
  | _ => false
theorem isFracB_no {v : PyData} (h : ∀ p n : Int, v ≠ .tuple [.int p, .int n]) : isFracB v = false := by
  unfold isFracB
  split
  · exact absurd rfl (h _ _)
  · rfl
theorem isFracB_inv {v : PyData} (h : isFracB v = true) : ∃ p n : Int, v = fr p n ∧ 1 ≤ n ∧ n ≤ 60 ∧ -100 * n ≤ p ∧ p ≤ 100 * n ∧ Int.gcd p n = 1 := by
  unfold isFracB at h
  split at h
  · exact ⟨_, _, rfl, of_decide_eq_true h⟩
  · cases h
theorem isIntB_inv {v : PyData} {lo hi : Int} (h : isIntB v lo hi = true) : ∃ i : Int, v = .int i ∧ lo ≤ i ∧ i ≤ hi := by
  unfold isIntB at h
  split at h
  · exact ⟨_, rfl, of_decide_eq_true h⟩
  · cases h
def isRuleB (v : PyData) : Bool := match v with
  | .str x => decide (x ∈ ruAll.map ruS)
  | _ => false
theorem isRuleB_inv {v : PyData} (h : isRuleB v = true) : ∃ r : Ru, v = .str (ruS r) := by
  unfold isRuleB at h
  split at h
  · obtain ⟨r, _, e⟩ := List.mem_map.mp (of_decide_eq_true h)
    exact ⟨r, by rw [e]⟩
  · cases h
theorem isRuleB_ru (r : Ru) : isRuleB (.str (ruS r)) = true := by
  unfold isRuleB
  exact decide_eq_true (List.mem_map.mpr ⟨r, ruAll_mem r, rfl⟩)
def powT (d : Int) : Int := 10 ^ d.toNat
theorem powT_pos (d : Int) : 0 < powT d := by unfold powT; exact Int.pow_pos (by decide)
theorem powT_le {d : Int} (h : d ≤ 6) : powT d ≤ 1000000 := by
  unfold powT
  have h1 : d.toNat = 0 ∨ d.toNat = 1 ∨ d.toNat = 2 ∨ d.toNat = 3 ∨ d.toNat = 4 ∨ d.toNat = 5 ∨ d.toNat = 6 := by omega
  rcases h1 with h | h | h | h | h | h | h <;> rw [h] <;> decide
def gcdI (a b : Int) : Int := (Int.gcd a b : Int)
theorem gcdI_pos {a b : Int} (h : 0 < b) : 0 < gcdI a b := by
  unfold gcdI
  have : 0 < Int.gcd a b := Int.gcd_pos_of_ne_zero_right a (by omega)
  omega
theorem gcdI_le {a b : Int} (h : 0 < b) : gcdI a b ≤ b := by
  unfold gcdI
  exact Int.le_of_dvd h (Int.gcd_dvd_right ..)
def lowN (a b : Int) : Int := a / gcdI a b
def lowU (a b : Int) : Int := b / gcdI a b
/-- lowest -/
def lowF (a b : Int) : PyData := fr (lowN a b) (lowU a b)
theorem lowU_pos {a b : Int} (h : 0 < b) : 0 < lowU a b := by
  unfold lowU
  have h1 := gcdI_pos (a := a) h
  have h2 := gcdI_le (a := a) h
  exact Int.ediv_pos_of_pos_of_dvd h (by omega) (Int.gcd_dvd_right ..)
theorem lowU_le {a b : Int} (h : 0 < b) : lowU a b ≤ b := by
  unfold lowU
  exact Int.ediv_le_self _ (by omega)
/-- units_of -/
def unitsF (p q d : Int) (r : Ru) : Int :=
  if p * powT d % q = 0 ∨ r = .down then p * powT d / q
  else if r = .up then p * powT d / q + 1
  else if r = .zero then (if 0 < p * powT d then p * powT d / q else p * powT d / q + 1)
  else if ¬ 2 * (p * powT d % q) = q then (if 2 * (p * powT d % q) < q then p * powT d / q else p * powT d / q + 1)
  else if r = .nup then p * powT d / q + 1
  else if r = .nzero then (if 0 < p * powT d then p * powT d / q else p * powT d / q + 1)
  else if r = .naway then (if 0 < p * powT d then p * powT d / q + 1 else p * powT d / q)
  else (if p * powT d / q % 2 = 0 then p * powT d / q else p * powT d / q + 1)
/-- one check ahead of the rest -/
def chk (b : Bool) (e : Er) (q : Res → Prop) (r : Prop) : Prop := if b = true then r else q (.er e)
theorem chk_t {e : Er} {q : Res → Prop} {r : Prop} : chk true e q r ↔ r := by simp [chk]
theorem chk_f {e : Er} {q : Res → Prop} {r : Prop} : chk false e q r ↔ q (.er e) := by simp [chk]
/-- minus -/
def minusF (a b c d : Int) : PyData := lowF (a * d - c * b) (b * d)
/-- the units as a fraction less the fraction itself -/
def errF (p n k : Int) (r : Ru) : PyData := minusF (lowN (unitsF p n k r) (powT k)) (lowU (unitsF p n k r) (powT k)) p n
def errN (p n k : Int) (r : Ru) : Int := lowN (lowN (unitsF p n k r) (powT k) * n - p * lowU (unitsF p n k r) (powT k)) (lowU (unitsF p n k r) (powT k) * n)
def errU (p n k : Int) (r : Ru) : Int := lowU (lowN (unitsF p n k r) (powT k) * n - p * lowU (unitsF p n k r) (powT k)) (lowU (unitsF p n k r) (powT k) * n)
theorem errF_eq (p n k : Int) (r : Ru) : errF p n k r = fr (errN p n k r) (errU p n k r) := rfl
/-- the first of i, i + 1, .. (m of them) at which f holds -/
def fstK (f : Nat → Bool) : Nat → Nat → Option Nat
  | _, 0 => none
  | i, m + 1 => if f i = true then some i else fstK f (i + 1) m
def optI : Option Nat → PyData
  | some k => .int (k : Int)
  | none => .none
def ldC (p n c d : Int) (k : Nat) : Bool := decide (((errN p n k .neven).natAbs : Int) * d ≤ c * errU p n k .neven)
/-- least_digits_for -/
def ldF (p n c d : Int) : Option Nat := fstK (ldC p n c d) 0 7
theorem lowU_lt {a b : Int} (h : 0 < b) (h2 : b < 4294967296) : 0 < lowU a b ∧ lowU a b < 4294967296 := by
  have h1 := lowU_pos (a := a) h
  have h3 := lowU_le (a := a) h
  omega
theorem powT_lt {d : Int} (h : d ≤ 6) : 0 < powT d ∧ powT d < 4294967296 := by
  have h1 := powT_pos d
  have h2 := powT_le h
  omega
theorem gcdI_dvd_l (a b : Int) : gcdI a b ∣ a := Int.gcd_dvd_left ..
theorem gcdI_dvd_r (a b : Int) : gcdI a b ∣ b := Int.gcd_dvd_right ..
theorem lowN_mul {a b : Int} (h : 0 < b) : lowN a b * gcdI a b = a := Int.ediv_mul_cancel (gcdI_dvd_l a b)
theorem lowU_mul {a b : Int} (h : 0 < b) : lowU a b * gcdI a b = b := Int.ediv_mul_cancel (gcdI_dvd_r a b)
theorem low_coprime {a b : Int} (h : 0 < b) : Int.gcd (lowN a b) (lowU a b) = 1 := by
  have hg : 0 < Int.gcd a b := Int.gcd_pos_of_ne_zero_right a (by omega)
  exact Int.gcd_ediv_gcd_ediv_gcd hg
theorem low_frac {a u : Int} (h1 : 1 ≤ u) (h2 : u ≤ 60) (h3 : -100 * u ≤ a) (h4 : a ≤ 100 * u) : isFracB (lowF a u) = true := by
  have hu : 0 < u := by omega
  have g := gcdI_pos (a := a) hu
  have e1 := lowN_mul (a := a) hu
  have e2 := lowU_mul (a := a) hu
  have p1 := lowU_pos (a := a) hu
  have p2 := lowU_le (a := a) hu
  have c := low_coprime (a := a) hu
  show isFracB (.tuple [.int (lowN a u), .int (lowU a u)]) = true
  unfold isFracB
  refine decide_eq_true ⟨by omega, by omega, ?_, ?_, c⟩
  · refine Int.le_of_mul_le_mul_right (a := gcdI a u) ?_ g
    rw [Int.mul_assoc, e1, e2]
    exact h3
  · refine Int.le_of_mul_le_mul_right (a := gcdI a u) ?_ g
    rw [Int.mul_assoc, e1, e2]
    exact h4
theorem lowF_def (a b : Int) : lowF a b = fr (lowN a b) (lowU a b) := rfl
end SD

namespace DL
open PySem PySem.Spec PyProof.Rows L2

/-! ### defs whose first argument is the draws -/
def spW (K : PySem.W.Frag) (ca : Er → Addr) (c : Ct) (n : Nat) : Sp := fun vs H Q E => ∃ (a b : Addr) (vr : List V) (Hf : Hp) (ds : List PyData) (q : Res → Prop), vs = .ref a :: vr ∧ ds.length = n ∧ Same Hf H ∧ (Hf a = none ∧ Hf b = none ∧ a ≠ b) ∧ DrwAt H a b ∧ DvAll K Hf vr ds ∧ c ds q ∧
  (∀ d v H' Hf', q (.ok d) → Frm [a, b] H Hf H' Hf' → DrwAt H' a b → Dv K Hf' v d → Q v H') ∧ (∀ e H' Hf', q (.er e) → Frm [a, b] H Hf H' Hf' → DrwAt H' a b → E (.ref (ca e)) none H')
def dCallW (i : Nat) (c : Ct) (d : DA) : DE := fun l Q R => ∃ a b, l[i]? = some (some (.drw a b)) ∧ d l (fun ds l1 => l1[i]? = some (some (.drw a b)) ∧ c ds fun r => match r with | .ok x => Q x l1 | .er e => R e l1) R
structure FdW (P : Program) (w : World) (K : PySem.W.Frag) (mg : Str → Option Value) (base : Heap) (ca : Er → Addr) (x : Str) (c : Ct) (n k : Nat) : Prop where
  ex : ∃ (f : Addr) (fd : FuncData) (ps : List Str), FnOk P w K mg base (L2.CX P w) k f fd ps (spW K ca c n) ∧ mg x = some (.ref f) ∧ PySem.W.keepIn K (.ref f) = true ∧ Binds K fd ps []
section
variable {X : Cx} {ca : Er → Addr} {W : WX} {a b c e o : Expr} {es : List Expr} {pos : Pos}
theorem drw_back {K : PySem.W.Frag} {G : Gm} {H Hf H' Hf' : Hp} {σ : L2.St} {l : Sl} {i : Nat} {a b : Addr} (R : Rep K G H Hf σ l) (hi : l[i]? = some (some (.drw a b))) (F : Frm [a, b] H Hf H' Hf') (hd : DrwAt H' a b) : Rep K G H' Hf' σ l := by
  have fa := R.free a (mem_feet hi (by simp [foot]))
  have fb := R.free b (mem_feet hi (by simp [foot]))
  refine R.growEx F (fun x hx => ?_) fun j s v hj hv hs => ?_
  · have e : x = a ∨ x = b := by simpa using hx
    rcases e with e | e
    · rw [e]; exact fa.2
    · rw [e]; exact fb.2
  · by_cases e : j = i
    · subst e
      rw [hi] at hj
      have e2 : S.drw a b = s := by simpa using hj
      subst e2
      exact .inr ⟨hs.1, hd⟩
    · refine .inl fun x hx z => ?_
      have z : x = a ∨ x = b := by simpa using z
      rcases z with z | z
      · exact feet_ne R.nd hj hi e hx (by simp [foot]) z
      · exact feet_ne R.nd hj hi e hx (by simp [foot]) z
theorem drw_ne {K : PySem.W.Frag} {G : Gm} {H Hf : Hp} {σ : L2.St} {l : Sl} {i : Nat} {a b : Addr} (R : Rep K G H Hf σ l) (hi : l[i]? = some (some (.drw a b))) : a ≠ b := by
  have nd := R.nd
  intro e
  subst e
  have sub : (foot (some (S.drw a a))).Sublist (feet l) := by
    have : ∀ {l : Sl} {i : Nat}, l[i]? = some (some (S.drw a a)) → (foot (some (S.drw a a))).Sublist (feet l) := by
      intro l
      induction l with
      | nil =>
        intro i h
        simp at h
      | cons x r ih =>
        intro i h
        cases i with
        | zero =>
          have e : x = some (S.drw a a) := by simpa using h
          subst e
          exact List.sublist_append_left _ _
        | succ i => exact (ih (by simpa using h)).trans (List.sublist_append_right _ _)
    exact this hi
  have := nd.sublist sub
  simp [foot] at this
theorem pd_fnW {P : Program} {w : World} {K : PySem.W.Frag} {mg : Str → Option Value} {base : Heap} {x : Str} {p : Pos} {k n i : Nat} {c : Ct} {d : DA} {u : TA} (F : FdW P w K mg base ca x c n k) (hr : Room k X.A) (hg : Gl X x) (tk : Takes X W) (ho : PE X o (tVar i)) (ha : PDA X ca W es u d) (hl : es.length = n := by rfl)
    (hdb : (x == ("__debug__" : Str)) = false := by decide) (he : starEach (o :: es) X.env = (false, eval o X.env) :: starEach es X.env := by rfl) (hpl : (backTo pos (starEach es X.env)).any (·.1) = false := by rfl)
    (hP : X.prog = P := by rfl) (hw : X.w = w := by rfl) (hK : X.K = K := by rfl) (hM : X.mg = mg := by rfl) (hB : X.base = base := by rfl) :
    PD X ca W (.Call (.Name x p) (o :: es) [] pos) (tCallS (spW K ca c n) (WE W) (tCons (tVar i) u)) (dCallW i c d) := by
  subst hP hw hK hM hB
  obtain ⟨f, fd, ps, h1, h2, h3, h4⟩ := F
  refine ⟨pe_callS (E := WE W) h1 hr hg h2 h3 h4 (fun σ => passAt tk σ) (pa_cons ho ha.pe he) hdb he hpl, fun G σ H Hf l Q q r R k kr z => ?_⟩
  obtain ⟨a, b, hi, z⟩ := z
  obtain ⟨v, e1, e2, _⟩ := R.slot i _ hi
  subst e2
  refine ⟨_, e1, ha.es G σ H Hf l _ _ r R (fun xs l1 vs H1 Hf1 z1 hn R1 s1 d1 => ?_) kr z⟩
  obtain ⟨hi1, z1⟩ := z1
  obtain ⟨v, _, _, hd⟩ := R1.slot i _ hi1
  have fa := R1.free a (mem_feet hi1 (by simp [foot]))
  have fb := R1.free b (mem_feet hi1 (by simp [foot]))
  refine ⟨a, b, vs, Hf1, xs, _, rfl, hn.trans hl, R1.sub, ⟨fa.1, fb.1, drw_ne R1 hi1⟩, hd, d1, z1, fun d v H' Hf' q' F' hd' dv => ?_, fun e H' Hf' q' F' hd' => ?_⟩
  · exact k _ _ _ _ _ q' (drw_back R1 hi1 F' hd') (s1.trans (F'.sameF R1.sub)) dv
  · exact kr _ _ _ _ q' (drw_back R1 hi1 F' hd')
end

def startW (N : List Str) (a b : Addr) (ds : List PyData) : Sl := some (.drw a b) :: (ds.map (fun d => some (S.val d)) ++ List.replicate (N.length - (ds.length + 1)) none)
def topW (a b : Addr) (q : Res → Prop) : DEnd := ⟨fun l => l[0]? = some (some (.drw a b)) ∧ q (.ok .none), fun d l => l[0]? = some (some (.drw a b)) ∧ q (.ok d), fun _ => False, fun _ => False, fun e l => l[0]? = some (some (.drw a b)) ∧ q (.er e)⟩
theorem rep_startW {K : PySem.W.Frag} {H Hf : Hp} {N : List Str} {a b : Addr} {vs : List V} {ds : List PyData} (s : Same Hf H) (ha : Hf a = none ∧ Hf b = none ∧ a ≠ b) (hd : DrwAt H a b) (q : DvAll K Hf vs ds) : Rep K ⟨[a, b], H, Hf⟩ H Hf (L2.start N (.ref a :: vs)) (startW N a b ds) := by
  have ft : feet (startW N a b ds) = [a, b] := by
    show [a, b] ++ feet (ds.map (fun d => some (S.val d)) ++ List.replicate (N.length - (ds.length + 1)) none) = [a, b]
    rw [feet_vals, feet_none]
    rfl
  have slot : ∀ (i : Nat) (x : S), (startW N a b ds)[i]? = some (some x) → (i = 0 ∧ x = .drw a b) ∨ ∃ j d, i = j + 1 ∧ ds[j]? = some d ∧ x = .val d := by
    intro i x h
    cases i with
    | zero =>
      have e : S.drw a b = x := by simpa [startW] using h
      exact .inl ⟨rfl, e.symm⟩
    | succ j =>
      refine .inr ?_
      have h' : (ds.map (fun d => some (S.val d)) ++ List.replicate (N.length - (ds.length + 1)) none)[j]? = some (some x) := by simpa [startW] using h
      rw [List.getElem?_append] at h'
      split at h'
      · rw [List.getElem?_map] at h'
        cases e : ds[j]? with
        | none => rw [e] at h'; cases h'
        | some d =>
          rw [e] at h'
          have z : S.val d = x := by simpa using h'
          exact ⟨j, d, rfl, e, z.symm⟩
      · rw [List.getElem?_replicate] at h'
        split at h'
        · simp at h'
        · cases h'
  refine ⟨by simp [L2.start, startW, q.1], fun i x h => ?_, by rw [ft]; simp [ha.2.2], fun c hc => ?_, fun i p es h => ?_, Frm.refl s⟩
  · rcases slot i x h with ⟨rfl, rfl⟩ | ⟨j, d, rfl, h1, rfl⟩
    · exact ⟨.ref a, rfl, rfl, hd⟩
    · have hi : j < ds.length := (List.getElem?_eq_some_iff.mp h1).1
      have hi2 : j < vs.length := by rw [q.1]; exact hi
      refine ⟨vs[j], ?_, q.2 j _ d (List.getElem?_eq_getElem hi2) h1⟩
      unfold L2.start
      rw [List.getElem?_append, if_pos (by simp; exact hi2), List.getElem?_map]
      show ((V.ref a :: vs)[j + 1]?).map some = _
      rw [List.getElem?_cons_succ, List.getElem?_eq_getElem hi2]
      rfl
  · rw [ft] at hc
    have e : c = a ∨ c = b := by simpa using hc
    rcases e with e | e
    · rw [e]; exact ⟨ha.1, .inl (by simp)⟩
    · rw [e]; exact ⟨ha.2.1, .inl (by simp)⟩
  · rcases slot i _ h with ⟨_, z⟩ | ⟨_, _, _, _, z⟩
    · exact nomatch z
    · exact nomatch z
section
variable {P : Program} {w : World} {K : PySem.W.Frag} {mg : Str → Option Value} {base : Heap}
theorem fn_okW {x qual : Str} {st : Stmt} {f : Addr} {fd : FuncData} {N ps : List Str} {k n : Nat} {ca : Er → Addr} {c : Ct} (F : Fun K x qual st f fd) (S : FnScope N ps (defScope st)) (hn : ps.length = n + 1)
    (body : ∀ (cdv : Value) (A : Around) (outer : List Env) (s : Shared) (H : Hp) (E : XK), Room k (fnX P w K mg base N qual st f cdv A outer s H E).A → Takes (fnX P w K mg base N qual st f cdv A outer s H E) (fnW E) →
      PassesOwn (model P w) (fnX P w K mg base N qual st f cdv A outer s H E).A (fnX P w K mg base N qual st f cdv A outer s H E).env (fnX P w K mg base N qual st f cdv A outer s H E).xe → (fnX P w K mg base N qual st f cdv A outer s H E).A.units + 64 < cLine → (fnX P w K mg base N qual st f cdv A outer s H E).A.units + 65 < cLine →
      ∃ t d, PDB (fnX P w K mg base N qual st f cdv A outer s H E) ca (fnW E) (defBody st) t d ∧ ∀ ds q a b, ds.length = n → c ds q → d (topW a b q) (startW N a b ds)) :
    FnOk P w K mg base (L2.CX P w) (k + 1) f fd ps (spW K ca c n) := by
  refine F.okX S (fun vs H Q E h => ?_) (fun cdv A outer s H vs Q E hr h => ?_)
  · obtain ⟨a, b, vr, Hf, ds, q, rfl, h1, _, _, _, h2, _⟩ := h
    rw [List.length_cons, h2.1, h1, hn]
  · obtain ⟨a, b, vr, Hf, ds, q, rfl, h1, h2, ha, hd0, h3, h4, h5, h6⟩ := h
    obtain ⟨t, d, hb, hd⟩ := body cdv A outer s H E hr (takes_of rfl rfl rfl rfl) (passes_of rfl) hr.units (by have := hr.un; show (A.deeper _).units + 65 < cLine; omega)
    refine ⟨t, hb.pe, ?_⟩
    have back : ∀ σ' l' H' Hf', l'[0]? = some (some (DL.S.drw a b)) → Rep K ⟨[a, b], H, Hf⟩ H' Hf' σ' l' → DrwAt H' a b := fun σ' l' H' Hf' e R => by
      obtain ⟨v, _, _, z⟩ := R.slot 0 _ e
      exact z
    refine hb.es ⟨[a, b], H, Hf⟩ _ (topW a b q) _ H Hf _ (rep_startW h2 ha hd0 h3) ⟨?_, ?_, ?_, ?_, ?_⟩ (hd ds q a b h1 h4)
    · exact fun σ' l' H' Hf' z R _ => h5 _ _ _ _ z.2 R.frm (back _ _ _ _ z.1 R) .non
    · exact fun σ' l' v d H' Hf' z R _ dv => h5 _ _ _ _ z.2 R.frm (back _ _ _ _ z.1 R) dv
    · exact fun σ' l' H' Hf' z R _ => z.elim
    · exact fun σ' l' H' Hf' z R _ => z.elim
    · exact fun e σ' l' H' Hf' z R => h6 _ _ _ z.2 R.frm (back _ _ _ _ z.1 R)
theorem FdW.mk' {ca : Er → Addr} {x qual : Str} {st : Stmt} {f : Addr} {fd : FuncData} {ps : List Str} {c : Ct} {n k : Nat} (F : Fun K x qual st f fd) (g : mg x = some (.ref f)) (ok : FnOk P w K mg base (L2.CX P w) k f fd ps (spW K ca c n))
    (b : ∀ (kV doc pm : Value) (an : Option Addr) (cdv ct : Value) (us : List Value), us.length = ps.length → bindArgs (PySem.W.fnOf x qual (defArgs st) (defBody st) (defScope st) .none kV doc pm an cdv ct) ⟨us, []⟩ = pure (ps.zip us)) : FdW P w K mg base ca x c n k :=
  ⟨f, fd, ps, ok, g, F.kp, F.binds b⟩
end

/-! ### the law: its script, its draws -/
def spS (K : PySem.W.Frag) : Sp := fun vs H Q _ => ∃ (a : Addr) (ns : List Int), vs = [.ref a] ∧ SqL K H a (ns.map V.int) ∧ ns.length ≤ 63 ∧ ∀ (p b : Addr) (H' : Hp), Same H H' → H p = none → H b = none → p ≠ b → DrwAt H' p b → Q (.ref p) H'
structure FdS (P : Program) (w : World) (K : PySem.W.Frag) (mg : Str → Option Value) (base : Heap) (x : Str) (k : Nat) : Prop where
  ex : ∃ (f : Addr) (fd : FuncData) (ps : List Str), FnOk P w K mg base (L2.CX P w) k f fd ps (spS K) ∧ mg x = some (.ref f) ∧ PySem.W.keepIn K (.ref f) = true ∧ Binds K fd ps []
def dStart (i j : Nat) : DS := fun E l => l[j]? = some (some .scr) ∧ ∀ a b, E.nx (l.set i (some (.drw a b)))
theorem Rep.putDrw {K : PySem.W.Frag} {G : Gm} {H Hf H' : Hp} {σ : L2.St} {l : Sl} (R : Rep K G H Hf σ l) (i : Nat) {p b : Addr} (s : Same H H') (hp : H p = none) (hb : H b = none) (ne : p ≠ b) (hd : DrwAt H' p b) : Rep K G H' Hf (σ.set i (some (.ref p))) (l.set i (some (.drw p b))) := by
  have F : Frm [] H Hf H' Hf := ⟨fun b o _ e => s b o e, fun b o e => ⟨o, s b o e⟩, fun _ _ _ => rfl, fun b o e => s b o (R.sub b o e)⟩
  have R1 := R.grow F
  have nin : ∀ x, H x = none → x ∉ feet l ∧ G.H0 x = none ∧ Hf x = none := fun x hx => by
    refine ⟨fun z => ?_, ?_, ?_⟩
    · obtain ⟨o, ho⟩ := R.there z
      rw [hx] at ho
      cases ho
    · cases e : G.H0 x with
      | none => rfl
      | some o =>
        obtain ⟨o', e'⟩ := R.frm.there x o e
        rw [hx] at e'
        cases e'
    · cases e : Hf x with
      | none => rfl
      | some o =>
        have e' := R.sub x o e
        rw [hx] at e'
        cases e'
  obtain ⟨n1, n2⟩ := feet_set_nd (i := i) (x := some (.drw p b)) R.nd (by simp [foot, ne]) (fun x hx => by
    have e : x = p ∨ x = b := by simpa [foot] using hx
    rcases e with e | e
    · rw [e]; exact (nin p hp).1
    · rw [e]; exact (nin b hb).1)
  refine ⟨by simp [R.len], fun j s q => ?_, n1, fun x hx => ?_, fun j p' ds' q => ?_, R1.frm⟩
  · by_cases e : i = j
    · subst e
      have hlt : i < l.length := by
        have z := (List.getElem?_eq_some_iff.mp q).1
        simpa using z
      rw [List.getElem?_set_self hlt] at q
      have e : s = .drw p b := by simpa using q.symm
      subst e
      exact ⟨.ref p, List.getElem?_set_self (by rw [R.len]; exact hlt), rfl, hd⟩
    · rw [List.getElem?_set_ne e] at q
      rw [List.getElem?_set_ne e]
      exact R1.slot j s q
  · rcases n2 x hx with z | z
    · exact R.free x z
    · have e : x = p ∨ x = b := by simpa [foot] using z
      rcases e with e | e
      · rw [e]; exact ⟨(nin p hp).2.2, .inr (nin p hp).2.1⟩
      · rw [e]; exact ⟨(nin b hb).2.2, .inr (nin b hb).2.1⟩
  · by_cases e : i = j
    · subst e
      have hlt : i < l.length := by
        have z := (List.getElem?_eq_some_iff.mp q).1
        simpa using z
      rw [List.getElem?_set_self hlt] at q
      simp at q
    · rw [List.getElem?_set_ne e] at q
      exact R.ownNew j p' ds' q
section
variable {X : Cx} {ca : Er → Addr} {W : WX} {o tg : Expr} {pos : Pos}
theorem pds_start {x : Str} {p pos2 : Pos} {k i j : Nat} (F : FdS X.prog X.w X.K X.mg X.base x k) (hr : Room k X.A) (hg : Gl X x) (tk : Takes X W) (ho : PE X o (tVar j))
    (hp : PE X (.Call (.Name x p) [o] [] pos) (tCallS (spS X.K) (WE W) (tCons (tVar j) tNil)) → PS X (.Assign [tg] (.Call (.Name x p) [o] [] pos) pos2) (tAsg (tCallS (spS X.K) (WE W) (tCons (tVar j) tNil)) (gName i)))
    (hdb : (x == ("__debug__" : Str)) = false := by decide) (he : starEach [o] X.env = (false, eval o X.env) :: starEach [] X.env := by rfl) (hpl : (backTo pos (starEach [] X.env)).any (·.1) = false := by rfl) :
    PDS X ca W (.Assign [tg] (.Call (.Name x p) [o] [] pos) pos2) (tAsg (tCallS (spS X.K) (WE W) (tCons (tVar j) tNil)) (gName i)) (dStart i j) := by
  obtain ⟨f, fd, ps, h1, h2, h3, h4⟩ := F
  refine ⟨hp (pe_callS (E := WE W) h1 hr hg h2 h3 h4 (fun σ => passAt tk σ) (pa_cons ho pa_nil he) hdb he hpl), fun G D E σ H Hf l R m z => ?_⟩
  obtain ⟨hj, z⟩ := z
  obtain ⟨v, e1, a, ns, e2, hS, hl⟩ := R.slot j _ hj
  subst e2
  exact ⟨_, e1, a, ns, rfl, R.sub.seq hS, hl, fun p b H' s hp hb ne hd => m.nx _ _ _ _ (z p b) (R.putDrw i s hp hb ne hd) (Same.refl _)⟩
end
def spL (K : PySem.W.Frag) : Sp := fun vs H Q _ => ∃ (a : Addr) (ns : List Int), vs = [.ref a] ∧ SqL K H a (ns.map V.int) ∧ ns.length ≤ 63 ∧ ∀ H', Q (.bl true) H'
def startL (N : List Str) : Sl := some .scr :: List.replicate (N.length - 1) none
def topL : DEnd := ⟨fun _ => False, fun d _ => d = .bool true, fun _ => False, fun _ => False, fun _ _ => False⟩
section
variable {P : Program} {w : World} {K : PySem.W.Frag} {mg : Str → Option Value} {base : Heap}
theorem fn_okL {x qual : Str} {st : Stmt} {f : Addr} {fd : FuncData} {N ps : List Str} {k : Nat} {ca : Er → Addr} (F : Fun K x qual st f fd) (S : FnScope N ps (defScope st)) (hn : ps.length = 1)
    (body : ∀ (cdv : Value) (A : Around) (outer : List Env) (s : Shared) (H : Hp) (E : XK), Room k (fnX P w K mg base N qual st f cdv A outer s H E).A → Takes (fnX P w K mg base N qual st f cdv A outer s H E) W0 →
      PassesOwn (model P w) (fnX P w K mg base N qual st f cdv A outer s H E).A (fnX P w K mg base N qual st f cdv A outer s H E).env (fnX P w K mg base N qual st f cdv A outer s H E).xe → (fnX P w K mg base N qual st f cdv A outer s H E).A.units + 64 < cLine → (fnX P w K mg base N qual st f cdv A outer s H E).A.units + 65 < cLine →
      ∃ t d, PDB (fnX P w K mg base N qual st f cdv A outer s H E) ca W0 (defBody st) t d ∧ d topL (startL N)) :
    FnOk P w K mg base (L2.CX P w) (k + 1) f fd ps (spL K) := by
  refine F.okX S (fun vs H Q E h => ?_) (fun cdv A outer s H vs Q E hr h => ?_)
  · obtain ⟨a, ns, rfl, _⟩ := h
    rw [hn]
    rfl
  · obtain ⟨a, ns, rfl, hS, hl, hQ⟩ := h
    obtain ⟨t, d, hb, hd⟩ := body cdv A outer s H E hr takes0 (passes_of rfl) hr.units (by have := hr.un; show (A.deeper _).units + 65 < cLine; omega)
    refine ⟨t, hb.pe, ?_⟩
    have slot : ∀ (i : Nat) (x : DL.S), (startL N)[i]? = some (some x) → i = 0 ∧ x = .scr := fun i x h => by
      cases i with
      | zero =>
        have e : DL.S.scr = x := by simpa [startL] using h
        exact ⟨rfl, e.symm⟩
      | succ j =>
        have h' : (List.replicate (N.length - 1) (none : Option DL.S))[j]? = some (some x) := by simpa [startL] using h
        rw [List.getElem?_replicate] at h'
        split at h'
        · simp at h'
        · cases h'
    have ft : feet (startL N) = [] := by
      show feet (List.replicate (N.length - 1) none) = []
      exact feet_none _
    have R0 : Rep K ⟨[], H, H⟩ H H (L2.start N [.ref a]) (startL N) := by
      refine ⟨by simp [L2.start, startL], fun i x h => ?_, by rw [ft]; exact List.nodup_nil, fun b hb => absurd (ft ▸ hb) List.not_mem_nil, fun i p es h => ?_, Frm.refl (Same.refl _)⟩
      · obtain ⟨rfl, rfl⟩ := slot i x h
        exact ⟨.ref a, rfl, a, ns, rfl, hS, hl⟩
      · exact nomatch (slot i _ h).2
    refine hb.es ⟨[], H, H⟩ _ topL _ H H _ R0 ⟨?_, ?_, ?_, ?_, ?_⟩ hd
    · exact fun σ' l' H' Hf' z R _ => z.elim
    · intro σ' l' v d H' Hf' z R _ dv
      have z : d = .bool true := z
      subst z
      obtain rfl := dv.bl_inv
      exact hQ H'
    · exact fun σ' l' H' Hf' z R _ => z.elim
    · exact fun σ' l' H' Hf' z R _ => z.elim
    · exact fun e σ' l' H' Hf' z R => z.elim
end
end DL

namespace DL
open PySem PySem.Spec PyProof.Rows L2

/-! ### a text times a number -/
def repS (n : Nat) (z : Str) : Str := ⟨(List.replicate n z.cps).foldl (· ++ ·) #[]⟩
def rMulS : R2 := fun x y H Q => ∃ (z : Str) (n : Int), x = .str z ∧ y = .int n ∧ (1 ≤ z.length ∧ z.length ≤ 10) ∧ (0 ≤ n ∧ n ≤ 1000) ∧ Q (.str (repS n.toNat z)) H
def mulSD : PyData → PyData → Option PyData
  | .str z, .int n => if (1 ≤ z.length ∧ z.length ≤ 10) ∧ (0 ≤ n ∧ n ≤ 1000) then some (.str (repS n.toNat z)) else none
  | _, _ => none
theorem foldl_size (z : Array Nat) : ∀ (n : Nat) (a : Array Nat), ((List.replicate n z).foldl (· ++ ·) a).size = a.size + n * z.size
  | 0, a => by simp
  | n + 1, a => by
    rw [List.replicate_succ, List.foldl_cons, foldl_size z n (a ++ z), Array.size_append, Nat.succ_mul]
    omega
theorem repS_len (n : Nat) (z : Str) : (repS n z).length = n * z.length := by
  show ((List.replicate n z.cps).foldl (· ++ ·) #[]).size = n * z.cps.size
  rw [foldl_size]
  simp
theorem op_mulS {X : Cx} : OpR X (binaryOp .Mult) rMulS := by
  intro pins s σ H x y v u Q I rx ry h
  obtain ⟨z, n, rfl, rfl, hz, hn, q⟩ := h
  obtain ⟨t, rfl⟩ := rx
  obtain ⟨t', rfl⟩ := ry
  have big : (2 : Int) ^ 63 = 9223372036854775808 := by decide
  have hzl : z.length = z.cps.size := rfl
  refine P.mul_str ?_ (fun h1 h2 => ?_) (fun h1 h2 => ?_) ?_
  · rw [Bool.or_eq_false_iff]
    exact ⟨decide_eq_false (by rw [big]; omega), decide_eq_false (by rw [big]; omega)⟩
  · rw [big]
    have h3 : (1000 : Int) ≤ (9223372036854775808 - 1) / n := (Int.le_ediv_iff_mul_le (by omega)).mpr (by omega)
    omega
  · unfold Builtin.Str.tooLong
    rw [sizeLine_eq]
    have h3 : z.length * n.toNat ≤ 10 * 1000 := Nat.mul_le_mul hz.2 (by omega)
    exact decide_eq_false (by omega)
  · by_cases h1 : n < 1
    · rw [if_pos h1]
      have e : n.toNat = 0 := by omega
      rw [e] at q
      refine ⟨by decide, .str _, H, I.tok _, ⟨_, rfl⟩, ?_⟩
      exact q
    · rw [if_neg h1]
      by_cases h2 : (n == 1 || z.length == 0) = true
      · rw [if_pos h2]
        have e : n = 1 := by
          rw [Bool.or_eq_true] at h2
          rcases h2 with h2 | h2
          · exact beq_iff_eq.mp h2
          · have := beq_iff_eq.mp h2
            omega
        subst e
        have e2 : repS (1 : Int).toNat z = z := by
          show (⟨#[] ++ z.cps⟩ : Str) = z
          simp
        rw [e2] at q
        exact ⟨.str z, H, I, ⟨_, rfl⟩, q⟩
      · rw [if_neg h2]
        refine ⟨?_, .str _, H, I.tok _, ⟨_, rfl⟩, q⟩
        have := repS_len n.toNat z
        unfold repS at this
        rw [this, sizeLine_eq]
        have h3 : n.toNat * z.length ≤ 1000 * 10 := Nat.mul_le_mul (by omega) hz.2
        omega
theorem od_mulS {K : PySem.W.Frag} : OpD K rMulS mulSD := opd_flat fun x y dx dy z H Hf Q s hx hy e k => by
  unfold mulSD at e
  split at e
  · split at e
    · rename_i hm
      cases e
      exact ⟨_, _, hx.str_inv, hy.int_inv, hm.1, hm.2, k _ (.str _)⟩
    · cases e
  · cases e
theorem mulSD_e (z : Str) (n : Int) (q : PyData → Prop) : (∃ r, mulSD (.str z) (.int n) = some r ∧ q r) ↔ ((1 ≤ z.length ∧ z.length ≤ 10) ∧ (0 ≤ n ∧ n ≤ 1000)) ∧ q (.str (repS n.toNat z)) := ex_if _ q
theorem addD_e (a b : Str) (q : PyData → Prop) : (∃ r, addD (.str a) (.str b) = some r ∧ q r) ↔ a.length + b.length ≤ sizeLine ∧ q (.str (a ++ b)) := ex_if _ q

/-! ### int(text) -/
def intSD : List PyData → Option PyData
  | [.str a] => if a.length ≤ 640 then (PySem.intText? a).map PyData.int else none
  | _ => none
theorem cd_intS {K : PySem.W.Frag} : CaD K (fun xs H Q => ∃ a n, xs = [.str a] ∧ PySem.intText? a = some n ∧ a.length ≤ 640 ∧ Q (.int n) H) intSD := fun xs ds z H Hf Q s h e k => by
  unfold intSD at e
  split at e
  · split at e
    · rename_i a hl
      cases h2 : PySem.intText? a with
      | none => rw [h2] at e; cases e
      | some n =>
        rw [h2] at e
        cases e
        obtain ⟨v, rfl, hv⟩ := dv1 h
        obtain rfl := hv.str_inv
        exact ⟨a, n, rfl, h2, hl, k _ H Hf (Frm.refl s) (.int _)⟩
    · cases e
  · cases e

/-! ### a def without arguments, from which nothing is raised -/
def dCall0 (c : Ct) : DE := fun l Q _ => c [] fun r => match r with | .ok x => Q x l | .er _ => False
section
variable {X : Cx} {ca : Er → Addr} {W : WX} {a b c e o : Expr} {es : List Expr} {ua : TE} {da : DE} {pos : Pos}
theorem pd_fn0 {P : Program} {w : World} {K : PySem.W.Frag} {mg : Str → Option Value} {base : Heap} {x : Str} {p : Pos} {k : Nat} {c : Ct} (F : Fd P w K mg base ca x c 0 k) (hr : Room k X.A) (hg : Gl X x) (tk : Takes X W) (hdb : (x == ("__debug__" : Str)) = false := by decide)
    (hP : X.prog = P := by rfl) (hw : X.w = w := by rfl) (hK : X.K = K := by rfl) (hM : X.mg = mg := by rfl) (hB : X.base = base := by rfl) :
    PD X ca W (.Call (.Name x p) [] [] pos) (tCall (spD K ca c 0) [] E0 tNil) (dCall0 c) := by
  subst hP hw hK hM hB
  obtain ⟨f, fd, ps, h1, h2, h3, h4⟩ := F
  refine ⟨pe_call0 h1 hr hg h2 h3 h4 .nil passL hdb, fun G σ H Hf l Q q r R k kr z => ?_⟩
  exact ⟨Hf, [], _, rfl, R.sub, .nil, z, fun d v H' Hf' q' F' dv => k _ _ _ _ _ q' (R.grow F') (F'.sameF R.sub) dv, fun e H' Hf' q' F' => q'.elim⟩

/-! ### len(set(..)) of whole numbers -/
def cntI (ns : List Int) : Nat := (ns.foldl PyProof.Rows.step_dedup []).length
theorem firstMet_all (ns : List Int) : PyProof.Rows.firstMet (fun i => ns.getD i 0) ns.length = ns.foldl PyProof.Rows.step_dedup [] := by
  unfold PyProof.Rows.firstMet
  congr 1
  apply List.ext_getElem?
  intro i
  by_cases h : i < ns.length
  · simp [h]
  · simp [h]
def tLenS (K : PySem.W.Frag) (ta : TE) : TE := fun σ H Q => ta σ H fun x H1 => ∃ (p : Addr) (ns : List Int), x = .ref p ∧ SqL K H1 p (ns.map V.int) ∧ ns.length ≤ 4000 ∧ Q (.int (cntI ns : Nat)) H1
theorem pe_lenS {p p2 q : Pos} (hc : X.calm = true) (hg : Gl X "len") (hm : X.mg "len" = none) (hg2 : Gl X "set") (hm2 : X.mg "set" = none) (ha : PE X a ua)
    (na : starEach [a] X.env = (false, eval a X.env) :: starEach [] X.env := by rfl) : PE X (.Call (.Name "len" p) [.Call (.Name "set" p2) [a] [] q] [] pos) (tLenS X.K ua) := by
  refine ⟨fun pins s σ H Q I h => Call_ (ld_blt I hg hm boot_len (PyProof.Rows.callWith_builtin1 (PyProof.Rows.args_cons (Call_ (ld_blt I hg2 hm2 boot_set ?_)) rfl) rfl rfl))⟩
  refine PyProof.Rows.callWith_type1 (PyProof.Rows.args_cons (thn (ha.run pins s σ H _ I h) fun v s1 ⟨x, H1, I1, r1, l, ns, ex, hq, hl, q1⟩ => PyProof.Rows.args_nil ?_) na) na rfl
  subst ex
  cases r1
  obtain ⟨its, r, pl, hz⟩ := I1.list hq
  have hn : its.length = ns.length := by
    have := r.length
    rw [List.length_map] at this
    exact this.symm
  refine call_set_list (ns := ns) (I1.ok.hd hc) pl.isList (by simpa using Vals.ints r) (by rw [List.size_toArray, hn]; unfold scanBound; omega) fun h' tk hS hk => PyProof.Rows.args_nil ?_
  have hn2 : its.toArray.size = ns.length := by rw [List.size_toArray]; exact hn
  rw [hn2, firstMet_all] at hS
  obtain ⟨o, es, ep, t, ho, hex, hd, _, _, _, hf, hcnt⟩ := hS
  have I2 : Inv X pins σ H1 { s1 with heap := h', toks := tk } := I1.kept fun b o e => hk b o (Heap.lt_size e) e
  have small : es.size < 4097 := by
    rw [hcnt]
    have h1 := PyProof.Rows.firstMet_length_le (fun i => ns.getD i 0) ns.length
    rw [firstMet_all] at h1
    omega
  exact call_len_set ho hex hd hf (by omega) ⟨.int (cntI ns : Nat), H1, I2.tok _, ⟨_, by rw [hcnt]; rfl⟩, q1⟩
def dLenS (d : DE) : DE := fun l Q R => d l (fun x l' => ∃ xs ns, x = .list xs ∧ intsOf xs = some ns ∧ ns.length ≤ 4000 ∧ Q (.int (cntI ns : Nat)) l') R
theorem pd_lenSet {K : PySem.W.Frag} {p p2 q : Pos} (hg : Gl X "len") (hm : X.mg "len" = none) (hg2 : Gl X "set") (hm2 : X.mg "set" = none) (hc : X.calm = true) (ha : PV X ca W a ua da)
    (na : starEach [a] X.env = (false, eval a X.env) :: starEach [] X.env := by rfl) (hK : X.K = K := by rfl) : PD X ca W (.Call (.Name "len" p) [.Call (.Name "set" p2) [a] [] q] [] pos) (tLenS K ua) (dLenS da) := by
  subst hK
  refine ⟨pe_lenS hc hg hm hg2 hm2 ha.pe na, fun G σ H Hf l Q q r R k kr z => ?_⟩
  refine ha.es G σ H Hf l _ _ r R (fun x l' v H' Hf' z' R' s dv => ?_) kr z
  obtain ⟨xs, ns, rfl, e, hl, z'⟩ := z'
  obtain ⟨p, vs, rfl, h1, h2⟩ := dv.list_inv
  refine ⟨p, ns, rfl, .inl (.inl ?_), hl, k _ _ _ _ _ z' R' s (.int _)⟩
  rw [← intsOf_vals e h2]
  exact h1

/-! ### range(a, b, -1) -/
def rngDn (hi : Int) (n : Nat) : List PyData := (List.range n).map fun (k : Nat) => PyData.int (hi + (k : Int) * -1)
theorem rngDn_len (hi : Int) (n : Nat) : (rngDn hi n).length = n := by simp [rngDn]
theorem rngDn_get {hi : Int} {n i : Nat} {d : PyData} (h : (rngDn hi n)[i]? = some d) : i < n ∧ d = .int (hi + (i : Int) * -1) := by
  have hi : i < n := by
    have z := (List.getElem?_eq_some_iff.mp h).1
    rwa [rngDn_len] at z
  refine ⟨hi, ?_⟩
  simp [rngDn, hi] at h
  rw [← h]
  congr 1
  omega
def dRng3 (d : DA) : DI := fun l Q R => d l (fun xs l' => ∃ i j : Int, xs = [.int i, .int j, .int (-1)] ∧ small62 i = true ∧ small62 j = true ∧ Q (rngDn i (i - j).toNat) l') R
theorem wk_rangeDn {K : PySem.W.Frag} {Hf : Hp} (hi : Int) (n : Nat) : Wk K (Itc hi (-1) n) Hf (rngDn hi n) := by
  refine ⟨fun i H _ h => ?_, fun i H _ h => ?_, fun i H Hf1 v H' d s s' h y => ?_⟩
  · rw [rngDn_len] at h
    exact h
  · rw [rngDn_len] at h
    exact h
  · obtain ⟨rfl, rfl⟩ := y
    obtain ⟨_, rfl⟩ := rngDn_get h
    exact ⟨Hf1, Frm.refl s', .int _⟩
theorem pdi_range3 {tg : Expr} {ual : TA} {dal : DA} {p : Pos} (hg : Gl X "range") (hm : X.mg "range" = none) (h : PDA X ca W [a, b, c] ual dal) (hs : starEach [a, b, c] X.env = (false, eval a X.env) :: starEach [b, c] X.env := by rfl) (hpl : (backTo pos (starEach [b, c] X.env)).any (·.1) = false := by rfl) :
    PDI X ca W tg (.Call (.Name "range" p) [a, b, c] [] pos) (iRng3 ual) (dRng3 dal) :=
  ⟨pi_range3 hg hm h.pe hs hpl, fun G σ H Hf l R q r Rp k kr z => h.es G σ H Hf l _ _ r Rp (fun xs l' vs H' Hf' z' _ R' s dv => by
    obtain ⟨i, j, rfl, hi, hj, z'⟩ := z'
    obtain ⟨v1, r1, rfl, hv1, hr1⟩ := dv.cons_inv
    obtain ⟨v2, v3, rfl, hv2, hv3⟩ := dv2 hr1
    obtain rfl := hv1.int_inv
    obtain rfl := hv2.int_inv
    obtain rfl := hv3.int_inv
    obtain ⟨j1, j2⟩ := small62_of hj
    obtain ⟨i1, i2⟩ := small62_of hi
    exact ⟨i, j, -1, (i - j).toNat, rfl, RgC.neg i1 i2 j1 j2, k _ _ _ _ _ z' R' s (wk_rangeDn i _)⟩) kr z⟩
end
end DL

namespace SD
open PySem DL

/-! ### lowest terms -/
theorem gcdI_scale {k a b : Int} (hk : 0 < k) : gcdI (k * a) (k * b) = k * gcdI a b := by
  unfold gcdI
  rw [Int.gcd_mul_left]
  have : (k.natAbs : Int) = k := Int.natAbs_of_nonneg (by omega)
  rw [Int.natCast_mul, this]
theorem lowN_scale {k a b : Int} (hk : 0 < k) : lowN (k * a) (k * b) = lowN a b := by
  unfold lowN
  rw [gcdI_scale hk]
  exact Int.mul_ediv_mul_of_pos _ _ hk
theorem lowU_scale {k a b : Int} (hk : 0 < k) : lowU (k * a) (k * b) = lowU a b := by
  unfold lowU
  rw [gcdI_scale hk]
  exact Int.mul_ediv_mul_of_pos _ _ hk
theorem low_cross {a b c d : Int} (hb : 0 < b) (hd : 0 < d) (h : a * d = c * b) : lowN a b = lowN c d ∧ lowU a b = lowU c d := by
  have e1 : lowN a b = lowN c d := by
    rw [← lowN_scale (k := d) (a := a) (b := b) hd, ← lowN_scale (k := b) (a := c) (b := d) hb, Int.mul_comm d a, h, Int.mul_comm c b, Int.mul_comm d b]
  have e2 : lowU a b = lowU c d := by
    rw [← lowU_scale (k := d) (a := a) (b := b) hd, ← lowU_scale (k := b) (a := c) (b := d) hb, Int.mul_comm d a, h, Int.mul_comm c b, Int.mul_comm d b]
  exact ⟨e1, e2⟩
theorem lowF_cross {a b c d : Int} (hb : 0 < b) (hd : 0 < d) (h : a * d = c * b) : lowF a b = lowF c d := by
  obtain ⟨e1, e2⟩ := low_cross hb hd h
  unfold lowF
  rw [e1, e2]
/-- the error over the common denominator -/
theorem err_low (p n k : Int) (r : Ru) (hn : 0 < n) : errN p n k r = lowN (unitsF p n k r * n - p * powT k) (n * powT k) ∧ errU p n k r = lowU (unitsF p n k r * n - p * powT k) (n * powT k) := by
  have hp := powT_pos k
  have g := gcdI_pos (a := unitsF p n k r) hp
  have e1 := lowN_mul (a := unitsF p n k r) hp
  have e2 := lowU_mul (a := unitsF p n k r) hp
  have hu := lowU_pos (a := unitsF p n k r) hp
  unfold errN errU
  generalize unitsF p n k r = u at *
  generalize powT k = P at *
  refine low_cross (Int.mul_pos hu hn) (Int.mul_pos hn hp) ?_
  generalize hg : gcdI u P = G at *
  generalize lowN u P = a at *
  generalize lowU u P = b at *
  subst e1
  rw [← e2, Int.sub_mul, Int.sub_mul]
  have h1 : a * n * (n * (b * G)) = a * G * n * (b * n) := by
    simp only [Int.mul_assoc, Int.mul_comm, Int.mul_left_comm]
  have h2 : p * b * (n * (b * G)) = p * (b * G) * (b * n) := by
    simp only [Int.mul_assoc, Int.mul_comm, Int.mul_left_comm]
  rw [h1, h2]
theorem errF_low (p n k : Int) (r : Ru) (hn : 0 < n) : errF p n k r = lowF (unitsF p n k r * n - p * powT k) (n * powT k) := by
  obtain ⟨e1, e2⟩ := err_low p n k r hn
  rw [errF_eq, e1, e2]
  rfl
/-- sizes in lowest terms -/
theorem low_le {a b c d : Int} (hb : 0 < b) : (lowN a b).natAbs * d ≤ c * lowU a b ↔ (a.natAbs : Int) * d ≤ c * b := by
  have g := gcdI_pos (a := a) hb
  have e1 := lowN_mul (a := a) hb
  have e2 := lowU_mul (a := a) hb
  have e3 : ((lowN a b).natAbs : Int) * gcdI a b = (a.natAbs : Int) := by
    have : (a.natAbs : Int) = ((lowN a b * gcdI a b).natAbs : Int) := by rw [e1]
    rw [this, Int.natAbs_mul, Int.natCast_mul]
    have h : ((gcdI a b).natAbs : Int) = gcdI a b := Int.natAbs_of_nonneg (by omega)
    rw [h]
  have h1 : ((lowN a b).natAbs : Int) * d * gcdI a b = (a.natAbs : Int) * d := by
    rw [← e3, Int.mul_right_comm]
  have h2 : c * lowU a b * gcdI a b = c * b := by rw [Int.mul_assoc, e2]
  constructor
  · intro h
    have := Int.mul_le_mul_of_nonneg_right h (Int.le_of_lt g)
    rw [h1, h2] at this
    exact this
  · intro h
    rw [← h1, ← h2] at h
    exact Int.le_of_mul_le_mul_right h g

/-! ### units -/
theorem units_cases (p n k : Int) (r : Ru) (hn : 0 < n) : (unitsF p n k r = p * powT k / n) ∨ (unitsF p n k r = p * powT k / n + 1 ∧ ¬ p * powT k % n = 0) := by
  unfold unitsF
  by_cases c : p * powT k % n = 0
  · rw [if_pos (Or.inl c)]
    exact .inl rfl
  · repeat' split
    all_goals first | exact .inl rfl | exact .inr ⟨rfl, c⟩
theorem units_err (p n k : Int) (r : Ru) (hn : 0 < n) : -n < unitsF p n k r * n - p * powT k ∧ unitsF p n k r * n - p * powT k < n := by
  have hdm := Int.mul_ediv_add_emod (p * powT k) n
  have hm := Int.emod_lt_of_pos (p * powT k) hn
  have hm0 := Int.emod_nonneg (p * powT k) (show n ≠ 0 by omega)
  rcases units_cases p n k r hn with h | ⟨h, c⟩
  · rw [h, Int.mul_comm (p * powT k / n) n]
    omega
  · rw [h, Int.add_mul, Int.mul_comm (p * powT k / n) n]
    omega
/-- the first three rules -/
def isDir : Ru → Bool
  | .down => true
  | .up => true
  | .zero => true
  | _ => false
theorem units_near (p n k : Int) (r : Ru) (hn : 0 < n) (hr : isDir r = false) : -n ≤ 2 * (unitsF p n k r * n - p * powT k) ∧ 2 * (unitsF p n k r * n - p * powT k) ≤ n := by
  have hdm := Int.mul_ediv_add_emod (p * powT k) n
  have hm := Int.emod_lt_of_pos (p * powT k) hn
  have hm0 := Int.emod_nonneg (p * powT k) (show n ≠ 0 by omega)
  have f1 : (p * powT k / n) * n = n * (p * powT k / n) := Int.mul_comm ..
  have f2 : (p * powT k / n + 1) * n = n * (p * powT k / n) + n := by rw [Int.add_mul, f1]; omega
  unfold unitsF
  cases r <;> simp only [isDir, reduceCtorEq, Bool.true_eq_false] at hr <;> simp only [reduceCtorEq, or_false, if_false, if_true]
  all_goals (repeat' split)
  all_goals first | (rw [f1]; omega) | (rw [f2]; omega)
theorem near_zero (p n k : Int) (r : Ru) (h : p * powT k % n = 0) : unitsF p n k r = p * powT k / n := by
  unfold unitsF
  rw [if_pos (Or.inl h)]

/-! ### how many different ones -/
def dueL (p n k : Int) : List Int := ruAll.map fun u => unitsF p n k u
theorem ne_s1 (x : Int) : ¬ x = x + 1 := by omega
theorem ne_s2 (x : Int) : ¬ x + 1 = x := by omega
theorem cnt_due (p n k : Int) (hn : 0 < n) : ((cntI (dueL p n k) : Nat) : Int) = 1 ↔ p * powT k % n = 0 := by
  unfold dueL ruAll cntI
  simp only [List.map_cons, List.map_nil]
  by_cases c : p * powT k % n = 0
  · simp only [near_zero _ _ _ _ c, c]
    simp [PyProof.Rows.step_dedup]
  · have e0 : unitsF p n k .down = p * powT k / n := by unfold unitsF; simp
    have e1 : unitsF p n k .up = p * powT k / n + 1 := by unfold unitsF; simp [c]
    rw [e0, e1]
    have key : ∀ (xs acc : List Int), 2 ≤ acc.length → 2 ≤ (xs.foldl PyProof.Rows.step_dedup acc).length := by
      intro xs
      induction xs with
      | nil => intro acc h; exact h
      | cons x xs ih =>
        intro acc h
        refine ih _ ?_
        unfold PyProof.Rows.step_dedup
        split
        · exact h
        · simp; omega
    have h2 : 2 ≤ (List.foldl PyProof.Rows.step_dedup [] ((p * powT k / n) :: (p * powT k / n + 1) :: [unitsF p n k .zero, unitsF p n k .nup, unitsF p n k .nzero, unitsF p n k .naway, unitsF p n k .neven])).length := by
      rw [List.foldl_cons, List.foldl_cons]
      refine key _ _ ?_
      simp [PyProof.Rows.step_dedup, ne_s1, ne_s2]
    constructor
    · intro z
      omega
    · intro z
      exact absurd z c
theorem cnt_near (p n k : Int) (hn : 0 < n) : ((cntI ((dueL p n k).drop 3) : Nat) : Int) = if 2 * (p * powT k % n) = n then 2 else 1 := by
  have hm0 := Int.emod_nonneg (p * powT k) (show n ≠ 0 by omega)
  unfold dueL ruAll cntI
  simp only [List.map_cons, List.map_nil, List.drop_succ_cons, List.drop_zero]
  by_cases c : 2 * (p * powT k % n) = n
  · have c0 : ¬ p * powT k % n = 0 := by omega
    rw [if_pos c]
    unfold unitsF
    by_cases c5 : 0 < p * powT k <;> by_cases c6 : p * powT k / n % 2 = 0 <;> simp [c, c0, c5, c6, PyProof.Rows.step_dedup, ne_s1, ne_s2]
  · rw [if_neg c]
    by_cases c0 : p * powT k % n = 0
    · simp only [near_zero _ _ _ _ c0]
      simp [PyProof.Rows.step_dedup]
    · unfold unitsF
      by_cases c6 : 2 * (p * powT k % n) < n <;> simp [c, c0, c6, PyProof.Rows.step_dedup, ne_s1, ne_s2]

/-! ### data -/
theorem canLay_ints (ms : List Int) : PyData.canLayAll0 (ms.map PyData.int) = true := by
  induction ms with
  | nil => simp [PyData.canLayAll0]
  | cons m ms ih => simp [PyData.canLayAll0, PyData.canLay0, ih]
theorem depth_ints (ms : List Int) : PyData.depthAll (ms.map PyData.int) = 0 := by
  induction ms with
  | nil => simp [PyData.depthAll]
  | cons m ms ih => simp [PyData.depthAll, PyData.depth, ih]
theorem shaped_ints (ms : List Int) : SeqAt.shaped (.list (ms.map PyData.int)) = true := by simp [SeqAt.shaped, PyData.canLay0, PyData.depth, canLay_ints, depth_ints]
theorem eqv_ints : ∀ (xs ys : List Int), PyData.eqvAll (xs.map PyData.int) (ys.map PyData.int) = decide (xs = ys)
  | [], [] => by simp [PyData.eqvAll]
  | [], y :: ys => by simp [PyData.eqvAll]
  | x :: xs, [] => by simp [PyData.eqvAll]
  | x :: xs, y :: ys => by
    simp only [List.map_cons, PyData.eqvAll, eqv_int, eqv_ints xs ys]
    by_cases h : x = y <;> by_cases g : xs = ys <;> simp [h, g]
theorem eqD_ints (xs ys : List Int) : eqD (.list (xs.map PyData.int)) (.list (ys.map PyData.int)) = some (decide (xs = ys)) := by
  unfold eqD
  rw [if_pos ⟨shaped_ints xs, shaped_ints ys⟩]
  show some (PyData.eqvAll _ _) = _
  rw [eqv_ints]
theorem neD_ints (xs ys : List Int) : neD (.list (xs.map PyData.int)) (.list (ys.map PyData.int)) = some (!decide (xs = ys)) := by
  unfold neD
  rw [if_pos ⟨shaped_ints xs, shaped_ints ys⟩]
  show some (!PyData.eqvAll _ _) = _
  rw [eqv_ints]

/-! ### the first digits that are enough -/
theorem fstK_filter (f : Nat → Bool) : ∀ (m i : Nat), fstK f i m = ((List.range' i m).filter f).head?
  | 0, i => rfl
  | m + 1, i => by
    unfold fstK
    rw [List.range'_succ, List.filter_cons]
    split
    · simp
    · exact fstK_filter f m (i + 1)
theorem ldC_iff (p n c d : Int) (k : Nat) (hn : 0 < n) : ldC p n c d k = decide (((unitsF p n k .neven * n - p * powT k).natAbs : Int) * d ≤ c * n * powT k) := by
  unfold ldC
  obtain ⟨e1, e2⟩ := err_low p n k .neven hn
  rw [e1, e2]
  have h := low_le (a := unitsF p n k .neven * n - p * powT k) (b := n * powT k) (c := c) (d := d) (Int.mul_pos hn (powT_pos k))
  rw [← Int.mul_assoc] at h
  exact decide_eq_decide.mpr h
theorem rs_down : PyData.str (Str.ofString "down") = PyData.str (ruS .down) := rfl
theorem rs_up : PyData.str (Str.ofString "up") = PyData.str (ruS .up) := rfl
theorem rs_zero : PyData.str (Str.ofString "zero") = PyData.str (ruS .zero) := rfl
theorem rs_nup : PyData.str (Str.ofString "near-up") = PyData.str (ruS .nup) := rfl
theorem rs_nzero : PyData.str (Str.ofString "near-zero") = PyData.str (ruS .nzero) := rfl
theorem rs_naway : PyData.str (Str.ofString "near-away") = PyData.str (ruS .naway) := rfl
theorem rs_neven : PyData.str (Str.ofString "near-even") = PyData.str (ruS .neven) := rfl
end SD

namespace SD
open PySem DL

/-! ### the twos and fives of a denominator -/
def cutK (k : Int) : Nat → Int → Int × Nat
  | 0, x => (x, 0)
  | f + 1, x => if x % k = 0 then ((cutK k f (x / k)).1, (cutK k f (x / k)).2 + 1) else (x, 0)
theorem cutK_pos {k x : Int} {m : Nat} (h : x % k = 0) : cutK k (m + 1) x = ((cutK k m (x / k)).1, (cutK k m (x / k)).2 + 1) := if_pos h
theorem cutK_neg {k x : Int} {m : Nat} (h : ¬ x % k = 0) : cutK k (m + 1) x = (x, 0) := if_neg h
def partsB (n : Int) : Int := max ((cutK 2 8 n).2 : Int) ((cutK 5 8 (cutK 2 8 n).1).2 : Int)
def partsL (n : Int) : Int := (cutK 5 8 (cutK 2 8 n).1).1
def needD (n : Int) : PyData := if partsL n = 1 then .int (partsB n) else .none
theorem parts_all : ((List.range 60).all fun i => ((List.range 7).all fun k => decide ((10 ^ k : Int) % ((i : Int) + 1) = 0) == (decide (partsL ((i : Int) + 1) = 1) && decide (partsB ((i : Int) + 1) ≤ (k : Int)))) && decide (0 ≤ partsB ((i : Int) + 1) ∧ partsB ((i : Int) + 1) ≤ 5 ∧ 1 ≤ partsL ((i : Int) + 1) ∧ partsL ((i : Int) + 1) ≤ 60)) = true := by decide +kernel
theorem parts_at {n : Int} (h1 : 1 ≤ n) (h2 : n ≤ 60) : (∀ k : Nat, k < 7 → (decide ((10 ^ k : Int) % n = 0) == (decide (partsL n = 1) && decide (partsB n ≤ (k : Int)))) = true) ∧ (0 ≤ partsB n ∧ partsB n ≤ 5 ∧ 1 ≤ partsL n ∧ partsL n ≤ 60) := by
  have h := List.all_eq_true.mp parts_all (n - 1).toNat (List.mem_range.mpr (by omega))
  have e : (((n - 1).toNat : Nat) : Int) + 1 = n := by omega
  rw [e, Bool.and_eq_true] at h
  exact ⟨fun k hk => List.all_eq_true.mp h.1 k (List.mem_range.mpr hk), of_decide_eq_true h.2⟩
theorem parts_b {n : Int} (h1 : 1 ≤ n) (h2 : n ≤ 60) : 0 ≤ partsB n ∧ partsB n ≤ 5 ∧ 1 ≤ partsL n ∧ partsL n ≤ 60 := (parts_at h1 h2).2
theorem ten_dvd {n k : Int} (h1 : 1 ≤ n) (h2 : n ≤ 60) (k0 : 0 ≤ k) (k1 : k ≤ 6) : powT k % n = 0 ↔ partsL n = 1 ∧ partsB n ≤ k := by
  have h := (parts_at h1 h2).1 k.toNat (by omega)
  have e := beq_iff_eq.mp h
  have ek : ((k.toNat : Nat) : Int) = k := by omega
  rw [ek] at e
  unfold powT
  constructor
  · intro z
    rw [decide_eq_true z] at e
    have e := e.symm
    rw [Bool.and_eq_true] at e
    exact ⟨of_decide_eq_true e.1, of_decide_eq_true e.2⟩
  · intro z
    rw [decide_eq_true z.1, decide_eq_true z.2] at e
    exact of_decide_eq_true e
theorem mul_dvd {p n P : Int} (h1 : 1 ≤ n) (hg : Int.gcd p n = 1) : p * P % n = 0 ↔ P % n = 0 := by
  constructor
  · intro z
    have d : n ∣ p * P := Int.dvd_of_emod_eq_zero z
    refine Int.emod_eq_zero_of_dvd (Int.natAbs_dvd_natAbs.mp ?_)
    have d2 := Int.natAbs_dvd_natAbs.mpr d
    rw [Int.natAbs_mul] at d2
    have co : Nat.Coprime n.natAbs p.natAbs := by
      have : Nat.gcd n.natAbs p.natAbs = 1 := by
        rw [Nat.gcd_comm]
        exact hg
      exact this
    exact co.dvd_of_dvd_mul_left d2
  · intro z
    exact Int.emod_eq_zero_of_dvd (Int.dvd_mul_of_dvd_right (Int.dvd_of_emod_eq_zero z))
/-- where a fraction is a decimal -/
theorem exact_need {p n k : Int} (h1 : 1 ≤ n) (h2 : n ≤ 60) (hg : Int.gcd p n = 1) (k0 : 0 ≤ k) (k1 : k ≤ 6) : p * powT k % n = 0 ↔ partsL n = 1 ∧ partsB n ≤ k :=
  (mul_dvd h1 hg).trans (ten_dvd h1 h2 k0 k1)
/-! ### the first one -/
theorem fstK_some {f : Nat → Bool} : ∀ (m i : Nat) {t : Nat}, fstK f i m = some t → f t = true ∧ i ≤ t ∧ t < i + m ∧ ∀ j, i ≤ j → j < t → f j = false
  | 0, i, t, h => by simp [fstK] at h
  | m + 1, i, t, h => by
    unfold fstK at h
    by_cases c : f i = true
    · rw [if_pos c] at h
      have e : i = t := by simpa using h
      subst e
      exact ⟨c, Nat.le_refl _, by omega, fun j a b => by omega⟩
    · rw [if_neg c] at h
      obtain ⟨a, b, d, g⟩ := fstK_some m (i + 1) h
      refine ⟨a, by omega, by omega, fun j ja jb => ?_⟩
      by_cases e : j = i
      · subst e
        simpa using c
      · exact g j (by omega) jb
theorem fstK_le {f : Nat → Bool} : ∀ (m i j : Nat), f j = true → i ≤ j → j < i + m → ∃ t, t ≤ j ∧ fstK f i m = some t
  | 0, i, j, _, h1, h2 => by omega
  | m + 1, i, j, hf, h1, h2 => by
    unfold fstK
    by_cases c : f i = true
    · exact ⟨i, h1, by rw [if_pos c]⟩
    · rw [if_neg c]
      have ne : j ≠ i := fun e => c (e ▸ hf)
      exact fstK_le m (i + 1) j hf (by omega) (by omega)
theorem fstK_none {f : Nat → Bool} {m i : Nat} (h : ∀ j, i ≤ j → j < i + m → f j = false) : fstK f i m = none := by
  cases e : fstK f i m with
  | none => rfl
  | some t =>
    obtain ⟨a, b, d, _⟩ := fstK_some m i e
    rw [h t b d] at a
    cases a
/-- the least digits: what they are -/
theorem ld_near {p n m : Int} (hn : 0 < n) (h1 : 1 ≤ m) (h2 : m ≤ 60) : ∃ t, t ≤ 2 ∧ ldF p n 1 m = some t := by
  refine fstK_le 7 0 2 ?_ (by omega) (by omega)
  rw [ldC_iff _ _ _ _ _ hn]
  refine decide_eq_true ?_
  have h := units_near p n (2 : Nat) .neven hn rfl
  have e : powT ((2 : Nat) : Int) = 100 := by decide
  rw [e] at h ⊢
  generalize unitsF p n ((2 : Nat) : Int) .neven * n - p * 100 = x at *
  have hx : (x.natAbs : Int) ≤ n := by omega
  have : (x.natAbs : Int) * m ≤ n * 60 := Int.mul_le_mul hx h2 (by omega) (by omega)
  omega
theorem ldC_mono {p n m m' : Int} {k : Nat} (h : m ≤ m') (hc : ldC p n 1 m' k = true) : ldC p n 1 m k = true := by
  unfold ldC at *
  have h1 := of_decide_eq_true hc
  refine decide_eq_true (Int.le_trans ?_ h1)
  exact Int.mul_le_mul_of_nonneg_left h (by omega)
theorem ld_mono {p n m m' : Int} {t t' : Nat} (h : m ≤ m') (e : ldF p n 1 m = some t) (e' : ldF p n 1 m' = some t') : t ≤ t' := by
  obtain ⟨a, b, c, d⟩ := fstK_some 7 0 e'
  obtain ⟨s, hs, es⟩ := fstK_le (f := ldC p n 1 m) 7 0 t' (ldC_mono h a) b c
  have : s = t := by
    have := es.symm.trans e
    simpa using this
  omega
theorem errN_zero {p n k : Int} {r : Ru} (hn : 0 < n) : errN p n k r = 0 ↔ p * powT k % n = 0 := by
  have hp := powT_pos k
  have hb := Int.mul_pos hn hp
  rw [(err_low p n k r hn).1]
  have e1 := lowN_mul (a := unitsF p n k r * n - p * powT k) hb
  have er := units_err p n k r hn
  constructor
  · intro z
    rw [z, Int.zero_mul] at e1
    have : p * powT k = unitsF p n k r * n := by omega
    rw [this]
    exact Int.mul_emod_left ..
  · intro z
    have : unitsF p n k r * n - p * powT k = 0 := by
      rw [near_zero _ _ _ _ z]
      have := Int.ediv_mul_cancel (Int.dvd_of_emod_eq_zero z)
      omega
    rw [this]
    unfold lowN
    exact Int.zero_ediv _
theorem low_zero {b : Int} (hb : 0 < b) : lowN 0 b = 0 ∧ lowU 0 b = 1 := by
  have g : gcdI 0 b = b := by
    unfold gcdI
    rw [Int.zero_gcd]
    exact Int.natAbs_of_nonneg (by omega)
  unfold lowN lowU
  rw [g]
  exact ⟨Int.zero_ediv _, Int.ediv_self (by omega)⟩
theorem errU_zero {p n k : Int} {r : Ru} (hn : 0 < n) (z : p * powT k % n = 0) : errU p n k r = 1 := by
  have hp := powT_pos k
  have hb := Int.mul_pos hn hp
  rw [(err_low p n k r hn).2]
  have : unitsF p n k r * n - p * powT k = 0 := by
    rw [near_zero _ _ _ _ z]
    have := Int.ediv_mul_cancel (Int.dvd_of_emod_eq_zero z)
    omega
  rw [this]
  exact (low_zero hb).2
/-- what 0 asks for -/
theorem ld_zero {p n : Int} (h1 : 1 ≤ n) (h2 : n ≤ 60) (hg : Int.gcd p n = 1) : optI (ldF p n 0 1) = needD n := by
  have hn : 0 < n := by omega
  have key : ∀ k : Nat, k < 7 → (ldC p n 0 1 k = true ↔ partsL n = 1 ∧ partsB n ≤ (k : Int)) := fun k hk => by
    rw [← exact_need h1 h2 hg (by omega) (by omega), ← errN_zero (r := .neven) hn]
    unfold ldC
    rw [decide_eq_true_eq, Int.mul_one, Int.zero_mul]
    omega
  have hb := parts_b h1 h2
  unfold needD
  by_cases c : partsL n = 1
  · rw [if_pos c]
    obtain ⟨t, ht, e⟩ := fstK_le (f := ldC p n 0 1) 7 0 (partsB n).toNat ((key _ (by omega)).mpr ⟨c, by omega⟩) (by omega) (by omega)
    obtain ⟨a, _, b, d⟩ := fstK_some 7 0 e
    have := ((key t (by omega)).mp a).2
    have e2 : ldF p n 0 1 = some t := e
    rw [e2]
    show PyData.int _ = _
    congr 1
    omega
  · rw [if_neg c]
    have e2 : ldF p n 0 1 = none := fstK_none fun j _ hj => by
      cases e : ldC p n 0 1 j with
      | false => rfl
      | true => exact absurd ((key j (by omega)).mp e).1 c
    rw [e2]
    rfl
/-- a middle is one digit away from the end -/
theorem mid_need {p n k : Int} (h1 : 1 ≤ n) (h2 : n ≤ 60) (hg : Int.gcd p n = 1) (k0 : 0 ≤ k) (k1 : k ≤ 6) (h : 2 * (p * powT k % n) = n) : partsL n = 1 ∧ partsB n = k + 1 := by
  have ne : ¬ p * powT k % n = 0 := by omega
  have n1 := fun z => ne ((exact_need h1 h2 hg k0 k1).mpr z)
  have d2 : p * (2 * powT k) % n = 0 := by
    have e : p * (2 * powT k) = 2 * (p * powT k) := by
      simp only [Int.mul_assoc, Int.mul_comm, Int.mul_left_comm]
    have h3 : 2 * (p * powT k) % n = 2 * (p * powT k % n) % n := by rw [Int.mul_emod, Int.mul_emod 2 (p * powT k % n), Int.emod_emod]
    rw [e, h3, h]
    exact Int.emod_self
  have d3 := (mul_dvd h1 hg).mp d2
  have d4 : powT (k + 1) % n = 0 := by
    have e : powT (k + 1) = 5 * (2 * powT k) := by
      unfold powT
      have : (k + 1).toNat = k.toNat + 1 := by omega
      rw [this, Int.pow_succ]
      omega
    rw [e]
    exact Int.emod_eq_zero_of_dvd (Int.dvd_mul_of_dvd_right (Int.dvd_of_emod_eq_zero d3))
  by_cases k6 : k = 6
  · subst k6
    -- with 7 digits: the kernel looks
    exfalso
    have hb := parts_b h1 h2
    have all : ((List.range 60).all fun i => !(decide ((10 ^ 7 : Int) % ((i : Int) + 1) = 0)) || decide ((10 ^ 6 : Int) % ((i : Int) + 1) = 0)) = true := by decide +kernel
    have h := List.all_eq_true.mp all (n - 1).toNat (List.mem_range.mpr (by omega))
    have e : (((n - 1).toNat : Nat) : Int) + 1 = n := by omega
    rw [e] at h
    have q : (10 ^ 7 : Int) % n = 0 := d4
    rw [decide_eq_true q] at h
    have q2 : (10 ^ 6 : Int) % n = 0 := by simpa using h
    exact n1 ((ten_dvd h1 h2 k0 k1).mp q2)
  · have h5 := (ten_dvd h1 h2 (k := k + 1) (by omega) (by omega)).mp d4
    refine ⟨h5.1, ?_⟩
    have : ¬ partsB n ≤ k := fun z => n1 ⟨h5.1, z⟩
    omega
theorem units_down (p n k : Int) : unitsF p n k .down = p * powT k / n := by unfold unitsF; simp
theorem units_up {p n k : Int} (c : ¬ p * powT k % n = 0) : unitsF p n k .up = p * powT k / n + 1 := by unfold unitsF; simp [c]
/-- up less down is one unit -/
theorem err_gap {p n k : Int} (hn : 0 < n) (c : ¬ p * powT k % n = 0) : lowF (errN p n k .up * errU p n k .down - errN p n k .down * errU p n k .up) (errU p n k .up * errU p n k .down) = fr 1 (powT k) := by
  have hp := powT_pos k
  have hb := Int.mul_pos hn hp
  obtain ⟨a1, a2⟩ := err_low p n k .up hn
  obtain ⟨b1, b2⟩ := err_low p n k .down hn
  have e0 : unitsF p n k .up * n - p * powT k = unitsF p n k .down * n - p * powT k + n := by
    rw [units_up c, units_down, Int.add_mul]
    omega
  have l1 : lowF 1 (powT k) = fr 1 (powT k) := by
    have g : gcdI 1 (powT k) = 1 := by unfold gcdI; rw [Int.one_gcd]; rfl
    unfold lowF lowN lowU
    rw [g, Int.ediv_one, Int.ediv_one]
  rw [← l1]
  have u1 : 0 < errU p n k .up := by rw [a2]; exact lowU_pos hb
  have u2 : 0 < errU p n k .down := by rw [b2]; exact lowU_pos hb
  have c1 : errN p n k .up * (n * powT k) = (unitsF p n k .up * n - p * powT k) * errU p n k .up := by
    rw [a1, a2]
    generalize unitsF p n k .up * n - p * powT k = x
    have e1 := lowN_mul (a := x) hb
    have e2 := lowU_mul (a := x) hb
    calc lowN x (n * powT k) * (n * powT k) = lowN x (n * powT k) * (lowU x (n * powT k) * gcdI x (n * powT k)) := by rw [e2]
      _ = lowN x (n * powT k) * gcdI x (n * powT k) * lowU x (n * powT k) := by simp only [Int.mul_assoc, Int.mul_comm, Int.mul_left_comm]
      _ = _ := by rw [e1]
  have c2 : errN p n k .down * (n * powT k) = (unitsF p n k .down * n - p * powT k) * errU p n k .down := by
    rw [b1, b2]
    generalize unitsF p n k .down * n - p * powT k = x
    have e1 := lowN_mul (a := x) hb
    have e2 := lowU_mul (a := x) hb
    calc lowN x (n * powT k) * (n * powT k) = lowN x (n * powT k) * (lowU x (n * powT k) * gcdI x (n * powT k)) := by rw [e2]
      _ = lowN x (n * powT k) * gcdI x (n * powT k) * lowU x (n * powT k) := by simp only [Int.mul_assoc, Int.mul_comm, Int.mul_left_comm]
      _ = _ := by rw [e1]
  rw [e0] at c1
  refine lowF_cross (Int.mul_pos u1 u2) hp ?_
  generalize errN p n k .up = A at *
  generalize errU p n k .up = B at *
  generalize errN p n k .down = C at *
  generalize errU p n k .down = D at *
  generalize unitsF p n k .down * n - p * powT k = x at *
  generalize powT k = P at *
  refine Int.eq_of_mul_eq_mul_left (a := n) (by omega) ?_
  have q1 : n * ((A * D - C * B) * P) = A * (n * P) * D - C * (n * P) * B := by
    rw [Int.sub_mul, Int.mul_sub]
    congr 1 <;> simp only [Int.mul_assoc, Int.mul_comm, Int.mul_left_comm]
  rw [q1, c1, c2, Int.one_mul, Int.add_mul, Int.add_mul]
  have q2 : x * B * D = x * D * B := Int.mul_right_comm ..
  rw [q2, Int.mul_assoc n B D]
  omega
theorem err_sign {p n k : Int} (hn : 0 < n) : errN p n k .down ≤ 0 ∧ 0 ≤ errN p n k .up := by
  have hp := powT_pos k
  have hb := Int.mul_pos hn hp
  have hdm := Int.mul_ediv_add_emod (p * powT k) n
  have hm := Int.emod_lt_of_pos (p * powT k) hn
  have hm0 := Int.emod_nonneg (p * powT k) (show n ≠ 0 by omega)
  constructor
  · rw [(err_low p n k .down hn).1]
    have : unitsF p n k .down * n - p * powT k ≤ 0 := by
      rw [units_down, Int.mul_comm _ n]
      omega
    unfold lowN
    exact Int.ediv_nonpos_of_nonpos_of_neg this (gcdI_pos hb)
  · by_cases c : p * powT k % n = 0
    · rw [(errN_zero hn).mpr c]
      exact Int.le_refl _
    · rw [(err_low p n k .up hn).1]
      have : 0 ≤ unitsF p n k .up * n - p * powT k := by
        rw [units_up c, Int.add_mul, Int.mul_comm _ n]
        omega
      unfold lowN
      exact Int.ediv_nonneg this (Int.le_of_lt (gcdI_pos hb))
end SD

namespace SD
open PySem DL

/-! ### rounding sees the ratio alone -/
theorem units_scale {g p n d : Int} {r : Ru} (hg : 0 < g) (hn : 0 < n) : unitsF (g * p) (g * n) d r = unitsF p n d r := by
  have e : g * p * powT d = g * (p * powT d) := Int.mul_assoc ..
  unfold unitsF
  rw [e]
  generalize p * powT d = t
  have e1 : g * t / (g * n) = t / n := Int.mul_ediv_mul_of_pos _ _ hg
  have e2 : g * t % (g * n) = g * (t % n) := Int.mul_emod_mul_of_pos _ _ hg
  rw [e1, e2]
  generalize t % n = re
  have z0 : g * re = 0 ↔ re = 0 := ⟨fun z => (Int.mul_eq_zero.mp z).resolve_left (by omega), fun z => by rw [z, Int.mul_zero]⟩
  have z1 : 2 * (g * re) = g * n ↔ 2 * re = n := by
    rw [Int.mul_left_comm]
    exact ⟨fun z => Int.eq_of_mul_eq_mul_left (by omega) z, fun z => by rw [z]⟩
  have z2 : 2 * (g * re) < g * n ↔ 2 * re < n := by
    rw [Int.mul_left_comm]
    exact ⟨fun z => Int.lt_of_mul_lt_mul_left z (Int.le_of_lt hg), fun z => Int.mul_lt_mul_of_pos_left z hg⟩
  have z3 : 0 < g * t ↔ 0 < t := ⟨fun z => Int.pos_of_mul_pos_right z hg, fun z => Int.mul_pos hg z⟩
  simp only [z0, z1, z2, z3]
theorem units_cross {a b c d k : Int} {r : Ru} (hb : 0 < b) (hd : 0 < d) (h : a * d = c * b) : unitsF a b k r = unitsF c d k r := by
  rw [← units_scale (g := d) hd hb, ← units_scale (g := b) hb hd, Int.mul_comm d a, h, Int.mul_comm c b, Int.mul_comm d b]
theorem units_low {a b k : Int} {r : Ru} (hb : 0 < b) : unitsF (lowN a b) (lowU a b) k r = unitsF a b k r := by
  refine units_cross (lowU_pos hb) hb ?_
  have e1 := lowN_mul (a := a) hb
  have e2 := lowU_mul (a := a) hb
  calc lowN a b * b = lowN a b * (lowU a b * gcdI a b) := by rw [e2]
    _ = lowN a b * gcdI a b * lowU a b := by simp only [Int.mul_assoc, Int.mul_comm, Int.mul_left_comm]
    _ = _ := by rw [e1]
/-- in two steps -/
def twF (p n f t : Int) (r : Ru) : Int := unitsF (unitsF p n f r) (powT f) t r
theorem units_exact {p n k : Int} {r : Ru} (h : p * powT k % n = 0) : unitsF p n k r * n = p * powT k := by
  rw [near_zero _ _ _ _ h]
  exact Int.ediv_mul_cancel (Int.dvd_of_emod_eq_zero h)
theorem tw_exact {p n f t : Int} {r : Ru} (hn : 0 < n) (h : p * powT f % n = 0) : twF p n f t r = unitsF p n t r :=
  units_cross (powT_pos f) hn (units_exact h)
theorem units_self (u t : Int) (r : Ru) : unitsF u (powT t) t r = u := by
  have hp := powT_pos t
  rw [near_zero _ _ _ _ (Int.mul_emod_left ..)]
  exact Int.mul_ediv_cancel _ (by omega)
theorem tw_self (p n t : Int) (r : Ru) : twF p n t t r = unitsF p n t r := units_self ..
theorem powT_split {f t : Int} (h0 : 0 ≤ t) (h : t ≤ f) : powT f = powT t * powT (f - t) := by
  unfold powT
  rw [← Int.pow_add]
  congr 1
  omega
theorem powT_even {k : Int} (h : 0 < k) : ∃ e, powT k = 2 * e ∧ 0 < e := by
  refine ⟨5 * powT (k - 1), ?_, ?_⟩
  · have : powT k = powT 1 * powT (k - 1) := powT_split (by decide) (by omega)
    rw [this, show powT 1 = 10 from by decide]
    omega
  · have := powT_pos (k - 1)
    omega
/-- with t digits kept, a number with f digits is one over D -/
theorem tw_over {p n f t : Int} {r : Ru} (h0 : 0 ≤ t) (h : t ≤ f) : twF p n f t r = unitsF (unitsF p n f r) (powT (f - t)) 0 r := by
  have e := powT_split h0 h
  have hp := powT_pos t
  have hq := powT_pos (f - t)
  have hf := powT_pos f
  have z : powT 0 = 1 := by decide
  unfold twF
  generalize unitsF p n f r = u
  have d : unitsF u (powT f) t r = unitsF (u * powT t) (powT f) 0 r := by
    unfold unitsF
    rw [z, Int.mul_one]
  rw [d]
  refine units_cross hf hq ?_
  rw [e, Int.mul_assoc]
theorem once_over (p n t : Int) (r : Ru) : unitsF p n t r = unitsF (p * powT t) n 0 r := by
  unfold unitsF
  rw [show powT 0 = 1 from by decide, Int.mul_one]
/-- rounding by the floor and the rest -/
theorem units_at {a b : Int} {r : Ru} : unitsF a b 0 r = if a % b = 0 ∨ r = .down then a / b
  else if r = .up then a / b + 1
  else if r = .zero then (if 0 < a then a / b else a / b + 1)
  else if ¬ 2 * (a % b) = b then (if 2 * (a % b) < b then a / b else a / b + 1)
  else if r = .nup then a / b + 1
  else if r = .nzero then (if 0 < a then a / b else a / b + 1)
  else if r = .naway then (if 0 < a then a / b + 1 else a / b)
  else (if a / b % 2 = 0 then a / b else a / b + 1) := by
  unfold unitsF
  rw [show powT 0 = 1 from by decide, Int.mul_one]
/-- the first three rules never differ -/
theorem tw_dir {p n f t : Int} {r : Ru} (hn : 0 < n) (h0 : 0 ≤ t) (h : t ≤ f) (hr : isDir r = true) : twF p n f t r = unitsF p n t r := by
  rw [tw_over h0 h, once_over p n t r]
  have hD := powT_pos (f - t)
  have e : p * powT f = p * powT t * powT (f - t) := by rw [powT_split h0 h, Int.mul_assoc]
  -- X over n is x; U is x * D rounded
  have hX : unitsF p n f r = unitsF (p * powT t * powT (f - t)) n 0 r := by rw [once_over p n f r, e]
  rw [hX]
  generalize p * powT t = X
  generalize powT (f - t) = D at *
  have m1 := Int.mul_ediv_add_emod X n
  have m2 := Int.emod_lt_of_pos X hn
  have m3 := Int.emod_nonneg X (show n ≠ 0 by omega)
  have fl : X * D / n / D = X / n := by
    rw [Int.ediv_ediv_of_nonneg (by omega), Int.mul_ediv_mul_of_pos_left _ _ hD]
  have ceil : ∀ a b : Int, 0 < b → (if a % b = 0 then a / b else a / b + 1) = -((-a) / b) := fun a b hb => by
    have k1 := Int.mul_ediv_add_emod a b
    have k2 := Int.emod_lt_of_pos a hb
    have k3 := Int.emod_nonneg a (show b ≠ 0 by omega)
    split
    · rename_i z
      have : -a = -(a / b) * b := by rw [Int.neg_mul, Int.mul_comm]; omega
      rw [this, Int.mul_ediv_cancel _ (by omega)]
      omega
    · rename_i z
      have : -a = (b - a % b) + b * (-(a / b) - 1) := by
        rw [Int.mul_sub, Int.mul_neg]
        omega
      rw [this, Int.add_mul_ediv_left _ _ (by omega), Int.ediv_eq_zero_of_lt (a := b - a % b) (b := b) (by omega) (by omega)]
      omega
  have up : ∀ Y Z : Int, 0 < Z → unitsF Y Z 0 .up = -((-Y) / Z) := fun Y Z hZ => by
    rw [← ceil Y Z hZ, units_at]
    simp
  have dn : ∀ Y Z : Int, unitsF Y Z 0 .down = Y / Z := fun Y Z => by
    rw [units_at]
    simp
  have zp : ∀ Y Z : Int, 0 < Z → 0 < Y → unitsF Y Z 0 .zero = Y / Z := fun Y Z hZ hY => by
    rw [units_at]
    simp [hY]
  have zn : ∀ Y Z : Int, 0 < Z → ¬ 0 < Y → unitsF Y Z 0 .zero = -((-Y) / Z) := fun Y Z hZ hY => by
    rw [← ceil Y Z hZ, units_at]
    simp [hY]
  have ce : -(-(-(-(X * D) / n)) / D) = -(-X / n) := by
    rw [Int.neg_neg, Int.ediv_ediv_of_nonneg (by omega), ← Int.neg_mul, Int.mul_ediv_mul_of_pos_left _ _ hD]
  cases r with
  | down => rw [dn, dn, dn, fl]
  | up => rw [up _ _ hn, up _ _ hD, up _ _ hn, ce]
  | zero =>
    by_cases hx : 0 < X
    · have hxD : 0 < X * D := Int.mul_pos hx hD
      rw [zp _ _ hn hx, zp _ _ hn hxD]
      by_cases hy : 0 < X * D / n
      · rw [zp _ _ hD hy, fl]
      · have hy0 : X * D / n = 0 := by
          have := Int.ediv_nonneg (Int.le_of_lt hxD) (Int.le_of_lt hn)
          omega
        rw [zn _ _ hD hy, hy0, ← fl, hy0]
        simp
    · have hxD : ¬ 0 < X * D := fun z => hx (Int.pos_of_mul_pos_left z hD)
      rw [zn _ _ hn hx, zn _ _ hn hxD]
      have hy : ¬ 0 < -(-(X * D) / n) := by
        have := Int.ediv_nonneg (show 0 ≤ -(X * D) by omega) (Int.le_of_lt hn)
        omega
      rw [zn _ _ hD hy, ce]
  | _ => simp [isDir] at hr
/-- where two steps differ from one, a middle lies between -/
theorem tw_mid {p n f t : Int} {r : Ru} (hn : 0 < n) (h0 : 0 ≤ t) (h : t ≤ f) (hd : twF p n f t r ≠ unitsF p n t r) :
    2 * (unitsF p n f r % powT (f - t)) = powT (f - t) ∧ ((twF p n f t r - unitsF p n t r).natAbs : Int) = 1 := by
  have hr : isDir r = false := by
    cases e : isDir r with
    | false => rfl
    | true => exact absurd (tw_dir hn h0 h e) hd
  have hf : t < f := by
    rcases Int.lt_or_eq_of_le h with z | z
    · exact z
    · subst z
      exact absurd (tw_self ..) hd
  obtain ⟨e, he, he0⟩ := powT_even (k := f - t) (by omega)
  have nr := units_near p n f r hn hr
  have hD := powT_pos (f - t)
  rw [tw_over h0 h, once_over p n t r] at hd ⊢
  have ep : p * powT f = p * powT t * powT (f - t) := by rw [powT_split h0 h, Int.mul_assoc]
  rw [ep] at nr
  generalize p * powT t = X at *
  generalize unitsF p n f r = U at *
  generalize powT (f - t) = D at *
  have u1 := Int.mul_ediv_add_emod U D
  have u2 := Int.emod_lt_of_pos U hD
  have u3 := Int.emod_nonneg U (show D ≠ 0 by omega)
  have x1 := Int.mul_ediv_add_emod X n
  have x2 := Int.emod_lt_of_pos X hn
  have x3 := Int.emod_nonneg X (show n ≠ 0 by omega)
  -- U n = D n q + n s ;  |2 (U n - X D)| ≤ n
  generalize hq : U / D = q at *
  generalize hs : U % D = s at *
  have en : U * n = D * (q * n) + s * n := by rw [← u1, Int.add_mul, Int.mul_assoc]
  -- y: how far X lies above q n
  have key : ∀ y : Int, X = q * n + y → -n ≤ 2 * (s * n - y * D) ∧ 2 * (s * n - y * D) ≤ n := fun y hy => by
    have : X * D = D * (q * n) + y * D := by rw [hy, Int.add_mul, Int.mul_comm D]
    rw [en, this] at nr
    omega
  obtain ⟨y, hy⟩ : ∃ y, X = q * n + y := ⟨X - q * n, by omega⟩
  obtain ⟨k1, k2⟩ := key y hy
  subst he
  -- 2 y e is near s n
  have ye : y * (2 * e) = 2 * (y * e) := by rw [Int.mul_left_comm]
  rw [ye] at k1 k2
  -- the floor and the rest of X
  have rest : ∀ z : Int, 0 ≤ z → z < n → ∀ c : Int, X = c * n + z → X / n = c ∧ X % n = z := fun z z0 z1 c hc => by
    have e1 : X = z + n * c := by rw [hc, Int.mul_comm]; omega
    constructor
    · rw [e1, Int.add_mul_ediv_left _ _ (by omega), Int.ediv_eq_zero_of_lt z0 z1]
      omega
    · rw [e1, Int.add_mul_emod_self_left, Int.emod_eq_of_lt z0 z1]
  by_cases c1 : s < e
  · -- both give q
    exfalso
    apply hd
    have w1 : unitsF U (2 * e) 0 r = q := by
      rw [units_at, hq, hs]
      by_cases c0 : s = 0
      · rw [if_pos (.inl c0)]
      · cases r <;> simp only [isDir, Bool.true_eq_false] at hr <;> simp only [c0, reduceCtorEq, or_false, if_false] <;> rw [if_pos (by omega), if_pos (by omega)]
    have y1 : s * n ≤ e * n - n := by
      have : s * n ≤ (e - 1) * n := Int.mul_le_mul_of_nonneg_right (by omega) (by omega)
      rw [Int.sub_mul] at this
      omega
    have y2 : 2 * y < n := by
      have : y * e * 4 < 2 * (e * n) := by omega
      have h2 : e * (2 * y) < e * n := by
        rw [Int.mul_left_comm, Int.mul_comm e y]
        omega
      exact Int.lt_of_mul_lt_mul_left h2 (Int.le_of_lt he0)
    have y3 : -n < 2 * y := by
      have sn : 0 ≤ s * n := Int.mul_nonneg u3 (by omega)
      have h2 : e * (-n) < e * (2 * y) := by
        rw [Int.mul_left_comm, Int.mul_comm e y, Int.mul_neg]
        have : n ≤ e * n := by
          have := Int.mul_le_mul_of_nonneg_right (show 1 ≤ e by omega) (show 0 ≤ n by omega)
          omega
        omega
      exact Int.lt_of_mul_lt_mul_left h2 (Int.le_of_lt he0)
    rw [w1]
    by_cases y0 : 0 ≤ y
    · obtain ⟨f1, f2⟩ := rest y y0 (by omega) q hy
      rw [units_at, f1, f2]
      by_cases c0 : y = 0
      · rw [if_pos (.inl c0)]
      · cases r <;> simp only [isDir, Bool.true_eq_false] at hr <;> simp only [c0, reduceCtorEq, or_false, if_false] <;> rw [if_pos (by omega), if_pos (by omega)]
    · obtain ⟨f1, f2⟩ := rest (y + n) (by omega) (by omega) (q - 1) (by rw [Int.sub_mul]; omega)
      rw [units_at, f1, f2]
      have c0 : ¬ y + n = 0 := by omega
      cases r <;> simp only [isDir, Bool.true_eq_false] at hr <;> simp only [c0, reduceCtorEq, or_false, if_false] <;> rw [if_pos (by omega), if_neg (by omega)] <;> omega
  · by_cases c2 : s = e
    · refine ⟨by omega, ?_⟩
      subst c2
      -- X lies strictly between q n and (q + 1) n
      have y2 : 0 < y := by
        have : n ≤ s * n := by
          have := Int.mul_le_mul_of_nonneg_right (show 1 ≤ s by omega) (show 0 ≤ n by omega)
          omega
        have h2 : 0 < y * s := by omega
        exact Int.pos_of_mul_pos_left h2 he0
      have y3 : y < n := by
        have : n ≤ s * n := by
          have := Int.mul_le_mul_of_nonneg_right (show 1 ≤ s by omega) (show 0 ≤ n by omega)
          omega
        have h2 : y * s < n * s := by
          rw [Int.mul_comm n s]
          omega
        exact Int.lt_of_mul_lt_mul_right h2 (Int.le_of_lt he0)
      obtain ⟨f1, f2⟩ := rest y (by omega) y3 q hy
      have b1 : unitsF U (2 * s) 0 r = q ∨ unitsF U (2 * s) 0 r = q + 1 := by
        rw [units_at, hq]
        repeat' split
        all_goals first | exact .inl rfl | exact .inr rfl
      have b2 : unitsF X n 0 r = q ∨ unitsF X n 0 r = q + 1 := by
        rw [units_at, f1]
        repeat' split
        all_goals first | exact .inl rfl | exact .inr rfl
      omega
    · -- both give q + 1
      exfalso
      apply hd
      have w1 : unitsF U (2 * e) 0 r = q + 1 := by
        rw [units_at, hq, hs]
        have c0 : ¬ s = 0 := by omega
        cases r <;> simp only [isDir, Bool.true_eq_false] at hr <;> simp only [c0, reduceCtorEq, or_false, if_false] <;> rw [if_pos (by omega), if_neg (by omega)]
      have y1 : e * n + n ≤ s * n := by
        have : (e + 1) * n ≤ s * n := Int.mul_le_mul_of_nonneg_right (by omega) (by omega)
        rw [Int.add_mul] at this
        omega
      have y2 : n < 2 * y := by
        have h2 : e * n < e * (2 * y) := by
          rw [Int.mul_left_comm, Int.mul_comm e y]
          omega
        exact Int.lt_of_mul_lt_mul_left h2 (Int.le_of_lt he0)
      have y3 : 2 * y < 3 * n := by
        have sn : s * n ≤ (2 * e - 1) * n := Int.mul_le_mul_of_nonneg_right (by omega) (by omega)
        rw [Int.sub_mul, Int.mul_assoc] at sn
        have h2 : e * (2 * y) < e * (3 * n) := by
          rw [Int.mul_left_comm, Int.mul_comm e y, Int.mul_left_comm e 3]
          have : n ≤ e * n := by
            have := Int.mul_le_mul_of_nonneg_right (show 1 ≤ e by omega) (show 0 ≤ n by omega)
            omega
          omega
        exact Int.lt_of_mul_lt_mul_left h2 (Int.le_of_lt he0)
      rw [w1]
      by_cases y0 : y < n
      · obtain ⟨f1, f2⟩ := rest y (by omega) y0 q hy
        rw [units_at, f1, f2]
        have c0 : ¬ y = 0 := by omega
        cases r <;> simp only [isDir, Bool.true_eq_false] at hr <;> simp only [c0, reduceCtorEq, or_false, if_false] <;> rw [if_pos (by omega), if_neg (by omega)]
      · obtain ⟨f1, f2⟩ := rest (y - n) (by omega) (by omega) (q + 1) (by rw [Int.add_mul]; omega)
        rw [units_at, f1, f2]
        by_cases c0 : y - n = 0
        · rw [if_pos (.inl c0)]
        · cases r <;> simp only [isDir, Bool.true_eq_false] at hr <;> simp only [c0, reduceCtorEq, or_false, if_false] <;> rw [if_pos (by omega), if_pos (by omega)]
/-- two steps stay within two units -/
theorem tw_err {p n f t : Int} {r : Ru} (hn : 0 < n) (h0 : 0 ≤ t) (h : t ≤ f) : ((twF p n f t r * n - p * powT t).natAbs : Int) ≤ 2 * n := by
  by_cases hd : twF p n f t r = unitsF p n t r
  · have := units_err p n t r hn
    rw [hd]
    omega
  · have h1 := (tw_mid hn h0 h hd).2
    have := units_err p n t r hn
    have e : twF p n f t r * n - p * powT t = (twF p n f t r - unitsF p n t r) * n + (unitsF p n t r * n - p * powT t) := by rw [Int.sub_mul]; omega
    rw [e]
    rcases (by omega : twF p n f t r - unitsF p n t r = 1 ∨ twF p n f t r - unitsF p n t r = -1) with z | z <;> rw [z] <;> omega
/-! ### the steps' answers -/
def trapB (p n t : Int) (u : Ru) (k : Nat) : Bool := !decide (twF p n (k : Int) t u = unitsF p n t u)
def trapK (p n t : Int) (u : Ru) : Option Nat := fstK (trapB p n t u) t.toNat (7 - t).toNat
def stepL (r : Ru) : Nat → Int → Int → List Int
  | 0, p, n => [unitsF p n 0 r]
  | d + 1, p, n => unitsF p n ((d + 1 : Nat) : Int) r :: stepL r d (unitsF p n ((d + 1 : Nat) : Int) r) (powT ((d + 1 : Nat) : Int))
theorem step_low {r : Ru} {m : Nat} {a b : Int} (hb : 0 < b) : stepL r m (lowN a b) (lowU a b) = stepL r m a b := by
  cases m with
  | zero => simp only [stepL, units_low hb]
  | succ m => simp only [stepL, units_low hb]
theorem step_len (r : Ru) : ∀ (m : Nat) (p n : Int), (stepL r m p n).length = m + 1
  | 0, p, n => rfl
  | m + 1, p, n => by simp [stepL, step_len r m]
theorem step_ne (r : Ru) (m : Nat) (p n : Int) : stepL r m p n ≠ [] := fun z => by
  have := step_len r m p n
  rw [z] at this
  simp at this
/-- the last of the steps -/
def stepZ (r : Ru) (m : Nat) (p n : Int) : Int := (stepL r m p n).getLast (step_ne r m p n)
theorem ix_last (L : List Int) (h : L ≠ []) : ixD (.list (L.map PyData.int)) (.int (-1)) = some (.int (L.getLast h)) := by
  have e : L.map PyData.int = (L.dropLast.map PyData.int) ++ [.int (L.getLast h)] := by
    rw [← List.map_singleton, ← List.map_append, List.dropLast_concat_getLast]
  rw [e]
  exact L2.atI_last _ _
def trapsB (m k j : Int) (u : Ru) (i : Nat) : Bool := decide (lowU (i : Int) m = m) && !decide (twF (lowN (i : Int) m) (lowU (i : Int) m) k j u = unitsF (lowN (i : Int) m) (lowU (i : Int) m) j u)
def trapsN (m k j : Int) (u : Ru) : Int := (((List.range (m + 1).toNat).filter (trapsB m k j u)).length : Int)
end SD

namespace SD
open PySem DL

/-! ### periods -/
/-- rest comes to 1 within so many turns -/
def stopB (L : Int) : Nat → Int → Bool
  | 0, x => decide (x = 1)
  | f + 1, x => if x = 1 then true else stopB L f (x * 10 % L)
def ordF (L : Int) : Nat → Int → Nat
  | 0, _ => 0
  | f + 1, x => if x = 1 then 0 else ordF L f (x * 10 % L) + 1
/-- the period's length -/
def perL (n : Int) : Int := if partsL n = 1 then 0 else (ordF (partsL n) 60 (10 % partsL n) : Int) + 1
theorem per_all : ((List.range 60).all fun i => (decide (partsL ((i : Int) + 1) = 1) || stopB (partsL ((i : Int) + 1)) 60 (10 % partsL ((i : Int) + 1))) && decide (0 ≤ perL ((i : Int) + 1) ∧ perL ((i : Int) + 1) ≤ 58)) = true := by decide +kernel
theorem per_at {n : Int} (h1 : 1 ≤ n) (h2 : n ≤ 60) : (¬ partsL n = 1 → stopB (partsL n) 60 (10 % partsL n) = true) ∧ (0 ≤ perL n ∧ perL n ≤ 58) := by
  have h := List.all_eq_true.mp per_all (n - 1).toNat (List.mem_range.mpr (by omega))
  have e : (((n - 1).toNat : Nat) : Int) + 1 = n := by omega
  rw [e, Bool.and_eq_true] at h
  refine ⟨fun c => ?_, of_decide_eq_true h.2⟩
  have := h.1
  rw [decide_eq_false c] at this
  simpa using this
/-- digits by dividing -/
def digL (n : Int) : Nat → Int → List Int
  | 0, _ => []
  | m + 1, x => x * 10 / n :: digL n m (x * 10 % n)
def rstL (n : Int) : Nat → Int → Int
  | 0, x => x
  | m + 1, x => rstL n m (x * 10 % n)
theorem digL_len (n : Int) : ∀ (m : Nat) (x : Int), (digL n m x).length = m
  | 0, x => rfl
  | m + 1, x => by simp [digL, digL_len n m]
theorem digL_snoc (n : Int) : ∀ (m : Nat) (x : Int), digL n (m + 1) x = digL n m x ++ [rstL n m x * 10 / n]
  | 0, x => rfl
  | m + 1, x => by
    have ih := digL_snoc n m (x * 10 % n)
    show x * 10 / n :: digL n (m + 1) (x * 10 % n) = _
    rw [ih]
    rfl
theorem rstL_succ (n : Int) : ∀ (m : Nat) (x : Int), rstL n (m + 1) x = rstL n m x * 10 % n
  | 0, x => rfl
  | m + 1, x => rstL_succ n m (x * 10 % n)
def rst0 (p n : Int) : Int := (p.natAbs : Int) % n
def digs (p n : Int) (m : Nat) : List Int := digL n m (rst0 p n)
def perD (p n : Int) : List Int := (digs p n (partsB n + perL n).toNat).drop (partsB n).toNat
end SD

namespace SD
open PySem DL

/-! ### what is rounded to a decimal -/
def spK (d : Int) (r : Ru) : Int := if isDir r = true then powT d else 2 * powT d
def loN (u : Int) : Ru → Int
  | .down => u
  | .up => u - 1
  | .zero => if 0 < u then u else if u < 0 then u - 1 else -1
  | _ => 2 * u - 1
def hiN (u : Int) : Ru → Int
  | .down => u + 1
  | .up => u
  | .zero => if 0 < u then u + 1 else if u < 0 then u else 1
  | _ => 2 * u + 1
def loI (u : Int) : Ru → Bool
  | .down => true
  | .up => false
  | .zero => decide (0 < u)
  | .nup => true
  | .nzero => decide (u ≤ 0)
  | .naway => decide (0 < u)
  | .neven => decide (u % 2 = 0)
def hiI (u : Int) : Ru → Bool
  | .down => false
  | .up => true
  | .zero => decide (u < 0)
  | .nup => false
  | .nzero => decide (0 ≤ u)
  | .naway => decide (u < 0)
  | .neven => decide (u % 2 = 0)
/-- a range as data -/
def spanT (a b : Int) (i : Bool) (c d : Int) (j : Bool) : PyData := .tuple [fr a b, .bool i, fr c d, .bool j]
def spanF (u d : Int) (r : Ru) : PyData := spanT (lowN (loN u r) (spK d r)) (lowU (loN u r) (spK d r)) (loI u r) (lowN (hiN u r) (spK d r)) (lowU (hiN u r) (spK d r)) (hiI u r)
theorem spK_pos (d : Int) (r : Ru) : 0 < spK d r := by
  have := powT_pos d
  unfold spK
  split <;> omega
theorem spK_le {d : Int} (r : Ru) (h : d ≤ 6) : spK d r ≤ 2000000 := by
  have := powT_le h
  have := powT_pos d
  unfold spK
  split <;> omega
theorem shaped_span (a b : Int) (i : Bool) (c d : Int) (j : Bool) : SeqAt.shaped (spanT a b i c d j) = true := by
  simp [spanT, SeqAt.shaped, PyData.canLay0, PyData.canLayAll0, PyData.depth, PyData.depthAll]
theorem eqv_span (a b : Int) (i : Bool) (c d : Int) (j : Bool) (a' b' : Int) (i' : Bool) (c' d' : Int) (j' : Bool) : PyData.eqv (spanT a b i c d j) (spanT a' b' i' c' d' j') = decide (a = a' ∧ b = b' ∧ i = i' ∧ c = c' ∧ d = d' ∧ j = j') := by
  by_cases h1 : a = a' <;> by_cases h2 : b = b' <;> by_cases h3 : c = c' <;> by_cases h4 : d = d' <;> cases i <;> cases i' <;> cases j <;> cases j' <;> simp [spanT, PyData.eqv, PyData.eqvAll, eqv_int, eqv_bool, h1, h2, h3, h4]
theorem neD_span (a b : Int) (i : Bool) (c d : Int) (j : Bool) (a' b' : Int) (i' : Bool) (c' d' : Int) (j' : Bool) : neD (spanT a b i c d j) (spanT a' b' i' c' d' j') = some (!decide (a = a' ∧ b = b' ∧ i = i' ∧ c = c' ∧ d = d' ∧ j = j')) := by
  unfold neD
  rw [if_pos ⟨shaped_span .., shaped_span ..⟩, eqv_span]
/-! ### opposites -/
theorem lowN_neg (a b : Int) : lowN (-a) b = -lowN a b := by
  unfold lowN gcdI
  rw [Int.neg_gcd]
  exact Int.neg_ediv_of_dvd (Int.gcd_dvd_left ..)
theorem lowU_neg (a b : Int) : lowU (-a) b = lowU a b := by
  unfold lowU gcdI
  rw [Int.neg_gcd]
/-- the rule seen in a mirror -/
def flipR : Ru → Ru
  | .down => .up
  | .up => .down
  | .nup => .nup
  | r => r
theorem units_neg {p n d : Int} {r : Ru} (hn : 0 < n) (hr : r ≠ .nup) : unitsF (-p) n d r = -unitsF p n d (flipR r) := by
  have hdm := Int.mul_ediv_add_emod (p * powT d) n
  have hm := Int.emod_lt_of_pos (p * powT d) hn
  have hm0 := Int.emod_nonneg (p * powT d) (show n ≠ 0 by omega)
  unfold unitsF
  rw [Int.neg_mul]
  generalize p * powT d = t at *
  by_cases c : t % n = 0
  · have e : -t = n * (-(t / n)) := by rw [Int.mul_neg]; omega
    have e1 : -t / n = -(t / n) := by rw [e]; exact Int.mul_ediv_cancel_left _ (by omega)
    have e2 : -t % n = 0 := by rw [e]; exact Int.mul_emod_right ..
    rw [if_pos (.inl e2), if_pos (.inl c), e1]
  · have e : -t = (n - t % n) + n * (-(t / n) - 1) := by rw [Int.mul_sub, Int.mul_neg]; omega
    have e1 : -t / n = -(t / n) - 1 := by
      rw [e, Int.add_mul_ediv_left _ _ (by omega), Int.ediv_eq_zero_of_lt (a := n - t % n) (b := n) (by omega) (by omega)]
      omega
    have e2 : -t % n = n - t % n := by
      rw [e, Int.add_mul_emod_self_left, Int.emod_eq_of_lt (by omega) (by omega)]
    rw [e1, e2]
    have c2 : ¬ n - t % n = 0 := by omega
    have t0 : t ≠ 0 := fun z => c (by rw [z]; exact Int.zero_emod _)
    generalize t % n = s at *
    generalize t / n = f at *
    cases r <;> simp only [flipR, ne_eq, not_true] at hr <;> simp only [flipR, c, c2, reduceCtorEq, or_false, or_true, if_true, if_false]
    all_goals (repeat' split)
    all_goals omega
theorem units_neg_nup {p n d : Int} (hn : 0 < n) : (2 * (p * powT d % n) = n → unitsF p n d .nup = unitsF p n d .up ∧ -unitsF (-p) n d .nup = unitsF p n d .down) ∧ (¬ 2 * (p * powT d % n) = n → -unitsF (-p) n d .nup = unitsF p n d .nup) := by
  have hdm := Int.mul_ediv_add_emod (p * powT d) n
  have hm := Int.emod_lt_of_pos (p * powT d) hn
  have hm0 := Int.emod_nonneg (p * powT d) (show n ≠ 0 by omega)
  unfold unitsF
  rw [Int.neg_mul]
  generalize p * powT d = t at *
  by_cases c : t % n = 0
  · have e : -t = n * (-(t / n)) := by rw [Int.mul_neg]; omega
    have e1 : -t / n = -(t / n) := by rw [e]; exact Int.mul_ediv_cancel_left _ (by omega)
    have e2 : -t % n = 0 := by rw [e]; exact Int.mul_emod_right ..
    simp only [e1, e2, c, true_or, if_true]
    exact ⟨fun z => by omega, fun z => by omega⟩
  · have e : -t = (n - t % n) + n * (-(t / n) - 1) := by rw [Int.mul_sub, Int.mul_neg]; omega
    have e1 : -t / n = -(t / n) - 1 := by
      rw [e, Int.add_mul_ediv_left _ _ (by omega), Int.ediv_eq_zero_of_lt (a := n - t % n) (b := n) (by omega) (by omega)]
      omega
    have e2 : -t % n = n - t % n := by
      rw [e, Int.add_mul_emod_self_left, Int.emod_eq_of_lt (by omega) (by omega)]
    rw [e1, e2]
    have c2 : ¬ n - t % n = 0 := by omega
    generalize t % n = s at *
    generalize t / n = f at *
    simp only [c, c2, reduceCtorEq, or_false, or_true, if_true, if_false]
    constructor
    · intro z
      have z2 : 2 * (n - s) = n := by omega
      simp only [z, z2, eq_self, not_true, if_false]
      exact ⟨trivial, by omega⟩
    · intro z
      have z2 : ¬ 2 * (n - s) = n := by omega
      rw [if_pos z, if_pos z2]
      by_cases z3 : 2 * s < n
      · rw [if_pos z3, if_neg (by omega)]
        omega
      · rw [if_neg z3, if_pos (by omega)]
        omega
/-- the rules that stay -/
def isSym : Ru → Bool
  | .zero => true
  | .nzero => true
  | .naway => true
  | .neven => true
  | _ => false
theorem flip_sym {r : Ru} (h : isSym r = true) : flipR r = r := by cases r <;> first | rfl | simp [isSym] at h
theorem span_neg (u d : Int) {r : Ru} (h : isSym r = true) : spanF (-u) d r = spanT (-lowN (hiN u r) (spK d r)) (lowU (hiN u r) (spK d r)) (hiI u r) (-lowN (loN u r) (spK d r)) (lowU (loN u r) (spK d r)) (loI u r) := by
  have a1 : loN (-u) r = -hiN u r := by
    cases r <;> simp only [isSym, Bool.false_eq_true] at h <;> simp only [loN, hiN]
    all_goals (repeat' split)
    all_goals omega
  have a2 : hiN (-u) r = -loN u r := by
    cases r <;> simp only [isSym, Bool.false_eq_true] at h <;> simp only [loN, hiN]
    all_goals (repeat' split)
    all_goals omega
  have a3 : loI (-u) r = hiI u r := by
    cases r <;> simp only [isSym, Bool.false_eq_true] at h <;> simp only [loI, hiI] <;> exact decide_eq_decide.mpr (by omega)
  have a4 : hiI (-u) r = loI u r := by
    cases r <;> simp only [isSym, Bool.false_eq_true] at h <;> simp only [loI, hiI] <;> exact decide_eq_decide.mpr (by omega)
  unfold spanF
  rw [a1, a2, a3, a4, lowN_neg, lowN_neg, lowU_neg, lowU_neg]
/-- a whole step further -/
theorem units_shift {p n d : Int} {r : Ru} (hn : 0 < n) (h0 : 0 ≤ d) (hr : r = .down ∨ r = .up ∨ r = .nup ∨ (r = .neven ∧ 0 < d)) : unitsF (p + n) n d r = unitsF p n d r + powT d := by
  have e : (p + n) * powT d = p * powT d + n * powT d := Int.add_mul ..
  unfold unitsF
  rw [e, Int.add_mul_ediv_left _ _ (by omega), Int.add_mul_emod_self_left]
  have ev : 0 < d → powT d % 2 = 0 := fun z => by
    obtain ⟨x, hx, _⟩ := powT_even z
    omega
  generalize p * powT d = t at *
  rcases hr with rfl | rfl | rfl | ⟨rfl, hd⟩
  · simp
  · simp only [reduceCtorEq, or_false, if_true, if_false]
    split <;> omega
  · simp only [reduceCtorEq, or_false, if_true, if_false]
    repeat' split
    all_goals omega
  · have := ev hd
    simp only [reduceCtorEq, or_false, if_false]
    repeat' split
    all_goals omega
theorem units_bound {p n d : Int} {r : Ru} (hn : 0 < n) (h1 : -100 * n ≤ p) (h2 : p ≤ 100 * n) : -100 * powT d ≤ unitsF p n d r ∧ unitsF p n d r ≤ 100 * powT d := by
  have hp := powT_pos d
  have er := units_err p n d r hn
  have b1 : p * powT d ≤ 100 * n * powT d := Int.mul_le_mul_of_nonneg_right h2 (Int.le_of_lt hp)
  have b2 : -100 * n * powT d ≤ p * powT d := Int.mul_le_mul_of_nonneg_right h1 (Int.le_of_lt hp)
  have e1 : 100 * n * powT d = n * (100 * powT d) := by rw [Int.mul_comm 100 n, Int.mul_assoc]
  have e2 : -100 * n * powT d = n * (-100 * powT d) := by rw [Int.mul_comm (-100) n, Int.mul_assoc]
  rw [e1] at b1
  rw [e2] at b2
  generalize unitsF p n d r = u at *
  rw [Int.mul_comm u n] at er
  constructor
  · have : n * (-100 * powT d) < n * (u + 1) := by rw [Int.mul_add]; omega
    have := Int.lt_of_mul_lt_mul_left this (Int.le_of_lt hn)
    omega
  · have : n * u < n * (100 * powT d + 1) := by rw [Int.mul_add]; omega
    have := Int.lt_of_mul_lt_mul_left this (Int.le_of_lt hn)
    omega
end SD

namespace SD
open PySem DL

/-! ### ranges: what lies in them -/
theorem low_id' {a b : Int} (h : Int.gcd a b = 1) : lowN a b = a ∧ lowU a b = b := by
  have g : gcdI a b = 1 := by unfold gcdI; rw [h]; rfl
  unfold lowN lowU
  rw [g]
  exact ⟨Int.ediv_one _, Int.ediv_one _⟩
theorem low_self {a b : Int} (hb : 0 < b) : (lowN a b = a ∧ lowU a b = b) ↔ Int.gcd a b = 1 := by
  constructor
  · intro h
    have e := lowU_mul (a := a) hb
    rw [h.2] at e
    have e : b * gcdI a b = b * 1 := by rw [e, Int.mul_one]
    have := Int.eq_of_mul_eq_mul_left (by omega) e
    unfold gcdI at this
    omega
  · exact low_id'
/-- a number t/m against an end a/b -/
theorem cross_lt_l {p n a b : Int} (hb : 0 < b) : p * lowU a b < lowN a b * n ↔ p * b < a * n := by
  have g := gcdI_pos (a := a) hb
  have e1 := lowN_mul (a := a) hb
  have e2 := lowU_mul (a := a) hb
  have h1 : p * b = (p * lowU a b) * gcdI a b := by rw [Int.mul_assoc, e2]
  have h2 : a * n = (lowN a b * n) * gcdI a b := by rw [Int.mul_right_comm, e1]
  rw [h1, h2]
  exact ⟨fun h => Int.mul_lt_mul_of_pos_right h g, fun h => Int.lt_of_mul_lt_mul_right h (Int.le_of_lt g)⟩
theorem cross_lt_r {p n a b : Int} (hb : 0 < b) : lowN a b * n < p * lowU a b ↔ a * n < p * b := by
  have g := gcdI_pos (a := a) hb
  have e1 := lowN_mul (a := a) hb
  have e2 := lowU_mul (a := a) hb
  have h1 : p * b = (p * lowU a b) * gcdI a b := by rw [Int.mul_assoc, e2]
  have h2 : a * n = (lowN a b * n) * gcdI a b := by rw [Int.mul_right_comm, e1]
  rw [h1, h2]
  exact ⟨fun h => Int.mul_lt_mul_of_pos_right h g, fun h => Int.lt_of_mul_lt_mul_right h (Int.le_of_lt g)⟩
theorem cross_eq {p n a b : Int} (hn : 0 < n) (hg : Int.gcd p n = 1) (hb : 0 < b) : (p = lowN a b ∧ n = lowU a b) ↔ p * b = a * n := by
  have e1 := lowN_mul (a := a) hb
  have e2 := lowU_mul (a := a) hb
  constructor
  · rintro ⟨h1, h2⟩
    rw [← e2, ← h2]
    have : a * n = lowN a b * gcdI a b * n := by rw [e1]
    rw [this, ← h1, Int.mul_right_comm, Int.mul_assoc]
  · intro h
    have l := low_cross hn hb (a := p) (c := a) h
    have i := low_id' hg
    rw [i.1, i.2] at l
    exact l
/-- within, by the ends a/b and c/d -/
def withB (a b : Int) (i : Bool) (c d : Int) (j : Bool) (p n : Int) : Bool :=
  decide (¬ p * b < a * n ∧ ¬ c * n < p * d ∧ ¬ ((p = a ∧ n = b) ∧ i = false) ∧ ¬ ((p = c ∧ n = d) ∧ j = false))
/-- by numbers a/b, c/d not in lowest terms -/
def inB (a b : Int) (i : Bool) (c d : Int) (j : Bool) (p n : Int) : Bool :=
  decide ((a * n < p * b ∨ (p * b = a * n ∧ i = true)) ∧ (p * d < c * n ∨ (p * d = c * n ∧ j = true)))
theorem with_in {a b : Int} {i : Bool} {c d : Int} {j : Bool} {p n : Int} (hb : 0 < b) (hd : 0 < d) (hn : 0 < n) (hg : Int.gcd p n = 1) :
    withB (lowN a b) (lowU a b) i (lowN c d) (lowU c d) j p n = inB a b i c d j p n := by
  unfold withB inB
  refine decide_eq_decide.mpr ?_
  rw [cross_lt_l hb, cross_lt_r hd, cross_eq hn hg hb, cross_eq hn hg hd]
  cases i <;> cases j <;> simp <;> omega
/-- in lowest terms already -/
theorem with_in' {a b : Int} {i : Bool} {c d : Int} {j : Bool} {p n : Int} (hb : 0 < b) (ga : Int.gcd a b = 1) (hd : 0 < d) (gc : Int.gcd c d = 1) (hn : 0 < n) (hg : Int.gcd p n = 1) :
    withB a b i c d j p n = inB a b i c d j p n := by
  have h := with_in (a := a) (b := b) (i := i) (c := c) (d := d) (j := j) hb hd hn hg
  rw [(low_id' ga).1, (low_id' ga).2, (low_id' gc).1, (low_id' gc).2] at h
  exact h
/-- the law's own within -/
def lawW (a b : Int) (i : Bool) (c d : Int) (j : Bool) (p n : Int) : Bool :=
  if (p = a ∧ n = b) ∨ (p = c ∧ n = d) then (!decide (p = a ∧ n = b) || i) && (!decide (p = c ∧ n = d) || j)
  else decide (a * n < p * b) && decide (p * d < c * n)
theorem law_in {a b : Int} {i : Bool} {c d : Int} {j : Bool} {p n : Int} (hb : 0 < b) (hd : 0 < d) (hn : 0 < n) (hg : Int.gcd p n = 1) (hle : a * d ≤ c * b) :
    lawW (lowN a b) (lowU a b) i (lowN c d) (lowU c d) j p n = inB a b i c d j p n := by
  unfold lawW inB
  simp only [cross_lt_l hd, cross_lt_r hb, cross_eq hn hg hb, cross_eq hn hg hd]
  -- p b against a n, p d against c n: both scaled
  have k1 : p * b = a * n → p * d ≤ c * n := fun h => by
    have : p * d * b ≤ c * n * b := by
      rw [Int.mul_right_comm, h, Int.mul_right_comm a n d, Int.mul_right_comm c n b]
      exact Int.mul_le_mul_of_nonneg_right hle (Int.le_of_lt hn)
    exact Int.le_of_mul_le_mul_right this hb
  have k2 : p * d = c * n → a * n ≤ p * b := fun h => by
    have : a * n * d ≤ p * b * d := by
      rw [Int.mul_right_comm p b d, h, Int.mul_right_comm a n d, Int.mul_right_comm c n b]
      exact Int.mul_le_mul_of_nonneg_right hle (Int.le_of_lt hn)
    exact Int.le_of_mul_le_mul_right this hd
  rw [Bool.eq_iff_iff]
  by_cases h1 : p * b = a * n <;> by_cases h2 : p * d = c * n <;> cases i <;> cases j <;> simp [h1, h2] <;> first | omega | (have := k1 h1; omega) | (have := k2 h2; omega) | skip
/-! ### what is rounded to u, by its range -/
theorem span_units (u t m d : Int) (r : Ru) (hm : 0 < m) :
    inB (loN u r) (spK d r) (loI u r) (hiN u r) (spK d r) (hiI u r) t m = decide (unitsF t m d r = u) := by
  have hP := powT_pos d
  have hdm := Int.mul_ediv_add_emod (t * powT d) m
  have hre := Int.emod_lt_of_pos (t * powT d) hm
  have hre0 := Int.emod_nonneg (t * powT d) (show m ≠ 0 by omega)
  have e2 : t * (2 * powT d) = 2 * (t * powT d) := by rw [Int.mul_left_comm]
  unfold inB unitsF
  refine decide_eq_decide.mpr ?_
  generalize t * powT d / m = fl at *
  generalize t * powT d % m = re at *
  -- where u lies
  have c1 : u < fl → u * m ≤ m * fl - m := fun h => by
    have : u * m ≤ (fl - 1) * m := Int.mul_le_mul_of_nonneg_right (by omega) (Int.le_of_lt hm)
    rw [Int.sub_mul, Int.one_mul, Int.mul_comm fl m] at this
    exact this
  have c2 : u = fl → u * m = m * fl := fun h => by rw [h, Int.mul_comm]
  have c3 : u = fl + 1 → u * m = m * fl + m := fun h => by rw [h, Int.add_mul, Int.one_mul, Int.mul_comm]
  have c4 : fl + 1 < u → m * fl + 2 * m ≤ u * m := fun h => by
    have : (fl + 2) * m ≤ u * m := Int.mul_le_mul_of_nonneg_right (by omega) (Int.le_of_lt hm)
    rw [Int.add_mul, Int.mul_comm fl m] at this
    exact this
  have s1 : 0 ≤ fl → 0 ≤ m * fl := fun h => Int.mul_nonneg (Int.le_of_lt hm) h
  have s2 : fl ≤ -1 → m * fl ≤ -m := fun h => by
    have : m * fl ≤ m * (-1) := Int.mul_le_mul_of_nonneg_left h (Int.le_of_lt hm)
    omega
  have s3 : 1 ≤ fl → m ≤ m * fl := fun h => by
    have : m * 1 ≤ m * fl := Int.mul_le_mul_of_nonneg_left h (Int.le_of_lt hm)
    omega
  have a1 : (2 * u - 1) * m = 2 * (u * m) - m := by rw [Int.sub_mul, Int.mul_assoc, Int.one_mul]
  have a2 : (2 * u + 1) * m = 2 * (u * m) + m := by rw [Int.add_mul, Int.mul_assoc, Int.one_mul]
  have a3 : (u - 1) * m = u * m - m := by rw [Int.sub_mul, Int.one_mul]
  have a4 : (u + 1) * m = u * m + m := by rw [Int.add_mul, Int.one_mul]
  have hU : (u < fl ∧ u * m ≤ m * fl - m) ∨ (u = fl ∧ u * m = m * fl) ∨ (u = fl + 1 ∧ u * m = m * fl + m) ∨ (fl + 1 < u ∧ m * fl + 2 * m ≤ u * m) := by
    rcases (by omega : u < fl ∨ u = fl ∨ u = fl + 1 ∨ fl + 1 < u) with h | h | h | h
    · exact .inl ⟨h, c1 h⟩
    · exact .inr (.inl ⟨h, c2 h⟩)
    · exact .inr (.inr (.inl ⟨h, c3 h⟩))
    · exact .inr (.inr (.inr ⟨h, c4 h⟩))
  have hX : (fl ≤ -1 ∧ m * fl ≤ -m) ∨ (0 ≤ fl ∧ 0 ≤ m * fl) := by
    rcases (by omega : fl ≤ -1 ∨ 0 ≤ fl) with h | h
    · exact .inl ⟨h, s2 h⟩
    · exact .inr ⟨h, s1 h⟩
  have u0 : u = 0 → u * m = 0 := fun h => by rw [h, Int.zero_mul]
  clear c1 c2 c3 c4 s1 s2 s3
  cases r
  · simp only [loN, hiN, loI, hiI, spK, isDir, if_true, or_true, a4, and_true, Bool.false_eq_true, and_false, or_false]
    rcases hU with ⟨h1, h2⟩ | ⟨h1, h2⟩ | ⟨h1, h2⟩ | ⟨h1, h2⟩ <;> omega
  · simp only [loN, hiN, loI, hiI, spK, isDir, if_true, or_false, a3, and_true, Bool.false_eq_true, and_false, reduceCtorEq]
    rcases hU with ⟨h1, h2⟩ | ⟨h1, h2⟩ | ⟨h1, h2⟩ | ⟨h1, h2⟩ <;> split <;> omega
  · simp only [loN, hiN, loI, hiI, spK, isDir, if_true, or_false, and_true, reduceCtorEq, decide_eq_true_eq, if_false]
    by_cases p1 : 0 < u
    · have p2 : ¬ u < 0 := by omega
      rw [if_pos p1, if_pos p1, a4]
      rcases hU with ⟨h1, h2⟩ | ⟨h1, h2⟩ | ⟨h1, h2⟩ | ⟨h1, h2⟩ <;> rcases hX with ⟨h3, h4⟩ | ⟨h3, h4⟩ <;> (repeat' split) <;> omega
    · by_cases p2 : u < 0
      · rw [if_neg p1, if_neg p1, if_pos p2, if_pos p2, a3]
        rcases hU with ⟨h1, h2⟩ | ⟨h1, h2⟩ | ⟨h1, h2⟩ | ⟨h1, h2⟩ <;> rcases hX with ⟨h3, h4⟩ | ⟨h3, h4⟩ <;> (repeat' split) <;> omega
      · have u0' := u0 (by omega)
        rw [if_neg p1, if_neg p1, if_neg p2, if_neg p2, Int.neg_mul, Int.one_mul]
        rcases hU with ⟨h1, h2⟩ | ⟨h1, h2⟩ | ⟨h1, h2⟩ | ⟨h1, h2⟩ <;> rcases hX with ⟨h3, h4⟩ | ⟨h3, h4⟩ <;> (repeat' split) <;> omega
  all_goals
    simp only [loN, hiN, loI, hiI, spK, isDir, Bool.false_eq_true, if_false, or_false, and_true, reduceCtorEq, a1, a2, e2, and_false, if_true, decide_eq_true_eq]
    rcases hU with ⟨h1, h2⟩ | ⟨h1, h2⟩ | ⟨h1, h2⟩ | ⟨h1, h2⟩ <;> rcases hX with ⟨h3, h4⟩ | ⟨h3, h4⟩ <;> (repeat' split) <;> omega
end SD

namespace SD
open PySem DL

/-! ### whole numbers from a on, below b -/
def rngI (a b : Int) : List Int := (List.range (b - a).toNat).map fun (k : Nat) => a + (k : Int)
theorem rngI_len (a b : Int) : (rngI a b).length = (b - a).toNat := by simp [rngI]
theorem rngI_mem {a b t : Int} : t ∈ rngI a b ↔ a ≤ t ∧ t < b := by
  unfold rngI
  rw [List.mem_map]
  constructor
  · rintro ⟨k, hk, rfl⟩
    have := List.mem_range.mp hk
    omega
  · intro h
    exact ⟨(t - a).toNat, List.mem_range.mpr (by omega), by omega⟩
theorem rngI_nil {a b : Int} (h : b ≤ a) : rngI a b = [] := by
  unfold rngI
  rw [show (b - a).toNat = 0 by omega]
  rfl
theorem rngI_split {a b c : Int} (h1 : a ≤ b) (h2 : b ≤ c) : rngI a c = rngI a b ++ rngI b c := by
  unfold rngI
  rw [show (c - a).toNat = (b - a).toNat + (c - b).toNat by omega, List.range_add, List.map_append, List.map_map]
  congr 1
  refine List.map_congr_left fun k _ => ?_
  show a + (((b - a).toNat + k : Nat) : Int) = b + (k : Int)
  omega
theorem rngI_snoc (a : Int) (j : Nat) : rngI a (a + ((j + 1 : Nat) : Int)) = rngI a (a + (j : Int)) ++ [a + (j : Int)] := by
  unfold rngI
  rw [show (a + ((j + 1 : Nat) : Int) - a).toNat = j + 1 by omega, show (a + (j : Int) - a).toNat = j by omega, List.range_succ, List.map_append]
  rfl
theorem rngI_D (a : Int) (n : Nat) : rngD a n = (rngI a (a + (n : Int))).map PyData.int := by
  unfold rngD rngI
  rw [show (a + (n : Int) - a).toNat = n by omega, List.map_map]
  rfl
theorem filt_rng {f : Int → Bool} {a b A B : Int} (hA : A ≤ a) (hB : b ≤ B) (hf : ∀ t, f t = true → A ≤ t → t < B → a ≤ t ∧ t < b) : (rngI A B).filter f = (rngI a b).filter f := by
  rcases Int.lt_or_le b a with h | h
  · rw [rngI_nil (Int.le_of_lt h)]
    refine List.filter_eq_nil_iff.mpr fun t ht z => ?_
    have := rngI_mem.mp ht
    have := hf t z this.1 this.2
    omega
  · rw [rngI_split (a := A) (b := a) (c := B) hA (by omega), rngI_split (a := a) (b := b) (c := B) h hB, List.filter_append, List.filter_append]
    have e1 : (rngI A a).filter f = [] := List.filter_eq_nil_iff.mpr fun t ht z => by
      have := rngI_mem.mp ht
      have := hf t z (by omega) (by omega)
      omega
    have e2 : (rngI b B).filter f = [] := List.filter_eq_nil_iff.mpr fun t ht z => by
      have := rngI_mem.mp ht
      have := hf t z (by omega) (by omega)
      omega
    rw [e1, e2]
    simp
/-! ### floors of an end -/
/-- the end a/b times n, rounded down -/
def flN (a b n : Int) : Int := lowN a b * n / lowU a b
theorem fl_lo {a b n t : Int} (hb : 0 < b) (h : a * n ≤ t * b) : flN a b n ≤ t := by
  unfold flN
  have hu := lowU_pos (a := a) hb
  refine Int.ediv_le_of_le_mul hu ?_
  rcases Int.lt_or_le (t * lowU a b) (lowN a b * n) with z | z
  · have := (cross_lt_l hb).mp z
    omega
  · exact z
theorem fl_hi {a b n t : Int} (hb : 0 < b) (h : t * b ≤ a * n) : t ≤ flN a b n := by
  unfold flN
  have hu := lowU_pos (a := a) hb
  refine (Int.le_ediv_iff_mul_le hu).mpr ?_
  rcases Int.lt_or_le (lowN a b * n) (t * lowU a b) with z | z
  · have := (cross_lt_r hb).mp z
    omega
  · exact z
theorem fl_bound {a b n : Int} (hb : 0 < b) (hn : 0 ≤ n) (h1 : -300 * b ≤ a) (h2 : a ≤ 300 * b) : -300 * n ≤ flN a b n ∧ flN a b n ≤ 300 * n := by
  constructor
  · refine fl_hi hb ?_
    rw [Int.mul_right_comm]
    exact Int.mul_le_mul_of_nonneg_right h1 hn
  · refine fl_lo hb ?_
    rw [Int.mul_right_comm]
    exact Int.mul_le_mul_of_nonneg_right h2 hn
theorem ends_bound {u d : Int} {r : Ru} (h1 : -101 * powT d ≤ u) (h2 : u ≤ 101 * powT d) : -200 * spK d r ≤ loN u r ∧ hiN u r ≤ 200 * spK d r ∧ loN u r < hiN u r ∧ loN u r ≤ 300 * spK d r ∧ -300 * spK d r ≤ hiN u r := by
  have := powT_pos d
  cases r <;> simp only [loN, hiN, spK, isDir, if_true, Bool.false_eq_true, if_false]
  all_goals (repeat' split)
  all_goals omega
/-! ### fractions that read as a decimal -/
def rdB (u d : Int) (r : Ru) (n t : Int) : Bool := decide (Int.gcd t n = 1 ∧ (t.natAbs : Int) ≤ 100 * n ∧ unitsF t n d r = u)
def rowF (u d : Int) (r : Ru) (n : Int) : Int := flN (loN u r) (spK d r) n
def rowT (u d : Int) (r : Ru) (n : Int) : Int := flN (hiN u r) (spK d r) n + 2
def rowR (u d : Int) (r : Ru) (n : Int) : List Int := (rngI (rowF u d r n) (rowT u d r n)).filter (rdB u d r n)
def readL (u d : Int) (r : Ru) (m : Nat) : List (Int × Int) := (List.range m).flatMap fun (i : Nat) => (rowR u d r ((i : Int) + 1)).map fun t => (t, (i : Int) + 1)
def frP (x : Int × Int) : PyData := fr x.1 x.2
theorem readL_succ (u d : Int) (r : Ru) (m : Nat) : readL u d r (m + 1) = readL u d r m ++ (rowR u d r ((m : Int) + 1)).map fun t => (t, (m : Int) + 1) := by
  unfold readL
  rw [List.range_succ, List.flatMap_append]
  simp
theorem row_bound {u d n : Int} {r : Ru} (h1 : -101 * powT d ≤ u) (h2 : u ≤ 101 * powT d) (n0 : 0 ≤ n) : -300 * n ≤ rowF u d r n ∧ rowT u d r n ≤ 300 * n + 2 ∧ rowF u d r n ≤ 300 * n ∧ -300 * n + 2 ≤ rowT u d r n := by
  obtain ⟨a1, a2, a3, a4, a5⟩ := ends_bound (r := r) h1 h2
  have hK := spK_pos d r
  have b1 := fl_bound (a := loN u r) hK n0 (by omega) a4
  have b2 := fl_bound (a := hiN u r) hK n0 a5 (by omega)
  unfold rowF rowT
  omega
theorem row_in {u d n t : Int} {r : Ru} (n0 : 0 < n) (h : unitsF t n d r = u) : rowF u d r n ≤ t ∧ t < rowT u d r n - 1 := by
  have hK := spK_pos d r
  have s := span_units u t n d r n0
  rw [decide_eq_true h] at s
  have s := of_decide_eq_true s
  have a1 : rowF u d r n ≤ t := fl_lo hK (by omega)
  have a2 : t ≤ flN (hiN u r) (spK d r) n := fl_hi hK (by omega)
  unfold rowT
  omega
theorem row_len {u d n : Int} {r : Ru} (h1 : -101 * powT d ≤ u) (h2 : u ≤ 101 * powT d) (n0 : 0 ≤ n) (n1 : n ≤ 20) : (rowR u d r n).length ≤ 12002 := by
  have b := row_bound (r := r) h1 h2 n0
  unfold rowR
  refine Nat.le_trans (List.length_filter_le _ _) ?_
  rw [rngI_len]
  omega
theorem read_len {u d : Int} {r : Ru} (h1 : -101 * powT d ≤ u) (h2 : u ≤ 101 * powT d) : ∀ m : Nat, m ≤ 20 → (readL u d r m).length ≤ 12002 * m
  | 0, _ => by simp [readL]
  | m + 1, hm => by
    have ih := read_len (r := r) h1 h2 m (by omega)
    have l := row_len (r := r) (n := (m : Int) + 1) h1 h2 (by omega) (by omega)
    rw [readL_succ, List.length_append, List.length_map]
    omega
theorem read_mem {u d : Int} {r : Ru} {m : Nat} {x : Int × Int} : x ∈ readL u d r m ↔ 1 ≤ x.2 ∧ x.2 ≤ m ∧ rdB u d r x.2 x.1 = true := by
  unfold readL
  rw [List.mem_flatMap]
  constructor
  · rintro ⟨i, hi, hx⟩
    have hi := List.mem_range.mp hi
    obtain ⟨t, ht, rfl⟩ := List.mem_map.mp hx
    exact ⟨by show 1 ≤ (i : Int) + 1; omega, by show (i : Int) + 1 ≤ m; omega, (List.mem_filter.mp ht).2⟩
  · rintro ⟨h1, h2, h3⟩
    refine ⟨(x.2 - 1).toNat, List.mem_range.mpr (by omega), List.mem_map.mpr ⟨x.1, List.mem_filter.mpr ⟨rngI_mem.mpr ?_, ?_⟩, ?_⟩⟩
    · rw [show (((x.2 - 1).toNat : Nat) : Int) + 1 = x.2 by omega]
      have := row_in (u := u) (d := d) (r := r) (n := x.2) (t := x.1) (by omega) (of_decide_eq_true h3).2.2
      omega
    · rw [show (((x.2 - 1).toNat : Nat) : Int) + 1 = x.2 by omega]
      exact h3
    · rw [show (((x.2 - 1).toNat : Nat) : Int) + 1 = x.2 by omega]
/-! ### ranges as data -/
def anyB (v : PyData) : Bool := match v with
  | .tuple [.int p, .int q] => decide (0 < q ∧ Int.gcd p q = 1)
  | _ => false
theorem anyB_no {v : PyData} (h : ∀ p n : Int, v ≠ .tuple [.int p, .int n]) : anyB v = false := by
  unfold anyB
  split
  · exact absurd rfl (h _ _)
  · rfl
theorem anyB_inv {v : PyData} (h : anyB v = true) : ∃ p n : Int, v = fr p n ∧ 0 < n ∧ Int.gcd p n = 1 := by
  unfold anyB at h
  split at h
  · exact ⟨_, _, rfl, of_decide_eq_true h⟩
  · cases h
def spanB (v : PyData) : Bool := match v with
  | .tuple [.tuple [.int a, .int b], .bool i, .tuple [.int c, .int d], .bool j] => decide ((0 < b ∧ Int.gcd a b = 1) ∧ (0 < d ∧ Int.gcd c d = 1) ∧ (a * d < c * b ∨ ((a = c ∧ b = d) ∧ i = true ∧ j = true)))
  | _ => false
theorem spanB_inv {v : PyData} (h : spanB v = true) : ∃ (a b : Int) (i : Bool) (c d : Int) (j : Bool), v = spanT a b i c d j ∧ (0 < b ∧ Int.gcd a b = 1) ∧ (0 < d ∧ Int.gcd c d = 1) ∧ (a * d < c * b ∨ ((a = c ∧ b = d) ∧ i = true ∧ j = true)) := by
  unfold spanB at h
  split at h
  · exact ⟨_, _, _, _, _, _, rfl, of_decide_eq_true h⟩
  · cases h
theorem spanB_e (a b : Int) (i : Bool) (c d : Int) (j : Bool) : spanB (spanT a b i c d j) = decide ((0 < b ∧ Int.gcd a b = 1) ∧ (0 < d ∧ Int.gcd c d = 1) ∧ (a * d < c * b ∨ ((a = c ∧ b = d) ∧ i = true ∧ j = true))) := rfl
def rangeB (v : PyData) : Bool := match v with
  | .tuple [.tuple [.int a, .int b], .bool i, .tuple [.int c, .int d], .bool j] => spanB (spanT a b i c d j) && (decide (-200 * b ≤ a) && decide (c ≤ 200 * d))
  | _ => false
theorem rangeB_inv {v : PyData} (h : rangeB v = true) : ∃ (a b : Int) (i : Bool) (c d : Int) (j : Bool), v = spanT a b i c d j ∧ (0 < b ∧ Int.gcd a b = 1) ∧ (0 < d ∧ Int.gcd c d = 1) ∧ (a * d < c * b ∨ ((a = c ∧ b = d) ∧ i = true ∧ j = true)) ∧ -200 * b ≤ a ∧ c ≤ 200 * d := by
  unfold rangeB at h
  split at h
  · rw [Bool.and_eq_true, Bool.and_eq_true, spanB_e] at h
    obtain ⟨h1, h2, h3⟩ := h
    obtain ⟨h1, h4, h5⟩ := of_decide_eq_true h1
    exact ⟨_, _, _, _, _, _, rfl, h1, h4, h5, of_decide_eq_true h2, of_decide_eq_true h3⟩
  · cases h
/-- its denominators are small enough for the machine -/
def smV (v : PyData) : Prop := ∀ (a b c d : Int) (i j : PyData), v = .tuple [.tuple [.int a, .int b], i, .tuple [.int c, .int d], j] → b < 2 ^ 60 ∧ d < 2 ^ 60
theorem smV_span {a b : Int} {i : Bool} {c d : Int} {j : Bool} (h1 : b < 2 ^ 60) (h2 : d < 2 ^ 60) : smV (spanT a b i c d j) := fun a' b' c' d' i' j' e => by
  simp [spanT] at e
  obtain ⟨⟨_, e1⟩, _, ⟨_, e2⟩, _⟩ := e
  omega
theorem span_range {u d : Int} {r : Ru} (h1 : -101 * powT d ≤ u) (h2 : u ≤ 101 * powT d) : rangeB (spanF u d r) = true := by
  obtain ⟨a1, a2, a3, a4, a5⟩ := ends_bound (r := r) h1 h2
  have hK := spK_pos d r
  have u1 := lowU_pos (a := loN u r) hK
  have u2 := lowU_pos (a := hiN u r) hK
  have g1 := gcdI_pos (a := loN u r) hK
  have g2 := gcdI_pos (a := hiN u r) hK
  have e1 := lowN_mul (a := loN u r) hK
  have e2 := lowU_mul (a := loN u r) hK
  have e3 := lowN_mul (a := hiN u r) hK
  have e4 := lowU_mul (a := hiN u r) hK
  show (spanB (spanT _ _ _ _ _ _) && _) = true
  rw [Bool.and_eq_true, Bool.and_eq_true, spanB_e]
  refine ⟨decide_eq_true ⟨⟨u1, low_coprime hK⟩, ⟨u2, low_coprime hK⟩, .inl ?_⟩, decide_eq_true ?_, decide_eq_true ?_⟩
  · rw [Int.mul_comm (lowN (hiN u r) (spK d r)), Int.mul_comm (lowN (loN u r) (spK d r))]
    have k := (cross_lt_r (p := lowN (hiN u r) (spK d r)) (n := lowU (hiN u r) (spK d r)) (a := loN u r) hK).mpr ?_
    · rw [Int.mul_comm (lowU (hiN u r) (spK d r)), Int.mul_comm (lowU (loN u r) (spK d r))]
      exact k
    · have : lowN (hiN u r) (spK d r) * spK d r = hiN u r * lowU (hiN u r) (spK d r) := by
        have x1 : lowN (hiN u r) (spK d r) * spK d r = lowN (hiN u r) (spK d r) * (lowU (hiN u r) (spK d r) * gcdI (hiN u r) (spK d r)) := by rw [e4]
        have x2 : hiN u r * lowU (hiN u r) (spK d r) = lowN (hiN u r) (spK d r) * gcdI (hiN u r) (spK d r) * lowU (hiN u r) (spK d r) := by rw [e3]
        rw [x1, x2, Int.mul_assoc, Int.mul_comm (gcdI _ _)]
      rw [this]
      exact Int.mul_lt_mul_of_pos_right a3 u2
  · refine Int.le_of_mul_le_mul_right (a := gcdI (loN u r) (spK d r)) ?_ g1
    rw [Int.mul_assoc, e1, e2]
    exact a1
  · refine Int.le_of_mul_le_mul_right (a := gcdI (hiN u r) (spK d r)) ?_ g2
    rw [Int.mul_assoc, e3, e4]
    exact a2
theorem span_small {u d : Int} {r : Ru} (h : d ≤ 6) : lowU (loN u r) (spK d r) ≤ 2000000 ∧ lowU (hiN u r) (spK d r) ≤ 2000000 ∧ 0 < lowU (loN u r) (spK d r) ∧ 0 < lowU (hiN u r) (spK d r) := by
  have hK := spK_pos d r
  have hk := spK_le r h
  have a1 := lowU_le (a := loN u r) hK
  have a2 := lowU_le (a := hiN u r) hK
  have u1 := lowU_pos (a := loN u r) hK
  have u2 := lowU_pos (a := hiN u r) hK
  omega
/-- within a range of a decimal: by rounding -/
theorem with_units {u d t m : Int} {r : Ru} (hm : 0 < m) (hg : Int.gcd t m = 1) : withB (lowN (loN u r) (spK d r)) (lowU (loN u r) (spK d r)) (loI u r) (lowN (hiN u r) (spK d r)) (lowU (hiN u r) (spK d r)) (hiI u r) t m = decide (unitsF t m d r = u) := by
  have hK := spK_pos d r
  rw [with_in hK hK hm hg, span_units u t m d r hm]
/-! ### lists of fractions as data -/
theorem canLay_frs (ms : List (Int × Int)) : PyData.canLayAll0 (ms.map frP) = true := by
  induction ms with
  | nil => simp [PyData.canLayAll0]
  | cons m ms ih => simp [PyData.canLayAll0, PyData.canLay0, ih, frP]
theorem depth_frs (ms : List (Int × Int)) : PyData.depthAll (ms.map frP) ≤ 1 := by
  induction ms with
  | nil => simp [PyData.depthAll]
  | cons m ms ih => simp [PyData.depthAll, PyData.depth, frP]; omega
theorem shaped_frs (ms : List (Int × Int)) : SeqAt.shaped (.list (ms.map frP)) = true := by
  have := depth_frs ms
  simp [SeqAt.shaped, PyData.canLay0, PyData.depth, canLay_frs]
  omega
theorem eqv_frs : ∀ (xs ys : List (Int × Int)), PyData.eqvAll (xs.map frP) (ys.map frP) = decide (xs = ys)
  | [], [] => by simp [PyData.eqvAll]
  | [], y :: ys => by simp [PyData.eqvAll]
  | x :: xs, [] => by simp [PyData.eqvAll]
  | x :: xs, y :: ys => by
    simp only [List.map_cons, PyData.eqvAll, eqv_frs xs ys, frP, eqv_fr]
    rw [Bool.eq_iff_iff]
    simp [Prod.ext_iff]
theorem eqD_frs (xs ys : List (Int × Int)) : eqD (.list (xs.map frP)) (.list (ys.map frP)) = some (decide (xs = ys)) := by
  unfold eqD
  rw [if_pos ⟨shaped_frs xs, shaped_frs ys⟩]
  simp only [PyData.eqv]
  rw [eqv_frs]
theorem neD_frs (xs ys : List (Int × Int)) : neD (.list (xs.map frP)) (.list (ys.map frP)) = some (!decide (xs = ys)) := by
  unfold neD
  rw [if_pos ⟨shaped_frs xs, shaped_frs ys⟩]
  simp only [PyData.eqv]
  rw [eqv_frs]
theorem in_frs (x : Int × Int) (L : List (Int × Int)) : inLd (frP x) (.list (L.map frP)) = some (decide (x ∈ L)) := by
  show (if _ then _ else _) = _
  rw [if_pos ⟨shaped_fr _ _, shaped_frs L⟩, List.any_map]
  congr 1
  rw [Bool.eq_iff_iff, List.any_eq_true, decide_eq_true_iff]
  constructor
  · rintro ⟨y, hy, e⟩
    have : y = x := by
      have e : PyData.eqv (fr y.1 y.2) (fr x.1 x.2) = true := e
      rw [eqv_fr] at e
      have := of_decide_eq_true e
      exact Prod.ext this.1 this.2
    rwa [← this]
  · intro h
    refine ⟨x, h, ?_⟩
    show PyData.eqv (fr x.1 x.2) (fr x.1 x.2) = true
    rw [eqv_fr]
    exact decide_eq_true ⟨rfl, rfl⟩
/-- an end of a range, and numbers beside it -/
theorem near_any {u d x y f : Int} {r : Ru} (hf : 0 < f) :
    decide (unitsF (lowN x (spK d r) * f + y * lowU x (spK d r)) (lowU x (spK d r) * f) d r = u) = decide ((loN u r * f < x * f + y * spK d r ∨ (x * f + y * spK d r = loN u r * f ∧ loI u r = true)) ∧ (x * f + y * spK d r < hiN u r * f ∨ (x * f + y * spK d r = hiN u r * f ∧ hiI u r = true))) := by
  have hK := spK_pos d r
  have hU := lowU_pos (a := x) hK
  have e1 := lowN_mul (a := x) hK
  have e2 := lowU_mul (a := x) hK
  rw [← span_units u _ _ d r (Int.mul_pos hU hf)]
  unfold inB
  refine decide_eq_decide.mpr ?_
  have ax : lowN x (spK d r) * spK d r = x * lowU x (spK d r) := by
    have x1 : lowN x (spK d r) * spK d r = lowN x (spK d r) * (lowU x (spK d r) * gcdI x (spK d r)) := by rw [e2]
    have x2 : x * lowU x (spK d r) = lowN x (spK d r) * gcdI x (spK d r) * lowU x (spK d r) := by rw [e1]
    rw [x1, x2, Int.mul_assoc, Int.mul_comm (gcdI _ _)]
  have t1 : (lowN x (spK d r) * f + y * lowU x (spK d r)) * spK d r = lowU x (spK d r) * (x * f + y * spK d r) := by
    rw [Int.add_mul, Int.mul_right_comm, ax, Int.mul_add, Int.mul_comm x, Int.mul_assoc, Int.mul_comm y, Int.mul_assoc]
  have t2 : ∀ z, z * (lowU x (spK d r) * f) = lowU x (spK d r) * (z * f) := fun z => Int.mul_left_comm ..
  rw [t1, t2, t2]
  have lt : ∀ a b : Int, lowU x (spK d r) * a < lowU x (spK d r) * b ↔ a < b := fun a b => ⟨fun h => Int.lt_of_mul_lt_mul_left h (Int.le_of_lt hU), fun h => Int.mul_lt_mul_of_pos_left h hU⟩
  have eq : ∀ a b : Int, lowU x (spK d r) * a = lowU x (spK d r) * b ↔ a = b := fun a b => ⟨fun h => Int.eq_of_mul_eq_mul_left (by omega) h, fun h => by rw [h]⟩
  rw [lt, lt, eq, eq]
end SD

namespace DL
open PySem PySem.Spec PyProof.Rows L2

/-- a comprehension over laid-out things, by what it keeps and makes of each -/
theorem lcW_of {α : Type} {g : DG} {tt : DT} {de : DE} {lb : Sl} (mk : α → PyData) (b : α → Bool) (f : α → PyData) : ∀ (ys : List α) (acc : List PyData) (k : List PyData → Prop),
    (∀ y, y ∈ ys → ∀ (K1 : PyData → Prop) (K0 : Prop), (b y = true → K1 (f y)) → (b y = false → K0) → g (mk y) lb fun l2 => tt l2 (fun c l3 => l3 = l2 ∧ if c = true then de l2 (fun z l4 => l4 = l2 ∧ K1 z) (fun _ _ => False) else K0) (fun _ _ => False)) →
    acc.length + ys.length < sizeLine → k (acc ++ (ys.filter b).map f) → lcW g tt de lb (ys.map mk) acc k
  | [], acc, k, _, _, h => by simpa [lcW] using h
  | y :: ys, acc, k, hs, hl, h => by
    rw [List.map_cons]
    unfold lcW
    rw [List.length_cons] at hl
    refine hs y (List.mem_cons_self ..) (fun z => acc.length < sizeLine ∧ lcW g tt de lb (ys.map mk) (acc ++ [z]) k) _ (fun hb => ⟨by omega, ?_⟩) (fun hb => ?_)
    · refine lcW_of mk b f ys _ k (fun y' hy' => hs y' (List.mem_cons_of_mem _ hy')) (by rw [List.length_append, List.length_singleton]; omega) ?_
      rw [List.filter_cons_of_pos hb] at h
      simpa using h
    · refine lcW_of mk b f ys _ k (fun y' hy' => hs y' (List.mem_cons_of_mem _ hy')) (by omega) ?_
      rw [List.filter_cons_of_neg (by rw [hb]; exact Bool.false_ne_true)] at h
      exact h
theorem rngD_eq (lo : Int) (n : Nat) : rngD lo n = (List.range n).map fun (k : Nat) => PyData.int (lo + k) := rfl

/-! x, y = (e, []) and x, y = ([], []) -/
def dParEN (i j : Nat) (d : DE) : DS := fun E l => d l (fun x l' => ∀ p, E.nx ((l'.set i (some (.val x))).set j (some (.own p [])))) E.rs
def dParNN (i j : Nat) : DS := fun E l => ∀ p q, p ≠ q → E.nx ((l.set i (some (.own p []))).set j (some (.own q [])))
section
variable {X : Cx} {ca : Er → Addr} {W : WX} {a b e : Expr} {ua : TE} {da : DE} {st : Stmt} {p1 p2 : Pos}
theorem pds_parEN {i j : Nat} (h : PD X ca W a ua da) (hp : PA X [a, .List [] p2] (tCons ua (tCons (tLst tNil) tNil)) → PS X st (tPar i j (tCons ua (tCons (tLst tNil) tNil))))
    (h1 : starEach [a, .List [] p2] X.env = (false, eval a X.env) :: starEach [.List [] p2] X.env := by rfl) (h2 : starEach [.List [] p2] X.env = (false, eval (.List [] p2) X.env) :: starEach [] X.env := by rfl) :
    PDS X ca W st (tPar i j (tCons ua (tCons (tLst tNil) tNil))) (dParEN i j da) :=
  ⟨hp (pa_cons h.pe (pa_cons (pe_lst pa_nil) pa_nil h2) h1), fun G D E σ H Hf l R m z => h.es G σ H Hf l _ _ E.rs R (fun x l' v H' Hf' q R' s dv =>
    ⟨Nat.zero_le _, fun p hp => ⟨_, _, rfl, m.nx _ _ _ _ (q p) ((R'.put i dv).putOwn j hp .nil) s⟩⟩) (m.kr σ) z⟩
theorem pds_parNN {i j : Nat} (hp : PA X [.List [] p1, .List [] p2] (tCons (tLst tNil) (tCons (tLst tNil) tNil)) → PS X st (tPar i j (tCons (tLst tNil) (tCons (tLst tNil) tNil))))
    (h1 : starEach [.List [] p1, .List [] p2] X.env = (false, eval (.List [] p1) X.env) :: starEach [.List [] p2] X.env := by rfl) (h2 : starEach [.List [] p2] X.env = (false, eval (.List [] p2) X.env) :: starEach [] X.env := by rfl) :
    PDS X ca W st (tPar i j (tCons (tLst tNil) (tCons (tLst tNil) tNil))) (dParNN i j) :=
  ⟨hp (pa_cons (pe_lst pa_nil) (pa_cons (pe_lst pa_nil) pa_nil h2) h1), fun G D E σ H Hf l R m z =>
    ⟨Nat.zero_le _, fun p hp => ⟨Nat.zero_le _, fun q hq => by
      have ne : p ≠ q := fun e => by
        subst e
        rw [upd_same] at hq
        cases hq
      have R1 := R.putOwn i hp (.nil : DvAll X.K Hf [] [])
      exact ⟨_, _, rfl, m.nx _ _ _ _ (z p q ne) (R1.putOwn j hq .nil) (Same.refl _)⟩⟩⟩⟩
end
end DL

namespace DL
open PySem PySem.Spec PyProof.Rows L2

/-! ### min, max, all of a list -/
def minD : List PyData → Option PyData
  | [.list xs] => (intsOf xs).bind fun ns => ns.min?.map PyData.int
  | _ => none
def maxLD : List PyData → Option PyData
  | [.list xs] => (intsOf xs).bind fun ns => ns.max?.map PyData.int
  | _ => none
def boolsOf : List PyData → Option (List Bool)
  | [] => some []
  | .bool x :: r => (boolsOf r).map (x :: ·)
  | _ => none
def allD : List PyData → Option PyData
  | [.list xs] => (boolsOf xs).map fun bs => .bool (bs.all id)
  | _ => none
theorem boolsOf_map (bs : List Bool) : boolsOf (bs.map PyData.bool) = some bs := by
  induction bs with
  | nil => rfl
  | cons b bs ih => simp [boolsOf, ih]
theorem boolsOf_vals {K : PySem.W.Frag} {H : Hp} : ∀ {xs : List PyData} {bs : List Bool} {vs : List V}, boolsOf xs = some bs → DvAll K H vs xs → vs = bs.map V.bl
  | [], bs, vs, e, q => by
    cases e
    rw [q.nil_inv]
    rfl
  | x :: xs, bs, vs, e, q => by
    obtain ⟨v, r, rfl, h1, h2⟩ := q.cons_inv
    cases x with
    | bool b =>
      cases e2 : boolsOf xs with
      | none => simp [boolsOf, e2] at e
      | some cs =>
        simp [boolsOf, e2] at e
        subst e
        obtain rfl := h1.bl_inv
        rw [boolsOf_vals e2 h2]
        rfl
    | _ => simp [boolsOf] at e
section
variable {K : PySem.W.Frag}
theorem cd_all : CaD K (rAll K) allD := fun xs ds z H Hf Q s h e k => by
  unfold allD at e
  split at e
  · rename_i xs'
    cases e2 : boolsOf xs' with
    | none => rw [e2] at e; cases e
    | some ns =>
      rw [e2] at e
      cases e
      obtain ⟨v, rfl, hv⟩ := dv1 h
      obtain ⟨p, vs, rfl, h1, h2⟩ := hv.list_inv
      refine ⟨p, ns, rfl, .inl (.inl ?_), k _ H Hf (Frm.refl s) (.bl _)⟩
      rw [← boolsOf_vals e2 h2]
      exact s _ _ h1
  · cases e
theorem cd_min : CaD K (rMin K) minD := fun xs ds z H Hf Q s h e k => by
  unfold minD at e
  split at e
  · rename_i xs'
    cases e2 : intsOf xs' with
    | none => rw [e2] at e; cases e
    | some ns =>
      rw [e2] at e
      obtain ⟨m, em, ez⟩ : ∃ m, ns.min? = some m ∧ z = .int m := by
        cases e3 : ns.min? with
        | none => simp [e3] at e
        | some m => simp [e3] at e; exact ⟨m, rfl, e.symm⟩
      subst ez
      obtain ⟨v, rfl, hv⟩ := dv1 h
      obtain ⟨p, vs, rfl, h1, h2⟩ := hv.list_inv
      have hm := List.min?_eq_some_iff.mp em
      refine ⟨p, ns, rfl, .inl (.inl ?_), List.length_pos_of_mem hm.1, fun m' h3 h4 => ?_⟩
      · rw [← intsOf_vals e2 h2]
        exact s _ _ h1
      · have : m' = m := Int.le_antisymm (h4 m hm.1) (hm.2 m' h3)
        subst this
        exact k _ H Hf (Frm.refl s) (.int _)
  · cases e
theorem cd_maxL : CaD K (rMax K) maxLD := fun xs ds z H Hf Q s h e k => by
  unfold maxLD at e
  split at e
  · rename_i xs'
    cases e2 : intsOf xs' with
    | none => rw [e2] at e; cases e
    | some ns =>
      rw [e2] at e
      obtain ⟨m, em, ez⟩ : ∃ m, ns.max? = some m ∧ z = .int m := by
        cases e3 : ns.max? with
        | none => simp [e3] at e
        | some m => simp [e3] at e; exact ⟨m, rfl, e.symm⟩
      subst ez
      obtain ⟨v, rfl, hv⟩ := dv1 h
      obtain ⟨p, vs, rfl, h1, h2⟩ := hv.list_inv
      have hm := List.max?_eq_some_iff.mp em
      refine ⟨p, ns, rfl, .inl (.inl ?_), List.length_pos_of_mem hm.1, fun m' h3 h4 => ?_⟩
      · rw [← intsOf_vals e2 h2]
        exact s _ _ h1
      · have : m' = m := Int.le_antisymm (hm.2 m' h3) (h4 m hm.1)
        subst this
        exact k _ H Hf (Frm.refl s) (.int _)
  · cases e
end
/-- an if, its suites as letters -/
theorem ifs_mk {c : DT} {t u : DS} {E : DEnd} {l : Sl} (h : ∀ kt ku : Sl → Prop, (∀ l', t E l' → kt l') → (∀ l', u E l' → ku l') → c l (fun b l' => if b = true then kt l' else ku l') E.rs) : dIfS c t u E l := h _ _ (fun _ z => z) fun _ z => z
/-! ### slices -/
theorem cut_from {xs : List PyData} {a : Int} (h0 : 0 ≤ a) (h : a.toNat ≤ xs.length) : DL.cutD xs (some a) none = xs.drop a.toNat := by
  have e1 : HT.sIx xs.length 0 (some a) = a.toNat := by
    show (if a < 0 then _ else _) = _
    rw [if_neg (by omega)]
    omega
  unfold DL.cutD
  rw [e1]
  show List.take (xs.length - a.toNat) _ = _
  rw [List.take_of_length_le (by rw [List.length_drop]; exact Nat.le_refl _)]
theorem cut_to {xs : List PyData} {a : Int} (h0 : 0 ≤ a) (h : a.toNat ≤ xs.length) : DL.cutD xs none (some a) = xs.take a.toNat := by
  have e1 : HT.sIx xs.length xs.length (some a) = a.toNat := by
    show (if a < 0 then _ else _) = _
    rw [if_neg (by omega)]
    omega
  unfold DL.cutD
  rw [e1]
  show List.take (a.toNat - 0) (List.drop 0 xs) = _
  simp
theorem cut_mid {xs : List PyData} {a b : Int} (h0 : 0 ≤ a) (hb : a ≤ b) (h : b.toNat ≤ xs.length) : DL.cutD xs (some a) (some b) = (xs.drop a.toNat).take (b.toNat - a.toNat) := by
  have e1 : HT.sIx xs.length 0 (some a) = a.toNat := by
    show (if a < 0 then _ else _) = _
    rw [if_neg (by omega)]
    omega
  have e2 : HT.sIx xs.length xs.length (some b) = b.toNat := by
    show (if b < 0 then _ else _) = _
    rw [if_neg (by omega)]
    omega
  unfold DL.cutD
  rw [e1, e2]
theorem mul_small {a b : Int} (h0 : 0 ≤ a) (h1 : a ≤ 100000) : mulOk a b = true := mulOk_l (by omega) (by omega)
end DL

namespace DL
open PySem PySem.Spec PyProof.Rows L2

/-! ### a list times a whole number -/
def mulLD : PyData → PyData → Option PyData
  | .list xs, .int k => if -(2 ^ 63) ≤ k ∧ k < 2 ^ 63 ∧ xs.length * k.toNat ≤ sizeLine then some (.list (List.replicate k.toNat xs).flatten) else none
  | _, _ => none
theorem DvAll.rep {K : PySem.W.Frag} {H : Hp} {vs : List V} {ds : List PyData} (q : DvAll K H vs ds) : ∀ n, DvAll K H (List.replicate n vs).flatten (List.replicate n ds).flatten
  | 0 => .nil
  | n + 1 => by
    rw [List.replicate_succ, List.replicate_succ, List.flatten_cons, List.flatten_cons]
    exact q.append (DvAll.rep q n)
theorem od_repL {K : PySem.W.Frag} : OpD K rRep mulLD := by
  intro x y dx dy z H Hf Q s hx hy e k
  unfold mulLD at e
  split at e
  · rename_i ws n
    split at e
    · rename_i hl
      cases e
      obtain ⟨p, vs, rfl, h1, h2⟩ := hx.list_inv
      obtain rfl := hy.int_inv
      refine ⟨p, _, vs, rfl, rfl, s _ _ h1, hl.1, hl.2.1, by rw [h2.1]; exact hl.2.2, fun a ha => ?_⟩
      have F : Frm [] H Hf (upd H a (.lst (List.replicate n.toNat vs).flatten)) (upd Hf a (.lst (List.replicate n.toNat vs).flatten)) := Frm.new s ha
      exact k _ _ _ F (.lst' upd_same ((h2.rep _).mono (F.sameF s)))
    · cases e
  · cases e
theorem mulLD_e (xs : List PyData) (n : Int) (q : PyData → Prop) : (∃ z, mulLD (.list xs) (.int n) = some z ∧ q z) ↔ (-(2 ^ 63) ≤ n ∧ n < 2 ^ 63 ∧ xs.length * n.toNat ≤ sizeLine) ∧ q (.list (List.replicate n.toNat xs).flatten) := ex_if _ q

/-! ### zip -/
def zipD (xs ys : List PyData) : List PyData := List.zipWith (fun a b => PyData.tuple [a, b]) xs ys
def dZip (d : DA) : DI := fun l Q R => d l (fun xs l' => ∃ as bs, xs = [.list as, .list bs] ∧ Q (zipD as bs) l') R
theorem wk_zip {K : PySem.W.Frag} {Hf : Hp} {a b : Addr} {vs ws : List V} {ds es : List PyData} (h1 : Hf a = some (.lst vs)) (q1 : DvAll K Hf vs ds) (h2 : Hf b = some (.lst ws)) (q2 : DvAll K Hf ws es) : Wk K (Itz K a b) Hf (zipD ds es) := by
  have hl : (zipD ds es).length = min vs.length ws.length := by
    unfold zipD
    rw [List.length_zipWith, q1.1, q2.1]
  refine ⟨fun i H s hi => ?_, fun i H s hi => ?_, fun i H Hf1 v H' d s s' hd y => ?_⟩
  · rw [hl] at hi
    exact ⟨vs, ws, vs[i]'(by omega), ws[i]'(by omega), .inl (.inl (s _ _ h1)), .inl (.inl (s _ _ h2)), List.getElem?_eq_getElem _, List.getElem?_eq_getElem _⟩
  · rw [hl] at hi
    exact ⟨vs, ws, .inl (.inl (s _ _ h1)), .inl (.inl (s _ _ h2)), by omega⟩
  · obtain ⟨T, x, y, rfl, hT, rfl, k1, k2⟩ := y
    have y1 := k1 vs (.inl (.inl (s' _ _ (s _ _ h1))))
    have y2 := k2 ws (.inl (.inl (s' _ _ (s _ _ h2))))
    unfold zipD at hd
    rw [List.getElem?_zipWith] at hd
    cases e1 : ds[i]? with
    | none => simp [e1] at hd
    | some d1 =>
      cases e2 : es[i]? with
      | none => simp [e1, e2] at hd
      | some d2 =>
        simp [e1, e2] at hd
        subst hd
        have F : Frm [] H Hf1 (upd H T (.tup [x, y])) (upd Hf1 T (.tup [x, y])) := Frm.new s' hT
        have m1 := ((q1.2 i x d1 y1 e1).mono s).mono (F.sameF s')
        have m2 := ((q2.2 i y d2 y2 e2).mono s).mono (F.sameF s')
        exact ⟨_, F, .tup' (.inl (.inl upd_same)) (.cons m1 (.cons m2 .nil))⟩
section
variable {X : Cx} {ca : Er → Addr} {W : WX} {e e2 o : Expr} {u : TA} {d : DA} {p pos tpos : Pos} {elts : List Expr} {kk : Nat}
theorem pdi_zip {K : PySem.W.Frag} (hg : Gl X "zip") (hm : X.mg "zip" = none) (ha : PDA X ca W [e, e2] u d)
    (hs : starEach [e, e2] X.env = (false, eval e X.env) :: starEach [e2] X.env := by rfl) (hpl : (backTo pos (starEach [e2] X.env)).any (·.1) = false := by rfl) (hK : X.K = K := by rfl) :
    PDI X ca W (.Tuple elts kk tpos) (.Call (.Name "zip" p) [e, e2] [] pos) (iZip K u) (dZip d) := by
  subst hK
  refine ⟨pi_zip hg hm ha.pe hs hpl, fun G σ H Hf l R q r Rp k kr z => ha.es G σ H Hf l _ _ r Rp (fun xs l' vs H' Hf' z' hn R' s dv => ?_) kr z⟩
  obtain ⟨as, bs, rfl, z'⟩ := z'
  obtain ⟨v1, v2, rfl, d1, d2⟩ := dv2 dv
  obtain ⟨a, ws, rfl, h1, h2⟩ := d1.list_inv
  obtain ⟨b, us, rfl, h3, h4⟩ := d2.list_inv
  exact ⟨a, b, ws, us, rfl, .inl (.inl (R'.sub _ _ h1)), .inl (.inl (R'.sub _ _ h3)), k _ _ _ _ _ z' R' s (wk_zip h1 h2 h3 h4)⟩
/-! ### l.index(x), whole numbers -/
def idxD : PyData → PyData → Option PyData
  | .list xs, .int y => (intsOf xs).bind fun ns => (ns.findIdx? (· == y)).map fun j => .int (j : Int)
  | _, _ => none
def dIdx (a b : DE) : DE := fun l Q R => a l (fun x l1 => ∃ ds, x = .list ds ∧ b l1 (fun y l2 => ∃ z, idxD x y = some z ∧ Q z l2) R) R
theorem pd_idx {K : PySem.W.Frag} {ua ub : TE} {da db : DE} {apos cpos : Pos} (ho : PD X ca W o ua da) (ha : PD X ca W e ub db) (hbase : attributeBase o "index" X.env (eval o X.env) = eval o X.env := by rfl)
    (hst : starEach [e] X.env = (false, eval e X.env) :: starEach [] X.env := by rfl)
    (hfew : ((backTo cpos (starEach (e :: []) X.env)).all (fun x => !x.1) && (backToKw cpos (keywordEach [] X.env)).all (fun x => x.1.isSome)
      && decide ((e :: []).length + ([] : List Keyword).length + (if ([] : List Keyword).isEmpty then 0 else 1) < 30)) = true := by rfl) (hline : (apos.endLine == cpos.line) = true := by rfl) (hK : X.K = K := by rfl) :
    PD X ca W (.Call (.Attribute o "index" apos) [e] [] cpos) (tBM K "list" (rIndex K) ua (tCons ub tNil)) (dIdx da db) := by
  subst hK
  refine ⟨pe_bm PySem.F.plainAttrs_list PySem.F.slot_list_index PySem.F.type_list_index mt_index ho.pe (pa_cons ha.pe pa_nil hst) hbase hfew hline hst rfl, fun G σ H Hf l Q q r R k kr z => ?_⟩
  refine ho.es G σ H Hf l _ _ r R (fun x l1 v H1 Hf1 z1 R1 s1 d1 => ?_) kr z
  obtain ⟨ds, rfl, z1⟩ := z1
  obtain ⟨a, vs, rfl, h1, h2⟩ := d1.list_inv
  refine ⟨.inl ⟨rfl, _, .inl (.inl (R1.sub _ _ h1))⟩, ha.es G σ H1 Hf1 l1 _ _ r R1 (fun y l2 w H2 Hf2 z2 R2 s2 d2 => ?_) kr z1⟩
  obtain ⟨z3, e3, z2⟩ := z2
  cases y with
  | int y =>
    obtain rfl := d2.int_inv
    cases e4 : intsOf ds with
    | none => simp [idxD, e4] at e3
    | some ns =>
      cases e5 : ns.findIdx? (· == y) with
      | none => simp [idxD, e4, e5] at e3
      | some j =>
        simp [idxD, e4, e5] at e3
        subst e3
        obtain ⟨hj, e6, e7⟩ := List.findIdx?_eq_some_iff_getElem.mp e5
        have ev := intsOf_vals e4 h2
        refine ⟨a, vs, _, j, .int ns[j], rfl, rfl, .inl (.inl (R2.sub _ _ (s2 _ _ h1))), rfl, ?_, ?_, ?_, fun m z' hm hz => ?_, k _ _ _ _ _ z2 R2 (s1.trans s2) (.int _)⟩
        · rw [ev, List.all_map]
          exact List.all_eq_true.mpr fun _ _ => rfl
        · rw [ev, List.getElem?_map, List.getElem?_eq_getElem hj]
          rfl
        · exact e6
        · rw [ev, List.getElem?_map] at hz
          cases e8 : ns[m]? with
          | none => simp [e8] at hz
          | some t =>
            simp [e8] at hz
            subst hz
            obtain ⟨hm2, e9⟩ := List.getElem?_eq_some_iff.mp e8
            have := e7 m hm
            rw [e9] at this
            show (t == y) = false
            simpa using this
  | _ => simp [idxD] at e3
end
end DL

namespace DL
open PySem PySem.Spec PyProof.Rows L2

/-! ### name += list, of a list of one's own -/
def dExt (i : Nat) (d : DE) : DS := fun E l => ∃ p ds, l[i]? = some (some (.own p ds)) ∧ d l (fun y l' => ∃ es fs, l'[i]? = some (some (.own p es)) ∧ y = .list fs ∧ es.length + fs.length ≤ sizeLine ∧ E.nx (l'.set i (some (.own p (es ++ fs))))) E.rs
theorem set_here {α : Type} {l : List α} {i : Nat} {a : α} (h : l[i]? = some a) : l.set i a = l := by
  obtain ⟨hi, e⟩ := List.getElem?_eq_some_iff.mp h
  rw [← e]
  exact List.set_getElem_self hi
theorem pds_augExt {X : Cx} {ca : Er → Addr} {W : WX} {e : Expr} {ua : TE} {da : DE} {st : Stmt} {i : Nat} (h : PD X ca W e ua da) (hp : PE X e ua → PS X st (tAug i ua rExt2)) : PDS X ca W st (tAug i ua rExt2) (dExt i da) :=
  ⟨hp h.pe, fun G D E σ H Hf l R m z => by
    obtain ⟨p, ds, hi, z⟩ := z
    obtain ⟨v, e1, e2, vs, e3, e4⟩ := R.slot i _ hi
    subst e2
    refine ⟨_, e1, h.es G σ H Hf l _ _ E.rs R (fun y l' w H' Hf' q R' s dv => ?_) (m.kr σ) z⟩
    obtain ⟨es, fs, hi', rfl, hl, q⟩ := q
    obtain ⟨v, e1', e2', ws, e3', e4'⟩ := R'.slot i _ hi'
    obtain ⟨b, zs, rfl, h1, h2⟩ := dv.list_inv
    refine ⟨p, b, ws, zs, rfl, rfl, e3', R'.sub _ _ h1, by rw [e4'.1, h2.1]; exact hl, ?_⟩
    show D.nx (σ.set i (some (.ref p))) _
    rw [set_here e1]
    exact m.nx _ _ _ _ q (R'.mutOwn hi' (e4'.append h2)) s⟩
end DL

namespace SD
open PySem DL

/-! ### ranges side by side -/
theorem hi_lo (u : Int) (r : Ru) : hiN u r = loN (u + 1) r ∧ hiI u r = !loI (u + 1) r := by
  constructor
  · cases r <;> simp only [hiN, loN]
    all_goals (repeat' split)
    all_goals omega
  · cases r <;> simp only [hiI, loI, Bool.not_true, Bool.not_false]
    all_goals
      rw [← decide_not]
      exact decide_eq_decide.mpr (by omega)
theorem lo_mono (u : Int) (r : Ru) : loN u r < loN (u + 1) r := by
  cases r <;> simp only [loN]
  all_goals (repeat' split)
  all_goals omega
/-- not below the range of u -/
def loOK (u d : Int) (r : Ru) (t m : Int) : Prop := loN u r * m < t * spK d r ∨ (t * spK d r = loN u r * m ∧ loI u r = true)
def hiOK (u d : Int) (r : Ru) (t m : Int) : Prop := t * spK d r < hiN u r * m ∨ (t * spK d r = hiN u r * m ∧ hiI u r = true)
theorem hiOK_iff (u d : Int) (r : Ru) (t m : Int) : hiOK u d r t m ↔ ¬ loOK (u + 1) d r t m := by
  unfold hiOK loOK
  rw [(hi_lo u r).1, (hi_lo u r).2]
  cases loI (u + 1) r <;> simp <;> omega
theorem units_ok {u d t m : Int} {r : Ru} (hm : 0 < m) : unitsF t m d r = u ↔ loOK u d r t m ∧ ¬ loOK (u + 1) d r t m := by
  rw [← hiOK_iff]
  have h := span_units u t m d r hm
  unfold inB at h
  have h := decide_eq_decide.mp h
  exact h.symm
theorem loOK_down {u d t m : Int} {r : Ru} (hm : 0 < m) (h : loOK (u + 1) d r t m) : loOK u d r t m := by
  have h1 := lo_mono u r
  have : loN u r * m < loN (u + 1) r * m := Int.mul_lt_mul_of_pos_right h1 hm
  unfold loOK at *
  left
  omega
theorem loOK_down_n {d t m : Int} {r : Ru} (hm : 0 < m) : ∀ (j : Nat) (u : Int), loOK (u + j) d r t m → loOK u d r t m
  | 0, u, h => by simpa using h
  | j + 1, u, h => by
    refine loOK_down_n hm j u (loOK_down hm ?_)
    rw [show u + (j : Int) + 1 = u + ((j + 1 : Nat) : Int) by omega]
    exact h
theorem loOK_iff {u d t m : Int} {r : Ru} (hm : 0 < m) : loOK u d r t m ↔ u ≤ unitsF t m d r := by
  obtain ⟨h1, h2⟩ := (units_ok (u := unitsF t m d r) (d := d) (r := r) (t := t) hm).mp rfl
  generalize unitsF t m d r = v at *
  constructor
  · intro h
    rcases Int.lt_or_le v u with z | z
    · refine absurd (loOK_down_n hm (u - (v + 1)).toNat (v + 1) ?_) h2
      rw [show v + 1 + (((u - (v + 1)).toNat : Nat) : Int) = u by omega]
      exact h
    · exact z
  · intro h
    refine loOK_down_n hm (v - u).toNat u ?_
    rw [show u + (((v - u).toNat : Nat) : Int) = v by omega]
    exact h1
theorem hiOK_iff2 {u d t m : Int} {r : Ru} (hm : 0 < m) : hiOK u d r t m ↔ unitsF t m d r ≤ u := by
  rw [hiOK_iff, loOK_iff hm]
  omega
/-- from u on to v -/
theorem join_units (u v t m d : Int) (r : Ru) (hm : 0 < m) :
    inB (loN u r) (spK d r) (loI u r) (hiN v r) (spK d r) (hiI v r) t m = decide (u ≤ unitsF t m d r ∧ unitsF t m d r ≤ v) := by
  unfold inB
  refine decide_eq_decide.mpr ?_
  rw [← loOK_iff hm, ← hiOK_iff2 hm]
  rfl
theorem row_lo {u d n t : Int} {r : Ru} (n0 : 0 < n) (h : u ≤ unitsF t n d r) : rowF u d r n ≤ t := by
  have hK := spK_pos d r
  have s := (loOK_iff n0).mpr h
  unfold loOK at s
  exact fl_lo hK (by omega)
theorem row_hi {u d n t : Int} {r : Ru} (n0 : 0 < n) (h : unitsF t n d r ≤ u) : t < rowT u d r n - 1 := by
  have hK := spK_pos d r
  have s := (hiOK_iff2 n0).mpr h
  unfold hiOK at s
  have a2 : t ≤ flN (hiN u r) (spK d r) n := fl_hi hK (by omega)
  unfold rowT
  omega
/-- any two ends over one denominator -/
theorem range_low {a c K : Int} {i j : Bool} (hK : 0 < K) (h1 : -200 * K ≤ a) (h2 : c ≤ 200 * K) (h3 : a < c) : rangeB (spanT (lowN a K) (lowU a K) i (lowN c K) (lowU c K) j) = true := by
  have u1 := lowU_pos (a := a) hK
  have u2 := lowU_pos (a := c) hK
  have g1 := gcdI_pos (a := a) hK
  have g2 := gcdI_pos (a := c) hK
  have e1 := lowN_mul (a := a) hK
  have e2 := lowU_mul (a := a) hK
  have e3 := lowN_mul (a := c) hK
  have e4 := lowU_mul (a := c) hK
  show (spanB (spanT _ _ _ _ _ _) && _) = true
  rw [Bool.and_eq_true, Bool.and_eq_true, spanB_e]
  refine ⟨decide_eq_true ⟨⟨u1, low_coprime hK⟩, ⟨u2, low_coprime hK⟩, .inl ?_⟩, decide_eq_true ?_, decide_eq_true ?_⟩
  · refine (cross_lt_r hK).mpr ?_
    have : lowN c K * K = c * lowU c K := by
      have x1 : lowN c K * K = lowN c K * (lowU c K * gcdI c K) := by rw [e4]
      have x2 : c * lowU c K = lowN c K * gcdI c K * lowU c K := by rw [e3]
      rw [x1, x2, Int.mul_assoc, Int.mul_comm (gcdI _ _)]
    rw [this]
    exact Int.mul_lt_mul_of_pos_right h3 u2
  · refine Int.le_of_mul_le_mul_right (a := gcdI a K) ?_ g1
    rw [Int.mul_assoc, e1, e2]
    exact h1
  · refine Int.le_of_mul_le_mul_right (a := gcdI c K) ?_ g2
    rw [Int.mul_assoc, e3, e4]
    exact h2
/-! ### counting -/
theorem cnt_or {α : Type} {p q : α → Bool} (L : List α) (h : ∀ t, p t = true → q t = true → False) : (L.filter fun t => p t || q t).length = (L.filter p).length + (L.filter q).length := by
  induction L with
  | nil => rfl
  | cons x L ih =>
    rw [List.filter_cons, List.filter_cons, List.filter_cons]
    cases hp : p x <;> cases hq : q x <;> simp only [Bool.or_false, Bool.or_true, Bool.false_eq_true, if_true, if_false, List.length_cons] <;> first | (exact (h x hp hq).elim) | (have : (List.filter (fun t => p t || q t) L).length = _ := ih; omega)
/-- in lowest terms, rounded to one of four -/
def fourB (s d : Int) (r : Ru) (n t : Int) : Bool := decide (Int.gcd t n = 1 ∧ s ≤ unitsF t n d r ∧ unitsF t n d r ≤ s + 3)
theorem four_len {s d n : Int} {r : Ru} (h1 : -50 * powT d ≤ s) (h2 : s ≤ 50 * powT d) (n0 : 0 < n) (n1 : n ≤ 20) :
    ((rngI (rowF s d r n - 1) (rowT (s + 3) d r n)).filter (fourB s d r n)).length = (rowR s d r n).length + (rowR (s + 1) d r n).length + (rowR (s + 2) d r n).length + (rowR (s + 3) d r n).length := by
  have hP := powT_pos d
  have big : ∀ u, -101 * powT d ≤ u → u ≤ 101 * powT d → (rngI (-10000) 10000).filter (rdB u d r n) = rowR u d r n := fun u g1 g2 => by
    have rb := row_bound (r := r) (n := n) g1 g2 (by omega)
    unfold rowR
    refine filt_rng (by omega) (by omega) fun t ht _ _ => ?_
    have := row_in (u := u) (d := d) (r := r) (n := n) (t := t) n0 (of_decide_eq_true ht).2.2
    omega
  have rb0 := row_bound (r := r) (n := n) (u := s) (d := d) (by omega) (by omega) (by omega)
  have rb3 := row_bound (r := r) (n := n) (u := s + 3) (d := d) (by omega) (by omega) (by omega)
  have e0 : (rngI (-10000) 10000).filter (fourB s d r n) = (rngI (rowF s d r n - 1) (rowT (s + 3) d r n)).filter (fourB s d r n) := by
    refine filt_rng (by omega) (by omega) fun t ht _ _ => ?_
    have ht := of_decide_eq_true ht
    have := row_lo n0 ht.2.1
    have := row_hi n0 ht.2.2
    omega
  rw [← e0, ← big s (by omega) (by omega), ← big (s + 1) (by omega) (by omega), ← big (s + 2) (by omega) (by omega), ← big (s + 3) (by omega) (by omega)]
  have ab : ∀ t, s ≤ unitsF t n d r → unitsF t n d r ≤ s + 3 → (t.natAbs : Int) ≤ 100 * n := fun t g1 g2 => by
    have er := units_err t n d r n0
    -- |t| P < (|u| + 1) n
    have b1 : unitsF t n d r * n ≤ (50 * powT d + 3) * n := Int.mul_le_mul_of_nonneg_right (by omega) (by omega)
    have b2 : (-50 * powT d) * n ≤ unitsF t n d r * n := Int.mul_le_mul_of_nonneg_right (by omega) (by omega)
    have c1 : t * powT d ≤ 100 * n * powT d := by
      have : (50 * powT d + 3) * n + n ≤ 100 * n * powT d := by
        have x1 : (50 * powT d + 3) * n + n = (50 * powT d + 4) * n := by rw [Int.add_mul, Int.add_mul]; omega
        rw [x1, Int.mul_right_comm]
        exact Int.mul_le_mul_of_nonneg_right (by omega) (by omega)
      omega
    have c2 : -(100 * n) * powT d ≤ t * powT d := by
      have : -(100 * n) * powT d ≤ (-50 * powT d) * n - n := by
        have x1 : (-50 * powT d) * n - n = (-50 * powT d - 1) * n := by rw [Int.sub_mul]; omega
        rw [x1, Int.neg_mul, Int.mul_right_comm, ← Int.neg_mul]
        exact Int.mul_le_mul_of_nonneg_right (by omega) (by omega)
      omega
    have d1 := Int.le_of_mul_le_mul_right c1 hP
    have d2 := Int.le_of_mul_le_mul_right c2 hP
    omega
  have e : fourB s d r n = fun t => ((rdB s d r n t || rdB (s + 1) d r n t) || rdB (s + 2) d r n t) || rdB (s + 3) d r n t := by
    funext t
    rw [Bool.eq_iff_iff]
    simp only [Bool.or_eq_true, fourB, rdB, decide_eq_true_eq]
    constructor
    · rintro ⟨g, g1, g2⟩
      have := ab t g1 g2
      rcases (by omega : unitsF t n d r = s ∨ unitsF t n d r = s + 1 ∨ unitsF t n d r = s + 2 ∨ unitsF t n d r = s + 3) with z | z | z | z
      · exact .inl (.inl (.inl ⟨g, this, z⟩))
      · exact .inl (.inl (.inr ⟨g, this, z⟩))
      · exact .inl (.inr ⟨g, this, z⟩)
      · exact .inr ⟨g, this, z⟩
    · rintro (((⟨g, _, z⟩ | ⟨g, _, z⟩) | ⟨g, _, z⟩) | ⟨g, _, z⟩) <;> exact ⟨g, by omega, by omega⟩
  have un : ∀ u t, rdB u d r n t = true → unitsF t n d r = u := fun u t h => (of_decide_eq_true h).2.2
  rw [e, cnt_or, cnt_or, cnt_or]
  · intro t z1 z2
    have := un _ _ z1
    have := un _ _ z2
    omega
  · intro t z1 z2
    rw [Bool.or_eq_true] at z1
    have := un _ _ z2
    rcases z1 with z1 | z1 <;> have := un _ _ z1 <;> omega
  · intro t z1 z2
    rw [Bool.or_eq_true, Bool.or_eq_true] at z1
    have := un _ _ z2
    rcases z1 with (z1 | z1) | z1 <;> have := un _ _ z1 <;> omega
/-- few fractions read so -/
theorem row_few {u d n : Int} {r : Ru} (n0 : 0 < n) : (rowR u d r n).length ≤ 2 * n.toNat + 2 := by
  have hK := spK_pos d r
  have hP := powT_pos d
  have w : hiN u r ≤ loN u r + 2 * spK d r := by
    cases r <;> simp only [loN, hiN, spK, isDir, if_true, Bool.false_eq_true, if_false]
    all_goals (repeat' split)
    all_goals omega
  have b : flN (hiN u r) (spK d r) n - 2 * n ≤ flN (loN u r) (spK d r) n := by
    refine fl_hi hK ?_
    have hU := lowU_pos (a := hiN u r) hK
    have f1 : flN (hiN u r) (spK d r) n * spK d r ≤ hiN u r * n := by
      have g := gcdI_pos (a := hiN u r) hK
      have e1 := lowN_mul (a := hiN u r) hK
      have e2 := lowU_mul (a := hiN u r) hK
      have h0 : flN (hiN u r) (spK d r) n * lowU (hiN u r) (spK d r) ≤ lowN (hiN u r) (spK d r) * n := Int.ediv_mul_le _ (by omega)
      have := Int.mul_le_mul_of_nonneg_right h0 (Int.le_of_lt g)
      rw [Int.mul_assoc, e2, Int.mul_right_comm, e1] at this
      exact this
    have f2 : hiN u r * n ≤ (loN u r + 2 * spK d r) * n := Int.mul_le_mul_of_nonneg_right w (Int.le_of_lt n0)
    rw [Int.add_mul] at f2
    rw [Int.sub_mul]
    have f3 : 2 * spK d r * n = 2 * n * spK d r := Int.mul_right_comm ..
    omega
  unfold rowR
  refine Nat.le_trans (List.length_filter_le _ _) ?_
  rw [rngI_len]
  unfold rowF rowT
  omega
theorem read_few {u d : Int} {r : Ru} : ∀ m : Nat, (readL u d r m).length ≤ (2 * m + 2) * m
  | 0 => by simp [readL]
  | m + 1 => by
    have ih := read_few (u := u) (d := d) (r := r) m
    have l := row_few (u := u) (d := d) (r := r) (n := (m : Int) + 1) (by omega)
    rw [readL_succ, List.length_append, List.length_map]
    have e1 : (2 * (m + 1) + 2) * (m + 1) = (2 * m + 2) * m + 2 * m + (2 * (m + 1) + 2) := by
      rw [Nat.mul_add, Nat.mul_one, show 2 * (m + 1) + 2 = 2 * m + 2 + 2 by omega, Nat.add_mul]
    have e2 : ((m : Int) + 1).toNat = m + 1 := by omega
    rw [e2] at l
    omega
/-- those of four decimals -/
def wholeL (s d : Int) (r : Ru) (m j : Nat) : List (Int × Int) := (List.range j).flatMap fun (i : Nat) => readL (s + i) d r m
theorem wholeL_succ (s d : Int) (r : Ru) (m j : Nat) : wholeL s d r m (j + 1) = wholeL s d r m j ++ readL (s + j) d r m := by
  unfold wholeL
  rw [List.range_succ, List.flatMap_append]
  simp
theorem whole_mem {s d : Int} {r : Ru} {m j : Nat} {x : Int × Int} (h : x ∈ wholeL s d r m j) : ∃ i : Nat, i < j ∧ 1 ≤ x.2 ∧ x.2 ≤ m ∧ rdB (s + i) d r x.2 x.1 = true := by
  obtain ⟨i, hi, hx⟩ := List.mem_flatMap.mp h
  have := read_mem.mp hx
  exact ⟨i, List.mem_range.mp hi, this⟩
end SD

namespace SD
open PySem DL

/-! ### the tops with a denominator in a range -/
def tpF (a b : Int) (i : Bool) (n : Int) : Int := if -(-a * n / b) * b = a * n ∧ i = false then -(-a * n / b) + 1 else -(-a * n / b)
def tpL (c d : Int) (j : Bool) (n : Int) : Int := if c * n / d * d = c * n ∧ j = false then c * n / d - 1 else c * n / d
theorem tpF_le {a b : Int} {i : Bool} {n t : Int} (hb : 0 < b) : tpF a b i n ≤ t ↔ (a * n < t * b ∨ (t * b = a * n ∧ i = true)) := by
  unfold tpF
  have hdm := Int.mul_ediv_add_emod (-a * n) b
  have hm := Int.emod_lt_of_pos (-a * n) hb
  have hm0 := Int.emod_nonneg (-a * n) (show b ≠ 0 by omega)
  have e0 : -a * n = -(a * n) := Int.neg_mul ..
  rw [e0] at hdm hm hm0 ⊢
  generalize -(a * n) / b = q at *
  generalize -(a * n) % b = r at *
  have e1 : -q * b = -(b * q) := by rw [Int.neg_mul, Int.mul_comm]
  have e2 : t * b = b * (t + q) - b * q := by rw [Int.mul_add, Int.mul_comm t b]; omega
  rw [e1, e2]
  have s1 : t + q ≤ -1 → b * (t + q) ≤ -b := fun h => by
    have : b * (t + q) ≤ b * (-1) := Int.mul_le_mul_of_nonneg_left h (Int.le_of_lt hb)
    omega
  have s2 : 1 ≤ t + q → b ≤ b * (t + q) := fun h => by
    have : b * 1 ≤ b * (t + q) := Int.mul_le_mul_of_nonneg_left h (Int.le_of_lt hb)
    omega
  have s3 : t + q = 0 → b * (t + q) = 0 := fun h => by rw [h, Int.mul_zero]
  rcases (by omega : t + q ≤ -1 ∨ t + q = 0 ∨ 1 ≤ t + q) with z | z | z
  · have z2 := s1 z
    clear s1 s2 s3
    cases i <;> simp only [Bool.true_eq_false, Bool.false_eq_true, and_true, and_false, or_false, if_false]
    · split <;> omega
    · omega
  · have z2 := s3 z
    clear s1 s2 s3
    cases i <;> simp only [Bool.true_eq_false, Bool.false_eq_true, and_true, and_false, or_false, if_false]
    · split <;> omega
    · omega
  · have z2 := s2 z
    clear s1 s2 s3
    cases i <;> simp only [Bool.true_eq_false, Bool.false_eq_true, and_true, and_false, or_false, if_false]
    · split <;> omega
    · omega
theorem le_tpL {c d : Int} {j : Bool} {n t : Int} (hd : 0 < d) : t ≤ tpL c d j n ↔ (t * d < c * n ∨ (t * d = c * n ∧ j = true)) := by
  unfold tpL
  have hdm := Int.mul_ediv_add_emod (c * n) d
  have hm := Int.emod_lt_of_pos (c * n) hd
  have hm0 := Int.emod_nonneg (c * n) (show d ≠ 0 by omega)
  generalize c * n / d = q at *
  generalize c * n % d = r at *
  have e1 : q * d = d * q := Int.mul_comm ..
  have e2 : t * d = d * (t - q) + d * q := by rw [Int.mul_sub, Int.mul_comm t d]; omega
  rw [e1, e2]
  have s1 : t - q ≤ -1 → d * (t - q) ≤ -d := fun h => by
    have : d * (t - q) ≤ d * (-1) := Int.mul_le_mul_of_nonneg_left h (Int.le_of_lt hd)
    omega
  have s2 : 1 ≤ t - q → d ≤ d * (t - q) := fun h => by
    have : d * 1 ≤ d * (t - q) := Int.mul_le_mul_of_nonneg_left h (Int.le_of_lt hd)
    omega
  have s3 : t - q = 0 → d * (t - q) = 0 := fun h => by rw [h, Int.mul_zero]
  rcases (by omega : t - q ≤ -1 ∨ t - q = 0 ∨ 1 ≤ t - q) with z | z | z
  · have z2 := s1 z
    clear s1 s2 s3
    cases j <;> simp only [Bool.true_eq_false, Bool.false_eq_true, and_true, and_false, or_false, if_false]
    · split <;> omega
    · omega
  · have z2 := s3 z
    clear s1 s2 s3
    cases j <;> simp only [Bool.true_eq_false, Bool.false_eq_true, and_true, and_false, or_false, if_false]
    · split <;> omega
    · omega
  · have z2 := s2 z
    clear s1 s2 s3
    cases j <;> simp only [Bool.true_eq_false, Bool.false_eq_true, and_true, and_false, or_false, if_false]
    · split <;> omega
    · omega
theorem in_tops {a b : Int} {i : Bool} {c d : Int} {j : Bool} {t n : Int} (hb : 0 < b) (hd : 0 < d) : inB a b i c d j t n = decide (tpF a b i n ≤ t ∧ t ≤ tpL c d j n) := by
  unfold inB
  exact decide_eq_decide.mpr (by rw [tpF_le hb, le_tpL hd])
/-- scaled -/
theorem in_scale {a b : Int} {i : Bool} {c d : Int} {j : Bool} {t n g : Int} (hg : 0 < g) : inB a b i c d j (t * g) (n * g) = inB a b i c d j t n := by
  unfold inB
  refine decide_eq_decide.mpr ?_
  have lt : ∀ x y : Int, x * g < y * g ↔ x < y := fun x y => ⟨fun h => Int.lt_of_mul_lt_mul_right h (Int.le_of_lt hg), fun h => Int.mul_lt_mul_of_pos_right h hg⟩
  have eq : ∀ x y : Int, x * g = y * g ↔ x = y := fun x y => ⟨fun h => Int.eq_of_mul_eq_mul_right (by omega) h, fun h => by rw [h]⟩
  rw [← Int.mul_assoc a n g, ← Int.mul_assoc c n g, Int.mul_right_comm t g b, Int.mul_right_comm t g d, lt, lt, eq, eq]
theorem in_low {a b : Int} {i : Bool} {c d : Int} {j : Bool} {t n : Int} (hn : 0 < n) : inB a b i c d j (lowN t n) (lowU t n) = inB a b i c d j t n := by
  have h := in_scale (a := a) (b := b) (i := i) (c := c) (d := d) (j := j) (t := lowN t n) (n := lowU t n) (gcdI_pos (a := t) hn)
  rw [lowN_mul hn, lowU_mul hn] at h
  exact h.symm
/-- the law's look at a quotient -/
theorem law_low {a b : Int} {i : Bool} {c d : Int} {j : Bool} {t n : Int} (hb : 0 < b) (ga : Int.gcd a b = 1) (hd : 0 < d) (gc : Int.gcd c d = 1) (hn : 0 < n) (hle : a * d ≤ c * b) :
    lawW a b i c d j (lowN t n) (lowU t n) = inB a b i c d j t n := by
  have h := law_in (a := a) (b := b) (i := i) (c := c) (d := d) (j := j) (p := lowN t n) (n := lowU t n) hb hd (lowU_pos hn) (low_coprime hn) hle
  rw [(low_id' ga).1, (low_id' ga).2, (low_id' gc).1, (low_id' gc).2, in_low hn] at h
  exact h
/-! ### the simplest -/
def smB (a b : Int) (i : Bool) (c d : Int) (j : Bool) (k : Nat) : Bool := decide (tpF a b i k ≤ tpL c d j k)
/-- simplest_of: the denominator -/
def smK (a b : Int) (i : Bool) (c d : Int) (j : Bool) : Option Nat := fstK (smB a b i c d j) 1 1000
def smD (a b : Int) (i : Bool) (c d : Int) (j : Bool) : PyData := match smK a b i c d j with
  | none => .none
  | some k => fr (tpF a b i k) k
/-- all tops -/
def topL (a b : Int) (i : Bool) (c d : Int) (j : Bool) (k : Nat) : List (Int × Int) := (rngI (tpF a b i k) (tpL c d j k + 1)).map fun t => (t, (k : Int))
theorem smB_in {a b : Int} {i : Bool} {c d : Int} {j : Bool} {k : Nat} {t : Int} (hb : 0 < b) (hd : 0 < d) (h : inB a b i c d j t k = true) : smB a b i c d j k = true := by
  rw [in_tops hb hd] at h
  have h := of_decide_eq_true h
  exact decide_eq_true (by omega)
/-- with the least denominator all are in lowest terms -/
theorem least_low {a b : Int} {i : Bool} {c d : Int} {j : Bool} {k : Nat} {t : Int} (hb : 0 < b) (hd : 0 < d) (h : smK a b i c d j = some k) (ht : inB a b i c d j t k = true) : Int.gcd t k = 1 := by
  obtain ⟨h1, h2, h3, h4⟩ := fstK_some _ _ h
  have k0 : (0 : Int) < k := by omega
  have hu := lowU_pos (a := t) k0
  have hl := lowU_le (a := t) k0
  refine (low_self k0).mp ?_
  have e : lowU t k = k := by
    rcases Int.lt_or_le (lowU t k) k with z | z
    · have hi : inB a b i c d j (lowN t k) (((lowU t k).toNat : Nat) : Int) = true := by
        rw [show (((lowU t k).toNat : Nat) : Int) = lowU t k by omega, in_low k0]
        exact ht
      have := h4 (lowU t k).toNat (by omega) (by omega)
      rw [smB_in hb hd hi] at this
      cases this
    · omega
  refine ⟨?_, e⟩
  have e2 := lowU_mul (a := t) k0
  have e1 := lowN_mul (a := t) k0
  rw [e] at e2
  have g : gcdI t k = 1 := Int.eq_of_mul_eq_mul_left (show (k : Int) ≠ 0 by omega) (by rw [e2, Int.mul_one])
  rw [g, Int.mul_one] at e1
  exact e1
theorem tops_bound {a b : Int} {i : Bool} {c d : Int} {j : Bool} {n : Int} (hb : 0 < b) (hd : 0 < d) (lo : -200 * b ≤ a) (hi : c ≤ 200 * d) (n0 : 0 < n) : -200 * n ≤ tpF a b i n ∧ tpL c d j n ≤ 200 * n := by
  constructor
  · rcases Int.lt_or_le (tpF a b i n) (-200 * n) with z | z
    · have := (tpF_le (a := a) (i := i) (n := n) (t := -200 * n - 1) hb).mp (by omega)
      have h1 : -200 * b * n ≤ a * n := Int.mul_le_mul_of_nonneg_right lo (Int.le_of_lt n0)
      have h2 : (-200 * n - 1) * b = -200 * b * n - b := by rw [Int.sub_mul, Int.one_mul, Int.mul_right_comm]
      omega
    · exact z
  · rcases Int.lt_or_le (200 * n) (tpL c d j n) with z | z
    · have := (le_tpL (c := c) (j := j) (n := n) (t := 200 * n + 1) hd).mp (by omega)
      have h1 : c * n ≤ 200 * d * n := Int.mul_le_mul_of_nonneg_right hi (Int.le_of_lt n0)
      have h2 : (200 * n + 1) * d = 200 * d * n + d := by rw [Int.add_mul, Int.one_mul, Int.mul_right_comm]
      omega
    · exact z
theorem top_len {a b : Int} {i : Bool} {c d : Int} {j : Bool} {k : Nat} (hb : 0 < b) (hd : 0 < d) (lo : -200 * b ≤ a) (hi : c ≤ 200 * d) (k0 : 0 < k) (k1 : k ≤ 1000) : (topL a b i c d j k).length ≤ 400001 := by
  have h := tops_bound (i := i) (j := j) (n := (k : Int)) hb hd lo hi (by omega)
  unfold topL
  rw [List.length_map, rngI_len]
  omega
/-- the least denominator that reads as a decimal -/
def smU (u d : Int) (r : Ru) : Option Nat := smK (lowN (loN u r) (spK d r)) (lowU (loN u r) (spK d r)) (loI u r) (lowN (hiN u r) (spK d r)) (lowU (hiN u r) (spK d r)) (hiI u r)
/-- a fraction is found by so many digits -/
def dfB (p n : Int) (r : Ru) (k : Nat) : Bool := decide (smU (unitsF p n k r) k r = some n.toNat ∧ tpF (lowN (loN (unitsF p n k r) r) (spK k r)) (lowU (loN (unitsF p n k r) r) (spK k r)) (loI (unitsF p n k r) r) n = p ∧ tpL (lowN (hiN (unitsF p n k r) r) (spK k r)) (lowU (hiN (unitsF p n k r) r) (spK k r)) (hiI (unitsF p n k r) r) n = p)
def dfK (p n : Int) (r : Ru) : Option Nat := fstK (dfB p n r) 0 7
theorem inB_low {a b : Int} {i : Bool} {c d : Int} {j : Bool} {t n : Int} (hb : 0 < b) (hd : 0 < d) : inB (lowN a b) (lowU a b) i (lowN c d) (lowU c d) j t n = inB a b i c d j t n := by
  unfold inB
  refine decide_eq_decide.mpr ?_
  have eq : ∀ {a b : Int}, 0 < b → (t * lowU a b = lowN a b * n ↔ t * b = a * n) := fun {a b} hb => by
    have h1 := cross_lt_l (p := t) (n := n) (a := a) hb
    have h2 := cross_lt_r (p := t) (n := n) (a := a) hb
    omega
  rw [cross_lt_r hb, cross_lt_l hd, eq hb, eq hd]
/-- the fraction itself reads so: its denominator is enough -/
theorem smU_own {p n d : Int} {r : Ru} (n0 : 0 < n) (n1 : n ≤ 1000) : ∃ k : Nat, (k : Int) ≤ n ∧ smU (unitsF p n d r) d r = some k := by
  obtain ⟨m, rfl⟩ : ∃ m : Nat, n = m := ⟨n.toNat, by omega⟩
  have hK := spK_pos d r
  have h := span_units (unitsF p m d r) p m d r n0
  rw [decide_eq_true rfl, ← inB_low hK hK] at h
  have u1 := lowU_pos (a := loN (unitsF p m d r) r) hK
  have u2 := lowU_pos (a := hiN (unitsF p m d r) r) hK
  obtain ⟨t, h1, h2⟩ := fstK_le 1000 1 m (smB_in u1 u2 h) (by omega) (by omega)
  exact ⟨t, by omega, h2⟩
end SD

namespace SD
open PySem DL

/-! ### the shortest decimals -/
def lsB (a b : Int) (i : Bool) (c d : Int) (j : Bool) (k : Nat) : Bool := decide (tpF a b i (powT k) ≤ tpL c d j (powT k))
def lsK (a b : Int) (i : Bool) (c d : Int) (j : Bool) : Option Nat := fstK (lsB a b i c d j) 0 7
theorem powT_succ (m : Nat) : powT ((m + 1 : Nat) : Int) = powT (m : Int) * 10 := by
  unfold powT
  rw [Int.toNat_natCast, Int.toNat_natCast, Int.pow_succ]
theorem few_dec {a b : Int} {i : Bool} {c d : Int} {j : Bool} {k : Nat} (hb : 0 < b) (hd : 0 < d) (lo : -200 * b ≤ a) (hi : c ≤ 200 * d) (h : lsK a b i c d j = some k) : tpL c d j (powT k) - tpF a b i (powT k) ≤ 400 := by
  obtain ⟨h1, h2, h3, h4⟩ := fstK_some _ _ h
  cases k with
  | zero =>
    have t := tops_bound (i := i) (j := j) (n := 1) hb hd lo hi (by decide)
    have e : powT ((0 : Nat) : Int) = 1 := rfl
    rw [e]
    omega
  | succ m =>
    rcases Int.lt_or_le 8 (tpL c d j (powT ((m + 1 : Nat) : Int)) - tpF a b i (powT ((m + 1 : Nat) : Int))) with z | z
    · have g := h4 m (by omega) (by omega)
      have g : ¬ tpF a b i (powT (m : Int)) ≤ tpL c d j (powT (m : Int)) := of_decide_eq_false g
      have e := in_scale (a := a) (b := b) (i := i) (c := c) (d := d) (j := j) (t := (tpF a b i (powT ((m + 1 : Nat) : Int)) + 9) / 10) (n := powT (m : Int)) (g := 10) (by decide)
      rw [← powT_succ, in_tops hb hd, in_tops hb hd, decide_eq_true (by omega)] at e
      have := of_decide_eq_true e.symm
      omega
    · omega
/-- the decimals themselves -/
def decL (a b : Int) (i : Bool) (c d : Int) (j : Bool) (k : Int) : List Int := rngI (tpF a b i (powT k)) (tpL c d j (powT k) + 1)
theorem decL_D {a b : Int} {i : Bool} {c d : Int} {j : Bool} {k : Int} : rngD (tpF a b i (powT k)) (tpL c d j (powT k) + 1 - tpF a b i (powT k)).toNat = (decL a b i c d j k).map PyData.int := by
  unfold decL
  rw [rngI_D]
  rcases Int.lt_or_le (tpF a b i (powT k)) (tpL c d j (powT k) + 1) with z | z
  · rw [show tpF a b i (powT k) + (((tpL c d j (powT k) + 1 - tpF a b i (powT k)).toNat : Nat) : Int) = tpL c d j (powT k) + 1 by omega]
  · rw [rngI_nil z, rngI_nil (by omega)]
theorem tops_bound2 {a b : Int} {i : Bool} {c d : Int} {j : Bool} {n : Int} (hb : 0 < b) (hd : 0 < d) (hle : a * d ≤ c * b) (lo : -200 * b ≤ a) (hi : c ≤ 200 * d) (n0 : 0 < n) : tpF a b i n ≤ 200 * n + 1 ∧ -200 * n - 1 ≤ tpL c d j n := by
  have a1 : a ≤ 200 * b := by
    have h1 : a * d ≤ 200 * b * d := by
      have : c * b ≤ 200 * d * b := Int.mul_le_mul_of_nonneg_right hi (Int.le_of_lt hb)
      rw [Int.mul_right_comm 200 b d]
      omega
    exact Int.le_of_mul_le_mul_right h1 hd
  have c1 : -200 * d ≤ c := by
    have h1 : -200 * d * b ≤ c * b := by
      have : -200 * b * d ≤ a * d := Int.mul_le_mul_of_nonneg_right lo (Int.le_of_lt hd)
      rw [Int.mul_right_comm (-200) d b]
      omega
    exact Int.le_of_mul_le_mul_right h1 hb
  constructor
  · refine (tpF_le hb).mpr (.inl ?_)
    have h1 : a * n ≤ 200 * b * n := Int.mul_le_mul_of_nonneg_right a1 (Int.le_of_lt n0)
    rw [Int.add_mul, Int.one_mul, Int.mul_right_comm]
    omega
  · refine (le_tpL hd).mpr (.inl ?_)
    have h1 : -200 * d * n ≤ c * n := Int.mul_le_mul_of_nonneg_right c1 (Int.le_of_lt n0)
    rw [Int.sub_mul, Int.one_mul, Int.mul_right_comm]
    omega
theorem ord_le {a b : Int} {i : Bool} {c d : Int} {j : Bool} (ord : a * d < c * b ∨ ((a = c ∧ b = d) ∧ i = true ∧ j = true)) : a * d ≤ c * b := by
  rcases ord with z | ⟨⟨z1, z2⟩, _⟩
  · omega
  · rw [z1, z2]
    exact Int.le_refl _
/-! ### the nearest -/
def gapN (p n P u : Int) : Nat := (u * n - p * P).natAbs
/-- the first of a, a + 1, .. with the least gap -/
def bestU (f : Int → Nat) (a : Int) : Nat → Int
  | 0 => a
  | j + 1 => if f (a + ((j + 1 : Nat) : Int)) < f (bestU f a j) then a + ((j + 1 : Nat) : Int) else bestU f a j
theorem best_ok (f : Int → Nat) (a : Int) : ∀ j : Nat, (a ≤ bestU f a j ∧ bestU f a j ≤ a + j) ∧ (∀ u, a ≤ u → u ≤ a + j → f (bestU f a j) ≤ f u) ∧ ∀ u, a ≤ u → u < bestU f a j → f (bestU f a j) < f u
  | 0 => ⟨⟨Int.le_refl _, by simp [bestU]⟩, fun u h1 h2 => by rw [show u = a by omega]; exact Nat.le_refl _, fun u h1 h2 => by simp only [bestU] at h2; omega⟩
  | j + 1 => by
    obtain ⟨⟨h1, h2⟩, h3, h4⟩ := best_ok f a j
    unfold bestU
    split
    · rename_i c
      refine ⟨⟨by omega, by omega⟩, fun u g1 g2 => ?_, fun u g1 g2 => ?_⟩
      · rcases Int.lt_or_le u (a + ((j + 1 : Nat) : Int)) with z | z
        · have := h3 u g1 (by omega)
          omega
        · rw [show u = a + ((j + 1 : Nat) : Int) by omega]
          exact Nat.le_refl _
      · have := h3 u g1 (by omega)
        omega
    · rename_i c
      refine ⟨⟨h1, by omega⟩, fun u g1 g2 => ?_, h4⟩
      rcases Int.lt_or_le u (a + ((j + 1 : Nat) : Int)) with z | z
      · exact h3 u g1 (by omega)
      · rw [show u = a + ((j + 1 : Nat) : Int) by omega]
        omega
/-- sizes of gaps as fractions -/
theorem gap_low {u p n P : Int} (hn : 0 < n) (hP : 0 < P) : lowF (lowN u P * n - p * lowU u P) (lowU u P * n) = lowF (u * n - p * P) (n * P) := by
  have hU := lowU_pos (a := u) hP
  have e1 := lowN_mul (a := u) hP
  have e2 := lowU_mul (a := u) hP
  refine lowF_cross (Int.mul_pos hU hn) (Int.mul_pos hn hP) ?_
  generalize gcdI u P = g at *
  generalize lowN u P = x at *
  generalize lowU u P = y at *
  subst e1 e2
  rw [Int.sub_mul, Int.sub_mul]
  have h1 : x * n * (n * (y * g)) = x * g * n * (y * n) := by simp only [Int.mul_assoc, Int.mul_comm, Int.mul_left_comm]
  have h2 : p * y * (n * (y * g)) = p * (y * g) * (y * n) := by simp only [Int.mul_assoc, Int.mul_comm, Int.mul_left_comm]
  rw [h1, h2]
theorem gap_less {x y M : Int} (hM : 0 < M) : ((lowN x M).natAbs : Int) * lowU y M < ((lowN y M).natAbs : Int) * lowU x M ↔ x.natAbs < y.natAbs := by
  have ab : ∀ z : Int, ((lowN z M).natAbs : Int) * gcdI z M = (z.natAbs : Int) := fun z => by
    have g := gcdI_pos (a := z) hM
    have e := lowN_mul (a := z) hM
    have : (z.natAbs : Int) = ((lowN z M * gcdI z M).natAbs : Int) := by rw [e]
    rw [this, Int.natAbs_mul, Int.natCast_mul, Int.natAbs_of_nonneg (by omega : 0 ≤ gcdI z M)]
  have gx := gcdI_pos (a := x) hM
  have gy := gcdI_pos (a := y) hM
  have ux := lowU_mul (a := x) hM
  have uy := lowU_mul (a := y) hM
  have e1 : ((lowN x M).natAbs : Int) * lowU y M * (gcdI x M * gcdI y M) = (x.natAbs : Int) * M := by
    have h : ((lowN x M).natAbs : Int) * lowU y M * (gcdI x M * gcdI y M) = ((lowN x M).natAbs : Int) * gcdI x M * (lowU y M * gcdI y M) := by simp only [Int.mul_assoc, Int.mul_comm, Int.mul_left_comm]
    rw [h, ab x, uy]
  have e2 : ((lowN y M).natAbs : Int) * lowU x M * (gcdI x M * gcdI y M) = (y.natAbs : Int) * M := by
    have h : ((lowN y M).natAbs : Int) * lowU x M * (gcdI x M * gcdI y M) = ((lowN y M).natAbs : Int) * gcdI y M * (lowU x M * gcdI x M) := by simp only [Int.mul_assoc, Int.mul_comm, Int.mul_left_comm]
    rw [h, ab y, ux]
  have gg := Int.mul_pos gx gy
  constructor
  · intro h
    have := Int.mul_lt_mul_of_pos_right h gg
    rw [e1, e2] at this
    have := Int.lt_of_mul_lt_mul_right this (Int.le_of_lt hM)
    omega
  · intro h
    refine Int.lt_of_mul_lt_mul_right (a := gcdI x M * gcdI y M) ?_ (Int.le_of_lt gg)
    rw [e1, e2]
    exact Int.mul_lt_mul_of_pos_right (by omega) hM
end SD

namespace DL
open PySem PySem.Spec PyProof.Rows L2

/-! ### an exception that outlives its except clause -/
theorem exK_ok {P : Program} {w : World} {H : Hp} {h : Heap} {C a : Addr} {oe : Obj} {vs : Array Value}
    (e : h.get? a = some oe) (z : oe.cls = .ref C ∧ oe.dict = none) (d : oe.data = .fields vs) : ObjOk P w H h a (ExK C a) :=
  ⟨⟨oe, vs, e, z, d⟩, ⟨oe, e⟩, fun h1 h2 x k => by
    obtain ⟨o, v, q, r⟩ := x
    exact ⟨o, v, k o q, r⟩⟩
section
variable {X : Cx} {pins : List (Addr × Obj)} {σ : L2.St} {H : Hp} {s : Shared} {C a : Addr}
theorem adopt {oe : Obj} {vs : Array Value} (I : Inv X pins σ H s) (e : s.heap.get? a = some oe) (z : oe.cls = .ref C ∧ oe.dict = none)
    (d : oe.data = .fields vs) (na : H a = none) (n0 : X.s_0.heap.get? a = none) (nL : a ≠ X.env.locals)
    (nC : ∀ x c, X.env.cells.lookup x = some c → c ≠ a) (nP : ∀ p ∈ X.pn ++ pins, p.1 ≠ a) : Inv X pins σ (upd H a (ExK C a)) s where
  ok := I.ok
  os := I.os
  bare := I.bare
  base := {
    keep := I.base.keep
    slot := I.base.slot
    free := fun b o q n hx => by
      have ne : b ≠ a := fun y => by rw [y, n0] at q; cases q
      rw [upd_ne ne]
      exact I.base.free b o q n hx
    there := I.base.there
    tups := fun b xs q => by
      have q2 := I.base.tups b xs q
      rw [upd_ne (ne_of_none q2 na)]
      exact q2
    frzs := fun b o u q => by
      have q2 := I.base.frzs b o u q
      rw [upd_ne (ne_of_none q2 na)]
      exact q2
    tbls := fun b ps q => by
      obtain ⟨more, q2⟩ := I.base.tbls b ps q
      exact ⟨more, by rw [upd_ne (ne_of_none q2 na)]; exact q2⟩ }
  loc := I.loc
  cell := I.cell
  free := by rw [upd_ne nL.symm]; exact I.free
  freeC := fun x c q => by rw [upd_ne (nC x c q)]; exact I.freeC x c q
  pin := fun p hp => by
    obtain ⟨h1, h2, h3⟩ := I.pin p hp
    exact ⟨h1, by rw [upd_ne (nP p hp)]; exact h2, h3⟩
  hok := I.hok.laidN (fun _ _ q => q) na (exK_ok e z d)
  len := I.len
end
/-- what 'except x as n: y = n' wishes: n at slot i, y at slot j -/
def wKeep (K : PySem.W.Frag) (c : Value) (i j : Nat) (D : Ends) : WX := fun cls d σ H => ∃ C : Addr, cls = .ref C ∧ d = none ∧ PySem.W.exmOne K (.ref C) c = some true ∧
  ∀ a, H a = none → D.nx (((σ.set i (some (.ref a))).set j (some (.ref a))).set i none) (upd H a (ExK C a))
section
variable {X : Cx} {x n : Str} {c : Value} {i j : Nat} {body suite : List Stmt} {b₀ : Stmt} {np pos pos' : Pos} {tb : WX → TS}
theorem ps_try_keep (hst : X.stack = X.env :: X.outer) (hfr : X.env.frame = some X.env.locals) (hex : X.ex = []) (hnd : X.N.Nodup) (hi : X.N[i]? = some n) (hln : X.env.kindOf n = some .local) (hc : Names X x c)
    (hb : ∀ (W : WX) (pn : List (Addr × Obj)) (xe : Value → Shared → Prop), Takes (X.tr pn xe) W → PassesOwn (model X.prog X.w) X.A X.env xe → PSs (X.tr pn xe) body (tb W))
    (hsu : ∀ (a : Addr) (oe : Obj) (pn : List (Addr × Obj)), PSs (X.suite a ((a, oe) :: pn)) (b₀ :: suite) (tAsg (tVar i) (gName j))) :
    PS X (.Try body [.ExceptHandler (some (.Name x np)) (some n) (b₀ :: suite) pos'] [] [] pos) (fun D σ H => tb (wKeep X.K c i j D) D σ H) := by
  refine ⟨fun pins s σ H D I h => ?_⟩
  have okX := I.ok
  have hframes : X.A.frames = some (X.env :: X.outer) := okX.frames.trans (by rw [hst])
  have hbody := hb (wKeep X.K c i j D) (X.pn ++ pins) (fun e s₁ => wpAny (model X.prog X.w) X.A (noteFrame e X.env) (fun _ s₂ => wpAny (model X.prog X.w) X.A (setFlight e none) (fun _ s₃ =>
    wpAny (model X.prog X.w) X.A (handleBy e X.env [.ExceptHandler (some (.Name x np)) (some n) (b₀ :: suite) pos']) (SP X pins D) X.xe s₃) X.xe s₂) X.xe s₁)
  refine wpAny_Try_except (wpAny_mono ((hbody (fun u s' ex => ?_) PassesOwn.looking).run [] s σ H D (I.toTry _) h) (fun f s1 hsp => ?_) (fun e s1 he => he))
  · -- caught
    obtain ⟨a, B, sI, pins', σ', H', cls, d, rfl, J0, nb, up, sky, na, os, ag, C, rfl, rfl, hyes, hq⟩ := ex
    have J : Inv X pins σ' H' sI := J0.ofTry okX
    have sky2 : Sky B (X.env :: X.outer) a (Zc (.ref C) none) X.env.locals s'.heap := hst ▸ sky
    have newB : B.get? a = none := by
      rcases sky2 with z | z | z
      · exact z.2.1
      · exact z.2.1
      · exact z.2.1
    show wpAny (model X.prog X.w) X.A (noteFrame (.ref a) X.env) _ _ _
    refine Sky.land Zc.steady hframes hfr sky2 fun h3 fl3 up3 => ?_
    have J3 : Inv X pins σ' H' { s' with heap := h3 } := J.landed nb fl3.1 (up.trans up3) os ag
    obtain ⟨oe3, vs3, he3, hz3, hd3⟩ := fl3.there
    have outF : a ∉ frs (X.env :: X.outer) := fun hm => by
      obtain ⟨_, o', e', hnf⟩ := fl3.2.2.1.mem hm
      rw [he3] at e'
      cases e'
      exact hnf _ hd3
    have neL : a ≠ X.env.locals := fun z => outF (List.mem_filterMap.mpr ⟨X.env, List.mem_cons_self, hfr.trans (congrArg some z.symm)⟩)
    have neF : a ∉ X.fs := fun hm => by
      obtain ⟨e, he, q⟩ := List.mem_filterMap.mp hm
      exact outF (List.mem_filterMap.mpr ⟨e, List.mem_cons_of_mem _ he, q⟩)
    -- it is new
    have newI : sI.heap.get? a = none := by
      cases q : sI.heap.get? a with
      | none => rfl
      | some o =>
        have z := nb a o q (by rw [hst]; exact outF)
        rw [newB] at z
        cases z
    have new0 : X.s_0.heap.get? a = none := by
      cases q : X.s_0.heap.get? a with
      | none => rfl
      | some o =>
        obtain ⟨o', z⟩ := J.base.there a o q (by rw [hex]; exact fun z => nomatch z)
        rw [newI] at z
        cases z
    have newC : ∀ x c, X.env.cells.lookup x = some c → c ≠ a := fun x c q z => by
      obtain ⟨v, hv⟩ := J.cell x c q
      obtain ⟨o, ho⟩ : ∃ o, sI.heap.get? c = some o := by
        first
          | exact ⟨_, hv⟩
          | (obtain ⟨o, ho, _⟩ := hv; exact ⟨o, ho⟩)
      rw [z, newI] at ho
      cases ho
    have newP : ∀ p ∈ X.pn ++ pins, p.1 ≠ a := fun p hp z => by
      have h1 := (J.pin p hp).1
      rw [z, newI] at h1
      cases h1
    have S3 := J3.suite he3 hd3 na neL neF
    refine wpAny_handleBy_cons (codeAny_handlers_test ?_) (by intro q; cases q)
    have asT : PySem.W.Looks (model X.prog X.w) h3 (typeOf (.ref a)) (.ref C) := fun A Q E s k q => wpAny_typeOf_ref (k _ _ he3) (by rw [hz3.1]; exact q)
    have asM := PySem.W.exm_one (M := model X.prog X.w) (J3.kIn) asT hyes
    have named : ∀ {Q : Value → Shared → Prop} {E : Value → Shared → Prop}, Q c { s' with heap := h3 } →
        wpAny (model X.prog X.w) (X.A.mark (some (.ref a))) (eval (.Name x np) X.env) Q E { s' with heap := h3 } := fun {Q E} q => by
      obtain ⟨hg, hdbg, hm | ⟨hm, hv, hnn⟩⟩ := hc
      · exact ld_glob (X := X.suite a ((a, oe3) :: (X.pn ++ pins))) S3 hg hm q hdbg
      · exact ld_blt (X := X.suite a ((a, oe3) :: (X.pn ++ pins))) S3 hg hm hv q hnn hdbg
    refine named (asM.here (codeAny_handlers_suite_as (HandSPX.lands_againZ fl3 fun h4 fl4 up4 => ?_)))
    have J4 : Inv X pins σ' H' { s' with heap := h4 } := J.landed nb fl4.1 ((up.trans up3).trans up4) os ag
    obtain ⟨oe4, vs4, he4, hz4, hd4⟩ := fl4.there
    have S4 := J4.suite he4 hd4 na neL neF
    refine store_ok (X := X.suite a ((a, oe4) :: (X.pn ++ pins))) (v := .ref a) S4 hnd hi (.inl hln) rfl (fun s5 S5 => ?_) (.inr hln)
    have il : i < σ'.length := by
      rw [J.len]
      exact (List.getElem?_eq_some_iff.mp hi).1
    have run := (hsu a oe4 (X.pn ++ pins)).run [] s5 _ H' { nx := fun σ6 H6 => σ6 = (σ'.set i (some (.ref a))).set j (some (.ref a)) ∧ H6 = H', rt := fun _ _ => False } S5 ⟨.ref a, List.getElem?_set_self il, rfl, rfl⟩
    refine wpAny_mono run (fun f s6 hsp => ?_) (fun _ _ z => False.elim z)
    cases f with
    | next =>
      obtain ⟨σ6, H6, S6, e6, e7⟩ := hsp
      subst e6 e7
      obtain ⟨g1, _⟩ := S6.pin (a, oe4) (List.mem_append_left _ List.mem_cons_self)
      have J6 := adopt (S6.unsuite okX) g1 hz4 hd4 na new0 neL newC newP
      exact gone_ok J6 hnd hi hln fun s7 J7 => ⟨_, _, J7, hq a na⟩
    | brk =>
      obtain ⟨_, _, _, z⟩ := hsp
      exact z.elim
    | cont =>
      obtain ⟨_, _, _, z⟩ := hsp
      exact z.elim
    | ret u =>
      obtain ⟨_, _, _, _, _, z⟩ := hsp
      exact z.elim
  · -- the body ran through
    cases f with
    | next =>
      obtain ⟨σ2, H2, J2, q⟩ := hsp
      exact wpAny_execs_nil ⟨σ2, H2, J2.ofTry okX, q⟩
    | brk =>
      obtain ⟨σ2, H2, J2, q⟩ := hsp
      exact ⟨σ2, H2, J2.ofTry okX, q⟩
    | cont =>
      obtain ⟨σ2, H2, J2, q⟩ := hsp
      exact ⟨σ2, H2, J2.ofTry okX, q⟩
    | ret u =>
      obtain ⟨v, σ2, H2, J2, r, q⟩ := hsp
      exact ⟨v, σ2, H2, J2.ofTry okX, r, q⟩
end
end DL

namespace DL
open PySem PySem.Spec PyProof.Rows L2

/-! ### try, over data -/
def noOwn (l : Sl) : Bool := l.all fun x => match x with
  | some (.own _ _) => false
  | _ => true
theorem noOwn_at {l : Sl} (h : noOwn l = true) {i : Nat} {p : Addr} {ds : List PyData} (e : l[i]? = some (some (.own p ds))) : False := by
  have := List.all_eq_true.mp h _ (List.mem_of_getElem? e)
  exact Bool.false_ne_true this
section
variable {K : PySem.W.Frag} {G : Gm} {H Hf H' Hf' : Hp} {σ σ' : L2.St} {l l' : Sl}
theorem Rep.rebase (R : Rep K G H Hf σ l) (no : noOwn l = true) : Rep K ⟨feet l, H, Hf⟩ H Hf σ l :=
  ⟨R.len, R.slot, R.nd, fun b hb => ⟨(R.free b hb).1, .inl hb⟩, fun i p ds e => (noOwn_at no e).elim, Frm.refl R.sub⟩
theorem Rep.debase (R : Rep K G H Hf σ l) (R' : Rep K ⟨feet l, H, Hf⟩ H' Hf' σ' l') : Rep K G H' Hf' σ' l' := by
  have up : ∀ b, H b = none → G.H0 b = none := fun b hb => by
    cases e : G.H0 b with
    | none => rfl
    | some o =>
      obtain ⟨o', e'⟩ := R.frm.there b o e
      rw [hb] at e'
      cases e'
  refine ⟨R'.len, R'.slot, R'.nd, fun b hb => ⟨(R'.free b hb).1, ?_⟩, fun i p ds e => up _ (R'.ownNew i p ds e), R.frm.trans R'.frm fun b hb => (R.free b hb).2⟩
  rcases (R'.free b hb).2 with z | z
  · exact (R.free b z).2
  · exact .inr (up b z)
end
def dTry (ca : Er → Addr) (i j : Nat) (d : DS) : DS := fun E l => noOwn l = true ∧ d { E with rs := fun er l' => E.nx (((l'.set i none).set j (some (.exn (ca er)))).set i none) } l
section
variable {X : Cx} {ca : Er → Addr} {W : WX} {x n : Str} {c : Value} {i j : Nat} {body suite : List Stmt} {b₀ : Stmt} {np pos pos' : Pos} {tb : WX → TS} {d : DS}
theorem pds_try (hst : X.stack = X.env :: X.outer) (hfr : X.env.frame = some X.env.locals) (hex : X.ex = []) (hnd : X.N.Nodup) (hi : X.N[i]? = some n) (hln : X.env.kindOf n = some .local) (hc : Names X x c)
    (hm : ∀ er, PySem.W.exmOne X.K (.ref (ca er)) c = some true)
    (hb : ∀ (W : WX) (pn : List (Addr × Obj)) (xe : Value → Shared → Prop), Takes (X.tr pn xe) W → PDB (X.tr pn xe) ca W body (tb W) d)
    (hsu : ∀ (a : Addr) (oe : Obj) (pn : List (Addr × Obj)), PSs (X.suite a ((a, oe) :: pn)) (b₀ :: suite) (tAsg (tVar i) (gName j))) :
    PDS X ca W (.Try body [.ExceptHandler (some (.Name x np)) (some n) (b₀ :: suite) pos'] [] [] pos) (fun D σ H => tb (wKeep X.K c i j D) D σ H) (dTry ca i j d) := by
  refine ⟨ps_try_keep hst hfr hex hnd hi hln hc (fun W pn xe tk _ => (hb W pn xe tk).pe) hsu, fun G D E σ H Hf l R m z => ?_⟩
  obtain ⟨no, z⟩ := z
  have sm : ∀ {σ' l' H' Hf'}, Rep X.K ⟨feet l, H, Hf⟩ H' Hf' σ' l' → Same Hf Hf' := fun R' => R'.frm.sameF R.sub
  refine (hb (wKeep X.K c i j D) [] (fun _ _ => True) (fun _ _ _ => trivial)).es ⟨feet l, H, Hf⟩ D _ σ H Hf l (R.rebase no) ⟨?_, ?_, ?_, ?_, ?_⟩ z
  · exact fun σ' l' H' Hf' q R' s => m.nx _ _ _ _ q (R.debase R') s
  · exact fun σ' l' v dd H' Hf' q R' s dv => m.rt _ _ _ _ _ _ q (R.debase R') s dv
  · exact fun σ' l' H' Hf' q R' s => m.bk _ _ _ _ q (R.debase R') s
  · exact fun σ' l' H' Hf' q R' s => m.ct _ _ _ _ q (R.debase R') s
  · intro e σ' l' H' Hf' q R'
    refine ⟨ca e, rfl, rfl, hm e, fun a na => ?_⟩
    have R1 := R.debase R'
    have F : Frm [] H' Hf' (upd H' a (ExK (ca e) a)) (upd Hf' a (ExK (ca e) a)) := Frm.new R1.sub na
    have R2 := ((R1.grow F).forget i (some (.ref a))).putExn j (v := .ref a) (C := ca e) rfl upd_same
    exact m.nx _ _ _ _ q (R2.forget i none) ((sm R').trans (F.sameF R1.sub))
end
/-! ### is it None, of data or an exception -/
def dIsX (j : Nat) : DT := fun l Q _ => (∃ d, l[j]? = some (some (.val d)) ∧ Q (isNonD d) l) ∨ ∃ C, l[j]? = some (some (.exn C)) ∧ Q false l
theorem pdt_isX {X : Cx} {ca : Er → Addr} {W : WX} {a : Expr} {j k : Nat} {pos p2 : Pos} (h : PE X a (tVar j)) (hm : behindInMarks .Is (.Constant .none k p2) = false) :
    PDT X ca W (.Compare a [.Is] [.Constant .none k p2] pos) (tTest (tOp (fun x y H Q => y = .non ∧ Q (.bl (decide (x = .non))) H) (tVar j) (tC .non))) (dIsX j) := by
  refine ⟨pt_cmpR op_isN h pe_non hm, fun G σ H Hf l Q q r R k kr hd => ?_⟩
  rcases hd with ⟨d, hj, z⟩ | ⟨C, hj, z⟩
  · obtain ⟨v, e1, e2⟩ := R.slot j _ hj
    refine ⟨v, e1, rfl, _, rfl, ?_⟩
    rw [isNon_dec (K := X.K) (H := Hf) e2]
    exact k _ _ _ _ z R (Same.refl _)
  · obtain ⟨v, e1, a, rfl, e3⟩ := R.slot j _ hj
    refine ⟨.ref a, e1, rfl, _, rfl, ?_⟩
    rw [decide_eq_false (fun z => nomatch z)]
    exact k _ _ _ _ z R (Same.refl _)
/-! ### the names of errors -/
def erS : Er → Str
  | .frac => "fraction"
  | .rng => "range"
  | .rul => "rule"
  | .num => "number"
  | .txt => "text"
  | .nof => "none"
def spX (K : PySem.W.Frag) (ca : Er → Addr) : Sp := fun vs H Q _ => ∃ (a : Addr) (er : Er) (Hf : Hp), vs = [.ref a] ∧ Same Hf H ∧ Hf a = some (ExK (ca er) a) ∧
  ∀ v H' Hf', Frm [] H Hf H' Hf' → Dv K Hf' v (.str (erS er)) → Q v H'
structure FdX (P : Program) (w : World) (K : PySem.W.Frag) (mg : Str → Option Value) (base : Heap) (ca : Er → Addr) (x : Str) (k : Nat) : Prop where
  ex : ∃ (f : Addr) (fd : FuncData) (ps : List Str), FnOk P w K mg base (L2.CX P w) k f fd ps (spX K ca) ∧ mg x = some (.ref f) ∧ PySem.W.keepIn K (.ref f) = true ∧ Binds K fd ps []
def dCallX (ca : Er → Addr) (j : Nat) : DE := fun l Q _ => ∃ er, l[j]? = some (some (.exn (ca er))) ∧ Q (.str (erS er)) l
section
variable {X : Cx} {ca : Er → Addr} {W : WX} {a e o : Expr} {pos : Pos} {j : Nat}
theorem pd_fnX {P : Program} {w : World} {K : PySem.W.Frag} {mg : Str → Option Value} {base : Heap} {x : Str} {p : Pos} {k : Nat} (F : FdX P w K mg base ca x k) (hr : Room k X.A) (hg : Gl X x) (tk : Takes X W) (ha : PE X e (tVar j))
    (hdb : (x == ("__debug__" : Str)) = false := by decide) (he : starEach (e :: []) X.env = (false, eval e X.env) :: starEach [] X.env := by rfl) (hpl : (backTo pos (starEach [] X.env)).any (·.1) = false := by rfl)
    (hP : X.prog = P := by rfl) (hw : X.w = w := by rfl) (hK : X.K = K := by rfl) (hM : X.mg = mg := by rfl) (hB : X.base = base := by rfl) :
    PD X ca W (.Call (.Name x p) [e] [] pos) (tCallS (spX K ca) (WE W) (tCons (tVar j) tNil)) (dCallX ca j) := by
  subst hP hw hK hM hB
  obtain ⟨f, fd, ps, h1, h2, h3, h4⟩ := F
  refine ⟨pe_callS (E := WE W) h1 hr hg h2 h3 h4 (fun σ => passAt tk σ) (pa_cons ha pa_nil he) hdb he hpl, fun G σ H Hf l Q q r R k kr hd => ?_⟩
  obtain ⟨er, hj, z⟩ := hd
  obtain ⟨v, e1, b, rfl, e3⟩ := R.slot j _ hj
  exact ⟨.ref b, e1, b, er, Hf, rfl, R.sub, e3, fun v H' Hf' F' dv => k _ _ _ _ _ z (R.grow F') (F'.sameF R.sub) dv⟩
/-! ### isinstance of a kept exception -/
def rIsX (K : PySem.W.Frag) : List V → Hp → VK → Prop := fun xs H Q => ∃ (a C : Addr) (c : V) (u : Value) (b : Bool), xs = [.ref a, c] ∧ ClsV c u ∧ H a = some (ExK C a) ∧ ExcC K C ∧ PySem.W.kitOne K (.ref C) u = some b ∧ Q (.bl b) H
theorem call_isX : CallR X (.builtin "isinstance") (rIsX X.K) := by
  intro pins s σ H xs us Q I r h
  obtain ⟨a, C, c, u, b, rfl, hcv, ha, T, e, q⟩ := h
  obtain ⟨u1, u2, rfl, r1, r2⟩ := vals2 r
  obtain rfl := hcv.eq r2
  cases (show u1 = Value.ref a from r1)
  obtain ⟨⟨oe, vs, hget, ⟨h1, h2⟩, hv⟩, _⟩ := (show ObjOk X.prog X.w H s.heap a (ExK C a) from I.hok a _ ha)
  have J : PySem.W.InstAt s.heap a oe C none := by
    obtain ⟨oc, od, oda, osl⟩ := oe
    dsimp only at h1 h2 hv
    subst h1 h2 hv
    exact ⟨hget, rfl, rfl, trivial⟩
  have Z := PySem.W.handS_kitx_exc (x := a) (ox := oe) T.hg T.hk T.hs T.hd T.ha T.hn T.ht T.hm
  exact PySem.W.kia_one Z I.kIn J e (fun z => nomatch z) fun tk => ⟨.bl b, H, I.tok tk, rfl, q⟩
def dIsiX (ca : Er → Addr) (j : Nat) (kit : Er → Bool) : DE := fun l Q _ => ∃ er, l[j]? = some (some (.exn (ca er))) ∧ Q (.bool (kit er)) l
theorem pd_isiX {K : PySem.W.Frag} {t : Expr} {v : V} {u : Value} {kit : Er → Bool} {p : Pos} (ha : PE X a (tVar j)) (hg : Gl X "isinstance") (hm : X.mg "isinstance" = none) (hT : PE X t (tC v)) (hv : ClsV v u) (hE : ∀ er, ExcC K (ca er)) (hk : ∀ er, PySem.W.kitOne K (.ref (ca er)) u = some (kit er))
    (hs : starEach [a, t] X.env = (false, eval a X.env) :: starEach [t] X.env := by rfl) (hs2 : starEach [t] X.env = (false, eval t X.env) :: starEach [] X.env := by rfl)
    (hpl : (backTo pos (starEach [t] X.env)).any (·.1) = false := by rfl) (hK : X.K = K := by rfl) :
    PD X ca W (.Call (.Name "isinstance" p) [a, t] [] pos) (tCB (rIsX K) (tCons (tVar j) (tCons (tC v) tNil))) (dIsiX ca j kit) := by
  subst hK
  refine ⟨pe_callB call_isX hg hm boot_isinstance (pa_cons ha (pa_cons hT pa_nil hs2) hs) (by decide) (by decide) hs hpl, fun G σ H Hf l Q q r R k kr z => ?_⟩
  obtain ⟨er, hj, z⟩ := z
  obtain ⟨w, e1, b, rfl, e3⟩ := R.slot j _ hj
  exact ⟨.ref b, e1, b, ca er, v, u, kit er, rfl, hv, R.sub _ _ e3, hE er, hk er, k _ _ _ _ _ z R (Same.refl _) (.bl _)⟩
/-! ### l.count(True), l.index(True) -/
def rCntB (K : PySem.W.Frag) : V → List V → Hp → VK → Prop := fun x xs H Q => ∃ (p : Addr) (bs : List Bool), x = .ref p ∧ xs = [.bl true] ∧ SqL K H p (bs.map V.bl) ∧ Q (.int (bs.count true : Nat)) H
theorem flat_bls (bs : List Bool) : (bs.map V.bl).all flatV = true := by
  rw [List.all_map]
  exact List.all_eq_true.mpr fun _ _ => rfl
theorem cnt_bls : ∀ {bs : List Bool} {its : List Value}, Vals (bs.map V.bl) its → its.countP (eqU (.bl true)) = bs.count true
  | [], its, r => by cases r; rfl
  | b :: bs, its, r => by
    cases r with
    | cons rx rr =>
      cases (show _ = Value.bool b from rx)
      rw [List.countP_cons, List.count_cons, cnt_bls rr]
      cases b <;> rfl
theorem mt_countB : MtR X "list.count" (rCntB X.K) := by
  intro pins s σ H x xs v us Q I rx rxs h
  obtain ⟨p, bs, rfl, rfl, hs, q⟩ := h
  cases rx
  obtain ⟨u, rfl, ru⟩ := rxs.one
  cases (show u = Value.bool true from ru)
  obtain ⟨its, rv, ⟨⟨cls, dd, data, sl⟩, n, ho, hc, hdn, hd⟩, hlen⟩ := I.list hs
  simp only at hc hd
  subst hc hd
  have meets := SeqAt.list_countAt p its.toArray n dd sl (.bool true) (eqU (.bl true))
  refine call_meets PySem.F.slot_list_count ⟨_, ho, rfl⟩ PySem.F.entry_list_count (PySem.F.args_list_count_2 _ _) meets ⟨ho, fun y hy => mem_eqAt (x := .bl true) rfl rfl rv (flat_bls bs) y (by simpa using hy), ?_⟩
  have ec : its.toArray.toList.countP (eqU (.bl true)) = bs.count true := cnt_bls (by simpa using rv)
  refine ⟨.int (bs.count true : Nat), H, I.tok _, ⟨s.toks, ?_⟩, q⟩
  show Value.int ((its.toArray.toList.countP (eqU (.bl true)) : Nat) : Int) s.toks = Value.int ((bs.count true : Nat) : Int) s.toks
  rw [ec]
def cntBD : PyData → PyData → Option PyData
  | .list xs, .bool true => (boolsOf xs).map fun bs => .int (bs.count true : Nat)
  | _, _ => none
def idxBD : PyData → PyData → Option PyData
  | .list xs, .bool true => (boolsOf xs).bind fun bs => (bs.findIdx? id).map fun j => .int (j : Int)
  | _, _ => none
def dMeth (f : PyData → PyData → Option PyData) (a b : DE) : DE := fun l Q R => a l (fun x l1 => ∃ ds, x = .list ds ∧ b l1 (fun y l2 => ∃ z, f x y = some z ∧ Q z l2) R) R
theorem pd_cntB {K : PySem.W.Frag} {ua ub : TE} {da db : DE} {apos cpos : Pos} (ho : PD X ca W o ua da) (ha : PD X ca W e ub db) (hbase : attributeBase o "count" X.env (eval o X.env) = eval o X.env := by rfl)
    (hst : starEach [e] X.env = (false, eval e X.env) :: starEach [] X.env := by rfl)
    (hfew : ((backTo cpos (starEach (e :: []) X.env)).all (fun x => !x.1) && (backToKw cpos (keywordEach [] X.env)).all (fun x => x.1.isSome)
      && decide ((e :: []).length + ([] : List Keyword).length + (if ([] : List Keyword).isEmpty then 0 else 1) < 30)) = true := by rfl) (hline : (apos.endLine == cpos.line) = true := by rfl) (hK : X.K = K := by rfl) :
    PD X ca W (.Call (.Attribute o "count" apos) [e] [] cpos) (tBM K "list" (rCntB K) ua (tCons ub tNil)) (dMeth cntBD da db) := by
  subst hK
  refine ⟨pe_bm PySem.F.plainAttrs_list PySem.F.slot_list_count PySem.F.type_list_count mt_countB ho.pe (pa_cons ha.pe pa_nil hst) hbase hfew hline hst rfl, fun G σ H Hf l Q q r R k kr z => ?_⟩
  refine ho.es G σ H Hf l _ _ r R (fun x l1 v H1 Hf1 z1 R1 s1 d1 => ?_) kr z
  obtain ⟨ds, rfl, z1⟩ := z1
  obtain ⟨a, vs, rfl, h1, h2⟩ := d1.list_inv
  refine ⟨.inl ⟨rfl, _, .inl (.inl (R1.sub _ _ h1))⟩, ha.es G σ H1 Hf1 l1 _ _ r R1 (fun y l2 w H2 Hf2 z2 R2 s2 d2 => ?_) kr z1⟩
  obtain ⟨z3, e3, z2⟩ := z2
  unfold cntBD at e3
  split at e3
  · rename_i xs e4
    cases e4
    obtain rfl := d2.bl_inv
    cases e4 : boolsOf ds with
    | none => rw [e4] at e3; cases e3
    | some bs =>
      rw [e4] at e3
      cases e3
      have ev := boolsOf_vals e4 h2
      refine ⟨a, bs, rfl, rfl, ?_, k _ _ _ _ _ z2 R2 (s1.trans s2) (.int _)⟩
      rw [← ev]
      exact .inl (.inl (R2.sub _ _ (s2 _ _ h1)))
  · cases e3
theorem pd_idxB {K : PySem.W.Frag} {ua ub : TE} {da db : DE} {apos cpos : Pos} (ho : PD X ca W o ua da) (ha : PD X ca W e ub db) (hbase : attributeBase o "index" X.env (eval o X.env) = eval o X.env := by rfl)
    (hst : starEach [e] X.env = (false, eval e X.env) :: starEach [] X.env := by rfl)
    (hfew : ((backTo cpos (starEach (e :: []) X.env)).all (fun x => !x.1) && (backToKw cpos (keywordEach [] X.env)).all (fun x => x.1.isSome)
      && decide ((e :: []).length + ([] : List Keyword).length + (if ([] : List Keyword).isEmpty then 0 else 1) < 30)) = true := by rfl) (hline : (apos.endLine == cpos.line) = true := by rfl) (hK : X.K = K := by rfl) :
    PD X ca W (.Call (.Attribute o "index" apos) [e] [] cpos) (tBM K "list" (rIndex K) ua (tCons ub tNil)) (dMeth idxBD da db) := by
  subst hK
  refine ⟨pe_bm PySem.F.plainAttrs_list PySem.F.slot_list_index PySem.F.type_list_index mt_index ho.pe (pa_cons ha.pe pa_nil hst) hbase hfew hline hst rfl, fun G σ H Hf l Q q r R k kr z => ?_⟩
  refine ho.es G σ H Hf l _ _ r R (fun x l1 v H1 Hf1 z1 R1 s1 d1 => ?_) kr z
  obtain ⟨ds, rfl, z1⟩ := z1
  obtain ⟨a, vs, rfl, h1, h2⟩ := d1.list_inv
  refine ⟨.inl ⟨rfl, _, .inl (.inl (R1.sub _ _ h1))⟩, ha.es G σ H1 Hf1 l1 _ _ r R1 (fun y l2 w H2 Hf2 z2 R2 s2 d2 => ?_) kr z1⟩
  obtain ⟨z3, e3, z2⟩ := z2
  unfold idxBD at e3
  split at e3
  · rename_i xs e4
    cases e4
    obtain rfl := d2.bl_inv
    cases e4 : boolsOf ds with
    | none => rw [e4] at e3; cases e3
    | some bs =>
      cases e5 : bs.findIdx? id with
      | none => simp [e4, e5] at e3
      | some j =>
        simp [e4, e5] at e3
        subst e3
        obtain ⟨hj, e6, e7⟩ := List.findIdx?_eq_some_iff_getElem.mp e5
        have ev := boolsOf_vals e4 h2
        refine ⟨a, vs, _, j, .bl bs[j], rfl, rfl, .inl (.inl (R2.sub _ _ (s2 _ _ h1))), rfl, ?_, ?_, ?_, fun m z' hm hz => ?_, k _ _ _ _ _ z2 R2 (s1.trans s2) (.int _)⟩
        · rw [ev]
          exact flat_bls bs
        · rw [ev, List.getElem?_map, List.getElem?_eq_getElem hj]
          rfl
        · have : bs[j] = true := e6
          rw [this]
          rfl
        · rw [ev, List.getElem?_map] at hz
          cases e8 : bs[m]? with
          | none => simp [e8] at hz
          | some t =>
            simp [e8] at hz
            subst hz
            obtain ⟨hm2, e9⟩ := List.getElem?_eq_some_iff.mp e8
            have := e7 m hm
            rw [e9] at this
            cases t with
            | true => exact absurd rfl this
            | false => rfl
  · cases e3
end
/-! ### a def whose one argument is a kept exception -/
def startX (ca : Er → Addr) (er : Er) (N : List Str) : Sl := some (.exn (ca er)) :: List.replicate (N.length - 1) none
section
variable {P : Program} {w : World} {K : PySem.W.Frag} {mg : Str → Option Value} {base : Heap}
theorem fn_okX {x qual : Str} {st : Stmt} {f : Addr} {fd : FuncData} {N ps : List Str} {k : Nat} {ca : Er → Addr} (F : Fun K x qual st f fd) (S : FnScope N ps (defScope st)) (hn : ps.length = 1)
    (body : ∀ (cdv : Value) (A : Around) (outer : List Env) (s : Shared) (H : Hp) (E : XK), Room k (fnX P w K mg base N qual st f cdv A outer s H E).A → Takes (fnX P w K mg base N qual st f cdv A outer s H E) (fnW E) →
      PassesOwn (model P w) (fnX P w K mg base N qual st f cdv A outer s H E).A (fnX P w K mg base N qual st f cdv A outer s H E).env (fnX P w K mg base N qual st f cdv A outer s H E).xe → (fnX P w K mg base N qual st f cdv A outer s H E).A.units + 64 < cLine → (fnX P w K mg base N qual st f cdv A outer s H E).A.units + 65 < cLine →
      ∃ t d, PDB (fnX P w K mg base N qual st f cdv A outer s H E) ca (fnW E) (defBody st) t d ∧ ∀ er, d (topE fun r => r = .ok (.str (erS er))) (startX ca er N)) :
    FnOk P w K mg base (L2.CX P w) (k + 1) f fd ps (spX K ca) := by
  refine F.okX S (fun vs H Q E h => ?_) (fun cdv A outer s H vs Q E hr h => ?_)
  · obtain ⟨a, er, Hf, rfl, _⟩ := h
    rw [hn]
    rfl
  · obtain ⟨a, er, Hf, rfl, h2, h3, h4⟩ := h
    obtain ⟨t, d, hb, hd⟩ := body cdv A outer s H E hr (takes_of rfl rfl rfl rfl) (passes_of rfl) hr.units (by have := hr.un; show (A.deeper _).units + 65 < cLine; omega)
    have slot : ∀ (i : Nat) (x : DL.S), (startX ca er N)[i]? = some (some x) → i = 0 ∧ x = .exn (ca er) := fun i x h => by
      cases i with
      | zero =>
        have e : DL.S.exn (ca er) = x := by simpa [startX] using h
        exact ⟨rfl, e.symm⟩
      | succ i =>
        simp only [startX, List.getElem?_cons_succ, List.getElem?_replicate] at h
        split at h <;> simp at h
    have ft : feet (startX ca er N) = [] := by
      show foot (some (.exn (ca er))) ++ feet (List.replicate (N.length - 1) none) = []
      rw [feet_none]
      rfl
    have R : Rep K ⟨[], H, Hf⟩ H Hf (L2.start N [.ref a]) (startX ca er N) := by
      refine ⟨?_, fun i x h => ?_, (by rw [ft]; exact List.nodup_nil), (fun b hb => by rw [ft] at hb; cases hb), fun i p ds h => ?_, Frm.refl h2⟩
      · simp [L2.start, startX]
        first | done | omega
      · obtain ⟨rfl, rfl⟩ := slot i x h
        exact ⟨.ref a, rfl, a, rfl, h3⟩
      · obtain ⟨_, z⟩ := slot i _ h
        cases z
    refine ⟨t, hb.pe, ?_⟩
    refine hb.es ⟨[], H, Hf⟩ _ (topE fun r => r = .ok (.str (erS er))) _ H Hf _ R ⟨?_, ?_, ?_, ?_, ?_⟩ (hd er)
    · intro σ' l' H' Hf' z R _
      cases z
    · intro σ' l' v d H' Hf' z R _ dv
      cases z
      exact h4 _ _ _ R.frm dv
    · exact fun σ' l' H' Hf' z R _ => z.elim
    · exact fun σ' l' H' Hf' z R _ => z.elim
    · intro e σ' l' H' Hf' z R
      cases z
end
theorem addD_ll {xs ys : List PyData} (h : xs.length + ys.length ≤ sizeLine) : addD (.list xs) (.list ys) = some (.list (xs ++ ys)) := if_pos h
theorem kit_ref {K : PySem.W.Frag} {C D : Addr} {b : Bool} (hd : PySem.W.hasDictIn K D = true) (ht : PySem.W.typeIn K (.ref D) = some (.type "type")) (hs : PySem.W.subIn K (.ref C) (.ref D) = some b)
    (self : PySem.W.subIn K (.ref C) (.ref C) = some true) : PySem.W.kitOne K (.ref C) (.ref D) = some b := by
  unfold PySem.W.kitOne
  by_cases e : C = D
  · subst e
    rw [self] at hs
    cases hs
    rw [if_pos (by simp)]
  · rw [if_neg (by simpa using e)]
    obtain ⟨cd, hc, _⟩ := PySem.W.any_some hd
    show (if ((PySem.W.clsIn K D).isSome && PySem.W.typeIn K (.ref D) == some (.type "type")) = true then PySem.W.subIn K (.ref C) (.ref D) else none) = some b
    rw [hc, ht, if_pos (by simp)]
    exact hs
theorem kit_ve {K : PySem.W.Frag} {C : Addr} (hs : PySem.W.subIn K (.ref C) (.type "ValueError") = some true) : PySem.W.kitOne K (.ref C) (.type "ValueError") = some true := by
  unfold PySem.W.kitOne
  rw [if_neg (by simp)]
  show (if PySem.W.kitMeta "ValueError" = true then PySem.W.subIn K (.ref C) (.type "ValueError") else none) = some true
  rw [if_pos (by decide +kernel)]
  exact hs
/-- all that a law's own errors want -/
structure XIs (K : PySem.W.Frag) (mg : Str → Option Value) (ca : Er → Addr) (D : Addr) : Prop where
  gD : mg "DecimalError" = some (.ref D)
  exm : ∀ er, PySem.W.exmOne K (.ref (ca er)) (.ref D) = some true
  kD : ∀ er, PySem.W.kitOne K (.ref (ca er)) (.ref D) = some true
  kV : ∀ er, PySem.W.kitOne K (.ref (ca er)) (.type "ValueError") = some true
  ex : ∀ er, ExcC K (ca er)
  kit : ∀ er er', PySem.W.kitOne K (.ref (ca er)) (.ref (ca er')) = some (decide (er = er'))
  g0 : mg "BadFraction" = some (.ref (ca .frac))
  g1 : mg "BadRange" = some (.ref (ca .rng))
  g2 : mg "BadRule" = some (.ref (ca .rul))
  g3 : mg "BadNumber" = some (.ref (ca .num))
  g4 : mg "BadText" = some (.ref (ca .txt))
  g5 : mg "NotFound" = some (.ref (ca .nof))
  exn : PySem.W.exmOne K (.ref (ca .nof)) (.ref (ca .nof)) = some true
end DL

namespace DL
open PySem PySem.Spec PyProof.Rows L2

/-! ### list(range(i, j)) -/
def rgOk (a b : Int) : Bool := small62 a && small62 b && decide ((b - a).toNat ≤ 16777216)
def dListRg (x y : DE) : DE := fun l Q R => x l (fun u l1 => y l1 (fun v l2 => ∃ i j : Int, u = .int i ∧ v = .int j ∧ rgOk i j = true ∧ Q (.list (rngD i (j - i).toNat)) l2) R) R
theorem dvAll_rg {K : PySem.W.Frag} {H : Hp} (a b : Int) : DvAll K H (rgV a b) (rngD a (b - a).toNat) := by
  refine ⟨by rw [rgV_length, rngD_len], fun i v d h1 h2 => ?_⟩
  unfold rgV at h1
  unfold rngD at h2
  rw [List.getElem?_map] at h1 h2
  cases e : (List.range (b - a).toNat)[i]? with
  | none => rw [e] at h1; cases h1
  | some t =>
    rw [e] at h1 h2
    cases h1
    cases h2
    exact .int _
section
variable {X : Cx} {ca : Er → Addr} {W : WX} {a b e : Expr} {ua ub : TE} {da db : DE} {pos pos2 p p2 : Pos}
theorem pd_listRange (hc : X.calm = true) (hg : Gl X "list") (hm : X.mg "list" = none) (hg2 : Gl X "range") (hm2 : X.mg "range" = none) (ha : PD X ca W a ua da) (hb : PD X ca W b ub db)
    (na : starEach [a, b] X.env = (false, eval a X.env) :: starEach [b] X.env := by rfl) (nb : starEach [b] X.env = (false, eval b X.env) :: starEach [] X.env := by rfl) (hp : (backTo pos2 (starEach [b] X.env)).any (·.1) = false := by rfl)
    (nc : starEach [.Call (.Name "range" p2) [a, b] [] pos2] X.env = (false, eval (.Call (.Name "range" p2) [a, b] [] pos2) X.env) :: starEach [] X.env := by rfl) :
    PD X ca W (.Call (.Name "list" p) [.Call (.Name "range" p2) [a, b] [] pos2] [] pos) (tLstRg (tRg2 ua ub)) (dListRg da db) := by
  refine ⟨pe_listRg hc hg hm (prg_2 hg2 hm2 ha.pe hb.pe na nb hp) nc, fun G σ H Hf l Q q r R k kr hd => ?_⟩
  refine ha.es G σ H Hf l _ _ r R (fun x l1 v H1 Hf1 z R1 s1 d1 => ?_) kr hd
  refine hb.es G σ H1 Hf1 l1 _ _ r R1 (fun y l2 v2 H2 Hf2 z R2 s2 d2 => ?_) kr z
  obtain ⟨i, j, rfl, rfl, ok, z⟩ := z
  obtain rfl := d1.int_inv
  obtain rfl := d2.int_inv
  unfold rgOk at ok
  rw [Bool.and_eq_true, Bool.and_eq_true] at ok
  have o1 := small62_of ok.1.1
  have o2 := small62_of ok.1.2
  have o3 := of_decide_eq_true ok.2
  refine ⟨i, j, rfl, rfl, ⟨o1.1, o1.2, o2.1, o2.2, o3⟩, fun c hc => ?_⟩
  have F : Frm [] H2 Hf2 (upd H2 c (.lst (rgV i j))) (upd Hf2 c (.lst (rgV i j))) := Frm.new R2.sub hc
  exact k _ _ _ _ _ z (R2.grow F) ((s1.trans s2).trans (F.sameF R2.sub)) (.lst' upd_same (dvAll_rg i j))
/-! ### own[e] -/
def dOix (i : Nat) (e : DE) : DE := fun l Q R => ∃ p ds, l[i]? = some (some (.own p ds)) ∧ e l (fun y l' => ∃ es z, l'[i]? = some (some (.own p es)) ∧ ixD (.list es) y = some z ∧ Q z l') R
theorem pd_oix {K : PySem.W.Frag} {i : Nat} (h : PE X a (tVar i)) (hb : PD X ca W b ub db) (hs : PlainIx b) (hK : X.K = K := by rfl) : PD X ca W (.Subscript a b pos) (tOp (rIx K) (tVar i) ub) (dOix i db) := by
  subst hK
  refine ⟨pe_ix ix_seq h hb.pe hs, fun G σ H Hf l Q q r R k kr hd => ?_⟩
  obtain ⟨p, ds, hi, hd⟩ := hd
  obtain ⟨v, e1, e2, vs, e3, e4⟩ := R.slot i _ hi
  subst e2
  refine ⟨_, e1, hb.es G σ H Hf l _ _ r R (fun y l' w H' Hf' z R' s dv => ?_) kr hd⟩
  obtain ⟨es, z3, hi', ez, z⟩ := z
  obtain ⟨v', f1, f2, ws, f3, f4⟩ := R'.slot i _ hi'
  cases y with
  | int t =>
    obtain rfl := dv.int_inv
    obtain ⟨u, h3, h4⟩ := atI_dv f4 (show atI es t = some z3 from ez)
    exact .inl ⟨p, ws, _, u, rfl, rfl, .inl (.inl f3), h3, k _ _ _ _ _ z R' s h4⟩
  | _ => cases ez
end
end DL

namespace DL
open PySem PySem.Spec PyProof.Rows L2

/-! ### readers -/
theorem now_past : ¬ (("now" : Str) = "past") := by decide +kernel
theorem past_now : ¬ (("past" : Str) = "now") := by decide +kernel
theorem rf_now (v : V) (l : Addr) : (rf v l).lookup ("now" : Str) = some v := by simp [rf, List.lookup]
theorem rf_past (v : V) (l : Addr) : (rf v l).lookup ("past" : Str) = some (.ref l) := by
  have h : (("past" : Str) == "now") = false := by simpa using past_now
  simp [rf, List.lookup, h]
theorem rf_no (v : V) (l : Addr) {m : Str} (h1 : ¬ m = "now") (h2 : ¬ m = "past") : (rf v l).lookup m = none := by
  have e1 : (m == ("now" : Str)) = false := by simpa using h1
  have e2 : (m == ("past" : Str)) = false := by simpa using h2
  simp [rf, List.lookup, e1, e2]
theorem rf_put (v w : V) (l : Addr) : putF "now" w (rf v l) = rf w l := by
  show (if ("now" : Str) = "now" then (("now" : Str), w) :: [(("past" : Str), V.ref l)] else _) = rf w l
  rw [if_pos rfl]
  rfl
section
variable {K : PySem.W.Frag} {G : Gm} {H Hf H' Hf' : Hp} {σ : L2.St} {l : Sl} {i : Nat} {p dx q C : Addr} {now now' : PyData} {past past' : List PyData}
theorem foot_sub {l : Sl} {i : Nat} {s : S} (h : l[i]? = some (some s)) : (foot (some s)).Sublist (feet l) := by
  induction l generalizing i with
  | nil => simp at h
  | cons x r ih =>
    cases i with
    | zero =>
      have e : x = some s := by simpa using h
      subst e
      exact List.sublist_append_left _ _
    | succ i => exact (ih (by simpa using h)).trans (List.sublist_append_right _ _)
theorem rdr_nd (R : Rep K G H Hf σ l) (hi : l[i]? = some (some (.rdr p dx q C now past))) : [p, dx, q].Nodup := R.nd.sublist (foot_sub hi)
/-- a reader written by a call or a store -/
theorem rdr_set (R : Rep K G H Hf σ l) (hi : l[i]? = some (some (.rdr p dx q C now past))) (F : Frm [p, dx, q] H Hf H' Hf') (hd : RdrAt K H' Hf' p dx q C now' past') : Rep K G H' Hf' σ (l.set i (some (.rdr p dx q C now' past'))) := by
  have fr := fun b hb => R.free b (mem_feet hi (b := b) hb)
  have inx : ∀ b, b ∈ [p, dx, q] → b ∈ foot (some (S.rdr p dx q C now past)) := fun b hb => hb
  have hlt : i < l.length := (List.getElem?_eq_some_iff.mp hi).1
  have ft : feet (l.set i (some (.rdr p dx q C now' past'))) = feet l := feet_set_same hi rfl
  refine ⟨by simp [R.len], fun j s hj => ?_, by rw [ft]; exact R.nd, fun b hb => ?_, fun j p' ds hj => ?_, R.frm.trans F fun b hb => (fr b (inx b hb)).2⟩
  · by_cases e : i = j
    · subst e
      rw [List.getElem?_set_self hlt] at hj
      have e : s = .rdr p dx q C now' past' := by simpa using hj.symm
      subst e
      obtain ⟨v, e1, e2, _⟩ := R.slot i _ hi
      exact ⟨v, e1, e2, hd⟩
    · rw [List.getElem?_set_ne e] at hj
      obtain ⟨v, e1, e2⟩ := R.slot j s hj
      refine ⟨v, e1, ?_⟩
      have out : ∀ b ∈ foot (some s), b ∉ [p, dx, q] := fun b hb z => feet_ne R.nd hj hi (fun y => e y.symm) hb (inx b z) rfl
      have sm := F.sameF R.sub
      cases s with
      | val d => exact Dv.mono sm e2
      | own p' ds =>
        obtain ⟨e, vs, h1, h2⟩ := e2
        exact ⟨e, vs, F.keep _ _ (out p' (by simp [foot])) h1, h2.mono sm⟩
      | drw a b =>
        obtain ⟨e, ns, k, h1, h2, h3⟩ := e2
        exact ⟨e, ns, k, F.keep _ _ (out a (by simp [foot])) h1, F.keep _ _ (out b (by simp [foot])) h2, h3⟩
      | scr =>
        obtain ⟨a, ns, e, h1, h2⟩ := e2
        exact ⟨a, ns, e, sm.seq h1, h2⟩
      | exn C' =>
        obtain ⟨a, e, h1⟩ := e2
        exact ⟨a, e, sm _ _ h1⟩
      | rdr p' dx' q' C' n' s' =>
        obtain ⟨e, vn, vs, h1, h2, h3, h4, h5⟩ := e2
        exact ⟨e, vn, vs, F.keep _ _ (out p' (by simp [foot])) h1, F.keep _ _ (out dx' (by simp [foot])) h2, F.keep _ _ (out q' (by simp [foot])) h3, h4.mono sm, h5.mono sm⟩
  · rw [ft] at hb
    obtain ⟨o, ho⟩ := R.there hb
    refine ⟨?_, (R.free b hb).2⟩
    rw [F.fz b o ho]
    exact (R.free b hb).1
  · by_cases e : i = j
    · subst e
      rw [List.getElem?_set_self hlt] at hj
      simp at hj
    · rw [List.getElem?_set_ne e] at hj
      exact R.ownNew j p' ds hj
/-- an object of ours written: what else stays -/
theorem frm_upd {ex : List Addr} {b : Addr} {o : HO} (s : Same Hf H) (hb : b ∈ ex) (hf : Hf b = none) : Frm ex H Hf (upd H b o) Hf := Frm.mut s hb hf
end
/-! what a method promises: from now, past and the arguments -/
abbrev CtR := PyData → List PyData → List PyData → (Res → PyData → List PyData → Prop) → Prop
def spR (K : PySem.W.Frag) (ca : Er → Addr) (C : Addr) (c : CtR) (n : Nat) : Sp := fun vs H Q E => ∃ (p dx l : Addr) (vr : List V) (Hf : Hp) (now : PyData) (past : List PyData) (ds : List PyData) (q : Res → PyData → List PyData → Prop),
  vs = .ref p :: vr ∧ ds.length = n ∧ Same Hf H ∧ (Hf p = none ∧ Hf dx = none ∧ Hf l = none ∧ [p, dx, l].Nodup) ∧ RdrAt K H Hf p dx l C now past ∧ DvAll K Hf vr ds ∧ c now past ds q ∧
  (∀ d now' past' v H' Hf', q (.ok d) now' past' → Frm [p, dx, l] H Hf H' Hf' → RdrAt K H' Hf' p dx l C now' past' → Dv K Hf' v d → Q v H') ∧
  (∀ e now' past' H' Hf', q (.er e) now' past' → Frm [p, dx, l] H Hf H' Hf' → RdrAt K H' Hf' p dx l C now' past' → E (.ref (ca e)) none H')
def startR (N : List Str) (p dx l C : Addr) (now : PyData) (past : List PyData) (ds : List PyData) : Sl := some (.rdr p dx l C now past) :: (ds.map (fun d => some (S.val d)) ++ List.replicate (N.length - (ds.length + 1)) none)
def topR (p dx l C : Addr) (q : Res → PyData → List PyData → Prop) : DEnd :=
  ⟨fun s => ∃ now past, s[0]? = some (some (.rdr p dx l C now past)) ∧ q (.ok .none) now past, fun d s => ∃ now past, s[0]? = some (some (.rdr p dx l C now past)) ∧ q (.ok d) now past, fun _ => False, fun _ => False, fun e s => ∃ now past, s[0]? = some (some (.rdr p dx l C now past)) ∧ q (.er e) now past⟩
theorem rep_startR {K : PySem.W.Frag} {H Hf : Hp} {N : List Str} {p dx l C : Addr} {now : PyData} {past : List PyData} {vs : List V} {ds : List PyData} (s : Same Hf H) (ha : Hf p = none ∧ Hf dx = none ∧ Hf l = none ∧ [p, dx, l].Nodup)
    (hd : RdrAt K H Hf p dx l C now past) (q : DvAll K Hf vs ds) : Rep K ⟨[p, dx, l], H, Hf⟩ H Hf (L2.start N (.ref p :: vs)) (startR N p dx l C now past ds) := by
  have ft : feet (startR N p dx l C now past ds) = [p, dx, l] := by
    show [p, dx, l] ++ feet (ds.map (fun d => some (S.val d)) ++ List.replicate (N.length - (ds.length + 1)) none) = [p, dx, l]
    rw [feet_vals, feet_none]
    rfl
  have slot : ∀ (i : Nat) (x : S), (startR N p dx l C now past ds)[i]? = some (some x) → (i = 0 ∧ x = .rdr p dx l C now past) ∨ ∃ j d, i = j + 1 ∧ ds[j]? = some d ∧ x = .val d := by
    intro i x h
    cases i with
    | zero =>
      have e : S.rdr p dx l C now past = x := by simpa [startR] using h
      exact .inl ⟨rfl, e.symm⟩
    | succ j =>
      refine .inr ?_
      have h' : (ds.map (fun d => some (S.val d)) ++ List.replicate (N.length - (ds.length + 1)) none)[j]? = some (some x) := by simpa [startR] using h
      rw [List.getElem?_append] at h'
      split at h'
      · rw [List.getElem?_map] at h'
        cases e : ds[j]? with
        | none => rw [e] at h'; cases h'
        | some d =>
          rw [e] at h'
          have z : S.val d = x := by simpa using h'
          exact ⟨j, d, rfl, e, z.symm⟩
      · rw [List.getElem?_replicate] at h'
        split at h'
        · simp at h'
        · cases h'
  refine ⟨by simp [L2.start, startR, q.1], fun i x h => ?_, by rw [ft]; exact ha.2.2.2, fun c hc => ?_, fun i p es h => ?_, Frm.refl s⟩
  · rcases slot i x h with ⟨rfl, rfl⟩ | ⟨j, d, rfl, h1, rfl⟩
    · exact ⟨.ref p, rfl, rfl, hd⟩
    · have hi : j < ds.length := (List.getElem?_eq_some_iff.mp h1).1
      have hi2 : j < vs.length := by rw [q.1]; exact hi
      refine ⟨vs[j], ?_, q.2 j _ d (List.getElem?_eq_getElem hi2) h1⟩
      unfold L2.start
      rw [List.getElem?_append, if_pos (by simp; exact hi2), List.getElem?_map]
      show ((V.ref p :: vs)[j + 1]?).map some = _
      rw [List.getElem?_cons_succ, List.getElem?_eq_getElem hi2]
      rfl
  · rw [ft] at hc
    refine ⟨?_, .inl hc⟩
    have e : c = p ∨ c = dx ∨ c = l := by simpa using hc
    rcases e with e | e | e
    · rw [e]; exact ha.1
    · rw [e]; exact ha.2.1
    · rw [e]; exact ha.2.2.1
  · rcases slot i _ h with ⟨_, z⟩ | ⟨_, _, _, _, z⟩
    · exact nomatch z
    · exact nomatch z
section
variable {P : Program} {w : World} {K : PySem.W.Frag} {mg : Str → Option Value} {base : Heap}
theorem fn_okR {x qual : Str} {st : Stmt} {f : Addr} {fd : FuncData} {N ps : List Str} {k n : Nat} {ca : Er → Addr} {C : Addr} {c : CtR} (F : Fun K x qual st f fd) (S : FnScope N ps (defScope st)) (hn : ps.length = n + 1)
    (body : ∀ (cdv : Value) (A : Around) (outer : List Env) (s : Shared) (H : Hp) (E : XK), Room k (fnX P w K mg base N qual st f cdv A outer s H E).A → Takes (fnX P w K mg base N qual st f cdv A outer s H E) (fnW E) →
      PassesOwn (model P w) (fnX P w K mg base N qual st f cdv A outer s H E).A (fnX P w K mg base N qual st f cdv A outer s H E).env (fnX P w K mg base N qual st f cdv A outer s H E).xe → (fnX P w K mg base N qual st f cdv A outer s H E).A.units + 64 < cLine → (fnX P w K mg base N qual st f cdv A outer s H E).A.units + 65 < cLine →
      ∃ t d, PDB (fnX P w K mg base N qual st f cdv A outer s H E) ca (fnW E) (defBody st) t d ∧ ∀ ds q p dx l now past, ds.length = n → c now past ds q → d (topR p dx l C q) (startR N p dx l C now past ds)) :
    FnOk P w K mg base (L2.CX P w) (k + 1) f fd ps (spR K ca C c n) := by
  refine F.okX S (fun vs H Q E h => ?_) (fun cdv A outer s H vs Q E hr h => ?_)
  · obtain ⟨p, dx, l, vr, Hf, now, past, ds, q, rfl, h1, _, _, _, h2, _⟩ := h
    rw [List.length_cons, h2.1, h1, hn]
  · obtain ⟨p, dx, l, vr, Hf, now, past, ds, q, rfl, h1, h2, ha, hd0, h3, h4, h5, h6⟩ := h
    obtain ⟨t, d, hb, hd⟩ := body cdv A outer s H E hr (takes_of rfl rfl rfl rfl) (passes_of rfl) hr.units (by have := hr.un; show (A.deeper _).units + 65 < cLine; omega)
    refine ⟨t, hb.pe, ?_⟩
    have back : ∀ σ' l' H' Hf' now' past', l'[0]? = some (some (DL.S.rdr p dx l C now' past')) → Rep K ⟨[p, dx, l], H, Hf⟩ H' Hf' σ' l' → RdrAt K H' Hf' p dx l C now' past' := fun σ' l' H' Hf' now' past' e R => by
      obtain ⟨v, _, _, z⟩ := R.slot 0 _ e
      exact z
    refine hb.es ⟨[p, dx, l], H, Hf⟩ _ (topR p dx l C q) _ H Hf _ (rep_startR h2 ha hd0 h3) ⟨?_, ?_, ?_, ?_, ?_⟩ (hd ds q p dx l now past h1 h4)
    · exact fun σ' l' H' Hf' ⟨now', past', z1, z2⟩ R _ => h5 _ _ _ _ _ _ z2 R.frm (back _ _ _ _ _ _ z1 R) .non
    · exact fun σ' l' v d H' Hf' ⟨now', past', z1, z2⟩ R _ dv => h5 _ _ _ _ _ _ z2 R.frm (back _ _ _ _ _ _ z1 R) dv
    · exact fun σ' l' H' Hf' z R _ => z.elim
    · exact fun σ' l' H' Hf' z R _ => z.elim
    · exact fun e σ' l' H' Hf' ⟨now', past', z1, z2⟩ R => h6 _ _ _ _ _ z2 R.frm (back _ _ _ _ _ _ z1 R)
end
/-! what the class says -/
structure RTx (K : PySem.W.Frag) (C : Addr) : Prop where
  cl : Cls K C
  nN : NoAttr K C "now"
  nP : NoAttr K C "past"
/-! reading and writing its fields -/
def dNow (C : Addr) (i : Nat) : DE := fun l Q _ => ∃ p dx q now past, l[i]? = some (some (.rdr p dx q C now past)) ∧ Q now l
def dSetNow (C : Addr) (i : Nat) (d : DE) : DS := fun E l => d l (fun y l' => ∃ p dx q now past, l'[i]? = some (some (.rdr p dx q C now past)) ∧ E.nx (l'.set i (some (.rdr p dx q C y past)))) E.rs
def dPastApp (C : Addr) (i : Nat) : DS := fun E l => ∃ p dx q now past, l[i]? = some (some (.rdr p dx q C now past)) ∧ past.length < sizeLine ∧ E.nx (l.set i (some (.rdr p dx q C now (past ++ [now]))))
section
variable {X : Cx} {ca : Er → Addr} {W : WX} {a e o tg : Expr} {es : List Expr} {ua : TE} {da : DE} {pos p2 p3 p4 p5 p6 : Pos} {i : Nat} {C : Addr} {K : PySem.W.Frag}
theorem pd_now (T : RTx K C) (h : PE X a (tVar i)) (hb : attributeBase a "now" X.env (eval a X.env) = eval a X.env := by rfl) (hK : X.K = K := by rfl) : PD X ca W (.Attribute a "now" pos) (tFld K (tVar i) "now") (dNow C i) := by
  subst hK
  refine ⟨pe_fld h hb, fun G σ H Hf l Q q r R k kr hd => ?_⟩
  obtain ⟨p, dx, q', now, past, hi, z⟩ := hd
  obtain ⟨v, e1, e2, vn, vs, h1, h2, h3, h4, h5⟩ := R.slot i _ hi
  subst e2
  exact ⟨_, e1, p, C, dx, _, vn, rfl, h1, T.cl, T.nN, rf_now _ _, k _ _ _ _ _ z R (Same.refl _) h4⟩
theorem pds_setNow (T : RTx K C) (h : PE X o (tVar i)) (hv : PD X ca W e ua da) (hs : swapsWith e (some (.Attribute o "now" p2)) pos.line X.env = pure false := by rfl) (hK : X.K = K := by rfl) :
    PDS X ca W (.Assign [.Attribute o "now" p2] e pos) (sFld K (tVar i) ua "now") (dSetNow C i da) := by
  subst hK
  refine ⟨ps_fld h hv.pe hs, fun G D E σ H Hf l R m z => hv.es G σ H Hf l _ _ E.rs R (fun y l' w H' Hf' z R' s dv => ?_) (fun e l' H' Hf' z R' => m.rs e σ l' H' Hf' z R') z⟩
  obtain ⟨p, dx, q, now, past, hi, z⟩ := z
  obtain ⟨v, e1, e2, vn, vs, h1, h2, h3, h4, h5⟩ := R'.slot i _ hi
  subst e2
  refine ⟨_, e1, p, C, dx, _, rfl, h1, T.cl, T.nN, (by show 2 < 1000; decide), ?_⟩
  rw [rf_put]
  have nd := rdr_nd R' hi
  have n1 : p ≠ dx := fun z => by subst z; simp at nd
  have n2 : p ≠ q := fun z => by subst z; simp at nd
  have fp := R'.free p (mem_feet hi (by simp [foot]))
  have F : Frm [p, dx, q] H' Hf' (upd H' p (.ins C dx (rf w q))) Hf' := Frm.mut R'.sub (by simp) fp.1
  exact m.nx _ _ _ _ z (rdr_set R' hi F ⟨w, vs, upd_same, by rw [upd_ne n1.symm]; exact h2, by rw [upd_ne n2.symm]; exact h3, dv, h5⟩) s
theorem pds_pastApp (T : RTx K C) (h : PE X a (tVar i)) (h2 : PE X o (tVar i))
    (hp : PE X (.Attribute a "past" p2) (tFld K (tVar i) "past") → PA X [.Attribute o "now" p3] (tCons (tFld K (tVar i) "now") tNil) → PS X (.Expr (.Call (.Attribute (.Attribute a "past" p2) "append" p4) [.Attribute o "now" p3] [] p5) p6) (tDrop (tBM K "list" rAppend (tFld K (tVar i) "past") (tCons (tFld K (tVar i) "now") tNil))))
    (hb1 : attributeBase a "past" X.env (eval a X.env) = eval a X.env := by rfl) (hb2 : attributeBase o "now" X.env (eval o X.env) = eval o X.env := by rfl)
    (hs : starEach [.Attribute o "now" p3] X.env = (false, eval (.Attribute o "now" p3) X.env) :: starEach [] X.env := by rfl) (hK : X.K = K := by rfl) :
    PDS X ca W (.Expr (.Call (.Attribute (.Attribute a "past" p2) "append" p4) [.Attribute o "now" p3] [] p5) p6) (tDrop (tBM K "list" rAppend (tFld K (tVar i) "past") (tCons (tFld K (tVar i) "now") tNil))) (dPastApp C i) := by
  subst hK
  refine ⟨hp (pe_fld h hb1) (pa_cons (pe_fld h2 hb2) pa_nil hs), fun G D E σ H Hf l R m z => ?_⟩
  obtain ⟨p, dx, q, now, past, hi, hl, z⟩ := z
  obtain ⟨v, e1, e2, vn, vs, h1, h2', h3, h4, h5⟩ := R.slot i _ hi
  subst e2
  have nd := rdr_nd R hi
  have n1 : q ≠ p := fun z => by subst z; simp at nd
  have n2 : q ≠ dx := fun z => by subst z; simp at nd
  have fq := R.free q (mem_feet hi (by simp [foot]))
  have F : Frm [p, dx, q] H Hf (upd H q (.lst (vs ++ [vn]))) Hf := Frm.mut R.sub (by simp) fq.1
  have nx := m.nx _ _ _ _ z (rdr_set R hi F ⟨vn, vs ++ [vn], by rw [upd_ne n1.symm]; exact h1, by rw [upd_ne n2.symm]; exact h2', upd_same, h4, h5.append (.cons h4 .nil)⟩) (Same.refl _)
  exact ⟨_, e1, p, C, dx, _, _, rfl, h1, T.cl, T.nP, rf_past _ _, .inl ⟨rfl, _, .inl (.inl h3)⟩, _, e1, p, C, dx, _, vn, rfl, h1, T.cl, T.nN, rf_now _ _, q, vs, vn, rfl, rfl, h3, by rw [h5.1]; exact hl, nx⟩
end
end DL

namespace DL
open PySem PySem.Spec PyProof.Rows L2

/-! ### calls of a reader's methods -/
structure FdM (P : Program) (w : World) (K : PySem.W.Frag) (mg : Str → Option Value) (base : Heap) (ca : Er → Addr) (C : Addr) (m : Str) (c : CtR) (n k : Nat) : Prop where
  ex : ∃ (f : Addr) (fd : FuncData) (ps : List Str), FnOk P w K mg base (L2.CX P w) k f fd ps (spR K ca C c n) ∧ Meth K C m f ∧ Binds K fd ps []
def dMethR (C : Addr) (i : Nat) (c : CtR) (d : DA) : DE := fun l Q R => ∃ p dx q now past, l[i]? = some (some (.rdr p dx q C now past)) ∧ d l (fun ds l1 => ∃ now1 past1, l1[i]? = some (some (.rdr p dx q C now1 past1)) ∧ c now1 past1 ds fun r now' past' => match r with
  | .ok x => Q x (l1.set i (some (.rdr p dx q C now' past')))
  | .er _ => False) R
section
variable {X : Cx} {ca : Er → Addr} {W : WX} {a e o tg : Expr} {es : List Expr} {pos apos : Pos} {i : Nat} {C : Addr} {P : Program} {w : World} {K : PySem.W.Frag} {mg : Str → Option Value} {base : Heap} {m : Str} {c : CtR} {n k : Nat}
theorem pd_meth {d : DA} {u : TA} {pl : Sem Bool} (F : FdM P w K mg base ca C m c n k) (T : RTx K C) (hr : Room k X.A) (ho : PE X o (tVar i)) (ha : PDA X ca W (e :: es) u d) (h1 : ¬ m = "now") (h2 : ¬ m = "past") (hl : (e :: es).length = n := by rfl)
    (hst : starEach (e :: es) X.env = (false, eval e X.env) :: starEach es X.env := by rfl) (hpl : (backTo pos (starEach es X.env)).any (·.1) = false := by rfl)
    (ht : eval (.Call (.Attribute o m apos) (e :: es) [] pos) X.env = (do
      let ov ← eval o X.env
      standAt apos.atName
      let (f, first) ← holding [ov] (getMethod ov m pl)
      callWith pos f first (backTo pos (starEach (e :: es) X.env)) (backToKw pos (keywordEach [] X.env))) := by rfl)
    (hP : X.prog = P := by rfl) (hw : X.w = w := by rfl) (hK : X.K = K := by rfl) (hM : X.mg = mg := by rfl) (hB : X.base = base := by rfl) :
    PD X ca W (.Call (.Attribute o m apos) (e :: es) [] pos) (tMeth C m (spR K ca C c n) [] E0 (tVar i) u) (dMethR C i c d) := by
  subst hP hw hK hM hB
  obtain ⟨f, fd, ps, g1, g2, g3⟩ := F
  refine ⟨pe_meth ho T.cl g2 g1 hr g3 .nil passL ha.pe hst hpl ht, fun G σ H Hf l Q q r R k kr z => ?_⟩
  obtain ⟨p, dx, q', now, past, hi, z⟩ := z
  obtain ⟨v, e1, e2, vn, vs, f1, f2, f3, f4, f5⟩ := R.slot i _ hi
  subst e2
  refine ⟨_, e1, p, dx, _, rfl, f1, rf_no _ _ h1 h2, ha.es G σ H Hf l _ _ r R (fun xs l1 us H1 Hf1 z1 hn R1 s1 d1 => ?_) kr z⟩
  obtain ⟨now1, past1, hi1, z1⟩ := z1
  obtain ⟨v, _, _, hd⟩ := R1.slot i _ hi1
  have fr := fun b hb => (R1.free b (mem_feet hi1 (b := b) hb)).1
  rw [List.append_nil]
  refine ⟨p, dx, q', us, Hf1, now1, past1, xs, _, rfl, hn.trans hl, R1.sub, ⟨fr p (by simp [foot]), fr dx (by simp [foot]), fr q' (by simp [foot]), rdr_nd R1 hi1⟩, hd, d1, z1, fun d now' past' v H' Hf' q2 F' hd' dv => ?_, fun e now' past' H' Hf' q2 F' hd' => q2.elim⟩
  exact k _ _ _ _ _ q2 (rdr_set R1 hi1 F' hd') (s1.trans (F'.sameF R1.sub)) dv
theorem pd_meth0 {pl : Sem Bool} (F : FdM P w K mg base ca C m c 0 k) (T : RTx K C) (hr : Room k X.A) (ho : PE X o (tVar i)) (h1 : ¬ m = "now") (h2 : ¬ m = "past")
    (ht : eval (.Call (.Attribute o m apos) [] [] pos) X.env = (do
      let ov ← eval o X.env
      standAt apos.atName
      let (f, first) ← holding [ov] (getMethod ov m pl)
      callWith pos f first (backTo pos (starEach [] X.env)) (backToKw pos (keywordEach [] X.env))) := by rfl)
    (hP : X.prog = P := by rfl) (hw : X.w = w := by rfl) (hK : X.K = K := by rfl) (hM : X.mg = mg := by rfl) (hB : X.base = base := by rfl) :
    PD X ca W (.Call (.Attribute o m apos) [] [] pos) (tMeth C m (spR K ca C c 0) [] E0 (tVar i) tNil) (dMethR C i c dNil) := by
  subst hP hw hK hM hB
  obtain ⟨f, fd, ps, g1, g2, g3⟩ := F
  refine ⟨pe_meth0 ho T.cl g2 g1 hr g3 .nil passL ht, fun G σ H Hf l Q q r R k kr z => ?_⟩
  obtain ⟨p, dx, q', now, past, hi, now1, past1, hi1, z1⟩ := z
  obtain ⟨v, e1, e2, hd⟩ := R.slot i _ hi1
  obtain ⟨vn, vs, f1, f2, f3, f4, f5⟩ := id hd
  subst e2
  have fr := fun b hb => (R.free b (mem_feet hi1 (b := b) hb)).1
  refine ⟨_, e1, p, dx, _, rfl, f1, rf_no _ _ h1 h2, ?_⟩
  refine ⟨p, dx, q', [], Hf, now1, past1, [], _, rfl, rfl, R.sub, ⟨fr p (by simp [foot]), fr dx (by simp [foot]), fr q' (by simp [foot]), rdr_nd R hi1⟩, hd, .nil, z1, fun d now' past' v H' Hf' q2 F' hd' dv => ?_, fun e now' past' H' Hf' q2 F' hd' => q2.elim⟩
  exact k _ _ _ _ _ q2 (rdr_set R hi1 F' hd') (F'.sameF R.sub) dv
end
/-! ### a reader made -/
def spI (K : PySem.W.Frag) (C : Addr) (ok : PyData → Prop) : Sp := fun vs H Q _ => ∃ (p dx : Addr) (v : V) (Hf : Hp) (s : PyData), vs = [.ref p, v] ∧ Same Hf H ∧ (Hf p = none ∧ Hf dx = none ∧ dx ≠ p) ∧ H p = some (.ins C dx []) ∧ H dx = some (.own p) ∧ Dv K Hf v s ∧ ok s ∧
  ∀ (l : Addr) (H' Hf' : Hp), H l = none → Hf' l = none → Frm [p] H Hf H' Hf' → RdrAt K H' Hf' p dx l C s [] → Q .non H'
structure FdI (P : Program) (w : World) (K : PySem.W.Frag) (mg : Str → Option Value) (base : Heap) (C : Addr) (ok : PyData → Prop) (x : Str) (k : Nat) : Prop where
  ex : ∃ (f : Addr) (fd : FuncData) (ps : List Str), FnOk P w K mg base (L2.CX P w) k f fd ps (spI K C ok) ∧ Mk K C f ∧ Binds K fd ps [] ∧ mg x = some (.ref C)
def dMkR (C : Addr) (i : Nat) (ok : PyData → Prop) (d : DE) : DS := fun E l => d l (fun s l1 => ok s ∧ ∀ p dx q, E.nx (l1.set i (some (.rdr p dx q C s [])))) E.rs
theorem Rep.putRdr {K : PySem.W.Frag} {G : Gm} {H Hf H' Hf' : Hp} {σ : L2.St} {l : Sl} (R : Rep K G H Hf σ l) (i : Nat) {p dx q C : Addr} {now : PyData} {past : List PyData} (F : Frm [] H Hf H' Hf') (hn : ∀ b ∈ [p, dx, q], H b = none ∧ Hf' b = none) (nd : [p, dx, q].Nodup)
    (hd : RdrAt K H' Hf' p dx q C now past) : Rep K G H' Hf' (σ.set i (some (.ref p))) (l.set i (some (.rdr p dx q C now past))) := by
  have R1 := R.grow F
  have nin : ∀ x, H x = none → x ∉ feet l ∧ G.H0 x = none := fun x hx => by
    refine ⟨fun z => ?_, ?_⟩
    · obtain ⟨o, ho⟩ := R.there z
      rw [hx] at ho
      cases ho
    · cases e : G.H0 x with
      | none => rfl
      | some o =>
        obtain ⟨o', e'⟩ := R.frm.there x o e
        rw [hx] at e'
        cases e'
  obtain ⟨n1, n2⟩ := feet_set_nd (i := i) (x := some (.rdr p dx q C now past)) R.nd nd (fun x hx => (nin x (hn x hx).1).1)
  refine ⟨by simp [R.len], fun j s q2 => ?_, n1, fun x hx => ?_, fun j p' ds' q2 => ?_, R1.frm⟩
  · by_cases e : i = j
    · subst e
      have hlt : i < l.length := by
        have z := (List.getElem?_eq_some_iff.mp q2).1
        simpa using z
      rw [List.getElem?_set_self hlt] at q2
      have e : s = .rdr p dx q C now past := by simpa using q2.symm
      subst e
      exact ⟨.ref p, List.getElem?_set_self (by rw [R.len]; exact hlt), rfl, hd⟩
    · rw [List.getElem?_set_ne e] at q2
      rw [List.getElem?_set_ne e]
      exact R1.slot j s q2
  · rcases n2 x hx with z | z
    · exact R1.free x z
    · exact ⟨(hn x z).2, .inr (nin x (hn x z).1).2⟩
  · by_cases e : i = j
    · subst e
      have hlt : i < l.length := by
        have z := (List.getElem?_eq_some_iff.mp q2).1
        simpa using z
      rw [List.getElem?_set_self hlt] at q2
      simp at q2
    · rw [List.getElem?_set_ne e] at q2
      exact R.ownNew j p' ds' q2
section
variable {X : Cx} {ca : Er → Addr} {W : WX} {e tg : Expr} {ua : TE} {da : DE} {pos p2 pos2 : Pos} {i : Nat} {C : Addr} {P : Program} {w : World} {K : PySem.W.Frag} {mg : Str → Option Value} {base : Heap} {k : Nat} {x : Str} {ok : PyData → Prop}
theorem pds_mkR (F : FdI P w K mg base C ok x k) (hr : Room (k + 1) X.A) (hg : Gl X x) (ha : PD X ca W e ua da)
    (hp : PE X (.Call (.Name x p2) [e] [] pos) (tMake C (spI K C ok) [] E0 (tCons ua tNil)) → PS X (.Assign [tg] (.Call (.Name x p2) [e] [] pos) pos2) (tAsg (tMake C (spI K C ok) [] E0 (tCons ua tNil)) (gName i)))
    (hdb : (x == ("__debug__" : Str)) = false := by decide) (he : starEach (e :: []) X.env = (false, eval e X.env) :: starEach [] X.env := by rfl) (hpl : (backTo pos (starEach [] X.env)).any (·.1) = false := by rfl)
    (hP : X.prog = P := by rfl) (hw : X.w = w := by rfl) (hK : X.K = K := by rfl) (hM : X.mg = mg := by rfl) (hB : X.base = base := by rfl) :
    PDS X ca W (.Assign [tg] (.Call (.Name x p2) [e] [] pos) pos2) (tAsg (tMake C (spI K C ok) [] E0 (tCons ua tNil)) (gName i)) (dMkR C i ok da) := by
  subst hP hw hK hM hB
  obtain ⟨f, fd, ps, g1, g2, g3, g4⟩ := F
  refine ⟨hp (pe_make g2 g1 hr hg g4 g3 .nil passL (pa_cons ha.pe pa_nil he) hdb he hpl), fun G D E σ H Hf l R m z => ?_⟩
  refine ha.es G σ H Hf l _ _ E.rs R (fun s l1 v H1 Hf1 z1 R1 s1 dv => ?_) (fun e l' H' Hf' z R' => m.rs e σ l' H' Hf' z R') z
  obtain ⟨hok, z1⟩ := z1
  intro y dx ny ndx ne
  have fy : Hf1 y = none := R1.sub.free ny
  have fdx : Hf1 dx = none := R1.sub.free ndx
  have sx : Same Hf1 (upd (upd H1 dx (.own y)) y (.ins C dx [])) := fun b o q => by
    have nby : b ≠ y := fun z => by rw [z, fy] at q; cases q
    have nbd : b ≠ dx := fun z => by rw [z, fdx] at q; cases q
    rw [upd_ne nby, upd_ne nbd]
    exact R1.sub b o q
  refine ⟨y, dx, v, Hf1, s, rfl, sx, ⟨fy, fdx, ne⟩, upd_same, by rw [upd_ne ne, upd_same], dv, hok, fun q H2 Hf2 nq fq F2 hd => ⟨rfl, ?_⟩⟩
  have nqy : q ≠ y := fun z => by rw [z, upd_same] at nq; cases nq
  have nqd : q ≠ dx := fun z => by rw [z, upd_ne ne, upd_same] at nq; cases nq
  have nq1 : H1 q = none := by
    rw [upd_ne nqy, upd_ne nqd] at nq
    exact nq
  have up : ∀ b o, H1 b = some o → (upd (upd H1 dx (.own y)) y (.ins C dx [])) b = some o := fun b o q => by
    have nby : b ≠ y := fun z => by rw [z, ny] at q; cases q
    have nbd : b ≠ dx := fun z => by rw [z, ndx] at q; cases q
    rw [upd_ne nby, upd_ne nbd]
    exact q
  have F : Frm [] H1 Hf1 H2 Hf2 := by
    refine ⟨fun b o _ e => ?_, fun b o e => F2.there b o (up b o e), fun b o e => F2.fz b o (up b o e), F2.sub⟩
    refine F2.keep b o (fun z => ?_) (up b o e)
    have : b = y := by simpa using z
    rw [this, ny] at e
    cases e
  have hn : ∀ b ∈ [y, dx, q], H1 b = none ∧ Hf2 b = none := fun b hb => by
    have e : b = y ∨ b = dx ∨ b = q := by simpa using hb
    rcases e with e | e | e
    · rw [e]; exact ⟨ny, by rw [F2.fz y _ upd_same]; exact fy⟩
    · rw [e]; exact ⟨ndx, by rw [F2.fz dx (.own y) (by rw [upd_ne ne, upd_same])]; exact fdx⟩
    · rw [e]; exact ⟨nq1, fq⟩
  exact m.nx _ _ _ _ (z1 y dx q) (R1.putRdr i F hn (by simp [ne.symm, nqy.symm, nqd.symm]) hd) (s1.trans (F.sameF R1.sub))
end
theorem put_two (v : V) (l : Addr) : putF "past" (.ref l) (putF "now" v []) = rf v l := by
  show (if ("now" : Str) = "past" then _ else (("now" : Str), v) :: putF "past" (.ref l) []) = rf v l
  rw [if_neg now_past]
  rfl
end DL

namespace SD
open PySem DL

/-! ### what two ranges have in common -/
def LoP (a b : Int) (i : Bool) (t m : Int) : Prop := a * m < t * b ∨ (t * b = a * m ∧ i = true)
def HiP (c d : Int) (j : Bool) (t m : Int) : Prop := t * d < c * m ∨ (t * d = c * m ∧ j = true)
theorem inB_P (a b : Int) (i : Bool) (c d : Int) (j : Bool) (t m : Int) : inB a b i c d j t m = true ↔ LoP a b i t m ∧ HiP c d j t m := by
  unfold inB LoP HiP
  rw [decide_eq_true_eq]
def mLo (a b : Int) (i : Bool) (x y : Int) (k : Bool) : Int × Int × Bool := if a * y < x * b then (x, y, k) else if a = x ∧ b = y then (a, b, i && k) else (a, b, i)
def mHi (c d : Int) (j : Bool) (x y : Int) (k : Bool) : Int × Int × Bool := if x * d < c * y then (x, y, k) else if c = x ∧ d = y then (c, d, j && k) else (c, d, j)
theorem frac_lt {a b x y t m : Int} (hb : 0 < b) (hy : 0 < y) (hm : 0 < m) (h : a * y < x * b) (h2 : x * m ≤ t * y) : a * m < t * b := by
  have h3 : a * y * m < x * b * m := Int.mul_lt_mul_of_pos_right h hm
  have h4 : x * m * b ≤ t * y * b := Int.mul_le_mul_of_nonneg_right h2 (Int.le_of_lt hb)
  rw [Int.mul_right_comm a y m, Int.mul_right_comm x b m] at h3
  rw [Int.mul_right_comm t y b] at h4
  exact Int.lt_of_mul_lt_mul_right (Int.lt_of_lt_of_le h3 h4) (Int.le_of_lt hy)
theorem frac_gt {c d x y t m : Int} (hd : 0 < d) (hy : 0 < y) (hm : 0 < m) (h : x * d < c * y) (h2 : t * y ≤ x * m) : t * d < c * m := by
  have h3 : x * d * m < c * y * m := Int.mul_lt_mul_of_pos_right h hm
  have h4 : t * y * d ≤ x * m * d := Int.mul_le_mul_of_nonneg_right h2 (Int.le_of_lt hd)
  rw [Int.mul_right_comm x d m, Int.mul_right_comm c y m] at h3
  rw [Int.mul_right_comm t y d] at h4
  exact Int.lt_of_mul_lt_mul_right (Int.lt_of_le_of_lt h4 h3) (Int.le_of_lt hy)
theorem same_frac {a b x y : Int} (hb : 0 < b) (ga : Int.gcd a b = 1) (hy : 0 < y) (gx : Int.gcd x y = 1) (h : a * y = x * b) : a = x ∧ b = y := by
  have e := low_cross hb hy h
  rw [(low_id' ga).1, (low_id' ga).2, (low_id' gx).1, (low_id' gx).2] at e
  exact e
theorem LoP.le {a b : Int} {i : Bool} {t m : Int} (h : LoP a b i t m) : a * m ≤ t * b := by
  unfold LoP at h
  omega
theorem HiP.le {a b : Int} {i : Bool} {t m : Int} (h : HiP a b i t m) : t * b ≤ a * m := by
  unfold HiP at h
  omega
theorem lo_met {a b : Int} {i : Bool} {x y : Int} {k : Bool} {t m : Int} (hb : 0 < b) (ga : Int.gcd a b = 1) (hy : 0 < y) (gx : Int.gcd x y = 1) (hm : 0 < m) :
    LoP (mLo a b i x y k).1 (mLo a b i x y k).2.1 (mLo a b i x y k).2.2 t m ↔ LoP a b i t m ∧ LoP x y k t m := by
  unfold mLo
  split
  · rename_i h
    exact ⟨fun z => ⟨.inl (frac_lt hb hy hm h (LoP.le z)), z⟩, fun z => z.2⟩
  · rename_i h
    split
    · rename_i h2
      obtain ⟨rfl, rfl⟩ := h2
      unfold LoP
      cases i <;> cases k <;> simp <;> omega
    · rename_i h2
      have lt : x * b < a * y := by
        rcases Int.lt_or_le (x * b) (a * y) with z | z
        · exact z
        · exact absurd (same_frac hb ga hy gx (by omega)) h2
      exact ⟨fun z => ⟨z, .inl (frac_lt hy hb hm lt (LoP.le z))⟩, fun z => z.1⟩
theorem hi_met {c d : Int} {j : Bool} {x y : Int} {k : Bool} {t m : Int} (hd : 0 < d) (gc : Int.gcd c d = 1) (hy : 0 < y) (gx : Int.gcd x y = 1) (hm : 0 < m) :
    HiP (mHi c d j x y k).1 (mHi c d j x y k).2.1 (mHi c d j x y k).2.2 t m ↔ HiP c d j t m ∧ HiP x y k t m := by
  unfold mHi
  split
  · rename_i h
    exact ⟨fun z => ⟨.inl (frac_gt hd hy hm h (HiP.le z)), z⟩, fun z => z.2⟩
  · rename_i h
    split
    · rename_i h2
      obtain ⟨rfl, rfl⟩ := h2
      unfold HiP
      cases j <;> cases k <;> simp <;> omega
    · rename_i h2
      have lt : c * y < x * d := by
        rcases Int.lt_or_le (c * y) (x * d) with z | z
        · exact z
        · exact absurd (same_frac hd gc hy gx (by omega)) h2
      exact ⟨fun z => ⟨z, .inl (frac_gt hy hd hm lt (HiP.le z))⟩, fun z => z.1⟩
/-- an end of both is an end of one -/
theorem mLo_of {a b : Int} {i : Bool} {x y : Int} {k : Bool} (Pr : Int → Int → Prop) (h1 : Pr a b) (h2 : Pr x y) : Pr (mLo a b i x y k).1 (mLo a b i x y k).2.1 := by
  unfold mLo
  split
  · exact h2
  · split <;> exact h1
theorem mHi_of {a b : Int} {i : Bool} {x y : Int} {k : Bool} (Pr : Int → Int → Prop) (h1 : Pr a b) (h2 : Pr x y) : Pr (mHi a b i x y k).1 (mHi a b i x y k).2.1 := by
  unfold mHi
  split
  · exact h2
  · split <;> exact h1
/-- a range with a number in it is a range -/
theorem span_of_in {a b : Int} {i : Bool} {c d : Int} {j : Bool} {t m : Int} (hb : 0 < b) (ga : Int.gcd a b = 1) (hd : 0 < d) (gc : Int.gcd c d = 1) (hm : 0 < m) (h : inB a b i c d j t m = true) : a * d < c * b ∨ ((a = c ∧ b = d) ∧ i = true ∧ j = true) := by
  obtain ⟨h1, h2⟩ := (inB_P ..).mp h
  unfold LoP at h1
  unfold HiP at h2
  -- a/b ≤ t/m ≤ c/d
  have key : a * d * m ≤ c * b * m ∧ (a * d = c * b → t * b = a * m ∧ t * d = c * m) := by
    have e1 : a * m * d ≤ t * b * d := Int.mul_le_mul_of_nonneg_right (by omega) (Int.le_of_lt hd)
    have e2 : t * d * b ≤ c * m * b := Int.mul_le_mul_of_nonneg_right (by omega) (Int.le_of_lt hb)
    rw [Int.mul_right_comm t b d] at e1
    rw [Int.mul_right_comm a m d] at e1
    rw [Int.mul_right_comm c m b] at e2
    refine ⟨by omega, fun e => ?_⟩
    have e3 : t * d * b = a * d * m := by rw [e] at e1 ⊢; omega
    have e4 : t * b * d = a * m * d := by rw [Int.mul_right_comm t b d, e3, Int.mul_right_comm a d m]
    have e5 : t * d * b = c * m * b := by rw [e3, e, Int.mul_right_comm c b m]
    exact ⟨Int.eq_of_mul_eq_mul_right (by omega) e4, Int.eq_of_mul_eq_mul_right (by omega) e5⟩
  have le := Int.le_of_mul_le_mul_right key.1 hm
  rcases Int.lt_or_le (a * d) (c * b) with z | z
  · exact .inl z
  · have e : a * d = c * b := by omega
    obtain ⟨q1, q2⟩ := key.2 e
    exact .inr ⟨same_frac hb ga hd gc e, h1.elim (fun y => absurd y (by omega)) (·.2), h2.elim (fun y => absurd y (by omega)) (·.2)⟩
def rgS (s : PyData) : Prop := rangeB s = true ∧ smV s
/-! ### a fraction is found from four digits on -/
theorem ap_four {p n c m d : Int} {r : Ru} (n0 : 0 < n) (n1 : n ≤ 60) (m0 : 0 < m) (m1 : m ≤ 60) (g1 : Int.gcd p n = 1) (g2 : Int.gcd c m = 1) (hd : 10000 ≤ powT d) (h : unitsF p n d r = unitsF c m d r) : p = c ∧ n = m := by
  have e1 := units_err p n d r n0
  have e2 := units_err c m d r m0
  rw [← h] at e2
  generalize unitsF p n d r = u at *
  generalize powT d = P at *
  have k : (p * m - c * n) * P = (u * m - c * P) * n - (u * n - p * P) * m := by
    rw [Int.sub_mul, Int.sub_mul, Int.sub_mul, Int.mul_right_comm u m n, Int.mul_right_comm c P n, Int.mul_right_comm p P m]
    omega
  have bnd : ∀ {z s : Int}, -s < z → z < s → s ≤ 60 → ∀ {w : Int}, 0 < w → w ≤ 60 → -(60 * 60) ≤ z * w ∧ z * w ≤ 60 * 60 := fun {z s} h1 h2 h3 {w} h4 h5 => by
    constructor
    · have : (-z) * w ≤ 60 * 60 := by
        rcases Int.lt_or_le z 0 with y | y
        · exact Int.mul_le_mul (by omega) h5 (by omega) (by omega)
        · have := Int.mul_nonpos_of_nonpos_of_nonneg (show -z ≤ 0 by omega) (Int.le_of_lt h4)
          omega
      rw [Int.neg_mul] at this
      omega
    · rcases Int.lt_or_le z 0 with y | y
      · have := Int.mul_nonpos_of_nonpos_of_nonneg (Int.le_of_lt y) (Int.le_of_lt h4)
        omega
      · exact Int.mul_le_mul (by omega) h5 (by omega) (by omega)
  have b1 := bnd e2.1 e2.2 m1 n0 n1
  have b2 := bnd e1.1 e1.2 n1 m0 m1
  have e : p * m = c * n := by
    rcases Int.lt_trichotomy (p * m - c * n) 0 with z | z | z
    · have : (p * m - c * n) * P ≤ (-1) * P := Int.mul_le_mul_of_nonneg_right (by omega) (by omega)
      omega
    · omega
    · have : 1 * P ≤ (p * m - c * n) * P := Int.mul_le_mul_of_nonneg_right (by omega) (by omega)
      omega
  exact same_frac n0 g1 m0 g2 e
end SD

namespace SD
open PySem DL

/-! ### narrower ranges -/
def orI (o : Option Nat) (n : Int) : Int := match o with
  | none => n
  | some k => k
theorem fst_mono {f g : Nat → Bool} {i m : Nat} {N : Int} (h : ∀ k, g k = true → f k = true) (hN : (i : Int) + m ≤ N) : orI (fstK f i m) N ≤ orI (fstK g i m) N := by
  cases e : fstK g i m with
  | none =>
    cases e2 : fstK f i m with
    | none => exact Int.le_refl _
    | some k =>
      have := (fstK_some _ _ e2).2.2.1
      show (k : Int) ≤ N
      omega
  | some k =>
    obtain ⟨g1, g2, g3, g4⟩ := fstK_some _ _ e
    obtain ⟨t, l, e3⟩ := fstK_le m i k (h k g1) g2 g3
    rw [e3]
    show (t : Int) ≤ k
    omega
theorem tops_mono {a b : Int} {i : Bool} {c d : Int} {j : Bool} {a' b' : Int} {i' : Bool} {c' d' : Int} {j' : Bool} {n : Int} (hb : 0 < b) (hd : 0 < d) (hb' : 0 < b') (hd' : 0 < d') (hn : 0 < n)
    (hl : ∀ t m : Int, 0 < m → LoP a' b' i' t m → LoP a b i t m) (hh : ∀ t m : Int, 0 < m → HiP c' d' j' t m → HiP c d j t m) (h : tpF a' b' i' n ≤ tpL c' d' j' n) : tpF a b i n ≤ tpL c d j n := by
  have h1 : LoP a' b' i' (tpF a' b' i' n) n := (tpF_le hb').mp (Int.le_refl _)
  have h2 : HiP c' d' j' (tpF a' b' i' n) n := (le_tpL hd').mp h
  have h3 := (tpF_le hb).mpr (hl _ _ hn h1)
  have h4 := (le_tpL hd).mpr (hh _ _ hn h2)
  omega
theorem narrow {a b : Int} {i : Bool} {c d : Int} {j : Bool} {a' b' : Int} {i' : Bool} {c' d' : Int} {j' : Bool} (hb : 0 < b) (hd : 0 < d) (hb' : 0 < b') (hd' : 0 < d')
    (hl : ∀ t m : Int, 0 < m → LoP a' b' i' t m → LoP a b i t m) (hh : ∀ t m : Int, 0 < m → HiP c' d' j' t m → HiP c d j t m) :
    orI (lsK a b i c d j) 99 ≤ orI (lsK a' b' i' c' d' j') 99 ∧ orI (smK a b i c d j) 9999 ≤ orI (smK a' b' i' c' d' j') 9999 := by
  refine ⟨fst_mono (fun k hk => ?_) (by omega), ?_⟩
  · exact decide_eq_true (tops_mono hb hd hb' hd' (powT_pos _) hl hh (of_decide_eq_true hk))
  · -- from 1 on
    unfold smK
    cases e : fstK (smB a' b' i' c' d' j') 1 1000 with
    | none =>
      cases e2 : fstK (smB a b i c d j) 1 1000 with
      | none => exact Int.le_refl _
      | some k =>
        have := (fstK_some _ _ e2).2.2.1
        show (k : Int) ≤ 9999
        omega
    | some k =>
      obtain ⟨g1, g2, g3, g4⟩ := fstK_some _ _ e
      obtain ⟨t, l, e3⟩ := fstK_le (f := smB a b i c d j) 1000 1 k (decide_eq_true (tops_mono hb hd hb' hd' (by omega) hl hh (of_decide_eq_true g1))) g2 g3
      rw [e3]
      show (t : Int) ≤ k
      omega
/-! the middle of a range -/
def midN (x y z t : Int) : Int := lowN (x * t + z * y) (2 * y * t)
def midU (x y z t : Int) : Int := lowU (x * t + z * y) (2 * y * t)
theorem mid_ok {x y z t : Int} (y0 : 0 < y) (t0 : 0 < t) (h : x * t < z * y) : 0 < midU x y z t ∧ Int.gcd (midN x y z t) (midU x y z t) = 1 ∧ x * midU x y z t < midN x y z t * y ∧ midN x y z t * t < z * midU x y z t := by
  have hB : 0 < 2 * y * t := Int.mul_pos (by omega) t0
  refine ⟨lowU_pos hB, low_coprime hB, (cross_lt_l hB).mpr ?_, (cross_lt_r hB).mpr ?_⟩
  · have h1 : x * t * y < z * y * y := Int.mul_lt_mul_of_pos_right h y0
    have e1 : x * (2 * y * t) = 2 * (x * t * y) := by
      rw [Int.mul_comm 2 y, Int.mul_assoc y 2 t, ← Int.mul_assoc x y, Int.mul_comm (x * y) (2 * t), Int.mul_assoc 2 t, Int.mul_comm t, Int.mul_right_comm x y t]
    rw [e1, Int.add_mul]
    omega
  · have h1 : x * t * t < z * y * t := Int.mul_lt_mul_of_pos_right h t0
    have e1 : z * (2 * y * t) = 2 * (z * y * t) := by
      rw [Int.mul_assoc 2 y t, Int.mul_left_comm z 2, ← Int.mul_assoc z y t]
    rw [e1, Int.add_mul]
    omega
theorem mid_le {x y z t : Int} (y0 : 0 < y) (t0 : 0 < t) (hy : y ≤ 3000) (ht : t ≤ 3000) : midU x y z t ≤ 18000000 := by
  have hB : 0 < 2 * y * t := Int.mul_pos (by omega) t0
  have h1 := lowU_le (a := x * t + z * y) hB
  have h2 : y * t ≤ 3000 * 3000 := Int.mul_le_mul hy ht (by omega) (by decide)
  have e : 2 * y * t = 2 * (y * t) := Int.mul_assoc ..
  unfold midU
  omega
theorem rangeB_mk {a b : Int} {i : Bool} {c d : Int} {j : Bool} (hb : 0 < b) (ga : Int.gcd a b = 1) (hd : 0 < d) (gc : Int.gcd c d = 1) (ord : a * d < c * b ∨ ((a = c ∧ b = d) ∧ i = true ∧ j = true)) (lo : -200 * b ≤ a) (hi : c ≤ 200 * d) : rangeB (spanT a b i c d j) = true := by
  show (spanB (spanT a b i c d j) && (decide (-200 * b ≤ a) && decide (c ≤ 200 * d))) = true
  rw [spanB_e, decide_eq_true (⟨⟨hb, ga⟩, ⟨hd, gc⟩, ord⟩ : (0 < b ∧ Int.gcd a b = 1) ∧ (0 < d ∧ Int.gcd c d = 1) ∧ (a * d < c * b ∨ ((a = c ∧ b = d) ∧ i = true ∧ j = true))), decide_eq_true lo, decide_eq_true hi]
  rfl
theorem up_le {m n z t : Int} (t0 : 0 < t) (n0 : 0 < n) (h : m * t < z * n) (hz : z ≤ 200 * t) : m ≤ 200 * n := by
  have h1 : z * n ≤ 200 * t * n := Int.mul_le_mul_of_nonneg_right hz (by omega)
  have h2 : m * t < 200 * n * t := by rw [Int.mul_right_comm 200 n t]; omega
  have := Int.lt_of_mul_lt_mul_right h2 (by omega)
  omega
theorem dn_le {m n x y : Int} (y0 : 0 < y) (n0 : 0 < n) (h : x * n < m * y) (hx : -200 * y ≤ x) : -200 * n ≤ m := by
  have h1 : -200 * y * n ≤ x * n := Int.mul_le_mul_of_nonneg_right hx (by omega)
  have h2 : -200 * n * y < m * y := by rw [Int.mul_right_comm (-200) n y]; omega
  have := Int.lt_of_mul_lt_mul_right h2 (by omega)
  omega
theorem lo_in {x y m n : Int} {i j : Bool} (y0 : 0 < y) (n0 : 0 < n) (h : x * n < m * y) (t k : Int) (hk : 0 < k) (q : LoP m n j t k) : LoP x y i t k := .inl (frac_lt y0 n0 hk h q.le)
theorem hi_in {z w m n : Int} {i j : Bool} (w0 : 0 < w) (n0 : 0 < n) (h : m * w < z * n) (t k : Int) (hk : 0 < k) (q : HiP m n j t k) : HiP z w i t k := .inl (frac_gt w0 n0 hk h q.le)
/-! ### one's own range -/
theorem tops_of {a b : Int} {i : Bool} {c d : Int} {j : Bool} {n A B : Int} (hb : 0 < b) (hd : 0 < d) (hAB : A ≤ B) (h : ∀ t, inB a b i c d j t n = decide (A ≤ t ∧ t ≤ B)) : tpF a b i n = A ∧ tpL c d j n = B := by
  have h' : ∀ t, (tpF a b i n ≤ t ∧ t ≤ tpL c d j n) ↔ (A ≤ t ∧ t ≤ B) := fun t => by
    have := h t
    rw [in_tops hb hd] at this
    exact decide_eq_decide.mp this
  have h1 := (h' A).mpr ⟨Int.le_refl _, hAB⟩
  have h2 := (h' B).mpr ⟨hAB, Int.le_refl _⟩
  have h3 := (h' (tpF a b i n)).mp ⟨Int.le_refl _, by omega⟩
  have h4 := (h' (tpL c d j n)).mp ⟨by omega, Int.le_refl _⟩
  omega
theorem own_tops (u d : Int) (r : Ru) : tpF (lowN (loN u r) (spK d r)) (lowU (loN u r) (spK d r)) (loI u r) (powT d) = u ∧ tpL (lowN (hiN u r) (spK d r)) (lowU (hiN u r) (spK d r)) (hiI u r) (powT d) = u := by
  have hK := spK_pos d r
  refine tops_of (lowU_pos hK) (lowU_pos hK) (Int.le_refl u) fun t => ?_
  rw [inB_low hK hK, span_units _ _ _ _ _ (powT_pos d), units_self]
  exact decide_eq_decide.mpr ⟨fun z => by omega, fun z => by omega⟩
theorem own_ls {u d : Int} {r : Ru} (d0 : 0 ≤ d) (d6 : d ≤ 6) : ∃ k : Nat, (k : Int) ≤ d ∧ lsK (lowN (loN u r) (spK d r)) (lowU (loN u r) (spK d r)) (loI u r) (lowN (hiN u r) (spK d r)) (lowU (hiN u r) (spK d r)) (hiI u r) = some k := by
  obtain ⟨e1, e2⟩ := own_tops u d r
  obtain ⟨m, rfl⟩ : ∃ m : Nat, d = m := ⟨d.toNat, by omega⟩
  obtain ⟨t, h1, h2⟩ := fstK_le (f := lsB (lowN (loN u r) (spK m r)) (lowU (loN u r) (spK m r)) (loI u r) (lowN (hiN u r) (spK m r)) (lowU (hiN u r) (spK m r)) (hiI u r)) 7 0 m (decide_eq_true (by rw [e1, e2]; exact Int.le_refl _)) (by omega) (by omega)
  exact ⟨t, by omega, h2⟩
theorem low_less {a b c d : Int} (hb : 0 < b) (hd : 0 < d) : lowN a b * lowU c d < lowN c d * lowU a b ↔ a * d < c * b := by
  rw [cross_lt_r hb, cross_lt_l hd]
theorem own_width (u d : Int) (r : Ru) : lowF (lowN (hiN u r) (spK d r) * lowU (loN u r) (spK d r) - lowN (loN u r) (spK d r) * lowU (hiN u r) (spK d r)) (lowU (hiN u r) (spK d r) * lowU (loN u r) (spK d r)) = lowF (if r = .zero ∧ u = 0 then 2 else 1) (powT d) := by
  have hK := spK_pos d r
  have hP := powT_pos d
  have u1 := lowU_pos (a := loN u r) hK
  have u2 := lowU_pos (a := hiN u r) hK
  have c1 : ∀ a : Int, lowN a (spK d r) * spK d r = a * lowU a (spK d r) := fun a => by
    have e1 := lowN_mul (a := a) hK
    have e2 := lowU_mul (a := a) hK
    generalize gcdI a (spK d r) = g at e1 e2
    generalize lowN a (spK d r) = N at *
    generalize lowU a (spK d r) = U at *
    rw [← e1, ← e2, Int.mul_right_comm N g U, Int.mul_assoc N U g]
  have e1 : lowF (lowN (hiN u r) (spK d r) * lowU (loN u r) (spK d r) - lowN (loN u r) (spK d r) * lowU (hiN u r) (spK d r)) (lowU (hiN u r) (spK d r) * lowU (loN u r) (spK d r)) = lowF (hiN u r - loN u r) (spK d r) := by
    refine lowF_cross (Int.mul_pos u2 u1) hK ?_
    have h1 := c1 (loN u r)
    have h2 := c1 (hiN u r)
    generalize lowN (loN u r) (spK d r) = N1 at *
    generalize lowU (loN u r) (spK d r) = U1 at *
    generalize lowN (hiN u r) (spK d r) = N2 at *
    generalize lowU (hiN u r) (spK d r) = U2 at *
    generalize spK d r = K at *
    rw [Int.sub_mul, Int.mul_right_comm N2 U1 K, h2, Int.mul_right_comm N1 U2 K, h1, Int.sub_mul, Int.mul_assoc, Int.mul_assoc (loN u r), Int.mul_comm U1 U2]
  rw [e1]
  refine lowF_cross hK hP ?_
  cases r <;> simp only [hiN, loN, spK, isDir, if_true, Bool.false_eq_true, if_false, reduceCtorEq, false_and, true_and]
  case zero =>
    rcases Int.lt_trichotomy u 0 with z | z | z
    · rw [if_neg (by omega), if_pos z, if_neg (by omega), if_pos z, if_neg (by omega)]
      congr 1
      omega
    · subst z
      rfl
    · rw [if_pos z, if_pos z, if_neg (by omega)]
      congr 1
      omega
  all_goals first
    | (congr 1; omega)
    | (rw [Int.one_mul]; congr 1; omega)
/-! one digit more -/
theorem ten_down {u d : Int} (d0 : 0 ≤ d) : tpF (lowN (loN u .down) (spK d .down)) (lowU (loN u .down) (spK d .down)) (loI u .down) (powT (d + 1)) = 10 * u ∧ tpL (lowN (hiN u .down) (spK d .down)) (lowU (hiN u .down) (spK d .down)) (hiI u .down) (powT (d + 1)) = 10 * u + 9 := by
  have hK := spK_pos d .down
  have hP := powT_pos d
  have e10 : powT (d + 1) = powT d * 10 := by
    obtain ⟨m, rfl⟩ : ∃ m : Nat, d = m := ⟨d.toNat, by omega⟩
    exact powT_succ m
  refine tops_of (lowU_pos hK) (lowU_pos hK) (by omega) fun t => ?_
  rw [inB_low hK hK]
  show inB u (powT d) true (u + 1) (powT d) false t (powT (d + 1)) = _
  unfold inB
  refine decide_eq_decide.mpr ?_
  rw [e10]
  have e1 : u * (powT d * 10) = 10 * u * powT d := by rw [Int.mul_comm (powT d) 10, ← Int.mul_assoc, Int.mul_comm u 10]
  have e2 : (u + 1) * (powT d * 10) = 10 * (u + 1) * powT d := by rw [Int.mul_comm (powT d) 10, ← Int.mul_assoc, Int.mul_comm (u + 1) 10]
  rw [e1, e2]
  have k1 : 10 * u * powT d < t * powT d ↔ 10 * u < t := Int.mul_lt_mul_right hP
  have k2 : t * powT d < 10 * (u + 1) * powT d ↔ t < 10 * (u + 1) := Int.mul_lt_mul_right hP
  have k3 : t * powT d = 10 * u * powT d ↔ t = 10 * u := Int.mul_eq_mul_right_iff (by omega)
  rw [k1, k2, k3]
  simp
  omega
theorem ten_units {p n d : Int} (n0 : 0 < n) (d0 : 0 ≤ d) : 10 * unitsF p n d .down ≤ unitsF p n (d + 1) .down ∧ unitsF p n (d + 1) .down ≤ 10 * unitsF p n d .down + 9 := by
  have e10 : powT (d + 1) = powT d * 10 := by
    obtain ⟨m, rfl⟩ : ∃ m : Nat, d = m := ⟨d.toNat, by omega⟩
    exact powT_succ m
  rw [units_down, units_down, e10, ← Int.mul_assoc]
  generalize p * powT d = A
  have h1 := Int.mul_ediv_add_emod A n
  have h2 := Int.emod_lt_of_pos A n0
  have h3 := Int.emod_nonneg A (show n ≠ 0 by omega)
  generalize A / n = Q at *
  generalize A % n = R at *
  have e : A * 10 = 10 * Q * n + 10 * R := by rw [← h1, Int.add_mul, Int.mul_right_comm n Q 10, Int.mul_comm (n * 10) Q, Int.mul_assoc 10 Q n, Int.mul_left_comm 10 Q n, Int.mul_comm n 10]; omega
  constructor
  · exact (Int.le_ediv_iff_mul_le n0).mpr (by omega)
  · have : A * 10 / n < 10 * Q + 10 := (Int.ediv_lt_iff_lt_mul n0).mpr (by rw [Int.add_mul]; omega)
    omega
theorem finer {u u' d : Int} (d0 : 0 ≤ d) (h1 : 10 * u ≤ u') (h2 : u' ≤ 10 * u + 9) : ¬ lowN (loN u' .down) (spK (d + 1) .down) * lowU (loN u .down) (spK d .down) < lowN (loN u .down) (spK d .down) * lowU (loN u' .down) (spK (d + 1) .down) ∧
    ¬ lowN (hiN u .down) (spK d .down) * lowU (hiN u' .down) (spK (d + 1) .down) < lowN (hiN u' .down) (spK (d + 1) .down) * lowU (hiN u .down) (spK d .down) := by
  have hP := powT_pos d
  have e10 : powT (d + 1) = powT d * 10 := by
    obtain ⟨m, rfl⟩ : ∃ m : Nat, d = m := ⟨d.toNat, by omega⟩
    exact powT_succ m
  rw [low_less (spK_pos _ _) (spK_pos _ _), low_less (spK_pos _ _) (spK_pos _ _)]
  show ¬ u' * powT d < u * powT (d + 1) ∧ ¬ (u + 1) * powT (d + 1) < (u' + 1) * powT d
  rw [e10]
  have e1 : u * (powT d * 10) = 10 * u * powT d := by rw [Int.mul_comm (powT d) 10, ← Int.mul_assoc, Int.mul_comm u 10]
  have e2 : (u + 1) * (powT d * 10) = 10 * (u + 1) * powT d := by rw [Int.mul_comm (powT d) 10, ← Int.mul_assoc, Int.mul_comm (u + 1) 10]
  rw [e1, e2]
  have k1 : u' * powT d < 10 * u * powT d ↔ u' < 10 * u := Int.mul_lt_mul_right hP
  have k2 : 10 * (u + 1) * powT d < (u' + 1) * powT d ↔ 10 * (u + 1) < u' + 1 := Int.mul_lt_mul_right hP
  rw [k1, k2]
  omega
theorem own_all {p n d : Int} {r : Ru} (n0 : 0 < n) (n1 : n ≤ 1000) (hg : Int.gcd p n = 1) (d0 : 0 ≤ d) (d6 : d ≤ 6) (h1 : -100 * n ≤ p) (h2 : p ≤ 100 * n) : ∃ (A B : Int) (I : Bool) (C D : Int) (J : Bool), spanF (unitsF p n d r) d r = spanT A B I C D J ∧ rangeB (spanT A B I C D J) = true ∧ (0 < B ∧ B ≤ 2000000) ∧ (0 < D ∧ D ≤ 2000000) ∧
    withB A B I C D J p n = true ∧ (tpF A B I (powT d) = unitsF p n d r ∧ tpL C D J (powT d) = unitsF p n d r) ∧ (∃ k : Nat, (k : Int) ≤ d ∧ lsK A B I C D J = some k) ∧ lowF (C * B - A * D) (D * B) = lowF (if r = .zero ∧ unitsF p n d r = 0 then 2 else 1) (powT d) ∧
    ∃ m : Nat, (m : Int) ≤ n ∧ smK A B I C D J = some m ∧ smU (unitsF p n d r) d r = some m ∧ lowU (tpF A B I m) m = m := by
  have hP := powT_pos d
  have ub := units_bound (p := p) (n := n) (d := d) (r := r) n0 h1 h2
  obtain ⟨s1, s2, s3, s4⟩ := span_small (u := unitsF p n d r) (d := d) (r := r) d6
  have hR := span_range (u := unitsF p n d r) (d := d) (r := r) (by omega) (by omega)
  obtain ⟨m, m1, m2⟩ := smU_own (p := p) (n := n) (d := d) (r := r) n0 n1
  refine ⟨_, _, _, _, _, _, rfl, hR, ⟨s3, s1⟩, ⟨s4, s2⟩, ?_, own_tops _ _ _, own_ls d0 d6, own_width _ _ _, m, m1, m2, m2, ?_⟩
  · rw [with_units n0 hg]
    exact decide_eq_true rfl
  · obtain ⟨q1, q2, q3, q4⟩ := fstK_some _ _ m2
    have q5 := of_decide_eq_true q1
    have g := least_low s3 s4 m2 (by rw [in_tops s3 s4]; exact decide_eq_true ⟨Int.le_refl _, q5⟩)
    exact (low_id' g).2
end SD

namespace SD
open PySem DL

/-! ### what two ranges have in common, with a fraction in both -/
theorem met_all {a b : Int} {i : Bool} {c d : Int} {j : Bool} {x y : Int} {k : Bool} {z t : Int} {m : Bool} {p n : Int} (b0 : 0 < b) (ga : Int.gcd a b = 1) (d0 : 0 < d) (gc : Int.gcd c d = 1) (y0 : 0 < y) (gx : Int.gcd x y = 1) (t0 : 0 < t) (gz : Int.gcd z t = 1)
    (sb : b < 2 ^ 60) (sd : d < 2 ^ 60) (sy : y < 2 ^ 60) (st : t < 2 ^ 60) (l1 : -200 * b ≤ a) (l2 : -200 * y ≤ x) (u1 : c ≤ 200 * d) (u2 : z ≤ 200 * t) (hn : 0 < n) (h1 : inB a b i c d j p n = true) (h2 : inB x y k z t m p n = true) :
    ∃ (A B : Int) (I : Bool) (C D : Int) (J : Bool), spanT (mLo a b i x y k).1 (mLo a b i x y k).2.1 (mLo a b i x y k).2.2 (mHi c d j z t m).1 (mHi c d j z t m).2.1 (mHi c d j z t m).2.2 = spanT A B I C D J ∧ spanB (spanT A B I C D J) = true ∧ rangeB (spanT A B I C D J) = true ∧
      (0 < B ∧ B < 2 ^ 60) ∧ (0 < D ∧ D < 2 ^ 60) ∧ inB A B I C D J p n = true := by
  obtain ⟨⟨B0, gA, B1⟩, Lo⟩ := mLo_of (a := a) (b := b) (i := i) (x := x) (y := y) (k := k) (fun x y => (0 < y ∧ Int.gcd x y = 1 ∧ y < 2 ^ 60) ∧ -200 * y ≤ x) ⟨⟨b0, ga, sb⟩, l1⟩ ⟨⟨y0, gx, sy⟩, l2⟩
  obtain ⟨⟨D0, gC, D1⟩, Hi⟩ := mHi_of (a := c) (b := d) (i := j) (x := z) (y := t) (k := m) (fun x y => (0 < y ∧ Int.gcd x y = 1 ∧ y < 2 ^ 60) ∧ x ≤ 200 * y) ⟨⟨d0, gc, sd⟩, u1⟩ ⟨⟨t0, gz, st⟩, u2⟩
  have hin : inB (mLo a b i x y k).1 (mLo a b i x y k).2.1 (mLo a b i x y k).2.2 (mHi c d j z t m).1 (mHi c d j z t m).2.1 (mHi c d j z t m).2.2 p n = true := by
    rw [inB_P, lo_met b0 ga y0 gx hn, hi_met d0 gc t0 gz hn]
    rw [inB_P] at h1 h2
    exact ⟨⟨h1.1, h2.1⟩, h1.2, h2.2⟩
  have ord := span_of_in B0 gA D0 gC hn hin
  have hR := rangeB_mk B0 gA D0 gC ord Lo Hi
  have hS : spanB (spanT (mLo a b i x y k).1 (mLo a b i x y k).2.1 (mLo a b i x y k).2.2 (mHi c d j z t m).1 (mHi c d j z t m).2.1 (mHi c d j z t m).2.2) = true := by
    rw [spanB_e]
    exact decide_eq_true ⟨⟨B0, gA⟩, ⟨D0, gC⟩, ord⟩
  exact ⟨_, _, _, _, _, _, rfl, hS, hR, ⟨B0, B1⟩, ⟨D0, D1⟩, hin⟩
theorem own_in {p n d : Int} {r : Ru} (hn : 0 < n) : inB (lowN (loN (unitsF p n d r) r) (spK d r)) (lowU (loN (unitsF p n d r) r) (spK d r)) (loI (unitsF p n d r) r) (lowN (hiN (unitsF p n d r) r) (spK d r)) (lowU (hiN (unitsF p n d r) r) (spK d r)) (hiI (unitsF p n d r) r) p n = true := by
  have hK := spK_pos d r
  rw [inB_low hK hK, span_units _ _ _ _ _ hn]
  exact decide_eq_true rfl
/-- decimals with 2 digits in what is rounded to 1 digit -/
theorem own_few (u : Int) (r : Ru) : tpL (lowN (hiN u r) (spK 1 r)) (lowU (hiN u r) (spK 1 r)) (hiI u r) (powT 2) - tpF (lowN (loN u r) (spK 1 r)) (lowU (loN u r) (spK 1 r)) (loI u r) (powT 2) ≤ 20 := by
  have hK := spK_pos 1 r
  have b0 := lowU_pos (a := loN u r) hK
  have d0 := lowU_pos (a := hiN u r) hK
  rcases Int.lt_or_le (tpL (lowN (hiN u r) (spK 1 r)) (lowU (hiN u r) (spK 1 r)) (hiI u r) (powT 2)) (tpF (lowN (loN u r) (spK 1 r)) (lowU (loN u r) (spK 1 r)) (loI u r) (powT 2)) with h | h
  · omega
  have key : ∀ t, tpF (lowN (loN u r) (spK 1 r)) (lowU (loN u r) (spK 1 r)) (loI u r) (powT 2) ≤ t → t ≤ tpL (lowN (hiN u r) (spK 1 r)) (lowU (hiN u r) (spK 1 r)) (hiI u r) (powT 2) → 10 * u - 10 < t ∧ t < 10 * u + 10 := fun t h1 h2 => by
    have e := in_tops (a := lowN (loN u r) (spK 1 r)) (i := loI u r) (c := lowN (hiN u r) (spK 1 r)) (j := hiI u r) (t := t) (n := powT 2) b0 d0
    rw [decide_eq_true ⟨h1, h2⟩, inB_low hK hK, span_units _ _ _ _ _ (powT_pos 2)] at e
    have e := of_decide_eq_true e
    have g := units_err t (powT 2) 1 r (powT_pos 2)
    rw [e] at g
    have p1 : powT 1 = 10 := by decide
    have p2 : powT 2 = 100 := by decide
    rw [p1, p2] at g
    omega
  have k1 := key _ (Int.le_refl _) h
  have k2 := key _ h (Int.le_refl _)
  omega
theorem perD_len {p n : Int} (h1 : 1 ≤ n) (h2 : n ≤ 60) : (perD p n).length = (perL n).toNat := by
  have pb := (parts_b h1 h2)
  have pl := (per_at h1 h2).2
  unfold perD digs
  rw [List.length_drop, digL_len]
  omega
theorem digs_len (p n : Int) (m : Nat) : (digs p n m).length = m := by
  unfold digs
  exact digL_len _ _ _
theorem shaped_one (a b : Int) (i : Bool) (c d : Int) (j : Bool) : SeqAt.shaped (.list [spanT a b i c d j]) = true := by
  simp [SeqAt.shaped, spanT, fr, PyData.canLay0, PyData.canLayAll0, PyData.depth, PyData.depthAll]
end SD

namespace DL
open PySem PySem.Spec PyProof.Rows L2

/-! ### a list just made, changed and let go -/
/-- what is frozen, without its lists -/
def noL (Hf : Hp) : Hp := fun b => match Hf b with
  | some (.lst _) => none
  | x => x
theorem noL_of {Hf : Hp} {b : Addr} {o : HO} (h : noL Hf b = some o) : Hf b = some o ∧ ∀ xs, o ≠ .lst xs := by
  unfold noL at h
  split at h
  · cases h
  · rename_i x hx
    exact ⟨h, fun xs e => hx xs (by rw [h, e])⟩
theorem noL_to {Hf : Hp} {b : Addr} {o : HO} (h : Hf b = some o) (n : ∀ xs, o ≠ .lst xs) : noL Hf b = some o := by
  unfold noL
  split
  · rename_i xs e
    rw [h] at e
    exact absurd (Option.some.inj e) (n xs)
  · exact h
mutual
def flat0 : PyData → Bool
  | .none => true
  | .bool _ => true
  | .int _ => true
  | .str _ => true
  | .tuple ds => flatA ds
  | _ => false
def flatA : List PyData → Bool
  | [] => true
  | d :: ds => flat0 d && flatA ds
end
theorem flatA_at : ∀ {ds : List PyData} {i : Nat} {d : PyData}, flatA ds = true → ds[i]? = some d → flat0 d = true
  | [], i, d, h, e => by simp at e
  | x :: r, i, d, h, e => by
    unfold flatA at h
    rw [Bool.and_eq_true] at h
    cases i with
    | zero =>
      have e : x = d := by simpa using e
      subst e
      exact h.1
    | succ i => exact flatA_at h.2 (by simpa using e)
section
variable {K : PySem.W.Frag} {H Hf H' Hf' H2 : Hp}
theorem Dv.noL {v : V} {d : PyData} (h : Dv K Hf v d) : flat0 d = true → Dv K (noL Hf) v d := by
  induction h with
  | non => exact fun _ => .non
  | bl b => exact fun _ => .bl b
  | int i => exact fun _ => .int i
  | str x => exact fun _ => .str x
  | lst h l _ ih => exact fun z => by unfold flat0 at z; cases z
  | tup h l q ih =>
    intro z
    unfold flat0 at z
    refine .tup ?_ l fun i v d h1 h2 => ih i v d h1 h2 (flatA_at z h2)
    rcases h with (h | ⟨o, h⟩) | h
    · exact .inl (.inl (noL_to h fun xs e => nomatch e))
    · exact .inl (.inr ⟨o, noL_to h fun xs e => nomatch e⟩)
    · exact .inr h
theorem DvAll.noL {vs : List V} {ds : List PyData} (q : DvAll K Hf vs ds) (z : flatA ds = true) : DvAll K (noL Hf) vs ds := ⟨q.1, fun i v d h1 h2 => (q.2 i v d h1 h2).noL (flatA_at z h2)⟩
theorem noL_sub (s : Same Hf H) : Same (noL Hf) H := fun b o h => s b o (noL_of h).1
/-- a list that is frozen behind a call, not ahead of it, is new -/
theorem list_new (F : Frm [] H (noL Hf) H' Hf') {a : Addr} {xs : List V} (h : Hf' a = some (.lst xs)) : H a = none := by
  cases e : H a with
  | none => rfl
  | some o =>
    have z := F.fz a o e
    rw [h] at z
    exact absurd rfl ((noL_of z.symm).2 xs)
theorem Frm.back (F : Frm [] H (noL Hf) H' Hf') (s : Same Hf H) : Frm [] H Hf H' Hf :=
  ⟨F.keep, F.there, fun _ _ _ => rfl, fun b o e => F.keep b o (fun z => nomatch z) (s b o e)⟩
theorem Frm.new2 {H3 : Hp} (k : ∀ b o, H b = some o → H3 b = some o) (s : Same Hf H) {a : Addr} {o : HO} (ha : H a = none) : Frm [] H Hf (upd H3 a o) Hf := by
  have ne : ∀ b u, H b = some u → b ≠ a := fun b u e z => by rw [z, ha] at e; cases e
  refine ⟨fun b u hb e => ?_, fun b u e => ⟨u, ?_⟩, fun _ _ _ => rfl, fun b u e => ?_⟩
  · rw [upd_ne (ne b u e)]
    exact k b u e
  · rw [upd_ne (ne b u e)]
    exact k b u e
  · rw [upd_ne (ne b u (s b u e))]
    exact k b u (s b u e)
end
/-- an expression that only lays new things -/
def Lays (ub : TE) : Prop := ∀ σ H (Q : VK), (∀ v H', (∀ b o, H b = some o → H' b = some o) → Q v H') → ub σ H Q
theorem lays_c (v : V) : Lays (tC v) := fun σ H Q h => h v H fun _ _ e => e
theorem lays_2 (v w : V) : Lays (tTup (tCons (tC v) (tCons (tC w) tNil))) := fun σ H Q h => ⟨by rw [sizeLine_eq]; exact (by decide : 2 ≤ 16777216), fun p hp => h _ _ fun b o e => same_upd hp b o e⟩
def dDropApp (c : Ct) (d : DA) : DS := fun E l => d l (fun ds l1 => flatA ds = true ∧ c ds fun r => match r with
  | .ok x => ∃ es, x = .list es ∧ es.length < sizeLine ∧ E.nx l1
  | .er e => E.rs e l1) E.rs
def dDropApp0 (c : Ct) (d : DA) : DS := fun E l => d l (fun ds l1 => flatA ds = true ∧ c ds fun r => match r with
  | .ok x => ∃ es y, x = .tuple [.list es, y] ∧ es.length < sizeLine ∧ E.nx l1
  | .er e => E.rs e l1) E.rs
section
variable {X : Cx} {ca : Er → Addr} {W : WX} {a b e : Expr} {es : List Expr} {pos p2 p3 p4 p5 : Pos} {P : Program} {w : World} {K : PySem.W.Frag} {mg : Str → Option Value} {base : Heap} {x : Str} {p : Pos} {k n : Nat} {c : Ct} {d : DA} {u : TA} {ub : TE} {st : Stmt}
/-- f(..).append(b) -/
theorem pds_dropApp (F : Fd P w K mg base ca x c n k) (hr : Room k X.A) (hg : Gl X x) (tk : Takes X W) (ha : PDA X ca W (e :: es) u d) (hb : PE X b ub) (lb : Lays ub)
    (hp : PE X (.Call (.Name x p) (e :: es) [] p2) (tCallS (spD K ca c n) (WE W) u) → PA X [b] (tCons ub tNil) → PS X st (tDrop (tBM K "list" rAppend (tCallS (spD K ca c n) (WE W) u) (tCons ub tNil))))
    (hl : (e :: es).length = n := by rfl) (hdb : (x == ("__debug__" : Str)) = false := by decide) (he : starEach (e :: es) X.env = (false, eval e X.env) :: starEach es X.env := by rfl) (hpl : (backTo p2 (starEach es X.env)).any (·.1) = false := by rfl)
    (hst : starEach [b] X.env = (false, eval b X.env) :: starEach [] X.env := by rfl)
    (hP : X.prog = P := by rfl) (hw : X.w = w := by rfl) (hK : X.K = K := by rfl) (hM : X.mg = mg := by rfl) (hB : X.base = base := by rfl) :
    PDS X ca W st (tDrop (tBM K "list" rAppend (tCallS (spD K ca c n) (WE W) u) (tCons ub tNil))) (dDropApp c d) := by
  subst hP hw hK hM hB
  obtain ⟨f, fd, ps, g1, g2, g3, g4⟩ := F
  refine ⟨hp (pe_callS (E := WE W) g1 hr hg g2 g3 g4 (fun σ => passAt tk σ) ha.pe hdb he hpl) (pa_cons hb pa_nil hst), fun G D E σ H Hf l R m z => ?_⟩
  refine ha.es G σ H Hf l _ _ E.rs R (fun xs l1 vs H1 Hf1 z hn R1 s1 d1 => ?_) (m.kr σ) z
  obtain ⟨hf, z⟩ := z
  refine ⟨noL Hf1, xs, _, hn.trans hl, noL_sub R1.sub, d1.noL hf, z, fun d v H' Hf' q' F' dv => ?_, fun e H' Hf' q' F' => m.rs e σ _ _ _ q' (R1.grow (F'.back R1.sub))⟩
  obtain ⟨es', rfl, hz, q'⟩ := q'
  obtain ⟨a, ys, rfl, h1, h2⟩ := dv.list_inv
  have na := list_new F' h1
  have H'a : H' a = some (.lst ys) := F'.sub _ _ h1
  refine ⟨.inl ⟨rfl, _, .inl (.inl H'a)⟩, lb σ H' _ fun v3 H3 k3 => ?_⟩
  refine ⟨a, ys, v3, rfl, rfl, k3 _ _ H'a, by rw [h2.1]; exact hz, ?_⟩
  exact m.nx _ _ _ _ q' (R1.grow (Frm.new2 (fun b o e => k3 b o (F'.keep b o (fun z => nomatch z) e)) R1.sub na)) s1
/-- f(..)[0].append(b) -/
theorem pds_dropApp0 (F : Fd P w K mg base ca x c n k) (hr : Room k X.A) (hg : Gl X x) (tk : Takes X W) (ha : PDA X ca W (e :: es) u d) (hb : PE X b ub) (lb : Lays ub)
    (hp : PE X (.Call (.Name x p) (e :: es) [] p2) (tCallS (spD K ca c n) (WE W) u) → PA X [b] (tCons ub tNil) → PS X st (tDrop (tBM K "list" rAppend (tOp (rIx K) (tCallS (spD K ca c n) (WE W) u) (tC (.int 0))) (tCons ub tNil))))
    (hl : (e :: es).length = n := by rfl) (hdb : (x == ("__debug__" : Str)) = false := by decide) (he : starEach (e :: es) X.env = (false, eval e X.env) :: starEach es X.env := by rfl) (hpl : (backTo p2 (starEach es X.env)).any (·.1) = false := by rfl)
    (hst : starEach [b] X.env = (false, eval b X.env) :: starEach [] X.env := by rfl)
    (hP : X.prog = P := by rfl) (hw : X.w = w := by rfl) (hK : X.K = K := by rfl) (hM : X.mg = mg := by rfl) (hB : X.base = base := by rfl) :
    PDS X ca W st (tDrop (tBM K "list" rAppend (tOp (rIx K) (tCallS (spD K ca c n) (WE W) u) (tC (.int 0))) (tCons ub tNil))) (dDropApp0 c d) := by
  subst hP hw hK hM hB
  obtain ⟨f, fd, ps, g1, g2, g3, g4⟩ := F
  refine ⟨hp (pe_callS (E := WE W) g1 hr hg g2 g3 g4 (fun σ => passAt tk σ) ha.pe hdb he hpl) (pa_cons hb pa_nil hst), fun G D E σ H Hf l R m z => ?_⟩
  refine ha.es G σ H Hf l _ _ E.rs R (fun xs l1 vs H1 Hf1 z hn R1 s1 d1 => ?_) (m.kr σ) z
  obtain ⟨hf, z⟩ := z
  refine ⟨noL Hf1, xs, _, hn.trans hl, noL_sub R1.sub, d1.noL hf, z, fun d v H' Hf' q' F' dv => ?_, fun e H' Hf' q' F' => m.rs e σ _ _ _ q' (R1.grow (F'.back R1.sub))⟩
  obtain ⟨es', y, rfl, hz, q'⟩ := q'
  obtain ⟨t, ys, rfl, h1, h2⟩ := dv.tuple_inv
  obtain ⟨v1, hv, h3⟩ := atI_dv h2 (i := 0) (d := .list es') rfl
  obtain ⟨a, zs, rfl, h4, h5⟩ := h3.list_inv
  have na := list_new F' h4
  have H'a : H' a = some (.lst zs) := F'.sub _ _ h4
  refine .inr (.inl ⟨t, _, 0, .ref a, rfl, rfl, sqT_mono F'.sub h1, hv, ?_⟩)
  refine ⟨.inl ⟨rfl, _, .inl (.inl H'a)⟩, lb σ H' _ fun v3 H3 k3 => ?_⟩
  refine ⟨a, zs, v3, rfl, rfl, k3 _ _ H'a, by rw [h5.1]; exact hz, ?_⟩
  exact m.nx _ _ _ _ q' (R1.grow (Frm.new2 (fun b o e => k3 b o (F'.keep b o (fun z => nomatch z) e)) R1.sub na)) s1
end
/-! ### readers: calls that may raise, as arguments, len, undo -/
def dMethE (C : Addr) (i : Nat) (c : CtR) (d : DA) : DE := fun l Q R => ∃ p dx q now past, l[i]? = some (some (.rdr p dx q C now past)) ∧ d l (fun ds l1 => ∃ now1 past1, l1[i]? = some (some (.rdr p dx q C now1 past1)) ∧ c now1 past1 ds fun r now' past' => match r with
  | .ok x => Q x (l1.set i (some (.rdr p dx q C now' past')))
  | .er e => R e (l1.set i (some (.rdr p dx q C now' past')))) R
def tMethE (C : Addr) (m : Str) (sp : Sp) (E : L2.St → XK) (ta : TE) (t : TA) : TE := fun σ H Q => ta σ H fun x H1 => ∃ a dx fs, x = .ref a ∧ H1 a = some (.ins C dx fs) ∧ fs.lookup m = none ∧ t σ H1 fun vs H2 => sp (x :: vs) H2 Q (E σ)
section
variable {X : Cx} {ca : Er → Addr} {W : WX} {a e o tg : Expr} {es : List Expr} {pos apos p2 : Pos} {i : Nat} {C : Addr} {P : Program} {w : World} {K : PySem.W.Frag} {mg : Str → Option Value} {base : Heap} {m : Str} {c : CtR} {n k : Nat}
theorem pd_methE {d : DA} {u : TA} {pl : Sem Bool} (F : FdM P w K mg base ca C m c n k) (T : RTx K C) (hr : Room k X.A) (tk : Takes X W) (ho : PE X o (tVar i)) (ha : PDA X ca W (e :: es) u d) (h1 : ¬ m = "now") (h2 : ¬ m = "past") (hl : (e :: es).length = n := by rfl)
    (hst : starEach (e :: es) X.env = (false, eval e X.env) :: starEach es X.env := by rfl) (hpl : (backTo pos (starEach es X.env)).any (·.1) = false := by rfl)
    (ht : eval (.Call (.Attribute o m apos) (e :: es) [] pos) X.env = (do
      let ov ← eval o X.env
      standAt apos.atName
      let (f, first) ← holding [ov] (getMethod ov m pl)
      callWith pos f first (backTo pos (starEach (e :: es) X.env)) (backToKw pos (keywordEach [] X.env))) := by rfl)
    (hP : X.prog = P := by rfl) (hw : X.w = w := by rfl) (hK : X.K = K := by rfl) (hM : X.mg = mg := by rfl) (hB : X.base = base := by rfl) :
    PD X ca W (.Call (.Attribute o m apos) (e :: es) [] pos) (tMethE C m (spR K ca C c n) (WE W) (tVar i) u) (dMethE C i c d) := by
  subst hP hw hK hM hB
  obtain ⟨f, fd, ps, g1, g2, g3⟩ := F
  refine ⟨⟨fun pins s σ H Q I h => ?_⟩, fun G σ H Hf l Q q r R k kr z => ?_⟩
  · refine PySem.W.methodCall_KW (pl := pl) (thn (ho.run pins s σ H _ I h) fun u s1 ⟨x, H1, I1, rx, a, dx, fs, ex, ea, l, q⟩ => ?_) ht
    subst ex
    obtain rfl : u = Value.ref a := rx
    refine getmeth_ok I1 ea T.cl g2 l ?_
    refine PySem.W.callWith_K (first := [.ref a]) (h₀ := X.base) I.ok.mod.kin g2.kp (thn (ha.pe.run pos pins s1 σ H1 _ I1 q) fun us s2 ⟨vs, H2, I2, r, q2⟩ => ⟨I2.kIn, ?_⟩) hst hpl
    exact run_fnS (E := WE W) (us := .ref a :: us) (vs := .ref a :: vs) g1 hr g3 (passAt tk σ) I2 (.cons rfl r) q2
  · obtain ⟨p, dx, q', now, past, hi, z⟩ := z
    obtain ⟨v, e1, e2, vn, vs, f1, f2, f3, f4, f5⟩ := R.slot i _ hi
    subst e2
    refine ⟨_, e1, p, dx, _, rfl, f1, rf_no _ _ h1 h2, ha.es G σ H Hf l _ _ r R (fun xs l1 us H1 Hf1 z1 hn R1 s1 d1 => ?_) kr z⟩
    obtain ⟨now1, past1, hi1, z1⟩ := z1
    obtain ⟨v, _, _, hd⟩ := R1.slot i _ hi1
    have fr := fun b hb => (R1.free b (mem_feet hi1 (b := b) hb)).1
    refine ⟨p, dx, q', us, Hf1, now1, past1, xs, _, rfl, hn.trans hl, R1.sub, ⟨fr p (by simp [foot]), fr dx (by simp [foot]), fr q' (by simp [foot]), rdr_nd R1 hi1⟩, hd, d1, z1, fun d now' past' v H' Hf' q2 F' hd' dv => ?_, fun e now' past' H' Hf' q2 F' hd' => ?_⟩
    · exact k _ _ _ _ _ q2 (rdr_set R1 hi1 F' hd') (s1.trans (F'.sameF R1.sub)) dv
    · exact kr _ _ _ _ q2 (rdr_set R1 hi1 F' hd')
theorem pd_methE0 {pl : Sem Bool} (F : FdM P w K mg base ca C m c 0 k) (T : RTx K C) (hr : Room k X.A) (tk : Takes X W) (ho : PE X o (tVar i)) (h1 : ¬ m = "now") (h2 : ¬ m = "past")
    (ht : eval (.Call (.Attribute o m apos) [] [] pos) X.env = (do
      let ov ← eval o X.env
      standAt apos.atName
      let (f, first) ← holding [ov] (getMethod ov m pl)
      callWith pos f first (backTo pos (starEach [] X.env)) (backToKw pos (keywordEach [] X.env))) := by rfl)
    (hP : X.prog = P := by rfl) (hw : X.w = w := by rfl) (hK : X.K = K := by rfl) (hM : X.mg = mg := by rfl) (hB : X.base = base := by rfl) :
    PD X ca W (.Call (.Attribute o m apos) [] [] pos) (tMethE C m (spR K ca C c 0) (WE W) (tVar i) tNil) (dMethE C i c dNil) := by
  subst hP hw hK hM hB
  obtain ⟨f, fd, ps, g1, g2, g3⟩ := F
  refine ⟨⟨fun pins s σ H Q I h => ?_⟩, fun G σ H Hf l Q q r R k kr z => ?_⟩
  · refine PySem.W.methodCall_KW (pl := pl) (thn (ho.run pins s σ H _ I h) fun u s1 ⟨x, H1, I1, rx, a, dx, fs, ex, ea, l, q⟩ => ?_) ht
    subst ex
    obtain rfl : u = Value.ref a := rx
    refine getmeth_ok I1 ea T.cl g2 l ?_
    exact PySem.W.callWith_K0 (first := [.ref a]) I1.kIn g2.kp (run_fnS (E := WE W) (us := [.ref a]) (vs := [.ref a]) g1 hr g3 (passAt tk σ) I1 (.cons rfl .nil) q)
  · obtain ⟨p, dx, q', now, past, hi, now1, past1, hi1, z1⟩ := z
    obtain ⟨v, e1, e2, hd⟩ := R.slot i _ hi1
    obtain ⟨vn, vs, f1, f2, f3, f4, f5⟩ := id hd
    subst e2
    have fr := fun b hb => (R.free b (mem_feet hi1 (b := b) hb)).1
    refine ⟨_, e1, p, dx, _, rfl, f1, rf_no _ _ h1 h2, ?_⟩
    refine ⟨p, dx, q', [], Hf, now1, past1, [], _, rfl, rfl, R.sub, ⟨fr p (by simp [foot]), fr dx (by simp [foot]), fr q' (by simp [foot]), rdr_nd R hi1⟩, hd, .nil, z1, fun d now' past' v H' Hf' q2 F' hd' dv => ?_, fun e now' past' H' Hf' q2 F' hd' => ?_⟩
    · exact k _ _ _ _ _ q2 (rdr_set R hi1 F' hd') (F'.sameF R.sub) dv
    · exact kr _ _ _ _ q2 (rdr_set R hi1 F' hd')
/-! a def whose first argument is a reader -/
structure FdR (P : Program) (w : World) (K : PySem.W.Frag) (mg : Str → Option Value) (base : Heap) (ca : Er → Addr) (C : Addr) (x : Str) (c : CtR) (n k : Nat) : Prop where
  ex : ∃ (f : Addr) (fd : FuncData) (ps : List Str), FnOk P w K mg base (L2.CX P w) k f fd ps (spR K ca C c n) ∧ mg x = some (.ref f) ∧ PySem.W.keepIn K (.ref f) = true ∧ Binds K fd ps []
theorem pd_fnR {x : Str} {p : Pos} {d : DA} {u : TA} (F : FdR P w K mg base ca C x c n k) (hr : Room k X.A) (hg : Gl X x) (tk : Takes X W) (ho : PE X o (tVar i)) (ha : PDA X ca W es u d) (hl : es.length = n := by rfl)
    (hdb : (x == ("__debug__" : Str)) = false := by decide) (he : starEach (o :: es) X.env = (false, eval o X.env) :: starEach es X.env := by rfl) (hpl : (backTo pos (starEach es X.env)).any (·.1) = false := by rfl)
    (hP : X.prog = P := by rfl) (hw : X.w = w := by rfl) (hK : X.K = K := by rfl) (hM : X.mg = mg := by rfl) (hB : X.base = base := by rfl) :
    PD X ca W (.Call (.Name x p) (o :: es) [] pos) (tCallS (spR K ca C c n) (WE W) (tCons (tVar i) u)) (dMethE C i c d) := by
  subst hP hw hK hM hB
  obtain ⟨f, fd, ps, g1, g2, g3, g4⟩ := F
  refine ⟨pe_callS (E := WE W) g1 hr hg g2 g3 g4 (fun σ => passAt tk σ) (pa_cons ho ha.pe he) hdb he hpl, fun G σ H Hf l Q q r R k kr z => ?_⟩
  obtain ⟨p, dx, q', now, past, hi, z⟩ := z
  obtain ⟨v, e1, e2, vn, vs, f1, f2, f3, f4, f5⟩ := R.slot i _ hi
  subst e2
  refine ⟨_, e1, ha.es G σ H Hf l _ _ r R (fun xs l1 us H1 Hf1 z1 hn R1 s1 d1 => ?_) kr z⟩
  obtain ⟨now1, past1, hi1, z1⟩ := z1
  obtain ⟨v, _, _, hd⟩ := R1.slot i _ hi1
  have fr := fun b hb => (R1.free b (mem_feet hi1 (b := b) hb)).1
  refine ⟨p, dx, q', us, Hf1, now1, past1, xs, _, rfl, hn.trans hl, R1.sub, ⟨fr p (by simp [foot]), fr dx (by simp [foot]), fr q' (by simp [foot]), rdr_nd R1 hi1⟩, hd, d1, z1, fun d now' past' v H' Hf' q2 F' hd' dv => ?_, fun e now' past' H' Hf' q2 F' hd' => ?_⟩
  · exact k _ _ _ _ _ q2 (rdr_set R1 hi1 F' hd') (s1.trans (F'.sameF R1.sub)) dv
  · exact kr _ _ _ _ q2 (rdr_set R1 hi1 F' hd')
end
/-! len(reader) -/
def rLenR (C : Addr) (sp : Sp) : List V → Hp → VK → Prop := fun xs H Q => ∃ a dx fs, xs = [.ref a] ∧ H a = some (.ins C dx fs) ∧ sp [.ref a] H (fun v H' => ∃ n : Int, v = .int n ∧ 0 ≤ n ∧ n < 2 ^ 63 ∧ Q (.int n) H') E0
theorem call_lenR {X : Cx} {C : Addr} {k : Nat} {f : Addr} {fd : FuncData} {ps : List Str} {sp : Sp} (F : FnOk X.prog X.w X.K X.mg X.base (L2.CX X.prog X.w) k f fd ps sp) (hr : Room (k + 1) X.A) (hm : Meth X.K C "__len__" f) (hb : Binds X.K fd ps []) : CallR X (.builtin "len") (rLenR C sp) := by
  intro pins s σ H xs us Q I r h
  obtain ⟨a, dx, fs, rfl, ha, hs⟩ := h
  obtain ⟨u, rfl, ru⟩ := r.one
  obtain rfl : u = Value.ref a := ru
  obtain ⟨mA, O, _, _, _, _⟩ := ins_get I.hok ha
  obtain ⟨od, Ia, _⟩ := O.look
  refine Calls.call_function_entry kind_len plain_len entry_len (args_len1 _) ?_
  unfold Builtin.«len»
  refine wpAny_bind (m := oneArg "len" _) (wpAny_pure ?_)
  have hl : [Value.ref a].length = ps.length := F.len _ _ _ _ hs
  have b := hb s [Value.ref a] I.kIn (by rw [List.append_nil]; exact hl)
  rw [List.append_nil] at b
  have e0 : Env0 X.prog X.w X.K X.mg X.base X.A.in1 X.stack s H := ⟨I.env0.frames, I.env0.mod, I.env0.bs, I.env0.bsz, I.env0.funs, I.env0.frf, I.env0.hok, I.env0.bare⟩
  refine wpAny_bind (m := callSpecial? (.ref a) (Str.ofString "__len__")) (PySem.W.special_fn I.kIn Ia hm.at_ (beq_iff_eq.mp hm.fn) (wpAny_call (codeAny_mono (F.run X.A.in1 X.stack s H ⟨[.ref a], []⟩ [.ref a] [.ref a] _ E0 hr.in1 e0 b (.cons rfl .nil) hs) fun r s' hq => ?_)))
  cases r with
  | error e => exact (passL (X := X) pins σ H s e s' I hq : X.xe e s')
  | ok fl =>
    cases fl with
    | ret u =>
      obtain ⟨v, H', I', rv, n, rfl, h0, h1, q⟩ := I.after hq
      obtain ⟨t, rfl⟩ := rv
      refine wpAny_bind (wpAny_holding (wpAny_pure ?_))
      refine wpAny_bind (wpAny_letGo ?_)
      show wpAny _ _ (if n < 0 then _ else _) _ _ _
      rw [if_neg (by omega)]
      show wpAny _ _ (if n ≥ 2 ^ 63 then _ else _) _ _ _
      rw [if_neg (by omega)]
      exact wpAny_bind (wpAny_mkInt (wpAny_pure ⟨_, rfl, .int n, H', I'.tok _, ⟨_, rfl⟩, q⟩))
    | next => exact False.elim hq
    | brk => exact False.elim hq
    | cont => exact False.elim hq
def dLenR (C : Addr) (i : Nat) (c : CtR) : DE := fun l Q _ => ∃ p dx q now past, l[i]? = some (some (.rdr p dx q C now past)) ∧ c now past [] fun r now' past' => match r with
  | .ok x => ∃ n : Int, x = .int n ∧ 0 ≤ n ∧ n < 2 ^ 63 ∧ Q (.int n) (l.set i (some (.rdr p dx q C now' past')))
  | .er _ => False
def dPastCmp (C : Addr) (i : Nat) (f : PyData → PyData → Option Bool) (db : DE) : DT := fun l Q R => ∃ p dx q now past, l[i]? = some (some (.rdr p dx q C now past)) ∧ db l (fun y l2 => ∃ now2 past2 w, l2[i]? = some (some (.rdr p dx q C now2 past2)) ∧ f (.list past2) y = some w ∧ Q w l2) R
def dLenPast (C : Addr) (i : Nat) : DE := fun l Q _ => ∃ p dx q now past, l[i]? = some (some (.rdr p dx q C now past)) ∧ Q (.int (past.length : Nat)) l
def dPopNow (C : Addr) (i : Nat) : DS := fun E l => ∃ p dx q now past x, l[i]? = some (some (.rdr p dx q C now (past ++ [x]))) ∧ E.nx (l.set i (some (.rdr p dx q C x past)))
section
variable {X : Cx} {ca : Er → Addr} {W : WX} {a b e o tg : Expr} {ub : TE} {db : DE} {es : List Expr} {pos apos p2 p3 p4 p5 : Pos} {i : Nat} {C : Addr} {P : Program} {w : World} {K : PySem.W.Frag} {mg : Str → Option Value} {base : Heap} {c : CtR} {k : Nat}
theorem pd_lenR {p : Pos} (F : FdM P w K mg base ca C "__len__" c 0 k) (hr : Room (k + 1) X.A) (hg : Gl X "len") (hm : X.mg "len" = none) (ho : PE X o (tVar i))
    (he : starEach (o :: []) X.env = (false, eval o X.env) :: starEach [] X.env := by rfl) (hpl : (backTo pos (starEach [] X.env)).any (·.1) = false := by rfl)
    (hP : X.prog = P := by rfl) (hw : X.w = w := by rfl) (hK : X.K = K := by rfl) (hM : X.mg = mg := by rfl) (hB : X.base = base := by rfl) :
    PD X ca W (.Call (.Name "len" p) [o] [] pos) (tCB (rLenR C (spR K ca C c 0)) (tCons (tVar i) tNil)) (dLenR C i c) := by
  subst hP hw hK hM hB
  obtain ⟨f, fd, ps, g1, g2, g3⟩ := F
  refine ⟨pe_callB (call_lenR g1 hr g2 g3) hg hm boot_len (pa_cons ho pa_nil he) (by decide) (by decide) he hpl, fun G σ H Hf l Q q r R k kr z => ?_⟩
  obtain ⟨p, dx, q', now, past, hi, z⟩ := z
  obtain ⟨v, e1, e2, hd⟩ := R.slot i _ hi
  obtain ⟨vn, vs, f1, f2, f3, f4, f5⟩ := id hd
  subst e2
  have fr := fun b hb => (R.free b (mem_feet hi (b := b) hb)).1
  refine ⟨_, e1, p, dx, _, rfl, f1, ?_⟩
  refine ⟨p, dx, q', [], Hf, now, past, [], _, rfl, rfl, R.sub, ⟨fr p (by simp [foot]), fr dx (by simp [foot]), fr q' (by simp [foot]), rdr_nd R hi⟩, hd, .nil, z, fun d now' past' v H' Hf' q2 F' hd' dv => ?_, fun e now' past' H' Hf' q2 F' hd' => q2.elim⟩
  obtain ⟨n, rfl, n0, n1, q2⟩ := q2
  exact ⟨n, dv.int_inv, n0, n1, k _ _ _ _ _ q2 (rdr_set R hi F' hd') (F'.sameF R.sub) (.int n)⟩
theorem pdt_pastCmp {op : CmpOp} {r : R2} {f : PyData → PyData → Option Bool} (T : RTx K C) (ho : OpR X (compareOp op) r) (hf : CmD K r f) (ha : PE X a (tVar i)) (hb : PV X ca W b ub db) (hm : behindInMarks op b = false)
    (hb1 : attributeBase a "past" X.env (eval a X.env) = eval a X.env := by rfl) (hK : X.K = K := by rfl) : PDT X ca W (.Compare (.Attribute a "past" p2) [op] [b] pos) (tTest (tOp r (tFld K (tVar i) "past") ub)) (dPastCmp C i f db) := by
  subst hK
  obtain ⟨h3, h4⟩ := hb
  refine ⟨pt_cmpR ho (pe_fld ha hb1) h3 hm, fun G σ H Hf l Q q r R k kr hd => ?_⟩
  obtain ⟨p, dx, q', now, past, hi, hd⟩ := hd
  obtain ⟨v, e1, e2, vn, vs, f1, f2, f3, f4, f5⟩ := R.slot i _ hi
  subst e2
  refine ⟨_, e1, p, C, dx, _, _, rfl, f1, T.cl, T.nP, rf_past _ _, ?_⟩
  refine h4 G σ H Hf l _ _ r R (fun y l2 v2 H2 Hf2 z R2 s2 d2 => ?_) kr hd
  obtain ⟨now2, past2, w, hi2, e, z⟩ := z
  obtain ⟨v, _, _, wn, ws, g1, g2, g3, g4, g5⟩ := R2.slot i _ hi2
  exact hf _ v2 _ _ _ H2 _ (.lst' g3 (g5.mono R2.sub)) d2 e ⟨w, rfl, k _ _ _ _ z R2 s2⟩
theorem pd_lenPast {p : Pos} (T : RTx K C) (hg : Gl X "len") (hm : X.mg "len" = none) (ha : PE X a (tVar i)) (hb1 : attributeBase a "past" X.env (eval a X.env) = eval a X.env := by rfl)
    (he : starEach [.Attribute a "past" p2] X.env = (false, eval (.Attribute a "past" p2) X.env) :: starEach [] X.env := by rfl) (hpl : (backTo pos (starEach [] X.env)).any (·.1) = false := by rfl) (hK : X.K = K := by rfl) :
    PD X ca W (.Call (.Name "len" p) [.Attribute a "past" p2] [] pos) (tCB (rLenA K) (tCons (tFld K (tVar i) "past") tNil)) (dLenPast C i) := by
  subst hK
  refine ⟨pe_callB (r := rLenA X.K) call_lenA hg hm boot_len (pa_cons (pe_fld ha hb1) pa_nil he) (by decide) (by decide) he hpl, fun G σ H Hf l Q q r R k kr hd => ?_⟩
  obtain ⟨p, dx, q', now, past, hi, hd⟩ := hd
  obtain ⟨v, e1, e2, vn, vs, f1, f2, f3, f4, f5⟩ := R.slot i _ hi
  subst e2
  refine ⟨_, e1, p, C, dx, _, _, rfl, f1, T.cl, T.nP, rf_past _ _, ?_⟩
  exact .inl ⟨q', vs, rfl, .inl (.inl (.inl f3)), by rw [f5.1]; exact k _ _ _ _ _ hd R (Same.refl _) (.int _)⟩
theorem pds_popNow (T : RTx K C) (h : PE X a (tVar i)) (h2 : PE X o (tVar i))
    (hb1 : attributeBase o "past" X.env (eval o X.env) = eval o X.env := by rfl) (hb2 : attributeBase (.Attribute o "past" p2) "pop" X.env (eval (.Attribute o "past" p2) X.env) = eval (.Attribute o "past" p2) X.env := by rfl) (hline : (p3.endLine == p4.line) = true := by rfl)
    (hs : swapsWith (.Call (.Attribute (.Attribute o "past" p2) "pop" p3) [] [] p4) (some (.Attribute a "now" p5)) pos.line X.env = pure false := by rfl) (hK : X.K = K := by rfl) :
    PDS X ca W (.Assign [.Attribute a "now" p5] (.Call (.Attribute (.Attribute o "past" p2) "pop" p3) [] [] p4) pos) (sFld K (tVar i) (tBM0 K "list" rPop (tFld K (tVar i) "past")) "now") (dPopNow C i) := by
  subst hK
  refine ⟨ps_fld h (pe_bm0 PySem.F.plainAttrs_list PySem.F.slot_list_pop PySem.F.type_list_pop mt_pop (pe_fld h2 hb1) hb2 hline) hs, fun G D E σ H Hf l R m z => ?_⟩
  obtain ⟨p, dx, q, now, past, x, hi, z⟩ := z
  obtain ⟨v, e1, e2, vn, vs, f1, f2, f3, f4, f5⟩ := R.slot i _ hi
  subst e2
  have hlen : vs.length = past.length + 1 := by rw [f5.1, List.length_append, List.length_singleton]
  obtain ⟨y, hy⟩ : ∃ y, vs[vs.length - 1]? = some y := ⟨_, List.getElem?_eq_getElem (by omega)⟩
  have hx : (past ++ [x])[vs.length - 1]? = some x := by
    rw [hlen, Nat.add_sub_cancel, List.getElem?_append_right (Nat.le_refl _), Nat.sub_self]
    rfl
  have dy : Dv X.K Hf y x := f5.2 _ _ _ hy hx
  have dd : DvAll X.K Hf vs.dropLast past := by
    refine ⟨by rw [List.length_dropLast, hlen]; rfl, fun j v d h1 h2 => ?_⟩
    have hj : j < past.length := (List.getElem?_eq_some_iff.mp h2).1
    refine f5.2 j v d ?_ (by rw [List.getElem?_append_left hj]; exact h2)
    rw [List.dropLast_eq_take, List.getElem?_take_of_lt (by omega)] at h1
    exact h1
  have nd := rdr_nd R hi
  have n1 : p ≠ dx := fun z => by subst z; simp at nd
  have n2 : p ≠ q := fun z => by subst z; simp at nd
  have n3 : dx ≠ q := fun z => by subst z; simp at nd
  have fp := R.free p (mem_feet hi (by simp [foot]))
  have fq := R.free q (mem_feet hi (by simp [foot]))
  have F1 : Frm [p, dx, q] H Hf (upd H q (.lst vs.dropLast)) Hf := Frm.mut R.sub (by simp) fq.1
  have F2 : Frm [p, dx, q] (upd H q (.lst vs.dropLast)) Hf (upd (upd H q (.lst vs.dropLast)) p (.ins C dx (rf y q))) Hf := Frm.mut F1.sub (by simp) fp.1
  have F := F1.trans F2 fun b hb => .inl hb
  have f1' : (upd H q (.lst vs.dropLast)) p = some (.ins C dx (rf vn q)) := by rw [upd_ne n2]; exact f1
  refine ⟨_, e1, p, C, dx, _, _, rfl, f1, T.cl, T.nP, rf_past _ _, .inl ⟨rfl, _, .inl (.inl f3)⟩, q, vs, y, rfl, rfl, f3, hy, ?_⟩
  refine ⟨_, e1, p, C, dx, _, rfl, f1', T.cl, T.nN, (by show 2 < 1000; decide), ?_⟩
  rw [rf_put]
  exact m.nx _ _ _ _ z (rdr_set R hi F ⟨y, vs.dropLast, upd_same, by rw [upd_ne n1.symm, upd_ne n3]; exact f2, by rw [upd_ne n2.symm, upd_same], dy, dd⟩) (Same.refl _)
end
end DL

namespace DL
open PySem PySem.Spec PyProof.Rows L2

/-! ### tuples: slices, sums, ints in them -/
def dSlT (d : DE) (lo hi : DO) : DE := fun l Q R => d l (fun x l1 => lo l1 (fun i l2 => hi l2 (fun j l3 => ∃ ds, x = .tuple ds ∧ ¬ (HT.sIx ds.length 0 i = 0 ∧ HT.sIx ds.length ds.length j = ds.length) ∧ Q (.tuple (cutD ds i j)) l3) R) R) R
def addTD : PyData → PyData → Option PyData
  | .tuple (x :: xs), .tuple (y :: ys) => if xs.length + ys.length ≤ 1000 then some (.tuple (x :: xs ++ y :: ys)) else none
  | _, _ => none
def inTi : PyData → PyData → Option Bool
  | .int x, .tuple ds => (intsOf ds).map fun ys => decide (x ∈ ys)
  | _, _ => none
section
variable {X : Cx} {ca : Er → Addr} {W : WX} {a b e : Expr} {ua ub : TE} {da db : DE} {pos pos2 p p2 : Pos} {K : PySem.W.Frag}
theorem pd_slT {lo hi : Option Expr} {tl th : TO} {dl dh : DO} (h : PD X ca W a ua da) (hl : PDO X ca W lo tl dl) (hh : PDO X ca W hi th dh) (hK : X.K = K := by rfl) : PD X ca W (.Subscript a (.Slice lo hi none p2) pos) (tSl (rSlT K) ua tl th) (dSlT da dl dh) := by
  subst hK
  refine ⟨pe_slice sl_tup h.pe hl.pe hh.pe, fun G σ H Hf l Q q r R k kr z => ?_⟩
  refine h.es G σ H Hf l _ _ r R (fun x l1 v H1 Hf1 z1 R1 s1 d1 => ?_) kr z
  refine hl.es G σ H1 Hf1 l1 _ _ r R1 (fun i l2 H2 Hf2 z2 R2 s2 => ?_) kr z1
  refine hh.es G σ H2 Hf2 l2 _ _ r R2 (fun j l3 H3 Hf3 z3 R3 s3 => ?_) kr z2
  obtain ⟨ds, rfl, hw, z3⟩ := z3
  obtain ⟨p, vs, rfl, h1, h2⟩ := d1.tuple_inv
  have s13 : Same Hf1 Hf3 := s2.trans s3
  refine ⟨p, vs, rfl, sqT_mono (s13.trans R3.sub) h1, by rw [h2.1]; exact hw, fun b hb => ?_⟩
  have F : Frm [] H3 Hf3 (upd H3 b (.tup (cutV vs i j))) (upd Hf3 b (.tup (cutV vs i j))) := Frm.new R3.sub hb
  exact k _ _ _ _ _ z3 (R3.grow F) (((s1.trans s2).trans s3).trans (F.sameF R3.sub)) (.tup' (.inl (.inl upd_same)) ((dvAll_cut (h2.mono s13) i j).mono (F.sameF R3.sub)))
theorem od_catT : OpD K (rCatT K) addTD := fun x y dx dy z H Hf Q s hx hy e k => by
  unfold addTD at e
  split at e
  · split at e
    · rename_i hl
      cases e
      obtain ⟨p, vs, rfl, h1, h2⟩ := hx.tuple_inv
      obtain ⟨q, ws, rfl, h3, h4⟩ := hy.tuple_inv
      have l1 := h2.1
      have l2 := h4.1
      rw [List.length_cons] at l1 l2
      refine ⟨p, q, vs, ws, rfl, rfl, sqT_mono s h1, sqT_mono s h3, fun z => by rw [z] at l1; simp at l1, by rw [sizeLine_eq]; omega, fun z => by rw [z] at l2; simp at l2, fun _ a ha => ?_⟩
      have F : Frm [] H Hf (upd H a (.tup (vs ++ ws))) (upd Hf a (.tup (vs ++ ws))) := Frm.new s ha
      exact k _ _ _ F (.tup' (.inl (.inl upd_same)) ((h2.append h4).mono (F.sameF s)))
    · cases e
  · cases e
theorem ints_inV {x : Int} : ∀ ys : List Int, (ys.map V.int).all flatV = true ∧ inV (.int x) (ys.map V.int) = decide (x ∈ ys)
  | [] => ⟨rfl, rfl⟩
  | y :: ys => by
    obtain ⟨i1, i2⟩ := ints_inV (x := x) ys
    refine ⟨by simp only [List.map_cons, List.all_cons, i1]; rfl, ?_⟩
    have i3 : (ys.map V.int).any (fun z => eqV z (.int x)) = decide (x ∈ ys) := i2
    show (eqV (.int y) (.int x) || (ys.map V.int).any fun z => eqV z (.int x)) = decide (x ∈ y :: ys)
    rw [i3]
    have e4 : eqV (.int y) (.int x) = (y == x) := rfl
    rw [e4]
    by_cases hxy : y = x
    · subst hxy
      simp
    · have hyx : ¬ x = y := fun z => hxy z.symm
      simp [hxy, hyx]
theorem cm_inTi : CmD K (rIn K false) inTi := fun x y dx dy z H Q hx hy e q => by
  unfold inTi at e
  split at e
  · rename_i xx ds
    cases e2 : intsOf ds with
    | none => rw [e2] at e; cases e
    | some ys =>
      rw [e2] at e
      cases e
      obtain rfl := hx.int_inv
      obtain ⟨p, vs, rfl, h1, h2⟩ := hy.tuple_inv
      have ev := intsOf_vals e2 h2
      subst ev
      obtain ⟨i1, i2⟩ := ints_inV (x := xx) ys
      refine ⟨p, _, rfl, .inr h1, rfl, i1, ?_⟩
      rw [if_neg Bool.false_ne_true, i2]
      exact q
  · cases e
end
/-! ### x, y, z = (Reader(e), y0, []) -/
def dMkR3 (C : Addr) (i j k m : Nat) (ok : PyData → Prop) (d : DE) : DS := fun E l => d l (fun s l1 => ok s ∧ ∃ y, l1[m]? = some (some (.val y)) ∧ ∀ p dx q, E.nx (((l1.set i (some (.rdr p dx q C s []))).set j (some (.val y))).set k (some (.val (.list []))))) E.rs
section
variable {X : Cx} {ca : Er → Addr} {W : WX} {e y tg : Expr} {ua : TE} {da : DE} {pos p2 p3 p4 pos2 : Pos} {i j m kk : Nat} {C : Addr} {P : Program} {w : World} {K : PySem.W.Frag} {mg : Str → Option Value} {base : Heap} {k : Nat} {x : Str} {ok : PyData → Prop} {st : Stmt}
theorem pds_mkR3 (F : FdI P w K mg base C ok x k) (hr : Room (k + 1) X.A) (hg : Gl X x) (ha : PD X ca W e ua da) (hy : PE X y (tVar m))
    (hp : PA X [.Call (.Name x p2) [e] [] pos, y, .List [] p3] (tCons (tMake C (spI K C ok) [] E0 (tCons ua tNil)) (tCons (tVar m) (tCons (tLst tNil) tNil))) → PS X st (tPar3 i j kk (tCons (tMake C (spI K C ok) [] E0 (tCons ua tNil)) (tCons (tVar m) (tCons (tLst tNil) tNil)))))
    (hdb : (x == ("__debug__" : Str)) = false := by decide) (he : starEach (e :: []) X.env = (false, eval e X.env) :: starEach [] X.env := by rfl) (hpl : (backTo pos (starEach [] X.env)).any (·.1) = false := by rfl)
    (h1 : starEach [.Call (.Name x p2) [e] [] pos, y, .List [] p3] X.env = (false, eval (.Call (.Name x p2) [e] [] pos) X.env) :: starEach [y, .List [] p3] X.env := by rfl)
    (h2 : starEach [y, .List [] p3] X.env = (false, eval y X.env) :: starEach [.List [] p3] X.env := by rfl) (h3 : starEach [.List [] p3] X.env = (false, eval (.List [] p3) X.env) :: starEach [] X.env := by rfl)
    (hP : X.prog = P := by rfl) (hw : X.w = w := by rfl) (hK : X.K = K := by rfl) (hM : X.mg = mg := by rfl) (hB : X.base = base := by rfl) :
    PDS X ca W st (tPar3 i j kk (tCons (tMake C (spI K C ok) [] E0 (tCons ua tNil)) (tCons (tVar m) (tCons (tLst tNil) tNil)))) (dMkR3 C i j kk m ok da) := by
  subst hP hw hK hM hB
  obtain ⟨f, fd, ps, g1, g2, g3, g4⟩ := F
  refine ⟨hp (pa_cons (pe_make g2 g1 hr hg g4 g3 .nil passL (pa_cons ha.pe pa_nil he) hdb he hpl) (pa_cons hy (pa_cons (pe_lst pa_nil) pa_nil h3) h2) h1), fun G D E σ H Hf l R m' z => ?_⟩
  refine ha.es G σ H Hf l _ _ E.rs R (fun s l1 v H1 Hf1 z1 R1 s1 dv => ?_) (fun e l' H' Hf' z R' => m'.rs e σ l' H' Hf' z R') z
  obtain ⟨hok, yd, hyd, z1⟩ := z1
  intro y dx ny ndx ne
  have fy : Hf1 y = none := R1.sub.free ny
  have fdx : Hf1 dx = none := R1.sub.free ndx
  have sx : Same Hf1 (upd (upd H1 dx (.own y)) y (.ins C dx [])) := fun b o q => by
    have nby : b ≠ y := fun z => by rw [z, fy] at q; cases q
    have nbd : b ≠ dx := fun z => by rw [z, fdx] at q; cases q
    rw [upd_ne nby, upd_ne nbd]
    exact R1.sub b o q
  refine ⟨y, dx, v, Hf1, s, rfl, sx, ⟨fy, fdx, ne⟩, upd_same, by rw [upd_ne ne, upd_same], dv, hok, fun q H2 Hf2 nq fq F2 hd => ⟨rfl, ?_⟩⟩
  have nqy : q ≠ y := fun z => by rw [z, upd_same] at nq; cases nq
  have nqd : q ≠ dx := fun z => by rw [z, upd_ne ne, upd_same] at nq; cases nq
  have nq1 : H1 q = none := by
    rw [upd_ne nqy, upd_ne nqd] at nq
    exact nq
  have up : ∀ b o, H1 b = some o → (upd (upd H1 dx (.own y)) y (.ins C dx [])) b = some o := fun b o q => by
    have nby : b ≠ y := fun z => by rw [z, ny] at q; cases q
    have nbd : b ≠ dx := fun z => by rw [z, ndx] at q; cases q
    rw [upd_ne nby, upd_ne nbd]
    exact q
  have F : Frm [] H1 Hf1 H2 Hf2 := by
    refine ⟨fun b o _ e => ?_, fun b o e => F2.there b o (up b o e), fun b o e => F2.fz b o (up b o e), F2.sub⟩
    refine F2.keep b o (fun z => ?_) (up b o e)
    have : b = y := by simpa using z
    rw [this, ny] at e
    cases e
  have hn : ∀ b ∈ [y, dx, q], H1 b = none ∧ Hf2 b = none := fun b hb => by
    have e : b = y ∨ b = dx ∨ b = q := by simpa using hb
    rcases e with e | e | e
    · rw [e]; exact ⟨ny, by rw [F2.fz y _ upd_same]; exact fy⟩
    · rw [e]; exact ⟨ndx, by rw [F2.fz dx (.own y) (by rw [upd_ne ne, upd_same])]; exact fdx⟩
    · rw [e]; exact ⟨nq1, fq⟩
  have R2 := R1.putRdr i F hn (by simp [ne.symm, nqy.symm, nqd.symm]) hd
  obtain ⟨vy, e1, e2⟩ := R1.slot m _ hyd
  refine ⟨vy, e1, Nat.zero_le _, fun c hc => ?_⟩
  have F3 : Frm [] H2 Hf2 (upd H2 c (.lst [])) (upd Hf2 c (.lst [])) := Frm.new R2.sub hc
  have R3 := ((R2.grow F3).put j (Dv.mono ((F.sameF R1.sub).trans (F3.sameF R2.sub)) e2)).put kk (v := .ref c) (d := .list []) (.lst' upd_same .nil)
  exact ⟨_, _, _, rfl, m'.nx _ _ _ _ (z1 y dx q) R3 ((s1.trans (F.sameF R1.sub)).trans (F3.sameF R2.sub))⟩
end
end DL

namespace SD
open PySem PySem.Spec PyProof.Rows L2 DL
def topS (i : Nat) : Stmt := PySem.Challenge.pw_shortdecimals_k08_whole_readers.main.body.getD i (.Pass ⟨0, 0, 0, 0⟩)
section
variable {P : Program} {w : World} {K : PySem.W.Frag} {mg : Str → Option Value} {base : Heap} {ca : Er → Addr} {f : Addr} {fd : FuncData}
abbrev s__law_start : Stmt := topS 39
theorem sc__law_start : FnScope ["script"] ["script"] (defScope s__law_start) := ⟨rfl, rfl, rfl, by decide +kernel, rfl, by decide +kernel, by decide +kernel⟩
theorem ok__law_start (F : Fun K "_law_start" "_law_start" s__law_start f fd) (m_list : mg "list" = none) : FnOk P w K mg base (L2.CX P w) 1 f fd ["script"] (spS K) := by
  refine F.okX sc__law_start (fun vs H Q E h => ?_) (fun cdv A outer s H vs Q E hr h => ?_)
  · obtain ⟨a, ns, rfl, _⟩ := h
    rfl
  · obtain ⟨a, ns, rfl, hS, hl, hQ⟩ := h
    refine ⟨_, pss_one (ps_ret (pe_lst (pa_cons (pe_ifExp (pt_cmpR (op_neD hr.units) (pv 0) (pe_lst pa_nil) (nomark _)) (pe_callTy call_list_of (by rfl) m_list boot_list (pa_cons (pv 0) pa_nil)) (pe_lst (pa_cons pe_int pa_nil))) (pa_cons pe_int pa_nil)))), ?_⟩
    have dd : ∀ (ms : List Int), SeqAt.shaped (.list (ms.map PyData.int)) = true := fun ms => by
      have h1 : ∀ ms : List Int, PyData.canLayAll0 (ms.map PyData.int) = true := fun ms => by
        induction ms with
        | nil => simp [PyData.canLayAll0]
        | cons m ms ih => simp [PyData.canLayAll0, PyData.canLay0, ih]
      have h2 : ∀ ms : List Int, PyData.depthAll (ms.map PyData.int) = 0 := fun ms => by
        induction ms with
        | nil => simp [PyData.depthAll]
        | cons m ms ih => simp [PyData.depthAll, PyData.depth, ih]
      simp [SeqAt.shaped, PyData.canLay0, PyData.depth, h1, h2]
    have dp : ∀ {H' : Hp} {x : Addr} {ms : List Int}, SqL K H' x (ms.map V.int) → Dp K H' (.ref x) (.list (ms.map PyData.int)) := fun {H' x ms} h => .lst h (by
      clear h
      induction ms with
      | nil => exact .nil
      | cons m ms ih => exact .cons (.int m) ih)
    refine ⟨.ref a, rfl, Nat.zero_le _, fun e0 he0 => ?_⟩
    have s0 : Same H (upd H e0 (.lst [])) := same_upd he0
    refine ⟨.list (ns.map PyData.int), .list [], dp (s0.seq hS), dp (ms := []) (.inl (.inl upd_same)), dd ns, dd [], _, rfl, ?_⟩
    have line : ([V.int 0] : List V).length ≤ sizeLine ∧ ∀ x y : V, [x, y].length ≤ sizeLine := by
      rw [sizeLine_eq]
      exact ⟨by decide, fun x y => (by decide : 2 ≤ 16777216)⟩
    by_cases hn : ns = []
    · have e : (!PyData.eqv (.list (ns.map PyData.int)) (.list [])) = false := by
        rw [hn]
        simp [PyData.eqv, PyData.eqvAll]
      rw [e]
      refine iteF ⟨line.1, fun b hb => ⟨line.2 _ _, fun p hp => ?_⟩⟩
      have s1 : Same (upd H e0 (.lst [])) (upd (upd H e0 (.lst [])) b (.lst [V.int 0])) := same_upd hb
      have s2 := same_upd (o := .lst [V.ref b, V.int 0]) hp
      have npb : p ≠ b := fun z => by
        rw [z, upd_same] at hp
        cases hp
      refine hQ p b _ ((s0.trans s1).trans s2) (s0.free (s1.free hp)) (s0.free hb) npb ⟨[0], 0, upd_same, ?_, by simp, by simp⟩
      rw [upd_ne npb.symm, upd_same]
      rfl
    · have e : (!PyData.eqv (.list (ns.map PyData.int)) (.list [])) = true := by
        cases ns with
        | nil => exact absurd rfl hn
        | cons m ms => simp [PyData.eqv, PyData.eqvAll]
      rw [e]
      refine iteT ⟨.ref a, rfl, a, ns.map V.int, rfl, .inl (s0.seq hS), fun b hb => ⟨line.2 _ _, fun p hp => ?_⟩⟩
      have s1 : Same (upd H e0 (.lst [])) (upd (upd H e0 (.lst [])) b (.lst (ns.map V.int))) := same_upd hb
      have s2 := same_upd (o := .lst [V.ref b, V.int 0]) hp
      have npb : p ≠ b := fun z => by
        rw [z, upd_same] at hp
        cases hp
      refine hQ p b _ ((s0.trans s1).trans s2) (s0.free (s1.free hp)) (s0.free hb) npb ⟨ns, 0, upd_same, ?_, hn, by omega⟩
      rw [upd_ne npb.symm, upd_same]

abbrev s__law_draw : Stmt := topS 40
theorem sc__law_draw : FnScope ["draws", "limit", "numbers", "at", "cell", "mixed"] ["draws", "limit"] (defScope s__law_draw) := ⟨rfl, rfl, rfl, by decide +kernel, rfl, by decide +kernel, by decide +kernel⟩
def c__law_draw : Ct := fun ds q => ∃ n : Int, ds = [.int n] ∧ 0 < n ∧ n < 1073741824 ∧ ∀ r : Int, 0 ≤ r → r < n → q (.ok (.int r))
theorem ok__law_draw (F : Fun K "_law_draw" "_law_draw" s__law_draw f fd) (m_len : mg "len" = none) : FnOk P w K mg base (L2.CX P w) 1 f fd ["draws", "limit"] (spW K ca c__law_draw 1) := by
  refine F.okX sc__law_draw (fun vs H Q E h => ?_) (fun cdv A outer s H vs Q E hr h => ?_)
  · obtain ⟨a, b, vr, Hf, ds, q, rfl, h1, _, _, _, h2, _⟩ := h
    rw [List.length_cons, h2.1, h1]
    rfl
  · obtain ⟨a, b, vr, Hf, ds, q, rfl, _, hs, ⟨ha, hb, ne⟩, ⟨ns, k, e1, e2, nn, hl⟩, h3, hc, h5, _⟩ := h
    obtain ⟨n, rfl, hn0, hn1, hq⟩ := hc
    obtain ⟨v, rfl, hv⟩ := dv1 h3
    obtain rfl := hv.int_inv
    refine ⟨_, pss_cons (ps_set (i := 2) sc__law_draw.nd rfl (.inl rfl) (pe_ix ix_list (pv 0) pe_int (fun _ _ => rfl)))
      (pss_cons (ps_asg (pe_op op_add (pe_ix ix_list (pv 0) pe_int (fun _ _ => rfl)) pe_int) (pg_sub (pv 0) pe_int set_list))
      (pss_cons (ps_set (i := 3) sc__law_draw.nd rfl (.inl rfl) (pe_op op_mod (pe_ix ix_list (pv 0) pe_int (fun _ _ => rfl)) (pe_callB call_len_seq (by rfl) m_len boot_len (pa_cons (pv 2) pa_nil))))
      (pss_cons (ps_set (i := 4) sc__law_draw.nd rfl (.inl rfl) (pe_ix ix_list (pv 2) (pv 3) (fun _ _ => rfl)))
      (pss_cons (ps_if (pt_cmpR op_ge (pv 4) pe_int (nomark _)) (pss_cons (ps_asg (pe_op op_fdiv (pv 4) (pv 1)) (pg_sub (pv 2) (pv 3) set_list)) (pss_one (ps_ret (pe_op op_mod (pv 4) (pv 1))))) pss_nil)
      (pss_cons (ps_set (i := 5) sc__law_draw.nd rfl (.inl rfl) (pe_op op_mod (pe_op op_add (pv 4) (pe_op op_mul pe_int (pe_ix ix_list (pv 0) pe_int (fun _ _ => rfl)))) pe_int))
      (pss_cons (ps_set (i := 5) sc__law_draw.nd rfl (.inl rfl) (pe_op op_mod (pe_op op_pow (pv 5) pe_int) pe_int))
      (pss_one (ps_ret (pe_op op_mod (pe_op op_fdiv (pe_op op_mod (pe_op op_add (pe_op op_mul (pe_op op_fdiv (pv 5) pe_int) pe_int) (pv 5)) pe_int) pe_int) (pv 1)))))))))), ?_⟩
    -- numbers = draws[0]
    refine ⟨.ref a, rfl, a, [.ref b, .int k], 0, .ref b, rfl, rfl, .inl (.inl e1), rfl, ?_⟩
    -- draws[1] = draws[1] + 1
    refine ⟨.ref a, rfl, a, [.ref b, .int k], 1, .int k, rfl, rfl, .inl (.inl e1), rfl, k, 1, rfl, rfl, .ref a, rfl, a, [.ref b, .int k], 1, 1, rfl, rfl, e1, rfl, ?_⟩
    have x1 : (upd H a (.lst [V.ref b, V.int (k + 1)])) a = some (.lst [V.ref b, V.int (k + 1)]) := upd_same
    have x2 : (upd H a (.lst [V.ref b, V.int (k + 1)])) b = some (.lst (ns.map V.int)) := by
      rw [upd_ne ne.symm]
      exact e2
    have lp : 0 < ns.length := List.length_pos_iff.mpr nn
    have F1 : Frm [a, b] H Hf (upd H a (.lst [V.ref b, V.int (k + 1)])) Hf := Frm.mut hs (by simp) ha
    show tSeq _ _ _ _ (upd H a (.lst [V.ref b, V.int (k + 1)]))
    generalize upd H a (.lst [V.ref b, V.int (k + 1)]) = H1 at x1 x2 F1 ⊢
    -- at = draws[1] % len(numbers)
    refine ⟨.ref a, rfl, a, [.ref b, .int (k + 1)], 1, .int (k + 1), rfl, rfl, .inl (.inl x1), rfl, .ref b, rfl, b, ns.map V.int, rfl, .inl (.inl (.inl x2)), k + 1, _, rfl, rfl, by rw [List.length_map]; omega, ?_⟩
    have m1 : 0 ≤ (k + 1) % (((ns.map V.int).length : Nat) : Int) := Int.emod_nonneg _ (by rw [List.length_map]; omega)
    have m2 : (k + 1) % (((ns.map V.int).length : Nat) : Int) < (ns.length : Int) := by
      have := Int.emod_lt_of_pos (k + 1) (b := (((ns.map V.int).length : Nat) : Int)) (by rw [List.length_map]; omega)
      rwa [List.length_map] at this ⊢
    dsimp only
    generalize (k + 1) % (((ns.map V.int).length : Nat) : Int) = at_ at m1 m2 ⊢
    have hat : at_.toNat < ns.length := by omega
    have hci : (ns.map V.int)[at_.toNat]? = some (.int ns[at_.toNat]) := by
      rw [List.getElem?_map, List.getElem?_eq_getElem hat]
      rfl
    have hix : atI (ns.map V.int) at_ = some (.int ns[at_.toNat]) := at_of (by omega) hci
    -- cell = numbers[at]
    refine ⟨.ref b, rfl, .int at_, rfl, b, ns.map V.int, at_, .int ns[at_.toNat], rfl, rfl, .inl (.inl x2), hix, ?_⟩
    generalize ns[at_.toNat] = cell
    refine ⟨.int cell, rfl, cell, _, rfl, rfl, _, rfl, ite2 (fun _ => ?_) (fun _ => ?_)⟩
    · -- numbers[at] = cell // limit; return cell % limit
      refine ⟨.int cell, rfl, .int n, rfl, cell, n, rfl, rfl, ⟨hn0, hn1⟩, .ref b, rfl, .int at_, rfl, b, ns.map V.int, at_, at_.toNat, rfl, rfl, x2, ?_, ?_⟩
      · unfold ixN
        rw [List.length_map, if_pos m1, if_pos m2]
      · have x3 : (ns.map V.int).set at_.toNat (.int (cell / n)) = (ns.set at_.toNat (cell / n)).map V.int := by rw [List.map_set]
        rw [x3]
        refine ⟨.int cell, rfl, .int n, rfl, cell, n, rfl, rfl, hn0, ?_⟩
        refine h5 _ _ _ Hf (hq _ (Int.emod_nonneg _ (by omega)) (Int.emod_lt_of_pos _ hn0)) (F1.trans (Frm.mut (ex := [a, b]) F1.sub (by simp) hb) fun x hx => .inl hx) ⟨ns.set at_.toNat (cell / n), k + 1, ?_, upd_same, ?_, by simpa using hl⟩ (.int _)
        · rw [upd_ne ne]
          exact x1
        · intro z
          have z2 := congrArg List.length z
          rw [List.length_set] at z2
          exact absurd z2 (by simp; exact nn)
    · -- the mixed number
      refine ⟨.int cell, rfl, .ref a, rfl, a, [.ref b, .int (k + 1)], 1, .int (k + 1), rfl, rfl, .inl (.inl x1), rfl, _, k + 1, rfl, rfl, .inl ⟨by decide, by decide⟩, cell, _, rfl, rfl, _, _, rfl, rfl, (by decide : (0 : Int) < 4294967291), ?_⟩
      have g1 : 0 ≤ (cell + 104729 * (k + 1)) % 4294967291 := Int.emod_nonneg _ (by decide)
      have g2 : (cell + 104729 * (k + 1)) % 4294967291 < 4294967291 := Int.emod_lt_of_pos _ (by decide)
      dsimp only
      generalize (cell + 104729 * (k + 1)) % 4294967291 = mx at g1 g2 ⊢
      refine ⟨.int mx, rfl, mx, _, rfl, rfl, ⟨by decide, by decide, by omega⟩, _, _, rfl, rfl, (by decide : (0 : Int) < 4294967279), ?_⟩
      have g3 : 0 ≤ mx ^ (5 : Int).toNat % 4294967279 := Int.emod_nonneg _ (by decide)
      have g4 : mx ^ (5 : Int).toNat % 4294967279 < 4294967279 := Int.emod_lt_of_pos _ (by decide)
      dsimp only
      generalize mx ^ (5 : Int).toNat % 4294967279 = my at g3 g4 ⊢
      refine ⟨.int my, rfl, my, _, rfl, rfl, ⟨by decide, by decide⟩, _, _, rfl, rfl, .inr ⟨by decide, by decide⟩, .int my, rfl, _, my, rfl, rfl, _, _, rfl, rfl, (by decide : (0 : Int) < 4294967231), _, _, rfl, rfl, ⟨by decide, by decide⟩, .int n, rfl, _, n, rfl, rfl, hn0, ?_⟩
      exact h5 _ _ _ Hf (hq _ (Int.emod_nonneg _ (by omega)) (Int.emod_lt_of_pos _ hn0)) F1 ⟨ns, k + 1, x1, x2, nn, hl⟩ (.int _)

theorem c__law_draw_e (n : Int) (q : Res → Prop) : c__law_draw [.int n] q ↔ 0 < n ∧ n < 1073741824 ∧ ∀ r : Int, 0 ≤ r → r < n → q (.ok (.int r)) :=
  ⟨fun ⟨_, e, h⟩ => by cases e; exact h, fun h => ⟨_, rfl, h⟩⟩
abbrev s__law_pick : Stmt := topS 41
theorem sc__law_pick : FnScope ["draws", "choices"] ["draws", "choices"] (defScope s__law_pick) := ⟨rfl, rfl, rfl, by decide +kernel, rfl, by decide +kernel, by decide +kernel⟩
def c__law_pick : Ct := fun ds q => ∃ xs : List PyData, ds = [.list xs] ∧ (1 ≤ xs.length ∧ xs.length ≤ 1000) ∧ ∀ x, x ∈ xs → q (.ok x)
theorem at_of2 {xs : List PyData} {z : Int} {j : Nat} {v : PyData} (e : z = (j : Int)) (h : xs[j]? = some v) : ixD (.list xs) (.int z) = some v := by
  rw [e]
  exact atI_nat h
theorem ok__law_pick (F : Fun K "_law_pick" "_law_pick" s__law_pick f fd) (F__law_draw : FdW P w K mg base ca "_law_draw" c__law_draw 1 1) (m_len : mg "len" = none) : FnOk P w K mg base (L2.CX P w) 2 f fd ["draws", "choices"] (spW K ca c__law_pick 1) := by
  refine fn_okW F sc__law_pick rfl (fun cdv A outer s H E hr tk po hu hu5 => ?_)
  refine ⟨_, _, pdb_one (pds_ret (pd_ix (r := rIx K) ix_seq od_ix (pd_var (pv 1)) (pd_fnW F__law_draw (hr.mono (by decide)) (by rfl) tk (pv 0) (pda_cons (pd_callB (r := rLenA K) call_lenA cd_len (by rfl) m_len boot_len (pda_cons (pd_var (pv 1)) pda_nil)) pda_nil)) (fun _ _ => rfl))), ?_⟩
  clear hr tk po hu hu5
  intro ds q a b hl hc
  obtain ⟨xs, rfl, hx, hq⟩ := hc
  rw [show startW ["draws", "choices"] a b [.list xs] = [some (.drw a b), some (.val (.list xs))] from rfl]
  simp only [dRet, dRetN, dSeq, dPar, dPar3, dCons, dNil, dCaB, dVar, dC, dCmpT, dCmp, dU, dB, dAndV, dOrV, dNotV, dAnd, dOr, dNot, dIf, dTup, dLst, dChain, dChainT, dTest, dIsi, dAsg, dDrop, dIfS, gN, gT, gs0, gs1, dAug, dNext, dRaise, dCall, dYes, topE, List.getElem?_cons_succ, List.getElem?_cons_zero, List.set_cons_zero, List.set_cons_succ, Option.some.injEq, S.val.injEq, exists_eq_left', exists_eq_left, exists_and_left, and_assoc, List.cons.injEq, and_true, true_and, PyData.int.injEq, PyData.bool.injEq, PyData.tuple.injEq, PyData.list.injEq, absD_i, maxD_i, addD_i, subD_i, negD_i, iaddD_i, mulD_e, fdivD_e, ifdivD_e, modD_e, leD_i, ltD_i, gtD_i, geD_i, lenD_t, lenD_l, isNd_n, notNd_n, isBd_b, notBd_b, isNonD_i, isNonD_n, isNonD_t, isNonD_l, eqD_int, neD_int, eqD_bool, neD_bool, eqD_fr, neD_fr, ix_fr0, ix_fr1, kit_int, kit_bool, kit_str, kit_tuple, decide_eq_true_eq, Bool.not_eq_true', decide_eq_false_iff_not, line_nil, line1, line2, if_true, if_false, dCallW, S.drw.injEq, topW, c__law_draw_e]
  refine ⟨by omega, by omega, fun r h0 h1 => ?_⟩
  have hr : r.toNat < xs.length := by omega
  exact ⟨xs[r.toNat], at_of2 (by omega) (List.getElem?_eq_getElem hr), hq _ (List.getElem_mem hr)⟩
theorem c__law_pick_e (xs : List PyData) (q : Res → Prop) : c__law_pick [.list xs] q ↔ (1 ≤ xs.length ∧ xs.length ≤ 1000) ∧ ∀ x, x ∈ xs → q (.ok x) :=
  ⟨fun ⟨_, e, h⟩ => by cases e; exact h, fun h => ⟨_, rfl, h⟩⟩
abbrev s__law_low : Stmt := topS 43
theorem sc__law_low : FnScope ["top", "under", "one", "other"] ["top", "under"] (defScope s__law_low) := ⟨rfl, rfl, rfl, by decide +kernel, rfl, by decide +kernel, by decide +kernel⟩
def c__law_low : Ct := fun ds q => ∃ a b : Int, ds = [.int a, .int b] ∧ (0 < b ∧ b < 2 ^ 64) ∧ q (.ok (lowF a b))
theorem ok__law_low (F : Fun K "_law_low" "_law_low" s__law_low f fd) (m_abs : mg "abs" = none) : FnOk P w K mg base (L2.CX P w) 1 f fd ["top", "under"] (spD K ca c__law_low 2) := by
  refine fn_ok F sc__law_low rfl (fun cdv A outer s H E hr tk po hu hu5 => ?_)
  refine ⟨_, _, pdb_cons (pds_par (pda_cons (pd_callB call_abs cd_abs (by rfl) m_abs boot_abs (pda_cons (pd_var (pv 0)) pda_nil)) (pda_cons (pd_var (pv 1)) pda_nil)) (fun h => ps_par (i := 2) (j := 3) rfl sc__law_low.nd rfl rfl (by decide) rfl rfl h (by rfl)))
      (pdb_cons (pds_while po (pdt_cmp (r := rNeD K) (op_neD hu) cm_ne (pd_var (pv 3)) (PD.pv pd_int) (nomark _)) (pdb_one (pds_par (pda_cons (pd_var (pv 3)) (pda_cons (pd_op op_mod od_mod (pd_var (pv 2)) (pd_var (pv 3))) pda_nil)) (fun h => ps_par (i := 2) (j := 3) rfl sc__law_low.nd rfl rfl (by decide) rfl rfl h (by rfl)))))
      (pdb_one (pds_ret (pd_tup (pda_cons (pd_op op_fdivW od_fdiv (pd_var (pv 0)) (pd_var (pv 2))) (pda_cons (pd_op op_fdivW od_fdiv (pd_var (pv 1)) (pd_var (pv 2))) pda_nil)))))), ?_⟩
  clear hr tk po hu hu5
  intro ds q hl hc
  obtain ⟨a, b, rfl, hb, hq⟩ := hc
  rw [show start0 (["top", "under", "one", "other"] : List Str) [.int a, .int b] = [some (.val (.int a)), some (.val (.int b)), none, none] from rfl]
  have h1 : 0 < (Int.gcd a b : Int) := gcdI_pos (a := a) hb.1
  have h2 : (Int.gcd a b : Int) ≤ b := gcdI_le (a := a) hb.1
  simp only [dRet, dRetN, dSeq, dPar, dPar3, dCons, dNil, dCaB, dVar, dC, dCmpT, dCmp, dU, dB, dAndV, dOrV, dNotV, dAnd, dOr, dNot, dIf, dTup, dLst, dChain, dChainT, dTest, dIsi, dAsg, dDrop, dIfS, gN, gT, gs0, gs1, dAug, dNext, dRaise, dCall, dYes, topE, List.getElem?_cons_succ, List.getElem?_cons_zero, List.set_cons_zero, List.set_cons_succ, Option.some.injEq, S.val.injEq, exists_eq_left', exists_eq_left, exists_and_left, and_assoc, List.cons.injEq, and_true, true_and, PyData.int.injEq, PyData.bool.injEq, PyData.tuple.injEq, PyData.list.injEq, absD_i, maxD_i, addD_i, subD_i, negD_i, iaddD_i, mulD_e, fdivD_e, ifdivD_e, modD_e, leD_i, ltD_i, gtD_i, geD_i, lenD_t, lenD_l, isNd_n, notNd_n, isBd_b, notBd_b, isNonD_i, isNonD_n, isNonD_t, isNonD_l, eqD_int, neD_int, eqD_bool, neD_bool, eqD_fr, neD_fr, ix_fr0, ix_fr1, kit_int, kit_bool, kit_str, kit_tuple, decide_eq_true_eq, Bool.not_eq_true', decide_eq_false_iff_not, line_nil, line1, line2, if_true, if_false]

  refine whW_inv (fun n l => ∃ x y : Nat, l = [some (.val (.int a)), some (.val (.int b)), some (.val (.int x)), some (.val (.int y))] ∧ n = y ∧ Nat.gcd x y = Int.gcd a b) (fun n l k h hk => ?_) b.natAbs _ ⟨a.natAbs, b.natAbs, by rw [Int.natAbs_of_nonneg (by omega : 0 ≤ b)], rfl, rfl⟩
  obtain ⟨x, y, rfl, rfl, hg⟩ := h
  simp only [dRet, dRetN, dSeq, dPar, dPar3, dCons, dNil, dCaB, dVar, dC, dCmpT, dCmp, dU, dB, dAndV, dOrV, dNotV, dAnd, dOr, dNot, dIf, dTup, dLst, dChain, dChainT, dTest, dIsi, dAsg, dDrop, dIfS, gN, gT, gs0, gs1, dAug, dNext, dRaise, dCall, dYes, topE, List.getElem?_cons_succ, List.getElem?_cons_zero, List.set_cons_zero, List.set_cons_succ, Option.some.injEq, S.val.injEq, exists_eq_left', exists_eq_left, exists_and_left, and_assoc, List.cons.injEq, and_true, true_and, PyData.int.injEq, PyData.bool.injEq, PyData.tuple.injEq, PyData.list.injEq, absD_i, maxD_i, addD_i, subD_i, negD_i, iaddD_i, mulD_e, fdivD_e, ifdivD_e, modD_e, leD_i, ltD_i, gtD_i, geD_i, lenD_t, lenD_l, isNd_n, notNd_n, isBd_b, notBd_b, isNonD_i, isNonD_n, isNonD_t, isNonD_l, eqD_int, neD_int, eqD_bool, neD_bool, eqD_fr, neD_fr, ix_fr0, ix_fr1, kit_int, kit_bool, kit_str, kit_tuple, decide_eq_true_eq, Bool.not_eq_true', decide_eq_false_iff_not, line_nil, line1, line2, if_true, if_false]
  by_cases hy : n = 0
  · subst hy
    have e : x = Int.gcd a b := by simpa using hg
    subst e
    rw [if_neg (by simp)]
    exact ⟨h1, by omega, h1, by omega, hq⟩
  · rw [if_pos (by omega)]
    refine ⟨by omega, hk _ (x % n) (Nat.mod_lt _ (by omega)) ⟨n, x % n, rfl, rfl, ?_⟩⟩
    rw [← hg, Nat.gcd_comm n, ← Nat.gcd_rec, Nat.gcd_comm]
theorem c__law_low_e (a b : Int) (q : Res → Prop) : c__law_low [.int a, .int b] q ↔ (0 < b ∧ b < 2 ^ 64) ∧ q (.ok (lowF a b)) :=
  ⟨fun ⟨_, _, e, h⟩ => by cases e; exact h, fun h => ⟨_, _, rfl, h⟩⟩
abbrev s__law_fraction : Stmt := topS 44
theorem sc__law_fraction : FnScope ["draws", "under", "wide"] ["draws"] (defScope s__law_fraction) := ⟨rfl, rfl, rfl, by decide +kernel, rfl, by decide +kernel, by decide +kernel⟩
def c__law_fraction : Ct := fun ds q => ds = [] ∧ ∀ p n : Int, isFracB (fr p n) = true → q (.ok (fr p n))
theorem ok__law_fraction (F : Fun K "_law_fraction" "_law_fraction" s__law_fraction f fd) (F__law_pick : FdW P w K mg base ca "_law_pick" c__law_pick 1 2) (F__law_low : Fd P w K mg base ca "_law_low" c__law_low 2 1) (F__law_draw : FdW P w K mg base ca "_law_draw" c__law_draw 1 1) : FnOk P w K mg base (L2.CX P w) 3 f fd ["draws"] (spW K ca c__law_fraction 0) := by
  refine fn_okW F sc__law_fraction rfl (fun cdv A outer s H E hr tk po hu hu5 => ?_)
  refine ⟨_, _, pdb_cons (pds_set (pd_fnW F__law_pick (hr.mono (by decide)) (by rfl) tk (pv 0) (pda_cons (pd_lst (pda_cons pd_int (pda_cons pd_int (pda_cons pd_int (pda_cons pd_int (pda_cons pd_int (pda_cons pd_int (pda_cons pd_int (pda_cons pd_int (pda_cons (pd_op (op_add.or (op_add_str.or op_cat)) od_add pd_int (pd_fnW F__law_draw (hr.mono (by decide)) (by rfl) tk (pv 0) (pda_cons pd_int pda_nil))) pda_nil)))))))))) pda_nil)) (fun h => ps_set (i := 1) sc__law_fraction.nd rfl (.inl rfl) h))
      (pdb_cons (pds_set (pd_fnW F__law_pick (hr.mono (by decide)) (by rfl) tk (pv 0) (pda_cons (pd_lst (pda_cons pd_int (pda_cons pd_int (pda_cons pd_int pda_nil)))) pda_nil)) (fun h => ps_set (i := 2) sc__law_fraction.nd rfl (.inl rfl) h))
      (pdb_one (pds_ret (pd_fn F__law_low (hr.mono (by decide)) (by rfl) tk (pda_cons (pd_op op_sub od_sub (pd_fnW F__law_draw (hr.mono (by decide)) (by rfl) tk (pv 0) (pda_cons (pd_op (op_add.or (op_add_str.or op_cat)) od_add (pd_op op_mul od_mul (pd_op op_mul od_mul pd_int (pd_var (pv 2))) (pd_var (pv 1))) pd_int) pda_nil)) (pd_op op_mul od_mul (pd_var (pv 2)) (pd_var (pv 1)))) (pda_cons (pd_var (pv 1)) pda_nil)))))), ?_⟩
  clear hr tk po hu hu5
  intro ds q a b hl hc
  obtain ⟨rfl, hq⟩ := hc
  rw [show startW ["draws", "under", "wide"] a b [] = [some (.drw a b), none, none] from rfl]
  simp only [dRet, dRetN, dSeq, dPar, dPar3, dCons, dNil, dCaB, dVar, dC, dCmpT, dCmp, dU, dB, dAndV, dOrV, dNotV, dAnd, dOr, dNot, dIf, dTup, dLst, dChain, dChainT, dTest, dIsi, dAsg, dDrop, dIfS, gN, gT, gs0, gs1, dAug, dNext, dRaise, dCall, dYes, topE, List.getElem?_cons_succ, List.getElem?_cons_zero, List.set_cons_zero, List.set_cons_succ, Option.some.injEq, S.val.injEq, exists_eq_left', exists_eq_left, exists_and_left, and_assoc, List.cons.injEq, and_true, true_and, PyData.int.injEq, PyData.bool.injEq, PyData.tuple.injEq, PyData.list.injEq, absD_i, maxD_i, addD_i, subD_i, negD_i, iaddD_i, mulD_e, fdivD_e, ifdivD_e, modD_e, leD_i, ltD_i, gtD_i, geD_i, lenD_t, lenD_l, isNd_n, notNd_n, isBd_b, notBd_b, isNonD_i, isNonD_n, isNonD_t, isNonD_l, eqD_int, neD_int, eqD_bool, neD_bool, eqD_fr, neD_fr, ix_fr0, ix_fr1, kit_int, kit_bool, kit_str, kit_tuple, decide_eq_true_eq, Bool.not_eq_true', decide_eq_false_iff_not, line_nil, line1, line2, if_true, if_false, dCallW, S.drw.injEq, topW, c__law_draw_e, c__law_pick_e, c__law_low_e, List.length_cons, List.length_nil, sizeLine_eq, Nat.reduceAdd, Nat.reduceLeDiff, Nat.zero_add]
  refine ⟨by decide, by decide, fun r r0 r1 => fun x hx => ?_⟩
  obtain ⟨u, rfl, u1, u2⟩ : ∃ u : Int, x = .int u ∧ 1 ≤ u ∧ u ≤ 60 := by
    simp only [List.mem_cons, List.not_mem_nil, or_false] at hx
    rcases hx with h | h | h | h | h | h | h | h | h <;> exact ⟨_, h, by omega, by omega⟩
  intro y hy
  obtain ⟨t, rfl, t1, t2⟩ : ∃ t : Int, y = .int t ∧ 1 ≤ t ∧ t ≤ 100 := by
    simp only [List.mem_cons, List.not_mem_nil, or_false] at hy
    rcases hy with h | h | h <;> exact ⟨_, h, by omega, by omega⟩
  have b1 : 0 ≤ t * u := Int.mul_nonneg (by omega) (by omega)
  have b2 : t * u ≤ 100 * u := Int.mul_le_mul_of_nonneg_right t2 (by omega)
  have e2 : 2 * t * u = 2 * (t * u) := Int.mul_assoc ..
  simp only [dRet, dRetN, dSeq, dPar, dPar3, dCons, dNil, dCaB, dVar, dC, dCmpT, dCmp, dU, dB, dAndV, dOrV, dNotV, dAnd, dOr, dNot, dIf, dTup, dLst, dChain, dChainT, dTest, dIsi, dAsg, dDrop, dIfS, gN, gT, gs0, gs1, dAug, dNext, dRaise, dCall, dYes, topE, List.getElem?_cons_succ, List.getElem?_cons_zero, List.set_cons_zero, List.set_cons_succ, Option.some.injEq, S.val.injEq, exists_eq_left', exists_eq_left, exists_and_left, and_assoc, List.cons.injEq, and_true, true_and, PyData.int.injEq, PyData.bool.injEq, PyData.tuple.injEq, PyData.list.injEq, absD_i, maxD_i, addD_i, subD_i, negD_i, iaddD_i, mulD_e, fdivD_e, ifdivD_e, modD_e, leD_i, ltD_i, gtD_i, geD_i, lenD_t, lenD_l, isNd_n, notNd_n, isBd_b, notBd_b, isNonD_i, isNonD_n, isNonD_t, isNonD_l, eqD_int, neD_int, eqD_bool, neD_bool, eqD_fr, neD_fr, ix_fr0, ix_fr1, kit_int, kit_bool, kit_str, kit_tuple, decide_eq_true_eq, Bool.not_eq_true', decide_eq_false_iff_not, line_nil, line1, line2, if_true, if_false, c__law_draw_e, c__law_low_e]
  rw [e2]
  refine ⟨mulOk_l (by decide) (by decide), mulOk_r (by omega) (by omega), by omega, by omega, fun z z0 z1 => ⟨mulOk_r (by omega) (by omega), by omega, by omega, ?_⟩⟩
  exact hq _ _ (low_frac u1 u2 (by omega) (by omega))
theorem c__law_fraction_e (q : Res → Prop) : c__law_fraction [] q ↔ ∀ p n : Int, isFracB (fr p n) = true → q (.ok (fr p n)) := ⟨fun h => h.2, fun h => ⟨rfl, h⟩⟩
abbrev s_less : Stmt := topS 18
theorem sc_less : FnScope ["one", "other"] ["one", "other"] (defScope s_less) := ⟨rfl, rfl, rfl, by decide +kernel, rfl, by decide +kernel, by decide +kernel⟩
def c_less : Ct := fun ds q => ∃ a b c d : Int, ds = [fr a b, fr c d] ∧ b < 2 ^ 62 ∧ d < 2 ^ 62 ∧ 0 < b ∧ 0 < d ∧ q (.ok (.bool (decide (a * d < c * b))))
theorem ok_less (F : Fun K "less" "less" s_less f fd)  : FnOk P w K mg base (L2.CX P w) 1 f fd ["one", "other"] (spD K ca c_less 2) := by
  refine fn_ok F sc_less rfl (fun cdv A outer s H E hr tk po hu hu5 => ?_)
  refine ⟨_, _, pdb_one (pds_ret (pd_cmp op_lt cm_lt (pd_op op_mul od_mul (pd_ix (r := rIx K) ix_seq od_ix (pd_var (pv 0)) pd_int (fun _ _ => rfl)) (pd_ix (r := rIx K) ix_seq od_ix (pd_var (pv 1)) pd_int (fun _ _ => rfl))) (PD.pv (pd_op op_mul od_mul (pd_ix (r := rIx K) ix_seq od_ix (pd_var (pv 1)) pd_int (fun _ _ => rfl)) (pd_ix (r := rIx K) ix_seq od_ix (pd_var (pv 0)) pd_int (fun _ _ => rfl)))) (nomark _))), ?_⟩
  clear hr tk po hu hu5
  intro ds q hl hc
  obtain ⟨a, b, c, d, rfl, hb, hd, hb0, hd0, hq⟩ := hc
  rw [show start0 (["one", "other"] : List Str) [fr a b, fr c d] = [some (.val (fr a b)), some (.val (fr c d))] from rfl]
  simp only [dRet, dRetN, dSeq, dPar, dPar3, dCons, dNil, dCaB, dVar, dC, dCmpT, dCmp, dU, dB, dAndV, dOrV, dNotV, dAnd, dOr, dNot, dIf, dTup, dLst, dChain, dChainT, dTest, dIsi, dAsg, dDrop, dIfS, gN, gT, gs0, gs1, dAug, dNext, dRaise, dCall, dYes, topE, List.getElem?_cons_succ, List.getElem?_cons_zero, List.set_cons_zero, List.set_cons_succ, Option.some.injEq, S.val.injEq, exists_eq_left', exists_eq_left, exists_and_left, and_assoc, List.cons.injEq, and_true, true_and, PyData.int.injEq, PyData.bool.injEq, PyData.tuple.injEq, PyData.list.injEq, absD_i, maxD_i, addD_i, subD_i, negD_i, iaddD_i, mulD_e, fdivD_e, ifdivD_e, modD_e, leD_i, ltD_i, gtD_i, geD_i, lenD_t, lenD_l, isNd_n, notNd_n, isBd_b, notBd_b, isNonD_i, isNonD_n, isNonD_t, isNonD_l, eqD_int, neD_int, eqD_bool, neD_bool, eqD_fr, neD_fr, ix_fr0, ix_fr1, kit_int, kit_bool, kit_str, kit_tuple, decide_eq_true_eq, Bool.not_eq_true', decide_eq_false_iff_not, line_nil, line1, line2, if_true, if_false]
  exact ⟨mulOk_r (by omega) (by omega), mulOk_r (by omega) (by omega), hq⟩
theorem c_less_e (a b c d : Int) (q : Res → Prop) : c_less [fr a b, fr c d] q ↔ b < 2 ^ 62 ∧ d < 2 ^ 62 ∧ 0 < b ∧ 0 < d ∧ q (.ok (.bool (decide (a * d < c * b)))) :=
  ⟨fun ⟨_, _, _, _, e, h⟩ => by cases e; exact h, fun h => ⟨_, _, _, _, rfl, h⟩⟩
abbrev s_common : Stmt := topS 11
theorem sc_common : FnScope ["one", "other"] ["one", "other"] (defScope s_common) := ⟨rfl, rfl, rfl, by decide +kernel, rfl, by decide +kernel, by decide +kernel⟩
def c_common : Ct := fun ds q => ∃ a b : Int, ds = [.int a, .int b] ∧ q (.ok (.int (gcdI a b)))
theorem ok_common (F : Fun K "common" "common" s_common f fd) (m_abs : mg "abs" = none) : FnOk P w K mg base (L2.CX P w) 1 f fd ["one", "other"] (spD K ca c_common 2) := by
  refine fn_ok F sc_common rfl (fun cdv A outer s H E hr tk po hu hu5 => ?_)
  refine ⟨_, _, pdb_cons (pds_par (pda_cons (pd_callB call_abs cd_abs (by rfl) m_abs boot_abs (pda_cons (pd_var (pv 0)) pda_nil)) (pda_cons (pd_callB call_abs cd_abs (by rfl) m_abs boot_abs (pda_cons (pd_var (pv 1)) pda_nil)) pda_nil)) (fun h => ps_par (i := 0) (j := 1) rfl sc_common.nd rfl rfl (by decide) rfl rfl h (by rfl)))
      (pdb_cons (pds_while po (pdt_cmp (r := rNeD K) (op_neD hu) cm_ne (pd_var (pv 1)) (PD.pv pd_int) (nomark _)) (pdb_one (pds_par (pda_cons (pd_var (pv 1)) (pda_cons (pd_op op_mod od_mod (pd_var (pv 0)) (pd_var (pv 1))) pda_nil)) (fun h => ps_par (i := 0) (j := 1) rfl sc_common.nd rfl rfl (by decide) rfl rfl h (by rfl)))))
      (pdb_one (pds_ret (pd_var (pv 0))))), ?_⟩
  clear hr tk po hu hu5
  intro ds q hl hc
  obtain ⟨a, b, rfl, hq⟩ := hc
  rw [show start0 (["one", "other"] : List Str) [.int a, .int b] = [some (.val (.int a)), some (.val (.int b))] from rfl]
  simp only [dRet, dRetN, dSeq, dPar, dPar3, dCons, dNil, dCaB, dVar, dC, dCmpT, dCmp, dU, dB, dAndV, dOrV, dNotV, dAnd, dOr, dNot, dIf, dTup, dLst, dChain, dChainT, dTest, dIsi, dAsg, dDrop, dIfS, gN, gT, gs0, gs1, dAug, dNext, dRaise, dCall, dYes, topE, List.getElem?_cons_succ, List.getElem?_cons_zero, List.set_cons_zero, List.set_cons_succ, Option.some.injEq, S.val.injEq, exists_eq_left', exists_eq_left, exists_and_left, and_assoc, List.cons.injEq, and_true, true_and, PyData.int.injEq, PyData.bool.injEq, PyData.tuple.injEq, PyData.list.injEq, absD_i, maxD_i, addD_i, subD_i, negD_i, iaddD_i, mulD_e, fdivD_e, ifdivD_e, modD_e, leD_i, ltD_i, gtD_i, geD_i, lenD_t, lenD_l, isNd_n, notNd_n, isBd_b, notBd_b, isNonD_i, isNonD_n, isNonD_t, isNonD_l, eqD_int, neD_int, eqD_bool, neD_bool, eqD_fr, neD_fr, ix_fr0, ix_fr1, kit_int, kit_bool, kit_str, kit_tuple, decide_eq_true_eq, Bool.not_eq_true', decide_eq_false_iff_not, line_nil, line1, line2, if_true, if_false]

  refine whW_inv (fun n l => ∃ x y : Nat, l = [some (.val (.int x)), some (.val (.int y))] ∧ n = y ∧ Nat.gcd x y = Int.gcd a b) (fun n l k h hk => ?_) b.natAbs _ ⟨a.natAbs, b.natAbs, rfl, rfl, rfl⟩
  obtain ⟨x, y, rfl, rfl, hg⟩ := h
  simp only [dRet, dRetN, dSeq, dPar, dPar3, dCons, dNil, dCaB, dVar, dC, dCmpT, dCmp, dU, dB, dAndV, dOrV, dNotV, dAnd, dOr, dNot, dIf, dTup, dLst, dChain, dChainT, dTest, dIsi, dAsg, dDrop, dIfS, gN, gT, gs0, gs1, dAug, dNext, dRaise, dCall, dYes, topE, List.getElem?_cons_succ, List.getElem?_cons_zero, List.set_cons_zero, List.set_cons_succ, Option.some.injEq, S.val.injEq, exists_eq_left', exists_eq_left, exists_and_left, and_assoc, List.cons.injEq, and_true, true_and, PyData.int.injEq, PyData.bool.injEq, PyData.tuple.injEq, PyData.list.injEq, absD_i, maxD_i, addD_i, subD_i, negD_i, iaddD_i, mulD_e, fdivD_e, ifdivD_e, modD_e, leD_i, ltD_i, gtD_i, geD_i, lenD_t, lenD_l, isNd_n, notNd_n, isBd_b, notBd_b, isNonD_i, isNonD_n, isNonD_t, isNonD_l, eqD_int, neD_int, eqD_bool, neD_bool, eqD_fr, neD_fr, ix_fr0, ix_fr1, kit_int, kit_bool, kit_str, kit_tuple, decide_eq_true_eq, Bool.not_eq_true', decide_eq_false_iff_not, line_nil, line1, line2, if_true, if_false]
  by_cases hy : n = 0
  · subst hy
    have e : x = Int.gcd a b := by simpa using hg
    subst e
    rw [if_neg (by simp)]
    exact hq
  · rw [if_pos (by omega)]
    refine ⟨by omega, hk _ (x % n) (Nat.mod_lt _ (by omega)) ⟨n, x % n, rfl, rfl, ?_⟩⟩
    rw [← hg, Nat.gcd_comm n, ← Nat.gcd_rec, Nat.gcd_comm]
theorem c_common_e (a b : Int) (q : Res → Prop) : c_common [.int a, .int b] q ↔ q (.ok (.int (gcdI a b))) :=
  ⟨fun ⟨_, _, e, h⟩ => by cases e; exact h, fun h => ⟨_, _, rfl, h⟩⟩
abbrev s_is_any : Stmt := topS 19
theorem sc_is_any : FnScope ["value", "part"] ["value"] (defScope s_is_any) := ⟨rfl, rfl, rfl, by decide +kernel, rfl, by decide +kernel, by decide +kernel⟩
def c_is_any : Ct := fun ds q => ∃ v, ds = [v] ∧ q (.ok (.bool (anyB v)))
theorem ok_is_any (F : Fun K "is_any" "is_any" s_is_any f fd) (F_common : Fd P w K mg base ca "common" c_common 2 1) (m_all : mg "all" = none) (m_bool : mg "bool" = none) (m_int : mg "int" = none) (m_isinstance : mg "isinstance" = none) (m_len : mg "len" = none) (m_tuple : mg "tuple" = none) : FnOk P w K mg base (L2.CX P w) 2 f fd ["value"] (spD K ca c_is_any 1) := by
  refine fn_ok F sc_is_any rfl (fun cdv A outer s H E hr tk po hu hu5 => ?_)
  refine ⟨_, _, pdb_cons (pds_if (PDW.pt (pdw_or (pdt_not (pdt_val (pd_isi (K := K) (pd_var (pv 0)) rfl m_isinstance (pe_bltn (v := .ty "tuple") rfl m_tuple boot_tuple rfl)))) (pdw_or1 (pdt_cmp (r := rNeD K) (op_neD hu) cm_ne (pd_callB (r := rLenA K) call_lenA cd_len (by rfl) m_len boot_len (pda_cons (pd_var (pv 0)) pda_nil)) (PD.pv pd_int) (nomark _))))) (pdb_one (pds_ret pd_bl)) (pdb_nil))
      (pdb_cons (pds_if (pdt_not (pdt_val (pd_callB (cr_all rfl) cd_all (by rfl) m_all boot_all (pda_cons (pd_lc (own := [("part", 1)]) rfl sc_is_any.nd (pdi_tup (K := K) (pd_var (pv 0))) (blkOk_by (N := ["value", "part"]) (sc := defScope s_is_any) (by decide +kernel)) (fun _ _ _ _ _ => pg_name (i := 1) sc_is_any.nd rfl (.inl rfl)) (gsv_name (by decide)) (fun _ _ _ _ _ => pdts_nil) (fun _ _ _ _ _ => (pd_and (pd_isi (K := K) (pd_var (pv 1)) rfl m_isinstance (pe_bltn (v := .ty "int") rfl m_int boot_int rfl)) (pd_one (pd_not (pd_isi (K := K) (pd_var (pv 1)) rfl m_isinstance (pe_bltn (v := .ty "bool") rfl m_bool boot_bool rfl))))))) pda_nil)))) (pdb_one (pds_ret pd_bl)) (pdb_nil))
      (pdb_one (pds_ret (pd_and (pd_cmp op_gt cm_gt (pd_ix (r := rIx K) ix_seq od_ix (pd_var (pv 0)) pd_int (fun _ _ => rfl)) (PD.pv pd_int) (nomark _)) (pd_one (pd_cmp (r := rEqD K) (op_eqD hu) cm_eq (pd_fn F_common (hr.mono (by decide)) (by rfl) tk (pda_cons (pd_ix (r := rIx K) ix_seq od_ix (pd_var (pv 0)) pd_int (fun _ _ => rfl)) (pda_cons (pd_ix (r := rIx K) ix_seq od_ix (pd_var (pv 0)) pd_int (fun _ _ => rfl)) pda_nil))) (PD.pv pd_int) (nomark _))))))), ?_⟩
  clear hr tk po hu hu5
  intro ds q hl hc
  obtain ⟨v, rfl, hq⟩ := hc
  rw [show start0 (["value", "part"] : List Str) [v] = [some (.val (v)), none] from rfl]
  cases v with
  | tuple xs =>
    match xs with
    | [] => rw [anyB_no (by intro p n z; simp at z)] at hq; simp only [dRet, dRetN, dSeq, dPar, dPar3, dCons, dNil, dCaB, dVar, dC, dCmpT, dCmp, dU, dB, dAndV, dOrV, dNotV, dAnd, dOr, dNot, dIf, dTup, dLst, dChain, dChainT, dTest, dIsi, dAsg, dDrop, dIfS, gN, gT, gs0, gs1, dAug, dNext, dRaise, dCall, dYes, topE, List.getElem?_cons_succ, List.getElem?_cons_zero, List.set_cons_zero, List.set_cons_succ, Option.some.injEq, S.val.injEq, exists_eq_left', exists_eq_left, exists_and_left, and_assoc, List.cons.injEq, and_true, true_and, PyData.int.injEq, PyData.bool.injEq, PyData.tuple.injEq, PyData.list.injEq, absD_i, maxD_i, addD_i, subD_i, negD_i, iaddD_i, mulD_e, fdivD_e, ifdivD_e, modD_e, leD_i, ltD_i, gtD_i, geD_i, lenD_t, lenD_l, isNd_n, notNd_n, isBd_b, notBd_b, isNonD_i, isNonD_n, isNonD_t, isNonD_l, eqD_int, neD_int, eqD_bool, neD_bool, eqD_fr, neD_fr, ix_fr0, ix_fr1, kit_int, kit_bool, kit_str, kit_tuple, decide_eq_true_eq, Bool.not_eq_true', decide_eq_false_iff_not, line_nil, line1, line2, if_true, if_false, yTup, Bool.true_eq_false, if_false]; simpa using hq
    | [x] => rw [anyB_no (by intro p n z; simp at z)] at hq; simp only [dRet, dRetN, dSeq, dPar, dPar3, dCons, dNil, dCaB, dVar, dC, dCmpT, dCmp, dU, dB, dAndV, dOrV, dNotV, dAnd, dOr, dNot, dIf, dTup, dLst, dChain, dChainT, dTest, dIsi, dAsg, dDrop, dIfS, gN, gT, gs0, gs1, dAug, dNext, dRaise, dCall, dYes, topE, List.getElem?_cons_succ, List.getElem?_cons_zero, List.set_cons_zero, List.set_cons_succ, Option.some.injEq, S.val.injEq, exists_eq_left', exists_eq_left, exists_and_left, and_assoc, List.cons.injEq, and_true, true_and, PyData.int.injEq, PyData.bool.injEq, PyData.tuple.injEq, PyData.list.injEq, absD_i, maxD_i, addD_i, subD_i, negD_i, iaddD_i, mulD_e, fdivD_e, ifdivD_e, modD_e, leD_i, ltD_i, gtD_i, geD_i, lenD_t, lenD_l, isNd_n, notNd_n, isBd_b, notBd_b, isNonD_i, isNonD_n, isNonD_t, isNonD_l, eqD_int, neD_int, eqD_bool, neD_bool, eqD_fr, neD_fr, ix_fr0, ix_fr1, kit_int, kit_bool, kit_str, kit_tuple, decide_eq_true_eq, Bool.not_eq_true', decide_eq_false_iff_not, line_nil, line1, line2, if_true, if_false, yTup, Bool.true_eq_false, if_false]; simpa using hq
    | x :: y :: z :: r =>
      simp only [dRet, dRetN, dSeq, dPar, dPar3, dCons, dNil, dCaB, dVar, dC, dCmpT, dCmp, dU, dB, dAndV, dOrV, dNotV, dAnd, dOr, dNot, dIf, dTup, dLst, dChain, dChainT, dTest, dIsi, dAsg, dDrop, dIfS, gN, gT, gs0, gs1, dAug, dNext, dRaise, dCall, dYes, topE, List.getElem?_cons_succ, List.getElem?_cons_zero, List.set_cons_zero, List.set_cons_succ, Option.some.injEq, S.val.injEq, exists_eq_left', exists_eq_left, exists_and_left, and_assoc, List.cons.injEq, and_true, true_and, PyData.int.injEq, PyData.bool.injEq, PyData.tuple.injEq, PyData.list.injEq, absD_i, maxD_i, addD_i, subD_i, negD_i, iaddD_i, mulD_e, fdivD_e, ifdivD_e, modD_e, leD_i, ltD_i, gtD_i, geD_i, lenD_t, lenD_l, isNd_n, notNd_n, isBd_b, notBd_b, isNonD_i, isNonD_n, isNonD_t, isNonD_l, eqD_int, neD_int, eqD_bool, neD_bool, eqD_fr, neD_fr, ix_fr0, ix_fr1, kit_int, kit_bool, kit_str, kit_tuple, decide_eq_true_eq, Bool.not_eq_true', decide_eq_false_iff_not, line_nil, line1, line2, if_true, if_false, yTup, Bool.true_eq_false, if_false]
      rw [if_pos (by simp only [List.length_cons]; omega)]
      rw [anyB_no (by intro p n z; simp at z)] at hq
      exact hq
    | [x, y] =>
      simp only [dRet, dRetN, dSeq, dPar, dPar3, dCons, dNil, dCaB, dVar, dC, dCmpT, dCmp, dU, dB, dAndV, dOrV, dNotV, dAnd, dOr, dNot, dIf, dTup, dLst, dChain, dChainT, dTest, dIsi, dAsg, dDrop, dIfS, gN, gT, gs0, gs1, dAug, dNext, dRaise, dCall, dYes, topE, List.getElem?_cons_succ, List.getElem?_cons_zero, List.set_cons_zero, List.set_cons_succ, Option.some.injEq, S.val.injEq, exists_eq_left', exists_eq_left, exists_and_left, and_assoc, List.cons.injEq, and_true, true_and, PyData.int.injEq, PyData.bool.injEq, PyData.tuple.injEq, PyData.list.injEq, absD_i, maxD_i, addD_i, subD_i, negD_i, iaddD_i, mulD_e, fdivD_e, ifdivD_e, modD_e, leD_i, ltD_i, gtD_i, geD_i, lenD_t, lenD_l, isNd_n, notNd_n, isBd_b, notBd_b, isNonD_i, isNonD_n, isNonD_t, isNonD_l, eqD_int, neD_int, eqD_bool, neD_bool, eqD_fr, neD_fr, ix_fr0, ix_fr1, kit_int, kit_bool, kit_str, kit_tuple, decide_eq_true_eq, Bool.not_eq_true', decide_eq_false_iff_not, line_nil, line1, line2, if_true, if_false, yTup, Bool.true_eq_false, if_false]
      rw [if_neg (by simp)]
      simp only [dRet, dRetN, dSeq, dPar, dPar3, dCons, dNil, dCaB, dVar, dC, dCmpT, dCmp, dU, dB, dAndV, dOrV, dNotV, dAnd, dOr, dNot, dIf, dTup, dLst, dChain, dChainT, dTest, dIsi, dAsg, dDrop, dIfS, gN, gT, gs0, gs1, dAug, dNext, dRaise, dCall, dYes, topE, List.getElem?_cons_succ, List.getElem?_cons_zero, List.set_cons_zero, List.set_cons_succ, Option.some.injEq, S.val.injEq, exists_eq_left', exists_eq_left, exists_and_left, and_assoc, List.cons.injEq, and_true, true_and, PyData.int.injEq, PyData.bool.injEq, PyData.tuple.injEq, PyData.list.injEq, absD_i, maxD_i, addD_i, subD_i, negD_i, iaddD_i, mulD_e, fdivD_e, ifdivD_e, modD_e, leD_i, ltD_i, gtD_i, geD_i, lenD_t, lenD_l, isNd_n, notNd_n, isBd_b, notBd_b, isNonD_i, isNonD_n, isNonD_t, isNonD_l, eqD_int, neD_int, eqD_bool, neD_bool, eqD_fr, neD_fr, ix_fr0, ix_fr1, kit_int, kit_bool, kit_str, kit_tuple, decide_eq_true_eq, Bool.not_eq_true', decide_eq_false_iff_not, line_nil, line1, line2, if_true, if_false, dLc, dItT]
      rw [show ([x, y] : List PyData) = [x, y].map id from rfl]
      refine lcW_of id (fun _ => true) (fun v => .bool (yInt v && !yBool v)) _ _ _ (fun v hv K1 K0 g1 g0 => ?_) (by rw [sizeLine_eq]; exact (by decide : 0 + 2 < 16777216)) ?_
      · have g := g1 rfl
        simp only [dRet, dRetN, dSeq, dPar, dPar3, dCons, dNil, dCaB, dVar, dC, dCmpT, dCmp, dU, dB, dAndV, dOrV, dNotV, dAnd, dOr, dNot, dIf, dTup, dLst, dChain, dChainT, dTest, dIsi, dAsg, dDrop, dIfS, gN, gT, gs0, gs1, dAug, dNext, dRaise, dCall, dYes, topE, List.getElem?_cons_succ, List.getElem?_cons_zero, List.set_cons_zero, List.set_cons_succ, Option.some.injEq, S.val.injEq, exists_eq_left', exists_eq_left, exists_and_left, and_assoc, List.cons.injEq, and_true, true_and, PyData.int.injEq, PyData.bool.injEq, PyData.tuple.injEq, PyData.list.injEq, absD_i, maxD_i, addD_i, subD_i, negD_i, iaddD_i, mulD_e, fdivD_e, ifdivD_e, modD_e, leD_i, ltD_i, gtD_i, geD_i, lenD_t, lenD_l, isNd_n, notNd_n, isBd_b, notBd_b, isNonD_i, isNonD_n, isNonD_t, isNonD_l, eqD_int, neD_int, eqD_bool, neD_bool, eqD_fr, neD_fr, ix_fr0, ix_fr1, kit_int, kit_bool, kit_str, kit_tuple, decide_eq_true_eq, Bool.not_eq_true', decide_eq_false_iff_not, line_nil, line1, line2, if_true, if_false, blkL, unOwn, wipeL, List.map_cons, List.map_nil, dYes, id]
        cases h : yInt v with
        | true => rw [h, Bool.true_and] at g; simpa using g
        | false => rw [h, Bool.false_and] at g; simpa using g
      · refine ⟨_, rfl, ?_⟩
        have py : ∀ v : PyData, (∃ i, v = .int i) ∨ ((yInt v && !yBool v) = false ∧ ∀ i, v ≠ .int i) := fun v => by
          cases v <;> simp [yInt, yBool]
        refine ⟨(yInt x && !yBool x) && ((yInt y && !yBool y) && true), rfl, ?_⟩
        rcases py x with ⟨p, rfl⟩ | ⟨hx, hx2⟩
        · rcases py y with ⟨n, rfl⟩ | ⟨hy, hy2⟩
          · rw [if_neg (by simp [yInt, yBool])]
            rw [show List.map id [PyData.int p, PyData.int n] = [.int p, .int n] from rfl]
            simp only [dRet, dRetN, dSeq, dPar, dPar3, dCons, dNil, dCaB, dVar, dC, dCmpT, dCmp, dU, dB, dAndV, dOrV, dNotV, dAnd, dOr, dNot, dIf, dTup, dLst, dChain, dChainT, dTest, dIsi, dAsg, dDrop, dIfS, gN, gT, gs0, gs1, dAug, dNext, dRaise, dCall, dYes, topE, List.getElem?_cons_succ, List.getElem?_cons_zero, List.set_cons_zero, List.set_cons_succ, Option.some.injEq, S.val.injEq, exists_eq_left', exists_eq_left, exists_and_left, and_assoc, List.cons.injEq, and_true, true_and, PyData.int.injEq, PyData.bool.injEq, PyData.tuple.injEq, PyData.list.injEq, absD_i, maxD_i, addD_i, subD_i, negD_i, iaddD_i, mulD_e, fdivD_e, ifdivD_e, modD_e, leD_i, ltD_i, gtD_i, geD_i, lenD_t, lenD_l, isNd_n, notNd_n, isBd_b, notBd_b, isNonD_i, isNonD_n, isNonD_t, isNonD_l, eqD_int, neD_int, eqD_bool, neD_bool, eqD_fr, neD_fr, ix_fr0, ix_fr1, kit_int, kit_bool, kit_str, kit_tuple, decide_eq_true_eq, Bool.not_eq_true', decide_eq_false_iff_not, line_nil, line1, line2, if_true, if_false, c_common_e]
            have e3 : anyB (.tuple [.int p, .int n]) = decide (0 < n ∧ Int.gcd p n = 1) := rfl
            rw [e3] at hq
            by_cases h : 0 < n
            · rw [if_pos h]
              have e4 : decide (0 < n ∧ Int.gcd p n = 1) = decide (gcdI p n = 1) := decide_eq_decide.mpr (by unfold gcdI; omega)
              rw [e4] at hq
              exact hq
            · rw [if_neg h]
              rw [decide_eq_false (fun z => h z.1)] at hq
              exact hq
          · rw [anyB_no (by intro p n z; simp at z; exact hy2 _ z.2)] at hq
            rw [if_pos (by rw [hy]; simp)]
            exact hq
        · rw [anyB_no (by intro p n z; simp at z; exact hx2 _ z.1)] at hq
          rw [if_pos (by rw [hx]; rfl)]
          exact hq
  | _ => rw [anyB_no (by intro p n z; simp at z)] at hq; simp only [dRet, dRetN, dSeq, dPar, dPar3, dCons, dNil, dCaB, dVar, dC, dCmpT, dCmp, dU, dB, dAndV, dOrV, dNotV, dAnd, dOr, dNot, dIf, dTup, dLst, dChain, dChainT, dTest, dIsi, dAsg, dDrop, dIfS, gN, gT, gs0, gs1, dAug, dNext, dRaise, dCall, dYes, topE, List.getElem?_cons_succ, List.getElem?_cons_zero, List.set_cons_zero, List.set_cons_succ, Option.some.injEq, S.val.injEq, exists_eq_left', exists_eq_left, exists_and_left, and_assoc, List.cons.injEq, and_true, true_and, PyData.int.injEq, PyData.bool.injEq, PyData.tuple.injEq, PyData.list.injEq, absD_i, maxD_i, addD_i, subD_i, negD_i, iaddD_i, mulD_e, fdivD_e, ifdivD_e, modD_e, leD_i, ltD_i, gtD_i, geD_i, lenD_t, lenD_l, isNd_n, notNd_n, isBd_b, notBd_b, isNonD_i, isNonD_n, isNonD_t, isNonD_l, eqD_int, neD_int, eqD_bool, neD_bool, eqD_fr, neD_fr, ix_fr0, ix_fr1, kit_int, kit_bool, kit_str, kit_tuple, decide_eq_true_eq, Bool.not_eq_true', decide_eq_false_iff_not, line_nil, line1, line2, if_true, if_false, yTup, if_true]; simpa using hq
theorem c_is_any_e (v : PyData) (q : Res → Prop) : c_is_any [v] q ↔ q (.ok (.bool (anyB v))) :=
  ⟨fun ⟨_, e, h⟩ => by cases e; exact h, fun h => ⟨_, rfl, h⟩⟩
abbrev s_is_span : Stmt := topS 20
theorem sc_is_span : FnScope ["value"] ["value"] (defScope s_is_span) := ⟨rfl, rfl, rfl, by decide +kernel, rfl, by decide +kernel, by decide +kernel⟩
def c_is_span : Ct := fun ds q => ∃ v, ds = [v] ∧ smV v ∧ q (.ok (.bool (spanB v)))
theorem ok_is_span (F : Fun K "is_span" "is_span" s_is_span f fd) (F_less : Fd P w K mg base ca "less" c_less 2 1) (F_is_any : Fd P w K mg base ca "is_any" c_is_any 1 2) (m_bool : mg "bool" = none) (m_isinstance : mg "isinstance" = none) (m_len : mg "len" = none) (m_tuple : mg "tuple" = none) : FnOk P w K mg base (L2.CX P w) 3 f fd ["value"] (spD K ca c_is_span 1) := by
  refine fn_ok F sc_is_span rfl (fun cdv A outer s H E hr tk po hu hu5 => ?_)
  refine ⟨_, _, pdb_cons (pds_if (PDW.pt (pdw_or (pdt_not (pdt_val (pd_isi (K := K) (pd_var (pv 0)) rfl m_isinstance (pe_bltn (v := .ty "tuple") rfl m_tuple boot_tuple rfl)))) (pdw_or (pdt_cmp (r := rNeD K) (op_neD hu) cm_ne (pd_callB (r := rLenA K) call_lenA cd_len (by rfl) m_len boot_len (pda_cons (pd_var (pv 0)) pda_nil)) (PD.pv pd_int) (nomark _)) (pdw_or (pdt_not (pdt_val (pd_fn F_is_any (hr.mono (by decide)) (by rfl) tk (pda_cons (pd_ix (r := rIx K) ix_seq od_ix (pd_var (pv 0)) pd_int (fun _ _ => rfl)) pda_nil)))) (pdw_or1 (pdt_not (pdt_val (pd_fn F_is_any (hr.mono (by decide)) (by rfl) tk (pda_cons (pd_ix (r := rIx K) ix_seq od_ix (pd_var (pv 0)) pd_int (fun _ _ => rfl)) pda_nil))))))))) (pdb_one (pds_ret pd_bl)) (pdb_nil))
      (pdb_cons (pds_if (PDW.pt (pdw_or (pdt_not (pdt_val (pd_isi (K := K) (pd_ix (r := rIx K) ix_seq od_ix (pd_var (pv 0)) pd_int (fun _ _ => rfl)) rfl m_isinstance (pe_bltn (v := .ty "bool") rfl m_bool boot_bool rfl)))) (pdw_or1 (pdt_not (pdt_val (pd_isi (K := K) (pd_ix (r := rIx K) ix_seq od_ix (pd_var (pv 0)) pd_int (fun _ _ => rfl)) rfl m_isinstance (pe_bltn (v := .ty "bool") rfl m_bool boot_bool rfl))))))) (pdb_one (pds_ret pd_bl)) (pdb_nil))
      (pdb_one (pds_ret (pd_or (pd_fn F_less (hr.mono (by decide)) (by rfl) tk (pda_cons (pd_ix (r := rIx K) ix_seq od_ix (pd_var (pv 0)) pd_int (fun _ _ => rfl)) (pda_cons (pd_ix (r := rIx K) ix_seq od_ix (pd_var (pv 0)) pd_int (fun _ _ => rfl)) pda_nil))) (pd_one (pd_and (pd_cmp (r := rEqD K) (op_eqD hu) cm_eq (pd_ix (r := rIx K) ix_seq od_ix (pd_var (pv 0)) pd_int (fun _ _ => rfl)) (PD.pv (pd_ix (r := rIx K) ix_seq od_ix (pd_var (pv 0)) pd_int (fun _ _ => rfl))) (nomark _)) (pd_and (pd_ix (r := rIx K) ix_seq od_ix (pd_var (pv 0)) pd_int (fun _ _ => rfl)) (pd_one (pd_ix (r := rIx K) ix_seq od_ix (pd_var (pv 0)) pd_int (fun _ _ => rfl)))))))))), ?_⟩
  clear hr tk po hu hu5
  intro ds q hl hc
  obtain ⟨v, rfl, hs, hq⟩ := hc
  rw [show start0 (["value"] : List Str) [v] = [some (.val (v))] from rfl]
  refine seq_mk fun k hk => ?_
  have fin : ∀ v1 v3 : PyData, ∀ a b c d : Int, v = .tuple [fr a b, v1, fr c d, v3] → 0 < b → Int.gcd a b = 1 → 0 < d → Int.gcd c d = 1 → k [some (.val v)] := fun v1 v3 a b c d e b0 ga d0 gc => hk _ (by
    clear hk k
    subst e
    obtain ⟨sb, sd⟩ := hs _ _ _ _ _ _ rfl
    have ix0 : ixD (.tuple [fr a b, v1, fr c d, v3]) (.int 0) = some (fr a b) := rfl
    have ix1 : ixD (.tuple [fr a b, v1, fr c d, v3]) (.int 1) = some v1 := rfl
    have ix2 : ixD (.tuple [fr a b, v1, fr c d, v3]) (.int 2) = some (fr c d) := rfl
    have ix3 : ixD (.tuple [fr a b, v1, fr c d, v3]) (.int 3) = some v3 := rfl
    simp only [dRet, dRetN, dSeq, dPar, dPar3, dCons, dNil, dCaB, dVar, dC, dCmpT, dCmp, dU, dB, dAndV, dOrV, dNotV, dAnd, dOr, dNot, dIf, dTup, dLst, dChain, dChainT, dTest, dIsi, dAsg, dDrop, dIfS, gN, gT, gs0, gs1, dAug, dNext, dRaise, dCall, dYes, topE, List.getElem?_cons_succ, List.getElem?_cons_zero, List.set_cons_zero, List.set_cons_succ, Option.some.injEq, S.val.injEq, exists_eq_left', exists_eq_left, exists_and_left, and_assoc, List.cons.injEq, and_true, true_and, PyData.int.injEq, PyData.bool.injEq, PyData.tuple.injEq, PyData.list.injEq, absD_i, maxD_i, addD_i, subD_i, negD_i, iaddD_i, mulD_e, fdivD_e, ifdivD_e, modD_e, leD_i, ltD_i, gtD_i, geD_i, lenD_t, lenD_l, isNd_n, notNd_n, isBd_b, notBd_b, isNonD_i, isNonD_n, isNonD_t, isNonD_l, eqD_int, neD_int, eqD_bool, neD_bool, eqD_fr, neD_fr, ix_fr0, ix_fr1, kit_int, kit_bool, kit_str, kit_tuple, decide_eq_true_eq, Bool.not_eq_true', decide_eq_false_iff_not, line_nil, line1, line2, if_true, if_false, ix0, ix1, ix2, ix3, c_less_e]
    have py : ∀ v : PyData, (∃ i, v = .bool i) ∨ (yBool v = false ∧ ∀ i, v ≠ .bool i) := fun v => by
      cases v <;> simp [yBool]
    have no : (∀ i j : Bool, v1 = .bool i → v3 = .bool j → False) → spanB (.tuple [fr a b, v1, fr c d, v3]) = false := fun h => by
      cases z : spanB (.tuple [fr a b, v1, fr c d, v3]) with
      | false => rfl
      | true =>
        obtain ⟨_, _, _, _, _, _, e, _⟩ := spanB_inv z
        simp [spanT] at e
        exact (h _ _ e.2.1 e.2.2.2).elim
    rcases py v1 with ⟨i, rfl⟩ | ⟨h1, h1'⟩
    · rcases py v3 with ⟨j, rfl⟩ | ⟨h3, h3'⟩
      · rw [if_neg (by simp [yBool]), if_neg (by simp [yBool])]
        simp only [dRet, dRetN, dSeq, dPar, dPar3, dCons, dNil, dCaB, dVar, dC, dCmpT, dCmp, dU, dB, dAndV, dOrV, dNotV, dAnd, dOr, dNot, dIf, dTup, dLst, dChain, dChainT, dTest, dIsi, dAsg, dDrop, dIfS, gN, gT, gs0, gs1, dAug, dNext, dRaise, dCall, dYes, topE, List.getElem?_cons_succ, List.getElem?_cons_zero, List.set_cons_zero, List.set_cons_succ, Option.some.injEq, S.val.injEq, exists_eq_left', exists_eq_left, exists_and_left, and_assoc, List.cons.injEq, and_true, true_and, PyData.int.injEq, PyData.bool.injEq, PyData.tuple.injEq, PyData.list.injEq, absD_i, maxD_i, addD_i, subD_i, negD_i, iaddD_i, mulD_e, fdivD_e, ifdivD_e, modD_e, leD_i, ltD_i, gtD_i, geD_i, lenD_t, lenD_l, isNd_n, notNd_n, isBd_b, notBd_b, isNonD_i, isNonD_n, isNonD_t, isNonD_l, eqD_int, neD_int, eqD_bool, neD_bool, eqD_fr, neD_fr, ix_fr0, ix_fr1, kit_int, kit_bool, kit_str, kit_tuple, decide_eq_true_eq, Bool.not_eq_true', decide_eq_false_iff_not, line_nil, line1, line2, if_true, if_false, ix0, ix1, ix2, ix3, c_less_e]
        refine ⟨by omega, by omega, by omega, by omega, ?_⟩
        have e := spanB_e a b i c d j
        rw [show spanT a b i c d j = .tuple [fr a b, .bool i, fr c d, .bool j] from rfl] at e
        rw [e] at hq
        by_cases h : a * d < c * b
        · rw [if_pos h]
          rw [decide_eq_true ⟨⟨by omega, ga⟩, ⟨by omega, gc⟩, .inl h⟩] at hq
          exact hq
        · rw [if_neg h]
          by_cases h2 : a = c ∧ b = d
          · rw [if_pos h2]
            cases i with
            | true =>
              have e4 : decide ((0 < b ∧ Int.gcd a b = 1) ∧ (0 < d ∧ Int.gcd c d = 1) ∧ (a * d < c * b ∨ ((a = c ∧ b = d) ∧ true = true ∧ j = true))) = j := by
                cases j with
                | true => exact decide_eq_true ⟨⟨by omega, ga⟩, ⟨by omega, gc⟩, .inr ⟨h2, rfl, rfl⟩⟩
                | false => exact decide_eq_false (fun z => by rcases z.2.2 with z | z; exact h z; exact Bool.false_ne_true z.2.2)
              rw [e4] at hq
              simpa using hq
            | false =>
              rw [decide_eq_false (fun z => by rcases z.2.2 with z | z; exact h z; exact Bool.false_ne_true z.2.1)] at hq
              simpa using hq
          · rw [if_neg h2]
            rw [decide_eq_false (fun z => by rcases z.2.2 with z | z; exact h z; exact h2 z.1)] at hq
            exact hq
      · rw [no (fun i j _ z => h3' _ z)] at hq
        rw [if_neg (by simp [yBool]), if_pos h3]
        exact hq
    · rw [no (fun i j z _ => h1' _ z)] at hq
      rw [if_pos h1]
      exact hq)
  clear hk
  have no : (∀ (a b c d : Int) (v1 v3 : PyData), v = .tuple [fr a b, v1, fr c d, v3] → 0 < b → Int.gcd a b = 1 → 0 < d → Int.gcd c d = 1 → False) → spanB v = false := fun h => by
    cases z : spanB v with
    | false => rfl
    | true =>
      obtain ⟨_, _, _, _, _, _, e, x1, x2, _⟩ := spanB_inv z
      exact (h _ _ _ _ _ _ e x1.1 x1.2 x2.1 x2.2).elim
  cases v with
  | tuple xs =>
    by_cases hl : xs.length = 4
    · match xs, hl with
      | [x0, x1, x2, x3], _ =>
        have ix0 : ixD (.tuple [x0, x1, x2, x3]) (.int 0) = some x0 := rfl
        have ix2 : ixD (.tuple [x0, x1, x2, x3]) (.int 2) = some x2 := rfl
        simp only [dRet, dRetN, dSeq, dPar, dPar3, dCons, dNil, dCaB, dVar, dC, dCmpT, dCmp, dU, dB, dAndV, dOrV, dNotV, dAnd, dOr, dNot, dIf, dTup, dLst, dChain, dChainT, dTest, dIsi, dAsg, dDrop, dIfS, gN, gT, gs0, gs1, dAug, dNext, dRaise, dCall, dYes, topE, List.getElem?_cons_succ, List.getElem?_cons_zero, List.set_cons_zero, List.set_cons_succ, Option.some.injEq, S.val.injEq, exists_eq_left', exists_eq_left, exists_and_left, and_assoc, List.cons.injEq, and_true, true_and, PyData.int.injEq, PyData.bool.injEq, PyData.tuple.injEq, PyData.list.injEq, absD_i, maxD_i, addD_i, subD_i, negD_i, iaddD_i, mulD_e, fdivD_e, ifdivD_e, modD_e, leD_i, ltD_i, gtD_i, geD_i, lenD_t, lenD_l, isNd_n, notNd_n, isBd_b, notBd_b, isNonD_i, isNonD_n, isNonD_t, isNonD_l, eqD_int, neD_int, eqD_bool, neD_bool, eqD_fr, neD_fr, ix_fr0, ix_fr1, kit_int, kit_bool, kit_str, kit_tuple, decide_eq_true_eq, Bool.not_eq_true', decide_eq_false_iff_not, line_nil, line1, line2, if_true, if_false, yTup, Bool.true_eq_false, if_false, ix0, ix2, c_is_any_e]
        rw [if_neg (by simp)]
        cases h0 : anyB x0 with
        | false =>
          rw [no (fun a b c d v1 v3 e g1 g2 g3 g4 => by
            simp at e
            rw [e.1] at h0
            rw [show anyB (fr a b) = decide (0 < b ∧ Int.gcd a b = 1) from rfl, decide_eq_true ⟨g1, g2⟩] at h0
            cases h0)] at hq
          simpa using hq
        | true =>
          cases h2 : anyB x2 with
          | false =>
            rw [no (fun a b c d v1 v3 e g1 g2 g3 g4 => by
              simp at e
              rw [e.2.2.1] at h2
              rw [show anyB (fr c d) = decide (0 < d ∧ Int.gcd c d = 1) from rfl, decide_eq_true ⟨g3, g4⟩] at h2
              cases h2)] at hq
            simpa using hq
          | true =>
            obtain ⟨a, b, rfl, g1, g2⟩ := anyB_inv h0
            obtain ⟨c, d, rfl, g3, g4⟩ := anyB_inv h2
            have := fin x1 x3 a b c d rfl g1 g2 g3 g4
            simpa using this
    · rw [no (fun a b c d v1 v3 e _ _ _ _ => hl (by simp at e; rw [e]; rfl))] at hq
      simp only [dRet, dRetN, dSeq, dPar, dPar3, dCons, dNil, dCaB, dVar, dC, dCmpT, dCmp, dU, dB, dAndV, dOrV, dNotV, dAnd, dOr, dNot, dIf, dTup, dLst, dChain, dChainT, dTest, dIsi, dAsg, dDrop, dIfS, gN, gT, gs0, gs1, dAug, dNext, dRaise, dCall, dYes, topE, List.getElem?_cons_succ, List.getElem?_cons_zero, List.set_cons_zero, List.set_cons_succ, Option.some.injEq, S.val.injEq, exists_eq_left', exists_eq_left, exists_and_left, and_assoc, List.cons.injEq, and_true, true_and, PyData.int.injEq, PyData.bool.injEq, PyData.tuple.injEq, PyData.list.injEq, absD_i, maxD_i, addD_i, subD_i, negD_i, iaddD_i, mulD_e, fdivD_e, ifdivD_e, modD_e, leD_i, ltD_i, gtD_i, geD_i, lenD_t, lenD_l, isNd_n, notNd_n, isBd_b, notBd_b, isNonD_i, isNonD_n, isNonD_t, isNonD_l, eqD_int, neD_int, eqD_bool, neD_bool, eqD_fr, neD_fr, ix_fr0, ix_fr1, kit_int, kit_bool, kit_str, kit_tuple, decide_eq_true_eq, Bool.not_eq_true', decide_eq_false_iff_not, line_nil, line1, line2, if_true, if_false, yTup, Bool.true_eq_false, if_false]
      rw [if_pos (by omega)]
      exact hq
  | _ => rw [no (fun a b c d v1 v3 e _ _ _ _ => by simp at e)] at hq; simp only [dRet, dRetN, dSeq, dPar, dPar3, dCons, dNil, dCaB, dVar, dC, dCmpT, dCmp, dU, dB, dAndV, dOrV, dNotV, dAnd, dOr, dNot, dIf, dTup, dLst, dChain, dChainT, dTest, dIsi, dAsg, dDrop, dIfS, gN, gT, gs0, gs1, dAug, dNext, dRaise, dCall, dYes, topE, List.getElem?_cons_succ, List.getElem?_cons_zero, List.set_cons_zero, List.set_cons_succ, Option.some.injEq, S.val.injEq, exists_eq_left', exists_eq_left, exists_and_left, and_assoc, List.cons.injEq, and_true, true_and, PyData.int.injEq, PyData.bool.injEq, PyData.tuple.injEq, PyData.list.injEq, absD_i, maxD_i, addD_i, subD_i, negD_i, iaddD_i, mulD_e, fdivD_e, ifdivD_e, modD_e, leD_i, ltD_i, gtD_i, geD_i, lenD_t, lenD_l, isNd_n, notNd_n, isBd_b, notBd_b, isNonD_i, isNonD_n, isNonD_t, isNonD_l, eqD_int, neD_int, eqD_bool, neD_bool, eqD_fr, neD_fr, ix_fr0, ix_fr1, kit_int, kit_bool, kit_str, kit_tuple, decide_eq_true_eq, Bool.not_eq_true', decide_eq_false_iff_not, line_nil, line1, line2, if_true, if_false, yTup, if_true]; simpa using hq
theorem c_is_span_e (v : PyData) (q : Res → Prop) : c_is_span [v] q ↔ smV v ∧ q (.ok (.bool (spanB v))) :=
  ⟨fun ⟨_, e, h⟩ => by cases e; exact h, fun h => ⟨_, rfl, h⟩⟩
abbrev s_is_range : Stmt := topS 26
theorem sc_is_range : FnScope ["value"] ["value"] (defScope s_is_range) := ⟨rfl, rfl, rfl, by decide +kernel, rfl, by decide +kernel, by decide +kernel⟩
def c_is_range : Ct := fun ds q => ∃ v, ds = [v] ∧ smV v ∧ q (.ok (.bool (rangeB v)))
theorem ok_is_range (F : Fun K "is_range" "is_range" s_is_range f fd) (F_is_span : Fd P w K mg base ca "is_span" c_is_span 1 3) (F_less : Fd P w K mg base ca "less" c_less 2 1) : FnOk P w K mg base (L2.CX P w) 4 f fd ["value"] (spD K ca c_is_range 1) := by
  refine fn_ok F sc_is_range rfl (fun cdv A outer s H E hr tk po hu hu5 => ?_)
  refine ⟨_, _, pdb_one (pds_ret (pd_and (pd_fn F_is_span (hr.mono (by decide)) (by rfl) tk (pda_cons (pd_var (pv 0)) pda_nil)) (pd_and (pd_not (pd_fn F_less (hr.mono (by decide)) (by rfl) tk (pda_cons (pd_ix (r := rIx K) ix_seq od_ix (pd_var (pv 0)) pd_int (fun _ _ => rfl)) (pda_cons (pd_tup (pda_cons (pd_un un_neg ud_neg pd_int) (pda_cons pd_int pda_nil))) pda_nil)))) (pd_one (pd_not (pd_fn F_less (hr.mono (by decide)) (by rfl) tk (pda_cons (pd_tup (pda_cons pd_int (pda_cons pd_int pda_nil))) (pda_cons (pd_ix (r := rIx K) ix_seq od_ix (pd_var (pv 0)) pd_int (fun _ _ => rfl)) pda_nil)))))))), ?_⟩
  clear hr tk po hu hu5
  intro ds q hl hc
  obtain ⟨v, rfl, hs, hq⟩ := hc
  rw [show start0 (["value"] : List Str) [v] = [some (.val (v))] from rfl]
  simp only [dRet, dRetN, dSeq, dPar, dPar3, dCons, dNil, dCaB, dVar, dC, dCmpT, dCmp, dU, dB, dAndV, dOrV, dNotV, dAnd, dOr, dNot, dIf, dTup, dLst, dChain, dChainT, dTest, dIsi, dAsg, dDrop, dIfS, gN, gT, gs0, gs1, dAug, dNext, dRaise, dCall, dYes, topE, List.getElem?_cons_succ, List.getElem?_cons_zero, List.set_cons_zero, List.set_cons_succ, Option.some.injEq, S.val.injEq, exists_eq_left', exists_eq_left, exists_and_left, and_assoc, List.cons.injEq, and_true, true_and, PyData.int.injEq, PyData.bool.injEq, PyData.tuple.injEq, PyData.list.injEq, absD_i, maxD_i, addD_i, subD_i, negD_i, iaddD_i, mulD_e, fdivD_e, ifdivD_e, modD_e, leD_i, ltD_i, gtD_i, geD_i, lenD_t, lenD_l, isNd_n, notNd_n, isBd_b, notBd_b, isNonD_i, isNonD_n, isNonD_t, isNonD_l, eqD_int, neD_int, eqD_bool, neD_bool, eqD_fr, neD_fr, ix_fr0, ix_fr1, kit_int, kit_bool, kit_str, kit_tuple, decide_eq_true_eq, Bool.not_eq_true', decide_eq_false_iff_not, line_nil, line1, line2, if_true, if_false, c_is_span_e]
  refine ⟨hs, ?_⟩
  cases h : spanB v with
  | false =>
    have : rangeB v = false := by
      cases z : rangeB v with
      | false => rfl
      | true =>
        obtain ⟨_, _, _, _, _, _, e, x⟩ := rangeB_inv z
        rw [e, spanB_e, decide_eq_true ⟨x.1, x.2.1, x.2.2.1⟩] at h
        cases h
    rw [this] at hq
    simpa using hq
  | true =>
    obtain ⟨a, b, i, c, d, j, rfl, g1, g2, g3⟩ := spanB_inv h
    obtain ⟨sb, sd⟩ := hs _ _ _ _ _ _ rfl
    have ix0 : ixD (spanT a b i c d j) (.int 0) = some (fr a b) := rfl
    have ix2 : ixD (spanT a b i c d j) (.int 2) = some (fr c d) := rfl
    simp only [dRet, dRetN, dSeq, dPar, dPar3, dCons, dNil, dCaB, dVar, dC, dCmpT, dCmp, dU, dB, dAndV, dOrV, dNotV, dAnd, dOr, dNot, dIf, dTup, dLst, dChain, dChainT, dTest, dIsi, dAsg, dDrop, dIfS, gN, gT, gs0, gs1, dAug, dNext, dRaise, dCall, dYes, topE, List.getElem?_cons_succ, List.getElem?_cons_zero, List.set_cons_zero, List.set_cons_succ, Option.some.injEq, S.val.injEq, exists_eq_left', exists_eq_left, exists_and_left, and_assoc, List.cons.injEq, and_true, true_and, PyData.int.injEq, PyData.bool.injEq, PyData.tuple.injEq, PyData.list.injEq, absD_i, maxD_i, addD_i, subD_i, negD_i, iaddD_i, mulD_e, fdivD_e, ifdivD_e, modD_e, leD_i, ltD_i, gtD_i, geD_i, lenD_t, lenD_l, isNd_n, notNd_n, isBd_b, notBd_b, isNonD_i, isNonD_n, isNonD_t, isNonD_l, eqD_int, neD_int, eqD_bool, neD_bool, eqD_fr, neD_fr, ix_fr0, ix_fr1, kit_int, kit_bool, kit_str, kit_tuple, decide_eq_true_eq, Bool.not_eq_true', decide_eq_false_iff_not, line_nil, line1, line2, if_true, if_false, ix0, ix2, c_less_e]
    refine ⟨by omega, by decide, by omega, by decide, ?_⟩
    have e : rangeB (spanT a b i c d j) = (decide (-200 * b ≤ a) && decide (c ≤ 200 * d)) := by
      show (spanB (spanT a b i c d j) && _) = _
      rw [h, Bool.true_and]
    rw [e] at hq
    by_cases c1 : a * 1 < -200 * b
    · rw [if_neg (fun z => z c1)]
      rw [decide_eq_false (by omega), Bool.false_and] at hq
      exact hq
    · rw [if_pos c1]
      rw [decide_eq_true (by omega), Bool.true_and] at hq
      refine ⟨by decide, by omega, by decide, by omega, ?_⟩
      have e5 : (!decide (200 * d < c * 1)) = decide (c ≤ 200 * d) := by
        by_cases z : 200 * d < c * 1
        · rw [decide_eq_true z, decide_eq_false (by omega)]; rfl
        · rw [decide_eq_false z, decide_eq_true (by omega)]; rfl
      rw [e5]
      exact hq
theorem c_is_range_e (v : PyData) (q : Res → Prop) : c_is_range [v] q ↔ smV v ∧ q (.ok (.bool (rangeB v))) :=
  ⟨fun ⟨_, e, h⟩ => by cases e; exact h, fun h => ⟨_, rfl, h⟩⟩
abbrev s_check_range : Stmt := topS 27
theorem sc_check_range : FnScope ["value"] ["value"] (defScope s_check_range) := ⟨rfl, rfl, rfl, by decide +kernel, rfl, by decide +kernel, by decide +kernel⟩
def c_check_range : Ct := fun ds q => ∃ v, ds = [v] ∧ smV v ∧ q (if rangeB v = true then .ok .none else .er .rng)
theorem ok_check_range (F : Fun K "check_range" "check_range" s_check_range f fd) (F_is_range : Fd P w K mg base ca "is_range" c_is_range 1 4) (X_rng : Xf K mg "BadRange" (ca .rng)) : FnOk P w K mg base (L2.CX P w) 5 f fd ["value"] (spD K ca c_check_range 1) := by
  refine fn_ok F sc_check_range rfl (fun cdv A outer s H E hr tk po hu hu5 => ?_)
  refine ⟨_, _, pdb_one (pds_if (pdt_not (pdt_val (pd_fn F_is_range (hr.mono (by decide)) (by rfl) tk (pda_cons (pd_var (pv 0)) pda_nil)))) (pdb_one (pds_raise (er := .rng) X_rng rfl tk rfl)) (pdb_nil)), ?_⟩
  clear hr tk po hu hu5
  intro ds q hl hc
  obtain ⟨v, rfl, hs, hq⟩ := hc
  rw [show start0 (["value"] : List Str) [v] = [some (.val (v))] from rfl]
  simp only [dRet, dRetN, dSeq, dPar, dPar3, dCons, dNil, dCaB, dVar, dC, dCmpT, dCmp, dU, dB, dAndV, dOrV, dNotV, dAnd, dOr, dNot, dIf, dTup, dLst, dChain, dChainT, dTest, dIsi, dAsg, dDrop, dIfS, gN, gT, gs0, gs1, dAug, dNext, dRaise, dCall, dYes, topE, List.getElem?_cons_succ, List.getElem?_cons_zero, List.set_cons_zero, List.set_cons_succ, Option.some.injEq, S.val.injEq, exists_eq_left', exists_eq_left, exists_and_left, and_assoc, List.cons.injEq, and_true, true_and, PyData.int.injEq, PyData.bool.injEq, PyData.tuple.injEq, PyData.list.injEq, absD_i, maxD_i, addD_i, subD_i, negD_i, iaddD_i, mulD_e, fdivD_e, ifdivD_e, modD_e, leD_i, ltD_i, gtD_i, geD_i, lenD_t, lenD_l, isNd_n, notNd_n, isBd_b, notBd_b, isNonD_i, isNonD_n, isNonD_t, isNonD_l, eqD_int, neD_int, eqD_bool, neD_bool, eqD_fr, neD_fr, ix_fr0, ix_fr1, kit_int, kit_bool, kit_str, kit_tuple, decide_eq_true_eq, Bool.not_eq_true', decide_eq_false_iff_not, line_nil, line1, line2, if_true, if_false, c_is_range_e]
  refine ⟨hs, ?_⟩
  cases h : rangeB v with
  | true => rw [h, if_pos rfl] at hq; simpa using hq
  | false => rw [h, if_neg Bool.false_ne_true] at hq; simpa using hq
theorem c_check_range_e (v : PyData) (q : Res → Prop) : c_check_range [v] q ↔ smV v ∧ q (if rangeB v = true then .ok .none else .er .rng) :=
  ⟨fun ⟨_, e, h⟩ => by cases e; exact h, fun h => ⟨_, rfl, h⟩⟩
abbrev s_Reader___init__ : Stmt := inClass (topS 37) 0
theorem sc_Reader___init__ : FnScope ["self", "span"] ["self", "span"] (defScope s_Reader___init__) := ⟨rfl, rfl, rfl, by decide +kernel, rfl, by decide +kernel, by decide +kernel⟩
theorem ok_Reader___init__ (F : Fun K "__init__" "Reader.__init__" s_Reader___init__ f fd) {C_R : Addr} (RT : RTx K C_R) (F_check_range : Fd P w K mg base ca "check_range" c_check_range 1 5) : FnOk P w K mg base (L2.CX P w) 6 f fd ["self", "span"] (spI K C_R rgS) := by
  refine F.okX sc_Reader___init__ (fun vs H Q E h => ?_) (fun cdv A outer s H vs Q E hr h => ?_)
  · obtain ⟨p, dx, v, Hf, s, rfl, _⟩ := h
    rfl
  · obtain ⟨p, dx, v, Hf, s', rfl, sm, ⟨fp, fdx, ne⟩, hp, hdx, dv, ok, hQ⟩ := h
    obtain ⟨f', fd', ps', g1, g2, g3, g4⟩ := F_check_range
    have tk : Takes (fnX P w K mg base ["self", "span"] "Reader.__init__" s_Reader___init__ f cdv A outer s H E) (fnW E) := takes_of rfl rfl rfl rfl
    refine ⟨_, pss_cons (ps_expr (pe_callS (E := WE (fnW E)) g1 (hr.mono (by decide)) (by rfl) g2 g3 g4 (fun σ => passAt tk σ) (pa_cons (pv 1) pa_nil)))
      (pss_cons (ps_fld (pv 0) (pv 1) rfl) (pss_one (ps_fld (pv 0) (pe_lst pa_nil) rfl))), ?_⟩
    refine ⟨v, rfl, Hf, [s'], fun r => r = .ok .none, rfl, sm, .cons dv .nil, ?_, fun d v' H1 Hf1 q F1 dv' => ?_, fun e H1 Hf1 q F1 => ?_⟩
    · rw [c_check_range_e]
      refine ⟨ok.2, ?_⟩
      rw [if_pos ok.1]
    · have hp1 : H1 p = some (.ins C_R dx []) := F1.keep p _ (fun z => nomatch z) hp
      have hdx1 : H1 dx = some (.own p) := F1.keep dx _ (fun z => nomatch z) hdx
      refine ⟨v, rfl, .ref p, rfl, p, C_R, dx, [], rfl, hp1, RT.cl, RT.nN, (by show 0 < 1000; decide), ?_⟩
      refine ⟨Nat.zero_le _, fun l hl => ?_⟩
      have nlp : l ≠ p := fun z => by rw [z, upd_same] at hl; cases hl
      have hl1 : H1 l = none := by rw [upd_ne nlp] at hl; exact hl
      have nld : l ≠ dx := fun z => by rw [z, hdx1] at hl1; cases hl1
      have hl0 : H l = none := by
        cases e : H l with
        | none => rfl
        | some o =>
          obtain ⟨o', e'⟩ := F1.there l o e
          rw [hl1] at e'
          cases e'
      refine ⟨.ref p, rfl, p, C_R, dx, _, rfl, (by rw [upd_ne nlp.symm]; exact upd_same), RT.cl, RT.nP, (by show 1 < 1000; decide), ?_⟩
      rw [put_two]
      have fp1 : Hf1 p = none := by rw [F1.fz p _ hp]; exact fp
      have fl1 : Hf1 l = none := F1.sub.free hl1
      refine hQ l _ Hf1 hl0 fl1 ?_ ⟨v, [], upd_same, ?_, ?_, dv.mono (F1.sameF sm), .nil⟩
      · refine ⟨fun b o hb e => ?_, fun b o e => ?_, fun b o e => F1.fz b o e, fun b o e => ?_⟩
        · have nbp : b ≠ p := fun z => hb (by rw [z]; simp)
          have e1 := F1.keep b o (fun z => nomatch z) e
          have nbl : b ≠ l := fun z => by rw [z, hl1] at e1; cases e1
          rw [upd_ne nbp, upd_ne nbl, upd_ne nbp]
          exact e1
        · by_cases nbp : b = p
          · rw [nbp]
            exact ⟨_, upd_same⟩
          · have e1 := F1.keep b o (fun z => nomatch z) e
            have nbl : b ≠ l := fun z => by rw [z, hl1] at e1; cases e1
            exact ⟨o, by rw [upd_ne nbp, upd_ne nbl, upd_ne nbp]; exact e1⟩
        · have nbp : b ≠ p := fun z => by rw [z, fp1] at e; cases e
          have nbl : b ≠ l := fun z => by rw [z, fl1] at e; cases e
          rw [upd_ne nbp, upd_ne nbl, upd_ne nbp]
          exact F1.sub b o e
      · rw [upd_ne ne, upd_ne nld.symm, upd_ne ne]
        exact hdx1
      · rw [upd_ne nlp, upd_same]
    · cases q

abbrev s_power_of : Stmt := topS 15
theorem sc_power_of : FnScope ["digits", "found", "turn"] ["digits"] (defScope s_power_of) := ⟨rfl, rfl, rfl, by decide +kernel, rfl, by decide +kernel, by decide +kernel⟩
def c_power_of : Ct := fun ds q => ∃ d : Int, ds = [.int d] ∧ (0 ≤ d ∧ d ≤ 1000) ∧ q (.ok (.int (powT d)))
theorem ok_power_of (F : Fun K "power_of" "power_of" s_power_of f fd) (m_range : mg "range" = none) : FnOk P w K mg base (L2.CX P w) 1 f fd ["digits"] (spD K ca c_power_of 1) := by
  refine fn_ok F sc_power_of rfl (fun cdv A outer s H E hr tk po hu hu5 => ?_)
  refine ⟨_, _, pdb_cons (pds_set pd_int (fun h => ps_set (i := 1) sc_power_of.nd rfl (.inl rfl) h))
      (pdb_cons (pds_for po rfl (pdi_range1 rfl m_range (pda_cons (pd_var (pv 0)) pda_nil)) (pdg_name (pg_name (i := 2) sc_power_of.nd rfl (.inl rfl))) (pdb_one (pds_aug pd_int od_mul (fun h => ps_aug (i := 1) sc_power_of.nd rfl (.inl rfl) h iop_mul))))
      (pdb_one (pds_ret (pd_var (pv 1))))), ?_⟩
  clear hr tk po hu hu5
  intro ds q hl hc
  obtain ⟨d, rfl, hd, hq⟩ := hc
  rw [show start0 (["digits", "found", "turn"] : List Str) [.int d] = [some (.val (.int d)), none, none] from rfl]
  simp only [dRet, dRetN, dSeq, dPar, dPar3, dCons, dNil, dCaB, dVar, dC, dCmpT, dCmp, dU, dB, dAndV, dOrV, dNotV, dAnd, dOr, dNot, dIf, dTup, dLst, dChain, dChainT, dTest, dIsi, dAsg, dDrop, dIfS, gN, gT, gs0, gs1, dAug, dNext, dRaise, dCall, dYes, topE, List.getElem?_cons_succ, List.getElem?_cons_zero, List.set_cons_zero, List.set_cons_succ, Option.some.injEq, S.val.injEq, exists_eq_left', exists_eq_left, exists_and_left, and_assoc, List.cons.injEq, and_true, true_and, PyData.int.injEq, PyData.bool.injEq, PyData.tuple.injEq, PyData.list.injEq, absD_i, maxD_i, addD_i, subD_i, negD_i, iaddD_i, mulD_e, fdivD_e, ifdivD_e, modD_e, leD_i, ltD_i, gtD_i, geD_i, lenD_t, lenD_l, isNd_n, notNd_n, isBd_b, notBd_b, isNonD_i, isNonD_n, isNonD_t, isNonD_l, eqD_int, neD_int, eqD_bool, neD_bool, eqD_fr, neD_fr, ix_fr0, ix_fr1, kit_int, kit_bool, kit_str, kit_tuple, decide_eq_true_eq, Bool.not_eq_true', decide_eq_false_iff_not, line_nil, line1, line2, if_true, if_false, dFor, dRng1]
  refine ⟨by simp [small62]; omega, ?_⟩
  refine forW_rng (fun i l => ∃ t, l = [some (.val (.int d)), some (.val (.int (10 ^ i))), t]) (fun i l k hi h hk => ?_) (fun l h => ?_) _ ⟨none, rfl⟩
  · obtain ⟨t, rfl⟩ := h
    simp only [dRet, dRetN, dSeq, dPar, dPar3, dCons, dNil, dCaB, dVar, dC, dCmpT, dCmp, dU, dB, dAndV, dOrV, dNotV, dAnd, dOr, dNot, dIf, dTup, dLst, dChain, dChainT, dTest, dIsi, dAsg, dDrop, dIfS, gN, gT, gs0, gs1, dAug, dNext, dRaise, dCall, dYes, topE, List.getElem?_cons_succ, List.getElem?_cons_zero, List.set_cons_zero, List.set_cons_succ, Option.some.injEq, S.val.injEq, exists_eq_left', exists_eq_left, exists_and_left, and_assoc, List.cons.injEq, and_true, true_and, PyData.int.injEq, PyData.bool.injEq, PyData.tuple.injEq, PyData.list.injEq, absD_i, maxD_i, addD_i, subD_i, negD_i, iaddD_i, mulD_e, fdivD_e, ifdivD_e, modD_e, leD_i, ltD_i, gtD_i, geD_i, lenD_t, lenD_l, isNd_n, notNd_n, isBd_b, notBd_b, isNonD_i, isNonD_n, isNonD_t, isNonD_l, eqD_int, neD_int, eqD_bool, neD_bool, eqD_fr, neD_fr, ix_fr0, ix_fr1, kit_int, kit_bool, kit_str, kit_tuple, decide_eq_true_eq, Bool.not_eq_true', decide_eq_false_iff_not, line_nil, line1, line2, if_true, if_false]
    refine ⟨mulOk_r (by decide) (by decide), hk _ ⟨some (.val (.int (0 + i))), ?_⟩⟩
    rw [Int.pow_succ]
  · obtain ⟨t, rfl⟩ := h
    simp only [dRet, dRetN, dSeq, dPar, dPar3, dCons, dNil, dCaB, dVar, dC, dCmpT, dCmp, dU, dB, dAndV, dOrV, dNotV, dAnd, dOr, dNot, dIf, dTup, dLst, dChain, dChainT, dTest, dIsi, dAsg, dDrop, dIfS, gN, gT, gs0, gs1, dAug, dNext, dRaise, dCall, dYes, topE, List.getElem?_cons_succ, List.getElem?_cons_zero, List.set_cons_zero, List.set_cons_succ, Option.some.injEq, S.val.injEq, exists_eq_left', exists_eq_left, exists_and_left, and_assoc, List.cons.injEq, and_true, true_and, PyData.int.injEq, PyData.bool.injEq, PyData.tuple.injEq, PyData.list.injEq, absD_i, maxD_i, addD_i, subD_i, negD_i, iaddD_i, mulD_e, fdivD_e, ifdivD_e, modD_e, leD_i, ltD_i, gtD_i, geD_i, lenD_t, lenD_l, isNd_n, notNd_n, isBd_b, notBd_b, isNonD_i, isNonD_n, isNonD_t, isNonD_l, eqD_int, neD_int, eqD_bool, neD_bool, eqD_fr, neD_fr, ix_fr0, ix_fr1, kit_int, kit_bool, kit_str, kit_tuple, decide_eq_true_eq, Bool.not_eq_true', decide_eq_false_iff_not, line_nil, line1, line2, if_true, if_false]
    exact hq
theorem c_power_of_e (d : Int) (q : Res → Prop) : c_power_of [.int d] q ↔ (0 ≤ d ∧ d ≤ 1000) ∧ q (.ok (.int (powT d))) :=
  ⟨fun ⟨_, e, h⟩ => by cases e; exact h, fun h => ⟨_, rfl, h⟩⟩
abbrev s_ends_of : Stmt := topS 28
theorem sc_ends_of : FnScope ["span", "digits", "low", "low_in", "high", "high_in", "power", "first", "last"] ["span", "digits"] (defScope s_ends_of) := ⟨rfl, rfl, rfl, by decide +kernel, rfl, by decide +kernel, by decide +kernel⟩
def c_ends_of : Ct := fun ds q => ∃ (a b : Int) (i : Bool) (c d : Int) (j : Bool) (n : Int), ds = [spanT a b i c d j, .int n] ∧ (0 < b ∧ b < 2 ^ 60) ∧ (0 < d ∧ d < 2 ^ 60) ∧ (0 ≤ n ∧ n ≤ 6) ∧ q (.ok (fr (tpF a b i (powT n)) (tpL c d j (powT n))))
theorem ok_ends_of (F : Fun K "ends_of" "ends_of" s_ends_of f fd) (F_power_of : Fd P w K mg base ca "power_of" c_power_of 1 1) : FnOk P w K mg base (L2.CX P w) 2 f fd ["span", "digits"] (spD K ca c_ends_of 2) := by
  refine fn_ok F sc_ends_of rfl (fun cdv A outer s H E hr tk po hu hu5 => ?_)
  refine ⟨_, _, pdb_cons (pds_asg (pd_var (pv 0)) (pdg_tup (n := 4) rfl (pdgs_cons (pdg_name (pg_name (i := 2) sc_ends_of.nd rfl (.inl rfl))) (pdgs_cons (pdg_name (pg_name (i := 3) sc_ends_of.nd rfl (.inl rfl))) (pdgs_cons (pdg_name (pg_name (i := 4) sc_ends_of.nd rfl (.inl rfl))) (pdgs_cons (pdg_name (pg_name (i := 5) sc_ends_of.nd rfl (.inl rfl))) pdgs_nil))))))
      (pdb_cons (pds_set (pd_fn F_power_of (hr.mono (by decide)) (by rfl) tk (pda_cons (pd_var (pv 1)) pda_nil)) (fun h => ps_set (i := 6) sc_ends_of.nd rfl (.inl rfl) h))
      (pdb_cons (pds_set (pd_un un_neg ud_neg (pd_op op_fdivW od_fdiv (pd_op op_mul od_mul (pd_un un_neg ud_neg (pd_ix (r := rIx K) ix_seq od_ix (pd_var (pv 2)) pd_int (fun _ _ => rfl))) (pd_var (pv 6))) (pd_ix (r := rIx K) ix_seq od_ix (pd_var (pv 2)) pd_int (fun _ _ => rfl)))) (fun h => ps_set (i := 7) sc_ends_of.nd rfl (.inl rfl) h))
      (pdb_cons (pds_if (PDW.pt (pdw_and (pdt_cmp (r := rEqD K) (op_eqD hu) cm_eq (pd_op op_mul od_mul (pd_var (pv 7)) (pd_ix (r := rIx K) ix_seq od_ix (pd_var (pv 2)) pd_int (fun _ _ => rfl))) (PD.pv (pd_op op_mul od_mul (pd_ix (r := rIx K) ix_seq od_ix (pd_var (pv 2)) pd_int (fun _ _ => rfl)) (pd_var (pv 6)))) (nomark _)) (pdw_and1 (pdt_not (pdt_val (pd_var (pv 3))))))) (pdb_one (pds_aug pd_int od_iadd (fun h => ps_aug (i := 7) sc_ends_of.nd rfl (.inl rfl) h iop_add))) (pdb_nil))
      (pdb_cons (pds_set (pd_op op_fdivW od_fdiv (pd_op op_mul od_mul (pd_ix (r := rIx K) ix_seq od_ix (pd_var (pv 4)) pd_int (fun _ _ => rfl)) (pd_var (pv 6))) (pd_ix (r := rIx K) ix_seq od_ix (pd_var (pv 4)) pd_int (fun _ _ => rfl))) (fun h => ps_set (i := 8) sc_ends_of.nd rfl (.inl rfl) h))
      (pdb_cons (pds_if (PDW.pt (pdw_and (pdt_cmp (r := rEqD K) (op_eqD hu) cm_eq (pd_op op_mul od_mul (pd_var (pv 8)) (pd_ix (r := rIx K) ix_seq od_ix (pd_var (pv 4)) pd_int (fun _ _ => rfl))) (PD.pv (pd_op op_mul od_mul (pd_ix (r := rIx K) ix_seq od_ix (pd_var (pv 4)) pd_int (fun _ _ => rfl)) (pd_var (pv 6)))) (nomark _)) (pdw_and1 (pdt_not (pdt_val (pd_var (pv 5))))))) (pdb_one (pds_aug pd_int od_sub (fun h => ps_aug (i := 8) sc_ends_of.nd rfl (.inl rfl) h iop_sub))) (pdb_nil))
      (pdb_one (pds_ret (pd_tup (pda_cons (pd_var (pv 7)) (pda_cons (pd_var (pv 8)) pda_nil)))))))))), ?_⟩
  clear hr tk po hu hu5
  intro ds q hl hc
  obtain ⟨a, b, i, c, d, j, n, rfl, hb, hd, hn, hq⟩ := hc
  rw [show start0 (["span", "digits", "low", "low_in", "high", "high_in", "power", "first", "last"] : List Str) [spanT a b i c d j, .int n] = [some (.val (spanT a b i c d j)), some (.val (.int n)), none, none, none, none, none, none, none] from rfl]
  have hP := powT_lt hn.2

  have m1 : mulOk (-a) (powT n) = true := mulOk_r (by omega) (by omega)
  have m2 : mulOk a (powT n) = true := mulOk_r (by omega) (by omega)
  have m3 : mulOk c (powT n) = true := mulOk_r (by omega) (by omega)
  have m4 : ∀ x, mulOk x b = true := fun x => mulOk_r (by omega) (by omega)
  have m5 : ∀ x, mulOk x d = true := fun x => mulOk_r (by omega) (by omega)
  have l1 : b < 2 ^ 64 := by omega
  have l2 : d < 2 ^ 64 := by omega

  have e1 : ∀ KK : Int → Prop, KK (tpF a b i (powT n)) → (if -(-a * (powT n) / b) * b = a * (powT n) then (if i = false then KK (-(-a * (powT n) / b) + 1) else KK (-(-a * (powT n) / b))) else KK (-(-a * (powT n) / b))) := fun KK h => by
    unfold tpF at h
    by_cases c1 : -(-a * (powT n) / b) * b = a * (powT n)
    · rw [if_pos c1]
      cases i <;> simpa [c1] using h
    · rw [if_neg c1]
      rw [if_neg (fun z => c1 z.1)] at h
      exact h
  have e2 : ∀ KK : Int → Prop, KK (tpL c d j (powT n)) → (if c * (powT n) / d * d = c * (powT n) then (if j = false then KK (c * (powT n) / d - 1) else KK (c * (powT n) / d)) else KK (c * (powT n) / d)) := fun KK h => by
    unfold tpL at h
    by_cases c1 : c * (powT n) / d * d = c * (powT n)
    · rw [if_pos c1]
      cases j <;> simpa [c1] using h
    · rw [if_neg c1]
      rw [if_neg (fun z => c1 z.1)] at h
      exact h

  refine seq_mk fun k hk => ?_
  simp only [dRet, dRetN, dSeq, dPar, dPar3, dCons, dNil, dCaB, dVar, dC, dCmpT, dCmp, dU, dB, dAndV, dOrV, dNotV, dAnd, dOr, dNot, dIf, dTup, dLst, dChain, dChainT, dTest, dIsi, dAsg, dDrop, dIfS, gN, gT, gs0, gs1, dAug, dNext, dRaise, dCall, dYes, topE, List.getElem?_cons_succ, List.getElem?_cons_zero, List.set_cons_zero, List.set_cons_succ, Option.some.injEq, S.val.injEq, exists_eq_left', exists_eq_left, exists_and_left, and_assoc, List.cons.injEq, and_true, true_and, PyData.int.injEq, PyData.bool.injEq, PyData.tuple.injEq, PyData.list.injEq, absD_i, maxD_i, addD_i, subD_i, negD_i, iaddD_i, mulD_e, fdivD_e, ifdivD_e, modD_e, leD_i, ltD_i, gtD_i, geD_i, lenD_t, lenD_l, isNd_n, notNd_n, isBd_b, notBd_b, isNonD_i, isNonD_n, isNonD_t, isNonD_l, eqD_int, neD_int, eqD_bool, neD_bool, eqD_fr, neD_fr, ix_fr0, ix_fr1, kit_int, kit_bool, kit_str, kit_tuple, decide_eq_true_eq, Bool.not_eq_true', decide_eq_false_iff_not, line_nil, line1, line2, if_true, if_false, spanT, List.length_cons, List.length_nil, sizeLine_eq, Nat.reduceAdd, Nat.reduceLeDiff, Nat.zero_add]
  refine hk [some (.val (spanT a b i c d j)), some (.val (.int n)), some (.val (fr a b)), some (.val (.bool i)), some (.val (fr c d)), some (.val (.bool j)), none, none, none] ?_
  clear hk k
  refine seq_mk fun k hk => ?_
  simp only [dRet, dRetN, dSeq, dPar, dPar3, dCons, dNil, dCaB, dVar, dC, dCmpT, dCmp, dU, dB, dAndV, dOrV, dNotV, dAnd, dOr, dNot, dIf, dTup, dLst, dChain, dChainT, dTest, dIsi, dAsg, dDrop, dIfS, gN, gT, gs0, gs1, dAug, dNext, dRaise, dCall, dYes, topE, List.getElem?_cons_succ, List.getElem?_cons_zero, List.set_cons_zero, List.set_cons_succ, Option.some.injEq, S.val.injEq, exists_eq_left', exists_eq_left, exists_and_left, and_assoc, List.cons.injEq, and_true, true_and, PyData.int.injEq, PyData.bool.injEq, PyData.tuple.injEq, PyData.list.injEq, absD_i, maxD_i, addD_i, subD_i, negD_i, iaddD_i, mulD_e, fdivD_e, ifdivD_e, modD_e, leD_i, ltD_i, gtD_i, geD_i, lenD_t, lenD_l, isNd_n, notNd_n, isBd_b, notBd_b, isNonD_i, isNonD_n, isNonD_t, isNonD_l, eqD_int, neD_int, eqD_bool, neD_bool, eqD_fr, neD_fr, ix_fr0, ix_fr1, kit_int, kit_bool, kit_str, kit_tuple, decide_eq_true_eq, Bool.not_eq_true', decide_eq_false_iff_not, line_nil, line1, line2, if_true, if_false, c_power_of_e]
  refine ⟨hn.1, by omega, hk [some (.val (spanT a b i c d j)), some (.val (.int n)), some (.val (fr a b)), some (.val (.bool i)), some (.val (fr c d)), some (.val (.bool j)), some (.val (.int (powT n))), none, none] ?_⟩
  clear hk k
  refine seq_mk fun k hk => ?_
  simp only [dRet, dRetN, dSeq, dPar, dPar3, dCons, dNil, dCaB, dVar, dC, dCmpT, dCmp, dU, dB, dAndV, dOrV, dNotV, dAnd, dOr, dNot, dIf, dTup, dLst, dChain, dChainT, dTest, dIsi, dAsg, dDrop, dIfS, gN, gT, gs0, gs1, dAug, dNext, dRaise, dCall, dYes, topE, List.getElem?_cons_succ, List.getElem?_cons_zero, List.set_cons_zero, List.set_cons_succ, Option.some.injEq, S.val.injEq, exists_eq_left', exists_eq_left, exists_and_left, and_assoc, List.cons.injEq, and_true, true_and, PyData.int.injEq, PyData.bool.injEq, PyData.tuple.injEq, PyData.list.injEq, absD_i, maxD_i, addD_i, subD_i, negD_i, iaddD_i, mulD_e, fdivD_e, ifdivD_e, modD_e, leD_i, ltD_i, gtD_i, geD_i, lenD_t, lenD_l, isNd_n, notNd_n, isBd_b, notBd_b, isNonD_i, isNonD_n, isNonD_t, isNonD_l, eqD_int, neD_int, eqD_bool, neD_bool, eqD_fr, neD_fr, ix_fr0, ix_fr1, kit_int, kit_bool, kit_str, kit_tuple, decide_eq_true_eq, Bool.not_eq_true', decide_eq_false_iff_not, line_nil, line1, line2, if_true, if_false, m1, l1, hb.1]
  refine hk [some (.val (spanT a b i c d j)), some (.val (.int n)), some (.val (fr a b)), some (.val (.bool i)), some (.val (fr c d)), some (.val (.bool j)), some (.val (.int (powT n))), some (.val (.int (-(-a * (powT n) / b)))), none] ?_
  clear hk k
  refine seq_mk fun k hk => ?_
  have fin : k [some (.val (spanT a b i c d j)), some (.val (.int n)), some (.val (fr a b)), some (.val (.bool i)), some (.val (fr c d)), some (.val (.bool j)), some (.val (.int (powT n))), some (.val (.int (tpF a b i (powT n)))), none] := hk _ (by
    clear hk k
    refine seq_mk fun k hk => ?_
    simp only [dRet, dRetN, dSeq, dPar, dPar3, dCons, dNil, dCaB, dVar, dC, dCmpT, dCmp, dU, dB, dAndV, dOrV, dNotV, dAnd, dOr, dNot, dIf, dTup, dLst, dChain, dChainT, dTest, dIsi, dAsg, dDrop, dIfS, gN, gT, gs0, gs1, dAug, dNext, dRaise, dCall, dYes, topE, List.getElem?_cons_succ, List.getElem?_cons_zero, List.set_cons_zero, List.set_cons_succ, Option.some.injEq, S.val.injEq, exists_eq_left', exists_eq_left, exists_and_left, and_assoc, List.cons.injEq, and_true, true_and, PyData.int.injEq, PyData.bool.injEq, PyData.tuple.injEq, PyData.list.injEq, absD_i, maxD_i, addD_i, subD_i, negD_i, iaddD_i, mulD_e, fdivD_e, ifdivD_e, modD_e, leD_i, ltD_i, gtD_i, geD_i, lenD_t, lenD_l, isNd_n, notNd_n, isBd_b, notBd_b, isNonD_i, isNonD_n, isNonD_t, isNonD_l, eqD_int, neD_int, eqD_bool, neD_bool, eqD_fr, neD_fr, ix_fr0, ix_fr1, kit_int, kit_bool, kit_str, kit_tuple, decide_eq_true_eq, Bool.not_eq_true', decide_eq_false_iff_not, line_nil, line1, line2, if_true, if_false, m3, l2, hd.1]
    refine hk [some (.val (spanT a b i c d j)), some (.val (.int n)), some (.val (fr a b)), some (.val (.bool i)), some (.val (fr c d)), some (.val (.bool j)), some (.val (.int (powT n))), some (.val (.int (tpF a b i (powT n)))), some (.val (.int (c * (powT n) / d)))] ?_
    clear hk k
    refine seq_mk fun k hk => ?_
    have fin : k [some (.val (spanT a b i c d j)), some (.val (.int n)), some (.val (fr a b)), some (.val (.bool i)), some (.val (fr c d)), some (.val (.bool j)), some (.val (.int (powT n))), some (.val (.int (tpF a b i (powT n)))), some (.val (.int (tpL c d j (powT n))))] := hk _ (by
      clear hk k
      simp only [dRet, dRetN, dSeq, dPar, dPar3, dCons, dNil, dCaB, dVar, dC, dCmpT, dCmp, dU, dB, dAndV, dOrV, dNotV, dAnd, dOr, dNot, dIf, dTup, dLst, dChain, dChainT, dTest, dIsi, dAsg, dDrop, dIfS, gN, gT, gs0, gs1, dAug, dNext, dRaise, dCall, dYes, topE, List.getElem?_cons_succ, List.getElem?_cons_zero, List.set_cons_zero, List.set_cons_succ, Option.some.injEq, S.val.injEq, exists_eq_left', exists_eq_left, exists_and_left, and_assoc, List.cons.injEq, and_true, true_and, PyData.int.injEq, PyData.bool.injEq, PyData.tuple.injEq, PyData.list.injEq, absD_i, maxD_i, addD_i, subD_i, negD_i, iaddD_i, mulD_e, fdivD_e, ifdivD_e, modD_e, leD_i, ltD_i, gtD_i, geD_i, lenD_t, lenD_l, isNd_n, notNd_n, isBd_b, notBd_b, isNonD_i, isNonD_n, isNonD_t, isNonD_l, eqD_int, neD_int, eqD_bool, neD_bool, eqD_fr, neD_fr, ix_fr0, ix_fr1, kit_int, kit_bool, kit_str, kit_tuple, decide_eq_true_eq, Bool.not_eq_true', decide_eq_false_iff_not, line_nil, line1, line2, if_true, if_false]
      exact hq)
    simp only [dRet, dRetN, dSeq, dPar, dPar3, dCons, dNil, dCaB, dVar, dC, dCmpT, dCmp, dU, dB, dAndV, dOrV, dNotV, dAnd, dOr, dNot, dIf, dTup, dLst, dChain, dChainT, dTest, dIsi, dAsg, dDrop, dIfS, gN, gT, gs0, gs1, dAug, dNext, dRaise, dCall, dYes, topE, List.getElem?_cons_succ, List.getElem?_cons_zero, List.set_cons_zero, List.set_cons_succ, Option.some.injEq, S.val.injEq, exists_eq_left', exists_eq_left, exists_and_left, and_assoc, List.cons.injEq, and_true, true_and, PyData.int.injEq, PyData.bool.injEq, PyData.tuple.injEq, PyData.list.injEq, absD_i, maxD_i, addD_i, subD_i, negD_i, iaddD_i, mulD_e, fdivD_e, ifdivD_e, modD_e, leD_i, ltD_i, gtD_i, geD_i, lenD_t, lenD_l, isNd_n, notNd_n, isBd_b, notBd_b, isNonD_i, isNonD_n, isNonD_t, isNonD_l, eqD_int, neD_int, eqD_bool, neD_bool, eqD_fr, neD_fr, ix_fr0, ix_fr1, kit_int, kit_bool, kit_str, kit_tuple, decide_eq_true_eq, Bool.not_eq_true', decide_eq_false_iff_not, line_nil, line1, line2, if_true, if_false, m3, m5]
    exact e2 (fun x => k [some (.val (spanT a b i c d j)), some (.val (.int n)), some (.val (fr a b)), some (.val (.bool i)), some (.val (fr c d)), some (.val (.bool j)), some (.val (.int (powT n))), some (.val (.int (tpF a b i (powT n)))), some (.val (.int x))]) fin)
  simp only [dRet, dRetN, dSeq, dPar, dPar3, dCons, dNil, dCaB, dVar, dC, dCmpT, dCmp, dU, dB, dAndV, dOrV, dNotV, dAnd, dOr, dNot, dIf, dTup, dLst, dChain, dChainT, dTest, dIsi, dAsg, dDrop, dIfS, gN, gT, gs0, gs1, dAug, dNext, dRaise, dCall, dYes, topE, List.getElem?_cons_succ, List.getElem?_cons_zero, List.set_cons_zero, List.set_cons_succ, Option.some.injEq, S.val.injEq, exists_eq_left', exists_eq_left, exists_and_left, and_assoc, List.cons.injEq, and_true, true_and, PyData.int.injEq, PyData.bool.injEq, PyData.tuple.injEq, PyData.list.injEq, absD_i, maxD_i, addD_i, subD_i, negD_i, iaddD_i, mulD_e, fdivD_e, ifdivD_e, modD_e, leD_i, ltD_i, gtD_i, geD_i, lenD_t, lenD_l, isNd_n, notNd_n, isBd_b, notBd_b, isNonD_i, isNonD_n, isNonD_t, isNonD_l, eqD_int, neD_int, eqD_bool, neD_bool, eqD_fr, neD_fr, ix_fr0, ix_fr1, kit_int, kit_bool, kit_str, kit_tuple, decide_eq_true_eq, Bool.not_eq_true', decide_eq_false_iff_not, line_nil, line1, line2, if_true, if_false, m2, m4]
  exact e1 (fun x => k [some (.val (spanT a b i c d j)), some (.val (.int n)), some (.val (fr a b)), some (.val (.bool i)), some (.val (fr c d)), some (.val (.bool j)), some (.val (.int (powT n))), some (.val (.int x)), none]) fin
theorem c_ends_of_e (a b : Int) (i : Bool) (c d : Int) (j : Bool) (n : Int) (q : Res → Prop) : c_ends_of [spanT a b i c d j, .int n] q ↔ (0 < b ∧ b < 2 ^ 60) ∧ (0 < d ∧ d < 2 ^ 60) ∧ (0 ≤ n ∧ n ≤ 6) ∧ q (.ok (fr (tpF a b i (powT n)) (tpL c d j (powT n)))) :=
  ⟨fun ⟨_, _, _, _, _, _, _, e, h⟩ => by simp [spanT] at e; obtain ⟨⟨⟨rfl, rfl⟩, rfl, ⟨rfl, rfl⟩, rfl⟩, rfl⟩ := e; exact h, fun h => ⟨_, _, _, _, _, _, _, rfl, h⟩⟩
abbrev s_least_of : Stmt := topS 29
theorem sc_least_of : FnScope ["span", "digits", "first", "last"] ["span"] (defScope s_least_of) := ⟨rfl, rfl, rfl, by decide +kernel, rfl, by decide +kernel, by decide +kernel⟩
def c_least_of : Ct := fun ds q => ∃ (a b : Int) (i : Bool) (c d : Int) (j : Bool), ds = [spanT a b i c d j] ∧ (0 < b ∧ b < 2 ^ 60) ∧ (0 < d ∧ d < 2 ^ 60) ∧ q (.ok (optI (lsK a b i c d j)))
theorem ok_least_of (F : Fun K "least_of" "least_of" s_least_of f fd) (F_ends_of : Fd P w K mg base ca "ends_of" c_ends_of 2 2) (m_range : mg "range" = none) (g_MOST_DIGITS : ∃ t, mg "MOST_DIGITS" = some (.int 6 t)) : FnOk P w K mg base (L2.CX P w) 3 f fd ["span"] (spD K ca c_least_of 1) := by
  refine fn_ok F sc_least_of rfl (fun cdv A outer s H E hr tk po hu hu5 => ?_)
  refine ⟨_, _, pdb_cons (pds_for po rfl (pdi_range1 rfl m_range (pda_cons (pd_op (op_add.or (op_add_str.or op_cat)) od_add (pd_gint (by rfl) g_MOST_DIGITS) pd_int) pda_nil)) (pdg_name (pg_name (i := 1) sc_least_of.nd rfl (.inl rfl))) (pdb_cons (pds_asg (pd_fn F_ends_of (hr.mono (by decide)) (by rfl) tk (pda_cons (pd_var (pv 0)) (pda_cons (pd_var (pv 1)) pda_nil))) (pdg_tup (n := 2) rfl (pdgs_cons (pdg_name (pg_name (i := 2) sc_least_of.nd rfl (.inl rfl))) (pdgs_cons (pdg_name (pg_name (i := 3) sc_least_of.nd rfl (.inl rfl))) pdgs_nil))))
        (pdb_one (pds_if (pdt_cmp op_le cm_le (pd_var (pv 2)) (PD.pv (pd_var (pv 3))) (nomark _)) (pdb_one (pds_ret (pd_var (pv 1)))) (pdb_nil)))))
      (pdb_one (pds_ret pd_non)), ?_⟩
  clear hr tk po hu hu5
  intro ds q hl hc
  obtain ⟨a, b, i, c, d, j, rfl, hb, hd, hq⟩ := hc
  rw [show start0 (["span", "digits", "first", "last"] : List Str) [spanT a b i c d j] = [some (.val (spanT a b i c d j)), none, none, none] from rfl]
  simp only [dRet, dRetN, dSeq, dPar, dPar3, dCons, dNil, dCaB, dVar, dC, dCmpT, dCmp, dU, dB, dAndV, dOrV, dNotV, dAnd, dOr, dNot, dIf, dTup, dLst, dChain, dChainT, dTest, dIsi, dAsg, dDrop, dIfS, gN, gT, gs0, gs1, dAug, dNext, dRaise, dCall, dYes, topE, List.getElem?_cons_succ, List.getElem?_cons_zero, List.set_cons_zero, List.set_cons_succ, Option.some.injEq, S.val.injEq, exists_eq_left', exists_eq_left, exists_and_left, and_assoc, List.cons.injEq, and_true, true_and, PyData.int.injEq, PyData.bool.injEq, PyData.tuple.injEq, PyData.list.injEq, absD_i, maxD_i, addD_i, subD_i, negD_i, iaddD_i, mulD_e, fdivD_e, ifdivD_e, modD_e, leD_i, ltD_i, gtD_i, geD_i, lenD_t, lenD_l, isNd_n, notNd_n, isBd_b, notBd_b, isNonD_i, isNonD_n, isNonD_t, isNonD_l, eqD_int, neD_int, eqD_bool, neD_bool, eqD_fr, neD_fr, ix_fr0, ix_fr1, kit_int, kit_bool, kit_str, kit_tuple, decide_eq_true_eq, Bool.not_eq_true', decide_eq_false_iff_not, line_nil, line1, line2, if_true, if_false, dFor, dRng1]
  refine ⟨by decide, ?_⟩
  refine forW_rng (fun k l => ∃ t1 t2 t3, l = [some (.val (spanT a b i c d j)), t1, t2, t3] ∧ lsK a b i c d j = fstK (lsB a b i c d j) k (7 - k)) (fun k l K hi h hk => ?_) (fun l h => ?_) _ ⟨none, none, none, rfl, rfl⟩
  · obtain ⟨t1, t2, t3, rfl, hf⟩ := h
    have hi : k < 7 := hi
    have e7 : 7 - k = (7 - (k + 1)) + 1 := by omega
    rw [e7] at hf
    unfold fstK at hf
    simp only [dRet, dRetN, dSeq, dPar, dPar3, dCons, dNil, dCaB, dVar, dC, dCmpT, dCmp, dU, dB, dAndV, dOrV, dNotV, dAnd, dOr, dNot, dIf, dTup, dLst, dChain, dChainT, dTest, dIsi, dAsg, dDrop, dIfS, gN, gT, gs0, gs1, dAug, dNext, dRaise, dCall, dYes, topE, List.getElem?_cons_succ, List.getElem?_cons_zero, List.set_cons_zero, List.set_cons_succ, Option.some.injEq, S.val.injEq, exists_eq_left', exists_eq_left, exists_and_left, and_assoc, List.cons.injEq, and_true, true_and, PyData.int.injEq, PyData.bool.injEq, PyData.tuple.injEq, PyData.list.injEq, absD_i, maxD_i, addD_i, subD_i, negD_i, iaddD_i, mulD_e, fdivD_e, ifdivD_e, modD_e, leD_i, ltD_i, gtD_i, geD_i, lenD_t, lenD_l, isNd_n, notNd_n, isBd_b, notBd_b, isNonD_i, isNonD_n, isNonD_t, isNonD_l, eqD_int, neD_int, eqD_bool, neD_bool, eqD_fr, neD_fr, ix_fr0, ix_fr1, kit_int, kit_bool, kit_str, kit_tuple, decide_eq_true_eq, Bool.not_eq_true', decide_eq_false_iff_not, line_nil, line1, line2, if_true, if_false, c_ends_of_e, Int.zero_add, List.length_cons, List.length_nil, sizeLine_eq, Nat.reduceAdd, Nat.reduceLeDiff, Nat.zero_add]
    refine ⟨hb.1, hb.2, hd.1, hd.2, by omega, by omega, ?_⟩
    by_cases hc : tpF a b i (powT k) ≤ tpL c d j (powT k)
    · rw [if_pos (show lsB a b i c d j k = true from decide_eq_true hc)] at hf
      rw [if_pos hc]
      rw [hf] at hq
      exact hq
    · rw [if_neg (show ¬ lsB a b i c d j k = true from fun z => hc (of_decide_eq_true z))] at hf
      rw [if_neg hc]
      exact hk _ ⟨_, _, _, rfl, hf⟩
  · obtain ⟨t1, t2, t3, rfl, hf⟩ := h
    simp only [dRet, dRetN, dSeq, dPar, dPar3, dCons, dNil, dCaB, dVar, dC, dCmpT, dCmp, dU, dB, dAndV, dOrV, dNotV, dAnd, dOr, dNot, dIf, dTup, dLst, dChain, dChainT, dTest, dIsi, dAsg, dDrop, dIfS, gN, gT, gs0, gs1, dAug, dNext, dRaise, dCall, dYes, topE, List.getElem?_cons_succ, List.getElem?_cons_zero, List.set_cons_zero, List.set_cons_succ, Option.some.injEq, S.val.injEq, exists_eq_left', exists_eq_left, exists_and_left, and_assoc, List.cons.injEq, and_true, true_and, PyData.int.injEq, PyData.bool.injEq, PyData.tuple.injEq, PyData.list.injEq, absD_i, maxD_i, addD_i, subD_i, negD_i, iaddD_i, mulD_e, fdivD_e, ifdivD_e, modD_e, leD_i, ltD_i, gtD_i, geD_i, lenD_t, lenD_l, isNd_n, notNd_n, isBd_b, notBd_b, isNonD_i, isNonD_n, isNonD_t, isNonD_l, eqD_int, neD_int, eqD_bool, neD_bool, eqD_fr, neD_fr, ix_fr0, ix_fr1, kit_int, kit_bool, kit_str, kit_tuple, decide_eq_true_eq, Bool.not_eq_true', decide_eq_false_iff_not, line_nil, line1, line2, if_true, if_false]
    rw [hf] at hq
    exact hq
theorem c_least_of_e (a b : Int) (i : Bool) (c d : Int) (j : Bool) (q : Res → Prop) : c_least_of [spanT a b i c d j] q ↔ (0 < b ∧ b < 2 ^ 60) ∧ (0 < d ∧ d < 2 ^ 60) ∧ q (.ok (optI (lsK a b i c d j))) :=
  ⟨fun ⟨_, _, _, _, _, _, e, h⟩ => by simp [spanT] at e; obtain ⟨⟨rfl, rfl⟩, rfl, ⟨rfl, rfl⟩, rfl⟩ := e; exact h, fun h => ⟨_, _, _, _, _, _, rfl, h⟩⟩
abbrev s_Reader_shortest : Stmt := inClass (topS 37) 4
theorem sc_Reader_shortest : FnScope ["self", "digits"] ["self"] (defScope s_Reader_shortest) := ⟨rfl, rfl, rfl, by decide +kernel, rfl, by decide +kernel, by decide +kernel⟩
def c_Reader_shortest : CtR := fun now past ds q => ds = [] ∧ ∃ (a b : Int) (i : Bool) (c d : Int) (j : Bool), now = spanT a b i c d j ∧ (0 < b ∧ b < 2 ^ 60) ∧ (0 < d ∧ d < 2 ^ 60) ∧ q (.ok (match lsK a b i c d j with | none => .none | some k => fr (tpF a b i (powT k)) k)) now past
theorem ok_Reader_shortest (F : Fun K "shortest" "Reader.shortest" s_Reader_shortest f fd) {C_R : Addr} (RT : RTx K C_R) (F_least_of : Fd P w K mg base ca "least_of" c_least_of 1 3) (F_ends_of : Fd P w K mg base ca "ends_of" c_ends_of 2 2) : FnOk P w K mg base (L2.CX P w) 4 f fd ["self"] (spR K ca C_R c_Reader_shortest 0) := by
  refine fn_okR F sc_Reader_shortest rfl (fun cdv A outer s H E hr tk po hu hu5 => ?_)
  refine ⟨_, _, pdb_cons (pds_set (pd_fn F_least_of (hr.mono (by decide)) (by rfl) tk (pda_cons (pd_now RT (pv 0)) pda_nil)) (fun h => ps_set (i := 1) sc_Reader_shortest.nd rfl (.inl rfl) h))
      (pdb_one (pds_ret (pd_if (pdt_cmp op_notN cm_notN (pd_var (pv 1)) (PD.pv pd_non) (nomark _)) (pd_tup (pda_cons (pd_ix (r := rIx K) ix_seq od_ix (pd_fn F_ends_of (hr.mono (by decide)) (by rfl) tk (pda_cons (pd_now RT (pv 0)) (pda_cons (pd_var (pv 1)) pda_nil))) pd_int (fun _ _ => rfl)) (pda_cons (pd_var (pv 1)) pda_nil))) pd_non))), ?_⟩
  clear hr tk po hu hu5
  intro ds q p0 dx0 l0 now past hl hc
  obtain ⟨rfl, hc⟩ := hc
  rw [show startR ["self", "digits"] p0 dx0 l0 C_R now past [] = [some (.rdr p0 dx0 l0 C_R now past), none] from rfl]
  obtain ⟨a, b, i, c, d, j, rfl, hb, hd, hq⟩ := hc
  simp only [dRet, dRetN, dSeq, dPar, dPar3, dCons, dNil, dCaB, dVar, dC, dCmpT, dCmp, dU, dB, dAndV, dOrV, dNotV, dAnd, dOr, dNot, dIf, dTup, dLst, dChain, dChainT, dTest, dIsi, dAsg, dDrop, dIfS, gN, gT, gs0, gs1, dAug, dNext, dRaise, dCall, dYes, topE, List.getElem?_cons_succ, List.getElem?_cons_zero, List.set_cons_zero, List.set_cons_succ, Option.some.injEq, S.val.injEq, exists_eq_left', exists_eq_left, exists_and_left, and_assoc, List.cons.injEq, and_true, true_and, PyData.int.injEq, PyData.bool.injEq, PyData.tuple.injEq, PyData.list.injEq, absD_i, maxD_i, addD_i, subD_i, negD_i, iaddD_i, mulD_e, fdivD_e, ifdivD_e, modD_e, leD_i, ltD_i, gtD_i, geD_i, lenD_t, lenD_l, isNd_n, notNd_n, isBd_b, notBd_b, isNonD_i, isNonD_n, isNonD_t, isNonD_l, eqD_int, neD_int, eqD_bool, neD_bool, eqD_fr, neD_fr, ix_fr0, ix_fr1, kit_int, kit_bool, kit_str, kit_tuple, decide_eq_true_eq, Bool.not_eq_true', decide_eq_false_iff_not, line_nil, line1, line2, if_true, if_false, dNow, S.rdr.injEq, topR, c_least_of_e]
  refine ⟨hb.1, hb.2, hd.1, hd.2, ?_⟩
  cases hK : lsK a b i c d j with
  | none =>
    rw [hK] at hq
    simp only [dRet, dRetN, dSeq, dPar, dPar3, dCons, dNil, dCaB, dVar, dC, dCmpT, dCmp, dU, dB, dAndV, dOrV, dNotV, dAnd, dOr, dNot, dIf, dTup, dLst, dChain, dChainT, dTest, dIsi, dAsg, dDrop, dIfS, gN, gT, gs0, gs1, dAug, dNext, dRaise, dCall, dYes, topE, List.getElem?_cons_succ, List.getElem?_cons_zero, List.set_cons_zero, List.set_cons_succ, Option.some.injEq, S.val.injEq, exists_eq_left', exists_eq_left, exists_and_left, and_assoc, List.cons.injEq, and_true, true_and, PyData.int.injEq, PyData.bool.injEq, PyData.tuple.injEq, PyData.list.injEq, absD_i, maxD_i, addD_i, subD_i, negD_i, iaddD_i, mulD_e, fdivD_e, ifdivD_e, modD_e, leD_i, ltD_i, gtD_i, geD_i, lenD_t, lenD_l, isNd_n, notNd_n, isBd_b, notBd_b, isNonD_i, isNonD_n, isNonD_t, isNonD_l, eqD_int, neD_int, eqD_bool, neD_bool, eqD_fr, neD_fr, ix_fr0, ix_fr1, kit_int, kit_bool, kit_str, kit_tuple, decide_eq_true_eq, Bool.not_eq_true', decide_eq_false_iff_not, line_nil, line1, line2, if_true, if_false, optI, dNow, S.rdr.injEq, Bool.not_true, Bool.false_eq_true]
    exact hq
  | some k =>
    rw [hK] at hq
    obtain ⟨k1, k2, k3, k4⟩ := fstK_some _ _ hK
    simp only [dRet, dRetN, dSeq, dPar, dPar3, dCons, dNil, dCaB, dVar, dC, dCmpT, dCmp, dU, dB, dAndV, dOrV, dNotV, dAnd, dOr, dNot, dIf, dTup, dLst, dChain, dChainT, dTest, dIsi, dAsg, dDrop, dIfS, gN, gT, gs0, gs1, dAug, dNext, dRaise, dCall, dYes, topE, List.getElem?_cons_succ, List.getElem?_cons_zero, List.set_cons_zero, List.set_cons_succ, Option.some.injEq, S.val.injEq, exists_eq_left', exists_eq_left, exists_and_left, and_assoc, List.cons.injEq, and_true, true_and, PyData.int.injEq, PyData.bool.injEq, PyData.tuple.injEq, PyData.list.injEq, absD_i, maxD_i, addD_i, subD_i, negD_i, iaddD_i, mulD_e, fdivD_e, ifdivD_e, modD_e, leD_i, ltD_i, gtD_i, geD_i, lenD_t, lenD_l, isNd_n, notNd_n, isBd_b, notBd_b, isNonD_i, isNonD_n, isNonD_t, isNonD_l, eqD_int, neD_int, eqD_bool, neD_bool, eqD_fr, neD_fr, ix_fr0, ix_fr1, kit_int, kit_bool, kit_str, kit_tuple, decide_eq_true_eq, Bool.not_eq_true', decide_eq_false_iff_not, line_nil, line1, line2, if_true, if_false, optI, dNow, S.rdr.injEq, Bool.not_false, c_ends_of_e]
    exact ⟨hb.1, hb.2, hd.1, hd.2, by omega, by omega, hq⟩
theorem c_Reader_shortest_ok {a b : Int} {i : Bool} {c d : Int} {j : Bool} {past : List PyData} {q : Res → PyData → List PyData → Prop} (hb : 0 < b ∧ b < 2 ^ 60) (hd : 0 < d ∧ d < 2 ^ 60) (h : q (.ok (match lsK a b i c d j with | none => .none | some k => fr (tpF a b i (powT k)) k)) (spanT a b i c d j) past) : c_Reader_shortest (spanT a b i c d j) past [] q := ⟨rfl, _, _, _, _, _, _, rfl, hb, hd, h⟩
abbrev s_tops_in : Stmt := topS 33
theorem sc_tops_in : FnScope ["span", "under", "low", "low_in", "high", "high_in", "first", "last"] ["span", "under"] (defScope s_tops_in) := ⟨rfl, rfl, rfl, by decide +kernel, rfl, by decide +kernel, by decide +kernel⟩
def c_tops_in : Ct := fun ds q => ∃ (a b : Int) (i : Bool) (c d : Int) (j : Bool) (n : Int), ds = [spanT a b i c d j, .int n] ∧ (0 < b ∧ b < 2 ^ 60) ∧ (0 < d ∧ d < 2 ^ 60) ∧ (0 < n ∧ n < 2 ^ 60) ∧ q (.ok (fr (tpF a b i n) (tpL c d j n)))
theorem ok_tops_in (F : Fun K "tops_in" "tops_in" s_tops_in f fd)  : FnOk P w K mg base (L2.CX P w) 1 f fd ["span", "under"] (spD K ca c_tops_in 2) := by
  refine fn_ok F sc_tops_in rfl (fun cdv A outer s H E hr tk po hu hu5 => ?_)
  refine ⟨_, _, pdb_cons (pds_asg (pd_var (pv 0)) (pdg_tup (n := 4) rfl (pdgs_cons (pdg_name (pg_name (i := 2) sc_tops_in.nd rfl (.inl rfl))) (pdgs_cons (pdg_name (pg_name (i := 3) sc_tops_in.nd rfl (.inl rfl))) (pdgs_cons (pdg_name (pg_name (i := 4) sc_tops_in.nd rfl (.inl rfl))) (pdgs_cons (pdg_name (pg_name (i := 5) sc_tops_in.nd rfl (.inl rfl))) pdgs_nil))))))
      (pdb_cons (pds_set (pd_un un_neg ud_neg (pd_op op_fdivW od_fdiv (pd_op op_mul od_mul (pd_un un_neg ud_neg (pd_ix (r := rIx K) ix_seq od_ix (pd_var (pv 2)) pd_int (fun _ _ => rfl))) (pd_var (pv 1))) (pd_ix (r := rIx K) ix_seq od_ix (pd_var (pv 2)) pd_int (fun _ _ => rfl)))) (fun h => ps_set (i := 6) sc_tops_in.nd rfl (.inl rfl) h))
      (pdb_cons (pds_if (PDW.pt (pdw_and (pdt_cmp (r := rEqD K) (op_eqD hu) cm_eq (pd_op op_mul od_mul (pd_var (pv 6)) (pd_ix (r := rIx K) ix_seq od_ix (pd_var (pv 2)) pd_int (fun _ _ => rfl))) (PD.pv (pd_op op_mul od_mul (pd_ix (r := rIx K) ix_seq od_ix (pd_var (pv 2)) pd_int (fun _ _ => rfl)) (pd_var (pv 1)))) (nomark _)) (pdw_and1 (pdt_not (pdt_val (pd_var (pv 3))))))) (pdb_one (pds_aug pd_int od_iadd (fun h => ps_aug (i := 6) sc_tops_in.nd rfl (.inl rfl) h iop_add))) (pdb_nil))
      (pdb_cons (pds_set (pd_op op_fdivW od_fdiv (pd_op op_mul od_mul (pd_ix (r := rIx K) ix_seq od_ix (pd_var (pv 4)) pd_int (fun _ _ => rfl)) (pd_var (pv 1))) (pd_ix (r := rIx K) ix_seq od_ix (pd_var (pv 4)) pd_int (fun _ _ => rfl))) (fun h => ps_set (i := 7) sc_tops_in.nd rfl (.inl rfl) h))
      (pdb_cons (pds_if (PDW.pt (pdw_and (pdt_cmp (r := rEqD K) (op_eqD hu) cm_eq (pd_op op_mul od_mul (pd_var (pv 7)) (pd_ix (r := rIx K) ix_seq od_ix (pd_var (pv 4)) pd_int (fun _ _ => rfl))) (PD.pv (pd_op op_mul od_mul (pd_ix (r := rIx K) ix_seq od_ix (pd_var (pv 4)) pd_int (fun _ _ => rfl)) (pd_var (pv 1)))) (nomark _)) (pdw_and1 (pdt_not (pdt_val (pd_var (pv 5))))))) (pdb_one (pds_aug pd_int od_sub (fun h => ps_aug (i := 7) sc_tops_in.nd rfl (.inl rfl) h iop_sub))) (pdb_nil))
      (pdb_one (pds_ret (pd_tup (pda_cons (pd_var (pv 6)) (pda_cons (pd_var (pv 7)) pda_nil))))))))), ?_⟩
  clear hr tk po hu hu5
  intro ds q hl hc
  obtain ⟨a, b, i, c, d, j, n, rfl, hb, hd, hn, hq⟩ := hc
  rw [show start0 (["span", "under", "low", "low_in", "high", "high_in", "first", "last"] : List Str) [spanT a b i c d j, .int n] = [some (.val (spanT a b i c d j)), some (.val (.int n)), none, none, none, none, none, none] from rfl]

  have m1 : mulOk (-a) n = true := mulOk_r (by omega) (by omega)
  have m2 : mulOk a n = true := mulOk_r (by omega) (by omega)
  have m3 : mulOk c n = true := mulOk_r (by omega) (by omega)
  have m4 : ∀ x, mulOk x b = true := fun x => mulOk_r (by omega) (by omega)
  have m5 : ∀ x, mulOk x d = true := fun x => mulOk_r (by omega) (by omega)
  have l1 : b < 2 ^ 64 := by omega
  have l2 : d < 2 ^ 64 := by omega

  have e1 : ∀ KK : Int → Prop, KK (tpF a b i n) → (if -(-a * n / b) * b = a * n then (if i = false then KK (-(-a * n / b) + 1) else KK (-(-a * n / b))) else KK (-(-a * n / b))) := fun KK h => by
    unfold tpF at h
    by_cases c1 : -(-a * n / b) * b = a * n
    · rw [if_pos c1]
      cases i <;> simpa [c1] using h
    · rw [if_neg c1]
      rw [if_neg (fun z => c1 z.1)] at h
      exact h
  have e2 : ∀ KK : Int → Prop, KK (tpL c d j n) → (if c * n / d * d = c * n then (if j = false then KK (c * n / d - 1) else KK (c * n / d)) else KK (c * n / d)) := fun KK h => by
    unfold tpL at h
    by_cases c1 : c * n / d * d = c * n
    · rw [if_pos c1]
      cases j <;> simpa [c1] using h
    · rw [if_neg c1]
      rw [if_neg (fun z => c1 z.1)] at h
      exact h

  refine seq_mk fun k hk => ?_
  simp only [dRet, dRetN, dSeq, dPar, dPar3, dCons, dNil, dCaB, dVar, dC, dCmpT, dCmp, dU, dB, dAndV, dOrV, dNotV, dAnd, dOr, dNot, dIf, dTup, dLst, dChain, dChainT, dTest, dIsi, dAsg, dDrop, dIfS, gN, gT, gs0, gs1, dAug, dNext, dRaise, dCall, dYes, topE, List.getElem?_cons_succ, List.getElem?_cons_zero, List.set_cons_zero, List.set_cons_succ, Option.some.injEq, S.val.injEq, exists_eq_left', exists_eq_left, exists_and_left, and_assoc, List.cons.injEq, and_true, true_and, PyData.int.injEq, PyData.bool.injEq, PyData.tuple.injEq, PyData.list.injEq, absD_i, maxD_i, addD_i, subD_i, negD_i, iaddD_i, mulD_e, fdivD_e, ifdivD_e, modD_e, leD_i, ltD_i, gtD_i, geD_i, lenD_t, lenD_l, isNd_n, notNd_n, isBd_b, notBd_b, isNonD_i, isNonD_n, isNonD_t, isNonD_l, eqD_int, neD_int, eqD_bool, neD_bool, eqD_fr, neD_fr, ix_fr0, ix_fr1, kit_int, kit_bool, kit_str, kit_tuple, decide_eq_true_eq, Bool.not_eq_true', decide_eq_false_iff_not, line_nil, line1, line2, if_true, if_false, spanT, List.length_cons, List.length_nil, sizeLine_eq, Nat.reduceAdd, Nat.reduceLeDiff, Nat.zero_add]
  refine hk [some (.val (spanT a b i c d j)), some (.val (.int n)), some (.val (fr a b)), some (.val (.bool i)), some (.val (fr c d)), some (.val (.bool j)), none, none] ?_
  clear hk k

  refine seq_mk fun k hk => ?_
  simp only [dRet, dRetN, dSeq, dPar, dPar3, dCons, dNil, dCaB, dVar, dC, dCmpT, dCmp, dU, dB, dAndV, dOrV, dNotV, dAnd, dOr, dNot, dIf, dTup, dLst, dChain, dChainT, dTest, dIsi, dAsg, dDrop, dIfS, gN, gT, gs0, gs1, dAug, dNext, dRaise, dCall, dYes, topE, List.getElem?_cons_succ, List.getElem?_cons_zero, List.set_cons_zero, List.set_cons_succ, Option.some.injEq, S.val.injEq, exists_eq_left', exists_eq_left, exists_and_left, and_assoc, List.cons.injEq, and_true, true_and, PyData.int.injEq, PyData.bool.injEq, PyData.tuple.injEq, PyData.list.injEq, absD_i, maxD_i, addD_i, subD_i, negD_i, iaddD_i, mulD_e, fdivD_e, ifdivD_e, modD_e, leD_i, ltD_i, gtD_i, geD_i, lenD_t, lenD_l, isNd_n, notNd_n, isBd_b, notBd_b, isNonD_i, isNonD_n, isNonD_t, isNonD_l, eqD_int, neD_int, eqD_bool, neD_bool, eqD_fr, neD_fr, ix_fr0, ix_fr1, kit_int, kit_bool, kit_str, kit_tuple, decide_eq_true_eq, Bool.not_eq_true', decide_eq_false_iff_not, line_nil, line1, line2, if_true, if_false, m1, l1, hb.1]
  refine hk [some (.val (spanT a b i c d j)), some (.val (.int n)), some (.val (fr a b)), some (.val (.bool i)), some (.val (fr c d)), some (.val (.bool j)), some (.val (.int (-(-a * n / b)))), none] ?_
  clear hk k
  refine seq_mk fun k hk => ?_
  have fin : k [some (.val (spanT a b i c d j)), some (.val (.int n)), some (.val (fr a b)), some (.val (.bool i)), some (.val (fr c d)), some (.val (.bool j)), some (.val (.int (tpF a b i n))), none] := hk _ (by
    clear hk k
    refine seq_mk fun k hk => ?_
    simp only [dRet, dRetN, dSeq, dPar, dPar3, dCons, dNil, dCaB, dVar, dC, dCmpT, dCmp, dU, dB, dAndV, dOrV, dNotV, dAnd, dOr, dNot, dIf, dTup, dLst, dChain, dChainT, dTest, dIsi, dAsg, dDrop, dIfS, gN, gT, gs0, gs1, dAug, dNext, dRaise, dCall, dYes, topE, List.getElem?_cons_succ, List.getElem?_cons_zero, List.set_cons_zero, List.set_cons_succ, Option.some.injEq, S.val.injEq, exists_eq_left', exists_eq_left, exists_and_left, and_assoc, List.cons.injEq, and_true, true_and, PyData.int.injEq, PyData.bool.injEq, PyData.tuple.injEq, PyData.list.injEq, absD_i, maxD_i, addD_i, subD_i, negD_i, iaddD_i, mulD_e, fdivD_e, ifdivD_e, modD_e, leD_i, ltD_i, gtD_i, geD_i, lenD_t, lenD_l, isNd_n, notNd_n, isBd_b, notBd_b, isNonD_i, isNonD_n, isNonD_t, isNonD_l, eqD_int, neD_int, eqD_bool, neD_bool, eqD_fr, neD_fr, ix_fr0, ix_fr1, kit_int, kit_bool, kit_str, kit_tuple, decide_eq_true_eq, Bool.not_eq_true', decide_eq_false_iff_not, line_nil, line1, line2, if_true, if_false, m3, l2, hd.1]
    refine hk [some (.val (spanT a b i c d j)), some (.val (.int n)), some (.val (fr a b)), some (.val (.bool i)), some (.val (fr c d)), some (.val (.bool j)), some (.val (.int (tpF a b i n))), some (.val (.int (c * n / d)))] ?_
    clear hk k
    refine seq_mk fun k hk => ?_
    have fin : k [some (.val (spanT a b i c d j)), some (.val (.int n)), some (.val (fr a b)), some (.val (.bool i)), some (.val (fr c d)), some (.val (.bool j)), some (.val (.int (tpF a b i n))), some (.val (.int (tpL c d j n)))] := hk _ (by
      clear hk k
      simp only [dRet, dRetN, dSeq, dPar, dPar3, dCons, dNil, dCaB, dVar, dC, dCmpT, dCmp, dU, dB, dAndV, dOrV, dNotV, dAnd, dOr, dNot, dIf, dTup, dLst, dChain, dChainT, dTest, dIsi, dAsg, dDrop, dIfS, gN, gT, gs0, gs1, dAug, dNext, dRaise, dCall, dYes, topE, List.getElem?_cons_succ, List.getElem?_cons_zero, List.set_cons_zero, List.set_cons_succ, Option.some.injEq, S.val.injEq, exists_eq_left', exists_eq_left, exists_and_left, and_assoc, List.cons.injEq, and_true, true_and, PyData.int.injEq, PyData.bool.injEq, PyData.tuple.injEq, PyData.list.injEq, absD_i, maxD_i, addD_i, subD_i, negD_i, iaddD_i, mulD_e, fdivD_e, ifdivD_e, modD_e, leD_i, ltD_i, gtD_i, geD_i, lenD_t, lenD_l, isNd_n, notNd_n, isBd_b, notBd_b, isNonD_i, isNonD_n, isNonD_t, isNonD_l, eqD_int, neD_int, eqD_bool, neD_bool, eqD_fr, neD_fr, ix_fr0, ix_fr1, kit_int, kit_bool, kit_str, kit_tuple, decide_eq_true_eq, Bool.not_eq_true', decide_eq_false_iff_not, line_nil, line1, line2, if_true, if_false]
      exact hq)
    simp only [dRet, dRetN, dSeq, dPar, dPar3, dCons, dNil, dCaB, dVar, dC, dCmpT, dCmp, dU, dB, dAndV, dOrV, dNotV, dAnd, dOr, dNot, dIf, dTup, dLst, dChain, dChainT, dTest, dIsi, dAsg, dDrop, dIfS, gN, gT, gs0, gs1, dAug, dNext, dRaise, dCall, dYes, topE, List.getElem?_cons_succ, List.getElem?_cons_zero, List.set_cons_zero, List.set_cons_succ, Option.some.injEq, S.val.injEq, exists_eq_left', exists_eq_left, exists_and_left, and_assoc, List.cons.injEq, and_true, true_and, PyData.int.injEq, PyData.bool.injEq, PyData.tuple.injEq, PyData.list.injEq, absD_i, maxD_i, addD_i, subD_i, negD_i, iaddD_i, mulD_e, fdivD_e, ifdivD_e, modD_e, leD_i, ltD_i, gtD_i, geD_i, lenD_t, lenD_l, isNd_n, notNd_n, isBd_b, notBd_b, isNonD_i, isNonD_n, isNonD_t, isNonD_l, eqD_int, neD_int, eqD_bool, neD_bool, eqD_fr, neD_fr, ix_fr0, ix_fr1, kit_int, kit_bool, kit_str, kit_tuple, decide_eq_true_eq, Bool.not_eq_true', decide_eq_false_iff_not, line_nil, line1, line2, if_true, if_false, m3, m5]
    exact e2 (fun x => k [some (.val (spanT a b i c d j)), some (.val (.int n)), some (.val (fr a b)), some (.val (.bool i)), some (.val (fr c d)), some (.val (.bool j)), some (.val (.int (tpF a b i n))), some (.val (.int x))]) fin)
  simp only [dRet, dRetN, dSeq, dPar, dPar3, dCons, dNil, dCaB, dVar, dC, dCmpT, dCmp, dU, dB, dAndV, dOrV, dNotV, dAnd, dOr, dNot, dIf, dTup, dLst, dChain, dChainT, dTest, dIsi, dAsg, dDrop, dIfS, gN, gT, gs0, gs1, dAug, dNext, dRaise, dCall, dYes, topE, List.getElem?_cons_succ, List.getElem?_cons_zero, List.set_cons_zero, List.set_cons_succ, Option.some.injEq, S.val.injEq, exists_eq_left', exists_eq_left, exists_and_left, and_assoc, List.cons.injEq, and_true, true_and, PyData.int.injEq, PyData.bool.injEq, PyData.tuple.injEq, PyData.list.injEq, absD_i, maxD_i, addD_i, subD_i, negD_i, iaddD_i, mulD_e, fdivD_e, ifdivD_e, modD_e, leD_i, ltD_i, gtD_i, geD_i, lenD_t, lenD_l, isNd_n, notNd_n, isBd_b, notBd_b, isNonD_i, isNonD_n, isNonD_t, isNonD_l, eqD_int, neD_int, eqD_bool, neD_bool, eqD_fr, neD_fr, ix_fr0, ix_fr1, kit_int, kit_bool, kit_str, kit_tuple, decide_eq_true_eq, Bool.not_eq_true', decide_eq_false_iff_not, line_nil, line1, line2, if_true, if_false, m2, m4]
  exact e1 (fun x => k [some (.val (spanT a b i c d j)), some (.val (.int n)), some (.val (fr a b)), some (.val (.bool i)), some (.val (fr c d)), some (.val (.bool j)), some (.val (.int x)), none]) fin
theorem c_tops_in_e (a b : Int) (i : Bool) (c d : Int) (j : Bool) (n : Int) (q : Res → Prop) : c_tops_in [spanT a b i c d j, .int n] q ↔ (0 < b ∧ b < 2 ^ 60) ∧ (0 < d ∧ d < 2 ^ 60) ∧ (0 < n ∧ n < 2 ^ 60) ∧ q (.ok (fr (tpF a b i n) (tpL c d j n))) :=
  ⟨fun ⟨_, _, _, _, _, _, _, e, h⟩ => by simp [spanT] at e; obtain ⟨⟨⟨rfl, rfl⟩, rfl, ⟨rfl, rfl⟩, rfl⟩, rfl⟩ := e; exact h, fun h => ⟨_, _, _, _, _, _, _, rfl, h⟩⟩
abbrev s_simplest_of : Stmt := topS 34
theorem sc_simplest_of : FnScope ["span", "under", "first", "last"] ["span"] (defScope s_simplest_of) := ⟨rfl, rfl, rfl, by decide +kernel, rfl, by decide +kernel, by decide +kernel⟩
def c_simplest_of : Ct := fun ds q => ∃ (a b : Int) (i : Bool) (c d : Int) (j : Bool), ds = [spanT a b i c d j] ∧ (0 < b ∧ b < 2 ^ 60) ∧ (0 < d ∧ d < 2 ^ 60) ∧ q (.ok (smD a b i c d j))
theorem ok_simplest_of (F : Fun K "simplest_of" "simplest_of" s_simplest_of f fd) (F_tops_in : Fd P w K mg base ca "tops_in" c_tops_in 2 1) (m_range : mg "range" = none) (g_MOST_TRIED : ∃ t, mg "MOST_TRIED" = some (.int 1000 t)) : FnOk P w K mg base (L2.CX P w) 2 f fd ["span"] (spD K ca c_simplest_of 1) := by
  refine fn_ok F sc_simplest_of rfl (fun cdv A outer s H E hr tk po hu hu5 => ?_)
  refine ⟨_, _, pdb_cons (pds_for po rfl (pdi_range2 rfl m_range (pda_cons pd_int (pda_cons (pd_op (op_add.or (op_add_str.or op_cat)) od_add (pd_gint (by rfl) g_MOST_TRIED) pd_int) pda_nil))) (pdg_name (pg_name (i := 1) sc_simplest_of.nd rfl (.inl rfl))) (pdb_cons (pds_asg (pd_fn F_tops_in (hr.mono (by decide)) (by rfl) tk (pda_cons (pd_var (pv 0)) (pda_cons (pd_var (pv 1)) pda_nil))) (pdg_tup (n := 2) rfl (pdgs_cons (pdg_name (pg_name (i := 2) sc_simplest_of.nd rfl (.inl rfl))) (pdgs_cons (pdg_name (pg_name (i := 3) sc_simplest_of.nd rfl (.inl rfl))) pdgs_nil))))
        (pdb_one (pds_if (pdt_cmp op_le cm_le (pd_var (pv 2)) (PD.pv (pd_var (pv 3))) (nomark _)) (pdb_one (pds_ret (pd_tup (pda_cons (pd_var (pv 2)) (pda_cons (pd_var (pv 1)) pda_nil))))) (pdb_nil)))))
      (pdb_one (pds_ret pd_non)), ?_⟩
  clear hr tk po hu hu5
  intro ds q hl hc
  obtain ⟨a, b, i, c, d, j, rfl, hb, hd, hq⟩ := hc
  rw [show start0 (["span", "under", "first", "last"] : List Str) [spanT a b i c d j] = [some (.val (spanT a b i c d j)), none, none, none] from rfl]
  simp only [dRet, dRetN, dSeq, dPar, dPar3, dCons, dNil, dCaB, dVar, dC, dCmpT, dCmp, dU, dB, dAndV, dOrV, dNotV, dAnd, dOr, dNot, dIf, dTup, dLst, dChain, dChainT, dTest, dIsi, dAsg, dDrop, dIfS, gN, gT, gs0, gs1, dAug, dNext, dRaise, dCall, dYes, topE, List.getElem?_cons_succ, List.getElem?_cons_zero, List.set_cons_zero, List.set_cons_succ, Option.some.injEq, S.val.injEq, exists_eq_left', exists_eq_left, exists_and_left, and_assoc, List.cons.injEq, and_true, true_and, PyData.int.injEq, PyData.bool.injEq, PyData.tuple.injEq, PyData.list.injEq, absD_i, maxD_i, addD_i, subD_i, negD_i, iaddD_i, mulD_e, fdivD_e, ifdivD_e, modD_e, leD_i, ltD_i, gtD_i, geD_i, lenD_t, lenD_l, isNd_n, notNd_n, isBd_b, notBd_b, isNonD_i, isNonD_n, isNonD_t, isNonD_l, eqD_int, neD_int, eqD_bool, neD_bool, eqD_fr, neD_fr, ix_fr0, ix_fr1, kit_int, kit_bool, kit_str, kit_tuple, decide_eq_true_eq, Bool.not_eq_true', decide_eq_false_iff_not, line_nil, line1, line2, if_true, if_false, dFor, dRng2]
  refine ⟨by decide, by decide, ?_⟩
  refine forW_rng (fun k l => ∃ t1 t2 t3, l = [some (.val (spanT a b i c d j)), t1, t2, t3] ∧ smK a b i c d j = fstK (smB a b i c d j) (1 + k) (1000 - k)) (fun k l K hi h hk => ?_) (fun l h => ?_) _ ⟨none, none, none, rfl, rfl⟩
  · obtain ⟨t1, t2, t3, rfl, hf⟩ := h
    have hi : k < 1000 := hi
    have e7 : 1000 - k = (1000 - (k + 1)) + 1 := by omega
    rw [e7] at hf
    unfold fstK at hf
    simp only [dRet, dRetN, dSeq, dPar, dPar3, dCons, dNil, dCaB, dVar, dC, dCmpT, dCmp, dU, dB, dAndV, dOrV, dNotV, dAnd, dOr, dNot, dIf, dTup, dLst, dChain, dChainT, dTest, dIsi, dAsg, dDrop, dIfS, gN, gT, gs0, gs1, dAug, dNext, dRaise, dCall, dYes, topE, List.getElem?_cons_succ, List.getElem?_cons_zero, List.set_cons_zero, List.set_cons_succ, Option.some.injEq, S.val.injEq, exists_eq_left', exists_eq_left, exists_and_left, and_assoc, List.cons.injEq, and_true, true_and, PyData.int.injEq, PyData.bool.injEq, PyData.tuple.injEq, PyData.list.injEq, absD_i, maxD_i, addD_i, subD_i, negD_i, iaddD_i, mulD_e, fdivD_e, ifdivD_e, modD_e, leD_i, ltD_i, gtD_i, geD_i, lenD_t, lenD_l, isNd_n, notNd_n, isBd_b, notBd_b, isNonD_i, isNonD_n, isNonD_t, isNonD_l, eqD_int, neD_int, eqD_bool, neD_bool, eqD_fr, neD_fr, ix_fr0, ix_fr1, kit_int, kit_bool, kit_str, kit_tuple, decide_eq_true_eq, Bool.not_eq_true', decide_eq_false_iff_not, line_nil, line1, line2, if_true, if_false, c_tops_in_e, List.length_cons, List.length_nil, sizeLine_eq, Nat.reduceAdd, Nat.reduceLeDiff, Nat.zero_add]
    rw [show (1 + (k : Int)) = ((1 + k : Nat) : Int) by omega]
    refine ⟨hb.1, hb.2, hd.1, hd.2, by omega, by omega, ?_⟩
    by_cases hc : tpF a b i ((1 + k : Nat) : Int) ≤ tpL c d j ((1 + k : Nat) : Int)
    · rw [if_pos (show smB a b i c d j (1 + k) = true from decide_eq_true hc)] at hf
      rw [if_pos hc]
      have e : smD a b i c d j = fr (tpF a b i ((1 + k : Nat) : Int)) ((1 + k : Nat) : Int) := by
        unfold smD
        rw [hf]
      rw [e] at hq
      exact hq
    · rw [if_neg (show ¬ smB a b i c d j (1 + k) = true from fun z => hc (of_decide_eq_true z))] at hf
      rw [if_neg hc]
      exact hk _ ⟨_, _, _, rfl, hf⟩
  · obtain ⟨t1, t2, t3, rfl, hf⟩ := h
    simp only [dRet, dRetN, dSeq, dPar, dPar3, dCons, dNil, dCaB, dVar, dC, dCmpT, dCmp, dU, dB, dAndV, dOrV, dNotV, dAnd, dOr, dNot, dIf, dTup, dLst, dChain, dChainT, dTest, dIsi, dAsg, dDrop, dIfS, gN, gT, gs0, gs1, dAug, dNext, dRaise, dCall, dYes, topE, List.getElem?_cons_succ, List.getElem?_cons_zero, List.set_cons_zero, List.set_cons_succ, Option.some.injEq, S.val.injEq, exists_eq_left', exists_eq_left, exists_and_left, and_assoc, List.cons.injEq, and_true, true_and, PyData.int.injEq, PyData.bool.injEq, PyData.tuple.injEq, PyData.list.injEq, absD_i, maxD_i, addD_i, subD_i, negD_i, iaddD_i, mulD_e, fdivD_e, ifdivD_e, modD_e, leD_i, ltD_i, gtD_i, geD_i, lenD_t, lenD_l, isNd_n, notNd_n, isBd_b, notBd_b, isNonD_i, isNonD_n, isNonD_t, isNonD_l, eqD_int, neD_int, eqD_bool, neD_bool, eqD_fr, neD_fr, ix_fr0, ix_fr1, kit_int, kit_bool, kit_str, kit_tuple, decide_eq_true_eq, Bool.not_eq_true', decide_eq_false_iff_not, line_nil, line1, line2, if_true, if_false]
    have e : smD a b i c d j = .none := by
      unfold smD
      rw [hf]
      rfl
    rw [e] at hq
    exact hq
theorem c_simplest_of_e (a b : Int) (i : Bool) (c d : Int) (j : Bool) (q : Res → Prop) : c_simplest_of [spanT a b i c d j] q ↔ (0 < b ∧ b < 2 ^ 60) ∧ (0 < d ∧ d < 2 ^ 60) ∧ q (.ok (smD a b i c d j)) :=
  ⟨fun ⟨_, _, _, _, _, _, e, h⟩ => by simp [spanT] at e; obtain ⟨⟨rfl, rfl⟩, rfl, ⟨rfl, rfl⟩, rfl⟩ := e; exact h, fun h => ⟨_, _, _, _, _, _, rfl, h⟩⟩
abbrev s_lowest : Stmt := topS 17
theorem sc_lowest : FnScope ["top", "below", "divisor"] ["top", "below"] (defScope s_lowest) := ⟨rfl, rfl, rfl, by decide +kernel, rfl, by decide +kernel, by decide +kernel⟩
def c_lowest : Ct := fun ds q => ∃ a b : Int, ds = [.int a, .int b] ∧ (0 < b ∧ b < 2 ^ 64) ∧ q (.ok (lowF a b))
theorem ok_lowest (F : Fun K "lowest" "lowest" s_lowest f fd) (F_common : Fd P w K mg base ca "common" c_common 2 1) : FnOk P w K mg base (L2.CX P w) 2 f fd ["top", "below"] (spD K ca c_lowest 2) := by
  refine fn_ok F sc_lowest rfl (fun cdv A outer s H E hr tk po hu hu5 => ?_)
  refine ⟨_, _, pdb_cons (pds_set (pd_fn F_common (hr.mono (by decide)) (by rfl) tk (pda_cons (pd_var (pv 0)) (pda_cons (pd_var (pv 1)) pda_nil))) (fun h => ps_set (i := 2) sc_lowest.nd rfl (.inl rfl) h))
      (pdb_one (pds_ret (pd_tup (pda_cons (pd_op op_fdivW od_fdiv (pd_var (pv 0)) (pd_var (pv 2))) (pda_cons (pd_op op_fdivW od_fdiv (pd_var (pv 1)) (pd_var (pv 2))) pda_nil))))), ?_⟩
  clear hr tk po hu hu5
  intro ds q hl hc
  obtain ⟨a, b, rfl, hb, hq⟩ := hc
  rw [show start0 (["top", "below", "divisor"] : List Str) [.int a, .int b] = [some (.val (.int a)), some (.val (.int b)), none] from rfl]
  have h1 := gcdI_pos (a := a) hb.1
  have h2 := gcdI_le (a := a) hb.1
  simp only [dRet, dRetN, dSeq, dPar, dPar3, dCons, dNil, dCaB, dVar, dC, dCmpT, dCmp, dU, dB, dAndV, dOrV, dNotV, dAnd, dOr, dNot, dIf, dTup, dLst, dChain, dChainT, dTest, dIsi, dAsg, dDrop, dIfS, gN, gT, gs0, gs1, dAug, dNext, dRaise, dCall, dYes, topE, List.getElem?_cons_succ, List.getElem?_cons_zero, List.set_cons_zero, List.set_cons_succ, Option.some.injEq, S.val.injEq, exists_eq_left', exists_eq_left, exists_and_left, and_assoc, List.cons.injEq, and_true, true_and, PyData.int.injEq, PyData.bool.injEq, PyData.tuple.injEq, PyData.list.injEq, absD_i, maxD_i, addD_i, subD_i, negD_i, iaddD_i, mulD_e, fdivD_e, ifdivD_e, modD_e, leD_i, ltD_i, gtD_i, geD_i, lenD_t, lenD_l, isNd_n, notNd_n, isBd_b, notBd_b, isNonD_i, isNonD_n, isNonD_t, isNonD_l, eqD_int, neD_int, eqD_bool, neD_bool, eqD_fr, neD_fr, ix_fr0, ix_fr1, kit_int, kit_bool, kit_str, kit_tuple, decide_eq_true_eq, Bool.not_eq_true', decide_eq_false_iff_not, line_nil, line1, line2, if_true, if_false, c_common_e]
  exact ⟨h1, by omega, h1, by omega, hq⟩
theorem c_lowest_e (a b : Int) (q : Res → Prop) : c_lowest [.int a, .int b] q ↔ (0 < b ∧ b < 2 ^ 64) ∧ q (.ok (lowF a b)) :=
  ⟨fun ⟨_, _, e, h⟩ => by cases e; exact h, fun h => ⟨_, _, rfl, h⟩⟩
abbrev s_Reader_simplest : Stmt := inClass (topS 37) 3
theorem sc_Reader_simplest : FnScope ["self", "found"] ["self"] (defScope s_Reader_simplest) := ⟨rfl, rfl, rfl, by decide +kernel, rfl, by decide +kernel, by decide +kernel⟩
def c_Reader_simplest : CtR := fun now past ds q => ds = [] ∧ ∃ (a b : Int) (i : Bool) (c d : Int) (j : Bool), now = spanT a b i c d j ∧ (0 < b ∧ b < 2 ^ 60) ∧ (0 < d ∧ d < 2 ^ 60) ∧ q (.ok (match smK a b i c d j with | none => .none | some k => lowF (tpF a b i k) k)) now past
theorem ok_Reader_simplest (F : Fun K "simplest" "Reader.simplest" s_Reader_simplest f fd) {C_R : Addr} (RT : RTx K C_R) (F_simplest_of : Fd P w K mg base ca "simplest_of" c_simplest_of 1 2) (F_lowest : Fd P w K mg base ca "lowest" c_lowest 2 2) : FnOk P w K mg base (L2.CX P w) 3 f fd ["self"] (spR K ca C_R c_Reader_simplest 0) := by
  refine fn_okR F sc_Reader_simplest rfl (fun cdv A outer s H E hr tk po hu hu5 => ?_)
  refine ⟨_, _, pdb_cons (pds_set (pd_fn F_simplest_of (hr.mono (by decide)) (by rfl) tk (pda_cons (pd_now RT (pv 0)) pda_nil)) (fun h => ps_set (i := 1) sc_Reader_simplest.nd rfl (.inl rfl) h))
      (pdb_one (pds_ret (pd_if (pdt_cmp op_notN cm_notN (pd_var (pv 1)) (PD.pv pd_non) (nomark _)) (pd_fn F_lowest (hr.mono (by decide)) (by rfl) tk (pda_cons (pd_ix (r := rIx K) ix_seq od_ix (pd_var (pv 1)) pd_int (fun _ _ => rfl)) (pda_cons (pd_ix (r := rIx K) ix_seq od_ix (pd_var (pv 1)) pd_int (fun _ _ => rfl)) pda_nil))) pd_non))), ?_⟩
  clear hr tk po hu hu5
  intro ds q p0 dx0 l0 now past hl hc
  obtain ⟨rfl, hc⟩ := hc
  rw [show startR ["self", "found"] p0 dx0 l0 C_R now past [] = [some (.rdr p0 dx0 l0 C_R now past), none] from rfl]
  obtain ⟨a, b, i, c, d, j, rfl, hb, hd, hq⟩ := hc
  simp only [dRet, dRetN, dSeq, dPar, dPar3, dCons, dNil, dCaB, dVar, dC, dCmpT, dCmp, dU, dB, dAndV, dOrV, dNotV, dAnd, dOr, dNot, dIf, dTup, dLst, dChain, dChainT, dTest, dIsi, dAsg, dDrop, dIfS, gN, gT, gs0, gs1, dAug, dNext, dRaise, dCall, dYes, topE, List.getElem?_cons_succ, List.getElem?_cons_zero, List.set_cons_zero, List.set_cons_succ, Option.some.injEq, S.val.injEq, exists_eq_left', exists_eq_left, exists_and_left, and_assoc, List.cons.injEq, and_true, true_and, PyData.int.injEq, PyData.bool.injEq, PyData.tuple.injEq, PyData.list.injEq, absD_i, maxD_i, addD_i, subD_i, negD_i, iaddD_i, mulD_e, fdivD_e, ifdivD_e, modD_e, leD_i, ltD_i, gtD_i, geD_i, lenD_t, lenD_l, isNd_n, notNd_n, isBd_b, notBd_b, isNonD_i, isNonD_n, isNonD_t, isNonD_l, eqD_int, neD_int, eqD_bool, neD_bool, eqD_fr, neD_fr, ix_fr0, ix_fr1, kit_int, kit_bool, kit_str, kit_tuple, decide_eq_true_eq, Bool.not_eq_true', decide_eq_false_iff_not, line_nil, line1, line2, if_true, if_false, dNow, S.rdr.injEq, topR, c_simplest_of_e]
  refine ⟨hb.1, hb.2, hd.1, hd.2, ?_⟩
  unfold smD
  cases hK : smK a b i c d j with
  | none =>
    rw [hK] at hq
    simp only [dRet, dRetN, dSeq, dPar, dPar3, dCons, dNil, dCaB, dVar, dC, dCmpT, dCmp, dU, dB, dAndV, dOrV, dNotV, dAnd, dOr, dNot, dIf, dTup, dLst, dChain, dChainT, dTest, dIsi, dAsg, dDrop, dIfS, gN, gT, gs0, gs1, dAug, dNext, dRaise, dCall, dYes, topE, List.getElem?_cons_succ, List.getElem?_cons_zero, List.set_cons_zero, List.set_cons_succ, Option.some.injEq, S.val.injEq, exists_eq_left', exists_eq_left, exists_and_left, and_assoc, List.cons.injEq, and_true, true_and, PyData.int.injEq, PyData.bool.injEq, PyData.tuple.injEq, PyData.list.injEq, absD_i, maxD_i, addD_i, subD_i, negD_i, iaddD_i, mulD_e, fdivD_e, ifdivD_e, modD_e, leD_i, ltD_i, gtD_i, geD_i, lenD_t, lenD_l, isNd_n, notNd_n, isBd_b, notBd_b, isNonD_i, isNonD_n, isNonD_t, isNonD_l, eqD_int, neD_int, eqD_bool, neD_bool, eqD_fr, neD_fr, ix_fr0, ix_fr1, kit_int, kit_bool, kit_str, kit_tuple, decide_eq_true_eq, Bool.not_eq_true', decide_eq_false_iff_not, line_nil, line1, line2, if_true, if_false, dNow, S.rdr.injEq, Bool.not_true, Bool.false_eq_true]
    exact hq
  | some k =>
    rw [hK] at hq
    obtain ⟨k1, k2, k3, k4⟩ := fstK_some _ _ hK
    simp only [dRet, dRetN, dSeq, dPar, dPar3, dCons, dNil, dCaB, dVar, dC, dCmpT, dCmp, dU, dB, dAndV, dOrV, dNotV, dAnd, dOr, dNot, dIf, dTup, dLst, dChain, dChainT, dTest, dIsi, dAsg, dDrop, dIfS, gN, gT, gs0, gs1, dAug, dNext, dRaise, dCall, dYes, topE, List.getElem?_cons_succ, List.getElem?_cons_zero, List.set_cons_zero, List.set_cons_succ, Option.some.injEq, S.val.injEq, exists_eq_left', exists_eq_left, exists_and_left, and_assoc, List.cons.injEq, and_true, true_and, PyData.int.injEq, PyData.bool.injEq, PyData.tuple.injEq, PyData.list.injEq, absD_i, maxD_i, addD_i, subD_i, negD_i, iaddD_i, mulD_e, fdivD_e, ifdivD_e, modD_e, leD_i, ltD_i, gtD_i, geD_i, lenD_t, lenD_l, isNd_n, notNd_n, isBd_b, notBd_b, isNonD_i, isNonD_n, isNonD_t, isNonD_l, eqD_int, neD_int, eqD_bool, neD_bool, eqD_fr, neD_fr, ix_fr0, ix_fr1, kit_int, kit_bool, kit_str, kit_tuple, decide_eq_true_eq, Bool.not_eq_true', decide_eq_false_iff_not, line_nil, line1, line2, if_true, if_false, dNow, S.rdr.injEq, Bool.not_false, c_lowest_e]
    exact ⟨by omega, by omega, hq⟩
theorem c_Reader_simplest_ok {a b : Int} {i : Bool} {c d : Int} {j : Bool} {past : List PyData} {q : Res → PyData → List PyData → Prop} (hb : 0 < b ∧ b < 2 ^ 60) (hd : 0 < d ∧ d < 2 ^ 60) (h : q (.ok (match smK a b i c d j with | none => .none | some k => lowF (tpF a b i k) k)) (spanT a b i c d j) past) : c_Reader_simplest (spanT a b i c d j) past [] q := ⟨rfl, _, _, _, _, _, _, rfl, hb, hd, h⟩
abbrev s__law_less : Stmt := topS 48
theorem sc__law_less : FnScope ["one", "other"] ["one", "other"] (defScope s__law_less) := ⟨rfl, rfl, rfl, by decide +kernel, rfl, by decide +kernel, by decide +kernel⟩
def c__law_less : Ct := fun ds q => ∃ a b c d : Int, ds = [fr a b, fr c d] ∧ b < 2 ^ 62 ∧ d < 2 ^ 62 ∧ 0 < b ∧ 0 < d ∧ q (.ok (.bool (decide (a * d < c * b))))
theorem ok__law_less (F : Fun K "_law_less" "_law_less" s__law_less f fd)  : FnOk P w K mg base (L2.CX P w) 1 f fd ["one", "other"] (spD K ca c__law_less 2) := by
  refine fn_ok F sc__law_less rfl (fun cdv A outer s H E hr tk po hu hu5 => ?_)
  refine ⟨_, _, pdb_one (pds_ret (pd_cmp op_lt cm_lt (pd_op op_mul od_mul (pd_ix (r := rIx K) ix_seq od_ix (pd_var (pv 0)) pd_int (fun _ _ => rfl)) (pd_ix (r := rIx K) ix_seq od_ix (pd_var (pv 1)) pd_int (fun _ _ => rfl))) (PD.pv (pd_op op_mul od_mul (pd_ix (r := rIx K) ix_seq od_ix (pd_var (pv 1)) pd_int (fun _ _ => rfl)) (pd_ix (r := rIx K) ix_seq od_ix (pd_var (pv 0)) pd_int (fun _ _ => rfl)))) (nomark _))), ?_⟩
  clear hr tk po hu hu5
  intro ds q hl hc
  obtain ⟨a, b, c, d, rfl, hb, hd, hb0, hd0, hq⟩ := hc
  rw [show start0 (["one", "other"] : List Str) [fr a b, fr c d] = [some (.val (fr a b)), some (.val (fr c d))] from rfl]
  simp only [dRet, dRetN, dSeq, dPar, dPar3, dCons, dNil, dCaB, dVar, dC, dCmpT, dCmp, dU, dB, dAndV, dOrV, dNotV, dAnd, dOr, dNot, dIf, dTup, dLst, dChain, dChainT, dTest, dIsi, dAsg, dDrop, dIfS, gN, gT, gs0, gs1, dAug, dNext, dRaise, dCall, dYes, topE, List.getElem?_cons_succ, List.getElem?_cons_zero, List.set_cons_zero, List.set_cons_succ, Option.some.injEq, S.val.injEq, exists_eq_left', exists_eq_left, exists_and_left, and_assoc, List.cons.injEq, and_true, true_and, PyData.int.injEq, PyData.bool.injEq, PyData.tuple.injEq, PyData.list.injEq, absD_i, maxD_i, addD_i, subD_i, negD_i, iaddD_i, mulD_e, fdivD_e, ifdivD_e, modD_e, leD_i, ltD_i, gtD_i, geD_i, lenD_t, lenD_l, isNd_n, notNd_n, isBd_b, notBd_b, isNonD_i, isNonD_n, isNonD_t, isNonD_l, eqD_int, neD_int, eqD_bool, neD_bool, eqD_fr, neD_fr, ix_fr0, ix_fr1, kit_int, kit_bool, kit_str, kit_tuple, decide_eq_true_eq, Bool.not_eq_true', decide_eq_false_iff_not, line_nil, line1, line2, if_true, if_false]
  exact ⟨mulOk_r (by omega) (by omega), mulOk_r (by omega) (by omega), hq⟩
theorem c__law_less_e (a b c d : Int) (q : Res → Prop) : c__law_less [fr a b, fr c d] q ↔ b < 2 ^ 62 ∧ d < 2 ^ 62 ∧ 0 < b ∧ 0 < d ∧ q (.ok (.bool (decide (a * d < c * b)))) :=
  ⟨fun ⟨_, _, _, _, e, h⟩ => by cases e; exact h, fun h => ⟨_, _, _, _, rfl, h⟩⟩
abbrev s__law_within : Stmt := topS 49
theorem sc__law_within : FnScope ["span", "value"] ["span", "value"] (defScope s__law_within) := ⟨rfl, rfl, rfl, by decide +kernel, rfl, by decide +kernel, by decide +kernel⟩
def c__law_within : Ct := fun ds q => ∃ (a b : Int) (i : Bool) (c d : Int) (j : Bool) (p n : Int), ds = [spanT a b i c d j, fr p n] ∧ (0 < b ∧ b < 2 ^ 60) ∧ (0 < d ∧ d < 2 ^ 60) ∧ (0 < n ∧ n < 2 ^ 60) ∧ q (.ok (.bool (lawW a b i c d j p n)))
theorem ok__law_within (F : Fun K "_law_within" "_law_within" s__law_within f fd) (F__law_less : Fd P w K mg base ca "_law_less" c__law_less 2 1) : FnOk P w K mg base (L2.CX P w) 2 f fd ["span", "value"] (spD K ca c__law_within 2) := by
  refine fn_ok F sc__law_within rfl (fun cdv A outer s H E hr tk po hu hu5 => ?_)
  refine ⟨_, _, pdb_cons (pds_if (PDW.pt (pdw_or (pdt_cmp (r := rEqD K) (op_eqD hu) cm_eq (pd_var (pv 1)) (PD.pv (pd_ix (r := rIx K) ix_seq od_ix (pd_var (pv 0)) pd_int (fun _ _ => rfl))) (nomark _)) (pdw_or1 (pdt_cmp (r := rEqD K) (op_eqD hu) cm_eq (pd_var (pv 1)) (PD.pv (pd_ix (r := rIx K) ix_seq od_ix (pd_var (pv 0)) pd_int (fun _ _ => rfl))) (nomark _))))) (pdb_one (pds_ret (pd_and (pd_or (pd_cmp (r := rNeD K) (op_neD hu) cm_ne (pd_var (pv 1)) (PD.pv (pd_ix (r := rIx K) ix_seq od_ix (pd_var (pv 0)) pd_int (fun _ _ => rfl))) (nomark _)) (pd_one (pd_ix (r := rIx K) ix_seq od_ix (pd_var (pv 0)) pd_int (fun _ _ => rfl)))) (pd_one (pd_or (pd_cmp (r := rNeD K) (op_neD hu) cm_ne (pd_var (pv 1)) (PD.pv (pd_ix (r := rIx K) ix_seq od_ix (pd_var (pv 0)) pd_int (fun _ _ => rfl))) (nomark _)) (pd_one (pd_ix (r := rIx K) ix_seq od_ix (pd_var (pv 0)) pd_int (fun _ _ => rfl)))))))) (pdb_nil))
      (pdb_one (pds_ret (pd_and (pd_fn F__law_less (hr.mono (by decide)) (by rfl) tk (pda_cons (pd_ix (r := rIx K) ix_seq od_ix (pd_var (pv 0)) pd_int (fun _ _ => rfl)) (pda_cons (pd_var (pv 1)) pda_nil))) (pd_one (pd_fn F__law_less (hr.mono (by decide)) (by rfl) tk (pda_cons (pd_var (pv 1)) (pda_cons (pd_ix (r := rIx K) ix_seq od_ix (pd_var (pv 0)) pd_int (fun _ _ => rfl)) pda_nil))))))), ?_⟩
  clear hr tk po hu hu5
  intro ds q hl hc
  obtain ⟨a, b, i, c, d, j, p, n, rfl, hb, hd, hn, hq⟩ := hc
  rw [show start0 (["span", "value"] : List Str) [spanT a b i c d j, fr p n] = [some (.val (spanT a b i c d j)), some (.val (fr p n))] from rfl]
  have ix0 : ixD (spanT a b i c d j) (.int 0) = some (fr a b) := rfl
  have ix1 : ixD (spanT a b i c d j) (.int 1) = some (.bool i) := rfl
  have ix2 : ixD (spanT a b i c d j) (.int 2) = some (fr c d) := rfl
  have ix3 : ixD (spanT a b i c d j) (.int 3) = some (.bool j) := rfl

  simp only [dRet, dRetN, dSeq, dPar, dPar3, dCons, dNil, dCaB, dVar, dC, dCmpT, dCmp, dU, dB, dAndV, dOrV, dNotV, dAnd, dOr, dNot, dIf, dTup, dLst, dChain, dChainT, dTest, dIsi, dAsg, dDrop, dIfS, gN, gT, gs0, gs1, dAug, dNext, dRaise, dCall, dYes, topE, List.getElem?_cons_succ, List.getElem?_cons_zero, List.set_cons_zero, List.set_cons_succ, Option.some.injEq, S.val.injEq, exists_eq_left', exists_eq_left, exists_and_left, and_assoc, List.cons.injEq, and_true, true_and, PyData.int.injEq, PyData.bool.injEq, PyData.tuple.injEq, PyData.list.injEq, absD_i, maxD_i, addD_i, subD_i, negD_i, iaddD_i, mulD_e, fdivD_e, ifdivD_e, modD_e, leD_i, ltD_i, gtD_i, geD_i, lenD_t, lenD_l, isNd_n, notNd_n, isBd_b, notBd_b, isNonD_i, isNonD_n, isNonD_t, isNonD_l, eqD_int, neD_int, eqD_bool, neD_bool, eqD_fr, neD_fr, ix_fr0, ix_fr1, kit_int, kit_bool, kit_str, kit_tuple, decide_eq_true_eq, Bool.not_eq_true', decide_eq_false_iff_not, line_nil, line1, line2, if_true, if_false, ix0, ix1, ix2, ix3, c__law_less_e]
  unfold lawW at hq
  have l1 : b < 2 ^ 62 := by omega
  have l2 : n < 2 ^ 62 := by omega
  have l3 : d < 2 ^ 62 := by omega
  simp only [l1, l2, l3, hb.1, hd.1, hn.1, true_and]
  by_cases h1 : p = a ∧ n = b
  · rw [if_pos (.inl h1), decide_eq_true h1] at hq
    rw [if_pos h1, if_neg (fun z => z h1)]
    cases i with
    | false => simpa using hq
    | true =>
      by_cases h2 : p = c ∧ n = d
      · rw [decide_eq_true h2] at hq
        simp only [if_true, h2, and_self, not_true, if_false]
        simpa using hq
      · rw [decide_eq_false h2] at hq
        simp only [if_true]
        rw [if_pos h2]
        simpa using hq
  · rw [decide_eq_false h1] at hq
    rw [if_neg h1]
    by_cases h2 : p = c ∧ n = d
    · rw [if_pos (.inr h2), decide_eq_true h2] at hq
      rw [if_pos h2, if_pos h1]
      rw [if_neg (fun z => z h2)]
      simpa using hq
    · rw [if_neg (by rintro (z | z); exact h1 z; exact h2 z)] at hq
      rw [if_neg h2]
      by_cases h3 : a * n < p * b
      · rw [if_pos h3]
        rw [decide_eq_true h3, Bool.true_and] at hq
        exact hq
      · rw [if_neg h3]
        rw [decide_eq_false h3, Bool.false_and] at hq
        exact hq
theorem c__law_within_e (a b : Int) (i : Bool) (c d : Int) (j : Bool) (p n : Int) (q : Res → Prop) : c__law_within [spanT a b i c d j, fr p n] q ↔ (0 < b ∧ b < 2 ^ 60) ∧ (0 < d ∧ d < 2 ^ 60) ∧ (0 < n ∧ n < 2 ^ 60) ∧ q (.ok (.bool (lawW a b i c d j p n))) :=
  ⟨fun ⟨_, _, _, _, _, _, _, _, e, h⟩ => by simp [spanT] at e; obtain ⟨⟨⟨rfl, rfl⟩, rfl, ⟨rfl, rfl⟩, rfl⟩, rfl, rfl⟩ := e; exact h, fun h => ⟨_, _, _, _, _, _, _, _, rfl, h⟩⟩
abbrev s__law_ten : Stmt := topS 46
theorem sc__law_ten : FnScope ["digits"] ["digits"] (defScope s__law_ten) := ⟨rfl, rfl, rfl, by decide +kernel, rfl, by decide +kernel, by decide +kernel⟩
def c__law_ten : Ct := fun ds q => ∃ d : Int, ds = [.int d] ∧ (0 ≤ d ∧ d ≤ 60) ∧ q (.ok (.int (powT d)))
theorem ten_all : ((List.range 61).all fun d => PySem.intText? (("1" : Str) ++ repS d "0") == some ((10 : Int) ^ d) && decide ((("1" : Str) ++ repS d "0").length ≤ 640)) = true := by decide +kernel
theorem ten_txt (d : Int) (h0 : 0 ≤ d) (h1 : d ≤ 60) : intSD [.str (("1" : Str) ++ repS d.toNat "0")] = some (.int (powT d)) := by
  have h := List.all_eq_true.mp ten_all d.toNat (List.mem_range.mpr (by omega))
  rw [Bool.and_eq_true] at h
  have h2 := beq_iff_eq.mp h.1
  show (if _ then _ else _) = _
  rw [if_pos (of_decide_eq_true h.2), h2]
  rfl
theorem ok__law_ten (F : Fun K "_law_ten" "_law_ten" s__law_ten f fd) (m_int : mg "int" = none) : FnOk P w K mg base (L2.CX P w) 1 f fd ["digits"] (spD K ca c__law_ten 1) := by
  refine fn_ok F sc__law_ten rfl (fun cdv A outer s H E hr tk po hu hu5 => ?_)
  refine ⟨_, _, pdb_one (pds_ret (pd_callTy call_int_str cd_intS (by rfl) m_int boot_int (pda_cons (pd_op (op_add.or (op_add_str.or op_cat)) od_add pd_str (pd_op op_mulS od_mulS pd_str (pd_var (pv 0)))) pda_nil))), ?_⟩
  clear hr tk po hu hu5
  intro ds q hl hc
  obtain ⟨d, rfl, hd, hq⟩ := hc
  rw [show start0 (["digits"] : List Str) [.int d] = [some (.val (.int d))] from rfl]
  simp only [dRet, dRetN, dSeq, dPar, dPar3, dCons, dNil, dCaB, dVar, dC, dCmpT, dCmp, dU, dB, dAndV, dOrV, dNotV, dAnd, dOr, dNot, dIf, dTup, dLst, dChain, dChainT, dTest, dIsi, dAsg, dDrop, dIfS, gN, gT, gs0, gs1, dAug, dNext, dRaise, dCall, dYes, topE, List.getElem?_cons_succ, List.getElem?_cons_zero, List.set_cons_zero, List.set_cons_succ, Option.some.injEq, S.val.injEq, exists_eq_left', exists_eq_left, exists_and_left, and_assoc, List.cons.injEq, and_true, true_and, PyData.int.injEq, PyData.bool.injEq, PyData.tuple.injEq, PyData.list.injEq, absD_i, maxD_i, addD_i, subD_i, negD_i, iaddD_i, mulD_e, fdivD_e, ifdivD_e, modD_e, leD_i, ltD_i, gtD_i, geD_i, lenD_t, lenD_l, isNd_n, notNd_n, isBd_b, notBd_b, isNonD_i, isNonD_n, isNonD_t, isNonD_l, eqD_int, neD_int, eqD_bool, neD_bool, eqD_fr, neD_fr, ix_fr0, ix_fr1, kit_int, kit_bool, kit_str, kit_tuple, decide_eq_true_eq, Bool.not_eq_true', decide_eq_false_iff_not, line_nil, line1, line2, if_true, if_false, mulSD_e, addD_e]
  refine ⟨by decide, by decide, hd.1, by omega, ?_, _, ten_txt d hd.1 hd.2, hq⟩
  have e1 : (Str.length ("1" : Str)) = 1 := by decide
  have e0 : (Str.length ("0" : Str)) = 1 := by decide
  rw [repS_len, sizeLine_eq, e1, e0]
  omega
theorem c__law_ten_e (d : Int) (q : Res → Prop) : c__law_ten [.int d] q ↔ (0 ≤ d ∧ d ≤ 60) ∧ q (.ok (.int (powT d))) :=
  ⟨fun ⟨_, e, h⟩ => by cases e; exact h, fun h => ⟨_, rfl, h⟩⟩
abbrev s__law_units : Stmt := topS 47
theorem sc__law_units : FnScope ["top", "under", "digits", "rule", "floor", "exact", "ceil", "twice_gap"] ["top", "under", "digits", "rule"] (defScope s__law_units) := ⟨rfl, rfl, rfl, by decide +kernel, rfl, by decide +kernel, by decide +kernel⟩
def c__law_units : Ct := fun ds q => ∃ (p n d : Int) (r : Ru), ds = [.int p, .int n, .int d, .str (ruS r)] ∧ (0 < n ∧ n < 2 ^ 62) ∧ (0 ≤ d ∧ d ≤ 6) ∧ q (.ok (.int (unitsF p n d r)))
/-- the law's own rounding -/
def lawU (p n d : Int) (r : Ru) : Int :=
  let fl := p * powT d / n
  let ce := if fl * n = p * powT d then fl else fl + 1
  if r = .down ∨ (r = .zero ∧ 0 < p) then fl
  else if r = .up ∨ r = .zero then ce
  else if ¬ 2 * p * powT d - (fl + ce) * n = 0 ∨ fl * n = p * powT d then (if 0 < 2 * p * powT d - (fl + ce) * n then ce else fl)
  else if r = .neven then (if fl % 2 = 0 then fl else ce)
  else if r = .nup then ce
  else if 0 < p then (if r = .nzero then fl else ce) else (if r = .nzero then ce else fl)
theorem lawU_eq (p n d : Int) (r : Ru) (hn : 0 < n) : lawU p n d r = unitsF p n d r := by
  unfold lawU unitsF
  have hp := powT_pos d
  have hpos : 0 < p * powT d ↔ 0 < p := ⟨fun h => Int.pos_of_mul_pos_left h hp, fun h => Int.mul_pos h hp⟩
  have e0 : 2 * p * powT d = 2 * (p * powT d) := Int.mul_assoc ..
  have hdm := Int.mul_ediv_add_emod (p * powT d) n
  have hm := Int.emod_lt_of_pos (p * powT d) hn
  have hm0 := Int.emod_nonneg (p * powT d) (show n ≠ 0 by omega)
  simp only [e0, ← hpos]
  generalize p * powT d = t at *
  generalize t % n = re at *
  generalize t / n = fl at *
  have ex : fl * n = t ↔ re = 0 := by
    rw [Int.mul_comm fl n]
    omega
  have e1 : (fl + fl) * n = 2 * (n * fl) := by rw [Int.add_mul, Int.mul_comm fl n]; omega
  have e2 : (fl + (fl + 1)) * n = 2 * (n * fl) + n := by rw [Int.add_mul, Int.add_mul, Int.mul_comm fl n, Int.one_mul]; omega
  by_cases c1 : re = 0
  · have c2 := ex.mpr c1
    simp only [c1, c2, if_true, true_or, or_true, e1]
    have c3 : 2 * t - 2 * (n * fl) = 0 := by omega
    simp only [c3]
    cases r <;> simp
  · have c2 : ¬ fl * n = t := fun z => c1 (ex.mp z)
    simp only [c1, c2, if_false, false_or, or_false, e2]
    by_cases c3 : 2 * re = n
    · have c4 : 2 * t - (2 * (n * fl) + n) = 0 := by omega
      by_cases c5 : 0 < t <;> by_cases c6 : fl % 2 = 0 <;> cases r <;> simp [c3, c4, c5, c6]
    · have c4 : ¬ 2 * t - (2 * (n * fl) + n) = 0 := by omega
      by_cases c6 : 2 * re < n
      · have c7 : ¬ 0 < 2 * t - (2 * (n * fl) + n) := by omega
        by_cases c5 : 0 < t <;> cases r <;> simp [c3, c4, c5, c6, c7] <;> omega
      · have c7 : 0 < 2 * t - (2 * (n * fl) + n) := by omega
        by_cases c5 : 0 < t <;> cases r <;> simp [c3, c4, c5, c6, c7] <;> omega
theorem ok__law_units (F : Fun K "_law_units" "_law_units" s__law_units f fd) (F__law_ten : Fd P w K mg base ca "_law_ten" c__law_ten 1 1) : FnOk P w K mg base (L2.CX P w) 2 f fd ["top", "under", "digits", "rule"] (spD K ca c__law_units 4) := by
  refine fn_ok F sc__law_units rfl (fun cdv A outer s H E hr tk po hu hu5 => ?_)
  refine ⟨_, _, pdb_cons (pds_set (pd_op op_fdivW od_fdiv (pd_op op_mul od_mul (pd_var (pv 0)) (pd_fn F__law_ten (hr.mono (by decide)) (by rfl) tk (pda_cons (pd_var (pv 2)) pda_nil))) (pd_var (pv 1))) (fun h => ps_set (i := 4) sc__law_units.nd rfl (.inl rfl) h))
      (pdb_cons (pds_set (pd_cmp (r := rEqD K) (op_eqD hu) cm_eq (pd_op op_mul od_mul (pd_var (pv 4)) (pd_var (pv 1))) (PD.pv (pd_op op_mul od_mul (pd_var (pv 0)) (pd_fn F__law_ten (hr.mono (by decide)) (by rfl) tk (pda_cons (pd_var (pv 2)) pda_nil)))) (nomark _)) (fun h => ps_set (i := 5) sc__law_units.nd rfl (.inl rfl) h))
      (pdb_cons (pds_set (pd_if (pdt_val (pd_var (pv 5))) (pd_var (pv 4)) (pd_op (op_add.or (op_add_str.or op_cat)) od_add (pd_var (pv 4)) pd_int)) (fun h => ps_set (i := 6) sc__law_units.nd rfl (.inl rfl) h))
      (pdb_cons (pds_if (PDW.pt (pdw_or (pdt_cmp (r := rEqD K) (op_eqD hu) cm_eq (pd_var (pv 3)) (PD.pv pd_str) (nomark _)) (pdw_or1 (PDW.pt (pdw_and (pdt_cmp (r := rEqD K) (op_eqD hu) cm_eq (pd_var (pv 3)) (PD.pv pd_str) (nomark _)) (pdw_and1 (pdt_cmp op_gt cm_gt (pd_var (pv 0)) (PD.pv pd_int) (nomark _)))))))) (pdb_one (pds_ret (pd_var (pv 4)))) (pdb_nil))
      (pdb_cons (pds_if (PDW.pt (pdw_or (pdt_cmp (r := rEqD K) (op_eqD hu) cm_eq (pd_var (pv 3)) (PD.pv pd_str) (nomark _)) (pdw_or1 (pdt_cmp (r := rEqD K) (op_eqD hu) cm_eq (pd_var (pv 3)) (PD.pv pd_str) (nomark _))))) (pdb_one (pds_ret (pd_var (pv 6)))) (pdb_nil))
      (pdb_cons (pds_set (pd_op op_sub od_sub (pd_op op_mul od_mul (pd_op op_mul od_mul pd_int (pd_var (pv 0))) (pd_fn F__law_ten (hr.mono (by decide)) (by rfl) tk (pda_cons (pd_var (pv 2)) pda_nil))) (pd_op op_mul od_mul (pd_op (op_add.or (op_add_str.or op_cat)) od_add (pd_var (pv 4)) (pd_var (pv 6))) (pd_var (pv 1)))) (fun h => ps_set (i := 7) sc__law_units.nd rfl (.inl rfl) h))
      (pdb_cons (pds_if (PDW.pt (pdw_or (pdt_cmp (r := rNeD K) (op_neD hu) cm_ne (pd_var (pv 7)) (PD.pv pd_int) (nomark _)) (pdw_or1 (pdt_val (pd_var (pv 5)))))) (pdb_one (pds_ret (pd_if (pdt_cmp op_gt cm_gt (pd_var (pv 7)) (PD.pv pd_int) (nomark _)) (pd_var (pv 6)) (pd_var (pv 4))))) (pdb_nil))
      (pdb_cons (pds_if (pdt_cmp (r := rEqD K) (op_eqD hu) cm_eq (pd_var (pv 3)) (PD.pv pd_str) (nomark _)) (pdb_one (pds_ret (pd_if (pdt_cmp (r := rEqD K) (op_eqD hu) cm_eq (pd_op op_mod od_mod (pd_var (pv 4)) pd_int) (PD.pv pd_int) (nomark _)) (pd_var (pv 4)) (pd_var (pv 6))))) (pdb_nil))
      (pdb_cons (pds_if (pdt_cmp (r := rEqD K) (op_eqD hu) cm_eq (pd_var (pv 3)) (PD.pv pd_str) (nomark _)) (pdb_one (pds_ret (pd_var (pv 6)))) (pdb_nil))
      (pdb_one (pds_ret (pd_if (pdt_cmp op_gt cm_gt (pd_var (pv 0)) (PD.pv pd_int) (nomark _)) (pd_if (pdt_cmp (r := rEqD K) (op_eqD hu) cm_eq (pd_var (pv 3)) (PD.pv pd_str) (nomark _)) (pd_var (pv 4)) (pd_var (pv 6))) (pd_if (pdt_cmp (r := rEqD K) (op_eqD hu) cm_eq (pd_var (pv 3)) (PD.pv pd_str) (nomark _)) (pd_var (pv 6)) (pd_var (pv 4)))))))))))))), ?_⟩
  clear hr tk po hu hu5
  intro ds q hl hc
  obtain ⟨p, n, d, r, rfl, hn, hd, hq⟩ := hc
  rw [show start0 (["top", "under", "digits", "rule", "floor", "exact", "ceil", "twice_gap"] : List Str) [.int p, .int n, .int d, .str (ruS r)] = [some (.val (.int p)), some (.val (.int n)), some (.val (.int d)), some (.val (.str (ruS r))), none, none, none, none] from rfl]
  have hp := powT_pos d
  have hp6 := powT_le hd.2
  have key : ∀ x, lawU p n d r = x → q (.ok (.int x)) := fun x e => by
    rw [← e, lawU_eq p n d r hn.1]
    exact hq
  clear hq
  simp only [dRet, dRetN, dSeq, dPar, dPar3, dCons, dNil, dCaB, dVar, dC, dCmpT, dCmp, dU, dB, dAndV, dOrV, dNotV, dAnd, dOr, dNot, dIf, dTup, dLst, dChain, dChainT, dTest, dIsi, dAsg, dDrop, dIfS, gN, gT, gs0, gs1, dAug, dNext, dRaise, dCall, dYes, topE, List.getElem?_cons_succ, List.getElem?_cons_zero, List.set_cons_zero, List.set_cons_succ, Option.some.injEq, S.val.injEq, exists_eq_left', exists_eq_left, exists_and_left, and_assoc, List.cons.injEq, and_true, true_and, PyData.int.injEq, PyData.bool.injEq, PyData.tuple.injEq, PyData.list.injEq, absD_i, maxD_i, addD_i, subD_i, negD_i, iaddD_i, mulD_e, fdivD_e, ifdivD_e, modD_e, leD_i, ltD_i, gtD_i, geD_i, lenD_t, lenD_l, isNd_n, notNd_n, isBd_b, notBd_b, isNonD_i, isNonD_n, isNonD_t, isNonD_l, eqD_int, neD_int, eqD_bool, neD_bool, eqD_fr, neD_fr, ix_fr0, ix_fr1, kit_int, kit_bool, kit_str, kit_tuple, decide_eq_true_eq, Bool.not_eq_true', decide_eq_false_iff_not, line_nil, line1, line2, if_true, if_false, c__law_ten_e, eqD_down, eqD_up, eqD_zero, eqD_nup, eqD_nzero, eqD_neven]
  refine ⟨hd.1, by omega, mulOk_r (by omega) (by omega), hn.1, by omega, mulOk_r (by omega) (by omega), hd.1, by omega, mulOk_r (by omega) (by omega), ?_⟩
  have m2 : mulOk 2 p = true := mulOk_l (by decide) (by decide)
  have m3 : mulOk (2 * p) (powT d) = true := mulOk_r (by omega) (by omega)
  have m4 : ∀ x, mulOk x n = true := fun x => mulOk_r (by omega) (by omega)
  have l1 : 0 ≤ d := hd.1
  have l2 : d ≤ 60 := by omega
  have l3 : (0 : Int) < 2 := by decide
  simp only [m2, m3, m4, l1, l2, l3, true_and, if_true, if_false]
  unfold lawU at key
  dsimp only at key
  clear hn hd hp hp6 m2 m3 m4 l1 l2 l3
  generalize p * powT d / n = fl at key ⊢
  generalize 2 * p * powT d = tt at key ⊢
  generalize p * powT d = t at key ⊢
  cases r <;> simp only [reduceCtorEq, if_true, if_false, false_and, or_false, true_or, or_true, true_and, false_or] at key ⊢ <;> (by_cases ce : fl * n = t) <;> simp only [ce, if_true, if_false, not_true, not_false_eq_true, or_true, or_false] at key ⊢ <;> first | exact key _ rfl | skip
  all_goals (repeat' split)
  all_goals first | exact key _ rfl | (refine key _ ?_; clear key; simp only [*, if_true, if_false, not_true, not_false_eq_true]; done) | (exfalso; simp_all; done)
theorem c__law_units_e (p n d : Int) (r : Ru) (q : Res → Prop) : c__law_units [.int p, .int n, .int d, .str (ruS r)] q ↔ (0 < n ∧ n < 2 ^ 62) ∧ (0 ≤ d ∧ d ≤ 6) ∧ q (.ok (.int (unitsF p n d r))) :=
  ⟨fun ⟨p', n', d', r', e, h⟩ => by
    have e2 : r = r' := ruS_inj _ _ (by simp at e; exact e.2.2.2)
    subst e2
    simp at e
    obtain ⟨rfl, rfl, rfl⟩ := e
    exact h, fun h => ⟨_, _, _, _, rfl, h⟩⟩
abbrev s__law_met : Stmt := topS 51
theorem sc__law_met : FnScope ["one", "other", "low", "high"] ["one", "other"] (defScope s__law_met) := ⟨rfl, rfl, rfl, by decide +kernel, rfl, by decide +kernel, by decide +kernel⟩
def c__law_met : Ct := fun ds q => ∃ (a b : Int) (i : Bool) (c d : Int) (j : Bool) (x y : Int) (k : Bool) (z t : Int) (m : Bool), ds = [spanT a b i c d j, spanT x y k z t m] ∧ ((0 < b ∧ b < 2 ^ 60 ∧ Int.gcd a b = 1) ∧ (0 < d ∧ d < 2 ^ 60 ∧ Int.gcd c d = 1)) ∧ ((0 < y ∧ y < 2 ^ 60 ∧ Int.gcd x y = 1) ∧ (0 < t ∧ t < 2 ^ 60 ∧ Int.gcd z t = 1)) ∧ q (.ok (if spanB (spanT (mLo a b i x y k).1 (mLo a b i x y k).2.1 (mLo a b i x y k).2.2 (mHi c d j z t m).1 (mHi c d j z t m).2.1 (mHi c d j z t m).2.2) = true then spanT (mLo a b i x y k).1 (mLo a b i x y k).2.1 (mLo a b i x y k).2.2 (mHi c d j z t m).1 (mHi c d j z t m).2.1 (mHi c d j z t m).2.2 else .str "none"))
theorem ok__law_met (F : Fun K "_law_met" "_law_met" s__law_met f fd) (F__law_less : Fd P w K mg base ca "_law_less" c__law_less 2 1) : FnOk P w K mg base (L2.CX P w) 2 f fd ["one", "other"] (spD K ca c__law_met 2) := by
  refine fn_ok F sc__law_met rfl (fun cdv A outer s H E hr tk po hu hu5 => ?_)
  refine ⟨_, _, pdb_cons (pds_set (pd_if (pdt_val (pd_fn F__law_less (hr.mono (by decide)) (by rfl) tk (pda_cons (pd_ix (r := rIx K) ix_seq od_ix (pd_var (pv 1)) pd_int (fun _ _ => rfl)) (pda_cons (pd_ix (r := rIx K) ix_seq od_ix (pd_var (pv 0)) pd_int (fun _ _ => rfl)) pda_nil)))) (pd_slT (K := K) (pd_var (pv 0)) pdo_none (pdo_some pd_int)) (pd_if (pdt_val (pd_fn F__law_less (hr.mono (by decide)) (by rfl) tk (pda_cons (pd_ix (r := rIx K) ix_seq od_ix (pd_var (pv 0)) pd_int (fun _ _ => rfl)) (pda_cons (pd_ix (r := rIx K) ix_seq od_ix (pd_var (pv 1)) pd_int (fun _ _ => rfl)) pda_nil)))) (pd_slT (K := K) (pd_var (pv 1)) pdo_none (pdo_some pd_int)) (pd_tup (pda_cons (pd_ix (r := rIx K) ix_seq od_ix (pd_var (pv 0)) pd_int (fun _ _ => rfl)) (pda_cons (pd_and (pd_ix (r := rIx K) ix_seq od_ix (pd_var (pv 0)) pd_int (fun _ _ => rfl)) (pd_one (pd_ix (r := rIx K) ix_seq od_ix (pd_var (pv 1)) pd_int (fun _ _ => rfl)))) pda_nil))))) (fun h => ps_set (i := 2) sc__law_met.nd rfl (.inl rfl) h))
      (pdb_cons (pds_set (pd_if (pdt_val (pd_fn F__law_less (hr.mono (by decide)) (by rfl) tk (pda_cons (pd_ix (r := rIx K) ix_seq od_ix (pd_var (pv 0)) pd_int (fun _ _ => rfl)) (pda_cons (pd_ix (r := rIx K) ix_seq od_ix (pd_var (pv 1)) pd_int (fun _ _ => rfl)) pda_nil)))) (pd_slT (K := K) (pd_var (pv 0)) (pdo_some pd_int) pdo_none) (pd_if (pdt_val (pd_fn F__law_less (hr.mono (by decide)) (by rfl) tk (pda_cons (pd_ix (r := rIx K) ix_seq od_ix (pd_var (pv 1)) pd_int (fun _ _ => rfl)) (pda_cons (pd_ix (r := rIx K) ix_seq od_ix (pd_var (pv 0)) pd_int (fun _ _ => rfl)) pda_nil)))) (pd_slT (K := K) (pd_var (pv 1)) (pdo_some pd_int) pdo_none) (pd_tup (pda_cons (pd_ix (r := rIx K) ix_seq od_ix (pd_var (pv 0)) pd_int (fun _ _ => rfl)) (pda_cons (pd_and (pd_ix (r := rIx K) ix_seq od_ix (pd_var (pv 0)) pd_int (fun _ _ => rfl)) (pd_one (pd_ix (r := rIx K) ix_seq od_ix (pd_var (pv 1)) pd_int (fun _ _ => rfl)))) pda_nil))))) (fun h => ps_set (i := 3) sc__law_met.nd rfl (.inl rfl) h))
      (pdb_cons (pds_if (PDW.pt (pdw_or (pdt_val (pd_fn F__law_less (hr.mono (by decide)) (by rfl) tk (pda_cons (pd_ix (r := rIx K) ix_seq od_ix (pd_var (pv 3)) pd_int (fun _ _ => rfl)) (pda_cons (pd_ix (r := rIx K) ix_seq od_ix (pd_var (pv 2)) pd_int (fun _ _ => rfl)) pda_nil)))) (pdw_or1 (PDW.pt (pdw_and (pdt_cmp (r := rEqD K) (op_eqD hu) cm_eq (pd_ix (r := rIx K) ix_seq od_ix (pd_var (pv 2)) pd_int (fun _ _ => rfl)) (PD.pv (pd_ix (r := rIx K) ix_seq od_ix (pd_var (pv 3)) pd_int (fun _ _ => rfl))) (nomark _)) (pdw_and1 (pdt_not (PDW.pt (pdw_and (pdt_val (pd_ix (r := rIx K) ix_seq od_ix (pd_var (pv 2)) pd_int (fun _ _ => rfl))) (pdw_and1 (pdt_val (pd_ix (r := rIx K) ix_seq od_ix (pd_var (pv 3)) pd_int (fun _ _ => rfl))))))))))))) (pdb_one (pds_ret pd_str)) (pdb_nil))
      (pdb_one (pds_ret (pd_op op_catT od_catT (pd_var (pv 2)) (pd_var (pv 3))))))), ?_⟩
  clear hr tk po hu hu5
  intro ds q hl hc
  obtain ⟨a, b, i, c, d, j, x, y, k, z, t, m, rfl, ⟨⟨b0, b1, ga⟩, ⟨d0, d1, gc⟩⟩, ⟨⟨y0, y1, gx⟩, ⟨t0, t1, gz⟩⟩, hq⟩ := hc
  rw [show start0 (["one", "other", "low", "high"] : List Str) [spanT a b i c d j, spanT x y k z t m] = [some (.val (spanT a b i c d j)), some (.val (spanT x y k z t m)), none, none] from rfl]
  have ix0 : ixD (spanT a b i c d j) (.int 0) = some (fr a b) := rfl
  have ix1 : ixD (spanT a b i c d j) (.int 1) = some (.bool i) := rfl
  have ix2 : ixD (spanT a b i c d j) (.int 2) = some (fr c d) := rfl
  have ix3 : ixD (spanT a b i c d j) (.int 3) = some (.bool j) := rfl

  have iy0 : ixD (spanT x y k z t m) (.int 0) = some (fr x y) := rfl
  have iy1 : ixD (spanT x y k z t m) (.int 1) = some (.bool k) := rfl
  have iy2 : ixD (spanT x y k z t m) (.int 2) = some (fr z t) := rfl
  have iy3 : ixD (spanT x y k z t m) (.int 3) = some (.bool m) := rfl
  have cl : ∀ (a b : Int) (i : Bool) (c d : Int) (j : Bool), cutD [fr a b, .bool i, fr c d, .bool j] none (some 2) = [fr a b, .bool i] := fun _ _ _ _ _ _ => rfl
  have ch : ∀ (a b : Int) (i : Bool) (c d : Int) (j : Bool), cutD [fr a b, .bool i, fr c d, .bool j] (some 2) none = [fr c d, .bool j] := fun _ _ _ _ _ _ => rfl
  obtain ⟨B0, B1, gB⟩ := mLo_of (a := a) (b := b) (i := i) (x := x) (y := y) (k := k) (fun x y => 0 < y ∧ y < 2 ^ 60 ∧ Int.gcd x y = 1) ⟨b0, b1, ga⟩ ⟨y0, y1, gx⟩
  obtain ⟨D0, D1, gD⟩ := mHi_of (a := c) (b := d) (i := j) (x := z) (y := t) (k := m) (fun x y => 0 < y ∧ y < 2 ^ 60 ∧ Int.gcd x y = 1) ⟨d0, d1, gc⟩ ⟨t0, t1, gz⟩
  refine seq_mk fun k' hk => ?_
  have fin : k' [some (.val (spanT a b i c d j)), some (.val (spanT x y k z t m)), some (.val (.tuple [fr (mLo a b i x y k).1 (mLo a b i x y k).2.1, .bool (mLo a b i x y k).2.2])), none] := hk _ (by
    clear hk k'
    refine seq_mk fun k' hk => ?_
    have fin : k' [some (.val (spanT a b i c d j)), some (.val (spanT x y k z t m)), some (.val (.tuple [fr (mLo a b i x y k).1 (mLo a b i x y k).2.1, .bool (mLo a b i x y k).2.2])), some (.val (.tuple [fr (mHi c d j z t m).1 (mHi c d j z t m).2.1, .bool (mHi c d j z t m).2.2]))] := hk _ (by
      clear hk k'
      generalize (mLo a b i x y k).1 = A at *
      generalize (mLo a b i x y k).2.1 = B at *
      generalize (mLo a b i x y k).2.2 = I at *
      generalize (mHi c d j z t m).1 = C at *
      generalize (mHi c d j z t m).2.1 = D at *
      generalize (mHi c d j z t m).2.2 = J at *
      have l0 : ∀ (a b : Int) (i : Bool), ixD (.tuple [fr a b, .bool i]) (.int 0) = some (fr a b) := fun _ _ _ => rfl
      have l1 : ∀ (a b : Int) (i : Bool), ixD (.tuple [fr a b, .bool i]) (.int 1) = some (.bool i) := fun _ _ _ => rfl
      have la : addTD (.tuple [fr A B, .bool I]) (.tuple [fr C D, .bool J]) = some (spanT A B I C D J) := rfl
      refine seq_mk fun k' hk => ?_
      simp only [dRet, dRetN, dSeq, dPar, dPar3, dCons, dNil, dCaB, dVar, dC, dCmpT, dCmp, dU, dB, dAndV, dOrV, dNotV, dAnd, dOr, dNot, dIf, dTup, dLst, dChain, dChainT, dTest, dIsi, dAsg, dDrop, dIfS, gN, gT, gs0, gs1, dAug, dNext, dRaise, dCall, dYes, topE, List.getElem?_cons_succ, List.getElem?_cons_zero, List.set_cons_zero, List.set_cons_succ, Option.some.injEq, S.val.injEq, exists_eq_left', exists_eq_left, exists_and_left, and_assoc, List.cons.injEq, and_true, true_and, PyData.int.injEq, PyData.bool.injEq, PyData.tuple.injEq, PyData.list.injEq, absD_i, maxD_i, addD_i, subD_i, negD_i, iaddD_i, mulD_e, fdivD_e, ifdivD_e, modD_e, leD_i, ltD_i, gtD_i, geD_i, lenD_t, lenD_l, isNd_n, notNd_n, isBd_b, notBd_b, isNonD_i, isNonD_n, isNonD_t, isNonD_l, eqD_int, neD_int, eqD_bool, neD_bool, eqD_fr, neD_fr, ix_fr0, ix_fr1, kit_int, kit_bool, kit_str, kit_tuple, decide_eq_true_eq, Bool.not_eq_true', decide_eq_false_iff_not, line_nil, line1, line2, if_true, if_false, l0, l1, c__law_less_e]
      refine ⟨by omega, by omega, by omega, by omega, ?_⟩
      by_cases h1 : C * B < A * D
      · rw [if_pos h1]
        rw [spanB_e, if_neg (fun z => by
          have := of_decide_eq_true z
          rcases this.2.2 with w | ⟨⟨e1, e2⟩, _⟩
          · omega
          · subst e1 e2
            omega)] at hq
        exact hq
      · rw [if_neg h1]
        by_cases h2 : A = C ∧ B = D
        · rw [if_pos h2]
          cases hI : I with
          | true =>
            cases hJ : J with
            | true =>
              subst hI hJ
              rw [spanB_e, if_pos (decide_eq_true ⟨⟨B0, gB⟩, ⟨D0, gD⟩, .inr ⟨h2, rfl, rfl⟩⟩)] at hq
              simp only [if_true, Bool.true_eq_false, if_false, Bool.false_eq_true]
              refine hk _ ?_
              clear hk k'
              simp only [dRet, dRetN, dSeq, dPar, dPar3, dCons, dNil, dCaB, dVar, dC, dCmpT, dCmp, dU, dB, dAndV, dOrV, dNotV, dAnd, dOr, dNot, dIf, dTup, dLst, dChain, dChainT, dTest, dIsi, dAsg, dDrop, dIfS, gN, gT, gs0, gs1, dAug, dNext, dRaise, dCall, dYes, topE, List.getElem?_cons_succ, List.getElem?_cons_zero, List.set_cons_zero, List.set_cons_succ, Option.some.injEq, S.val.injEq, exists_eq_left', exists_eq_left, exists_and_left, and_assoc, List.cons.injEq, and_true, true_and, PyData.int.injEq, PyData.bool.injEq, PyData.tuple.injEq, PyData.list.injEq, absD_i, maxD_i, addD_i, subD_i, negD_i, iaddD_i, mulD_e, fdivD_e, ifdivD_e, modD_e, leD_i, ltD_i, gtD_i, geD_i, lenD_t, lenD_l, isNd_n, notNd_n, isBd_b, notBd_b, isNonD_i, isNonD_n, isNonD_t, isNonD_l, eqD_int, neD_int, eqD_bool, neD_bool, eqD_fr, neD_fr, ix_fr0, ix_fr1, kit_int, kit_bool, kit_str, kit_tuple, decide_eq_true_eq, Bool.not_eq_true', decide_eq_false_iff_not, line_nil, line1, line2, if_true, if_false, la]
              exact hq
            | false =>
              subst hI hJ
              rw [spanB_e, if_neg (fun z => by have := of_decide_eq_true z; obtain ⟨e1, e2⟩ := h2; rcases this.2.2 with w | w; (subst e1 e2; omega); exact absurd w.2.2 Bool.false_ne_true)] at hq
              simp only [if_true, Bool.true_eq_false, if_false, Bool.false_eq_true]
              exact hq
          | false =>
            subst hI
            rw [spanB_e, if_neg (fun z => by have := of_decide_eq_true z; obtain ⟨e1, e2⟩ := h2; rcases this.2.2 with w | w; (subst e1 e2; omega); exact absurd w.2.1 Bool.false_ne_true)] at hq
            simp only [if_true, Bool.true_eq_false, if_false, Bool.false_eq_true]
            exact hq
        · rw [if_neg h2]
          have h3 : A * D < C * B := by
            rcases Int.lt_trichotomy (A * D) (C * B) with w | w | w
            · exact w
            · exact absurd (same_frac B0 gB D0 gD w) h2
            · exact absurd w h1
          rw [spanB_e, if_pos (decide_eq_true ⟨⟨B0, gB⟩, ⟨D0, gD⟩, .inl h3⟩)] at hq
          first
            | refine hk _ ?_
            | (rw [if_neg Bool.false_ne_true]; refine hk _ ?_)
          clear hk k'
          simp only [dRet, dRetN, dSeq, dPar, dPar3, dCons, dNil, dCaB, dVar, dC, dCmpT, dCmp, dU, dB, dAndV, dOrV, dNotV, dAnd, dOr, dNot, dIf, dTup, dLst, dChain, dChainT, dTest, dIsi, dAsg, dDrop, dIfS, gN, gT, gs0, gs1, dAug, dNext, dRaise, dCall, dYes, topE, List.getElem?_cons_succ, List.getElem?_cons_zero, List.set_cons_zero, List.set_cons_succ, Option.some.injEq, S.val.injEq, exists_eq_left', exists_eq_left, exists_and_left, and_assoc, List.cons.injEq, and_true, true_and, PyData.int.injEq, PyData.bool.injEq, PyData.tuple.injEq, PyData.list.injEq, absD_i, maxD_i, addD_i, subD_i, negD_i, iaddD_i, mulD_e, fdivD_e, ifdivD_e, modD_e, leD_i, ltD_i, gtD_i, geD_i, lenD_t, lenD_l, isNd_n, notNd_n, isBd_b, notBd_b, isNonD_i, isNonD_n, isNonD_t, isNonD_l, eqD_int, neD_int, eqD_bool, neD_bool, eqD_fr, neD_fr, ix_fr0, ix_fr1, kit_int, kit_bool, kit_str, kit_tuple, decide_eq_true_eq, Bool.not_eq_true', decide_eq_false_iff_not, line_nil, line1, line2, if_true, if_false, la]
          exact hq)
    clear hk
    unfold mHi at fin
    simp only [dRet, dRetN, dSeq, dPar, dPar3, dCons, dNil, dCaB, dVar, dC, dCmpT, dCmp, dU, dB, dAndV, dOrV, dNotV, dAnd, dOr, dNot, dIf, dTup, dLst, dChain, dChainT, dTest, dIsi, dAsg, dDrop, dIfS, gN, gT, gs0, gs1, dAug, dNext, dRaise, dCall, dYes, topE, List.getElem?_cons_succ, List.getElem?_cons_zero, List.set_cons_zero, List.set_cons_succ, Option.some.injEq, S.val.injEq, exists_eq_left', exists_eq_left, exists_and_left, and_assoc, List.cons.injEq, and_true, true_and, PyData.int.injEq, PyData.bool.injEq, PyData.tuple.injEq, PyData.list.injEq, absD_i, maxD_i, addD_i, subD_i, negD_i, iaddD_i, mulD_e, fdivD_e, ifdivD_e, modD_e, leD_i, ltD_i, gtD_i, geD_i, lenD_t, lenD_l, isNd_n, notNd_n, isBd_b, notBd_b, isNonD_i, isNonD_n, isNonD_t, isNonD_l, eqD_int, neD_int, eqD_bool, neD_bool, eqD_fr, neD_fr, ix_fr0, ix_fr1, kit_int, kit_bool, kit_str, kit_tuple, decide_eq_true_eq, Bool.not_eq_true', decide_eq_false_iff_not, line_nil, line1, line2, if_true, if_false, ix2, iy2, ix3, iy3, c__law_less_e, dSlT, dO0, dO1]
    refine ⟨by omega, by omega, by omega, by omega, ?_⟩
    by_cases c1 : c * t < z * d
    · rw [if_pos c1]
      rw [if_neg (by omega), if_neg (fun q => by obtain ⟨q1, q2⟩ := q; subst q1 q2; omega)] at fin
      exact ⟨_, rfl, (show ¬ (HT.sIx 4 0 (some 2) = 0 ∧ HT.sIx 4 4 none = 4) by decide), fin⟩
    · rw [if_neg c1]
      refine ⟨by omega, by omega, by omega, by omega, ?_⟩
      by_cases c2 : z * d < c * t
      · rw [if_pos c2] at fin ⊢
        exact ⟨_, rfl, (show ¬ (HT.sIx 4 0 (some 2) = 0 ∧ HT.sIx 4 4 none = 4) by decide), fin⟩
      · rw [if_neg c2] at fin ⊢
        rw [if_pos (same_frac d0 gc t0 gz (by omega))] at fin
        cases j <;> simpa using fin)
  clear hk
  unfold mLo at fin
  simp only [dRet, dRetN, dSeq, dPar, dPar3, dCons, dNil, dCaB, dVar, dC, dCmpT, dCmp, dU, dB, dAndV, dOrV, dNotV, dAnd, dOr, dNot, dIf, dTup, dLst, dChain, dChainT, dTest, dIsi, dAsg, dDrop, dIfS, gN, gT, gs0, gs1, dAug, dNext, dRaise, dCall, dYes, topE, List.getElem?_cons_succ, List.getElem?_cons_zero, List.set_cons_zero, List.set_cons_succ, Option.some.injEq, S.val.injEq, exists_eq_left', exists_eq_left, exists_and_left, and_assoc, List.cons.injEq, and_true, true_and, PyData.int.injEq, PyData.bool.injEq, PyData.tuple.injEq, PyData.list.injEq, absD_i, maxD_i, addD_i, subD_i, negD_i, iaddD_i, mulD_e, fdivD_e, ifdivD_e, modD_e, leD_i, ltD_i, gtD_i, geD_i, lenD_t, lenD_l, isNd_n, notNd_n, isBd_b, notBd_b, isNonD_i, isNonD_n, isNonD_t, isNonD_l, eqD_int, neD_int, eqD_bool, neD_bool, eqD_fr, neD_fr, ix_fr0, ix_fr1, kit_int, kit_bool, kit_str, kit_tuple, decide_eq_true_eq, Bool.not_eq_true', decide_eq_false_iff_not, line_nil, line1, line2, if_true, if_false, ix0, iy0, ix1, iy1, c__law_less_e, dSlT, dO0, dO1]
  refine ⟨by omega, by omega, by omega, by omega, ?_⟩
  by_cases c1 : x * b < a * y
  · rw [if_pos c1]
    rw [if_neg (by omega), if_neg (fun q => by obtain ⟨q1, q2⟩ := q; subst q1 q2; omega)] at fin
    exact ⟨_, rfl, (show ¬ (HT.sIx 4 0 none = 0 ∧ HT.sIx 4 4 (some 2) = 4) by decide), fin⟩
  · rw [if_neg c1]
    refine ⟨by omega, by omega, by omega, by omega, ?_⟩
    by_cases c2 : a * y < x * b
    · rw [if_pos c2] at fin ⊢
      exact ⟨_, rfl, (show ¬ (HT.sIx 4 0 none = 0 ∧ HT.sIx 4 4 (some 2) = 4) by decide), fin⟩
    · rw [if_neg c2] at fin ⊢
      rw [if_pos (same_frac b0 ga y0 gx (by omega))] at fin
      cases i <;> simpa using fin
theorem c__law_met_ok {a b : Int} {i : Bool} {c d : Int} {j : Bool} {x y : Int} {k : Bool} {z t : Int} {m : Bool} {q : Res → Prop} (hb : 0 < b ∧ b < 2 ^ 60 ∧ Int.gcd a b = 1) (hd : 0 < d ∧ d < 2 ^ 60 ∧ Int.gcd c d = 1) (hy : 0 < y ∧ y < 2 ^ 60 ∧ Int.gcd x y = 1) (ht : 0 < t ∧ t < 2 ^ 60 ∧ Int.gcd z t = 1) (h : q (.ok (if spanB (spanT (mLo a b i x y k).1 (mLo a b i x y k).2.1 (mLo a b i x y k).2.2 (mHi c d j z t m).1 (mHi c d j z t m).2.1 (mHi c d j z t m).2.2) = true then spanT (mLo a b i x y k).1 (mLo a b i x y k).2.1 (mLo a b i x y k).2.2 (mHi c d j z t m).1 (mHi c d j z t m).2.1 (mHi c d j z t m).2.2 else .str "none"))) : c__law_met [spanT a b i c d j, spanT x y k z t m] q := ⟨_, _, _, _, _, _, _, _, _, _, _, _, rfl, ⟨hb, hd⟩, ⟨hy, ht⟩, h⟩
abbrev s__law_error : Stmt := topS 42
theorem sc__law_error : FnScope ["caught", "kinds"] ["caught"] (defScope s__law_error) := ⟨rfl, rfl, rfl, by decide +kernel, rfl, by decide +kernel, by decide +kernel⟩
theorem ok__law_error (F : Fun K "_law_error" "_law_error" s__law_error f fd) (m_ValueError : mg "ValueError" = none) (m_isinstance : mg "isinstance" = none) {D_err : Addr} (XI : XIs K mg ca D_err) : FnOk P w K mg base (L2.CX P w) 1 f fd ["caught"] (spX K ca) := by
  refine fn_okX F sc__law_error rfl (fun cdv A outer s H E hr tk po hu hu5 => ?_)
  refine ⟨_, _, pdb_cons (pds_set (pd_lst (pda_cons (pd_isiX (K := K) (kit := fun er => decide (er = .frac)) (pv 0) rfl m_isinstance (pe_glob (v := .ref _) (by rfl) XI.g0 rfl) (.own _) XI.ex (fun er => XI.kit er .frac)) (pda_cons (pd_isiX (K := K) (kit := fun er => decide (er = .rng)) (pv 0) rfl m_isinstance (pe_glob (v := .ref _) (by rfl) XI.g1 rfl) (.own _) XI.ex (fun er => XI.kit er .rng)) (pda_cons (pd_isiX (K := K) (kit := fun er => decide (er = .rul)) (pv 0) rfl m_isinstance (pe_glob (v := .ref _) (by rfl) XI.g2 rfl) (.own _) XI.ex (fun er => XI.kit er .rul)) pda_nil)))) (fun h => ps_set (i := 1) sc__law_error.nd rfl (.inl rfl) h))
      (pdb_cons (pds_set (pd_op (op_add.or (op_add_str.or op_cat)) od_add (pd_var (pv 1)) (pd_lst (pda_cons (pd_isiX (K := K) (kit := fun er => decide (er = .num)) (pv 0) rfl m_isinstance (pe_glob (v := .ref _) (by rfl) XI.g3 rfl) (.own _) XI.ex (fun er => XI.kit er .num)) (pda_cons (pd_isiX (K := K) (kit := fun er => decide (er = .txt)) (pv 0) rfl m_isinstance (pe_glob (v := .ref _) (by rfl) XI.g4 rfl) (.own _) XI.ex (fun er => XI.kit er .txt)) (pda_cons (pd_isiX (K := K) (kit := fun er => decide (er = .nof)) (pv 0) rfl m_isinstance (pe_glob (v := .ref _) (by rfl) XI.g5 rfl) (.own _) XI.ex (fun er => XI.kit er .nof)) pda_nil))))) (fun h => ps_set (i := 1) sc__law_error.nd rfl (.inl rfl) h))
      (pdb_cons (pds_if (PDW.pt (pdw_or (pdt_cmp (r := rNeD K) (op_neD hu) cm_ne (pd_cntB (K := K) (pd_var (pv 1)) pd_bl) (PD.pv pd_int) (nomark _)) (pdw_or (pdt_not (pdt_val (pd_isiX (K := K) (kit := fun _ => true) (pv 0) rfl m_isinstance (pe_glob (v := .ref _) (by rfl) XI.gD rfl) (.own _) XI.ex XI.kD))) (pdw_or1 (pdt_not (pdt_val (pd_isiX (K := K) (kit := fun _ => true) (pv 0) rfl m_isinstance (pe_bltn (v := .ty "ValueError") rfl m_ValueError (by rfl) rfl) (.ty _) XI.ex XI.kV))))))) (pdb_one (pds_ret pd_str)) (pdb_nil))
      (pdb_one (pds_ret (pd_ix (r := rIx K) ix_seq od_ix (pd_lst (pda_cons pd_str (pda_cons pd_str (pda_cons pd_str (pda_cons pd_str (pda_cons pd_str (pda_cons pd_str pda_nil))))))) (pd_idxB (K := K) (pd_var (pv 1)) pd_bl) (fun _ _ => rfl)))))), ?_⟩
  clear hr tk po hu hu5
  intro er
  rw [show startX ca er ["caught", "kinds"] = [some (.exn (ca er)), none] from rfl]
  have e0 : ∀ b1 b2 b3 b4 b5 b6 : Bool, addD (.list [.bool b1, .bool b2, .bool b3]) (.list [.bool b4, .bool b5, .bool b6]) = some (.list [.bool b1, .bool b2, .bool b3, .bool b4, .bool b5, .bool b6]) := fun b1 b2 b3 b4 b5 b6 => addD_ll (by rw [sizeLine_eq]; exact (by decide : 3 + 3 ≤ 16777216))
  simp only [dRet, dRetN, dSeq, dPar, dPar3, dCons, dNil, dCaB, dVar, dC, dCmpT, dCmp, dU, dB, dAndV, dOrV, dNotV, dAnd, dOr, dNot, dIf, dTup, dLst, dChain, dChainT, dTest, dIsi, dAsg, dDrop, dIfS, gN, gT, gs0, gs1, dAug, dNext, dRaise, dCall, dYes, topE, List.getElem?_cons_succ, List.getElem?_cons_zero, List.set_cons_zero, List.set_cons_succ, Option.some.injEq, S.val.injEq, exists_eq_left', exists_eq_left, exists_and_left, and_assoc, List.cons.injEq, and_true, true_and, PyData.int.injEq, PyData.bool.injEq, PyData.tuple.injEq, PyData.list.injEq, absD_i, maxD_i, addD_i, subD_i, negD_i, iaddD_i, mulD_e, fdivD_e, ifdivD_e, modD_e, leD_i, ltD_i, gtD_i, geD_i, lenD_t, lenD_l, isNd_n, notNd_n, isBd_b, notBd_b, isNonD_i, isNonD_n, isNonD_t, isNonD_l, eqD_int, neD_int, eqD_bool, neD_bool, eqD_fr, neD_fr, ix_fr0, ix_fr1, kit_int, kit_bool, kit_str, kit_tuple, decide_eq_true_eq, Bool.not_eq_true', decide_eq_false_iff_not, line_nil, line1, line2, if_true, if_false, dIsiX, S.exn.injEq, List.length_cons, List.length_nil, sizeLine_eq, Nat.reduceAdd, Nat.reduceLeDiff, Nat.zero_add]
  refine ⟨er, rfl, er, rfl, er, rfl, er, rfl, er, rfl, er, rfl, _, e0 _ _ _ _ _ _, ?_⟩
  simp only [dRet, dRetN, dSeq, dPar, dPar3, dCons, dNil, dCaB, dVar, dC, dCmpT, dCmp, dU, dB, dAndV, dOrV, dNotV, dAnd, dOr, dNot, dIf, dTup, dLst, dChain, dChainT, dTest, dIsi, dAsg, dDrop, dIfS, gN, gT, gs0, gs1, dAug, dNext, dRaise, dCall, dYes, topE, List.getElem?_cons_succ, List.getElem?_cons_zero, List.set_cons_zero, List.set_cons_succ, Option.some.injEq, S.val.injEq, exists_eq_left', exists_eq_left, exists_and_left, and_assoc, List.cons.injEq, and_true, true_and, PyData.int.injEq, PyData.bool.injEq, PyData.tuple.injEq, PyData.list.injEq, absD_i, maxD_i, addD_i, subD_i, negD_i, iaddD_i, mulD_e, fdivD_e, ifdivD_e, modD_e, leD_i, ltD_i, gtD_i, geD_i, lenD_t, lenD_l, isNd_n, notNd_n, isBd_b, notBd_b, isNonD_i, isNonD_n, isNonD_t, isNonD_l, eqD_int, neD_int, eqD_bool, neD_bool, eqD_fr, neD_fr, ix_fr0, ix_fr1, kit_int, kit_bool, kit_str, kit_tuple, decide_eq_true_eq, Bool.not_eq_true', decide_eq_false_iff_not, line_nil, line1, line2, if_true, if_false, dMeth, dIsiX, S.exn.injEq, List.length_cons, List.length_nil, sizeLine_eq, Nat.reduceAdd, Nat.reduceLeDiff, Nat.zero_add]
  cases er
  all_goals
    refine ⟨_, rfl, ?_⟩
    simp only [dRet, dRetN, dSeq, dPar, dPar3, dCons, dNil, dCaB, dVar, dC, dCmpT, dCmp, dU, dB, dAndV, dOrV, dNotV, dAnd, dOr, dNot, dIf, dTup, dLst, dChain, dChainT, dTest, dIsi, dAsg, dDrop, dIfS, gN, gT, gs0, gs1, dAug, dNext, dRaise, dCall, dYes, topE, List.getElem?_cons_succ, List.getElem?_cons_zero, List.set_cons_zero, List.set_cons_succ, Option.some.injEq, S.val.injEq, exists_eq_left', exists_eq_left, exists_and_left, and_assoc, List.cons.injEq, and_true, true_and, PyData.int.injEq, PyData.bool.injEq, PyData.tuple.injEq, PyData.list.injEq, absD_i, maxD_i, addD_i, subD_i, negD_i, iaddD_i, mulD_e, fdivD_e, ifdivD_e, modD_e, leD_i, ltD_i, gtD_i, geD_i, lenD_t, lenD_l, isNd_n, notNd_n, isBd_b, notBd_b, isNonD_i, isNonD_n, isNonD_t, isNonD_l, eqD_int, neD_int, eqD_bool, neD_bool, eqD_fr, neD_fr, ix_fr0, ix_fr1, kit_int, kit_bool, kit_str, kit_tuple, decide_eq_true_eq, Bool.not_eq_true', decide_eq_false_iff_not, line_nil, line1, line2, if_true, if_false]
    rw [if_neg (by decide)]
    refine ⟨_, rfl, ?_⟩
    rw [if_neg (by decide)]
    refine ⟨_, rfl, ?_⟩
    rw [if_neg (by decide)]
    exact ⟨_, rfl, _, rfl, rfl⟩
abbrev s_is_int : Stmt := topS 10
theorem sc_is_int : FnScope ["value", "low", "high"] ["value", "low", "high"] (defScope s_is_int) := ⟨rfl, rfl, rfl, by decide +kernel, rfl, by decide +kernel, by decide +kernel⟩
def c_is_int : Ct := fun ds q => ∃ v lo hi, ds = [v, .int lo, .int hi] ∧ q (.ok (.bool (isIntB v lo hi)))
theorem ok_is_int (F : Fun K "is_int" "is_int" s_is_int f fd) (m_bool : mg "bool" = none) (m_int : mg "int" = none) (m_isinstance : mg "isinstance" = none) : FnOk P w K mg base (L2.CX P w) 1 f fd ["value", "low", "high"] (spD K ca c_is_int 3) := by
  refine fn_ok F sc_is_int rfl (fun cdv A outer s H E hr tk po hu hu5 => ?_)
  refine ⟨_, _, pdb_one (pds_ret (pd_and (pd_isi (K := K) (pd_var (pv 0)) rfl m_isinstance (pe_bltn (v := .ty "int") rfl m_int boot_int rfl)) (pd_and (pd_not (pd_isi (K := K) (pd_var (pv 0)) rfl m_isinstance (pe_bltn (v := .ty "bool") rfl m_bool boot_bool rfl))) (pd_one (pd_chain op_le cm_le op_le cm_le (pd_var (pv 1)) (pd_var (pv 0)) (pd_var (pv 2))))))), ?_⟩
  clear hr tk po hu hu5
  intro ds q hl hc
  obtain ⟨v, lo, hi, rfl, hq⟩ := hc
  rw [show start0 (["value", "low", "high"] : List Str) [v, .int lo, .int hi] = [some (.val (v)), some (.val (.int lo)), some (.val (.int hi))] from rfl]
  cases v with
  | int i =>
    simp only [dRet, dRetN, dSeq, dPar, dPar3, dCons, dNil, dCaB, dVar, dC, dCmpT, dCmp, dU, dB, dAndV, dOrV, dNotV, dAnd, dOr, dNot, dIf, dTup, dLst, dChain, dChainT, dTest, dIsi, dAsg, dDrop, dIfS, gN, gT, gs0, gs1, dAug, dNext, dRaise, dCall, dYes, topE, List.getElem?_cons_succ, List.getElem?_cons_zero, List.set_cons_zero, List.set_cons_succ, Option.some.injEq, S.val.injEq, exists_eq_left', exists_eq_left, exists_and_left, and_assoc, List.cons.injEq, and_true, true_and, PyData.int.injEq, PyData.bool.injEq, PyData.tuple.injEq, PyData.list.injEq, absD_i, maxD_i, addD_i, subD_i, negD_i, iaddD_i, mulD_e, fdivD_e, ifdivD_e, modD_e, leD_i, ltD_i, gtD_i, geD_i, lenD_t, lenD_l, isNd_n, notNd_n, isBd_b, notBd_b, isNonD_i, isNonD_n, isNonD_t, isNonD_l, eqD_int, neD_int, eqD_bool, neD_bool, eqD_fr, neD_fr, ix_fr0, ix_fr1, kit_int, kit_bool, kit_str, kit_tuple, decide_eq_true_eq, Bool.not_eq_true', decide_eq_false_iff_not, line_nil, line1, line2, if_true, if_false, yInt, yBool, if_true]
    have e : isIntB (.int i) lo hi = decide (lo ≤ i ∧ i ≤ hi) := rfl
    rw [e] at hq
    by_cases h : lo ≤ i
    · rw [if_pos h]
      have e2 : decide (lo ≤ i ∧ i ≤ hi) = decide (i ≤ hi) := by simp [h]
      rw [e2] at hq
      exact hq
    · rw [if_neg h]
      have e2 : decide (lo ≤ i ∧ i ≤ hi) = false := by simp [h]
      rw [e2] at hq
      exact hq
  | none => simp only [dRet, dRetN, dSeq, dPar, dPar3, dCons, dNil, dCaB, dVar, dC, dCmpT, dCmp, dU, dB, dAndV, dOrV, dNotV, dAnd, dOr, dNot, dIf, dTup, dLst, dChain, dChainT, dTest, dIsi, dAsg, dDrop, dIfS, gN, gT, gs0, gs1, dAug, dNext, dRaise, dCall, dYes, topE, List.getElem?_cons_succ, List.getElem?_cons_zero, List.set_cons_zero, List.set_cons_succ, Option.some.injEq, S.val.injEq, exists_eq_left', exists_eq_left, exists_and_left, and_assoc, List.cons.injEq, and_true, true_and, PyData.int.injEq, PyData.bool.injEq, PyData.tuple.injEq, PyData.list.injEq, absD_i, maxD_i, addD_i, subD_i, negD_i, iaddD_i, mulD_e, fdivD_e, ifdivD_e, modD_e, leD_i, ltD_i, gtD_i, geD_i, lenD_t, lenD_l, isNd_n, notNd_n, isBd_b, notBd_b, isNonD_i, isNonD_n, isNonD_t, isNonD_l, eqD_int, neD_int, eqD_bool, neD_bool, eqD_fr, neD_fr, ix_fr0, ix_fr1, kit_int, kit_bool, kit_str, kit_tuple, decide_eq_true_eq, Bool.not_eq_true', decide_eq_false_iff_not, line_nil, line1, line2, if_true, if_false, yInt, Bool.false_eq_true, if_false]; exact hq
  | bool b => simp only [dRet, dRetN, dSeq, dPar, dPar3, dCons, dNil, dCaB, dVar, dC, dCmpT, dCmp, dU, dB, dAndV, dOrV, dNotV, dAnd, dOr, dNot, dIf, dTup, dLst, dChain, dChainT, dTest, dIsi, dAsg, dDrop, dIfS, gN, gT, gs0, gs1, dAug, dNext, dRaise, dCall, dYes, topE, List.getElem?_cons_succ, List.getElem?_cons_zero, List.set_cons_zero, List.set_cons_succ, Option.some.injEq, S.val.injEq, exists_eq_left', exists_eq_left, exists_and_left, and_assoc, List.cons.injEq, and_true, true_and, PyData.int.injEq, PyData.bool.injEq, PyData.tuple.injEq, PyData.list.injEq, absD_i, maxD_i, addD_i, subD_i, negD_i, iaddD_i, mulD_e, fdivD_e, ifdivD_e, modD_e, leD_i, ltD_i, gtD_i, geD_i, lenD_t, lenD_l, isNd_n, notNd_n, isBd_b, notBd_b, isNonD_i, isNonD_n, isNonD_t, isNonD_l, eqD_int, neD_int, eqD_bool, neD_bool, eqD_fr, neD_fr, ix_fr0, ix_fr1, kit_int, kit_bool, kit_str, kit_tuple, decide_eq_true_eq, Bool.not_eq_true', decide_eq_false_iff_not, line_nil, line1, line2, if_true, if_false, yInt, yBool, Bool.true_eq_false, Bool.false_eq_true, if_true, if_false]; exact hq
  | str x => simp only [dRet, dRetN, dSeq, dPar, dPar3, dCons, dNil, dCaB, dVar, dC, dCmpT, dCmp, dU, dB, dAndV, dOrV, dNotV, dAnd, dOr, dNot, dIf, dTup, dLst, dChain, dChainT, dTest, dIsi, dAsg, dDrop, dIfS, gN, gT, gs0, gs1, dAug, dNext, dRaise, dCall, dYes, topE, List.getElem?_cons_succ, List.getElem?_cons_zero, List.set_cons_zero, List.set_cons_succ, Option.some.injEq, S.val.injEq, exists_eq_left', exists_eq_left, exists_and_left, and_assoc, List.cons.injEq, and_true, true_and, PyData.int.injEq, PyData.bool.injEq, PyData.tuple.injEq, PyData.list.injEq, absD_i, maxD_i, addD_i, subD_i, negD_i, iaddD_i, mulD_e, fdivD_e, ifdivD_e, modD_e, leD_i, ltD_i, gtD_i, geD_i, lenD_t, lenD_l, isNd_n, notNd_n, isBd_b, notBd_b, isNonD_i, isNonD_n, isNonD_t, isNonD_l, eqD_int, neD_int, eqD_bool, neD_bool, eqD_fr, neD_fr, ix_fr0, ix_fr1, kit_int, kit_bool, kit_str, kit_tuple, decide_eq_true_eq, Bool.not_eq_true', decide_eq_false_iff_not, line_nil, line1, line2, if_true, if_false, yInt, Bool.false_eq_true, if_false]; exact hq
  | list x => simp only [dRet, dRetN, dSeq, dPar, dPar3, dCons, dNil, dCaB, dVar, dC, dCmpT, dCmp, dU, dB, dAndV, dOrV, dNotV, dAnd, dOr, dNot, dIf, dTup, dLst, dChain, dChainT, dTest, dIsi, dAsg, dDrop, dIfS, gN, gT, gs0, gs1, dAug, dNext, dRaise, dCall, dYes, topE, List.getElem?_cons_succ, List.getElem?_cons_zero, List.set_cons_zero, List.set_cons_succ, Option.some.injEq, S.val.injEq, exists_eq_left', exists_eq_left, exists_and_left, and_assoc, List.cons.injEq, and_true, true_and, PyData.int.injEq, PyData.bool.injEq, PyData.tuple.injEq, PyData.list.injEq, absD_i, maxD_i, addD_i, subD_i, negD_i, iaddD_i, mulD_e, fdivD_e, ifdivD_e, modD_e, leD_i, ltD_i, gtD_i, geD_i, lenD_t, lenD_l, isNd_n, notNd_n, isBd_b, notBd_b, isNonD_i, isNonD_n, isNonD_t, isNonD_l, eqD_int, neD_int, eqD_bool, neD_bool, eqD_fr, neD_fr, ix_fr0, ix_fr1, kit_int, kit_bool, kit_str, kit_tuple, decide_eq_true_eq, Bool.not_eq_true', decide_eq_false_iff_not, line_nil, line1, line2, if_true, if_false, yInt, Bool.false_eq_true, if_false]; exact hq
  | tuple x => simp only [dRet, dRetN, dSeq, dPar, dPar3, dCons, dNil, dCaB, dVar, dC, dCmpT, dCmp, dU, dB, dAndV, dOrV, dNotV, dAnd, dOr, dNot, dIf, dTup, dLst, dChain, dChainT, dTest, dIsi, dAsg, dDrop, dIfS, gN, gT, gs0, gs1, dAug, dNext, dRaise, dCall, dYes, topE, List.getElem?_cons_succ, List.getElem?_cons_zero, List.set_cons_zero, List.set_cons_succ, Option.some.injEq, S.val.injEq, exists_eq_left', exists_eq_left, exists_and_left, and_assoc, List.cons.injEq, and_true, true_and, PyData.int.injEq, PyData.bool.injEq, PyData.tuple.injEq, PyData.list.injEq, absD_i, maxD_i, addD_i, subD_i, negD_i, iaddD_i, mulD_e, fdivD_e, ifdivD_e, modD_e, leD_i, ltD_i, gtD_i, geD_i, lenD_t, lenD_l, isNd_n, notNd_n, isBd_b, notBd_b, isNonD_i, isNonD_n, isNonD_t, isNonD_l, eqD_int, neD_int, eqD_bool, neD_bool, eqD_fr, neD_fr, ix_fr0, ix_fr1, kit_int, kit_bool, kit_str, kit_tuple, decide_eq_true_eq, Bool.not_eq_true', decide_eq_false_iff_not, line_nil, line1, line2, if_true, if_false, yInt, Bool.false_eq_true, if_false]; exact hq
  | dict x => simp only [dRet, dRetN, dSeq, dPar, dPar3, dCons, dNil, dCaB, dVar, dC, dCmpT, dCmp, dU, dB, dAndV, dOrV, dNotV, dAnd, dOr, dNot, dIf, dTup, dLst, dChain, dChainT, dTest, dIsi, dAsg, dDrop, dIfS, gN, gT, gs0, gs1, dAug, dNext, dRaise, dCall, dYes, topE, List.getElem?_cons_succ, List.getElem?_cons_zero, List.set_cons_zero, List.set_cons_succ, Option.some.injEq, S.val.injEq, exists_eq_left', exists_eq_left, exists_and_left, and_assoc, List.cons.injEq, and_true, true_and, PyData.int.injEq, PyData.bool.injEq, PyData.tuple.injEq, PyData.list.injEq, absD_i, maxD_i, addD_i, subD_i, negD_i, iaddD_i, mulD_e, fdivD_e, ifdivD_e, modD_e, leD_i, ltD_i, gtD_i, geD_i, lenD_t, lenD_l, isNd_n, notNd_n, isBd_b, notBd_b, isNonD_i, isNonD_n, isNonD_t, isNonD_l, eqD_int, neD_int, eqD_bool, neD_bool, eqD_fr, neD_fr, ix_fr0, ix_fr1, kit_int, kit_bool, kit_str, kit_tuple, decide_eq_true_eq, Bool.not_eq_true', decide_eq_false_iff_not, line_nil, line1, line2, if_true, if_false, yInt, Bool.false_eq_true, if_false]; exact hq
theorem c_is_int_e (v : PyData) (lo hi : Int) (q : Res → Prop) : c_is_int [v, .int lo, .int hi] q ↔ q (.ok (.bool (isIntB v lo hi))) :=
  ⟨fun ⟨_, _, _, e, h⟩ => by cases e; exact h, fun h => ⟨_, _, _, rfl, h⟩⟩
abbrev s_check_digits : Stmt := topS 13
theorem sc_check_digits : FnScope ["value"] ["value"] (defScope s_check_digits) := ⟨rfl, rfl, rfl, by decide +kernel, rfl, by decide +kernel, by decide +kernel⟩
def c_check_digits : Ct := fun ds q => ∃ v, ds = [v] ∧ q (if isIntB v 0 6 = true then .ok .none else .er .num)
theorem ok_check_digits (F : Fun K "check_digits" "check_digits" s_check_digits f fd) (F_is_int : Fd P w K mg base ca "is_int" c_is_int 3 1) (g_MOST_DIGITS : ∃ t, mg "MOST_DIGITS" = some (.int 6 t)) (X_num : Xf K mg "BadNumber" (ca .num)) : FnOk P w K mg base (L2.CX P w) 2 f fd ["value"] (spD K ca c_check_digits 1) := by
  refine fn_ok F sc_check_digits rfl (fun cdv A outer s H E hr tk po hu hu5 => ?_)
  refine ⟨_, _, pdb_one (pds_if (pdt_not (pdt_val (pd_fn F_is_int (hr.mono (by decide)) (by rfl) tk (pda_cons (pd_var (pv 0)) (pda_cons pd_int (pda_cons (pd_gint (by rfl) g_MOST_DIGITS) pda_nil)))))) (pdb_one (pds_raise (er := .num) X_num rfl tk rfl)) (pdb_nil)), ?_⟩
  clear hr tk po hu hu5
  intro ds q hl hc
  obtain ⟨v, rfl, hq⟩ := hc
  rw [show start0 (["value"] : List Str) [v] = [some (.val (v))] from rfl]
  simp only [dRet, dRetN, dSeq, dPar, dPar3, dCons, dNil, dCaB, dVar, dC, dCmpT, dCmp, dU, dB, dAndV, dOrV, dNotV, dAnd, dOr, dNot, dIf, dTup, dLst, dChain, dChainT, dTest, dIsi, dAsg, dDrop, dIfS, gN, gT, gs0, gs1, dAug, dNext, dRaise, dCall, dYes, topE, List.getElem?_cons_succ, List.getElem?_cons_zero, List.set_cons_zero, List.set_cons_succ, Option.some.injEq, S.val.injEq, exists_eq_left', exists_eq_left, exists_and_left, and_assoc, List.cons.injEq, and_true, true_and, PyData.int.injEq, PyData.bool.injEq, PyData.tuple.injEq, PyData.list.injEq, absD_i, maxD_i, addD_i, subD_i, negD_i, iaddD_i, mulD_e, fdivD_e, ifdivD_e, modD_e, leD_i, ltD_i, gtD_i, geD_i, lenD_t, lenD_l, isNd_n, notNd_n, isBd_b, notBd_b, isNonD_i, isNonD_n, isNonD_t, isNonD_l, eqD_int, neD_int, eqD_bool, neD_bool, eqD_fr, neD_fr, ix_fr0, ix_fr1, kit_int, kit_bool, kit_str, kit_tuple, decide_eq_true_eq, Bool.not_eq_true', decide_eq_false_iff_not, line_nil, line1, line2, if_true, if_false, c_is_int_e]
  cases h : isIntB v 0 6 with
  | true => rw [h, if_pos rfl] at hq; simpa using hq
  | false => rw [h, if_neg Bool.false_ne_true] at hq; simpa using hq
theorem c_check_digits_e (v : PyData) (q : Res → Prop) : c_check_digits [v] q ↔ q (if isIntB v 0 6 = true then .ok .none else .er .num) :=
  ⟨fun ⟨_, e, h⟩ => by cases e; exact h, fun h => ⟨_, rfl, h⟩⟩
abbrev s_check_whole : Stmt := topS 14
theorem sc_check_whole : FnScope ["value", "digits"] ["value", "digits"] (defScope s_check_whole) := ⟨rfl, rfl, rfl, by decide +kernel, rfl, by decide +kernel, by decide +kernel⟩
def c_check_whole : Ct := fun ds q => ∃ (v : PyData) (d : Int), ds = [v, .int d] ∧ (0 ≤ d ∧ d ≤ 6) ∧ q (if isIntB v (-101 * powT d) (101 * powT d) = true then .ok .none else .er .num)
theorem ok_check_whole (F : Fun K "check_whole" "check_whole" s_check_whole f fd) (F_is_int : Fd P w K mg base ca "is_int" c_is_int 3 1) (F_power_of : Fd P w K mg base ca "power_of" c_power_of 1 1) (X_num : Xf K mg "BadNumber" (ca .num)) : FnOk P w K mg base (L2.CX P w) 2 f fd ["value", "digits"] (spD K ca c_check_whole 2) := by
  refine fn_ok F sc_check_whole rfl (fun cdv A outer s H E hr tk po hu hu5 => ?_)
  refine ⟨_, _, pdb_one (pds_if (pdt_not (pdt_val (pd_fn F_is_int (hr.mono (by decide)) (by rfl) tk (pda_cons (pd_var (pv 0)) (pda_cons (pd_op op_mul od_mul (pd_un un_neg ud_neg pd_int) (pd_fn F_power_of (hr.mono (by decide)) (by rfl) tk (pda_cons (pd_var (pv 1)) pda_nil))) (pda_cons (pd_op op_mul od_mul pd_int (pd_fn F_power_of (hr.mono (by decide)) (by rfl) tk (pda_cons (pd_var (pv 1)) pda_nil))) pda_nil)))))) (pdb_one (pds_raise (er := .num) X_num rfl tk rfl)) (pdb_nil)), ?_⟩
  clear hr tk po hu hu5
  intro ds q hl hc
  obtain ⟨v, d, rfl, hd, hq⟩ := hc
  rw [show start0 (["value", "digits"] : List Str) [v, .int d] = [some (.val (v)), some (.val (.int d))] from rfl]
  have hp := powT_lt hd.2
  simp only [dRet, dRetN, dSeq, dPar, dPar3, dCons, dNil, dCaB, dVar, dC, dCmpT, dCmp, dU, dB, dAndV, dOrV, dNotV, dAnd, dOr, dNot, dIf, dTup, dLst, dChain, dChainT, dTest, dIsi, dAsg, dDrop, dIfS, gN, gT, gs0, gs1, dAug, dNext, dRaise, dCall, dYes, topE, List.getElem?_cons_succ, List.getElem?_cons_zero, List.set_cons_zero, List.set_cons_succ, Option.some.injEq, S.val.injEq, exists_eq_left', exists_eq_left, exists_and_left, and_assoc, List.cons.injEq, and_true, true_and, PyData.int.injEq, PyData.bool.injEq, PyData.tuple.injEq, PyData.list.injEq, absD_i, maxD_i, addD_i, subD_i, negD_i, iaddD_i, mulD_e, fdivD_e, ifdivD_e, modD_e, leD_i, ltD_i, gtD_i, geD_i, lenD_t, lenD_l, isNd_n, notNd_n, isBd_b, notBd_b, isNonD_i, isNonD_n, isNonD_t, isNonD_l, eqD_int, neD_int, eqD_bool, neD_bool, eqD_fr, neD_fr, ix_fr0, ix_fr1, kit_int, kit_bool, kit_str, kit_tuple, decide_eq_true_eq, Bool.not_eq_true', decide_eq_false_iff_not, line_nil, line1, line2, if_true, if_false, c_power_of_e, c_is_int_e]
  refine ⟨hd.1, by omega, mulOk_l (by decide) (by decide), hd.1, by omega, mulOk_l (by decide) (by decide), ?_⟩
  cases h : isIntB v (-101 * powT d) (101 * powT d) with
  | true => rw [h, if_pos rfl] at hq; simpa using hq
  | false => rw [h, if_neg Bool.false_ne_true] at hq; simpa using hq
theorem c_check_whole_e (v : PyData) (d : Int) (q : Res → Prop) : c_check_whole [v, .int d] q ↔ (0 ≤ d ∧ d ≤ 6) ∧ q (if isIntB v (-101 * powT d) (101 * powT d) = true then .ok .none else .er .num) :=
  ⟨fun ⟨_, _, e, h⟩ => by cases e; exact h, fun h => ⟨_, _, rfl, h⟩⟩
abbrev s_check_rule : Stmt := topS 12
theorem sc_check_rule : FnScope ["value"] ["value"] (defScope s_check_rule) := ⟨rfl, rfl, rfl, by decide +kernel, rfl, by decide +kernel, by decide +kernel⟩
def c_check_rule : Ct := fun ds q => ∃ v, ds = [v] ∧ q (if isRuleB v = true then .ok .none else .er .rul)
theorem ok_check_rule (F : Fun K "check_rule" "check_rule" s_check_rule f fd) (m_isinstance : mg "isinstance" = none) (m_str : mg "str" = none) {a_RULES : Addr} (g_RULES : mg "RULES" = some (.ref a_RULES)) (d_RULES : ∀ H, Dv K H (.ref a_RULES) (.tuple rulesD)) (X_rul : Xf K mg "BadRule" (ca .rul)) : FnOk P w K mg base (L2.CX P w) 1 f fd ["value"] (spD K ca c_check_rule 1) := by
  refine fn_ok F sc_check_rule rfl (fun cdv A outer s H E hr tk po hu hu5 => ?_)
  refine ⟨_, _, pdb_one (pds_if (PDW.pt (pdw_or (pdt_not (pdt_val (pd_isi (K := K) (pd_var (pv 0)) rfl m_isinstance (pe_bltn (v := .ty "str") rfl m_str boot_str rfl)))) (pdw_or1 (pdt_cmp (r := rIn K true) op_notIn_seq cm_notInT (pd_var (pv 0)) (PD.pv (pd_gtup (by rfl) g_RULES d_RULES)) (by rfl))))) (pdb_one (pds_raise (er := .rul) X_rul rfl tk rfl)) (pdb_nil)), ?_⟩
  clear hr tk po hu hu5
  intro ds q hl hc
  obtain ⟨v, rfl, hq⟩ := hc
  rw [show start0 (["value"] : List Str) [v] = [some (.val (v))] from rfl]
  cases v with
  | str x =>
    simp only [dRet, dRetN, dSeq, dPar, dPar3, dCons, dNil, dCaB, dVar, dC, dCmpT, dCmp, dU, dB, dAndV, dOrV, dNotV, dAnd, dOr, dNot, dIf, dTup, dLst, dChain, dChainT, dTest, dIsi, dAsg, dDrop, dIfS, gN, gT, gs0, gs1, dAug, dNext, dRaise, dCall, dYes, topE, List.getElem?_cons_succ, List.getElem?_cons_zero, List.set_cons_zero, List.set_cons_succ, Option.some.injEq, S.val.injEq, exists_eq_left', exists_eq_left, exists_and_left, and_assoc, List.cons.injEq, and_true, true_and, PyData.int.injEq, PyData.bool.injEq, PyData.tuple.injEq, PyData.list.injEq, absD_i, maxD_i, addD_i, subD_i, negD_i, iaddD_i, mulD_e, fdivD_e, ifdivD_e, modD_e, leD_i, ltD_i, gtD_i, geD_i, lenD_t, lenD_l, isNd_n, notNd_n, isBd_b, notBd_b, isNonD_i, isNonD_n, isNonD_t, isNonD_l, eqD_int, neD_int, eqD_bool, neD_bool, eqD_fr, neD_fr, ix_fr0, ix_fr1, kit_int, kit_bool, kit_str, kit_tuple, decide_eq_true_eq, Bool.not_eq_true', decide_eq_false_iff_not, line_nil, line1, line2, if_true, if_false, yStr, Bool.true_eq_false, if_false, notInRules]
    by_cases h : x ∈ ruAll.map ruS
    · have e : isRuleB (.str x) = true := by simp [isRuleB, h]
      rw [e, if_pos rfl] at hq
      rw [if_neg (by simp only [h, not_true]; exact not_false)]
      exact hq
    · have e : isRuleB (.str x) = false := by simp only [isRuleB, h]; rfl
      rw [e, if_neg Bool.false_ne_true] at hq
      rw [if_pos h]
      exact hq
  | _ => simp only [dRet, dRetN, dSeq, dPar, dPar3, dCons, dNil, dCaB, dVar, dC, dCmpT, dCmp, dU, dB, dAndV, dOrV, dNotV, dAnd, dOr, dNot, dIf, dTup, dLst, dChain, dChainT, dTest, dIsi, dAsg, dDrop, dIfS, gN, gT, gs0, gs1, dAug, dNext, dRaise, dCall, dYes, topE, List.getElem?_cons_succ, List.getElem?_cons_zero, List.set_cons_zero, List.set_cons_succ, Option.some.injEq, S.val.injEq, exists_eq_left', exists_eq_left, exists_and_left, and_assoc, List.cons.injEq, and_true, true_and, PyData.int.injEq, PyData.bool.injEq, PyData.tuple.injEq, PyData.list.injEq, absD_i, maxD_i, addD_i, subD_i, negD_i, iaddD_i, mulD_e, fdivD_e, ifdivD_e, modD_e, leD_i, ltD_i, gtD_i, geD_i, lenD_t, lenD_l, isNd_n, notNd_n, isBd_b, notBd_b, isNonD_i, isNonD_n, isNonD_t, isNonD_l, eqD_int, neD_int, eqD_bool, neD_bool, eqD_fr, neD_fr, ix_fr0, ix_fr1, kit_int, kit_bool, kit_str, kit_tuple, decide_eq_true_eq, Bool.not_eq_true', decide_eq_false_iff_not, line_nil, line1, line2, if_true, if_false, yStr, if_true]; simpa [isRuleB] using hq
theorem c_check_rule_e (v : PyData) (q : Res → Prop) : c_check_rule [v] q ↔ q (if isRuleB v = true then .ok .none else .er .rul) :=
  ⟨fun ⟨_, e, h⟩ => by cases e; exact h, fun h => ⟨_, rfl, h⟩⟩
abbrev s_met : Stmt := topS 21
theorem sc_met : FnScope ["one", "other", "low", "low_in", "high", "high_in"] ["one", "other"] (defScope s_met) := ⟨rfl, rfl, rfl, by decide +kernel, rfl, by decide +kernel, by decide +kernel⟩
def c_met : Ct := fun ds q => ∃ (a b : Int) (i : Bool) (c d : Int) (j : Bool) (x y : Int) (k : Bool) (z t : Int) (m : Bool), ds = [spanT a b i c d j, spanT x y k z t m] ∧ ((0 < b ∧ b < 2 ^ 60) ∧ (0 < d ∧ d < 2 ^ 60)) ∧ ((0 < y ∧ y < 2 ^ 60) ∧ (0 < t ∧ t < 2 ^ 60)) ∧ q (.ok (spanT (mLo a b i x y k).1 (mLo a b i x y k).2.1 (mLo a b i x y k).2.2 (mHi c d j z t m).1 (mHi c d j z t m).2.1 (mHi c d j z t m).2.2))
theorem ok_met (F : Fun K "met" "met" s_met f fd) (F_less : Fd P w K mg base ca "less" c_less 2 1) : FnOk P w K mg base (L2.CX P w) 2 f fd ["one", "other"] (spD K ca c_met 2) := by
  refine fn_ok F sc_met rfl (fun cdv A outer s H E hr tk po hu hu5 => ?_)
  refine ⟨_, _, pdb_cons (pds_par (pda_cons (pd_ix (r := rIx K) ix_seq od_ix (pd_var (pv 0)) pd_int (fun _ _ => rfl)) (pda_cons (pd_ix (r := rIx K) ix_seq od_ix (pd_var (pv 0)) pd_int (fun _ _ => rfl)) pda_nil)) (fun h => ps_par (i := 2) (j := 3) rfl sc_met.nd rfl rfl (by decide) rfl rfl h (by rfl)))
      (pdb_cons (pds_if (pdt_val (pd_fn F_less (hr.mono (by decide)) (by rfl) tk (pda_cons (pd_var (pv 2)) (pda_cons (pd_ix (r := rIx K) ix_seq od_ix (pd_var (pv 1)) pd_int (fun _ _ => rfl)) pda_nil)))) (pdb_one (pds_par (pda_cons (pd_ix (r := rIx K) ix_seq od_ix (pd_var (pv 1)) pd_int (fun _ _ => rfl)) (pda_cons (pd_ix (r := rIx K) ix_seq od_ix (pd_var (pv 1)) pd_int (fun _ _ => rfl)) pda_nil)) (fun h => ps_par (i := 2) (j := 3) rfl sc_met.nd rfl rfl (by decide) rfl rfl h (by rfl)))) (pdb_one (pds_if (pdt_cmp (r := rEqD K) (op_eqD hu) cm_eq (pd_var (pv 2)) (PD.pv (pd_ix (r := rIx K) ix_seq od_ix (pd_var (pv 1)) pd_int (fun _ _ => rfl))) (nomark _)) (pdb_one (pds_set (pd_and (pd_var (pv 3)) (pd_one (pd_ix (r := rIx K) ix_seq od_ix (pd_var (pv 1)) pd_int (fun _ _ => rfl)))) (fun h => ps_set (i := 3) sc_met.nd rfl (.inl rfl) h))) (pdb_nil))))
      (pdb_cons (pds_par (pda_cons (pd_ix (r := rIx K) ix_seq od_ix (pd_var (pv 0)) pd_int (fun _ _ => rfl)) (pda_cons (pd_ix (r := rIx K) ix_seq od_ix (pd_var (pv 0)) pd_int (fun _ _ => rfl)) pda_nil)) (fun h => ps_par (i := 4) (j := 5) rfl sc_met.nd rfl rfl (by decide) rfl rfl h (by rfl)))
      (pdb_cons (pds_if (pdt_val (pd_fn F_less (hr.mono (by decide)) (by rfl) tk (pda_cons (pd_ix (r := rIx K) ix_seq od_ix (pd_var (pv 1)) pd_int (fun _ _ => rfl)) (pda_cons (pd_var (pv 4)) pda_nil)))) (pdb_one (pds_par (pda_cons (pd_ix (r := rIx K) ix_seq od_ix (pd_var (pv 1)) pd_int (fun _ _ => rfl)) (pda_cons (pd_ix (r := rIx K) ix_seq od_ix (pd_var (pv 1)) pd_int (fun _ _ => rfl)) pda_nil)) (fun h => ps_par (i := 4) (j := 5) rfl sc_met.nd rfl rfl (by decide) rfl rfl h (by rfl)))) (pdb_one (pds_if (pdt_cmp (r := rEqD K) (op_eqD hu) cm_eq (pd_var (pv 4)) (PD.pv (pd_ix (r := rIx K) ix_seq od_ix (pd_var (pv 1)) pd_int (fun _ _ => rfl))) (nomark _)) (pdb_one (pds_set (pd_and (pd_var (pv 5)) (pd_one (pd_ix (r := rIx K) ix_seq od_ix (pd_var (pv 1)) pd_int (fun _ _ => rfl)))) (fun h => ps_set (i := 5) sc_met.nd rfl (.inl rfl) h))) (pdb_nil))))
      (pdb_one (pds_ret (pd_tup (pda_cons (pd_var (pv 2)) (pda_cons (pd_var (pv 3)) (pda_cons (pd_var (pv 4)) (pda_cons (pd_var (pv 5)) pda_nil)))))))))), ?_⟩
  clear hr tk po hu hu5
  intro ds q hl hc
  obtain ⟨a, b, i, c, d, j, x, y, k, z, t, m, rfl, ⟨hb, hd⟩, ⟨hy, ht⟩, hq⟩ := hc
  rw [show start0 (["one", "other", "low", "low_in", "high", "high_in"] : List Str) [spanT a b i c d j, spanT x y k z t m] = [some (.val (spanT a b i c d j)), some (.val (spanT x y k z t m)), none, none, none, none] from rfl]
  have ix0 : ixD (spanT a b i c d j) (.int 0) = some (fr a b) := rfl
  have ix1 : ixD (spanT a b i c d j) (.int 1) = some (.bool i) := rfl
  have ix2 : ixD (spanT a b i c d j) (.int 2) = some (fr c d) := rfl
  have ix3 : ixD (spanT a b i c d j) (.int 3) = some (.bool j) := rfl

  have iy0 : ixD (spanT x y k z t m) (.int 0) = some (fr x y) := rfl
  have iy1 : ixD (spanT x y k z t m) (.int 1) = some (.bool k) := rfl
  have iy2 : ixD (spanT x y k z t m) (.int 2) = some (fr z t) := rfl
  have iy3 : ixD (spanT x y k z t m) (.int 3) = some (.bool m) := rfl
  refine seq_mk fun k' hk => ?_
  simp only [dRet, dRetN, dSeq, dPar, dPar3, dCons, dNil, dCaB, dVar, dC, dCmpT, dCmp, dU, dB, dAndV, dOrV, dNotV, dAnd, dOr, dNot, dIf, dTup, dLst, dChain, dChainT, dTest, dIsi, dAsg, dDrop, dIfS, gN, gT, gs0, gs1, dAug, dNext, dRaise, dCall, dYes, topE, List.getElem?_cons_succ, List.getElem?_cons_zero, List.set_cons_zero, List.set_cons_succ, Option.some.injEq, S.val.injEq, exists_eq_left', exists_eq_left, exists_and_left, and_assoc, List.cons.injEq, and_true, true_and, PyData.int.injEq, PyData.bool.injEq, PyData.tuple.injEq, PyData.list.injEq, absD_i, maxD_i, addD_i, subD_i, negD_i, iaddD_i, mulD_e, fdivD_e, ifdivD_e, modD_e, leD_i, ltD_i, gtD_i, geD_i, lenD_t, lenD_l, isNd_n, notNd_n, isBd_b, notBd_b, isNonD_i, isNonD_n, isNonD_t, isNonD_l, eqD_int, neD_int, eqD_bool, neD_bool, eqD_fr, neD_fr, ix_fr0, ix_fr1, kit_int, kit_bool, kit_str, kit_tuple, decide_eq_true_eq, Bool.not_eq_true', decide_eq_false_iff_not, line_nil, line1, line2, if_true, if_false, ix0, ix1]
  refine hk [some (.val (spanT a b i c d j)), some (.val (spanT x y k z t m)), some (.val (fr a b)), some (.val (.bool i)), none, none] ?_
  clear hk k'
  refine seq_mk fun k' hk => ?_
  have fin : k' [some (.val (spanT a b i c d j)), some (.val (spanT x y k z t m)), some (.val (fr (mLo a b i x y k).1 (mLo a b i x y k).2.1)), some (.val (.bool (mLo a b i x y k).2.2)), none, none] := hk _ (by
    clear hk k'
    refine seq_mk fun k' hk => ?_
    simp only [dRet, dRetN, dSeq, dPar, dPar3, dCons, dNil, dCaB, dVar, dC, dCmpT, dCmp, dU, dB, dAndV, dOrV, dNotV, dAnd, dOr, dNot, dIf, dTup, dLst, dChain, dChainT, dTest, dIsi, dAsg, dDrop, dIfS, gN, gT, gs0, gs1, dAug, dNext, dRaise, dCall, dYes, topE, List.getElem?_cons_succ, List.getElem?_cons_zero, List.set_cons_zero, List.set_cons_succ, Option.some.injEq, S.val.injEq, exists_eq_left', exists_eq_left, exists_and_left, and_assoc, List.cons.injEq, and_true, true_and, PyData.int.injEq, PyData.bool.injEq, PyData.tuple.injEq, PyData.list.injEq, absD_i, maxD_i, addD_i, subD_i, negD_i, iaddD_i, mulD_e, fdivD_e, ifdivD_e, modD_e, leD_i, ltD_i, gtD_i, geD_i, lenD_t, lenD_l, isNd_n, notNd_n, isBd_b, notBd_b, isNonD_i, isNonD_n, isNonD_t, isNonD_l, eqD_int, neD_int, eqD_bool, neD_bool, eqD_fr, neD_fr, ix_fr0, ix_fr1, kit_int, kit_bool, kit_str, kit_tuple, decide_eq_true_eq, Bool.not_eq_true', decide_eq_false_iff_not, line_nil, line1, line2, if_true, if_false, ix2, ix3]
    refine hk [some (.val (spanT a b i c d j)), some (.val (spanT x y k z t m)), some (.val (fr (mLo a b i x y k).1 (mLo a b i x y k).2.1)), some (.val (.bool (mLo a b i x y k).2.2)), some (.val (fr c d)), some (.val (.bool j))] ?_
    clear hk k'
    refine seq_mk fun k' hk => ?_
    have fin : k' [some (.val (spanT a b i c d j)), some (.val (spanT x y k z t m)), some (.val (fr (mLo a b i x y k).1 (mLo a b i x y k).2.1)), some (.val (.bool (mLo a b i x y k).2.2)), some (.val (fr (mHi c d j z t m).1 (mHi c d j z t m).2.1)), some (.val (.bool (mHi c d j z t m).2.2))] := hk _ (by
      clear hk k'
      simp only [dRet, dRetN, dSeq, dPar, dPar3, dCons, dNil, dCaB, dVar, dC, dCmpT, dCmp, dU, dB, dAndV, dOrV, dNotV, dAnd, dOr, dNot, dIf, dTup, dLst, dChain, dChainT, dTest, dIsi, dAsg, dDrop, dIfS, gN, gT, gs0, gs1, dAug, dNext, dRaise, dCall, dYes, topE, List.getElem?_cons_succ, List.getElem?_cons_zero, List.set_cons_zero, List.set_cons_succ, Option.some.injEq, S.val.injEq, exists_eq_left', exists_eq_left, exists_and_left, and_assoc, List.cons.injEq, and_true, true_and, PyData.int.injEq, PyData.bool.injEq, PyData.tuple.injEq, PyData.list.injEq, absD_i, maxD_i, addD_i, subD_i, negD_i, iaddD_i, mulD_e, fdivD_e, ifdivD_e, modD_e, leD_i, ltD_i, gtD_i, geD_i, lenD_t, lenD_l, isNd_n, notNd_n, isBd_b, notBd_b, isNonD_i, isNonD_n, isNonD_t, isNonD_l, eqD_int, neD_int, eqD_bool, neD_bool, eqD_fr, neD_fr, ix_fr0, ix_fr1, kit_int, kit_bool, kit_str, kit_tuple, decide_eq_true_eq, Bool.not_eq_true', decide_eq_false_iff_not, line_nil, line1, line2, if_true, if_false, List.length_cons, List.length_nil, sizeLine_eq, Nat.reduceAdd, Nat.reduceLeDiff, Nat.zero_add]
      exact hq)
    clear hk
    unfold mHi at fin
    simp only [dRet, dRetN, dSeq, dPar, dPar3, dCons, dNil, dCaB, dVar, dC, dCmpT, dCmp, dU, dB, dAndV, dOrV, dNotV, dAnd, dOr, dNot, dIf, dTup, dLst, dChain, dChainT, dTest, dIsi, dAsg, dDrop, dIfS, gN, gT, gs0, gs1, dAug, dNext, dRaise, dCall, dYes, topE, List.getElem?_cons_succ, List.getElem?_cons_zero, List.set_cons_zero, List.set_cons_succ, Option.some.injEq, S.val.injEq, exists_eq_left', exists_eq_left, exists_and_left, and_assoc, List.cons.injEq, and_true, true_and, PyData.int.injEq, PyData.bool.injEq, PyData.tuple.injEq, PyData.list.injEq, absD_i, maxD_i, addD_i, subD_i, negD_i, iaddD_i, mulD_e, fdivD_e, ifdivD_e, modD_e, leD_i, ltD_i, gtD_i, geD_i, lenD_t, lenD_l, isNd_n, notNd_n, isBd_b, notBd_b, isNonD_i, isNonD_n, isNonD_t, isNonD_l, eqD_int, neD_int, eqD_bool, neD_bool, eqD_fr, neD_fr, ix_fr0, ix_fr1, kit_int, kit_bool, kit_str, kit_tuple, decide_eq_true_eq, Bool.not_eq_true', decide_eq_false_iff_not, line_nil, line1, line2, if_true, if_false, c_less_e, iy2, iy3]
    refine ⟨by omega, by omega, by omega, by omega, ?_⟩
    by_cases c1 : z * d < c * t
    · rw [if_pos c1] at fin ⊢
      exact fin
    · rw [if_neg c1] at fin ⊢
      by_cases c2 : c = z ∧ d = t
      · rw [if_pos c2] at fin ⊢
        cases j <;> simpa using fin
      · rw [if_neg c2] at fin ⊢
        exact fin)
  clear hk
  unfold mLo at fin
  simp only [dRet, dRetN, dSeq, dPar, dPar3, dCons, dNil, dCaB, dVar, dC, dCmpT, dCmp, dU, dB, dAndV, dOrV, dNotV, dAnd, dOr, dNot, dIf, dTup, dLst, dChain, dChainT, dTest, dIsi, dAsg, dDrop, dIfS, gN, gT, gs0, gs1, dAug, dNext, dRaise, dCall, dYes, topE, List.getElem?_cons_succ, List.getElem?_cons_zero, List.set_cons_zero, List.set_cons_succ, Option.some.injEq, S.val.injEq, exists_eq_left', exists_eq_left, exists_and_left, and_assoc, List.cons.injEq, and_true, true_and, PyData.int.injEq, PyData.bool.injEq, PyData.tuple.injEq, PyData.list.injEq, absD_i, maxD_i, addD_i, subD_i, negD_i, iaddD_i, mulD_e, fdivD_e, ifdivD_e, modD_e, leD_i, ltD_i, gtD_i, geD_i, lenD_t, lenD_l, isNd_n, notNd_n, isBd_b, notBd_b, isNonD_i, isNonD_n, isNonD_t, isNonD_l, eqD_int, neD_int, eqD_bool, neD_bool, eqD_fr, neD_fr, ix_fr0, ix_fr1, kit_int, kit_bool, kit_str, kit_tuple, decide_eq_true_eq, Bool.not_eq_true', decide_eq_false_iff_not, line_nil, line1, line2, if_true, if_false, c_less_e, iy0, iy1]
  refine ⟨by omega, by omega, by omega, by omega, ?_⟩
  by_cases c1 : a * y < x * b
  · rw [if_pos c1] at fin ⊢
    exact fin
  · rw [if_neg c1] at fin ⊢
    by_cases c2 : a = x ∧ b = y
    · rw [if_pos c2] at fin ⊢
      cases i <;> simpa using fin
    · rw [if_neg c2] at fin ⊢
      exact fin
theorem c_met_e (a b : Int) (i : Bool) (c d : Int) (j : Bool) (x y : Int) (k : Bool) (z t : Int) (m : Bool) (q : Res → Prop) : c_met [spanT a b i c d j, spanT x y k z t m] q ↔ ((0 < b ∧ b < 2 ^ 60) ∧ (0 < d ∧ d < 2 ^ 60)) ∧ ((0 < y ∧ y < 2 ^ 60) ∧ (0 < t ∧ t < 2 ^ 60)) ∧ q (.ok (spanT (mLo a b i x y k).1 (mLo a b i x y k).2.1 (mLo a b i x y k).2.2 (mHi c d j z t m).1 (mHi c d j z t m).2.1 (mHi c d j z t m).2.2)) :=
  ⟨fun ⟨_, _, _, _, _, _, _, _, _, _, _, _, e, h⟩ => by simp [spanT] at e; obtain ⟨⟨⟨rfl, rfl⟩, rfl, ⟨rfl, rfl⟩, rfl⟩, ⟨rfl, rfl⟩, rfl, ⟨rfl, rfl⟩, rfl⟩ := e; exact h, fun h => ⟨_, _, _, _, _, _, _, _, _, _, _, _, rfl, h⟩⟩
abbrev s_span_of : Stmt := topS 23
theorem sc_span_of : FnScope ["units", "digits", "rule", "power", "low", "high"] ["units", "digits", "rule"] (defScope s_span_of) := ⟨rfl, rfl, rfl, by decide +kernel, rfl, by decide +kernel, by decide +kernel⟩
def c_span_of : Ct := fun ds q => ∃ (u d : Int) (r : Ru), ds = [.int u, .int d, .str (ruS r)] ∧ (0 ≤ d ∧ d ≤ 6) ∧ q (.ok (spanF u d r))
theorem ok_span_of (F : Fun K "span_of" "span_of" s_span_of f fd) (F_power_of : Fd P w K mg base ca "power_of" c_power_of 1 1) (F_lowest : Fd P w K mg base ca "lowest" c_lowest 2 2) : FnOk P w K mg base (L2.CX P w) 3 f fd ["units", "digits", "rule"] (spD K ca c_span_of 3) := by
  refine fn_ok F sc_span_of rfl (fun cdv A outer s H E hr tk po hu hu5 => ?_)
  refine ⟨_, _, pdb_cons (pds_set (pd_fn F_power_of (hr.mono (by decide)) (by rfl) tk (pda_cons (pd_var (pv 1)) pda_nil)) (fun h => ps_set (i := 3) sc_span_of.nd rfl (.inl rfl) h))
      (pdb_cons (pds_if (PDW.pt (pdw_or (pdt_cmp (r := rEqD K) (op_eqD hu) cm_eq (pd_var (pv 2)) (PD.pv pd_str) (nomark _)) (pdw_or1 (PDW.pt (pdw_and (pdt_cmp (r := rEqD K) (op_eqD hu) cm_eq (pd_var (pv 2)) (PD.pv pd_str) (nomark _)) (pdw_and1 (pdt_cmp op_gt cm_gt (pd_var (pv 0)) (PD.pv pd_int) (nomark _)))))))) (pdb_one (pds_ret (pd_tup (pda_cons (pd_fn F_lowest (hr.mono (by decide)) (by rfl) tk (pda_cons (pd_var (pv 0)) (pda_cons (pd_var (pv 3)) pda_nil))) (pda_cons pd_bl (pda_cons (pd_fn F_lowest (hr.mono (by decide)) (by rfl) tk (pda_cons (pd_op (op_add.or (op_add_str.or op_cat)) od_add (pd_var (pv 0)) pd_int) (pda_cons (pd_var (pv 3)) pda_nil))) (pda_cons pd_bl pda_nil))))))) (pdb_nil))
      (pdb_cons (pds_if (PDW.pt (pdw_or (pdt_cmp (r := rEqD K) (op_eqD hu) cm_eq (pd_var (pv 2)) (PD.pv pd_str) (nomark _)) (pdw_or1 (PDW.pt (pdw_and (pdt_cmp (r := rEqD K) (op_eqD hu) cm_eq (pd_var (pv 2)) (PD.pv pd_str) (nomark _)) (pdw_and1 (pdt_cmp op_lt cm_lt (pd_var (pv 0)) (PD.pv pd_int) (nomark _)))))))) (pdb_one (pds_ret (pd_tup (pda_cons (pd_fn F_lowest (hr.mono (by decide)) (by rfl) tk (pda_cons (pd_op op_sub od_sub (pd_var (pv 0)) pd_int) (pda_cons (pd_var (pv 3)) pda_nil))) (pda_cons pd_bl (pda_cons (pd_fn F_lowest (hr.mono (by decide)) (by rfl) tk (pda_cons (pd_var (pv 0)) (pda_cons (pd_var (pv 3)) pda_nil))) (pda_cons pd_bl pda_nil))))))) (pdb_nil))
      (pdb_cons (pds_if (pdt_cmp (r := rEqD K) (op_eqD hu) cm_eq (pd_var (pv 2)) (PD.pv pd_str) (nomark _)) (pdb_one (pds_ret (pd_tup (pda_cons (pd_fn F_lowest (hr.mono (by decide)) (by rfl) tk (pda_cons (pd_un un_neg ud_neg pd_int) (pda_cons (pd_var (pv 3)) pda_nil))) (pda_cons pd_bl (pda_cons (pd_fn F_lowest (hr.mono (by decide)) (by rfl) tk (pda_cons pd_int (pda_cons (pd_var (pv 3)) pda_nil))) (pda_cons pd_bl pda_nil))))))) (pdb_nil))
      (pdb_cons (pds_par (pda_cons (pd_fn F_lowest (hr.mono (by decide)) (by rfl) tk (pda_cons (pd_op op_sub od_sub (pd_op op_mul od_mul pd_int (pd_var (pv 0))) pd_int) (pda_cons (pd_op op_mul od_mul pd_int (pd_var (pv 3))) pda_nil))) (pda_cons (pd_fn F_lowest (hr.mono (by decide)) (by rfl) tk (pda_cons (pd_op (op_add.or (op_add_str.or op_cat)) od_add (pd_op op_mul od_mul pd_int (pd_var (pv 0))) pd_int) (pda_cons (pd_op op_mul od_mul pd_int (pd_var (pv 3))) pda_nil))) pda_nil)) (fun h => ps_par (i := 4) (j := 5) rfl sc_span_of.nd rfl rfl (by decide) rfl rfl h (by rfl)))
      (pdb_cons (pds_if (pdt_cmp (r := rEqD K) (op_eqD hu) cm_eq (pd_var (pv 2)) (PD.pv pd_str) (nomark _)) (pdb_one (pds_ret (pd_tup (pda_cons (pd_var (pv 4)) (pda_cons pd_bl (pda_cons (pd_var (pv 5)) (pda_cons pd_bl pda_nil))))))) (pdb_nil))
      (pdb_cons (pds_if (pdt_cmp (r := rEqD K) (op_eqD hu) cm_eq (pd_var (pv 2)) (PD.pv pd_str) (nomark _)) (pdb_one (pds_ret (pd_tup (pda_cons (pd_var (pv 4)) (pda_cons (pd_cmp op_le cm_le (pd_var (pv 0)) (PD.pv pd_int) (nomark _)) (pda_cons (pd_var (pv 5)) (pda_cons (pd_cmp op_ge cm_ge (pd_var (pv 0)) (PD.pv pd_int) (nomark _)) pda_nil))))))) (pdb_nil))
      (pdb_cons (pds_if (pdt_cmp (r := rEqD K) (op_eqD hu) cm_eq (pd_var (pv 2)) (PD.pv pd_str) (nomark _)) (pdb_one (pds_ret (pd_tup (pda_cons (pd_var (pv 4)) (pda_cons (pd_cmp op_gt cm_gt (pd_var (pv 0)) (PD.pv pd_int) (nomark _)) (pda_cons (pd_var (pv 5)) (pda_cons (pd_cmp op_lt cm_lt (pd_var (pv 0)) (PD.pv pd_int) (nomark _)) pda_nil))))))) (pdb_nil))
      (pdb_one (pds_ret (pd_tup (pda_cons (pd_var (pv 4)) (pda_cons (pd_cmp (r := rEqD K) (op_eqD hu) cm_eq (pd_op op_mod od_mod (pd_var (pv 0)) pd_int) (PD.pv pd_int) (nomark _)) (pda_cons (pd_var (pv 5)) (pda_cons (pd_cmp (r := rEqD K) (op_eqD hu) cm_eq (pd_op op_mod od_mod (pd_var (pv 0)) pd_int) (PD.pv pd_int) (nomark _)) pda_nil)))))))))))))), ?_⟩
  clear hr tk po hu hu5
  intro ds q hl hc
  obtain ⟨u, d, r, rfl, hd, hq⟩ := hc
  rw [show start0 (["units", "digits", "rule", "power", "low", "high"] : List Str) [.int u, .int d, .str (ruS r)] = [some (.val (.int u)), some (.val (.int d)), some (.val (.str (ruS r))), none, none, none] from rfl]
  have hp := powT_lt hd.2
  have m2 : mulOk 2 u = true := mulOk_l (by decide) (by decide)
  have m3 : mulOk 2 (powT d) = true := mulOk_l (by decide) (by decide)
  have l1 : 0 ≤ d ∧ d ≤ 1000 := ⟨hd.1, by omega⟩
  have l2 : 0 < powT d ∧ powT d < 2 ^ 64 := ⟨hp.1, by omega⟩
  have l3 : 0 < 2 * powT d ∧ 2 * powT d < 2 ^ 64 := ⟨by omega, by omega⟩
  simp only [dRet, dRetN, dSeq, dPar, dPar3, dCons, dNil, dCaB, dVar, dC, dCmpT, dCmp, dU, dB, dAndV, dOrV, dNotV, dAnd, dOr, dNot, dIf, dTup, dLst, dChain, dChainT, dTest, dIsi, dAsg, dDrop, dIfS, gN, gT, gs0, gs1, dAug, dNext, dRaise, dCall, dYes, topE, List.getElem?_cons_succ, List.getElem?_cons_zero, List.set_cons_zero, List.set_cons_succ, Option.some.injEq, S.val.injEq, exists_eq_left', exists_eq_left, exists_and_left, and_assoc, List.cons.injEq, and_true, true_and, PyData.int.injEq, PyData.bool.injEq, PyData.tuple.injEq, PyData.list.injEq, absD_i, maxD_i, addD_i, subD_i, negD_i, iaddD_i, mulD_e, fdivD_e, ifdivD_e, modD_e, leD_i, ltD_i, gtD_i, geD_i, lenD_t, lenD_l, isNd_n, notNd_n, isBd_b, notBd_b, isNonD_i, isNonD_n, isNonD_t, isNonD_l, eqD_int, neD_int, eqD_bool, neD_bool, eqD_fr, neD_fr, ix_fr0, ix_fr1, kit_int, kit_bool, kit_str, kit_tuple, decide_eq_true_eq, Bool.not_eq_true', decide_eq_false_iff_not, line_nil, line1, line2, if_true, if_false, c_power_of_e, c_lowest_e, eqD_down, eqD_up, eqD_zero, eqD_nup, eqD_nzero, eqD_naway, l1, l2, l3, m2, m3, lowF_def, List.length_cons, List.length_nil, sizeLine_eq, Nat.reduceAdd, Nat.reduceLeDiff, Nat.zero_add]
  unfold spanF spanT spK at hq
  have two : (0 : Int) < 2 := by decide
  cases r <;> simp only [isDir, loN, hiN, loI, hiI, reduceCtorEq, if_true, if_false, Bool.false_eq_true] at hq <;> simp only [reduceCtorEq, if_true, if_false, Bool.false_eq_true, two, true_and, decide_true, decide_false]
  all_goals first | exact hq | skip
  by_cases c1 : 0 < u
  · have c2 : ¬ u < 0 := by omega
    simp only [c1, c2, if_true, if_false, decide_true, decide_false] at hq ⊢
    exact hq
  · by_cases c2 : u < 0 <;> simp only [c1, c2, if_true, if_false, decide_true, decide_false] at hq ⊢ <;> exact hq
theorem c_span_of_e (u d : Int) (r : Ru) (q : Res → Prop) : c_span_of [.int u, .int d, .str (ruS r)] q ↔ (0 ≤ d ∧ d ≤ 6) ∧ q (.ok (spanF u d r)) :=
  ⟨fun ⟨u', d', r', e, h⟩ => by
    have e2 : r = r' := ruS_inj _ _ (by simp at e; exact e.2.2)
    subst e2
    simp at e
    obtain ⟨rfl, rfl⟩ := e
    exact h, fun h => ⟨_, _, _, rfl, h⟩⟩
abbrev s_Reader_tell : Stmt := inClass (topS 37) 1
theorem sc_Reader_tell : FnScope ["self", "units", "digits", "rule", "found"] ["self", "units", "digits", "rule"] (defScope s_Reader_tell) := ⟨rfl, rfl, rfl, by decide +kernel, rfl, by decide +kernel, by decide +kernel⟩
def c_Reader_tell : CtR := fun now past ds q => ∃ v d r, ds = [v, d, r] ∧ ∃ (a b : Int) (i : Bool) (c e : Int) (j : Bool), now = spanT a b i c e j ∧ (0 < b ∧ b < 2 ^ 60) ∧ (0 < e ∧ e < 2 ^ 60) ∧ past.length < 1000 ∧ chk (isIntB d 0 6) .num (fun w => q w now past) (∀ k : Int, d = .int k → chk (isIntB v (-101 * powT k) (101 * powT k)) .num (fun w => q w now past) (chk (isRuleB r) .rul (fun w => q w now past) (∀ u : Int, v = .int u → ∀ z : Ru, r = .str (ruS z) → if spanB (spanT (mLo a b i (lowN (loN u z) (spK k z)) (lowU (loN u z) (spK k z)) (loI u z)).1 (mLo a b i (lowN (loN u z) (spK k z)) (lowU (loN u z) (spK k z)) (loI u z)).2.1 (mLo a b i (lowN (loN u z) (spK k z)) (lowU (loN u z) (spK k z)) (loI u z)).2.2 (mHi c e j (lowN (hiN u z) (spK k z)) (lowU (hiN u z) (spK k z)) (hiI u z)).1 (mHi c e j (lowN (hiN u z) (spK k z)) (lowU (hiN u z) (spK k z)) (hiI u z)).2.1 (mHi c e j (lowN (hiN u z) (spK k z)) (lowU (hiN u z) (spK k z)) (hiI u z)).2.2) = true then q (.ok (spanT (mLo a b i (lowN (loN u z) (spK k z)) (lowU (loN u z) (spK k z)) (loI u z)).1 (mLo a b i (lowN (loN u z) (spK k z)) (lowU (loN u z) (spK k z)) (loI u z)).2.1 (mLo a b i (lowN (loN u z) (spK k z)) (lowU (loN u z) (spK k z)) (loI u z)).2.2 (mHi c e j (lowN (hiN u z) (spK k z)) (lowU (hiN u z) (spK k z)) (hiI u z)).1 (mHi c e j (lowN (hiN u z) (spK k z)) (lowU (hiN u z) (spK k z)) (hiI u z)).2.1 (mHi c e j (lowN (hiN u z) (spK k z)) (lowU (hiN u z) (spK k z)) (hiI u z)).2.2)) (spanT (mLo a b i (lowN (loN u z) (spK k z)) (lowU (loN u z) (spK k z)) (loI u z)).1 (mLo a b i (lowN (loN u z) (spK k z)) (lowU (loN u z) (spK k z)) (loI u z)).2.1 (mLo a b i (lowN (loN u z) (spK k z)) (lowU (loN u z) (spK k z)) (loI u z)).2.2 (mHi c e j (lowN (hiN u z) (spK k z)) (lowU (hiN u z) (spK k z)) (hiI u z)).1 (mHi c e j (lowN (hiN u z) (spK k z)) (lowU (hiN u z) (spK k z)) (hiI u z)).2.1 (mHi c e j (lowN (hiN u z) (spK k z)) (lowU (hiN u z) (spK k z)) (hiI u z)).2.2) (past ++ [now]) else q (.er .nof) now past)))
theorem ok_Reader_tell (F : Fun K "tell" "Reader.tell" s_Reader_tell f fd) {C_R : Addr} (RT : RTx K C_R) (F_check_digits : Fd P w K mg base ca "check_digits" c_check_digits 1 2) (F_check_whole : Fd P w K mg base ca "check_whole" c_check_whole 2 2) (F_check_rule : Fd P w K mg base ca "check_rule" c_check_rule 1 1) (F_met : Fd P w K mg base ca "met" c_met 2 2) (F_span_of : Fd P w K mg base ca "span_of" c_span_of 3 3) (F_is_span : Fd P w K mg base ca "is_span" c_is_span 1 3) (X_nof : Xf K mg "NotFound" (ca .nof)) : FnOk P w K mg base (L2.CX P w) 4 f fd ["self", "units", "digits", "rule"] (spR K ca C_R c_Reader_tell 3) := by
  refine fn_okR F sc_Reader_tell rfl (fun cdv A outer s H E hr tk po hu hu5 => ?_)
  refine ⟨_, _, pdb_cons (pds_expr (pd_fn F_check_digits (hr.mono (by decide)) (by rfl) tk (pda_cons (pd_var (pv 2)) pda_nil)))
      (pdb_cons (pds_expr (pd_fn F_check_whole (hr.mono (by decide)) (by rfl) tk (pda_cons (pd_var (pv 1)) (pda_cons (pd_var (pv 2)) pda_nil))))
      (pdb_cons (pds_expr (pd_fn F_check_rule (hr.mono (by decide)) (by rfl) tk (pda_cons (pd_var (pv 3)) pda_nil)))
      (pdb_cons (pds_set (pd_fn F_met (hr.mono (by decide)) (by rfl) tk (pda_cons (pd_now RT (pv 0)) (pda_cons (pd_fn F_span_of (hr.mono (by decide)) (by rfl) tk (pda_cons (pd_var (pv 1)) (pda_cons (pd_var (pv 2)) (pda_cons (pd_var (pv 3)) pda_nil)))) pda_nil))) (fun h => ps_set (i := 4) sc_Reader_tell.nd rfl (.inl rfl) h))
      (pdb_cons (pds_if (pdt_not (pdt_val (pd_fn F_is_span (hr.mono (by decide)) (by rfl) tk (pda_cons (pd_var (pv 4)) pda_nil)))) (pdb_one (pds_raise (er := .nof) X_nof rfl tk rfl)) (pdb_nil))
      (pdb_cons (pds_pastApp RT (pv 0) (pv 0) (fun ho ha => ps_expr (pe_bm PySem.F.plainAttrs_list PySem.F.slot_list_append PySem.F.type_list_append mt_append ho ha)))
      (pdb_cons (pds_setNow RT (pv 0) (pd_var (pv 4)))
      (pdb_one (pds_ret (pd_var (pv 4)))))))))), ?_⟩
  clear hr tk po hu hu5
  intro ds q p0 dx0 l0 now past hl hc
  obtain ⟨v, d, r, rfl, hc⟩ := hc
  rw [show startR ["self", "units", "digits", "rule", "found"] p0 dx0 l0 C_R now past [v, d, r] = [some (.rdr p0 dx0 l0 C_R now past), some (.val (v)), some (.val (d)), some (.val (r)), none] from rfl]
  obtain ⟨a, b, i, c, e, j, rfl, hb, he, hp, hq⟩ := hc
  simp only [dRet, dRetN, dSeq, dPar, dPar3, dCons, dNil, dCaB, dVar, dC, dCmpT, dCmp, dU, dB, dAndV, dOrV, dNotV, dAnd, dOr, dNot, dIf, dTup, dLst, dChain, dChainT, dTest, dIsi, dAsg, dDrop, dIfS, gN, gT, gs0, gs1, dAug, dNext, dRaise, dCall, dYes, topE, List.getElem?_cons_succ, List.getElem?_cons_zero, List.set_cons_zero, List.set_cons_succ, Option.some.injEq, S.val.injEq, exists_eq_left', exists_eq_left, exists_and_left, and_assoc, List.cons.injEq, and_true, true_and, PyData.int.injEq, PyData.bool.injEq, PyData.tuple.injEq, PyData.list.injEq, absD_i, maxD_i, addD_i, subD_i, negD_i, iaddD_i, mulD_e, fdivD_e, ifdivD_e, modD_e, leD_i, ltD_i, gtD_i, geD_i, lenD_t, lenD_l, isNd_n, notNd_n, isBd_b, notBd_b, isNonD_i, isNonD_n, isNonD_t, isNonD_l, eqD_int, neD_int, eqD_bool, neD_bool, eqD_fr, neD_fr, ix_fr0, ix_fr1, kit_int, kit_bool, kit_str, kit_tuple, decide_eq_true_eq, Bool.not_eq_true', decide_eq_false_iff_not, line_nil, line1, line2, if_true, if_false, c_check_digits_e, topR, S.rdr.injEq]
  cases h2 : isIntB d 0 6 with
  | false => rw [h2, chk_f] at hq; simpa using hq
  | true =>
    rw [h2, chk_t] at hq
    simp only [if_true]
    obtain ⟨k, rfl, k1, k2⟩ := isIntB_inv h2
    have hq := hq k rfl
    simp only [dRet, dRetN, dSeq, dPar, dPar3, dCons, dNil, dCaB, dVar, dC, dCmpT, dCmp, dU, dB, dAndV, dOrV, dNotV, dAnd, dOr, dNot, dIf, dTup, dLst, dChain, dChainT, dTest, dIsi, dAsg, dDrop, dIfS, gN, gT, gs0, gs1, dAug, dNext, dRaise, dCall, dYes, topE, List.getElem?_cons_succ, List.getElem?_cons_zero, List.set_cons_zero, List.set_cons_succ, Option.some.injEq, S.val.injEq, exists_eq_left', exists_eq_left, exists_and_left, and_assoc, List.cons.injEq, and_true, true_and, PyData.int.injEq, PyData.bool.injEq, PyData.tuple.injEq, PyData.list.injEq, absD_i, maxD_i, addD_i, subD_i, negD_i, iaddD_i, mulD_e, fdivD_e, ifdivD_e, modD_e, leD_i, ltD_i, gtD_i, geD_i, lenD_t, lenD_l, isNd_n, notNd_n, isBd_b, notBd_b, isNonD_i, isNonD_n, isNonD_t, isNonD_l, eqD_int, neD_int, eqD_bool, neD_bool, eqD_fr, neD_fr, ix_fr0, ix_fr1, kit_int, kit_bool, kit_str, kit_tuple, decide_eq_true_eq, Bool.not_eq_true', decide_eq_false_iff_not, line_nil, line1, line2, if_true, if_false, c_check_whole_e, S.rdr.injEq]
    refine ⟨k1, k2, ?_⟩
    cases h3 : isIntB v (-101 * powT k) (101 * powT k) with
    | false => rw [h3, chk_f] at hq; simpa using hq
    | true =>
      rw [h3, chk_t] at hq
      simp only [if_true]
      simp only [dRet, dRetN, dSeq, dPar, dPar3, dCons, dNil, dCaB, dVar, dC, dCmpT, dCmp, dU, dB, dAndV, dOrV, dNotV, dAnd, dOr, dNot, dIf, dTup, dLst, dChain, dChainT, dTest, dIsi, dAsg, dDrop, dIfS, gN, gT, gs0, gs1, dAug, dNext, dRaise, dCall, dYes, topE, List.getElem?_cons_succ, List.getElem?_cons_zero, List.set_cons_zero, List.set_cons_succ, Option.some.injEq, S.val.injEq, exists_eq_left', exists_eq_left, exists_and_left, and_assoc, List.cons.injEq, and_true, true_and, PyData.int.injEq, PyData.bool.injEq, PyData.tuple.injEq, PyData.list.injEq, absD_i, maxD_i, addD_i, subD_i, negD_i, iaddD_i, mulD_e, fdivD_e, ifdivD_e, modD_e, leD_i, ltD_i, gtD_i, geD_i, lenD_t, lenD_l, isNd_n, notNd_n, isBd_b, notBd_b, isNonD_i, isNonD_n, isNonD_t, isNonD_l, eqD_int, neD_int, eqD_bool, neD_bool, eqD_fr, neD_fr, ix_fr0, ix_fr1, kit_int, kit_bool, kit_str, kit_tuple, decide_eq_true_eq, Bool.not_eq_true', decide_eq_false_iff_not, line_nil, line1, line2, if_true, if_false, c_check_rule_e, S.rdr.injEq]
      cases h4 : isRuleB r with
      | false => rw [h4, chk_f] at hq; simpa using hq
      | true =>
        rw [h4, chk_t] at hq
        simp only [if_true]
        obtain ⟨u, rfl, u1, u2⟩ := isIntB_inv h3
        obtain ⟨z, rfl⟩ := isRuleB_inv h4
        have hq := hq _ rfl _ rfl
        obtain ⟨s1, s2, s3, s4⟩ := span_small (u := u) (d := k) (r := z) k2
        simp only [dRet, dRetN, dSeq, dPar, dPar3, dCons, dNil, dCaB, dVar, dC, dCmpT, dCmp, dU, dB, dAndV, dOrV, dNotV, dAnd, dOr, dNot, dIf, dTup, dLst, dChain, dChainT, dTest, dIsi, dAsg, dDrop, dIfS, gN, gT, gs0, gs1, dAug, dNext, dRaise, dCall, dYes, topE, List.getElem?_cons_succ, List.getElem?_cons_zero, List.set_cons_zero, List.set_cons_succ, Option.some.injEq, S.val.injEq, exists_eq_left', exists_eq_left, exists_and_left, and_assoc, List.cons.injEq, and_true, true_and, PyData.int.injEq, PyData.bool.injEq, PyData.tuple.injEq, PyData.list.injEq, absD_i, maxD_i, addD_i, subD_i, negD_i, iaddD_i, mulD_e, fdivD_e, ifdivD_e, modD_e, leD_i, ltD_i, gtD_i, geD_i, lenD_t, lenD_l, isNd_n, notNd_n, isBd_b, notBd_b, isNonD_i, isNonD_n, isNonD_t, isNonD_l, eqD_int, neD_int, eqD_bool, neD_bool, eqD_fr, neD_fr, ix_fr0, ix_fr1, kit_int, kit_bool, kit_str, kit_tuple, decide_eq_true_eq, Bool.not_eq_true', decide_eq_false_iff_not, line_nil, line1, line2, if_true, if_false, dNow, S.rdr.injEq, c_span_of_e, spanF, c_met_e, c_is_span_e]
        have m1 := mLo_of (a := a) (b := b) (i := i) (x := lowN (loN u z) (spK k z)) (y := lowU (loN u z) (spK k z)) (k := loI u z) (fun _ y => y < 2 ^ 60) hb.2 (by omega)
        have m2 := mHi_of (a := c) (b := e) (i := j) (x := lowN (hiN u z) (spK k z)) (y := lowU (hiN u z) (spK k z)) (k := hiI u z) (fun _ y => y < 2 ^ 60) he.2 (by omega)
        refine ⟨k1, k2, hb.1, hb.2, he.1, he.2, s3, by omega, s4, by omega, smV_span m1 m2, ?_⟩
        cases hs : spanB (spanT (mLo a b i (lowN (loN u z) (spK k z)) (lowU (loN u z) (spK k z)) (loI u z)).1 (mLo a b i (lowN (loN u z) (spK k z)) (lowU (loN u z) (spK k z)) (loI u z)).2.1 (mLo a b i (lowN (loN u z) (spK k z)) (lowU (loN u z) (spK k z)) (loI u z)).2.2 (mHi c e j (lowN (hiN u z) (spK k z)) (lowU (hiN u z) (spK k z)) (hiI u z)).1 (mHi c e j (lowN (hiN u z) (spK k z)) (lowU (hiN u z) (spK k z)) (hiI u z)).2.1 (mHi c e j (lowN (hiN u z) (spK k z)) (lowU (hiN u z) (spK k z)) (hiI u z)).2.2) with
        | false =>
          rw [hs, if_neg Bool.false_ne_true] at hq
          simpa using hq
        | true =>
          rw [hs, if_pos rfl] at hq
          simp only [dRet, dRetN, dSeq, dPar, dPar3, dCons, dNil, dCaB, dVar, dC, dCmpT, dCmp, dU, dB, dAndV, dOrV, dNotV, dAnd, dOr, dNot, dIf, dTup, dLst, dChain, dChainT, dTest, dIsi, dAsg, dDrop, dIfS, gN, gT, gs0, gs1, dAug, dNext, dRaise, dCall, dYes, topE, List.getElem?_cons_succ, List.getElem?_cons_zero, List.set_cons_zero, List.set_cons_succ, Option.some.injEq, S.val.injEq, exists_eq_left', exists_eq_left, exists_and_left, and_assoc, List.cons.injEq, and_true, true_and, PyData.int.injEq, PyData.bool.injEq, PyData.tuple.injEq, PyData.list.injEq, absD_i, maxD_i, addD_i, subD_i, negD_i, iaddD_i, mulD_e, fdivD_e, ifdivD_e, modD_e, leD_i, ltD_i, gtD_i, geD_i, lenD_t, lenD_l, isNd_n, notNd_n, isBd_b, notBd_b, isNonD_i, isNonD_n, isNonD_t, isNonD_l, eqD_int, neD_int, eqD_bool, neD_bool, eqD_fr, neD_fr, ix_fr0, ix_fr1, kit_int, kit_bool, kit_str, kit_tuple, decide_eq_true_eq, Bool.not_eq_true', decide_eq_false_iff_not, line_nil, line1, line2, if_true, if_false, Bool.true_eq_false, dPastApp, S.rdr.injEq, dSetNow]
          exact ⟨by rw [sizeLine_eq]; omega, hq⟩
theorem c_Reader_tell_ok {a b : Int} {i : Bool} {c e : Int} {j : Bool} {u k : Int} {z : Ru} {past : List PyData} {q : Res → PyData → List PyData → Prop} (hb : 0 < b ∧ b < 2 ^ 60) (he : 0 < e ∧ e < 2 ^ 60) (hp : past.length < 1000) (k0 : 0 ≤ k) (k6 : k ≤ 6) (u1 : -101 * powT k ≤ u) (u2 : u ≤ 101 * powT k)
    (h : if spanB (spanT (mLo a b i (lowN (loN u z) (spK k z)) (lowU (loN u z) (spK k z)) (loI u z)).1 (mLo a b i (lowN (loN u z) (spK k z)) (lowU (loN u z) (spK k z)) (loI u z)).2.1 (mLo a b i (lowN (loN u z) (spK k z)) (lowU (loN u z) (spK k z)) (loI u z)).2.2 (mHi c e j (lowN (hiN u z) (spK k z)) (lowU (hiN u z) (spK k z)) (hiI u z)).1 (mHi c e j (lowN (hiN u z) (spK k z)) (lowU (hiN u z) (spK k z)) (hiI u z)).2.1 (mHi c e j (lowN (hiN u z) (spK k z)) (lowU (hiN u z) (spK k z)) (hiI u z)).2.2) = true then q (.ok (spanT (mLo a b i (lowN (loN u z) (spK k z)) (lowU (loN u z) (spK k z)) (loI u z)).1 (mLo a b i (lowN (loN u z) (spK k z)) (lowU (loN u z) (spK k z)) (loI u z)).2.1 (mLo a b i (lowN (loN u z) (spK k z)) (lowU (loN u z) (spK k z)) (loI u z)).2.2 (mHi c e j (lowN (hiN u z) (spK k z)) (lowU (hiN u z) (spK k z)) (hiI u z)).1 (mHi c e j (lowN (hiN u z) (spK k z)) (lowU (hiN u z) (spK k z)) (hiI u z)).2.1 (mHi c e j (lowN (hiN u z) (spK k z)) (lowU (hiN u z) (spK k z)) (hiI u z)).2.2)) (spanT (mLo a b i (lowN (loN u z) (spK k z)) (lowU (loN u z) (spK k z)) (loI u z)).1 (mLo a b i (lowN (loN u z) (spK k z)) (lowU (loN u z) (spK k z)) (loI u z)).2.1 (mLo a b i (lowN (loN u z) (spK k z)) (lowU (loN u z) (spK k z)) (loI u z)).2.2 (mHi c e j (lowN (hiN u z) (spK k z)) (lowU (hiN u z) (spK k z)) (hiI u z)).1 (mHi c e j (lowN (hiN u z) (spK k z)) (lowU (hiN u z) (spK k z)) (hiI u z)).2.1 (mHi c e j (lowN (hiN u z) (spK k z)) (lowU (hiN u z) (spK k z)) (hiI u z)).2.2) (past ++ [spanT a b i c e j]) else q (.er .nof) (spanT a b i c e j) past) : c_Reader_tell (spanT a b i c e j) past [.int u, .int k, .str (ruS z)] q := by
  refine ⟨_, _, _, rfl, _, _, _, _, _, _, rfl, hb, he, hp, ?_⟩
  have h2 : isIntB (.int k) 0 6 = true := by simp only [isIntB]; exact decide_eq_true ⟨k0, k6⟩
  have h3 : isIntB (.int u) (-101 * powT k) (101 * powT k) = true := by simp only [isIntB]; exact decide_eq_true ⟨u1, u2⟩
  rw [h2, chk_t]
  intro k' e1
  simp at e1
  subst e1
  rw [h3, isRuleB_ru, chk_t, chk_t]
  intro u' e1 z' e2
  simp at e1 e2
  subst e1
  obtain rfl := ruS_inj _ _ e2
  exact h
abbrev s_Reader_undo : Stmt := inClass (topS 37) 5
theorem sc_Reader_undo : FnScope ["self"] ["self"] (defScope s_Reader_undo) := ⟨rfl, rfl, rfl, by decide +kernel, rfl, by decide +kernel, by decide +kernel⟩
def c_Reader_undo : CtR := fun now past ds q => ds = [] ∧ SeqAt.shaped (.list past) = true ∧ ((past = [] ∧ q (.er .nof) now past) ∨ ∃ ps x, past = ps ++ [x] ∧ q (.ok x) x ps)
theorem ok_Reader_undo (F : Fun K "undo" "Reader.undo" s_Reader_undo f fd) {C_R : Addr} (RT : RTx K C_R) (X_nof : Xf K mg "NotFound" (ca .nof)) : FnOk P w K mg base (L2.CX P w) 1 f fd ["self"] (spR K ca C_R c_Reader_undo 0) := by
  refine fn_okR F sc_Reader_undo rfl (fun cdv A outer s H E hr tk po hu hu5 => ?_)
  refine ⟨_, _, pdb_cons (pds_if (pdt_pastCmp RT (r := rEqD K) (op_eqD hu) cm_eq (pv 0) (PD.pv (pd_lst pda_nil)) (nomark _)) (pdb_one (pds_raise (er := .nof) X_nof rfl tk rfl)) (pdb_nil))
      (pdb_cons (pds_popNow RT (pv 0) (pv 0))
      (pdb_one (pds_ret (pd_now RT (pv 0))))), ?_⟩
  clear hr tk po hu hu5
  intro ds q p0 dx0 l0 now past hl hc
  obtain ⟨rfl, hs, hq⟩ := hc
  rw [show startR ["self"] p0 dx0 l0 C_R now past [] = [some (.rdr p0 dx0 l0 C_R now past)] from rfl]
  simp only [dRet, dRetN, dSeq, dPar, dPar3, dCons, dNil, dCaB, dVar, dC, dCmpT, dCmp, dU, dB, dAndV, dOrV, dNotV, dAnd, dOr, dNot, dIf, dTup, dLst, dChain, dChainT, dTest, dIsi, dAsg, dDrop, dIfS, gN, gT, gs0, gs1, dAug, dNext, dRaise, dCall, dYes, topE, List.getElem?_cons_succ, List.getElem?_cons_zero, List.set_cons_zero, List.set_cons_succ, Option.some.injEq, S.val.injEq, exists_eq_left', exists_eq_left, exists_and_left, and_assoc, List.cons.injEq, and_true, true_and, PyData.int.injEq, PyData.bool.injEq, PyData.tuple.injEq, PyData.list.injEq, absD_i, maxD_i, addD_i, subD_i, negD_i, iaddD_i, mulD_e, fdivD_e, ifdivD_e, modD_e, leD_i, ltD_i, gtD_i, geD_i, lenD_t, lenD_l, isNd_n, notNd_n, isBd_b, notBd_b, isNonD_i, isNonD_n, isNonD_t, isNonD_l, eqD_int, neD_int, eqD_bool, neD_bool, eqD_fr, neD_fr, ix_fr0, ix_fr1, kit_int, kit_bool, kit_str, kit_tuple, decide_eq_true_eq, Bool.not_eq_true', decide_eq_false_iff_not, line_nil, line1, line2, if_true, if_false, dPastCmp, S.rdr.injEq, topR, dNow, dPopNow]
  have e0 : eqD (.list past) (.list []) = some (PyData.eqv (.list past) (.list [])) := if_pos ⟨hs, by decide +kernel⟩
  refine ⟨_, e0, ?_⟩
  rcases hq with ⟨rfl, hq⟩ | ⟨ps, x, rfl, hq⟩
  · rw [show PyData.eqv (.list []) (.list []) = true by decide +kernel]
    exact iteT hq
  · have e1 : PyData.eqv (.list (ps ++ [x])) (.list []) = false := by
      cases ps <;> rfl
    rw [e1]
    refine iteF ?_
    exact ⟨ps, x, rfl, hq⟩
theorem c_Reader_undo_ok {now x : PyData} {ps : List PyData} {q : Res → PyData → List PyData → Prop} (hs : SeqAt.shaped (.list (ps ++ [x])) = true) (h : q (.ok x) x ps) : c_Reader_undo now (ps ++ [x]) [] q := ⟨rfl, hs, .inr ⟨_, _, rfl, h⟩⟩
theorem c_Reader_undo_er {now : PyData} {q : Res → PyData → List PyData → Prop} (h : q (.er .nof) now []) : c_Reader_undo now [] [] q := ⟨rfl, by decide +kernel, .inl ⟨rfl, h⟩⟩
abbrev s__law_call : Stmt := topS 50
theorem sc__law_call : FnScope ["shown", "kind", "units", "digits", "rule", "found", "caught", "e"] ["shown", "kind", "units", "digits", "rule"] (defScope s__law_call) := ⟨rfl, rfl, rfl, by decide +kernel, rfl, by decide +kernel, by decide +kernel⟩
def c__law_call : CtR := fun now past ds q => (∃ (a b : Int) (i : Bool) (c e : Int) (j : Bool) (u k : Int) (z : Ru), ds = [.int 0, .int u, .int k, .str (ruS z)] ∧ now = spanT a b i c e j ∧ (0 < b ∧ b < 2 ^ 60) ∧ (0 < e ∧ e < 2 ^ 60) ∧ past.length < 1000 ∧ (0 ≤ k ∧ k ≤ 6) ∧ (-101 * powT k ≤ u ∧ u ≤ 101 * powT k) ∧ (if spanB (spanT (mLo a b i (lowN (loN u z) (spK k z)) (lowU (loN u z) (spK k z)) (loI u z)).1 (mLo a b i (lowN (loN u z) (spK k z)) (lowU (loN u z) (spK k z)) (loI u z)).2.1 (mLo a b i (lowN (loN u z) (spK k z)) (lowU (loN u z) (spK k z)) (loI u z)).2.2 (mHi c e j (lowN (hiN u z) (spK k z)) (lowU (hiN u z) (spK k z)) (hiI u z)).1 (mHi c e j (lowN (hiN u z) (spK k z)) (lowU (hiN u z) (spK k z)) (hiI u z)).2.1 (mHi c e j (lowN (hiN u z) (spK k z)) (lowU (hiN u z) (spK k z)) (hiI u z)).2.2) = true then q (.ok (spanT (mLo a b i (lowN (loN u z) (spK k z)) (lowU (loN u z) (spK k z)) (loI u z)).1 (mLo a b i (lowN (loN u z) (spK k z)) (lowU (loN u z) (spK k z)) (loI u z)).2.1 (mLo a b i (lowN (loN u z) (spK k z)) (lowU (loN u z) (spK k z)) (loI u z)).2.2 (mHi c e j (lowN (hiN u z) (spK k z)) (lowU (hiN u z) (spK k z)) (hiI u z)).1 (mHi c e j (lowN (hiN u z) (spK k z)) (lowU (hiN u z) (spK k z)) (hiI u z)).2.1 (mHi c e j (lowN (hiN u z) (spK k z)) (lowU (hiN u z) (spK k z)) (hiI u z)).2.2)) (spanT (mLo a b i (lowN (loN u z) (spK k z)) (lowU (loN u z) (spK k z)) (loI u z)).1 (mLo a b i (lowN (loN u z) (spK k z)) (lowU (loN u z) (spK k z)) (loI u z)).2.1 (mLo a b i (lowN (loN u z) (spK k z)) (lowU (loN u z) (spK k z)) (loI u z)).2.2 (mHi c e j (lowN (hiN u z) (spK k z)) (lowU (hiN u z) (spK k z)) (hiI u z)).1 (mHi c e j (lowN (hiN u z) (spK k z)) (lowU (hiN u z) (spK k z)) (hiI u z)).2.1 (mHi c e j (lowN (hiN u z) (spK k z)) (lowU (hiN u z) (spK k z)) (hiI u z)).2.2) (past ++ [now]) else q (.ok (.str "none")) now past)) ∨ (∃ (a b : Int) (i : Bool) (c e : Int) (j : Bool), ds = [.int 0, .int 0, .int 7, .str "down"] ∧ now = spanT a b i c e j ∧ (0 < b ∧ b < 2 ^ 60) ∧ (0 < e ∧ e < 2 ^ 60) ∧ past.length < 1000 ∧ q (.ok (.str "number")) now past) ∨ (∃ (a b : Int) (i : Bool) (c e : Int) (j : Bool), ds = [.int 0, .int 0, .int 0, .str "best"] ∧ now = spanT a b i c e j ∧ (0 < b ∧ b < 2 ^ 60) ∧ (0 < e ∧ e < 2 ^ 60) ∧ past.length < 1000 ∧ q (.ok (.str "rule")) now past) ∨ (ds = [.int 1, .int 0, .int 0, .int 0] ∧ SeqAt.shaped (.list past) = true ∧ ((past = [] ∧ q (.ok (.str "none")) now past) ∨ ∃ ps x, past = ps ++ [x] ∧ q (.ok x) x ps))
theorem ok__law_call (F : Fun K "_law_call" "_law_call" s__law_call f fd) {C_R : Addr} (RT : RTx K C_R) (F__law_error : FdX P w K mg base ca "_law_error" 1) (F_Reader_tell : FdM P w K mg base ca C_R "tell" c_Reader_tell 3 4) (F_Reader_undo : FdM P w K mg base ca C_R "undo" c_Reader_undo 0 1) {D_err : Addr} (XI : XIs K mg ca D_err) : FnOk P w K mg base (L2.CX P w) 5 f fd ["shown", "kind", "units", "digits", "rule"] (spR K ca C_R c__law_call 4) := by
  refine fn_okR F sc__law_call rfl (fun cdv A outer s H E hr tk po hu hu5 => ?_)
  refine ⟨_, _, pdb_cons (pds_set pd_non (fun h => ps_set (i := 5) sc__law_call.nd rfl (.inl rfl) h))
      (pdb_cons (pds_set pd_non (fun h => ps_set (i := 6) sc__law_call.nd rfl (.inl rfl) h))
      (pdb_cons (pds_try (i := 7) (j := 6) rfl rfl rfl sc__law_call.nd rfl rfl ⟨by rfl, by decide, .inl XI.gD⟩ XI.exm (fun W pn xe tk2 => (pdb_one (pds_set (pd_if (pdt_cmp (r := rEqD K) (op_eqD hu) cm_eq (pd_var (pv 1)) (PD.pv pd_int) (nomark _)) (pd_methE F_Reader_tell RT (hr.mono (by decide)) tk2 (pv 0) (pda_cons (pd_var (pv 2)) (pda_cons (pd_var (pv 3)) (pda_cons (pd_var (pv 4)) pda_nil))) (by decide +kernel) (by decide +kernel)) (pd_methE0 F_Reader_undo RT (hr.mono (by decide)) tk2 (pv 0) (by decide +kernel) (by decide +kernel))) (fun h => ps_set (i := 5) sc__law_call.nd rfl (.inl rfl) h)))) (fun _ _ _ => pss_one (ps_set (i := 6) sc__law_call.nd rfl (.inl rfl) (pv 7))))
      (pdb_one (pds_ret (pd_if (pdt_isX (pv 6) (nomark _)) (pd_var (pv 5)) (pd_fnX F__law_error (hr.mono (by decide)) (by rfl) tk (pv 6))))))), ?_⟩
  clear hr tk po hu hu5
  intro ds q p0 dx0 l0 now past hl hc
  rcases hc with ⟨a, b, i, c, e, j, u, k, z, rfl, rfl, hb, he, hp, hk6, hu, hq⟩ | ⟨a, b, i, c, e, j, rfl, rfl, hb, he, hp, hq⟩ | ⟨a, b, i, c, e, j, rfl, rfl, hb, he, hp, hq⟩ | ⟨rfl, hs, hq⟩
  · obtain ⟨now, hnow⟩ : ∃ now, now = spanT a b i c e j := ⟨_, rfl⟩
    rw [← hnow] at hq ⊢

    rw [show startR ["shown", "kind", "units", "digits", "rule", "found", "caught", "e"] p0 dx0 l0 C_R now past [.int 0, .int u, .int k, .str (ruS z)] = [some (.rdr p0 dx0 l0 C_R now past), some (.val (.int 0)), some (.val (.int u)), some (.val (.int k)), some (.val (.str (ruS z))), none, none, none] from rfl]
    refine seq_mk fun k' hk => ?_
    simp only [dRet, dRetN, dSeq, dPar, dPar3, dCons, dNil, dCaB, dVar, dC, dCmpT, dCmp, dU, dB, dAndV, dOrV, dNotV, dAnd, dOr, dNot, dIf, dTup, dLst, dChain, dChainT, dTest, dIsi, dAsg, dDrop, dIfS, gN, gT, gs0, gs1, dAug, dNext, dRaise, dCall, dYes, topE, List.getElem?_cons_succ, List.getElem?_cons_zero, List.set_cons_zero, List.set_cons_succ, Option.some.injEq, S.val.injEq, exists_eq_left', exists_eq_left, exists_and_left, and_assoc, List.cons.injEq, and_true, true_and, PyData.int.injEq, PyData.bool.injEq, PyData.tuple.injEq, PyData.list.injEq, absD_i, maxD_i, addD_i, subD_i, negD_i, iaddD_i, mulD_e, fdivD_e, ifdivD_e, modD_e, leD_i, ltD_i, gtD_i, geD_i, lenD_t, lenD_l, isNd_n, notNd_n, isBd_b, notBd_b, isNonD_i, isNonD_n, isNonD_t, isNonD_l, eqD_int, neD_int, eqD_bool, neD_bool, eqD_fr, neD_fr, ix_fr0, ix_fr1, kit_int, kit_bool, kit_str, kit_tuple, decide_eq_true_eq, Bool.not_eq_true', decide_eq_false_iff_not, line_nil, line1, line2, if_true, if_false]
    refine hk [some (.rdr p0 dx0 l0 C_R (now) (past)), some (.val (.int 0)), some (.val (.int u)), some (.val (.int k)), some (.val (.str (ruS z))), some (.val .none), none, none] ?_
    clear hk k'
    refine seq_mk fun k' hk => ?_
    simp only [dRet, dRetN, dSeq, dPar, dPar3, dCons, dNil, dCaB, dVar, dC, dCmpT, dCmp, dU, dB, dAndV, dOrV, dNotV, dAnd, dOr, dNot, dIf, dTup, dLst, dChain, dChainT, dTest, dIsi, dAsg, dDrop, dIfS, gN, gT, gs0, gs1, dAug, dNext, dRaise, dCall, dYes, topE, List.getElem?_cons_succ, List.getElem?_cons_zero, List.set_cons_zero, List.set_cons_succ, Option.some.injEq, S.val.injEq, exists_eq_left', exists_eq_left, exists_and_left, and_assoc, List.cons.injEq, and_true, true_and, PyData.int.injEq, PyData.bool.injEq, PyData.tuple.injEq, PyData.list.injEq, absD_i, maxD_i, addD_i, subD_i, negD_i, iaddD_i, mulD_e, fdivD_e, ifdivD_e, modD_e, leD_i, ltD_i, gtD_i, geD_i, lenD_t, lenD_l, isNd_n, notNd_n, isBd_b, notBd_b, isNonD_i, isNonD_n, isNonD_t, isNonD_l, eqD_int, neD_int, eqD_bool, neD_bool, eqD_fr, neD_fr, ix_fr0, ix_fr1, kit_int, kit_bool, kit_str, kit_tuple, decide_eq_true_eq, Bool.not_eq_true', decide_eq_false_iff_not, line_nil, line1, line2, if_true, if_false]
    refine hk [some (.rdr p0 dx0 l0 C_R (now) (past)), some (.val (.int 0)), some (.val (.int u)), some (.val (.int k)), some (.val (.str (ruS z))), some (.val .none), some (.val .none), none] ?_
    clear hk k'
    refine seq_mk fun k' hk => ?_
    have bad : ∀ er now' past', q (.ok (.str (erS er))) now' past' → k' [some (.rdr p0 dx0 l0 C_R (now') (past')), some (.val (.int 0)), some (.val (.int u)), some (.val (.int k)), some (.val (.str (ruS z))), some (.val .none), some (.exn (ca er)), none] := fun er now' past' hx => hk _ (by
      clear hk k'
      simp only [dRet, dRetN, dSeq, dPar, dPar3, dCons, dNil, dCaB, dVar, dC, dCmpT, dCmp, dU, dB, dAndV, dOrV, dNotV, dAnd, dOr, dNot, dIf, dTup, dLst, dChain, dChainT, dTest, dIsi, dAsg, dDrop, dIfS, gN, gT, gs0, gs1, dAug, dNext, dRaise, dCall, dYes, topE, List.getElem?_cons_succ, List.getElem?_cons_zero, List.set_cons_zero, List.set_cons_succ, Option.some.injEq, S.val.injEq, exists_eq_left', exists_eq_left, exists_and_left, and_assoc, List.cons.injEq, and_true, true_and, PyData.int.injEq, PyData.bool.injEq, PyData.tuple.injEq, PyData.list.injEq, absD_i, maxD_i, addD_i, subD_i, negD_i, iaddD_i, mulD_e, fdivD_e, ifdivD_e, modD_e, leD_i, ltD_i, gtD_i, geD_i, lenD_t, lenD_l, isNd_n, notNd_n, isBd_b, notBd_b, isNonD_i, isNonD_n, isNonD_t, isNonD_l, eqD_int, neD_int, eqD_bool, neD_bool, eqD_fr, neD_fr, ix_fr0, ix_fr1, kit_int, kit_bool, kit_str, kit_tuple, decide_eq_true_eq, Bool.not_eq_true', decide_eq_false_iff_not, line_nil, line1, line2, if_true, if_false, dIsX, dCallX, topR, S.rdr.injEq]
      refine .inr ⟨_, rfl, ?_⟩
      exact iteF ⟨er, rfl, hx⟩)
    have fin : ∀ x now' past', q (.ok x) now' past' → k' [some (.rdr p0 dx0 l0 C_R (now') (past')), some (.val (.int 0)), some (.val (.int u)), some (.val (.int k)), some (.val (.str (ruS z))), some (.val x), some (.val .none), none] := fun x now' past' hx => hk _ (by
      clear hk bad k'
      simp only [dRet, dRetN, dSeq, dPar, dPar3, dCons, dNil, dCaB, dVar, dC, dCmpT, dCmp, dU, dB, dAndV, dOrV, dNotV, dAnd, dOr, dNot, dIf, dTup, dLst, dChain, dChainT, dTest, dIsi, dAsg, dDrop, dIfS, gN, gT, gs0, gs1, dAug, dNext, dRaise, dCall, dYes, topE, List.getElem?_cons_succ, List.getElem?_cons_zero, List.set_cons_zero, List.set_cons_succ, Option.some.injEq, S.val.injEq, exists_eq_left', exists_eq_left, exists_and_left, and_assoc, List.cons.injEq, and_true, true_and, PyData.int.injEq, PyData.bool.injEq, PyData.tuple.injEq, PyData.list.injEq, absD_i, maxD_i, addD_i, subD_i, negD_i, iaddD_i, mulD_e, fdivD_e, ifdivD_e, modD_e, leD_i, ltD_i, gtD_i, geD_i, lenD_t, lenD_l, isNd_n, notNd_n, isBd_b, notBd_b, isNonD_i, isNonD_n, isNonD_t, isNonD_l, eqD_int, neD_int, eqD_bool, neD_bool, eqD_fr, neD_fr, ix_fr0, ix_fr1, kit_int, kit_bool, kit_str, kit_tuple, decide_eq_true_eq, Bool.not_eq_true', decide_eq_false_iff_not, line_nil, line1, line2, if_true, if_false, dIsX, dCallX, topR, S.rdr.injEq]
      exact .inl hx)
    clear hk
    simp only [dRet, dRetN, dSeq, dPar, dPar3, dCons, dNil, dCaB, dVar, dC, dCmpT, dCmp, dU, dB, dAndV, dOrV, dNotV, dAnd, dOr, dNot, dIf, dTup, dLst, dChain, dChainT, dTest, dIsi, dAsg, dDrop, dIfS, gN, gT, gs0, gs1, dAug, dNext, dRaise, dCall, dYes, topE, List.getElem?_cons_succ, List.getElem?_cons_zero, List.set_cons_zero, List.set_cons_succ, Option.some.injEq, S.val.injEq, exists_eq_left', exists_eq_left, exists_and_left, and_assoc, List.cons.injEq, and_true, true_and, PyData.int.injEq, PyData.bool.injEq, PyData.tuple.injEq, PyData.list.injEq, absD_i, maxD_i, addD_i, subD_i, negD_i, iaddD_i, mulD_e, fdivD_e, ifdivD_e, modD_e, leD_i, ltD_i, gtD_i, geD_i, lenD_t, lenD_l, isNd_n, notNd_n, isBd_b, notBd_b, isNonD_i, isNonD_n, isNonD_t, isNonD_l, eqD_int, neD_int, eqD_bool, neD_bool, eqD_fr, neD_fr, ix_fr0, ix_fr1, kit_int, kit_bool, kit_str, kit_tuple, decide_eq_true_eq, Bool.not_eq_true', decide_eq_false_iff_not, line_nil, line1, line2, if_true, if_false, dTry, dMethE, S.rdr.injEq]
    refine ⟨rfl, ?_⟩
    rw [hnow]
    refine c_Reader_tell_ok hb he hp hk6.1 hk6.2 hu.1 hu.2 ?_
    rw [← hnow]
    by_cases hs : spanB (spanT (mLo a b i (lowN (loN u z) (spK k z)) (lowU (loN u z) (spK k z)) (loI u z)).1 (mLo a b i (lowN (loN u z) (spK k z)) (lowU (loN u z) (spK k z)) (loI u z)).2.1 (mLo a b i (lowN (loN u z) (spK k z)) (lowU (loN u z) (spK k z)) (loI u z)).2.2 (mHi c e j (lowN (hiN u z) (spK k z)) (lowU (hiN u z) (spK k z)) (hiI u z)).1 (mHi c e j (lowN (hiN u z) (spK k z)) (lowU (hiN u z) (spK k z)) (hiI u z)).2.1 (mHi c e j (lowN (hiN u z) (spK k z)) (lowU (hiN u z) (spK k z)) (hiI u z)).2.2) = true
    · rw [if_pos hs] at hq ⊢
      exact fin _ _ _ hq
    · rw [if_neg hs] at hq ⊢
      exact bad .nof _ _ hq
  · obtain ⟨now, hnow⟩ : ∃ now, now = spanT a b i c e j := ⟨_, rfl⟩
    rw [← hnow] at hq ⊢

    rw [show startR ["shown", "kind", "units", "digits", "rule", "found", "caught", "e"] p0 dx0 l0 C_R now past [.int 0, .int 0, .int 7, .str "down"] = [some (.rdr p0 dx0 l0 C_R now past), some (.val (.int 0)), some (.val (.int 0)), some (.val (.int 7)), some (.val (.str "down")), none, none, none] from rfl]
    refine seq_mk fun k' hk => ?_
    simp only [dRet, dRetN, dSeq, dPar, dPar3, dCons, dNil, dCaB, dVar, dC, dCmpT, dCmp, dU, dB, dAndV, dOrV, dNotV, dAnd, dOr, dNot, dIf, dTup, dLst, dChain, dChainT, dTest, dIsi, dAsg, dDrop, dIfS, gN, gT, gs0, gs1, dAug, dNext, dRaise, dCall, dYes, topE, List.getElem?_cons_succ, List.getElem?_cons_zero, List.set_cons_zero, List.set_cons_succ, Option.some.injEq, S.val.injEq, exists_eq_left', exists_eq_left, exists_and_left, and_assoc, List.cons.injEq, and_true, true_and, PyData.int.injEq, PyData.bool.injEq, PyData.tuple.injEq, PyData.list.injEq, absD_i, maxD_i, addD_i, subD_i, negD_i, iaddD_i, mulD_e, fdivD_e, ifdivD_e, modD_e, leD_i, ltD_i, gtD_i, geD_i, lenD_t, lenD_l, isNd_n, notNd_n, isBd_b, notBd_b, isNonD_i, isNonD_n, isNonD_t, isNonD_l, eqD_int, neD_int, eqD_bool, neD_bool, eqD_fr, neD_fr, ix_fr0, ix_fr1, kit_int, kit_bool, kit_str, kit_tuple, decide_eq_true_eq, Bool.not_eq_true', decide_eq_false_iff_not, line_nil, line1, line2, if_true, if_false]
    refine hk [some (.rdr p0 dx0 l0 C_R (now) (past)), some (.val (.int 0)), some (.val (.int 0)), some (.val (.int 7)), some (.val (.str "down")), some (.val .none), none, none] ?_
    clear hk k'
    refine seq_mk fun k' hk => ?_
    simp only [dRet, dRetN, dSeq, dPar, dPar3, dCons, dNil, dCaB, dVar, dC, dCmpT, dCmp, dU, dB, dAndV, dOrV, dNotV, dAnd, dOr, dNot, dIf, dTup, dLst, dChain, dChainT, dTest, dIsi, dAsg, dDrop, dIfS, gN, gT, gs0, gs1, dAug, dNext, dRaise, dCall, dYes, topE, List.getElem?_cons_succ, List.getElem?_cons_zero, List.set_cons_zero, List.set_cons_succ, Option.some.injEq, S.val.injEq, exists_eq_left', exists_eq_left, exists_and_left, and_assoc, List.cons.injEq, and_true, true_and, PyData.int.injEq, PyData.bool.injEq, PyData.tuple.injEq, PyData.list.injEq, absD_i, maxD_i, addD_i, subD_i, negD_i, iaddD_i, mulD_e, fdivD_e, ifdivD_e, modD_e, leD_i, ltD_i, gtD_i, geD_i, lenD_t, lenD_l, isNd_n, notNd_n, isBd_b, notBd_b, isNonD_i, isNonD_n, isNonD_t, isNonD_l, eqD_int, neD_int, eqD_bool, neD_bool, eqD_fr, neD_fr, ix_fr0, ix_fr1, kit_int, kit_bool, kit_str, kit_tuple, decide_eq_true_eq, Bool.not_eq_true', decide_eq_false_iff_not, line_nil, line1, line2, if_true, if_false]
    refine hk [some (.rdr p0 dx0 l0 C_R (now) (past)), some (.val (.int 0)), some (.val (.int 0)), some (.val (.int 7)), some (.val (.str "down")), some (.val .none), some (.val .none), none] ?_
    clear hk k'
    refine seq_mk fun k' hk => ?_
    have bad : ∀ er now' past', q (.ok (.str (erS er))) now' past' → k' [some (.rdr p0 dx0 l0 C_R (now') (past')), some (.val (.int 0)), some (.val (.int 0)), some (.val (.int 7)), some (.val (.str "down")), some (.val .none), some (.exn (ca er)), none] := fun er now' past' hx => hk _ (by
      clear hk k'
      simp only [dRet, dRetN, dSeq, dPar, dPar3, dCons, dNil, dCaB, dVar, dC, dCmpT, dCmp, dU, dB, dAndV, dOrV, dNotV, dAnd, dOr, dNot, dIf, dTup, dLst, dChain, dChainT, dTest, dIsi, dAsg, dDrop, dIfS, gN, gT, gs0, gs1, dAug, dNext, dRaise, dCall, dYes, topE, List.getElem?_cons_succ, List.getElem?_cons_zero, List.set_cons_zero, List.set_cons_succ, Option.some.injEq, S.val.injEq, exists_eq_left', exists_eq_left, exists_and_left, and_assoc, List.cons.injEq, and_true, true_and, PyData.int.injEq, PyData.bool.injEq, PyData.tuple.injEq, PyData.list.injEq, absD_i, maxD_i, addD_i, subD_i, negD_i, iaddD_i, mulD_e, fdivD_e, ifdivD_e, modD_e, leD_i, ltD_i, gtD_i, geD_i, lenD_t, lenD_l, isNd_n, notNd_n, isBd_b, notBd_b, isNonD_i, isNonD_n, isNonD_t, isNonD_l, eqD_int, neD_int, eqD_bool, neD_bool, eqD_fr, neD_fr, ix_fr0, ix_fr1, kit_int, kit_bool, kit_str, kit_tuple, decide_eq_true_eq, Bool.not_eq_true', decide_eq_false_iff_not, line_nil, line1, line2, if_true, if_false, dIsX, dCallX, topR, S.rdr.injEq]
      refine .inr ⟨_, rfl, ?_⟩
      exact iteF ⟨er, rfl, hx⟩)
    have fin : ∀ x now' past', q (.ok x) now' past' → k' [some (.rdr p0 dx0 l0 C_R (now') (past')), some (.val (.int 0)), some (.val (.int 0)), some (.val (.int 7)), some (.val (.str "down")), some (.val x), some (.val .none), none] := fun x now' past' hx => hk _ (by
      clear hk bad k'
      simp only [dRet, dRetN, dSeq, dPar, dPar3, dCons, dNil, dCaB, dVar, dC, dCmpT, dCmp, dU, dB, dAndV, dOrV, dNotV, dAnd, dOr, dNot, dIf, dTup, dLst, dChain, dChainT, dTest, dIsi, dAsg, dDrop, dIfS, gN, gT, gs0, gs1, dAug, dNext, dRaise, dCall, dYes, topE, List.getElem?_cons_succ, List.getElem?_cons_zero, List.set_cons_zero, List.set_cons_succ, Option.some.injEq, S.val.injEq, exists_eq_left', exists_eq_left, exists_and_left, and_assoc, List.cons.injEq, and_true, true_and, PyData.int.injEq, PyData.bool.injEq, PyData.tuple.injEq, PyData.list.injEq, absD_i, maxD_i, addD_i, subD_i, negD_i, iaddD_i, mulD_e, fdivD_e, ifdivD_e, modD_e, leD_i, ltD_i, gtD_i, geD_i, lenD_t, lenD_l, isNd_n, notNd_n, isBd_b, notBd_b, isNonD_i, isNonD_n, isNonD_t, isNonD_l, eqD_int, neD_int, eqD_bool, neD_bool, eqD_fr, neD_fr, ix_fr0, ix_fr1, kit_int, kit_bool, kit_str, kit_tuple, decide_eq_true_eq, Bool.not_eq_true', decide_eq_false_iff_not, line_nil, line1, line2, if_true, if_false, dIsX, dCallX, topR, S.rdr.injEq]
      exact .inl hx)
    clear hk
    simp only [dRet, dRetN, dSeq, dPar, dPar3, dCons, dNil, dCaB, dVar, dC, dCmpT, dCmp, dU, dB, dAndV, dOrV, dNotV, dAnd, dOr, dNot, dIf, dTup, dLst, dChain, dChainT, dTest, dIsi, dAsg, dDrop, dIfS, gN, gT, gs0, gs1, dAug, dNext, dRaise, dCall, dYes, topE, List.getElem?_cons_succ, List.getElem?_cons_zero, List.set_cons_zero, List.set_cons_succ, Option.some.injEq, S.val.injEq, exists_eq_left', exists_eq_left, exists_and_left, and_assoc, List.cons.injEq, and_true, true_and, PyData.int.injEq, PyData.bool.injEq, PyData.tuple.injEq, PyData.list.injEq, absD_i, maxD_i, addD_i, subD_i, negD_i, iaddD_i, mulD_e, fdivD_e, ifdivD_e, modD_e, leD_i, ltD_i, gtD_i, geD_i, lenD_t, lenD_l, isNd_n, notNd_n, isBd_b, notBd_b, isNonD_i, isNonD_n, isNonD_t, isNonD_l, eqD_int, neD_int, eqD_bool, neD_bool, eqD_fr, neD_fr, ix_fr0, ix_fr1, kit_int, kit_bool, kit_str, kit_tuple, decide_eq_true_eq, Bool.not_eq_true', decide_eq_false_iff_not, line_nil, line1, line2, if_true, if_false, dTry, dMethE, S.rdr.injEq]
    refine ⟨rfl, ?_⟩
    refine ⟨_, _, _, rfl, a, b, i, c, e, j, hnow, hb, he, hp, ?_⟩
    rw [show isIntB (.int 7) 0 6 = false by decide, chk_f]
    exact bad .num _ _ hq
  · obtain ⟨now, hnow⟩ : ∃ now, now = spanT a b i c e j := ⟨_, rfl⟩
    rw [← hnow] at hq ⊢

    rw [show startR ["shown", "kind", "units", "digits", "rule", "found", "caught", "e"] p0 dx0 l0 C_R now past [.int 0, .int 0, .int 0, .str "best"] = [some (.rdr p0 dx0 l0 C_R now past), some (.val (.int 0)), some (.val (.int 0)), some (.val (.int 0)), some (.val (.str "best")), none, none, none] from rfl]
    refine seq_mk fun k' hk => ?_
    simp only [dRet, dRetN, dSeq, dPar, dPar3, dCons, dNil, dCaB, dVar, dC, dCmpT, dCmp, dU, dB, dAndV, dOrV, dNotV, dAnd, dOr, dNot, dIf, dTup, dLst, dChain, dChainT, dTest, dIsi, dAsg, dDrop, dIfS, gN, gT, gs0, gs1, dAug, dNext, dRaise, dCall, dYes, topE, List.getElem?_cons_succ, List.getElem?_cons_zero, List.set_cons_zero, List.set_cons_succ, Option.some.injEq, S.val.injEq, exists_eq_left', exists_eq_left, exists_and_left, and_assoc, List.cons.injEq, and_true, true_and, PyData.int.injEq, PyData.bool.injEq, PyData.tuple.injEq, PyData.list.injEq, absD_i, maxD_i, addD_i, subD_i, negD_i, iaddD_i, mulD_e, fdivD_e, ifdivD_e, modD_e, leD_i, ltD_i, gtD_i, geD_i, lenD_t, lenD_l, isNd_n, notNd_n, isBd_b, notBd_b, isNonD_i, isNonD_n, isNonD_t, isNonD_l, eqD_int, neD_int, eqD_bool, neD_bool, eqD_fr, neD_fr, ix_fr0, ix_fr1, kit_int, kit_bool, kit_str, kit_tuple, decide_eq_true_eq, Bool.not_eq_true', decide_eq_false_iff_not, line_nil, line1, line2, if_true, if_false]
    refine hk [some (.rdr p0 dx0 l0 C_R (now) (past)), some (.val (.int 0)), some (.val (.int 0)), some (.val (.int 0)), some (.val (.str "best")), some (.val .none), none, none] ?_
    clear hk k'
    refine seq_mk fun k' hk => ?_
    simp only [dRet, dRetN, dSeq, dPar, dPar3, dCons, dNil, dCaB, dVar, dC, dCmpT, dCmp, dU, dB, dAndV, dOrV, dNotV, dAnd, dOr, dNot, dIf, dTup, dLst, dChain, dChainT, dTest, dIsi, dAsg, dDrop, dIfS, gN, gT, gs0, gs1, dAug, dNext, dRaise, dCall, dYes, topE, List.getElem?_cons_succ, List.getElem?_cons_zero, List.set_cons_zero, List.set_cons_succ, Option.some.injEq, S.val.injEq, exists_eq_left', exists_eq_left, exists_and_left, and_assoc, List.cons.injEq, and_true, true_and, PyData.int.injEq, PyData.bool.injEq, PyData.tuple.injEq, PyData.list.injEq, absD_i, maxD_i, addD_i, subD_i, negD_i, iaddD_i, mulD_e, fdivD_e, ifdivD_e, modD_e, leD_i, ltD_i, gtD_i, geD_i, lenD_t, lenD_l, isNd_n, notNd_n, isBd_b, notBd_b, isNonD_i, isNonD_n, isNonD_t, isNonD_l, eqD_int, neD_int, eqD_bool, neD_bool, eqD_fr, neD_fr, ix_fr0, ix_fr1, kit_int, kit_bool, kit_str, kit_tuple, decide_eq_true_eq, Bool.not_eq_true', decide_eq_false_iff_not, line_nil, line1, line2, if_true, if_false]
    refine hk [some (.rdr p0 dx0 l0 C_R (now) (past)), some (.val (.int 0)), some (.val (.int 0)), some (.val (.int 0)), some (.val (.str "best")), some (.val .none), some (.val .none), none] ?_
    clear hk k'
    refine seq_mk fun k' hk => ?_
    have bad : ∀ er now' past', q (.ok (.str (erS er))) now' past' → k' [some (.rdr p0 dx0 l0 C_R (now') (past')), some (.val (.int 0)), some (.val (.int 0)), some (.val (.int 0)), some (.val (.str "best")), some (.val .none), some (.exn (ca er)), none] := fun er now' past' hx => hk _ (by
      clear hk k'
      simp only [dRet, dRetN, dSeq, dPar, dPar3, dCons, dNil, dCaB, dVar, dC, dCmpT, dCmp, dU, dB, dAndV, dOrV, dNotV, dAnd, dOr, dNot, dIf, dTup, dLst, dChain, dChainT, dTest, dIsi, dAsg, dDrop, dIfS, gN, gT, gs0, gs1, dAug, dNext, dRaise, dCall, dYes, topE, List.getElem?_cons_succ, List.getElem?_cons_zero, List.set_cons_zero, List.set_cons_succ, Option.some.injEq, S.val.injEq, exists_eq_left', exists_eq_left, exists_and_left, and_assoc, List.cons.injEq, and_true, true_and, PyData.int.injEq, PyData.bool.injEq, PyData.tuple.injEq, PyData.list.injEq, absD_i, maxD_i, addD_i, subD_i, negD_i, iaddD_i, mulD_e, fdivD_e, ifdivD_e, modD_e, leD_i, ltD_i, gtD_i, geD_i, lenD_t, lenD_l, isNd_n, notNd_n, isBd_b, notBd_b, isNonD_i, isNonD_n, isNonD_t, isNonD_l, eqD_int, neD_int, eqD_bool, neD_bool, eqD_fr, neD_fr, ix_fr0, ix_fr1, kit_int, kit_bool, kit_str, kit_tuple, decide_eq_true_eq, Bool.not_eq_true', decide_eq_false_iff_not, line_nil, line1, line2, if_true, if_false, dIsX, dCallX, topR, S.rdr.injEq]
      refine .inr ⟨_, rfl, ?_⟩
      exact iteF ⟨er, rfl, hx⟩)
    have fin : ∀ x now' past', q (.ok x) now' past' → k' [some (.rdr p0 dx0 l0 C_R (now') (past')), some (.val (.int 0)), some (.val (.int 0)), some (.val (.int 0)), some (.val (.str "best")), some (.val x), some (.val .none), none] := fun x now' past' hx => hk _ (by
      clear hk bad k'
      simp only [dRet, dRetN, dSeq, dPar, dPar3, dCons, dNil, dCaB, dVar, dC, dCmpT, dCmp, dU, dB, dAndV, dOrV, dNotV, dAnd, dOr, dNot, dIf, dTup, dLst, dChain, dChainT, dTest, dIsi, dAsg, dDrop, dIfS, gN, gT, gs0, gs1, dAug, dNext, dRaise, dCall, dYes, topE, List.getElem?_cons_succ, List.getElem?_cons_zero, List.set_cons_zero, List.set_cons_succ, Option.some.injEq, S.val.injEq, exists_eq_left', exists_eq_left, exists_and_left, and_assoc, List.cons.injEq, and_true, true_and, PyData.int.injEq, PyData.bool.injEq, PyData.tuple.injEq, PyData.list.injEq, absD_i, maxD_i, addD_i, subD_i, negD_i, iaddD_i, mulD_e, fdivD_e, ifdivD_e, modD_e, leD_i, ltD_i, gtD_i, geD_i, lenD_t, lenD_l, isNd_n, notNd_n, isBd_b, notBd_b, isNonD_i, isNonD_n, isNonD_t, isNonD_l, eqD_int, neD_int, eqD_bool, neD_bool, eqD_fr, neD_fr, ix_fr0, ix_fr1, kit_int, kit_bool, kit_str, kit_tuple, decide_eq_true_eq, Bool.not_eq_true', decide_eq_false_iff_not, line_nil, line1, line2, if_true, if_false, dIsX, dCallX, topR, S.rdr.injEq]
      exact .inl hx)
    clear hk
    simp only [dRet, dRetN, dSeq, dPar, dPar3, dCons, dNil, dCaB, dVar, dC, dCmpT, dCmp, dU, dB, dAndV, dOrV, dNotV, dAnd, dOr, dNot, dIf, dTup, dLst, dChain, dChainT, dTest, dIsi, dAsg, dDrop, dIfS, gN, gT, gs0, gs1, dAug, dNext, dRaise, dCall, dYes, topE, List.getElem?_cons_succ, List.getElem?_cons_zero, List.set_cons_zero, List.set_cons_succ, Option.some.injEq, S.val.injEq, exists_eq_left', exists_eq_left, exists_and_left, and_assoc, List.cons.injEq, and_true, true_and, PyData.int.injEq, PyData.bool.injEq, PyData.tuple.injEq, PyData.list.injEq, absD_i, maxD_i, addD_i, subD_i, negD_i, iaddD_i, mulD_e, fdivD_e, ifdivD_e, modD_e, leD_i, ltD_i, gtD_i, geD_i, lenD_t, lenD_l, isNd_n, notNd_n, isBd_b, notBd_b, isNonD_i, isNonD_n, isNonD_t, isNonD_l, eqD_int, neD_int, eqD_bool, neD_bool, eqD_fr, neD_fr, ix_fr0, ix_fr1, kit_int, kit_bool, kit_str, kit_tuple, decide_eq_true_eq, Bool.not_eq_true', decide_eq_false_iff_not, line_nil, line1, line2, if_true, if_false, dTry, dMethE, S.rdr.injEq]
    refine ⟨rfl, ?_⟩
    refine ⟨_, _, _, rfl, a, b, i, c, e, j, hnow, hb, he, hp, ?_⟩
    rw [show isIntB (.int 0) 0 6 = true by decide, chk_t]
    intro k ek
    simp at ek
    subst ek
    rw [show isIntB (.int 0) (-101 * powT 0) (101 * powT 0) = true by decide, chk_t, show isRuleB (.str "best") = false by decide +kernel, chk_f]
    exact bad .rul _ _ hq
  · skip

    rw [show startR ["shown", "kind", "units", "digits", "rule", "found", "caught", "e"] p0 dx0 l0 C_R now past [.int 1, .int 0, .int 0, .int 0] = [some (.rdr p0 dx0 l0 C_R now past), some (.val (.int 1)), some (.val (.int 0)), some (.val (.int 0)), some (.val (.int 0)), none, none, none] from rfl]
    refine seq_mk fun k' hk => ?_
    simp only [dRet, dRetN, dSeq, dPar, dPar3, dCons, dNil, dCaB, dVar, dC, dCmpT, dCmp, dU, dB, dAndV, dOrV, dNotV, dAnd, dOr, dNot, dIf, dTup, dLst, dChain, dChainT, dTest, dIsi, dAsg, dDrop, dIfS, gN, gT, gs0, gs1, dAug, dNext, dRaise, dCall, dYes, topE, List.getElem?_cons_succ, List.getElem?_cons_zero, List.set_cons_zero, List.set_cons_succ, Option.some.injEq, S.val.injEq, exists_eq_left', exists_eq_left, exists_and_left, and_assoc, List.cons.injEq, and_true, true_and, PyData.int.injEq, PyData.bool.injEq, PyData.tuple.injEq, PyData.list.injEq, absD_i, maxD_i, addD_i, subD_i, negD_i, iaddD_i, mulD_e, fdivD_e, ifdivD_e, modD_e, leD_i, ltD_i, gtD_i, geD_i, lenD_t, lenD_l, isNd_n, notNd_n, isBd_b, notBd_b, isNonD_i, isNonD_n, isNonD_t, isNonD_l, eqD_int, neD_int, eqD_bool, neD_bool, eqD_fr, neD_fr, ix_fr0, ix_fr1, kit_int, kit_bool, kit_str, kit_tuple, decide_eq_true_eq, Bool.not_eq_true', decide_eq_false_iff_not, line_nil, line1, line2, if_true, if_false]
    refine hk [some (.rdr p0 dx0 l0 C_R (now) (past)), some (.val (.int 1)), some (.val (.int 0)), some (.val (.int 0)), some (.val (.int 0)), some (.val .none), none, none] ?_
    clear hk k'
    refine seq_mk fun k' hk => ?_
    simp only [dRet, dRetN, dSeq, dPar, dPar3, dCons, dNil, dCaB, dVar, dC, dCmpT, dCmp, dU, dB, dAndV, dOrV, dNotV, dAnd, dOr, dNot, dIf, dTup, dLst, dChain, dChainT, dTest, dIsi, dAsg, dDrop, dIfS, gN, gT, gs0, gs1, dAug, dNext, dRaise, dCall, dYes, topE, List.getElem?_cons_succ, List.getElem?_cons_zero, List.set_cons_zero, List.set_cons_succ, Option.some.injEq, S.val.injEq, exists_eq_left', exists_eq_left, exists_and_left, and_assoc, List.cons.injEq, and_true, true_and, PyData.int.injEq, PyData.bool.injEq, PyData.tuple.injEq, PyData.list.injEq, absD_i, maxD_i, addD_i, subD_i, negD_i, iaddD_i, mulD_e, fdivD_e, ifdivD_e, modD_e, leD_i, ltD_i, gtD_i, geD_i, lenD_t, lenD_l, isNd_n, notNd_n, isBd_b, notBd_b, isNonD_i, isNonD_n, isNonD_t, isNonD_l, eqD_int, neD_int, eqD_bool, neD_bool, eqD_fr, neD_fr, ix_fr0, ix_fr1, kit_int, kit_bool, kit_str, kit_tuple, decide_eq_true_eq, Bool.not_eq_true', decide_eq_false_iff_not, line_nil, line1, line2, if_true, if_false]
    refine hk [some (.rdr p0 dx0 l0 C_R (now) (past)), some (.val (.int 1)), some (.val (.int 0)), some (.val (.int 0)), some (.val (.int 0)), some (.val .none), some (.val .none), none] ?_
    clear hk k'
    refine seq_mk fun k' hk => ?_
    have bad : ∀ er now' past', q (.ok (.str (erS er))) now' past' → k' [some (.rdr p0 dx0 l0 C_R (now') (past')), some (.val (.int 1)), some (.val (.int 0)), some (.val (.int 0)), some (.val (.int 0)), some (.val .none), some (.exn (ca er)), none] := fun er now' past' hx => hk _ (by
      clear hk k'
      simp only [dRet, dRetN, dSeq, dPar, dPar3, dCons, dNil, dCaB, dVar, dC, dCmpT, dCmp, dU, dB, dAndV, dOrV, dNotV, dAnd, dOr, dNot, dIf, dTup, dLst, dChain, dChainT, dTest, dIsi, dAsg, dDrop, dIfS, gN, gT, gs0, gs1, dAug, dNext, dRaise, dCall, dYes, topE, List.getElem?_cons_succ, List.getElem?_cons_zero, List.set_cons_zero, List.set_cons_succ, Option.some.injEq, S.val.injEq, exists_eq_left', exists_eq_left, exists_and_left, and_assoc, List.cons.injEq, and_true, true_and, PyData.int.injEq, PyData.bool.injEq, PyData.tuple.injEq, PyData.list.injEq, absD_i, maxD_i, addD_i, subD_i, negD_i, iaddD_i, mulD_e, fdivD_e, ifdivD_e, modD_e, leD_i, ltD_i, gtD_i, geD_i, lenD_t, lenD_l, isNd_n, notNd_n, isBd_b, notBd_b, isNonD_i, isNonD_n, isNonD_t, isNonD_l, eqD_int, neD_int, eqD_bool, neD_bool, eqD_fr, neD_fr, ix_fr0, ix_fr1, kit_int, kit_bool, kit_str, kit_tuple, decide_eq_true_eq, Bool.not_eq_true', decide_eq_false_iff_not, line_nil, line1, line2, if_true, if_false, dIsX, dCallX, topR, S.rdr.injEq]
      refine .inr ⟨_, rfl, ?_⟩
      exact iteF ⟨er, rfl, hx⟩)
    have fin : ∀ x now' past', q (.ok x) now' past' → k' [some (.rdr p0 dx0 l0 C_R (now') (past')), some (.val (.int 1)), some (.val (.int 0)), some (.val (.int 0)), some (.val (.int 0)), some (.val x), some (.val .none), none] := fun x now' past' hx => hk _ (by
      clear hk bad k'
      simp only [dRet, dRetN, dSeq, dPar, dPar3, dCons, dNil, dCaB, dVar, dC, dCmpT, dCmp, dU, dB, dAndV, dOrV, dNotV, dAnd, dOr, dNot, dIf, dTup, dLst, dChain, dChainT, dTest, dIsi, dAsg, dDrop, dIfS, gN, gT, gs0, gs1, dAug, dNext, dRaise, dCall, dYes, topE, List.getElem?_cons_succ, List.getElem?_cons_zero, List.set_cons_zero, List.set_cons_succ, Option.some.injEq, S.val.injEq, exists_eq_left', exists_eq_left, exists_and_left, and_assoc, List.cons.injEq, and_true, true_and, PyData.int.injEq, PyData.bool.injEq, PyData.tuple.injEq, PyData.list.injEq, absD_i, maxD_i, addD_i, subD_i, negD_i, iaddD_i, mulD_e, fdivD_e, ifdivD_e, modD_e, leD_i, ltD_i, gtD_i, geD_i, lenD_t, lenD_l, isNd_n, notNd_n, isBd_b, notBd_b, isNonD_i, isNonD_n, isNonD_t, isNonD_l, eqD_int, neD_int, eqD_bool, neD_bool, eqD_fr, neD_fr, ix_fr0, ix_fr1, kit_int, kit_bool, kit_str, kit_tuple, decide_eq_true_eq, Bool.not_eq_true', decide_eq_false_iff_not, line_nil, line1, line2, if_true, if_false, dIsX, dCallX, topR, S.rdr.injEq]
      exact .inl hx)
    clear hk
    simp only [dRet, dRetN, dSeq, dPar, dPar3, dCons, dNil, dCaB, dVar, dC, dCmpT, dCmp, dU, dB, dAndV, dOrV, dNotV, dAnd, dOr, dNot, dIf, dTup, dLst, dChain, dChainT, dTest, dIsi, dAsg, dDrop, dIfS, gN, gT, gs0, gs1, dAug, dNext, dRaise, dCall, dYes, topE, List.getElem?_cons_succ, List.getElem?_cons_zero, List.set_cons_zero, List.set_cons_succ, Option.some.injEq, S.val.injEq, exists_eq_left', exists_eq_left, exists_and_left, and_assoc, List.cons.injEq, and_true, true_and, PyData.int.injEq, PyData.bool.injEq, PyData.tuple.injEq, PyData.list.injEq, absD_i, maxD_i, addD_i, subD_i, negD_i, iaddD_i, mulD_e, fdivD_e, ifdivD_e, modD_e, leD_i, ltD_i, gtD_i, geD_i, lenD_t, lenD_l, isNd_n, notNd_n, isBd_b, notBd_b, isNonD_i, isNonD_n, isNonD_t, isNonD_l, eqD_int, neD_int, eqD_bool, neD_bool, eqD_fr, neD_fr, ix_fr0, ix_fr1, kit_int, kit_bool, kit_str, kit_tuple, decide_eq_true_eq, Bool.not_eq_true', decide_eq_false_iff_not, line_nil, line1, line2, if_true, if_false, dTry, dMethE, S.rdr.injEq]
    refine ⟨rfl, ?_⟩
    rw [if_neg (by decide)]
    refine ⟨rfl, hs, ?_⟩
    rcases hq with ⟨rfl, hq⟩ | ⟨ps, x, rfl, hq⟩
    · exact .inl ⟨rfl, bad .nof _ _ hq⟩
    · exact .inr ⟨ps, x, rfl, fin _ _ _ hq⟩
theorem c__law_call_tell {a b : Int} {i : Bool} {c e : Int} {j : Bool} {u k : Int} {z : Ru} {past : List PyData} {q : Res → PyData → List PyData → Prop} (hb : 0 < b ∧ b < 2 ^ 60) (he : 0 < e ∧ e < 2 ^ 60) (hp : past.length < 1000) (hk : 0 ≤ k ∧ k ≤ 6) (hu : -101 * powT k ≤ u ∧ u ≤ 101 * powT k)
    (h : (if spanB (spanT (mLo a b i (lowN (loN u z) (spK k z)) (lowU (loN u z) (spK k z)) (loI u z)).1 (mLo a b i (lowN (loN u z) (spK k z)) (lowU (loN u z) (spK k z)) (loI u z)).2.1 (mLo a b i (lowN (loN u z) (spK k z)) (lowU (loN u z) (spK k z)) (loI u z)).2.2 (mHi c e j (lowN (hiN u z) (spK k z)) (lowU (hiN u z) (spK k z)) (hiI u z)).1 (mHi c e j (lowN (hiN u z) (spK k z)) (lowU (hiN u z) (spK k z)) (hiI u z)).2.1 (mHi c e j (lowN (hiN u z) (spK k z)) (lowU (hiN u z) (spK k z)) (hiI u z)).2.2) = true then q (.ok (spanT (mLo a b i (lowN (loN u z) (spK k z)) (lowU (loN u z) (spK k z)) (loI u z)).1 (mLo a b i (lowN (loN u z) (spK k z)) (lowU (loN u z) (spK k z)) (loI u z)).2.1 (mLo a b i (lowN (loN u z) (spK k z)) (lowU (loN u z) (spK k z)) (loI u z)).2.2 (mHi c e j (lowN (hiN u z) (spK k z)) (lowU (hiN u z) (spK k z)) (hiI u z)).1 (mHi c e j (lowN (hiN u z) (spK k z)) (lowU (hiN u z) (spK k z)) (hiI u z)).2.1 (mHi c e j (lowN (hiN u z) (spK k z)) (lowU (hiN u z) (spK k z)) (hiI u z)).2.2)) (spanT (mLo a b i (lowN (loN u z) (spK k z)) (lowU (loN u z) (spK k z)) (loI u z)).1 (mLo a b i (lowN (loN u z) (spK k z)) (lowU (loN u z) (spK k z)) (loI u z)).2.1 (mLo a b i (lowN (loN u z) (spK k z)) (lowU (loN u z) (spK k z)) (loI u z)).2.2 (mHi c e j (lowN (hiN u z) (spK k z)) (lowU (hiN u z) (spK k z)) (hiI u z)).1 (mHi c e j (lowN (hiN u z) (spK k z)) (lowU (hiN u z) (spK k z)) (hiI u z)).2.1 (mHi c e j (lowN (hiN u z) (spK k z)) (lowU (hiN u z) (spK k z)) (hiI u z)).2.2) (past ++ [spanT a b i c e j]) else q (.ok (.str "none")) (spanT a b i c e j) past)) : c__law_call (spanT a b i c e j) past [.int 0, .int u, .int k, .str (ruS z)] q := .inl ⟨_, _, _, _, _, _, _, _, _, rfl, rfl, hb, he, hp, hk, hu, h⟩
theorem c__law_call_num {a b : Int} {i : Bool} {c e : Int} {j : Bool} {past : List PyData} {q : Res → PyData → List PyData → Prop} (hb : 0 < b ∧ b < 2 ^ 60) (he : 0 < e ∧ e < 2 ^ 60) (hp : past.length < 1000) (h : q (.ok (.str "number")) (spanT a b i c e j) past) : c__law_call (spanT a b i c e j) past [.int 0, .int 0, .int 7, .str "down"] q := .inr (.inl ⟨_, _, _, _, _, _, rfl, rfl, hb, he, hp, h⟩)
theorem c__law_call_rul {a b : Int} {i : Bool} {c e : Int} {j : Bool} {past : List PyData} {q : Res → PyData → List PyData → Prop} (hb : 0 < b ∧ b < 2 ^ 60) (he : 0 < e ∧ e < 2 ^ 60) (hp : past.length < 1000) (h : q (.ok (.str "rule")) (spanT a b i c e j) past) : c__law_call (spanT a b i c e j) past [.int 0, .int 0, .int 0, .str "best"] q := .inr (.inr (.inl ⟨_, _, _, _, _, _, rfl, rfl, hb, he, hp, h⟩))
theorem c__law_call_undo {now : PyData} {past : List PyData} {q : Res → PyData → List PyData → Prop} (hs : SeqAt.shaped (.list past) = true) (h : (past = [] ∧ q (.ok (.str "none")) now past) ∨ ∃ ps x, past = ps ++ [x] ∧ q (.ok x) x ps) : c__law_call now past [.int 1, .int 0, .int 0, .int 0] q := .inr (.inr (.inr ⟨rfl, hs, h⟩))
abbrev s_simplest : Stmt := topS 35
theorem sc_simplest : FnScope ["span", "found"] ["span"] (defScope s_simplest) := ⟨rfl, rfl, rfl, by decide +kernel, rfl, by decide +kernel, by decide +kernel⟩
def c_simplest : Ct := fun ds q => ∃ s, ds = [s] ∧ smV s ∧ chk (rangeB s) .rng q (∀ (a b : Int) (i : Bool) (c d : Int) (j : Bool), s = spanT a b i c d j → q (match smK a b i c d j with | none => .er .nof | some k => .ok (lowF (tpF a b i k) k)))
theorem ok_simplest (F : Fun K "simplest" "simplest" s_simplest f fd) (F_check_range : Fd P w K mg base ca "check_range" c_check_range 1 5) (F_simplest_of : Fd P w K mg base ca "simplest_of" c_simplest_of 1 2) (F_lowest : Fd P w K mg base ca "lowest" c_lowest 2 2) (X_nof : Xf K mg "NotFound" (ca .nof)) : FnOk P w K mg base (L2.CX P w) 6 f fd ["span"] (spD K ca c_simplest 1) := by
  refine fn_ok F sc_simplest rfl (fun cdv A outer s H E hr tk po hu hu5 => ?_)
  refine ⟨_, _, pdb_cons (pds_expr (pd_fn F_check_range (hr.mono (by decide)) (by rfl) tk (pda_cons (pd_var (pv 0)) pda_nil)))
      (pdb_cons (pds_set (pd_fn F_simplest_of (hr.mono (by decide)) (by rfl) tk (pda_cons (pd_var (pv 0)) pda_nil)) (fun h => ps_set (i := 1) sc_simplest.nd rfl (.inl rfl) h))
      (pdb_cons (pds_if (pdt_cmp op_isN cm_isN (pd_var (pv 1)) (PD.pv pd_non) (nomark _)) (pdb_one (pds_raise (er := .nof) X_nof rfl tk rfl)) (pdb_nil))
      (pdb_one (pds_ret (pd_fn F_lowest (hr.mono (by decide)) (by rfl) tk (pda_cons (pd_ix (r := rIx K) ix_seq od_ix (pd_var (pv 1)) pd_int (fun _ _ => rfl)) (pda_cons (pd_ix (r := rIx K) ix_seq od_ix (pd_var (pv 1)) pd_int (fun _ _ => rfl)) pda_nil))))))), ?_⟩
  clear hr tk po hu hu5
  intro ds q hl hc
  obtain ⟨s, rfl, hs, hq⟩ := hc
  rw [show start0 (["span", "found"] : List Str) [s] = [some (.val (s)), none] from rfl]

  simp only [dRet, dRetN, dSeq, dPar, dPar3, dCons, dNil, dCaB, dVar, dC, dCmpT, dCmp, dU, dB, dAndV, dOrV, dNotV, dAnd, dOr, dNot, dIf, dTup, dLst, dChain, dChainT, dTest, dIsi, dAsg, dDrop, dIfS, gN, gT, gs0, gs1, dAug, dNext, dRaise, dCall, dYes, topE, List.getElem?_cons_succ, List.getElem?_cons_zero, List.set_cons_zero, List.set_cons_succ, Option.some.injEq, S.val.injEq, exists_eq_left', exists_eq_left, exists_and_left, and_assoc, List.cons.injEq, and_true, true_and, PyData.int.injEq, PyData.bool.injEq, PyData.tuple.injEq, PyData.list.injEq, absD_i, maxD_i, addD_i, subD_i, negD_i, iaddD_i, mulD_e, fdivD_e, ifdivD_e, modD_e, leD_i, ltD_i, gtD_i, geD_i, lenD_t, lenD_l, isNd_n, notNd_n, isBd_b, notBd_b, isNonD_i, isNonD_n, isNonD_t, isNonD_l, eqD_int, neD_int, eqD_bool, neD_bool, eqD_fr, neD_fr, ix_fr0, ix_fr1, kit_int, kit_bool, kit_str, kit_tuple, decide_eq_true_eq, Bool.not_eq_true', decide_eq_false_iff_not, line_nil, line1, line2, if_true, if_false, c_check_range_e]
  refine ⟨hs, ?_⟩
  cases h1 : rangeB s with
  | false => rw [h1, chk_f] at hq; simpa using hq
  | true =>
    rw [h1, chk_t] at hq
    simp only [if_true]
    obtain ⟨a, b, i, c, d, j, rfl, ⟨b0, ga⟩, ⟨d0, gc⟩, ord, lo, hi⟩ := rangeB_inv h1
    obtain ⟨sb, sd⟩ := hs _ _ _ _ _ _ rfl
    have ix0 : ixD (spanT a b i c d j) (.int 0) = some (fr a b) := rfl
    have ix1 : ixD (spanT a b i c d j) (.int 1) = some (.bool i) := rfl
    have ix2 : ixD (spanT a b i c d j) (.int 2) = some (fr c d) := rfl
    have ix3 : ixD (spanT a b i c d j) (.int 3) = some (.bool j) := rfl


    have hq := hq _ _ _ _ _ _ rfl
    simp only [dRet, dRetN, dSeq, dPar, dPar3, dCons, dNil, dCaB, dVar, dC, dCmpT, dCmp, dU, dB, dAndV, dOrV, dNotV, dAnd, dOr, dNot, dIf, dTup, dLst, dChain, dChainT, dTest, dIsi, dAsg, dDrop, dIfS, gN, gT, gs0, gs1, dAug, dNext, dRaise, dCall, dYes, topE, List.getElem?_cons_succ, List.getElem?_cons_zero, List.set_cons_zero, List.set_cons_succ, Option.some.injEq, S.val.injEq, exists_eq_left', exists_eq_left, exists_and_left, and_assoc, List.cons.injEq, and_true, true_and, PyData.int.injEq, PyData.bool.injEq, PyData.tuple.injEq, PyData.list.injEq, absD_i, maxD_i, addD_i, subD_i, negD_i, iaddD_i, mulD_e, fdivD_e, ifdivD_e, modD_e, leD_i, ltD_i, gtD_i, geD_i, lenD_t, lenD_l, isNd_n, notNd_n, isBd_b, notBd_b, isNonD_i, isNonD_n, isNonD_t, isNonD_l, eqD_int, neD_int, eqD_bool, neD_bool, eqD_fr, neD_fr, ix_fr0, ix_fr1, kit_int, kit_bool, kit_str, kit_tuple, decide_eq_true_eq, Bool.not_eq_true', decide_eq_false_iff_not, line_nil, line1, line2, if_true, if_false, c_simplest_of_e]
    refine ⟨b0, sb, d0, sd, ?_⟩
    unfold smD
    cases hK : smK a b i c d j with
    | none =>
      rw [hK] at hq
      simp only [dRet, dRetN, dSeq, dPar, dPar3, dCons, dNil, dCaB, dVar, dC, dCmpT, dCmp, dU, dB, dAndV, dOrV, dNotV, dAnd, dOr, dNot, dIf, dTup, dLst, dChain, dChainT, dTest, dIsi, dAsg, dDrop, dIfS, gN, gT, gs0, gs1, dAug, dNext, dRaise, dCall, dYes, topE, List.getElem?_cons_succ, List.getElem?_cons_zero, List.set_cons_zero, List.set_cons_succ, Option.some.injEq, S.val.injEq, exists_eq_left', exists_eq_left, exists_and_left, and_assoc, List.cons.injEq, and_true, true_and, PyData.int.injEq, PyData.bool.injEq, PyData.tuple.injEq, PyData.list.injEq, absD_i, maxD_i, addD_i, subD_i, negD_i, iaddD_i, mulD_e, fdivD_e, ifdivD_e, modD_e, leD_i, ltD_i, gtD_i, geD_i, lenD_t, lenD_l, isNd_n, notNd_n, isBd_b, notBd_b, isNonD_i, isNonD_n, isNonD_t, isNonD_l, eqD_int, neD_int, eqD_bool, neD_bool, eqD_fr, neD_fr, ix_fr0, ix_fr1, kit_int, kit_bool, kit_str, kit_tuple, decide_eq_true_eq, Bool.not_eq_true', decide_eq_false_iff_not, line_nil, line1, line2, if_true, if_false]
      exact hq
    | some k =>
      rw [hK] at hq
      obtain ⟨k1, k2, k3, k4⟩ := fstK_some _ _ hK
      have k5 : tpF a b i k ≤ tpL c d j k := of_decide_eq_true k1
      have tb := tops_bound (i := i) (j := j) (n := (k : Int)) b0 d0 lo hi (by omega)

      simp only [dRet, dRetN, dSeq, dPar, dPar3, dCons, dNil, dCaB, dVar, dC, dCmpT, dCmp, dU, dB, dAndV, dOrV, dNotV, dAnd, dOr, dNot, dIf, dTup, dLst, dChain, dChainT, dTest, dIsi, dAsg, dDrop, dIfS, gN, gT, gs0, gs1, dAug, dNext, dRaise, dCall, dYes, topE, List.getElem?_cons_succ, List.getElem?_cons_zero, List.set_cons_zero, List.set_cons_succ, Option.some.injEq, S.val.injEq, exists_eq_left', exists_eq_left, exists_and_left, and_assoc, List.cons.injEq, and_true, true_and, PyData.int.injEq, PyData.bool.injEq, PyData.tuple.injEq, PyData.list.injEq, absD_i, maxD_i, addD_i, subD_i, negD_i, iaddD_i, mulD_e, fdivD_e, ifdivD_e, modD_e, leD_i, ltD_i, gtD_i, geD_i, lenD_t, lenD_l, isNd_n, notNd_n, isBd_b, notBd_b, isNonD_i, isNonD_n, isNonD_t, isNonD_l, eqD_int, neD_int, eqD_bool, neD_bool, eqD_fr, neD_fr, ix_fr0, ix_fr1, kit_int, kit_bool, kit_str, kit_tuple, decide_eq_true_eq, Bool.not_eq_true', decide_eq_false_iff_not, line_nil, line1, line2, if_true, if_false, c_lowest_e, Bool.false_eq_true, if_false]
      exact ⟨by omega, by omega, hq⟩
theorem c_simplest_ok {a b : Int} {i : Bool} {c d : Int} {j : Bool} {q : Res → Prop} (hr : rangeB (spanT a b i c d j) = true) (sb : b < 2 ^ 60) (sd : d < 2 ^ 60) (h : q (match smK a b i c d j with | none => .er .nof | some k => .ok (lowF (tpF a b i k) k))) : c_simplest [spanT a b i c d j] q := by
  refine ⟨_, rfl, smV_span sb sd, ?_⟩
  rw [hr, chk_t]
  intro a' b' i' c' d' j' e
  simp [spanT] at e
  obtain ⟨⟨rfl, rfl⟩, rfl, ⟨rfl, rfl⟩, rfl⟩ := e
  exact h
abbrev s__law_rules : Stmt := topS 45
theorem sc__law_rules : FnScope [] [] (defScope s__law_rules) := ⟨rfl, rfl, rfl, by decide +kernel, rfl, by decide +kernel, by decide +kernel⟩
def c__law_rules : Ct := fun ds q => ds = [] ∧ q (.ok (.list rulesD))
theorem ok__law_rules (F : Fun K "_law_rules" "_law_rules" s__law_rules f fd)  : FnOk P w K mg base (L2.CX P w) 1 f fd [] (spD K ca c__law_rules 0) := by
  refine fn_ok F sc__law_rules rfl (fun cdv A outer s H E hr tk po hu hu5 => ?_)
  refine ⟨_, _, pdb_one (pds_ret (pd_lst (pda_cons pd_str (pda_cons pd_str (pda_cons pd_str (pda_cons pd_str (pda_cons pd_str (pda_cons pd_str (pda_cons pd_str pda_nil))))))))), ?_⟩
  clear hr tk po hu hu5
  intro ds q hl hc
  obtain ⟨rfl, hq⟩ := hc
  rw [show start0 ([] : List Str) [] = [] from rfl]
  simp only [dRet, dRetN, dSeq, dPar, dPar3, dCons, dNil, dCaB, dVar, dC, dCmpT, dCmp, dU, dB, dAndV, dOrV, dNotV, dAnd, dOr, dNot, dIf, dTup, dLst, dChain, dChainT, dTest, dIsi, dAsg, dDrop, dIfS, gN, gT, gs0, gs1, dAug, dNext, dRaise, dCall, dYes, topE, List.getElem?_cons_succ, List.getElem?_cons_zero, List.set_cons_zero, List.set_cons_succ, Option.some.injEq, S.val.injEq, exists_eq_left', exists_eq_left, exists_and_left, and_assoc, List.cons.injEq, and_true, true_and, PyData.int.injEq, PyData.bool.injEq, PyData.tuple.injEq, PyData.list.injEq, absD_i, maxD_i, addD_i, subD_i, negD_i, iaddD_i, mulD_e, fdivD_e, ifdivD_e, modD_e, leD_i, ltD_i, gtD_i, geD_i, lenD_t, lenD_l, isNd_n, notNd_n, isBd_b, notBd_b, isNonD_i, isNonD_n, isNonD_t, isNonD_l, eqD_int, neD_int, eqD_bool, neD_bool, eqD_fr, neD_fr, ix_fr0, ix_fr1, kit_int, kit_bool, kit_str, kit_tuple, decide_eq_true_eq, Bool.not_eq_true', decide_eq_false_iff_not, line_nil, line1, line2, if_true, if_false, List.length_cons, List.length_nil, sizeLine_eq, Nat.reduceAdd, Nat.reduceLeDiff, Nat.zero_add]
  exact hq
theorem c__law_rules_e (q : Res → Prop) : c__law_rules [] q ↔ q (.ok (.list rulesD)) := ⟨fun h => h.2, fun h => ⟨rfl, h⟩⟩
abbrev s_range_of : Stmt := topS 24
theorem sc_range_of : FnScope ["units", "digits", "rule"] ["units", "digits", "rule"] (defScope s_range_of) := ⟨rfl, rfl, rfl, by decide +kernel, rfl, by decide +kernel, by decide +kernel⟩
def c_range_of : Ct := fun ds q => ∃ v d r, ds = [v, d, r] ∧ chk (isIntB d 0 6) .num q (∀ k : Int, d = .int k → chk (isIntB v (-101 * powT k) (101 * powT k)) .num q (chk (isRuleB r) .rul q (∀ u : Int, v = .int u → ∀ z : Ru, r = .str (ruS z) → q (.ok (spanF u k z)))))
theorem ok_range_of (F : Fun K "range_of" "range_of" s_range_of f fd) (F_check_digits : Fd P w K mg base ca "check_digits" c_check_digits 1 2) (F_check_whole : Fd P w K mg base ca "check_whole" c_check_whole 2 2) (F_check_rule : Fd P w K mg base ca "check_rule" c_check_rule 1 1) (F_span_of : Fd P w K mg base ca "span_of" c_span_of 3 3) : FnOk P w K mg base (L2.CX P w) 4 f fd ["units", "digits", "rule"] (spD K ca c_range_of 3) := by
  refine fn_ok F sc_range_of rfl (fun cdv A outer s H E hr tk po hu hu5 => ?_)
  refine ⟨_, _, pdb_cons (pds_expr (pd_fn F_check_digits (hr.mono (by decide)) (by rfl) tk (pda_cons (pd_var (pv 1)) pda_nil)))
      (pdb_cons (pds_expr (pd_fn F_check_whole (hr.mono (by decide)) (by rfl) tk (pda_cons (pd_var (pv 0)) (pda_cons (pd_var (pv 1)) pda_nil))))
      (pdb_cons (pds_expr (pd_fn F_check_rule (hr.mono (by decide)) (by rfl) tk (pda_cons (pd_var (pv 2)) pda_nil)))
      (pdb_one (pds_ret (pd_fn F_span_of (hr.mono (by decide)) (by rfl) tk (pda_cons (pd_var (pv 0)) (pda_cons (pd_var (pv 1)) (pda_cons (pd_var (pv 2)) pda_nil)))))))), ?_⟩
  clear hr tk po hu hu5
  intro ds q hl hc
  obtain ⟨v, d, r, rfl, hq⟩ := hc
  rw [show start0 (["units", "digits", "rule"] : List Str) [v, d, r] = [some (.val (v)), some (.val (d)), some (.val (r))] from rfl]
  simp only [dRet, dRetN, dSeq, dPar, dPar3, dCons, dNil, dCaB, dVar, dC, dCmpT, dCmp, dU, dB, dAndV, dOrV, dNotV, dAnd, dOr, dNot, dIf, dTup, dLst, dChain, dChainT, dTest, dIsi, dAsg, dDrop, dIfS, gN, gT, gs0, gs1, dAug, dNext, dRaise, dCall, dYes, topE, List.getElem?_cons_succ, List.getElem?_cons_zero, List.set_cons_zero, List.set_cons_succ, Option.some.injEq, S.val.injEq, exists_eq_left', exists_eq_left, exists_and_left, and_assoc, List.cons.injEq, and_true, true_and, PyData.int.injEq, PyData.bool.injEq, PyData.tuple.injEq, PyData.list.injEq, absD_i, maxD_i, addD_i, subD_i, negD_i, iaddD_i, mulD_e, fdivD_e, ifdivD_e, modD_e, leD_i, ltD_i, gtD_i, geD_i, lenD_t, lenD_l, isNd_n, notNd_n, isBd_b, notBd_b, isNonD_i, isNonD_n, isNonD_t, isNonD_l, eqD_int, neD_int, eqD_bool, neD_bool, eqD_fr, neD_fr, ix_fr0, ix_fr1, kit_int, kit_bool, kit_str, kit_tuple, decide_eq_true_eq, Bool.not_eq_true', decide_eq_false_iff_not, line_nil, line1, line2, if_true, if_false, c_check_digits_e]

  cases h2 : isIntB d 0 6 with
  | false => rw [h2, chk_f] at hq; simpa using hq
  | true =>
    rw [h2, chk_t] at hq
    simp only [if_true]
    obtain ⟨k, rfl, k1, k2⟩ := isIntB_inv h2
    have hq := hq k rfl
    simp only [dRet, dRetN, dSeq, dPar, dPar3, dCons, dNil, dCaB, dVar, dC, dCmpT, dCmp, dU, dB, dAndV, dOrV, dNotV, dAnd, dOr, dNot, dIf, dTup, dLst, dChain, dChainT, dTest, dIsi, dAsg, dDrop, dIfS, gN, gT, gs0, gs1, dAug, dNext, dRaise, dCall, dYes, topE, List.getElem?_cons_succ, List.getElem?_cons_zero, List.set_cons_zero, List.set_cons_succ, Option.some.injEq, S.val.injEq, exists_eq_left', exists_eq_left, exists_and_left, and_assoc, List.cons.injEq, and_true, true_and, PyData.int.injEq, PyData.bool.injEq, PyData.tuple.injEq, PyData.list.injEq, absD_i, maxD_i, addD_i, subD_i, negD_i, iaddD_i, mulD_e, fdivD_e, ifdivD_e, modD_e, leD_i, ltD_i, gtD_i, geD_i, lenD_t, lenD_l, isNd_n, notNd_n, isBd_b, notBd_b, isNonD_i, isNonD_n, isNonD_t, isNonD_l, eqD_int, neD_int, eqD_bool, neD_bool, eqD_fr, neD_fr, ix_fr0, ix_fr1, kit_int, kit_bool, kit_str, kit_tuple, decide_eq_true_eq, Bool.not_eq_true', decide_eq_false_iff_not, line_nil, line1, line2, if_true, if_false, c_check_whole_e]
    refine ⟨k1, k2, ?_⟩
    cases h3 : isIntB v (-101 * powT k) (101 * powT k) with
    | false => rw [h3, chk_f] at hq; simpa using hq
    | true =>
      rw [h3, chk_t] at hq
      simp only [if_true]
      simp only [dRet, dRetN, dSeq, dPar, dPar3, dCons, dNil, dCaB, dVar, dC, dCmpT, dCmp, dU, dB, dAndV, dOrV, dNotV, dAnd, dOr, dNot, dIf, dTup, dLst, dChain, dChainT, dTest, dIsi, dAsg, dDrop, dIfS, gN, gT, gs0, gs1, dAug, dNext, dRaise, dCall, dYes, topE, List.getElem?_cons_succ, List.getElem?_cons_zero, List.set_cons_zero, List.set_cons_succ, Option.some.injEq, S.val.injEq, exists_eq_left', exists_eq_left, exists_and_left, and_assoc, List.cons.injEq, and_true, true_and, PyData.int.injEq, PyData.bool.injEq, PyData.tuple.injEq, PyData.list.injEq, absD_i, maxD_i, addD_i, subD_i, negD_i, iaddD_i, mulD_e, fdivD_e, ifdivD_e, modD_e, leD_i, ltD_i, gtD_i, geD_i, lenD_t, lenD_l, isNd_n, notNd_n, isBd_b, notBd_b, isNonD_i, isNonD_n, isNonD_t, isNonD_l, eqD_int, neD_int, eqD_bool, neD_bool, eqD_fr, neD_fr, ix_fr0, ix_fr1, kit_int, kit_bool, kit_str, kit_tuple, decide_eq_true_eq, Bool.not_eq_true', decide_eq_false_iff_not, line_nil, line1, line2, if_true, if_false, c_check_rule_e]
      cases h4 : isRuleB r with
      | false => rw [h4, chk_f] at hq; simpa using hq
      | true =>
        rw [h4, chk_t] at hq
        simp only [if_true]
        obtain ⟨u, rfl, u1, u2⟩ := isIntB_inv h3
        obtain ⟨z, rfl⟩ := isRuleB_inv h4

        have hq := hq _ rfl _ rfl
        simp only [dRet, dRetN, dSeq, dPar, dPar3, dCons, dNil, dCaB, dVar, dC, dCmpT, dCmp, dU, dB, dAndV, dOrV, dNotV, dAnd, dOr, dNot, dIf, dTup, dLst, dChain, dChainT, dTest, dIsi, dAsg, dDrop, dIfS, gN, gT, gs0, gs1, dAug, dNext, dRaise, dCall, dYes, topE, List.getElem?_cons_succ, List.getElem?_cons_zero, List.set_cons_zero, List.set_cons_succ, Option.some.injEq, S.val.injEq, exists_eq_left', exists_eq_left, exists_and_left, and_assoc, List.cons.injEq, and_true, true_and, PyData.int.injEq, PyData.bool.injEq, PyData.tuple.injEq, PyData.list.injEq, absD_i, maxD_i, addD_i, subD_i, negD_i, iaddD_i, mulD_e, fdivD_e, ifdivD_e, modD_e, leD_i, ltD_i, gtD_i, geD_i, lenD_t, lenD_l, isNd_n, notNd_n, isBd_b, notBd_b, isNonD_i, isNonD_n, isNonD_t, isNonD_l, eqD_int, neD_int, eqD_bool, neD_bool, eqD_fr, neD_fr, ix_fr0, ix_fr1, kit_int, kit_bool, kit_str, kit_tuple, decide_eq_true_eq, Bool.not_eq_true', decide_eq_false_iff_not, line_nil, line1, line2, if_true, if_false, c_span_of_e]
        exact ⟨k1, k2, hq⟩
theorem c_range_of_ok {u k : Int} {z : Ru} {q : Res → Prop} (k0 : 0 ≤ k) (k6 : k ≤ 6) (u1 : -101 * powT k ≤ u) (u2 : u ≤ 101 * powT k) (h : q (.ok (spanF u k z))) : c_range_of [.int u, .int k, .str (ruS z)] q := by
  refine ⟨_, _, _, rfl, ?_⟩
  have h2 : isIntB (.int k) 0 6 = true := by
    have : 0 ≤ k ∧ k ≤ 6 := by omega
    simp only [isIntB, this]; rfl
  have h3 : isIntB (.int u) (-101 * powT k) (101 * powT k) = true := by
    have : -101 * powT k ≤ u ∧ u ≤ 101 * powT k := ⟨u1, u2⟩
    simp only [isIntB, this]; rfl
  rw [h2, chk_t]
  intro k' e
  simp at e
  subst e
  rw [h3, isRuleB_ru, chk_t, chk_t]
  intro u' e z' e2
  simp at e e2
  subst e
  obtain rfl := ruS_inj _ _ e2
  exact h
abbrev s_Reader_span : Stmt := inClass (topS 37) 2
theorem sc_Reader_span : FnScope ["self"] ["self"] (defScope s_Reader_span) := ⟨rfl, rfl, rfl, by decide +kernel, rfl, by decide +kernel, by decide +kernel⟩
def c_Reader_span : CtR := fun now past ds q => ds = [] ∧ q (.ok now) now past
theorem ok_Reader_span (F : Fun K "span" "Reader.span" s_Reader_span f fd) {C_R : Addr} (RT : RTx K C_R) : FnOk P w K mg base (L2.CX P w) 1 f fd ["self"] (spR K ca C_R c_Reader_span 0) := by
  refine fn_okR F sc_Reader_span rfl (fun cdv A outer s H E hr tk po hu hu5 => ?_)
  refine ⟨_, _, pdb_one (pds_ret (pd_now RT (pv 0))), ?_⟩
  clear hr tk po hu hu5
  intro ds q p0 dx0 l0 now past hl hc
  obtain ⟨rfl, hq⟩ := hc
  rw [show startR ["self"] p0 dx0 l0 C_R now past [] = [some (.rdr p0 dx0 l0 C_R now past)] from rfl]
  simp only [dRet, dRetN, dSeq, dPar, dPar3, dCons, dNil, dCaB, dVar, dC, dCmpT, dCmp, dU, dB, dAndV, dOrV, dNotV, dAnd, dOr, dNot, dIf, dTup, dLst, dChain, dChainT, dTest, dIsi, dAsg, dDrop, dIfS, gN, gT, gs0, gs1, dAug, dNext, dRaise, dCall, dYes, topE, List.getElem?_cons_succ, List.getElem?_cons_zero, List.set_cons_zero, List.set_cons_succ, Option.some.injEq, S.val.injEq, exists_eq_left', exists_eq_left, exists_and_left, and_assoc, List.cons.injEq, and_true, true_and, PyData.int.injEq, PyData.bool.injEq, PyData.tuple.injEq, PyData.list.injEq, absD_i, maxD_i, addD_i, subD_i, negD_i, iaddD_i, mulD_e, fdivD_e, ifdivD_e, modD_e, leD_i, ltD_i, gtD_i, geD_i, lenD_t, lenD_l, isNd_n, notNd_n, isBd_b, notBd_b, isNonD_i, isNonD_n, isNonD_t, isNonD_l, eqD_int, neD_int, eqD_bool, neD_bool, eqD_fr, neD_fr, ix_fr0, ix_fr1, kit_int, kit_bool, kit_str, kit_tuple, decide_eq_true_eq, Bool.not_eq_true', decide_eq_false_iff_not, line_nil, line1, line2, if_true, if_false, dNow, S.rdr.injEq, topR]
  exact hq
theorem c_Reader_span_e (now : PyData) (past : List PyData) (q : Res → PyData → List PyData → Prop) : c_Reader_span now past [] q ↔ q (.ok now) now past := ⟨fun h => h.2, fun h => ⟨rfl, h⟩⟩
abbrev s_Reader___len__ : Stmt := inClass (topS 37) 6
theorem sc_Reader___len__ : FnScope ["self"] ["self"] (defScope s_Reader___len__) := ⟨rfl, rfl, rfl, by decide +kernel, rfl, by decide +kernel, by decide +kernel⟩
def c_Reader___len__ : CtR := fun now past ds q => ds = [] ∧ q (.ok (.int (past.length : Nat))) now past
theorem ok_Reader___len__ (F : Fun K "__len__" "Reader.__len__" s_Reader___len__ f fd) {C_R : Addr} (RT : RTx K C_R) (m_len : mg "len" = none) : FnOk P w K mg base (L2.CX P w) 1 f fd ["self"] (spR K ca C_R c_Reader___len__ 0) := by
  refine fn_okR F sc_Reader___len__ rfl (fun cdv A outer s H E hr tk po hu hu5 => ?_)
  refine ⟨_, _, pdb_one (pds_ret (pd_lenPast RT (by rfl) m_len (pv 0))), ?_⟩
  clear hr tk po hu hu5
  intro ds q p0 dx0 l0 now past hl hc
  obtain ⟨rfl, hq⟩ := hc
  rw [show startR ["self"] p0 dx0 l0 C_R now past [] = [some (.rdr p0 dx0 l0 C_R now past)] from rfl]
  simp only [dRet, dRetN, dSeq, dPar, dPar3, dCons, dNil, dCaB, dVar, dC, dCmpT, dCmp, dU, dB, dAndV, dOrV, dNotV, dAnd, dOr, dNot, dIf, dTup, dLst, dChain, dChainT, dTest, dIsi, dAsg, dDrop, dIfS, gN, gT, gs0, gs1, dAug, dNext, dRaise, dCall, dYes, topE, List.getElem?_cons_succ, List.getElem?_cons_zero, List.set_cons_zero, List.set_cons_succ, Option.some.injEq, S.val.injEq, exists_eq_left', exists_eq_left, exists_and_left, and_assoc, List.cons.injEq, and_true, true_and, PyData.int.injEq, PyData.bool.injEq, PyData.tuple.injEq, PyData.list.injEq, absD_i, maxD_i, addD_i, subD_i, negD_i, iaddD_i, mulD_e, fdivD_e, ifdivD_e, modD_e, leD_i, ltD_i, gtD_i, geD_i, lenD_t, lenD_l, isNd_n, notNd_n, isBd_b, notBd_b, isNonD_i, isNonD_n, isNonD_t, isNonD_l, eqD_int, neD_int, eqD_bool, neD_bool, eqD_fr, neD_fr, ix_fr0, ix_fr1, kit_int, kit_bool, kit_str, kit_tuple, decide_eq_true_eq, Bool.not_eq_true', decide_eq_false_iff_not, line_nil, line1, line2, if_true, if_false, dLenPast, S.rdr.injEq, topR]
  exact hq
theorem c_Reader___len___e (now : PyData) (past : List PyData) (q : Res → PyData → List PyData → Prop) : c_Reader___len__ now past [] q ↔ q (.ok (.int (past.length : Nat))) now past := ⟨fun h => h.2, fun h => ⟨rfl, h⟩⟩
abbrev s_shortest : Stmt := topS 30
theorem sc_shortest : FnScope ["span", "digits", "first", "last"] ["span"] (defScope s_shortest) := ⟨rfl, rfl, rfl, by decide +kernel, rfl, by decide +kernel, by decide +kernel⟩
def c_shortest : Ct := fun ds q => ∃ s, ds = [s] ∧ smV s ∧ chk (rangeB s) .rng q (∀ (a b : Int) (i : Bool) (c d : Int) (j : Bool), s = spanT a b i c d j → q (match lsK a b i c d j with | none => .er .nof | some k => .ok (.tuple [.list ((decL a b i c d j k).map PyData.int), .int k])))
theorem ok_shortest (F : Fun K "shortest" "shortest" s_shortest f fd) (F_check_range : Fd P w K mg base ca "check_range" c_check_range 1 5) (F_least_of : Fd P w K mg base ca "least_of" c_least_of 1 3) (F_ends_of : Fd P w K mg base ca "ends_of" c_ends_of 2 2) (m_list : mg "list" = none) (m_range : mg "range" = none) (X_nof : Xf K mg "NotFound" (ca .nof)) : FnOk P w K mg base (L2.CX P w) 6 f fd ["span"] (spD K ca c_shortest 1) := by
  refine fn_ok F sc_shortest rfl (fun cdv A outer s H E hr tk po hu hu5 => ?_)
  refine ⟨_, _, pdb_cons (pds_expr (pd_fn F_check_range (hr.mono (by decide)) (by rfl) tk (pda_cons (pd_var (pv 0)) pda_nil)))
      (pdb_cons (pds_set (pd_fn F_least_of (hr.mono (by decide)) (by rfl) tk (pda_cons (pd_var (pv 0)) pda_nil)) (fun h => ps_set (i := 1) sc_shortest.nd rfl (.inl rfl) h))
      (pdb_cons (pds_if (pdt_cmp op_isN cm_isN (pd_var (pv 1)) (PD.pv pd_non) (nomark _)) (pdb_one (pds_raise (er := .nof) X_nof rfl tk rfl)) (pdb_nil))
      (pdb_cons (pds_asg (pd_fn F_ends_of (hr.mono (by decide)) (by rfl) tk (pda_cons (pd_var (pv 0)) (pda_cons (pd_var (pv 1)) pda_nil))) (pdg_tup (n := 2) rfl (pdgs_cons (pdg_name (pg_name (i := 2) sc_shortest.nd rfl (.inl rfl))) (pdgs_cons (pdg_name (pg_name (i := 3) sc_shortest.nd rfl (.inl rfl))) pdgs_nil))))
      (pdb_one (pds_ret (pd_tup (pda_cons (pd_listRange rfl rfl m_list rfl m_range (pd_var (pv 2)) (pd_op (op_add.or (op_add_str.or op_cat)) od_add (pd_var (pv 3)) pd_int)) (pda_cons (pd_var (pv 1)) pda_nil)))))))), ?_⟩
  clear hr tk po hu hu5
  intro ds q hl hc
  obtain ⟨s, rfl, hs, hq⟩ := hc
  rw [show start0 (["span", "digits", "first", "last"] : List Str) [s] = [some (.val (s)), none, none, none] from rfl]

  simp only [dRet, dRetN, dSeq, dPar, dPar3, dCons, dNil, dCaB, dVar, dC, dCmpT, dCmp, dU, dB, dAndV, dOrV, dNotV, dAnd, dOr, dNot, dIf, dTup, dLst, dChain, dChainT, dTest, dIsi, dAsg, dDrop, dIfS, gN, gT, gs0, gs1, dAug, dNext, dRaise, dCall, dYes, topE, List.getElem?_cons_succ, List.getElem?_cons_zero, List.set_cons_zero, List.set_cons_succ, Option.some.injEq, S.val.injEq, exists_eq_left', exists_eq_left, exists_and_left, and_assoc, List.cons.injEq, and_true, true_and, PyData.int.injEq, PyData.bool.injEq, PyData.tuple.injEq, PyData.list.injEq, absD_i, maxD_i, addD_i, subD_i, negD_i, iaddD_i, mulD_e, fdivD_e, ifdivD_e, modD_e, leD_i, ltD_i, gtD_i, geD_i, lenD_t, lenD_l, isNd_n, notNd_n, isBd_b, notBd_b, isNonD_i, isNonD_n, isNonD_t, isNonD_l, eqD_int, neD_int, eqD_bool, neD_bool, eqD_fr, neD_fr, ix_fr0, ix_fr1, kit_int, kit_bool, kit_str, kit_tuple, decide_eq_true_eq, Bool.not_eq_true', decide_eq_false_iff_not, line_nil, line1, line2, if_true, if_false, c_check_range_e]
  refine ⟨hs, ?_⟩
  cases h1 : rangeB s with
  | false => rw [h1, chk_f] at hq; simpa using hq
  | true =>
    rw [h1, chk_t] at hq
    simp only [if_true]
    obtain ⟨a, b, i, c, d, j, rfl, ⟨b0, ga⟩, ⟨d0, gc⟩, ord, lo, hi⟩ := rangeB_inv h1
    obtain ⟨sb, sd⟩ := hs _ _ _ _ _ _ rfl
    have ix0 : ixD (spanT a b i c d j) (.int 0) = some (fr a b) := rfl
    have ix1 : ixD (spanT a b i c d j) (.int 1) = some (.bool i) := rfl
    have ix2 : ixD (spanT a b i c d j) (.int 2) = some (fr c d) := rfl
    have ix3 : ixD (spanT a b i c d j) (.int 3) = some (.bool j) := rfl


    have hq := hq _ _ _ _ _ _ rfl
    simp only [dRet, dRetN, dSeq, dPar, dPar3, dCons, dNil, dCaB, dVar, dC, dCmpT, dCmp, dU, dB, dAndV, dOrV, dNotV, dAnd, dOr, dNot, dIf, dTup, dLst, dChain, dChainT, dTest, dIsi, dAsg, dDrop, dIfS, gN, gT, gs0, gs1, dAug, dNext, dRaise, dCall, dYes, topE, List.getElem?_cons_succ, List.getElem?_cons_zero, List.set_cons_zero, List.set_cons_succ, Option.some.injEq, S.val.injEq, exists_eq_left', exists_eq_left, exists_and_left, and_assoc, List.cons.injEq, and_true, true_and, PyData.int.injEq, PyData.bool.injEq, PyData.tuple.injEq, PyData.list.injEq, absD_i, maxD_i, addD_i, subD_i, negD_i, iaddD_i, mulD_e, fdivD_e, ifdivD_e, modD_e, leD_i, ltD_i, gtD_i, geD_i, lenD_t, lenD_l, isNd_n, notNd_n, isBd_b, notBd_b, isNonD_i, isNonD_n, isNonD_t, isNonD_l, eqD_int, neD_int, eqD_bool, neD_bool, eqD_fr, neD_fr, ix_fr0, ix_fr1, kit_int, kit_bool, kit_str, kit_tuple, decide_eq_true_eq, Bool.not_eq_true', decide_eq_false_iff_not, line_nil, line1, line2, if_true, if_false, c_least_of_e]
    refine ⟨b0, sb, d0, sd, ?_⟩
    cases hK : lsK a b i c d j with
    | none =>
      rw [hK] at hq
      simp only [dRet, dRetN, dSeq, dPar, dPar3, dCons, dNil, dCaB, dVar, dC, dCmpT, dCmp, dU, dB, dAndV, dOrV, dNotV, dAnd, dOr, dNot, dIf, dTup, dLst, dChain, dChainT, dTest, dIsi, dAsg, dDrop, dIfS, gN, gT, gs0, gs1, dAug, dNext, dRaise, dCall, dYes, topE, List.getElem?_cons_succ, List.getElem?_cons_zero, List.set_cons_zero, List.set_cons_succ, Option.some.injEq, S.val.injEq, exists_eq_left', exists_eq_left, exists_and_left, and_assoc, List.cons.injEq, and_true, true_and, PyData.int.injEq, PyData.bool.injEq, PyData.tuple.injEq, PyData.list.injEq, absD_i, maxD_i, addD_i, subD_i, negD_i, iaddD_i, mulD_e, fdivD_e, ifdivD_e, modD_e, leD_i, ltD_i, gtD_i, geD_i, lenD_t, lenD_l, isNd_n, notNd_n, isBd_b, notBd_b, isNonD_i, isNonD_n, isNonD_t, isNonD_l, eqD_int, neD_int, eqD_bool, neD_bool, eqD_fr, neD_fr, ix_fr0, ix_fr1, kit_int, kit_bool, kit_str, kit_tuple, decide_eq_true_eq, Bool.not_eq_true', decide_eq_false_iff_not, line_nil, line1, line2, if_true, if_false, optI]
      exact hq
    | some k =>
      rw [hK] at hq
      obtain ⟨k1, k2, k3, k4⟩ := fstK_some _ _ hK
      have k5 : tpF a b i (powT k) ≤ tpL c d j (powT k) := of_decide_eq_true k1
      have hP := powT_lt (d := (k : Int)) (by omega)
      have hp6 := powT_le (d := (k : Int)) (by omega)
      have tb := tops_bound (i := i) (j := j) (n := powT k) b0 d0 lo hi hP.1
      have few := few_dec b0 d0 lo hi hK

      simp only [dRet, dRetN, dSeq, dPar, dPar3, dCons, dNil, dCaB, dVar, dC, dCmpT, dCmp, dU, dB, dAndV, dOrV, dNotV, dAnd, dOr, dNot, dIf, dTup, dLst, dChain, dChainT, dTest, dIsi, dAsg, dDrop, dIfS, gN, gT, gs0, gs1, dAug, dNext, dRaise, dCall, dYes, topE, List.getElem?_cons_succ, List.getElem?_cons_zero, List.set_cons_zero, List.set_cons_succ, Option.some.injEq, S.val.injEq, exists_eq_left', exists_eq_left, exists_and_left, and_assoc, List.cons.injEq, and_true, true_and, PyData.int.injEq, PyData.bool.injEq, PyData.tuple.injEq, PyData.list.injEq, absD_i, maxD_i, addD_i, subD_i, negD_i, iaddD_i, mulD_e, fdivD_e, ifdivD_e, modD_e, leD_i, ltD_i, gtD_i, geD_i, lenD_t, lenD_l, isNd_n, notNd_n, isBd_b, notBd_b, isNonD_i, isNonD_n, isNonD_t, isNonD_l, eqD_int, neD_int, eqD_bool, neD_bool, eqD_fr, neD_fr, ix_fr0, ix_fr1, kit_int, kit_bool, kit_str, kit_tuple, decide_eq_true_eq, Bool.not_eq_true', decide_eq_false_iff_not, line_nil, line1, line2, if_true, if_false, optI, Bool.false_eq_true, if_false, c_ends_of_e, dListRg, List.length_cons, List.length_nil, sizeLine_eq, Nat.reduceAdd, Nat.reduceLeDiff, Nat.zero_add]
      refine ⟨b0, sb, d0, sd, by omega, by omega, ?_, ?_⟩

      · unfold rgOk
        rw [Bool.and_eq_true, Bool.and_eq_true]
        exact ⟨⟨by simp [small62]; omega, by simp [small62]; omega⟩, decide_eq_true (by omega)⟩

      · rw [decL_D]
        exact hq
theorem c_shortest_ok {a b : Int} {i : Bool} {c d : Int} {j : Bool} {q : Res → Prop} (hr : rangeB (spanT a b i c d j) = true) (sb : b < 2 ^ 60) (sd : d < 2 ^ 60) (h : q (match lsK a b i c d j with | none => .er .nof | some k => .ok (.tuple [.list ((decL a b i c d j k).map PyData.int), .int k]))) : c_shortest [spanT a b i c d j] q := by
  refine ⟨_, rfl, smV_span sb sd, ?_⟩
  rw [hr, chk_t]
  intro a' b' i' c' d' j' e
  simp [spanT] at e
  obtain ⟨⟨rfl, rfl⟩, rfl, ⟨rfl, rfl⟩, rfl⟩ := e
  exact h
abbrev s_law : Stmt := topS 52
theorem sc_law : FnScope ["script", "draws", "value", "start", "shown", "now", "past", "turn", "digits", "rule", "units", "due", "told", "simple"] ["script"] (defScope s_law) := ⟨rfl, rfl, rfl, by decide +kernel, rfl, by decide +kernel, by decide +kernel⟩
def goodR (s : PyData) : Prop := ∃ (a b : Int) (i : Bool) (c d : Int) (j : Bool), s = spanT a b i c d j ∧ rangeB (spanT a b i c d j) = true ∧ b < 2 ^ 60 ∧ d < 2 ^ 60
theorem shaped_good {ps : List PyData} (h : ∀ x ∈ ps, goodR x) : SeqAt.shaped (.list ps) = true := by
  have key : PyData.canLayAll0 ps = true ∧ PyData.depthAll ps ≤ 2 := by
    induction ps with
    | nil => simp [PyData.canLayAll0, PyData.depthAll]
    | cons x r ih =>
      obtain ⟨i1, i2⟩ := ih fun y hy => h y (List.mem_cons_of_mem _ hy)
      obtain ⟨a, b, i, c, d, j, rfl, _⟩ := h x List.mem_cons_self
      simp [PyData.canLayAll0, PyData.depthAll, PyData.canLay0, PyData.depth, spanT, i1]
      omega
  simp [SeqAt.shaped, PyData.canLay0, PyData.depth, key.1]
  omega
theorem ne_num : neD (.str "number") (.str "number") = some false := by decide +kernel
theorem ne_rul : neD (.str "rule") (.str "rule") = some false := by decide +kernel
theorem ne_none : neD (.str "none") (.str "none") = some false := by decide +kernel
theorem ne_span_none (a b : Int) (i : Bool) (c d : Int) (j : Bool) : neD (spanT a b i c d j) (.str "none") = some true := by
  unfold neD
  rw [if_pos ⟨shaped_span .., by decide +kernel⟩]
  rfl
theorem cut_butlast (qs : List PyData) (x : PyData) : DL.cutD (qs ++ [x]) none (some (-1)) = qs := by
  have e1 : HT.sIx (qs ++ [x]).length 0 none = 0 := rfl
  have e2 : HT.sIx (qs ++ [x]).length (qs ++ [x]).length (some (-1)) = qs.length := by
    rw [List.length_append, List.length_singleton]
    unfold HT.sIx
    simp
    omega
  unfold DL.cutD
  rw [e1, e2]
  simp
theorem few_digits {a b : Int} {i : Bool} {c d : Int} {j : Bool} {p n : Int} (hb : 0 < b) (hd : 0 < d) (h : inB a b i c d j p n = true) (hn : n ∈ ([1, 2, 4, 5] : List Int)) : (lsK a b i c d j).isSome = true := by
  have key : ∀ g, 0 < g → n * g = 100 → (lsK a b i c d j).isSome = true := fun g g0 e => by
    rw [← in_scale (g := g) g0, e, in_tops hb hd] at h
    have h := of_decide_eq_true h
    obtain ⟨t, _, ht⟩ := fstK_le (f := lsB a b i c d j) 7 0 2 (decide_eq_true (show tpF a b i (powT ((2 : Nat) : Int)) ≤ tpL c d j (powT ((2 : Nat) : Int)) from by rw [show powT ((2 : Nat) : Int) = 100 by decide]; omega)) (by decide) (by decide)
    rw [show lsK a b i c d j = some t from ht]
    rfl
  simp at hn
  rcases hn with rfl | rfl | rfl | rfl
  · exact key 100 (by decide) (by decide)
  · exact key 50 (by decide) (by decide)
  · exact key 25 (by decide) (by decide)
  · exact key 20 (by decide) (by decide)
theorem dec_first {a b : Int} {i : Bool} {c d : Int} {j : Bool} {k : Int} (h : tpF a b i (powT k) ≤ tpL c d j (powT k)) : ixD (.list ((decL a b i c d j k).map PyData.int)) (.int 0) = some (.int (tpF a b i (powT k))) := by
  refine at_of2 (j := 0) rfl ?_
  unfold decL rngI
  rw [List.getElem?_map, List.getElem?_map, List.getElem?_range (by omega)]
  simp
theorem ok_law (F : Fun K "law" "law" s_law f fd) {C_R : Addr} (RT : RTx K C_R) (F__law_start : FdS P w K mg base "_law_start" 1) (F__law_fraction : FdW P w K mg base ca "_law_fraction" c__law_fraction 0 3) (F_Reader___init__ : FdI P w K mg base C_R rgS "Reader" 6) (F_Reader_shortest : FdM P w K mg base ca C_R "shortest" c_Reader_shortest 0 4) (F_Reader_simplest : FdM P w K mg base ca C_R "simplest" c_Reader_simplest 0 3) (F__law_within : Fd P w K mg base ca "_law_within" c__law_within 2 2) (F__law_draw : FdW P w K mg base ca "_law_draw" c__law_draw 1 1) (F__law_pick : FdW P w K mg base ca "_law_pick" c__law_pick 1 2) (F__law_units : Fd P w K mg base ca "_law_units" c__law_units 4 2) (F__law_met : Fd P w K mg base ca "_law_met" c__law_met 2 2) (F__law_call : FdR P w K mg base ca C_R "_law_call" c__law_call 4 5) (F_simplest : Fd P w K mg base ca "simplest" c_simplest 1 6) (F__law_rules : Fd P w K mg base ca "_law_rules" c__law_rules 0 1) (F_range_of : Fd P w K mg base ca "range_of" c_range_of 3 4) (F_Reader_span : FdM P w K mg base ca C_R "span" c_Reader_span 0 1) (F_Reader___len__ : FdM P w K mg base ca C_R "__len__" c_Reader___len__ 0 1) (F_shortest : Fd P w K mg base ca "shortest" c_shortest 1 6) (m_len : mg "len" = none) (m_range : mg "range" = none) : FnOk P w K mg base (L2.CX P w) 8 f fd ["script"] (spL K) := by
  refine fn_okL (ca := ca) F sc_law rfl (fun cdv A outer s H E hr tk po hu hu5 => ?_)
  refine ⟨_, _, pdb_cons (pds_start F__law_start (hr.mono (by decide)) (by rfl) tk (pv 0) (fun h => ps_set (i := 1) sc_law.nd rfl (.inl rfl) h))
      (pdb_cons (pds_set (pd_fnW F__law_fraction (hr.mono (by decide)) (by rfl) tk (pv 1) pda_nil) (fun h => ps_set (i := 2) sc_law.nd rfl (.inl rfl) h))
      (pdb_cons (pds_set (pd_tup (pda_cons (pd_tup (pda_cons (pd_op op_sub od_sub pd_int pd_int) (pda_cons pd_int pda_nil))) (pda_cons pd_bl (pda_cons (pd_tup (pda_cons pd_int (pda_cons pd_int pda_nil))) (pda_cons pd_bl pda_nil))))) (fun h => ps_set (i := 3) sc_law.nd rfl (.inl rfl) h))
      (pdb_cons (pds_mkR3 F_Reader___init__ (hr.mono (by decide)) (by rfl) (pd_var (pv 3)) (pv 3) (fun h => ps_par3 (i := 4) (j := 5) (l := 6) rfl sc_law.nd rfl rfl rfl (by decide) (by decide) (by decide) rfl rfl rfl h (by rfl)))
      (pdb_cons (pds_for po rfl (pdi_range1 rfl m_range (pda_cons pd_int pda_nil)) (pdg_name (pg_name (i := 7) sc_law.nd rfl (.inl rfl))) (pdb_cons (pds_par (pda_cons (pd_fnW F__law_draw (hr.mono (by decide)) (by rfl) tk (pv 1) (pda_cons pd_int pda_nil)) (pda_cons (pd_fnW F__law_pick (hr.mono (by decide)) (by rfl) tk (pv 1) (pda_cons (pd_fn0 F__law_rules (hr.mono (by decide)) (by rfl) tk) pda_nil)) pda_nil)) (fun h => ps_par (i := 8) (j := 9) rfl sc_law.nd rfl rfl (by decide) rfl rfl h (by rfl)))
        (pdb_cons (pds_set (pd_op (op_add.or (op_add_str.or op_cat)) od_add (pd_fn F__law_units (hr.mono (by decide)) (by rfl) tk (pda_cons (pd_ix (r := rIx K) ix_seq od_ix (pd_var (pv 2)) pd_int (fun _ _ => rfl)) (pda_cons (pd_ix (r := rIx K) ix_seq od_ix (pd_var (pv 2)) pd_int (fun _ _ => rfl)) (pda_cons (pd_var (pv 8)) (pda_cons (pd_var (pv 9)) pda_nil))))) (pd_if (pdt_cmp (r := rEqD K) (op_eqD hu) cm_eq (pd_fnW F__law_draw (hr.mono (by decide)) (by rfl) tk (pv 1) (pda_cons pd_int pda_nil)) (PD.pv pd_int) (nomark _)) pd_int pd_int)) (fun h => ps_set (i := 10) sc_law.nd rfl (.inl rfl) h))
        (pdb_cons (pds_if (pdt_cmp op_gt cm_gt (pd_fnW F__law_draw (hr.mono (by decide)) (by rfl) tk (pv 1) (pda_cons pd_int pda_nil)) (PD.pv pd_int) (nomark _)) (pdb_cons (pds_set (pd_fn F__law_met (hr.mono (by decide)) (by rfl) tk (pda_cons (pd_var (pv 5)) (pda_cons (pd_fn F_range_of (hr.mono (by decide)) (by rfl) tk (pda_cons (pd_var (pv 10)) (pda_cons (pd_var (pv 8)) (pda_cons (pd_var (pv 9)) pda_nil)))) pda_nil))) (fun h => ps_set (i := 11) sc_law.nd rfl (.inl rfl) h))
          (pdb_cons (pds_if (pdt_cmp (r := rNeD K) (op_neD hu) cm_ne (pd_fnR F__law_call (hr.mono (by decide)) (by rfl) tk (pv 4) (pda_cons pd_int (pda_cons (pd_var (pv 10)) (pda_cons (pd_var (pv 8)) (pda_cons (pd_var (pv 9)) pda_nil))))) (PD.pv (pd_var (pv 11))) (nomark _)) (pdb_one (pds_ret pd_bl)) (pdb_nil))
          (pdb_one (pds_if (pdt_cmp (r := rNeD K) (op_neD hu) cm_ne (pd_var (pv 11)) (PD.pv pd_str) (nomark _)) (pdb_cons (pds_set (pd_op (op_add.or (op_add_str.or op_cat)) od_add (pd_var (pv 6)) (pd_lst (pda_cons (pd_var (pv 5)) pda_nil))) (fun h => ps_set (i := 6) sc_law.nd rfl (.inl rfl) h))
            (pdb_one (pds_set (pd_var (pv 11)) (fun h => ps_set (i := 5) sc_law.nd rfl (.inl rfl) h)))) (pdb_nil))))) (pdb_one (pds_if (pdt_cmp (r := rEqD K) (op_eqD hu) cm_eq (pd_var (pv 6)) (PD.pv (pd_lst pda_nil)) (nomark _)) (pdb_one (pds_if (pdt_cmp (r := rNeD K) (op_neD hu) cm_ne (pd_fnR F__law_call (hr.mono (by decide)) (by rfl) tk (pv 4) (pda_cons pd_int (pda_cons pd_int (pda_cons pd_int (pda_cons pd_int pda_nil))))) (PD.pv pd_str) (nomark _)) (pdb_one (pds_ret pd_bl)) (pdb_nil))) (pdb_cons (pds_par (pda_cons (pd_ix (r := rIx K) ix_seq od_ix (pd_var (pv 6)) (pd_un un_neg ud_neg pd_int) (fun _ _ => rfl)) (pda_cons (pd_slL (K := K) (pd_var (pv 6)) pdo_none (pdo_some (pd_un un_neg ud_neg pd_int))) pda_nil)) (fun h => ps_par (i := 5) (j := 6) rfl sc_law.nd rfl rfl (by decide) rfl rfl h (by rfl)))
            (pdb_one (pds_if (pdt_cmp (r := rNeD K) (op_neD hu) cm_ne (pd_fnR F__law_call (hr.mono (by decide)) (by rfl) tk (pv 4) (pda_cons pd_int (pda_cons pd_int (pda_cons pd_int (pda_cons pd_int pda_nil))))) (PD.pv (pd_var (pv 5))) (nomark _)) (pdb_one (pds_ret pd_bl)) (pdb_nil)))))))
        (pdb_cons (pds_if (PDW.pt (pdw_or (pdt_cmp (r := rNeD K) (op_neD hu) cm_ne (pd_meth0 F_Reader_span RT (hr.mono (by decide)) (pv 4) (by decide +kernel) (by decide +kernel)) (PD.pv (pd_var (pv 5))) (nomark _)) (pdw_or (pdt_cmp (r := rNeD K) (op_neD hu) cm_ne (pd_lenR F_Reader___len__ (hr.mono (by decide)) (by rfl) m_len (pv 4)) (PD.pv (pd_callB (r := rLenA K) call_lenA cd_len (by rfl) m_len boot_len (pda_cons (pd_var (pv 6)) pda_nil))) (nomark _)) (pdw_or1 (pdt_cmp (r := rNeD K) (op_neD hu) cm_ne (pd_fnR F__law_call (hr.mono (by decide)) (by rfl) tk (pv 4) (pda_cons pd_int (pda_cons pd_int (pda_cons pd_int (pda_cons pd_str pda_nil))))) (PD.pv pd_str) (nomark _)))))) (pdb_one (pds_ret pd_bl)) (pdb_nil))
        (pdb_one (pds_if (pdt_cmp (r := rNeD K) (op_neD hu) cm_ne (pd_fnR F__law_call (hr.mono (by decide)) (by rfl) tk (pv 4) (pda_cons pd_int (pda_cons pd_int (pda_cons pd_int (pda_cons pd_str pda_nil))))) (PD.pv pd_str) (nomark _)) (pdb_one (pds_ret pd_bl)) (pdb_nil))))))))
      (pdb_cons (pds_par (pda_cons (pd_meth0 F_Reader_shortest RT (hr.mono (by decide)) (pv 4) (by decide +kernel) (by decide +kernel)) (pda_cons (pd_meth0 F_Reader_simplest RT (hr.mono (by decide)) (pv 4) (by decide +kernel) (by decide +kernel)) pda_nil)) (fun h => ps_par (i := 12) (j := 13) rfl sc_law.nd rfl rfl (by decide) rfl rfl h (by rfl)))
      (pdb_cons (pds_if (PDW.pt (pdw_and (pdt_cmp op_notN cm_notN (pd_var (pv 12)) (PD.pv pd_non) (nomark _)) (pdw_and1 (pdt_cmp (r := rNeD K) (op_neD hu) cm_ne (pd_var (pv 12)) (PD.pv (pd_tup (pda_cons (pd_ix (r := rIx K) ix_seq od_ix (pd_ix (r := rIx K) ix_seq od_ix (pd_fn F_shortest (hr.mono (by decide)) (by rfl) tk (pda_cons (pd_var (pv 5)) pda_nil)) pd_int (fun _ _ => rfl)) pd_int (fun _ _ => rfl)) (pda_cons (pd_ix (r := rIx K) ix_seq od_ix (pd_fn F_shortest (hr.mono (by decide)) (by rfl) tk (pda_cons (pd_var (pv 5)) pda_nil)) pd_int (fun _ _ => rfl)) pda_nil)))) (nomark _))))) (pdb_one (pds_ret pd_bl)) (pdb_nil))
      (pdb_cons (pds_if (PDW.pt (pdw_and (pdt_val (pd_fn F__law_within (hr.mono (by decide)) (by rfl) tk (pda_cons (pd_var (pv 5)) (pda_cons (pd_var (pv 2)) pda_nil)))) (pdw_and1 (PDW.pt (pdw_or (PDW.pt (pdw_and (pdt_cmp op_isN cm_isN (pd_var (pv 12)) (PD.pv pd_non) (nomark _)) (pdw_and1 (pdt_cmp (r := rIn K false) op_in_seq cm_inTi (pd_ix (r := rIx K) ix_seq od_ix (pd_var (pv 2)) pd_int (fun _ _ => rfl)) (PD.pv (pd_tup (pda_cons pd_int (pda_cons pd_int (pda_cons pd_int (pda_cons pd_int pda_nil)))))) (by rfl))))) (pdw_or (pdt_cmp op_isN cm_isN (pd_var (pv 13)) (PD.pv pd_non) (nomark _)) (pdw_or1 (pdt_cmp op_gt cm_gt (pd_ix (r := rIx K) ix_seq od_ix (pd_var (pv 13)) pd_int (fun _ _ => rfl)) (PD.pv (pd_ix (r := rIx K) ix_seq od_ix (pd_var (pv 2)) pd_int (fun _ _ => rfl))) (nomark _))))))))) (pdb_one (pds_ret pd_bl)) (pdb_nil))
      (pdb_one (pds_ret (pd_or (pd_cmp op_isN cm_isN (pd_var (pv 13)) (PD.pv pd_non) (nomark _)) (pd_one (pd_cmp (r := rEqD K) (op_eqD hu) cm_eq (pd_var (pv 13)) (PD.pv (pd_fn F_simplest (hr.mono (by decide)) (by rfl) tk (pda_cons (pd_var (pv 5)) pda_nil))) (nomark _))))))))))))), ?_⟩
  clear hr tk po hu hu5
  rw [show startL ["script", "draws", "value", "start", "shown", "now", "past", "turn", "digits", "rule", "units", "due", "told", "simple"] = [some .scr, none, none, none, none, none, none, none, none, none, none, none, none, none] from rfl]
  refine seq_mk fun k hk => ?_
  simp only [dRet, dRetN, dSeq, dPar, dPar3, dCons, dNil, dCaB, dVar, dC, dCmpT, dCmp, dU, dB, dAndV, dOrV, dNotV, dAnd, dOr, dNot, dIf, dTup, dLst, dChain, dChainT, dTest, dIsi, dAsg, dDrop, dIfS, gN, gT, gs0, gs1, dAug, dNext, dRaise, dCall, dYes, topE, List.getElem?_cons_succ, List.getElem?_cons_zero, List.set_cons_zero, List.set_cons_succ, Option.some.injEq, S.val.injEq, exists_eq_left', exists_eq_left, exists_and_left, and_assoc, List.cons.injEq, and_true, true_and, PyData.int.injEq, PyData.bool.injEq, PyData.tuple.injEq, PyData.list.injEq, absD_i, maxD_i, addD_i, subD_i, negD_i, iaddD_i, mulD_e, fdivD_e, ifdivD_e, modD_e, leD_i, ltD_i, gtD_i, geD_i, lenD_t, lenD_l, isNd_n, notNd_n, isBd_b, notBd_b, isNonD_i, isNonD_n, isNonD_t, isNonD_l, eqD_int, neD_int, eqD_bool, neD_bool, eqD_fr, neD_fr, ix_fr0, ix_fr1, kit_int, kit_bool, kit_str, kit_tuple, decide_eq_true_eq, Bool.not_eq_true', decide_eq_false_iff_not, line_nil, line1, line2, if_true, if_false, dStart, S.drw.injEq]
  refine fun da db => hk _ ?_
  clear hk k

  refine seq_mk fun k hk => ?_
  simp only [dRet, dRetN, dSeq, dPar, dPar3, dCons, dNil, dCaB, dVar, dC, dCmpT, dCmp, dU, dB, dAndV, dOrV, dNotV, dAnd, dOr, dNot, dIf, dTup, dLst, dChain, dChainT, dTest, dIsi, dAsg, dDrop, dIfS, gN, gT, gs0, gs1, dAug, dNext, dRaise, dCall, dYes, topE, List.getElem?_cons_succ, List.getElem?_cons_zero, List.set_cons_zero, List.set_cons_succ, Option.some.injEq, S.val.injEq, exists_eq_left', exists_eq_left, exists_and_left, and_assoc, List.cons.injEq, and_true, true_and, PyData.int.injEq, PyData.bool.injEq, PyData.tuple.injEq, PyData.list.injEq, absD_i, maxD_i, addD_i, subD_i, negD_i, iaddD_i, mulD_e, fdivD_e, ifdivD_e, modD_e, leD_i, ltD_i, gtD_i, geD_i, lenD_t, lenD_l, isNd_n, notNd_n, isBd_b, notBd_b, isNonD_i, isNonD_n, isNonD_t, isNonD_l, eqD_int, neD_int, eqD_bool, neD_bool, eqD_fr, neD_fr, ix_fr0, ix_fr1, kit_int, kit_bool, kit_str, kit_tuple, decide_eq_true_eq, Bool.not_eq_true', decide_eq_false_iff_not, line_nil, line1, line2, if_true, if_false, dCallW, S.drw.injEq, c__law_fraction_e]
  intro p n hv
  obtain ⟨_, _, hvE, v1, v2, v3, v4, v5⟩ := isFracB_inv hv
  simp at hvE
  obtain ⟨rfl, rfl⟩ := hvE
  have hn : 0 < n := by omega
  refine hk [some .scr, some (.drw da db), some (.val (fr p n)), none, none, none, none, none, none, none, none, none, none, none] ?_
  clear hk k

  refine seq_mk fun k hk => ?_
  simp only [dRet, dRetN, dSeq, dPar, dPar3, dCons, dNil, dCaB, dVar, dC, dCmpT, dCmp, dU, dB, dAndV, dOrV, dNotV, dAnd, dOr, dNot, dIf, dTup, dLst, dChain, dChainT, dTest, dIsi, dAsg, dDrop, dIfS, gN, gT, gs0, gs1, dAug, dNext, dRaise, dCall, dYes, topE, List.getElem?_cons_succ, List.getElem?_cons_zero, List.set_cons_zero, List.set_cons_succ, Option.some.injEq, S.val.injEq, exists_eq_left', exists_eq_left, exists_and_left, and_assoc, List.cons.injEq, and_true, true_and, PyData.int.injEq, PyData.bool.injEq, PyData.tuple.injEq, PyData.list.injEq, absD_i, maxD_i, addD_i, subD_i, negD_i, iaddD_i, mulD_e, fdivD_e, ifdivD_e, modD_e, leD_i, ltD_i, gtD_i, geD_i, lenD_t, lenD_l, isNd_n, notNd_n, isBd_b, notBd_b, isNonD_i, isNonD_n, isNonD_t, isNonD_l, eqD_int, neD_int, eqD_bool, neD_bool, eqD_fr, neD_fr, ix_fr0, ix_fr1, kit_int, kit_bool, kit_str, kit_tuple, decide_eq_true_eq, Bool.not_eq_true', decide_eq_false_iff_not, line_nil, line1, line2, if_true, if_false, List.length_cons, List.length_nil, sizeLine_eq, Nat.reduceAdd, Nat.reduceLeDiff, Nat.zero_add]
  refine hk [some .scr, some (.drw da db), some (.val (fr p n)), some (.val (spanT (0 - 200) 1 true 200 1 true)), none, none, none, none, none, none, none, none, none, none] ?_
  clear hk k
  refine seq_mk fun k hk => ?_
  simp only [dRet, dRetN, dSeq, dPar, dPar3, dCons, dNil, dCaB, dVar, dC, dCmpT, dCmp, dU, dB, dAndV, dOrV, dNotV, dAnd, dOr, dNot, dIf, dTup, dLst, dChain, dChainT, dTest, dIsi, dAsg, dDrop, dIfS, gN, gT, gs0, gs1, dAug, dNext, dRaise, dCall, dYes, topE, List.getElem?_cons_succ, List.getElem?_cons_zero, List.set_cons_zero, List.set_cons_succ, Option.some.injEq, S.val.injEq, exists_eq_left', exists_eq_left, exists_and_left, and_assoc, List.cons.injEq, and_true, true_and, PyData.int.injEq, PyData.bool.injEq, PyData.tuple.injEq, PyData.list.injEq, absD_i, maxD_i, addD_i, subD_i, negD_i, iaddD_i, mulD_e, fdivD_e, ifdivD_e, modD_e, leD_i, ltD_i, gtD_i, geD_i, lenD_t, lenD_l, isNd_n, notNd_n, isBd_b, notBd_b, isNonD_i, isNonD_n, isNonD_t, isNonD_l, eqD_int, neD_int, eqD_bool, neD_bool, eqD_fr, neD_fr, ix_fr0, ix_fr1, kit_int, kit_bool, kit_str, kit_tuple, decide_eq_true_eq, Bool.not_eq_true', decide_eq_false_iff_not, line_nil, line1, line2, if_true, if_false, dMkR3]
  refine ⟨⟨by decide, smV_span (by decide) (by decide)⟩, fun p0 dx0 l0 => hk [some .scr, some (.drw da db), some (.val (fr p n)), some (.val (spanT (0 - 200) 1 true 200 1 true)), some (.rdr p0 dx0 l0 C_R (spanT (0 - 200) 1 true 200 1 true) ([])), some (.val (spanT (0 - 200) 1 true 200 1 true)), some (.val (.list ([]))), none, none, none, none, none, none, none] ?_⟩
  clear hk k
  refine seq_mk fun k' hk => ?_
  simp only [dRet, dRetN, dSeq, dPar, dPar3, dCons, dNil, dCaB, dVar, dC, dCmpT, dCmp, dU, dB, dAndV, dOrV, dNotV, dAnd, dOr, dNot, dIf, dTup, dLst, dChain, dChainT, dTest, dIsi, dAsg, dDrop, dIfS, gN, gT, gs0, gs1, dAug, dNext, dRaise, dCall, dYes, topE, List.getElem?_cons_succ, List.getElem?_cons_zero, List.set_cons_zero, List.set_cons_succ, Option.some.injEq, S.val.injEq, exists_eq_left', exists_eq_left, exists_and_left, and_assoc, List.cons.injEq, and_true, true_and, PyData.int.injEq, PyData.bool.injEq, PyData.tuple.injEq, PyData.list.injEq, absD_i, maxD_i, addD_i, subD_i, negD_i, iaddD_i, mulD_e, fdivD_e, ifdivD_e, modD_e, leD_i, ltD_i, gtD_i, geD_i, lenD_t, lenD_l, isNd_n, notNd_n, isBd_b, notBd_b, isNonD_i, isNonD_n, isNonD_t, isNonD_l, eqD_int, neD_int, eqD_bool, neD_bool, eqD_fr, neD_fr, ix_fr0, ix_fr1, kit_int, kit_bool, kit_str, kit_tuple, decide_eq_true_eq, Bool.not_eq_true', decide_eq_false_iff_not, line_nil, line1, line2, if_true, if_false, dFor, dRng1]
  refine ⟨by decide, ?_⟩
  refine forW_rng (fun k l => ∃ t7 t8 t9 t10 t11 p0 dx0 l0 nw ps, l = [some .scr, some (.drw da db), some (.val (fr p n)), some (.val (spanT (0 - 200) 1 true 200 1 true)), some (.rdr p0 dx0 l0 C_R (nw) (ps)), some (.val (nw)), some (.val (.list (ps))), t7, t8, t9, t10, t11, none, none] ∧ goodR nw ∧ (∀ x ∈ ps, goodR x) ∧ ps.length ≤ k) (fun k l k2 hi10 h hk2 => ?_) (fun l h => ?_) _ ⟨none, none, none, none, none, p0, dx0, l0, _, [], rfl, ⟨_, _, _, _, _, _, rfl, by decide, by decide, by decide⟩, (fun _ z => nomatch z), by decide⟩
  · clear hk
    obtain ⟨t7, t8, t9, t10, t11, p0, dx0, l0, nw, ps, rfl, g1, g2, g3⟩ := h
    have hi10 : k < 10 := hi10

    obtain ⟨a, b, i, c, e, j, rfl, hR, sb, se⟩ := g1
    obtain ⟨_, _, _, _, _, _, er, ⟨b0, ga⟩, ⟨e0, gc⟩, ord, lo, hi⟩ := rangeB_inv hR
    simp [spanT] at er
    obtain ⟨⟨rfl, rfl⟩, rfl, ⟨rfl, rfl⟩, rfl⟩ := er

    refine seq_mk fun k3 hk3 => ?_
    simp only [gN, List.set_cons_zero, List.set_cons_succ]
    generalize (some (S.val (PyData.int (0 + (k : Int)))) : Option S) = t7'
    clear t7
    obtain ⟨t7, rfl⟩ : ∃ t7, t7 = t7' := ⟨_, rfl⟩
    simp only [dRet, dRetN, dSeq, dPar, dPar3, dCons, dNil, dCaB, dVar, dC, dCmpT, dCmp, dU, dB, dAndV, dOrV, dNotV, dAnd, dOr, dNot, dIf, dTup, dLst, dChain, dChainT, dTest, dIsi, dAsg, dDrop, dIfS, gN, gT, gs0, gs1, dAug, dNext, dRaise, dCall, dYes, topE, List.getElem?_cons_succ, List.getElem?_cons_zero, List.set_cons_zero, List.set_cons_succ, Option.some.injEq, S.val.injEq, exists_eq_left', exists_eq_left, exists_and_left, and_assoc, List.cons.injEq, and_true, true_and, PyData.int.injEq, PyData.bool.injEq, PyData.tuple.injEq, PyData.list.injEq, absD_i, maxD_i, addD_i, subD_i, negD_i, iaddD_i, mulD_e, fdivD_e, ifdivD_e, modD_e, leD_i, ltD_i, gtD_i, geD_i, lenD_t, lenD_l, isNd_n, notNd_n, isBd_b, notBd_b, isNonD_i, isNonD_n, isNonD_t, isNonD_l, eqD_int, neD_int, eqD_bool, neD_bool, eqD_fr, neD_fr, ix_fr0, ix_fr1, kit_int, kit_bool, kit_str, kit_tuple, decide_eq_true_eq, Bool.not_eq_true', decide_eq_false_iff_not, line_nil, line1, line2, if_true, if_false, dCallW, S.drw.injEq, dCall0, c__law_rules_e, c__law_pick_e, c__law_draw_e]
    refine ⟨by decide, by decide, fun d d0 d1 => ⟨by decide, by decide, fun w hw => ?_⟩⟩
    obtain ⟨r, _, rfl⟩ := List.mem_map.mp hw
    refine hk3 [some .scr, some (.drw da db), some (.val (fr p n)), some (.val (spanT (0 - 200) 1 true 200 1 true)), some (.rdr p0 dx0 l0 C_R (spanT a b i c e j) (ps)), some (.val (spanT a b i c e j)), some (.val (.list (ps))), t7, some (.val (.int d)), some (.val (.str (ruS r))), t10, t11, none, none] ?_
    clear hk3 k3 hw
    have ub := units_bound (p := p) (n := n) (d := d) (r := r) hn v3 v4
    have hP := powT_pos d
    refine seq_mk fun k3 hk3 => ?_
    have fin : ∀ u, -101 * powT d ≤ u → u ≤ 101 * powT d → k3 [some .scr, some (.drw da db), some (.val (fr p n)), some (.val (spanT (0 - 200) 1 true 200 1 true)), some (.rdr p0 dx0 l0 C_R (spanT a b i c e j) (ps)), some (.val (spanT a b i c e j)), some (.val (.list (ps))), t7, some (.val (.int d)), some (.val (.str (ruS r))), some (.val (.int u)), t11, none, none] := fun u u1 u2 => hk3 _ (by
      clear hk3 k3
      obtain ⟨s1, s2, x0, z0⟩ := span_small (u := u) (d := d) (r := r) (by omega)
      have hR2 := span_range (u := u) (d := d) (r := r) u1 u2
      obtain ⟨_, _, _, _, _, _, er, ⟨_, gx⟩, ⟨_, gz⟩, _, xlo, zhi⟩ := rangeB_inv hR2
      simp [spanT, spanF] at er
      obtain ⟨⟨rfl, rfl⟩, rfl, ⟨rfl, rfl⟩, rfl⟩ := er
      refine seq_mk fun k3 hk3 => ?_
      have fin : ∀ t11 nw ps, goodR nw → (∀ x ∈ ps, goodR x) → ps.length ≤ k + 1 → k3 [some .scr, some (.drw da db), some (.val (fr p n)), some (.val (spanT (0 - 200) 1 true 200 1 true)), some (.rdr p0 dx0 l0 C_R (nw) (ps)), some (.val (nw)), some (.val (.list (ps))), t7, some (.val (.int d)), some (.val (.str (ruS r))), some (.val (.int u)), t11, none, none] := fun t11 nw ps g1 g2 g3 => hk3 _ (by
        clear hk3 k3 hR sb se b0 ga e0 gc ord lo hi
        obtain ⟨a, b, i, c, e, j, rfl, hR, sb, se⟩ := g1
        obtain ⟨_, _, _, _, _, _, er, ⟨b0, ga⟩, ⟨e0, gc⟩, ord, lo, hi⟩ := rangeB_inv hR
        simp [spanT] at er
        obtain ⟨⟨rfl, rfl⟩, rfl, ⟨rfl, rfl⟩, rfl⟩ := er

        refine seq_mk fun k4 hk4 => ?_
        simp only [dRet, dRetN, dSeq, dPar, dPar3, dCons, dNil, dCaB, dVar, dC, dCmpT, dCmp, dU, dB, dAndV, dOrV, dNotV, dAnd, dOr, dNot, dIf, dTup, dLst, dChain, dChainT, dTest, dIsi, dAsg, dDrop, dIfS, gN, gT, gs0, gs1, dAug, dNext, dRaise, dCall, dYes, topE, List.getElem?_cons_succ, List.getElem?_cons_zero, List.set_cons_zero, List.set_cons_succ, Option.some.injEq, S.val.injEq, exists_eq_left', exists_eq_left, exists_and_left, and_assoc, List.cons.injEq, and_true, true_and, PyData.int.injEq, PyData.bool.injEq, PyData.tuple.injEq, PyData.list.injEq, absD_i, maxD_i, addD_i, subD_i, negD_i, iaddD_i, mulD_e, fdivD_e, ifdivD_e, modD_e, leD_i, ltD_i, gtD_i, geD_i, lenD_t, lenD_l, isNd_n, notNd_n, isBd_b, notBd_b, isNonD_i, isNonD_n, isNonD_t, isNonD_l, eqD_int, neD_int, eqD_bool, neD_bool, eqD_fr, neD_fr, ix_fr0, ix_fr1, kit_int, kit_bool, kit_str, kit_tuple, decide_eq_true_eq, Bool.not_eq_true', decide_eq_false_iff_not, line_nil, line1, line2, if_true, if_false, dMethR, S.rdr.injEq, c_Reader_span_e]
        refine ⟨_, neD_span .., ?_⟩
        rw [decide_eq_true ⟨rfl, rfl, rfl, rfl, rfl, rfl⟩, if_neg (by decide)]
        simp only [dRet, dRetN, dSeq, dPar, dPar3, dCons, dNil, dCaB, dVar, dC, dCmpT, dCmp, dU, dB, dAndV, dOrV, dNotV, dAnd, dOr, dNot, dIf, dTup, dLst, dChain, dChainT, dTest, dIsi, dAsg, dDrop, dIfS, gN, gT, gs0, gs1, dAug, dNext, dRaise, dCall, dYes, topE, List.getElem?_cons_succ, List.getElem?_cons_zero, List.set_cons_zero, List.set_cons_succ, Option.some.injEq, S.val.injEq, exists_eq_left', exists_eq_left, exists_and_left, and_assoc, List.cons.injEq, and_true, true_and, PyData.int.injEq, PyData.bool.injEq, PyData.tuple.injEq, PyData.list.injEq, absD_i, maxD_i, addD_i, subD_i, negD_i, iaddD_i, mulD_e, fdivD_e, ifdivD_e, modD_e, leD_i, ltD_i, gtD_i, geD_i, lenD_t, lenD_l, isNd_n, notNd_n, isBd_b, notBd_b, isNonD_i, isNonD_n, isNonD_t, isNonD_l, eqD_int, neD_int, eqD_bool, neD_bool, eqD_fr, neD_fr, ix_fr0, ix_fr1, kit_int, kit_bool, kit_str, kit_tuple, decide_eq_true_eq, Bool.not_eq_true', decide_eq_false_iff_not, line_nil, line1, line2, if_true, if_false, dLenR, S.rdr.injEq, c_Reader___len___e]
        refine ⟨by omega, by omega, ?_⟩
        rw [if_neg (by simp)]
        simp only [dRet, dRetN, dSeq, dPar, dPar3, dCons, dNil, dCaB, dVar, dC, dCmpT, dCmp, dU, dB, dAndV, dOrV, dNotV, dAnd, dOr, dNot, dIf, dTup, dLst, dChain, dChainT, dTest, dIsi, dAsg, dDrop, dIfS, gN, gT, gs0, gs1, dAug, dNext, dRaise, dCall, dYes, topE, List.getElem?_cons_succ, List.getElem?_cons_zero, List.set_cons_zero, List.set_cons_succ, Option.some.injEq, S.val.injEq, exists_eq_left', exists_eq_left, exists_and_left, and_assoc, List.cons.injEq, and_true, true_and, PyData.int.injEq, PyData.bool.injEq, PyData.tuple.injEq, PyData.list.injEq, absD_i, maxD_i, addD_i, subD_i, negD_i, iaddD_i, mulD_e, fdivD_e, ifdivD_e, modD_e, leD_i, ltD_i, gtD_i, geD_i, lenD_t, lenD_l, isNd_n, notNd_n, isBd_b, notBd_b, isNonD_i, isNonD_n, isNonD_t, isNonD_l, eqD_int, neD_int, eqD_bool, neD_bool, eqD_fr, neD_fr, ix_fr0, ix_fr1, kit_int, kit_bool, kit_str, kit_tuple, decide_eq_true_eq, Bool.not_eq_true', decide_eq_false_iff_not, line_nil, line1, line2, if_true, if_false, dMethE, S.rdr.injEq]
        refine c__law_call_num ⟨b0, sb⟩ ⟨e0, se⟩ (by omega) ?_
        simp only [dRet, dRetN, dSeq, dPar, dPar3, dCons, dNil, dCaB, dVar, dC, dCmpT, dCmp, dU, dB, dAndV, dOrV, dNotV, dAnd, dOr, dNot, dIf, dTup, dLst, dChain, dChainT, dTest, dIsi, dAsg, dDrop, dIfS, gN, gT, gs0, gs1, dAug, dNext, dRaise, dCall, dYes, topE, List.getElem?_cons_succ, List.getElem?_cons_zero, List.set_cons_zero, List.set_cons_succ, Option.some.injEq, S.val.injEq, exists_eq_left', exists_eq_left, exists_and_left, and_assoc, List.cons.injEq, and_true, true_and, PyData.int.injEq, PyData.bool.injEq, PyData.tuple.injEq, PyData.list.injEq, absD_i, maxD_i, addD_i, subD_i, negD_i, iaddD_i, mulD_e, fdivD_e, ifdivD_e, modD_e, leD_i, ltD_i, gtD_i, geD_i, lenD_t, lenD_l, isNd_n, notNd_n, isBd_b, notBd_b, isNonD_i, isNonD_n, isNonD_t, isNonD_l, eqD_int, neD_int, eqD_bool, neD_bool, eqD_fr, neD_fr, ix_fr0, ix_fr1, kit_int, kit_bool, kit_str, kit_tuple, decide_eq_true_eq, Bool.not_eq_true', decide_eq_false_iff_not, line_nil, line1, line2, if_true, if_false, S.rdr.injEq]
        refine ⟨_, ne_num, ?_⟩
        refine iteF (hk4 [some .scr, some (.drw da db), some (.val (fr p n)), some (.val (spanT (0 - 200) 1 true 200 1 true)), some (.rdr p0 dx0 l0 C_R (spanT a b i c e j) (ps)), some (.val (spanT a b i c e j)), some (.val (.list (ps))), t7, some (.val (.int d)), some (.val (.str (ruS r))), some (.val (.int u)), t11, none, none] ?_)
        clear hk4 k4
        simp only [dRet, dRetN, dSeq, dPar, dPar3, dCons, dNil, dCaB, dVar, dC, dCmpT, dCmp, dU, dB, dAndV, dOrV, dNotV, dAnd, dOr, dNot, dIf, dTup, dLst, dChain, dChainT, dTest, dIsi, dAsg, dDrop, dIfS, gN, gT, gs0, gs1, dAug, dNext, dRaise, dCall, dYes, topE, List.getElem?_cons_succ, List.getElem?_cons_zero, List.set_cons_zero, List.set_cons_succ, Option.some.injEq, S.val.injEq, exists_eq_left', exists_eq_left, exists_and_left, and_assoc, List.cons.injEq, and_true, true_and, PyData.int.injEq, PyData.bool.injEq, PyData.tuple.injEq, PyData.list.injEq, absD_i, maxD_i, addD_i, subD_i, negD_i, iaddD_i, mulD_e, fdivD_e, ifdivD_e, modD_e, leD_i, ltD_i, gtD_i, geD_i, lenD_t, lenD_l, isNd_n, notNd_n, isBd_b, notBd_b, isNonD_i, isNonD_n, isNonD_t, isNonD_l, eqD_int, neD_int, eqD_bool, neD_bool, eqD_fr, neD_fr, ix_fr0, ix_fr1, kit_int, kit_bool, kit_str, kit_tuple, decide_eq_true_eq, Bool.not_eq_true', decide_eq_false_iff_not, line_nil, line1, line2, if_true, if_false, dMethE, S.rdr.injEq]
        refine c__law_call_rul ⟨b0, sb⟩ ⟨e0, se⟩ (by omega) ?_
        simp only [dRet, dRetN, dSeq, dPar, dPar3, dCons, dNil, dCaB, dVar, dC, dCmpT, dCmp, dU, dB, dAndV, dOrV, dNotV, dAnd, dOr, dNot, dIf, dTup, dLst, dChain, dChainT, dTest, dIsi, dAsg, dDrop, dIfS, gN, gT, gs0, gs1, dAug, dNext, dRaise, dCall, dYes, topE, List.getElem?_cons_succ, List.getElem?_cons_zero, List.set_cons_zero, List.set_cons_succ, Option.some.injEq, S.val.injEq, exists_eq_left', exists_eq_left, exists_and_left, and_assoc, List.cons.injEq, and_true, true_and, PyData.int.injEq, PyData.bool.injEq, PyData.tuple.injEq, PyData.list.injEq, absD_i, maxD_i, addD_i, subD_i, negD_i, iaddD_i, mulD_e, fdivD_e, ifdivD_e, modD_e, leD_i, ltD_i, gtD_i, geD_i, lenD_t, lenD_l, isNd_n, notNd_n, isBd_b, notBd_b, isNonD_i, isNonD_n, isNonD_t, isNonD_l, eqD_int, neD_int, eqD_bool, neD_bool, eqD_fr, neD_fr, ix_fr0, ix_fr1, kit_int, kit_bool, kit_str, kit_tuple, decide_eq_true_eq, Bool.not_eq_true', decide_eq_false_iff_not, line_nil, line1, line2, if_true, if_false, S.rdr.injEq]
        refine ⟨_, ne_rul, ?_⟩
        refine iteF (hk2 _ ⟨_, _, _, _, _, _, _, _, _, _, rfl, ⟨_, _, _, _, _, _, rfl, hR, sb, se⟩, g2, g3⟩))
      clear hk3 hk2
      refine ifs_mk fun kt ku ht hu => ?_
      simp only [dRet, dRetN, dSeq, dPar, dPar3, dCons, dNil, dCaB, dVar, dC, dCmpT, dCmp, dU, dB, dAndV, dOrV, dNotV, dAnd, dOr, dNot, dIf, dTup, dLst, dChain, dChainT, dTest, dIsi, dAsg, dDrop, dIfS, gN, gT, gs0, gs1, dAug, dNext, dRaise, dCall, dYes, topE, List.getElem?_cons_succ, List.getElem?_cons_zero, List.set_cons_zero, List.set_cons_succ, Option.some.injEq, S.val.injEq, exists_eq_left', exists_eq_left, exists_and_left, and_assoc, List.cons.injEq, and_true, true_and, PyData.int.injEq, PyData.bool.injEq, PyData.tuple.injEq, PyData.list.injEq, absD_i, maxD_i, addD_i, subD_i, negD_i, iaddD_i, mulD_e, fdivD_e, ifdivD_e, modD_e, leD_i, ltD_i, gtD_i, geD_i, lenD_t, lenD_l, isNd_n, notNd_n, isBd_b, notBd_b, isNonD_i, isNonD_n, isNonD_t, isNonD_l, eqD_int, neD_int, eqD_bool, neD_bool, eqD_fr, neD_fr, ix_fr0, ix_fr1, kit_int, kit_bool, kit_str, kit_tuple, decide_eq_true_eq, Bool.not_eq_true', decide_eq_false_iff_not, line_nil, line1, line2, if_true, if_false, dCallW, S.drw.injEq, c__law_draw_e]
      refine ⟨by decide, by decide, fun r0 _ _ => ite2 (fun _ => ht _ ?_) (fun _ => hu _ ?_)⟩
      · clear ht hu kt ku
        refine seq_mk fun k4 hk4 => ?_
        simp only [dRet, dRetN, dSeq, dPar, dPar3, dCons, dNil, dCaB, dVar, dC, dCmpT, dCmp, dU, dB, dAndV, dOrV, dNotV, dAnd, dOr, dNot, dIf, dTup, dLst, dChain, dChainT, dTest, dIsi, dAsg, dDrop, dIfS, gN, gT, gs0, gs1, dAug, dNext, dRaise, dCall, dYes, topE, List.getElem?_cons_succ, List.getElem?_cons_zero, List.set_cons_zero, List.set_cons_succ, Option.some.injEq, S.val.injEq, exists_eq_left', exists_eq_left, exists_and_left, and_assoc, List.cons.injEq, and_true, true_and, PyData.int.injEq, PyData.bool.injEq, PyData.tuple.injEq, PyData.list.injEq, absD_i, maxD_i, addD_i, subD_i, negD_i, iaddD_i, mulD_e, fdivD_e, ifdivD_e, modD_e, leD_i, ltD_i, gtD_i, geD_i, lenD_t, lenD_l, isNd_n, notNd_n, isBd_b, notBd_b, isNonD_i, isNonD_n, isNonD_t, isNonD_l, eqD_int, neD_int, eqD_bool, neD_bool, eqD_fr, neD_fr, ix_fr0, ix_fr1, kit_int, kit_bool, kit_str, kit_tuple, decide_eq_true_eq, Bool.not_eq_true', decide_eq_false_iff_not, line_nil, line1, line2, if_true, if_false]
        refine c_range_of_ok d0 (by omega) u1 u2 ?_
        refine c__law_met_ok ⟨b0, sb, ga⟩ ⟨e0, se, gc⟩ ⟨x0, by omega, gx⟩ ⟨z0, by omega, gz⟩ ?_
        have gv : spanB (spanT (mLo a b i (lowN (loN u r) (spK d r)) (lowU (loN u r) (spK d r)) (loI u r)).1 (mLo a b i (lowN (loN u r) (spK d r)) (lowU (loN u r) (spK d r)) (loI u r)).2.1 (mLo a b i (lowN (loN u r) (spK d r)) (lowU (loN u r) (spK d r)) (loI u r)).2.2 (mHi c e j (lowN (hiN u r) (spK d r)) (lowU (hiN u r) (spK d r)) (hiI u r)).1 (mHi c e j (lowN (hiN u r) (spK d r)) (lowU (hiN u r) (spK d r)) (hiI u r)).2.1 (mHi c e j (lowN (hiN u r) (spK d r)) (lowU (hiN u r) (spK d r)) (hiI u r)).2.2) = true → goodR (spanT (mLo a b i (lowN (loN u r) (spK d r)) (lowU (loN u r) (spK d r)) (loI u r)).1 (mLo a b i (lowN (loN u r) (spK d r)) (lowU (loN u r) (spK d r)) (loI u r)).2.1 (mLo a b i (lowN (loN u r) (spK d r)) (lowU (loN u r) (spK d r)) (loI u r)).2.2 (mHi c e j (lowN (hiN u r) (spK d r)) (lowU (hiN u r) (spK d r)) (hiI u r)).1 (mHi c e j (lowN (hiN u r) (spK d r)) (lowU (hiN u r) (spK d r)) (hiI u r)).2.1 (mHi c e j (lowN (hiN u r) (spK d r)) (lowU (hiN u r) (spK d r)) (hiI u r)).2.2) := fun hs => by
          obtain ⟨⟨B0, gA, B1⟩, Lo⟩ := mLo_of (a := a) (b := b) (i := i) (x := lowN (loN u r) (spK d r)) (y := lowU (loN u r) (spK d r)) (k := loI u r) (fun x y => (0 < y ∧ Int.gcd x y = 1 ∧ y < 2 ^ 60) ∧ -200 * y ≤ x) ⟨⟨b0, ga, sb⟩, lo⟩ ⟨⟨x0, gx, by omega⟩, xlo⟩
          obtain ⟨⟨D0, gC, D1⟩, Hi⟩ := mHi_of (a := c) (b := e) (i := j) (x := lowN (hiN u r) (spK d r)) (y := lowU (hiN u r) (spK d r)) (k := hiI u r) (fun x y => (0 < y ∧ Int.gcd x y = 1 ∧ y < 2 ^ 60) ∧ x ≤ 200 * y) ⟨⟨e0, gc, se⟩, hi⟩ ⟨⟨z0, gz, by omega⟩, zhi⟩
          rw [spanB_e] at hs
          exact ⟨_, _, _, _, _, _, rfl, rangeB_mk B0 gA D0 gC (of_decide_eq_true hs).2.2 Lo Hi, B1, D1⟩
        have tell : ∀ q, (if spanB (spanT (mLo a b i (lowN (loN u r) (spK d r)) (lowU (loN u r) (spK d r)) (loI u r)).1 (mLo a b i (lowN (loN u r) (spK d r)) (lowU (loN u r) (spK d r)) (loI u r)).2.1 (mLo a b i (lowN (loN u r) (spK d r)) (lowU (loN u r) (spK d r)) (loI u r)).2.2 (mHi c e j (lowN (hiN u r) (spK d r)) (lowU (hiN u r) (spK d r)) (hiI u r)).1 (mHi c e j (lowN (hiN u r) (spK d r)) (lowU (hiN u r) (spK d r)) (hiI u r)).2.1 (mHi c e j (lowN (hiN u r) (spK d r)) (lowU (hiN u r) (spK d r)) (hiI u r)).2.2) = true then q (.ok (spanT (mLo a b i (lowN (loN u r) (spK d r)) (lowU (loN u r) (spK d r)) (loI u r)).1 (mLo a b i (lowN (loN u r) (spK d r)) (lowU (loN u r) (spK d r)) (loI u r)).2.1 (mLo a b i (lowN (loN u r) (spK d r)) (lowU (loN u r) (spK d r)) (loI u r)).2.2 (mHi c e j (lowN (hiN u r) (spK d r)) (lowU (hiN u r) (spK d r)) (hiI u r)).1 (mHi c e j (lowN (hiN u r) (spK d r)) (lowU (hiN u r) (spK d r)) (hiI u r)).2.1 (mHi c e j (lowN (hiN u r) (spK d r)) (lowU (hiN u r) (spK d r)) (hiI u r)).2.2)) (spanT (mLo a b i (lowN (loN u r) (spK d r)) (lowU (loN u r) (spK d r)) (loI u r)).1 (mLo a b i (lowN (loN u r) (spK d r)) (lowU (loN u r) (spK d r)) (loI u r)).2.1 (mLo a b i (lowN (loN u r) (spK d r)) (lowU (loN u r) (spK d r)) (loI u r)).2.2 (mHi c e j (lowN (hiN u r) (spK d r)) (lowU (hiN u r) (spK d r)) (hiI u r)).1 (mHi c e j (lowN (hiN u r) (spK d r)) (lowU (hiN u r) (spK d r)) (hiI u r)).2.1 (mHi c e j (lowN (hiN u r) (spK d r)) (lowU (hiN u r) (spK d r)) (hiI u r)).2.2) (ps ++ [spanT a b i c e j]) else q (.ok (.str "none")) (spanT a b i c e j) ps) → c__law_call (spanT a b i c e j) ps [.int 0, .int u, .int d, .str (ruS r)] q := fun q h => c__law_call_tell ⟨b0, sb⟩ ⟨e0, se⟩ (by omega) ⟨d0, by omega⟩ ⟨u1, u2⟩ h
        generalize spanT (mLo a b i (lowN (loN u r) (spK d r)) (lowU (loN u r) (spK d r)) (loI u r)).1 (mLo a b i (lowN (loN u r) (spK d r)) (lowU (loN u r) (spK d r)) (loI u r)).2.1 (mLo a b i (lowN (loN u r) (spK d r)) (lowU (loN u r) (spK d r)) (loI u r)).2.2 (mHi c e j (lowN (hiN u r) (spK d r)) (lowU (hiN u r) (spK d r)) (hiI u r)).1 (mHi c e j (lowN (hiN u r) (spK d r)) (lowU (hiN u r) (spK d r)) (hiI u r)).2.1 (mHi c e j (lowN (hiN u r) (spK d r)) (lowU (hiN u r) (spK d r)) (hiI u r)).2.2 = V at gv tell ⊢
        cases hs : spanB V with
        | true =>
          obtain ⟨A, B, I, C, E, J, rfl, hV⟩ := gv hs
          rw [if_pos rfl]
          refine hk4 [some .scr, some (.drw da db), some (.val (fr p n)), some (.val (spanT (0 - 200) 1 true 200 1 true)), some (.rdr p0 dx0 l0 C_R (spanT a b i c e j) (ps)), some (.val (spanT a b i c e j)), some (.val (.list (ps))), t7, some (.val (.int d)), some (.val (.str (ruS r))), some (.val (.int u)), some (.val (spanT A B I C E J)), none, none] ?_
          clear hk4 k4
          refine seq_mk fun k4 hk4 => ?_
          simp only [dRet, dRetN, dSeq, dPar, dPar3, dCons, dNil, dCaB, dVar, dC, dCmpT, dCmp, dU, dB, dAndV, dOrV, dNotV, dAnd, dOr, dNot, dIf, dTup, dLst, dChain, dChainT, dTest, dIsi, dAsg, dDrop, dIfS, gN, gT, gs0, gs1, dAug, dNext, dRaise, dCall, dYes, topE, List.getElem?_cons_succ, List.getElem?_cons_zero, List.set_cons_zero, List.set_cons_succ, Option.some.injEq, S.val.injEq, exists_eq_left', exists_eq_left, exists_and_left, and_assoc, List.cons.injEq, and_true, true_and, PyData.int.injEq, PyData.bool.injEq, PyData.tuple.injEq, PyData.list.injEq, absD_i, maxD_i, addD_i, subD_i, negD_i, iaddD_i, mulD_e, fdivD_e, ifdivD_e, modD_e, leD_i, ltD_i, gtD_i, geD_i, lenD_t, lenD_l, isNd_n, notNd_n, isBd_b, notBd_b, isNonD_i, isNonD_n, isNonD_t, isNonD_l, eqD_int, neD_int, eqD_bool, neD_bool, eqD_fr, neD_fr, ix_fr0, ix_fr1, kit_int, kit_bool, kit_str, kit_tuple, decide_eq_true_eq, Bool.not_eq_true', decide_eq_false_iff_not, line_nil, line1, line2, if_true, if_false, dMethE, S.rdr.injEq]
          refine tell _ ?_
          rw [if_pos hs]
          simp only [dRet, dRetN, dSeq, dPar, dPar3, dCons, dNil, dCaB, dVar, dC, dCmpT, dCmp, dU, dB, dAndV, dOrV, dNotV, dAnd, dOr, dNot, dIf, dTup, dLst, dChain, dChainT, dTest, dIsi, dAsg, dDrop, dIfS, gN, gT, gs0, gs1, dAug, dNext, dRaise, dCall, dYes, topE, List.getElem?_cons_succ, List.getElem?_cons_zero, List.set_cons_zero, List.set_cons_succ, Option.some.injEq, S.val.injEq, exists_eq_left', exists_eq_left, exists_and_left, and_assoc, List.cons.injEq, and_true, true_and, PyData.int.injEq, PyData.bool.injEq, PyData.tuple.injEq, PyData.list.injEq, absD_i, maxD_i, addD_i, subD_i, negD_i, iaddD_i, mulD_e, fdivD_e, ifdivD_e, modD_e, leD_i, ltD_i, gtD_i, geD_i, lenD_t, lenD_l, isNd_n, notNd_n, isBd_b, notBd_b, isNonD_i, isNonD_n, isNonD_t, isNonD_l, eqD_int, neD_int, eqD_bool, neD_bool, eqD_fr, neD_fr, ix_fr0, ix_fr1, kit_int, kit_bool, kit_str, kit_tuple, decide_eq_true_eq, Bool.not_eq_true', decide_eq_false_iff_not, line_nil, line1, line2, if_true, if_false, S.rdr.injEq]
          refine ⟨_, neD_span .., ?_⟩
          rw [decide_eq_true ⟨rfl, rfl, rfl, rfl, rfl, rfl⟩]
          refine iteF (hk4 [some .scr, some (.drw da db), some (.val (fr p n)), some (.val (spanT (0 - 200) 1 true 200 1 true)), some (.rdr p0 dx0 l0 C_R (spanT A B I C E J) (ps ++ [spanT a b i c e j])), some (.val (spanT a b i c e j)), some (.val (.list ps)), t7, some (.val (.int d)), some (.val (.str (ruS r))), some (.val (.int u)), some (.val (spanT A B I C E J)), none, none] ?_)
          clear hk4 k4
          simp only [dRet, dRetN, dSeq, dPar, dPar3, dCons, dNil, dCaB, dVar, dC, dCmpT, dCmp, dU, dB, dAndV, dOrV, dNotV, dAnd, dOr, dNot, dIf, dTup, dLst, dChain, dChainT, dTest, dIsi, dAsg, dDrop, dIfS, gN, gT, gs0, gs1, dAug, dNext, dRaise, dCall, dYes, topE, List.getElem?_cons_succ, List.getElem?_cons_zero, List.set_cons_zero, List.set_cons_succ, Option.some.injEq, S.val.injEq, exists_eq_left', exists_eq_left, exists_and_left, and_assoc, List.cons.injEq, and_true, true_and, PyData.int.injEq, PyData.bool.injEq, PyData.tuple.injEq, PyData.list.injEq, absD_i, maxD_i, addD_i, subD_i, negD_i, iaddD_i, mulD_e, fdivD_e, ifdivD_e, modD_e, leD_i, ltD_i, gtD_i, geD_i, lenD_t, lenD_l, isNd_n, notNd_n, isBd_b, notBd_b, isNonD_i, isNonD_n, isNonD_t, isNonD_l, eqD_int, neD_int, eqD_bool, neD_bool, eqD_fr, neD_fr, ix_fr0, ix_fr1, kit_int, kit_bool, kit_str, kit_tuple, decide_eq_true_eq, Bool.not_eq_true', decide_eq_false_iff_not, line_nil, line1, line2, if_true, if_false, ne_span_none]
          refine ⟨_, addD_ll (by rw [sizeLine_eq, List.length_singleton]; omega), ?_⟩
          refine fin _ (spanT A B I C E J) (ps ++ [spanT a b i c e j]) ⟨_, _, _, _, _, _, rfl, hV⟩ (fun x hx => ?_) (by rw [List.length_append, List.length_singleton]; omega)
          rcases List.mem_append.mp hx with hx | hx
          · exact g2 x hx
          · rw [List.mem_singleton.mp hx]
            exact ⟨_, _, _, _, _, _, rfl, hR, sb, se⟩
        | false =>
          rw [if_neg Bool.false_ne_true]
          refine hk4 [some .scr, some (.drw da db), some (.val (fr p n)), some (.val (spanT (0 - 200) 1 true 200 1 true)), some (.rdr p0 dx0 l0 C_R (spanT a b i c e j) (ps)), some (.val (spanT a b i c e j)), some (.val (.list (ps))), t7, some (.val (.int d)), some (.val (.str (ruS r))), some (.val (.int u)), some (.val (.str "none")), none, none] ?_
          clear hk4 k4
          refine seq_mk fun k4 hk4 => ?_
          simp only [dRet, dRetN, dSeq, dPar, dPar3, dCons, dNil, dCaB, dVar, dC, dCmpT, dCmp, dU, dB, dAndV, dOrV, dNotV, dAnd, dOr, dNot, dIf, dTup, dLst, dChain, dChainT, dTest, dIsi, dAsg, dDrop, dIfS, gN, gT, gs0, gs1, dAug, dNext, dRaise, dCall, dYes, topE, List.getElem?_cons_succ, List.getElem?_cons_zero, List.set_cons_zero, List.set_cons_succ, Option.some.injEq, S.val.injEq, exists_eq_left', exists_eq_left, exists_and_left, and_assoc, List.cons.injEq, and_true, true_and, PyData.int.injEq, PyData.bool.injEq, PyData.tuple.injEq, PyData.list.injEq, absD_i, maxD_i, addD_i, subD_i, negD_i, iaddD_i, mulD_e, fdivD_e, ifdivD_e, modD_e, leD_i, ltD_i, gtD_i, geD_i, lenD_t, lenD_l, isNd_n, notNd_n, isBd_b, notBd_b, isNonD_i, isNonD_n, isNonD_t, isNonD_l, eqD_int, neD_int, eqD_bool, neD_bool, eqD_fr, neD_fr, ix_fr0, ix_fr1, kit_int, kit_bool, kit_str, kit_tuple, decide_eq_true_eq, Bool.not_eq_true', decide_eq_false_iff_not, line_nil, line1, line2, if_true, if_false, dMethE, S.rdr.injEq]
          refine tell _ ?_
          rw [if_neg (by rw [hs]; exact Bool.false_ne_true)]
          simp only [dRet, dRetN, dSeq, dPar, dPar3, dCons, dNil, dCaB, dVar, dC, dCmpT, dCmp, dU, dB, dAndV, dOrV, dNotV, dAnd, dOr, dNot, dIf, dTup, dLst, dChain, dChainT, dTest, dIsi, dAsg, dDrop, dIfS, gN, gT, gs0, gs1, dAug, dNext, dRaise, dCall, dYes, topE, List.getElem?_cons_succ, List.getElem?_cons_zero, List.set_cons_zero, List.set_cons_succ, Option.some.injEq, S.val.injEq, exists_eq_left', exists_eq_left, exists_and_left, and_assoc, List.cons.injEq, and_true, true_and, PyData.int.injEq, PyData.bool.injEq, PyData.tuple.injEq, PyData.list.injEq, absD_i, maxD_i, addD_i, subD_i, negD_i, iaddD_i, mulD_e, fdivD_e, ifdivD_e, modD_e, leD_i, ltD_i, gtD_i, geD_i, lenD_t, lenD_l, isNd_n, notNd_n, isBd_b, notBd_b, isNonD_i, isNonD_n, isNonD_t, isNonD_l, eqD_int, neD_int, eqD_bool, neD_bool, eqD_fr, neD_fr, ix_fr0, ix_fr1, kit_int, kit_bool, kit_str, kit_tuple, decide_eq_true_eq, Bool.not_eq_true', decide_eq_false_iff_not, line_nil, line1, line2, if_true, if_false, S.rdr.injEq]
          refine ⟨_, ne_none, ?_⟩
          refine iteF (hk4 [some .scr, some (.drw da db), some (.val (fr p n)), some (.val (spanT (0 - 200) 1 true 200 1 true)), some (.rdr p0 dx0 l0 C_R (spanT a b i c e j) (ps)), some (.val (spanT a b i c e j)), some (.val (.list (ps))), t7, some (.val (.int d)), some (.val (.str (ruS r))), some (.val (.int u)), some (.val (.str "none")), none, none] ?_)
          clear hk4 k4
          simp only [dRet, dRetN, dSeq, dPar, dPar3, dCons, dNil, dCaB, dVar, dC, dCmpT, dCmp, dU, dB, dAndV, dOrV, dNotV, dAnd, dOr, dNot, dIf, dTup, dLst, dChain, dChainT, dTest, dIsi, dAsg, dDrop, dIfS, gN, gT, gs0, gs1, dAug, dNext, dRaise, dCall, dYes, topE, List.getElem?_cons_succ, List.getElem?_cons_zero, List.set_cons_zero, List.set_cons_succ, Option.some.injEq, S.val.injEq, exists_eq_left', exists_eq_left, exists_and_left, and_assoc, List.cons.injEq, and_true, true_and, PyData.int.injEq, PyData.bool.injEq, PyData.tuple.injEq, PyData.list.injEq, absD_i, maxD_i, addD_i, subD_i, negD_i, iaddD_i, mulD_e, fdivD_e, ifdivD_e, modD_e, leD_i, ltD_i, gtD_i, geD_i, lenD_t, lenD_l, isNd_n, notNd_n, isBd_b, notBd_b, isNonD_i, isNonD_n, isNonD_t, isNonD_l, eqD_int, neD_int, eqD_bool, neD_bool, eqD_fr, neD_fr, ix_fr0, ix_fr1, kit_int, kit_bool, kit_str, kit_tuple, decide_eq_true_eq, Bool.not_eq_true', decide_eq_false_iff_not, line_nil, line1, line2, if_true, if_false, ne_none]
          rw [if_neg Bool.false_ne_true]
          exact fin _ _ _ ⟨_, _, _, _, _, _, rfl, hR, sb, se⟩ g2 (by omega)
      · clear ht hu kt ku
        refine ifs_mk fun kt ku ht hu => ?_
        have sh := shaped_good g2
        have ep : eqD (.list ps) (.list []) = some (PyData.eqv (.list ps) (.list [])) := if_pos ⟨sh, by decide +kernel⟩
        simp only [dRet, dRetN, dSeq, dPar, dPar3, dCons, dNil, dCaB, dVar, dC, dCmpT, dCmp, dU, dB, dAndV, dOrV, dNotV, dAnd, dOr, dNot, dIf, dTup, dLst, dChain, dChainT, dTest, dIsi, dAsg, dDrop, dIfS, gN, gT, gs0, gs1, dAug, dNext, dRaise, dCall, dYes, topE, List.getElem?_cons_succ, List.getElem?_cons_zero, List.set_cons_zero, List.set_cons_succ, Option.some.injEq, S.val.injEq, exists_eq_left', exists_eq_left, exists_and_left, and_assoc, List.cons.injEq, and_true, true_and, PyData.int.injEq, PyData.bool.injEq, PyData.tuple.injEq, PyData.list.injEq, absD_i, maxD_i, addD_i, subD_i, negD_i, iaddD_i, mulD_e, fdivD_e, ifdivD_e, modD_e, leD_i, ltD_i, gtD_i, geD_i, lenD_t, lenD_l, isNd_n, notNd_n, isBd_b, notBd_b, isNonD_i, isNonD_n, isNonD_t, isNonD_l, eqD_int, neD_int, eqD_bool, neD_bool, eqD_fr, neD_fr, ix_fr0, ix_fr1, kit_int, kit_bool, kit_str, kit_tuple, decide_eq_true_eq, Bool.not_eq_true', decide_eq_false_iff_not, line_nil, line1, line2, if_true, if_false, ep]
        rcases List.eq_nil_or_concat ps with rfl | ⟨qs, x, hqs⟩
        · rw [show PyData.eqv (.list []) (.list []) = true by decide +kernel, if_pos rfl]
          refine ht _ ?_
          clear ht hu kt ku
          simp only [dRet, dRetN, dSeq, dPar, dPar3, dCons, dNil, dCaB, dVar, dC, dCmpT, dCmp, dU, dB, dAndV, dOrV, dNotV, dAnd, dOr, dNot, dIf, dTup, dLst, dChain, dChainT, dTest, dIsi, dAsg, dDrop, dIfS, gN, gT, gs0, gs1, dAug, dNext, dRaise, dCall, dYes, topE, List.getElem?_cons_succ, List.getElem?_cons_zero, List.set_cons_zero, List.set_cons_succ, Option.some.injEq, S.val.injEq, exists_eq_left', exists_eq_left, exists_and_left, and_assoc, List.cons.injEq, and_true, true_and, PyData.int.injEq, PyData.bool.injEq, PyData.tuple.injEq, PyData.list.injEq, absD_i, maxD_i, addD_i, subD_i, negD_i, iaddD_i, mulD_e, fdivD_e, ifdivD_e, modD_e, leD_i, ltD_i, gtD_i, geD_i, lenD_t, lenD_l, isNd_n, notNd_n, isBd_b, notBd_b, isNonD_i, isNonD_n, isNonD_t, isNonD_l, eqD_int, neD_int, eqD_bool, neD_bool, eqD_fr, neD_fr, ix_fr0, ix_fr1, kit_int, kit_bool, kit_str, kit_tuple, decide_eq_true_eq, Bool.not_eq_true', decide_eq_false_iff_not, line_nil, line1, line2, if_true, if_false, dMethE, S.rdr.injEq]
          refine c__law_call_undo sh (.inl ⟨rfl, ?_⟩)
          simp only [dRet, dRetN, dSeq, dPar, dPar3, dCons, dNil, dCaB, dVar, dC, dCmpT, dCmp, dU, dB, dAndV, dOrV, dNotV, dAnd, dOr, dNot, dIf, dTup, dLst, dChain, dChainT, dTest, dIsi, dAsg, dDrop, dIfS, gN, gT, gs0, gs1, dAug, dNext, dRaise, dCall, dYes, topE, List.getElem?_cons_succ, List.getElem?_cons_zero, List.set_cons_zero, List.set_cons_succ, Option.some.injEq, S.val.injEq, exists_eq_left', exists_eq_left, exists_and_left, and_assoc, List.cons.injEq, and_true, true_and, PyData.int.injEq, PyData.bool.injEq, PyData.tuple.injEq, PyData.list.injEq, absD_i, maxD_i, addD_i, subD_i, negD_i, iaddD_i, mulD_e, fdivD_e, ifdivD_e, modD_e, leD_i, ltD_i, gtD_i, geD_i, lenD_t, lenD_l, isNd_n, notNd_n, isBd_b, notBd_b, isNonD_i, isNonD_n, isNonD_t, isNonD_l, eqD_int, neD_int, eqD_bool, neD_bool, eqD_fr, neD_fr, ix_fr0, ix_fr1, kit_int, kit_bool, kit_str, kit_tuple, decide_eq_true_eq, Bool.not_eq_true', decide_eq_false_iff_not, line_nil, line1, line2, if_true, if_false, S.rdr.injEq]
          refine ⟨_, ne_none, ?_⟩
          exact iteF (fin _ _ _ ⟨_, _, _, _, _, _, rfl, hR, sb, se⟩ g2 (by omega))
        · rw [List.concat_eq_append] at hqs
          subst hqs
          have e1 : PyData.eqv (.list (qs ++ [x])) (.list []) = false := by cases qs <;> rfl
          rw [e1, if_neg Bool.false_ne_true]
          refine hu _ ?_
          clear ht hu kt ku ep
          obtain ⟨A, B, I, C, E, J, rfl, hV⟩ := g2 x (List.mem_append_right _ List.mem_cons_self)
          have il : ixD (.list (qs ++ [spanT A B I C E J])) (.int (-1)) = some (spanT A B I C E J) := L2.atI_last _ _
          refine seq_mk fun k4 hk4 => ?_
          simp only [dRet, dRetN, dSeq, dPar, dPar3, dCons, dNil, dCaB, dVar, dC, dCmpT, dCmp, dU, dB, dAndV, dOrV, dNotV, dAnd, dOr, dNot, dIf, dTup, dLst, dChain, dChainT, dTest, dIsi, dAsg, dDrop, dIfS, gN, gT, gs0, gs1, dAug, dNext, dRaise, dCall, dYes, topE, List.getElem?_cons_succ, List.getElem?_cons_zero, List.set_cons_zero, List.set_cons_succ, Option.some.injEq, S.val.injEq, exists_eq_left', exists_eq_left, exists_and_left, and_assoc, List.cons.injEq, and_true, true_and, PyData.int.injEq, PyData.bool.injEq, PyData.tuple.injEq, PyData.list.injEq, absD_i, maxD_i, addD_i, subD_i, negD_i, iaddD_i, mulD_e, fdivD_e, ifdivD_e, modD_e, leD_i, ltD_i, gtD_i, geD_i, lenD_t, lenD_l, isNd_n, notNd_n, isBd_b, notBd_b, isNonD_i, isNonD_n, isNonD_t, isNonD_l, eqD_int, neD_int, eqD_bool, neD_bool, eqD_fr, neD_fr, ix_fr0, ix_fr1, kit_int, kit_bool, kit_str, kit_tuple, decide_eq_true_eq, Bool.not_eq_true', decide_eq_false_iff_not, line_nil, line1, line2, if_true, if_false, il, dSlL, dO0, dO1]
          rw [cut_butlast]
          refine hk4 [some .scr, some (.drw da db), some (.val (fr p n)), some (.val (spanT (0 - 200) 1 true 200 1 true)), some (.rdr p0 dx0 l0 C_R (spanT a b i c e j) (qs ++ [spanT A B I C E J])), some (.val (spanT A B I C E J)), some (.val (.list qs)), t7, some (.val (.int d)), some (.val (.str (ruS r))), some (.val (.int u)), t11, none, none] ?_
          clear hk4 k4
          simp only [dRet, dRetN, dSeq, dPar, dPar3, dCons, dNil, dCaB, dVar, dC, dCmpT, dCmp, dU, dB, dAndV, dOrV, dNotV, dAnd, dOr, dNot, dIf, dTup, dLst, dChain, dChainT, dTest, dIsi, dAsg, dDrop, dIfS, gN, gT, gs0, gs1, dAug, dNext, dRaise, dCall, dYes, topE, List.getElem?_cons_succ, List.getElem?_cons_zero, List.set_cons_zero, List.set_cons_succ, Option.some.injEq, S.val.injEq, exists_eq_left', exists_eq_left, exists_and_left, and_assoc, List.cons.injEq, and_true, true_and, PyData.int.injEq, PyData.bool.injEq, PyData.tuple.injEq, PyData.list.injEq, absD_i, maxD_i, addD_i, subD_i, negD_i, iaddD_i, mulD_e, fdivD_e, ifdivD_e, modD_e, leD_i, ltD_i, gtD_i, geD_i, lenD_t, lenD_l, isNd_n, notNd_n, isBd_b, notBd_b, isNonD_i, isNonD_n, isNonD_t, isNonD_l, eqD_int, neD_int, eqD_bool, neD_bool, eqD_fr, neD_fr, ix_fr0, ix_fr1, kit_int, kit_bool, kit_str, kit_tuple, decide_eq_true_eq, Bool.not_eq_true', decide_eq_false_iff_not, line_nil, line1, line2, if_true, if_false, dMethE, S.rdr.injEq]
          refine c__law_call_undo sh (.inr ⟨qs, _, rfl, ?_⟩)
          simp only [dRet, dRetN, dSeq, dPar, dPar3, dCons, dNil, dCaB, dVar, dC, dCmpT, dCmp, dU, dB, dAndV, dOrV, dNotV, dAnd, dOr, dNot, dIf, dTup, dLst, dChain, dChainT, dTest, dIsi, dAsg, dDrop, dIfS, gN, gT, gs0, gs1, dAug, dNext, dRaise, dCall, dYes, topE, List.getElem?_cons_succ, List.getElem?_cons_zero, List.set_cons_zero, List.set_cons_succ, Option.some.injEq, S.val.injEq, exists_eq_left', exists_eq_left, exists_and_left, and_assoc, List.cons.injEq, and_true, true_and, PyData.int.injEq, PyData.bool.injEq, PyData.tuple.injEq, PyData.list.injEq, absD_i, maxD_i, addD_i, subD_i, negD_i, iaddD_i, mulD_e, fdivD_e, ifdivD_e, modD_e, leD_i, ltD_i, gtD_i, geD_i, lenD_t, lenD_l, isNd_n, notNd_n, isBd_b, notBd_b, isNonD_i, isNonD_n, isNonD_t, isNonD_l, eqD_int, neD_int, eqD_bool, neD_bool, eqD_fr, neD_fr, ix_fr0, ix_fr1, kit_int, kit_bool, kit_str, kit_tuple, decide_eq_true_eq, Bool.not_eq_true', decide_eq_false_iff_not, line_nil, line1, line2, if_true, if_false, S.rdr.injEq]
          refine ⟨_, neD_span .., ?_⟩
          rw [decide_eq_true ⟨rfl, rfl, rfl, rfl, rfl, rfl⟩]
          exact iteF (fin _ _ _ ⟨_, _, _, _, _, _, rfl, hV⟩ (fun y hy => g2 y (List.mem_append_left _ hy)) (by rw [List.length_append] at g3; omega)))
    clear hk3
    simp only [dRet, dRetN, dSeq, dPar, dPar3, dCons, dNil, dCaB, dVar, dC, dCmpT, dCmp, dU, dB, dAndV, dOrV, dNotV, dAnd, dOr, dNot, dIf, dTup, dLst, dChain, dChainT, dTest, dIsi, dAsg, dDrop, dIfS, gN, gT, gs0, gs1, dAug, dNext, dRaise, dCall, dYes, topE, List.getElem?_cons_succ, List.getElem?_cons_zero, List.set_cons_zero, List.set_cons_succ, Option.some.injEq, S.val.injEq, exists_eq_left', exists_eq_left, exists_and_left, and_assoc, List.cons.injEq, and_true, true_and, PyData.int.injEq, PyData.bool.injEq, PyData.tuple.injEq, PyData.list.injEq, absD_i, maxD_i, addD_i, subD_i, negD_i, iaddD_i, mulD_e, fdivD_e, ifdivD_e, modD_e, leD_i, ltD_i, gtD_i, geD_i, lenD_t, lenD_l, isNd_n, notNd_n, isBd_b, notBd_b, isNonD_i, isNonD_n, isNonD_t, isNonD_l, eqD_int, neD_int, eqD_bool, neD_bool, eqD_fr, neD_fr, ix_fr0, ix_fr1, kit_int, kit_bool, kit_str, kit_tuple, decide_eq_true_eq, Bool.not_eq_true', decide_eq_false_iff_not, line_nil, line1, line2, if_true, if_false, dCallW, S.drw.injEq, c__law_draw_e, c__law_units_e]
    refine ⟨hn, by omega, d0, by omega, by decide, by decide, fun r0 _ _ => ite2 (fun _ => ?_) (fun _ => ?_)⟩
    · exact fin _ (by omega) (by omega)
    · exact fin _ (by omega) (by omega)
  · skip
    obtain ⟨t7, t8, t9, t10, t11, p0, dx0, l0, nw, ps, rfl, g1, g2, g3⟩ := h
    refine hk _ ?_
    clear hk k'

    obtain ⟨a, b, i, c, e, j, rfl, hR, sb, se⟩ := g1
    obtain ⟨_, _, _, _, _, _, er, ⟨b0, ga⟩, ⟨e0, gc⟩, ord, lo, hi⟩ := rangeB_inv hR
    simp [spanT] at er
    obtain ⟨⟨rfl, rfl⟩, rfl, ⟨rfl, rfl⟩, rfl⟩ := er

    refine seq_mk fun k hk => ?_
    simp only [dRet, dRetN, dSeq, dPar, dPar3, dCons, dNil, dCaB, dVar, dC, dCmpT, dCmp, dU, dB, dAndV, dOrV, dNotV, dAnd, dOr, dNot, dIf, dTup, dLst, dChain, dChainT, dTest, dIsi, dAsg, dDrop, dIfS, gN, gT, gs0, gs1, dAug, dNext, dRaise, dCall, dYes, topE, List.getElem?_cons_succ, List.getElem?_cons_zero, List.set_cons_zero, List.set_cons_succ, Option.some.injEq, S.val.injEq, exists_eq_left', exists_eq_left, exists_and_left, and_assoc, List.cons.injEq, and_true, true_and, PyData.int.injEq, PyData.bool.injEq, PyData.tuple.injEq, PyData.list.injEq, absD_i, maxD_i, addD_i, subD_i, negD_i, iaddD_i, mulD_e, fdivD_e, ifdivD_e, modD_e, leD_i, ltD_i, gtD_i, geD_i, lenD_t, lenD_l, isNd_n, notNd_n, isBd_b, notBd_b, isNonD_i, isNonD_n, isNonD_t, isNonD_l, eqD_int, neD_int, eqD_bool, neD_bool, eqD_fr, neD_fr, ix_fr0, ix_fr1, kit_int, kit_bool, kit_str, kit_tuple, decide_eq_true_eq, Bool.not_eq_true', decide_eq_false_iff_not, line_nil, line1, line2, if_true, if_false, dMethR, S.rdr.injEq]
    refine c_Reader_shortest_ok ⟨b0, sb⟩ ⟨e0, se⟩ ?_
    simp only [dRet, dRetN, dSeq, dPar, dPar3, dCons, dNil, dCaB, dVar, dC, dCmpT, dCmp, dU, dB, dAndV, dOrV, dNotV, dAnd, dOr, dNot, dIf, dTup, dLst, dChain, dChainT, dTest, dIsi, dAsg, dDrop, dIfS, gN, gT, gs0, gs1, dAug, dNext, dRaise, dCall, dYes, topE, List.getElem?_cons_succ, List.getElem?_cons_zero, List.set_cons_zero, List.set_cons_succ, Option.some.injEq, S.val.injEq, exists_eq_left', exists_eq_left, exists_and_left, and_assoc, List.cons.injEq, and_true, true_and, PyData.int.injEq, PyData.bool.injEq, PyData.tuple.injEq, PyData.list.injEq, absD_i, maxD_i, addD_i, subD_i, negD_i, iaddD_i, mulD_e, fdivD_e, ifdivD_e, modD_e, leD_i, ltD_i, gtD_i, geD_i, lenD_t, lenD_l, isNd_n, notNd_n, isBd_b, notBd_b, isNonD_i, isNonD_n, isNonD_t, isNonD_l, eqD_int, neD_int, eqD_bool, neD_bool, eqD_fr, neD_fr, ix_fr0, ix_fr1, kit_int, kit_bool, kit_str, kit_tuple, decide_eq_true_eq, Bool.not_eq_true', decide_eq_false_iff_not, line_nil, line1, line2, if_true, if_false, S.rdr.injEq]
    refine c_Reader_simplest_ok ⟨b0, sb⟩ ⟨e0, se⟩ ?_
    simp only [dRet, dRetN, dSeq, dPar, dPar3, dCons, dNil, dCaB, dVar, dC, dCmpT, dCmp, dU, dB, dAndV, dOrV, dNotV, dAnd, dOr, dNot, dIf, dTup, dLst, dChain, dChainT, dTest, dIsi, dAsg, dDrop, dIfS, gN, gT, gs0, gs1, dAug, dNext, dRaise, dCall, dYes, topE, List.getElem?_cons_succ, List.getElem?_cons_zero, List.set_cons_zero, List.set_cons_succ, Option.some.injEq, S.val.injEq, exists_eq_left', exists_eq_left, exists_and_left, and_assoc, List.cons.injEq, and_true, true_and, PyData.int.injEq, PyData.bool.injEq, PyData.tuple.injEq, PyData.list.injEq, absD_i, maxD_i, addD_i, subD_i, negD_i, iaddD_i, mulD_e, fdivD_e, ifdivD_e, modD_e, leD_i, ltD_i, gtD_i, geD_i, lenD_t, lenD_l, isNd_n, notNd_n, isBd_b, notBd_b, isNonD_i, isNonD_n, isNonD_t, isNonD_l, eqD_int, neD_int, eqD_bool, neD_bool, eqD_fr, neD_fr, ix_fr0, ix_fr1, kit_int, kit_bool, kit_str, kit_tuple, decide_eq_true_eq, Bool.not_eq_true', decide_eq_false_iff_not, line_nil, line1, line2, if_true, if_false, S.rdr.injEq]
    refine hk [some .scr, some (.drw da db), some (.val (fr p n)), some (.val (spanT (0 - 200) 1 true 200 1 true)), some (.rdr p0 dx0 l0 C_R (spanT a b i c e j) (ps)), some (.val (spanT a b i c e j)), some (.val (.list (ps))), t7, t8, t9, t10, t11, some (.val ((match lsK a b i c e j with | none => .none | some k => fr (tpF a b i (powT k)) k))), some (.val ((match smK a b i c e j with | none => .none | some k => lowF (tpF a b i k) k)))] ?_
    clear hk k
    refine seq_mk fun k hk => ?_
    have fin : k [some .scr, some (.drw da db), some (.val (fr p n)), some (.val (spanT (0 - 200) 1 true 200 1 true)), some (.rdr p0 dx0 l0 C_R (spanT a b i c e j) (ps)), some (.val (spanT a b i c e j)), some (.val (.list (ps))), t7, t8, t9, t10, t11, some (.val ((match lsK a b i c e j with | none => .none | some k => fr (tpF a b i (powT k)) k))), some (.val ((match smK a b i c e j with | none => .none | some k => lowF (tpF a b i k) k)))] := hk _ (by
      clear hk k
      have least : ∀ m, smK a b i c e j = some m → lowN (tpF a b i m) m = tpF a b i m ∧ lowU (tpF a b i m) m = m := fun m hm => by
        have q := (fstK_some _ _ hm).1
        exact low_id' (least_low b0 e0 hm (by rw [in_tops b0 e0]; exact decide_eq_true ⟨Int.le_refl _, of_decide_eq_true q⟩))
      refine seq_mk fun k hk => ?_
      have fin : k [some .scr, some (.drw da db), some (.val (fr p n)), some (.val (spanT (0 - 200) 1 true 200 1 true)), some (.rdr p0 dx0 l0 C_R (spanT a b i c e j) (ps)), some (.val (spanT a b i c e j)), some (.val (.list (ps))), t7, t8, t9, t10, t11, some (.val ((match lsK a b i c e j with | none => .none | some k => fr (tpF a b i (powT k)) k))), some (.val ((match smK a b i c e j with | none => .none | some k => lowF (tpF a b i k) k)))] := hk _ (by
        clear hk k
        simp only [dRet, dRetN, dSeq, dPar, dPar3, dCons, dNil, dCaB, dVar, dC, dCmpT, dCmp, dU, dB, dAndV, dOrV, dNotV, dAnd, dOr, dNot, dIf, dTup, dLst, dChain, dChainT, dTest, dIsi, dAsg, dDrop, dIfS, gN, gT, gs0, gs1, dAug, dNext, dRaise, dCall, dYes, topE, List.getElem?_cons_succ, List.getElem?_cons_zero, List.set_cons_zero, List.set_cons_succ, Option.some.injEq, S.val.injEq, exists_eq_left', exists_eq_left, exists_and_left, and_assoc, List.cons.injEq, and_true, true_and, PyData.int.injEq, PyData.bool.injEq, PyData.tuple.injEq, PyData.list.injEq, absD_i, maxD_i, addD_i, subD_i, negD_i, iaddD_i, mulD_e, fdivD_e, ifdivD_e, modD_e, leD_i, ltD_i, gtD_i, geD_i, lenD_t, lenD_l, isNd_n, notNd_n, isBd_b, notBd_b, isNonD_i, isNonD_n, isNonD_t, isNonD_l, eqD_int, neD_int, eqD_bool, neD_bool, eqD_fr, neD_fr, ix_fr0, ix_fr1, kit_int, kit_bool, kit_str, kit_tuple, decide_eq_true_eq, Bool.not_eq_true', decide_eq_false_iff_not, line_nil, line1, line2, if_true, if_false]
        cases hS : smK a b i c e j with
        | none =>
          simp only [dRet, dRetN, dSeq, dPar, dPar3, dCons, dNil, dCaB, dVar, dC, dCmpT, dCmp, dU, dB, dAndV, dOrV, dNotV, dAnd, dOr, dNot, dIf, dTup, dLst, dChain, dChainT, dTest, dIsi, dAsg, dDrop, dIfS, gN, gT, gs0, gs1, dAug, dNext, dRaise, dCall, dYes, topE, List.getElem?_cons_succ, List.getElem?_cons_zero, List.set_cons_zero, List.set_cons_succ, Option.some.injEq, S.val.injEq, exists_eq_left', exists_eq_left, exists_and_left, and_assoc, List.cons.injEq, and_true, true_and, PyData.int.injEq, PyData.bool.injEq, PyData.tuple.injEq, PyData.list.injEq, absD_i, maxD_i, addD_i, subD_i, negD_i, iaddD_i, mulD_e, fdivD_e, ifdivD_e, modD_e, leD_i, ltD_i, gtD_i, geD_i, lenD_t, lenD_l, isNd_n, notNd_n, isBd_b, notBd_b, isNonD_i, isNonD_n, isNonD_t, isNonD_l, eqD_int, neD_int, eqD_bool, neD_bool, eqD_fr, neD_fr, ix_fr0, ix_fr1, kit_int, kit_bool, kit_str, kit_tuple, decide_eq_true_eq, Bool.not_eq_true', decide_eq_false_iff_not, line_nil, line1, line2, if_true, if_false]
          rfl
        | some m =>
          obtain ⟨l1, l2⟩ := least m hS
          simp only [dRet, dRetN, dSeq, dPar, dPar3, dCons, dNil, dCaB, dVar, dC, dCmpT, dCmp, dU, dB, dAndV, dOrV, dNotV, dAnd, dOr, dNot, dIf, dTup, dLst, dChain, dChainT, dTest, dIsi, dAsg, dDrop, dIfS, gN, gT, gs0, gs1, dAug, dNext, dRaise, dCall, dYes, topE, List.getElem?_cons_succ, List.getElem?_cons_zero, List.set_cons_zero, List.set_cons_succ, Option.some.injEq, S.val.injEq, exists_eq_left', exists_eq_left, exists_and_left, and_assoc, List.cons.injEq, and_true, true_and, PyData.int.injEq, PyData.bool.injEq, PyData.tuple.injEq, PyData.list.injEq, absD_i, maxD_i, addD_i, subD_i, negD_i, iaddD_i, mulD_e, fdivD_e, ifdivD_e, modD_e, leD_i, ltD_i, gtD_i, geD_i, lenD_t, lenD_l, isNd_n, notNd_n, isBd_b, notBd_b, isNonD_i, isNonD_n, isNonD_t, isNonD_l, eqD_int, neD_int, eqD_bool, neD_bool, eqD_fr, neD_fr, ix_fr0, ix_fr1, kit_int, kit_bool, kit_str, kit_tuple, decide_eq_true_eq, Bool.not_eq_true', decide_eq_false_iff_not, line_nil, line1, line2, if_true, if_false, lowF_def, l1, l2, Bool.false_eq_true]
          refine c_simplest_ok hR sb se ?_
          rw [hS]
          simp only [dRet, dRetN, dSeq, dPar, dPar3, dCons, dNil, dCaB, dVar, dC, dCmpT, dCmp, dU, dB, dAndV, dOrV, dNotV, dAnd, dOr, dNot, dIf, dTup, dLst, dChain, dChainT, dTest, dIsi, dAsg, dDrop, dIfS, gN, gT, gs0, gs1, dAug, dNext, dRaise, dCall, dYes, topE, List.getElem?_cons_succ, List.getElem?_cons_zero, List.set_cons_zero, List.set_cons_succ, Option.some.injEq, S.val.injEq, exists_eq_left', exists_eq_left, exists_and_left, and_assoc, List.cons.injEq, and_true, true_and, PyData.int.injEq, PyData.bool.injEq, PyData.tuple.injEq, PyData.list.injEq, absD_i, maxD_i, addD_i, subD_i, negD_i, iaddD_i, mulD_e, fdivD_e, ifdivD_e, modD_e, leD_i, ltD_i, gtD_i, geD_i, lenD_t, lenD_l, isNd_n, notNd_n, isBd_b, notBd_b, isNonD_i, isNonD_n, isNonD_t, isNonD_l, eqD_int, neD_int, eqD_bool, neD_bool, eqD_fr, neD_fr, ix_fr0, ix_fr1, kit_int, kit_bool, kit_str, kit_tuple, decide_eq_true_eq, Bool.not_eq_true', decide_eq_false_iff_not, line_nil, line1, line2, if_true, if_false, lowF_def, l1, l2]
          rfl)
      clear hk
      simp only [dRet, dRetN, dSeq, dPar, dPar3, dCons, dNil, dCaB, dVar, dC, dCmpT, dCmp, dU, dB, dAndV, dOrV, dNotV, dAnd, dOr, dNot, dIf, dTup, dLst, dChain, dChainT, dTest, dIsi, dAsg, dDrop, dIfS, gN, gT, gs0, gs1, dAug, dNext, dRaise, dCall, dYes, topE, List.getElem?_cons_succ, List.getElem?_cons_zero, List.set_cons_zero, List.set_cons_succ, Option.some.injEq, S.val.injEq, exists_eq_left', exists_eq_left, exists_and_left, and_assoc, List.cons.injEq, and_true, true_and, PyData.int.injEq, PyData.bool.injEq, PyData.tuple.injEq, PyData.list.injEq, absD_i, maxD_i, addD_i, subD_i, negD_i, iaddD_i, mulD_e, fdivD_e, ifdivD_e, modD_e, leD_i, ltD_i, gtD_i, geD_i, lenD_t, lenD_l, isNd_n, notNd_n, isBd_b, notBd_b, isNonD_i, isNonD_n, isNonD_t, isNonD_l, eqD_int, neD_int, eqD_bool, neD_bool, eqD_fr, neD_fr, ix_fr0, ix_fr1, kit_int, kit_bool, kit_str, kit_tuple, decide_eq_true_eq, Bool.not_eq_true', decide_eq_false_iff_not, line_nil, line1, line2, if_true, if_false, c__law_within_e]
      refine ⟨b0, sb, e0, se, hn, by omega, ?_⟩
      have ew : lawW a b i c e j p n = inB a b i c e j p n := by
        have h1 := law_in (a := a) (b := b) (i := i) (c := c) (d := e) (j := j) (p := p) (n := n) b0 e0 hn v5 (ord_le ord)
        rw [(low_id' ga).1, (low_id' ga).2, (low_id' gc).1, (low_id' gc).2] at h1
        exact h1
      rw [ew]
      cases hin : inB a b i c e j p n with
      | false =>
        simp only [Bool.false_eq_true, if_false]
        exact fin
      | true =>
        simp only [if_true]
        obtain ⟨nn, hnn⟩ : ∃ nn : Nat, n = nn := ⟨n.toNat, by omega⟩
        have hin2 := hin
        rw [hnn] at hin2
        obtain ⟨m, m1, m2⟩ := fstK_le (f := smB a b i c e j) 1000 1 nn (smB_in b0 e0 hin2) (by omega) (by omega)
        have m2 : smK a b i c e j = some m := m2
        obtain ⟨l1, l2⟩ := least m m2
        have hno : lsK a b i c e j = none → ¬ n ∈ ([1, 2, 4, 5] : List Int) := fun hl hm => by
          have := few_digits b0 e0 hin hm
          rw [hl] at this
          cases this
        have itn : inTi (.int n) (.tuple [.int 1, .int 2, .int 4, .int 5]) = some (decide (n ∈ ([1, 2, 4, 5] : List Int))) := rfl
        cases hL : lsK a b i c e j with
        | none =>
          rw [hL] at fin
          rw [m2] at fin ⊢
          simp only [dRet, dRetN, dSeq, dPar, dPar3, dCons, dNil, dCaB, dVar, dC, dCmpT, dCmp, dU, dB, dAndV, dOrV, dNotV, dAnd, dOr, dNot, dIf, dTup, dLst, dChain, dChainT, dTest, dIsi, dAsg, dDrop, dIfS, gN, gT, gs0, gs1, dAug, dNext, dRaise, dCall, dYes, topE, List.getElem?_cons_succ, List.getElem?_cons_zero, List.set_cons_zero, List.set_cons_succ, Option.some.injEq, S.val.injEq, exists_eq_left', exists_eq_left, exists_and_left, and_assoc, List.cons.injEq, and_true, true_and, PyData.int.injEq, PyData.bool.injEq, PyData.tuple.injEq, PyData.list.injEq, absD_i, maxD_i, addD_i, subD_i, negD_i, iaddD_i, mulD_e, fdivD_e, ifdivD_e, modD_e, leD_i, ltD_i, gtD_i, geD_i, lenD_t, lenD_l, isNd_n, notNd_n, isBd_b, notBd_b, isNonD_i, isNonD_n, isNonD_t, isNonD_l, eqD_int, neD_int, eqD_bool, neD_bool, eqD_fr, neD_fr, ix_fr0, ix_fr1, kit_int, kit_bool, kit_str, kit_tuple, decide_eq_true_eq, Bool.not_eq_true', decide_eq_false_iff_not, line_nil, line1, line2, if_true, if_false, itn, lowF_def, l1, l2, List.length_cons, List.length_nil, sizeLine_eq, Nat.reduceAdd, Nat.reduceLeDiff, Nat.zero_add]
          rw [if_neg (hno hL)]
          simp only [Bool.false_eq_true, if_false]
          rw [if_neg (by omega)]
          simp only [lowF_def, l1, l2] at fin
          exact fin
        | some kk =>
          rw [hL] at fin
          rw [m2] at fin ⊢
          simp only [dRet, dRetN, dSeq, dPar, dPar3, dCons, dNil, dCaB, dVar, dC, dCmpT, dCmp, dU, dB, dAndV, dOrV, dNotV, dAnd, dOr, dNot, dIf, dTup, dLst, dChain, dChainT, dTest, dIsi, dAsg, dDrop, dIfS, gN, gT, gs0, gs1, dAug, dNext, dRaise, dCall, dYes, topE, List.getElem?_cons_succ, List.getElem?_cons_zero, List.set_cons_zero, List.set_cons_succ, Option.some.injEq, S.val.injEq, exists_eq_left', exists_eq_left, exists_and_left, and_assoc, List.cons.injEq, and_true, true_and, PyData.int.injEq, PyData.bool.injEq, PyData.tuple.injEq, PyData.list.injEq, absD_i, maxD_i, addD_i, subD_i, negD_i, iaddD_i, mulD_e, fdivD_e, ifdivD_e, modD_e, leD_i, ltD_i, gtD_i, geD_i, lenD_t, lenD_l, isNd_n, notNd_n, isBd_b, notBd_b, isNonD_i, isNonD_n, isNonD_t, isNonD_l, eqD_int, neD_int, eqD_bool, neD_bool, eqD_fr, neD_fr, ix_fr0, ix_fr1, kit_int, kit_bool, kit_str, kit_tuple, decide_eq_true_eq, Bool.not_eq_true', decide_eq_false_iff_not, line_nil, line1, line2, if_true, if_false, itn, lowF_def, l1, l2, Bool.false_eq_true]
          rw [if_neg (by omega)]
          simp only [lowF_def, l1, l2] at fin
          exact fin)
    clear hk
    cases hL : lsK a b i c e j with
    | none =>
      rw [hL] at fin
      simp only [dRet, dRetN, dSeq, dPar, dPar3, dCons, dNil, dCaB, dVar, dC, dCmpT, dCmp, dU, dB, dAndV, dOrV, dNotV, dAnd, dOr, dNot, dIf, dTup, dLst, dChain, dChainT, dTest, dIsi, dAsg, dDrop, dIfS, gN, gT, gs0, gs1, dAug, dNext, dRaise, dCall, dYes, topE, List.getElem?_cons_succ, List.getElem?_cons_zero, List.set_cons_zero, List.set_cons_succ, Option.some.injEq, S.val.injEq, exists_eq_left', exists_eq_left, exists_and_left, and_assoc, List.cons.injEq, and_true, true_and, PyData.int.injEq, PyData.bool.injEq, PyData.tuple.injEq, PyData.list.injEq, absD_i, maxD_i, addD_i, subD_i, negD_i, iaddD_i, mulD_e, fdivD_e, ifdivD_e, modD_e, leD_i, ltD_i, gtD_i, geD_i, lenD_t, lenD_l, isNd_n, notNd_n, isBd_b, notBd_b, isNonD_i, isNonD_n, isNonD_t, isNonD_l, eqD_int, neD_int, eqD_bool, neD_bool, eqD_fr, neD_fr, ix_fr0, ix_fr1, kit_int, kit_bool, kit_str, kit_tuple, decide_eq_true_eq, Bool.not_eq_true', decide_eq_false_iff_not, line_nil, line1, line2, if_true, if_false, Bool.not_true, Bool.false_eq_true]
      exact fin
    | some kk =>
      rw [hL] at fin
      have q5 : tpF a b i (powT kk) ≤ tpL c e j (powT kk) := of_decide_eq_true (fstK_some _ _ hL).1
      have is0 : ∀ x y : PyData, ixD (.tuple [x, y]) (.int 0) = some x := fun _ _ => rfl
      have is1 : ∀ x y : PyData, ixD (.tuple [x, y]) (.int 1) = some y := fun _ _ => rfl
      simp only [dRet, dRetN, dSeq, dPar, dPar3, dCons, dNil, dCaB, dVar, dC, dCmpT, dCmp, dU, dB, dAndV, dOrV, dNotV, dAnd, dOr, dNot, dIf, dTup, dLst, dChain, dChainT, dTest, dIsi, dAsg, dDrop, dIfS, gN, gT, gs0, gs1, dAug, dNext, dRaise, dCall, dYes, topE, List.getElem?_cons_succ, List.getElem?_cons_zero, List.set_cons_zero, List.set_cons_succ, Option.some.injEq, S.val.injEq, exists_eq_left', exists_eq_left, exists_and_left, and_assoc, List.cons.injEq, and_true, true_and, PyData.int.injEq, PyData.bool.injEq, PyData.tuple.injEq, PyData.list.injEq, absD_i, maxD_i, addD_i, subD_i, negD_i, iaddD_i, mulD_e, fdivD_e, ifdivD_e, modD_e, leD_i, ltD_i, gtD_i, geD_i, lenD_t, lenD_l, isNd_n, notNd_n, isBd_b, notBd_b, isNonD_i, isNonD_n, isNonD_t, isNonD_l, eqD_int, neD_int, eqD_bool, neD_bool, eqD_fr, neD_fr, ix_fr0, ix_fr1, kit_int, kit_bool, kit_str, kit_tuple, decide_eq_true_eq, Bool.not_eq_true', decide_eq_false_iff_not, line_nil, line1, line2, if_true, if_false, Bool.not_false]
      refine c_shortest_ok hR sb se ?_
      rw [hL]
      simp only [dRet, dRetN, dSeq, dPar, dPar3, dCons, dNil, dCaB, dVar, dC, dCmpT, dCmp, dU, dB, dAndV, dOrV, dNotV, dAnd, dOr, dNot, dIf, dTup, dLst, dChain, dChainT, dTest, dIsi, dAsg, dDrop, dIfS, gN, gT, gs0, gs1, dAug, dNext, dRaise, dCall, dYes, topE, List.getElem?_cons_succ, List.getElem?_cons_zero, List.set_cons_zero, List.set_cons_succ, Option.some.injEq, S.val.injEq, exists_eq_left', exists_eq_left, exists_and_left, and_assoc, List.cons.injEq, and_true, true_and, PyData.int.injEq, PyData.bool.injEq, PyData.tuple.injEq, PyData.list.injEq, absD_i, maxD_i, addD_i, subD_i, negD_i, iaddD_i, mulD_e, fdivD_e, ifdivD_e, modD_e, leD_i, ltD_i, gtD_i, geD_i, lenD_t, lenD_l, isNd_n, notNd_n, isBd_b, notBd_b, isNonD_i, isNonD_n, isNonD_t, isNonD_l, eqD_int, neD_int, eqD_bool, neD_bool, eqD_fr, neD_fr, ix_fr0, ix_fr1, kit_int, kit_bool, kit_str, kit_tuple, decide_eq_true_eq, Bool.not_eq_true', decide_eq_false_iff_not, line_nil, line1, line2, if_true, if_false, is0, is1, dec_first q5]
      refine c_shortest_ok hR sb se ?_
      rw [hL]
      simp only [dRet, dRetN, dSeq, dPar, dPar3, dCons, dNil, dCaB, dVar, dC, dCmpT, dCmp, dU, dB, dAndV, dOrV, dNotV, dAnd, dOr, dNot, dIf, dTup, dLst, dChain, dChainT, dTest, dIsi, dAsg, dDrop, dIfS, gN, gT, gs0, gs1, dAug, dNext, dRaise, dCall, dYes, topE, List.getElem?_cons_succ, List.getElem?_cons_zero, List.set_cons_zero, List.set_cons_succ, Option.some.injEq, S.val.injEq, exists_eq_left', exists_eq_left, exists_and_left, and_assoc, List.cons.injEq, and_true, true_and, PyData.int.injEq, PyData.bool.injEq, PyData.tuple.injEq, PyData.list.injEq, absD_i, maxD_i, addD_i, subD_i, negD_i, iaddD_i, mulD_e, fdivD_e, ifdivD_e, modD_e, leD_i, ltD_i, gtD_i, geD_i, lenD_t, lenD_l, isNd_n, notNd_n, isBd_b, notBd_b, isNonD_i, isNonD_n, isNonD_t, isNonD_l, eqD_int, neD_int, eqD_bool, neD_bool, eqD_fr, neD_fr, ix_fr0, ix_fr1, kit_int, kit_bool, kit_str, kit_tuple, decide_eq_true_eq, Bool.not_eq_true', decide_eq_false_iff_not, line_nil, line1, line2, if_true, if_false, is0, is1, List.length_cons, List.length_nil, sizeLine_eq, Nat.reduceAdd, Nat.reduceLeDiff, Nat.zero_add]
      exact fin
end

def caOf (a b c d e f : Addr) : Er → Addr
  | .frac => a
  | .rng => b
  | .rul => c
  | .num => d
  | .txt => e
  | .nof => f
theorem d_rules {K : PySem.W.Frag} {a : Addr} {od : Option Addr} {n : Nat} {sl : Array (Option Value)} {t1 t2 t3 t4 t5 t6 t7 : Tok}
    (lk : K.lookup a = some ⟨.type "tuple", od, .seq #[.str "down" t1, .str "up" t2, .str "zero" t3, .str "near-up" t4, .str "near-zero" t5, .str "near-away" t6, .str "near-even" t7] n, sl⟩) (H : Hp) : Dv K H (.ref a) (.tuple rulesD) := by
  have hs : SqT K H a [.str "down", .str "up", .str "zero", .str "near-up", .str "near-zero", .str "near-away", .str "near-even"] :=
    .inr ⟨_, _, _, lk, rfl, rfl, by rw [sizeLine_eq]; exact (by decide : 7 ≤ 16777216), .cons ⟨_, rfl⟩ (.cons ⟨_, rfl⟩ (.cons ⟨_, rfl⟩ (.cons ⟨_, rfl⟩ (.cons ⟨_, rfl⟩ (.cons ⟨_, rfl⟩ (.cons ⟨_, rfl⟩ .nil))))))⟩
  exact Dv.tup' hs (.cons (.str _) (.cons (.str _) (.cons (.str _) (.cons (.str _) (.cons (.str _) (.cons (.str _) (.cons (.str _) .nil)))))))
theorem no_cx {P : Program} {w : World} (H : Hp) (s : Shared) (e : Value) (s' : Shared) (h : L2.CX P w [] H s (fun _ _ _ => False) e s') : False := by
  obtain ⟨_, _, _, _, _, _, _, _, _, _, _, _, z⟩ := h
  exact z.elim

theorem all_mk {l : PySem.W.OpenLaw} {w : World} {K : PySem.W.Frag} {h : Heap} {mg : Str → Option Value} {fa : Addr} (X : K.In h) (G : h.Ns mainGlobals mg) (hfa : mg "law" = some (.ref fa))
    {C_R : Addr}
    (ra : PySem.W.nsIn K mainGlobals "Reader" = some (some (.ref C_R)))
    (rg : PySem.W.plainGet K C_R Str.empty = true)
    (rh : PySem.W.hasDictIn K C_R = true)
    (ro : PySem.W.plainOver K C_R = true)
    (rs : PySem.W.findIn K (.ref C_R) "__setattr__" = some (some (.builtin "object.__setattr__")))
    (rm : PySem.W.makesIn K C_R = true)
    (rk : PySem.W.keepIn K (.ref C_R) = true)
    (rn : PySem.W.findIn K (.ref C_R) "now" = some none)
    (rp : PySem.W.findIn K (.ref C_R) "past" = some none)
    {f__law_start : Addr} {od__law_start an__law_start : Option Addr} {sl__law_start : Array (Option Value)} {oc__law_start kV__law_start dc__law_start pm__law_start cd__law_start ct__law_start : Value}
    (a__law_start : PySem.W.nsIn K mainGlobals "_law_start" = some (some (.ref f__law_start)))
    (l__law_start : K.lookup f__law_start = some ⟨oc__law_start, od__law_start, .func (PySem.W.fnOf "_law_start" "_law_start" (defArgs s__law_start) (defBody s__law_start) (defScope s__law_start) .none kV__law_start dc__law_start pm__law_start an__law_start cd__law_start ct__law_start), sl__law_start⟩)
    (y__law_start : PySem.W.codeIn K cd__law_start "_law_start" = true)
    (k__law_start : PySem.W.keepIn K (.ref f__law_start) = true)
    {f__law_draw : Addr} {od__law_draw an__law_draw : Option Addr} {sl__law_draw : Array (Option Value)} {oc__law_draw kV__law_draw dc__law_draw pm__law_draw cd__law_draw ct__law_draw : Value}
    (a__law_draw : PySem.W.nsIn K mainGlobals "_law_draw" = some (some (.ref f__law_draw)))
    (l__law_draw : K.lookup f__law_draw = some ⟨oc__law_draw, od__law_draw, .func (PySem.W.fnOf "_law_draw" "_law_draw" (defArgs s__law_draw) (defBody s__law_draw) (defScope s__law_draw) .none kV__law_draw dc__law_draw pm__law_draw an__law_draw cd__law_draw ct__law_draw), sl__law_draw⟩)
    (y__law_draw : PySem.W.codeIn K cd__law_draw "_law_draw" = true)
    (k__law_draw : PySem.W.keepIn K (.ref f__law_draw) = true)
    {f__law_pick : Addr} {od__law_pick an__law_pick : Option Addr} {sl__law_pick : Array (Option Value)} {oc__law_pick kV__law_pick dc__law_pick pm__law_pick cd__law_pick ct__law_pick : Value}
    (a__law_pick : PySem.W.nsIn K mainGlobals "_law_pick" = some (some (.ref f__law_pick)))
    (l__law_pick : K.lookup f__law_pick = some ⟨oc__law_pick, od__law_pick, .func (PySem.W.fnOf "_law_pick" "_law_pick" (defArgs s__law_pick) (defBody s__law_pick) (defScope s__law_pick) .none kV__law_pick dc__law_pick pm__law_pick an__law_pick cd__law_pick ct__law_pick), sl__law_pick⟩)
    (y__law_pick : PySem.W.codeIn K cd__law_pick "_law_pick" = true)
    (k__law_pick : PySem.W.keepIn K (.ref f__law_pick) = true)
    {f__law_low : Addr} {od__law_low an__law_low : Option Addr} {sl__law_low : Array (Option Value)} {oc__law_low kV__law_low dc__law_low pm__law_low cd__law_low ct__law_low : Value}
    (a__law_low : PySem.W.nsIn K mainGlobals "_law_low" = some (some (.ref f__law_low)))
    (l__law_low : K.lookup f__law_low = some ⟨oc__law_low, od__law_low, .func (PySem.W.fnOf "_law_low" "_law_low" (defArgs s__law_low) (defBody s__law_low) (defScope s__law_low) .none kV__law_low dc__law_low pm__law_low an__law_low cd__law_low ct__law_low), sl__law_low⟩)
    (y__law_low : PySem.W.codeIn K cd__law_low "_law_low" = true)
    (k__law_low : PySem.W.keepIn K (.ref f__law_low) = true)
    {f__law_fraction : Addr} {od__law_fraction an__law_fraction : Option Addr} {sl__law_fraction : Array (Option Value)} {oc__law_fraction kV__law_fraction dc__law_fraction pm__law_fraction cd__law_fraction ct__law_fraction : Value}
    (a__law_fraction : PySem.W.nsIn K mainGlobals "_law_fraction" = some (some (.ref f__law_fraction)))
    (l__law_fraction : K.lookup f__law_fraction = some ⟨oc__law_fraction, od__law_fraction, .func (PySem.W.fnOf "_law_fraction" "_law_fraction" (defArgs s__law_fraction) (defBody s__law_fraction) (defScope s__law_fraction) .none kV__law_fraction dc__law_fraction pm__law_fraction an__law_fraction cd__law_fraction ct__law_fraction), sl__law_fraction⟩)
    (y__law_fraction : PySem.W.codeIn K cd__law_fraction "_law_fraction" = true)
    (k__law_fraction : PySem.W.keepIn K (.ref f__law_fraction) = true)
    {f_less : Addr} {od_less an_less : Option Addr} {sl_less : Array (Option Value)} {oc_less kV_less dc_less pm_less cd_less ct_less : Value}
    (a_less : PySem.W.nsIn K mainGlobals "less" = some (some (.ref f_less)))
    (l_less : K.lookup f_less = some ⟨oc_less, od_less, .func (PySem.W.fnOf "less" "less" (defArgs s_less) (defBody s_less) (defScope s_less) .none kV_less dc_less pm_less an_less cd_less ct_less), sl_less⟩)
    (y_less : PySem.W.codeIn K cd_less "less" = true)
    (k_less : PySem.W.keepIn K (.ref f_less) = true)
    {f_common : Addr} {od_common an_common : Option Addr} {sl_common : Array (Option Value)} {oc_common kV_common dc_common pm_common cd_common ct_common : Value}
    (a_common : PySem.W.nsIn K mainGlobals "common" = some (some (.ref f_common)))
    (l_common : K.lookup f_common = some ⟨oc_common, od_common, .func (PySem.W.fnOf "common" "common" (defArgs s_common) (defBody s_common) (defScope s_common) .none kV_common dc_common pm_common an_common cd_common ct_common), sl_common⟩)
    (y_common : PySem.W.codeIn K cd_common "common" = true)
    (k_common : PySem.W.keepIn K (.ref f_common) = true)
    {f_is_any : Addr} {od_is_any an_is_any : Option Addr} {sl_is_any : Array (Option Value)} {oc_is_any kV_is_any dc_is_any pm_is_any cd_is_any ct_is_any : Value}
    (a_is_any : PySem.W.nsIn K mainGlobals "is_any" = some (some (.ref f_is_any)))
    (l_is_any : K.lookup f_is_any = some ⟨oc_is_any, od_is_any, .func (PySem.W.fnOf "is_any" "is_any" (defArgs s_is_any) (defBody s_is_any) (defScope s_is_any) .none kV_is_any dc_is_any pm_is_any an_is_any cd_is_any ct_is_any), sl_is_any⟩)
    (y_is_any : PySem.W.codeIn K cd_is_any "is_any" = true)
    (k_is_any : PySem.W.keepIn K (.ref f_is_any) = true)
    {f_is_span : Addr} {od_is_span an_is_span : Option Addr} {sl_is_span : Array (Option Value)} {oc_is_span kV_is_span dc_is_span pm_is_span cd_is_span ct_is_span : Value}
    (a_is_span : PySem.W.nsIn K mainGlobals "is_span" = some (some (.ref f_is_span)))
    (l_is_span : K.lookup f_is_span = some ⟨oc_is_span, od_is_span, .func (PySem.W.fnOf "is_span" "is_span" (defArgs s_is_span) (defBody s_is_span) (defScope s_is_span) .none kV_is_span dc_is_span pm_is_span an_is_span cd_is_span ct_is_span), sl_is_span⟩)
    (y_is_span : PySem.W.codeIn K cd_is_span "is_span" = true)
    (k_is_span : PySem.W.keepIn K (.ref f_is_span) = true)
    {f_is_range : Addr} {od_is_range an_is_range : Option Addr} {sl_is_range : Array (Option Value)} {oc_is_range kV_is_range dc_is_range pm_is_range cd_is_range ct_is_range : Value}
    (a_is_range : PySem.W.nsIn K mainGlobals "is_range" = some (some (.ref f_is_range)))
    (l_is_range : K.lookup f_is_range = some ⟨oc_is_range, od_is_range, .func (PySem.W.fnOf "is_range" "is_range" (defArgs s_is_range) (defBody s_is_range) (defScope s_is_range) .none kV_is_range dc_is_range pm_is_range an_is_range cd_is_range ct_is_range), sl_is_range⟩)
    (y_is_range : PySem.W.codeIn K cd_is_range "is_range" = true)
    (k_is_range : PySem.W.keepIn K (.ref f_is_range) = true)
    {f_check_range : Addr} {od_check_range an_check_range : Option Addr} {sl_check_range : Array (Option Value)} {oc_check_range kV_check_range dc_check_range pm_check_range cd_check_range ct_check_range : Value}
    (a_check_range : PySem.W.nsIn K mainGlobals "check_range" = some (some (.ref f_check_range)))
    (l_check_range : K.lookup f_check_range = some ⟨oc_check_range, od_check_range, .func (PySem.W.fnOf "check_range" "check_range" (defArgs s_check_range) (defBody s_check_range) (defScope s_check_range) .none kV_check_range dc_check_range pm_check_range an_check_range cd_check_range ct_check_range), sl_check_range⟩)
    (y_check_range : PySem.W.codeIn K cd_check_range "check_range" = true)
    (k_check_range : PySem.W.keepIn K (.ref f_check_range) = true)
    {f_Reader___init__ : Addr} {od_Reader___init__ an_Reader___init__ : Option Addr} {sl_Reader___init__ : Array (Option Value)} {oc_Reader___init__ kV_Reader___init__ dc_Reader___init__ pm_Reader___init__ cd_Reader___init__ ct_Reader___init__ : Value}
    (a_Reader___init__ : PySem.W.findIn K (.ref C_R) "__init__" = some (some (.ref f_Reader___init__)))
    (i_Reader___init__ : PySem.W.isFn K (.ref f_Reader___init__) = true)
    (l_Reader___init__ : K.lookup f_Reader___init__ = some ⟨oc_Reader___init__, od_Reader___init__, .func (PySem.W.fnOf "__init__" "Reader.__init__" (defArgs s_Reader___init__) (defBody s_Reader___init__) (defScope s_Reader___init__) .none kV_Reader___init__ dc_Reader___init__ pm_Reader___init__ an_Reader___init__ cd_Reader___init__ ct_Reader___init__), sl_Reader___init__⟩)
    (y_Reader___init__ : PySem.W.codeIn K cd_Reader___init__ "Reader.__init__" = true)
    (k_Reader___init__ : PySem.W.keepIn K (.ref f_Reader___init__) = true)
    {f_power_of : Addr} {od_power_of an_power_of : Option Addr} {sl_power_of : Array (Option Value)} {oc_power_of kV_power_of dc_power_of pm_power_of cd_power_of ct_power_of : Value}
    (a_power_of : PySem.W.nsIn K mainGlobals "power_of" = some (some (.ref f_power_of)))
    (l_power_of : K.lookup f_power_of = some ⟨oc_power_of, od_power_of, .func (PySem.W.fnOf "power_of" "power_of" (defArgs s_power_of) (defBody s_power_of) (defScope s_power_of) .none kV_power_of dc_power_of pm_power_of an_power_of cd_power_of ct_power_of), sl_power_of⟩)
    (y_power_of : PySem.W.codeIn K cd_power_of "power_of" = true)
    (k_power_of : PySem.W.keepIn K (.ref f_power_of) = true)
    {f_ends_of : Addr} {od_ends_of an_ends_of : Option Addr} {sl_ends_of : Array (Option Value)} {oc_ends_of kV_ends_of dc_ends_of pm_ends_of cd_ends_of ct_ends_of : Value}
    (a_ends_of : PySem.W.nsIn K mainGlobals "ends_of" = some (some (.ref f_ends_of)))
    (l_ends_of : K.lookup f_ends_of = some ⟨oc_ends_of, od_ends_of, .func (PySem.W.fnOf "ends_of" "ends_of" (defArgs s_ends_of) (defBody s_ends_of) (defScope s_ends_of) .none kV_ends_of dc_ends_of pm_ends_of an_ends_of cd_ends_of ct_ends_of), sl_ends_of⟩)
    (y_ends_of : PySem.W.codeIn K cd_ends_of "ends_of" = true)
    (k_ends_of : PySem.W.keepIn K (.ref f_ends_of) = true)
    {f_least_of : Addr} {od_least_of an_least_of : Option Addr} {sl_least_of : Array (Option Value)} {oc_least_of kV_least_of dc_least_of pm_least_of cd_least_of ct_least_of : Value}
    (a_least_of : PySem.W.nsIn K mainGlobals "least_of" = some (some (.ref f_least_of)))
    (l_least_of : K.lookup f_least_of = some ⟨oc_least_of, od_least_of, .func (PySem.W.fnOf "least_of" "least_of" (defArgs s_least_of) (defBody s_least_of) (defScope s_least_of) .none kV_least_of dc_least_of pm_least_of an_least_of cd_least_of ct_least_of), sl_least_of⟩)
    (y_least_of : PySem.W.codeIn K cd_least_of "least_of" = true)
    (k_least_of : PySem.W.keepIn K (.ref f_least_of) = true)
    {f_Reader_shortest : Addr} {od_Reader_shortest an_Reader_shortest : Option Addr} {sl_Reader_shortest : Array (Option Value)} {oc_Reader_shortest kV_Reader_shortest dc_Reader_shortest pm_Reader_shortest cd_Reader_shortest ct_Reader_shortest : Value}
    (a_Reader_shortest : PySem.W.findIn K (.ref C_R) "shortest" = some (some (.ref f_Reader_shortest)))
    (i_Reader_shortest : PySem.W.isFn K (.ref f_Reader_shortest) = true)
    (l_Reader_shortest : K.lookup f_Reader_shortest = some ⟨oc_Reader_shortest, od_Reader_shortest, .func (PySem.W.fnOf "shortest" "Reader.shortest" (defArgs s_Reader_shortest) (defBody s_Reader_shortest) (defScope s_Reader_shortest) .none kV_Reader_shortest dc_Reader_shortest pm_Reader_shortest an_Reader_shortest cd_Reader_shortest ct_Reader_shortest), sl_Reader_shortest⟩)
    (y_Reader_shortest : PySem.W.codeIn K cd_Reader_shortest "Reader.shortest" = true)
    (k_Reader_shortest : PySem.W.keepIn K (.ref f_Reader_shortest) = true)
    {f_tops_in : Addr} {od_tops_in an_tops_in : Option Addr} {sl_tops_in : Array (Option Value)} {oc_tops_in kV_tops_in dc_tops_in pm_tops_in cd_tops_in ct_tops_in : Value}
    (a_tops_in : PySem.W.nsIn K mainGlobals "tops_in" = some (some (.ref f_tops_in)))
    (l_tops_in : K.lookup f_tops_in = some ⟨oc_tops_in, od_tops_in, .func (PySem.W.fnOf "tops_in" "tops_in" (defArgs s_tops_in) (defBody s_tops_in) (defScope s_tops_in) .none kV_tops_in dc_tops_in pm_tops_in an_tops_in cd_tops_in ct_tops_in), sl_tops_in⟩)
    (y_tops_in : PySem.W.codeIn K cd_tops_in "tops_in" = true)
    (k_tops_in : PySem.W.keepIn K (.ref f_tops_in) = true)
    {f_simplest_of : Addr} {od_simplest_of an_simplest_of : Option Addr} {sl_simplest_of : Array (Option Value)} {oc_simplest_of kV_simplest_of dc_simplest_of pm_simplest_of cd_simplest_of ct_simplest_of : Value}
    (a_simplest_of : PySem.W.nsIn K mainGlobals "simplest_of" = some (some (.ref f_simplest_of)))
    (l_simplest_of : K.lookup f_simplest_of = some ⟨oc_simplest_of, od_simplest_of, .func (PySem.W.fnOf "simplest_of" "simplest_of" (defArgs s_simplest_of) (defBody s_simplest_of) (defScope s_simplest_of) .none kV_simplest_of dc_simplest_of pm_simplest_of an_simplest_of cd_simplest_of ct_simplest_of), sl_simplest_of⟩)
    (y_simplest_of : PySem.W.codeIn K cd_simplest_of "simplest_of" = true)
    (k_simplest_of : PySem.W.keepIn K (.ref f_simplest_of) = true)
    {f_lowest : Addr} {od_lowest an_lowest : Option Addr} {sl_lowest : Array (Option Value)} {oc_lowest kV_lowest dc_lowest pm_lowest cd_lowest ct_lowest : Value}
    (a_lowest : PySem.W.nsIn K mainGlobals "lowest" = some (some (.ref f_lowest)))
    (l_lowest : K.lookup f_lowest = some ⟨oc_lowest, od_lowest, .func (PySem.W.fnOf "lowest" "lowest" (defArgs s_lowest) (defBody s_lowest) (defScope s_lowest) .none kV_lowest dc_lowest pm_lowest an_lowest cd_lowest ct_lowest), sl_lowest⟩)
    (y_lowest : PySem.W.codeIn K cd_lowest "lowest" = true)
    (k_lowest : PySem.W.keepIn K (.ref f_lowest) = true)
    {f_Reader_simplest : Addr} {od_Reader_simplest an_Reader_simplest : Option Addr} {sl_Reader_simplest : Array (Option Value)} {oc_Reader_simplest kV_Reader_simplest dc_Reader_simplest pm_Reader_simplest cd_Reader_simplest ct_Reader_simplest : Value}
    (a_Reader_simplest : PySem.W.findIn K (.ref C_R) "simplest" = some (some (.ref f_Reader_simplest)))
    (i_Reader_simplest : PySem.W.isFn K (.ref f_Reader_simplest) = true)
    (l_Reader_simplest : K.lookup f_Reader_simplest = some ⟨oc_Reader_simplest, od_Reader_simplest, .func (PySem.W.fnOf "simplest" "Reader.simplest" (defArgs s_Reader_simplest) (defBody s_Reader_simplest) (defScope s_Reader_simplest) .none kV_Reader_simplest dc_Reader_simplest pm_Reader_simplest an_Reader_simplest cd_Reader_simplest ct_Reader_simplest), sl_Reader_simplest⟩)
    (y_Reader_simplest : PySem.W.codeIn K cd_Reader_simplest "Reader.simplest" = true)
    (k_Reader_simplest : PySem.W.keepIn K (.ref f_Reader_simplest) = true)
    {f__law_less : Addr} {od__law_less an__law_less : Option Addr} {sl__law_less : Array (Option Value)} {oc__law_less kV__law_less dc__law_less pm__law_less cd__law_less ct__law_less : Value}
    (a__law_less : PySem.W.nsIn K mainGlobals "_law_less" = some (some (.ref f__law_less)))
    (l__law_less : K.lookup f__law_less = some ⟨oc__law_less, od__law_less, .func (PySem.W.fnOf "_law_less" "_law_less" (defArgs s__law_less) (defBody s__law_less) (defScope s__law_less) .none kV__law_less dc__law_less pm__law_less an__law_less cd__law_less ct__law_less), sl__law_less⟩)
    (y__law_less : PySem.W.codeIn K cd__law_less "_law_less" = true)
    (k__law_less : PySem.W.keepIn K (.ref f__law_less) = true)
    {f__law_within : Addr} {od__law_within an__law_within : Option Addr} {sl__law_within : Array (Option Value)} {oc__law_within kV__law_within dc__law_within pm__law_within cd__law_within ct__law_within : Value}
    (a__law_within : PySem.W.nsIn K mainGlobals "_law_within" = some (some (.ref f__law_within)))
    (l__law_within : K.lookup f__law_within = some ⟨oc__law_within, od__law_within, .func (PySem.W.fnOf "_law_within" "_law_within" (defArgs s__law_within) (defBody s__law_within) (defScope s__law_within) .none kV__law_within dc__law_within pm__law_within an__law_within cd__law_within ct__law_within), sl__law_within⟩)
    (y__law_within : PySem.W.codeIn K cd__law_within "_law_within" = true)
    (k__law_within : PySem.W.keepIn K (.ref f__law_within) = true)
    {f__law_ten : Addr} {od__law_ten an__law_ten : Option Addr} {sl__law_ten : Array (Option Value)} {oc__law_ten kV__law_ten dc__law_ten pm__law_ten cd__law_ten ct__law_ten : Value}
    (a__law_ten : PySem.W.nsIn K mainGlobals "_law_ten" = some (some (.ref f__law_ten)))
    (l__law_ten : K.lookup f__law_ten = some ⟨oc__law_ten, od__law_ten, .func (PySem.W.fnOf "_law_ten" "_law_ten" (defArgs s__law_ten) (defBody s__law_ten) (defScope s__law_ten) .none kV__law_ten dc__law_ten pm__law_ten an__law_ten cd__law_ten ct__law_ten), sl__law_ten⟩)
    (y__law_ten : PySem.W.codeIn K cd__law_ten "_law_ten" = true)
    (k__law_ten : PySem.W.keepIn K (.ref f__law_ten) = true)
    {f__law_units : Addr} {od__law_units an__law_units : Option Addr} {sl__law_units : Array (Option Value)} {oc__law_units kV__law_units dc__law_units pm__law_units cd__law_units ct__law_units : Value}
    (a__law_units : PySem.W.nsIn K mainGlobals "_law_units" = some (some (.ref f__law_units)))
    (l__law_units : K.lookup f__law_units = some ⟨oc__law_units, od__law_units, .func (PySem.W.fnOf "_law_units" "_law_units" (defArgs s__law_units) (defBody s__law_units) (defScope s__law_units) .none kV__law_units dc__law_units pm__law_units an__law_units cd__law_units ct__law_units), sl__law_units⟩)
    (y__law_units : PySem.W.codeIn K cd__law_units "_law_units" = true)
    (k__law_units : PySem.W.keepIn K (.ref f__law_units) = true)
    {f__law_met : Addr} {od__law_met an__law_met : Option Addr} {sl__law_met : Array (Option Value)} {oc__law_met kV__law_met dc__law_met pm__law_met cd__law_met ct__law_met : Value}
    (a__law_met : PySem.W.nsIn K mainGlobals "_law_met" = some (some (.ref f__law_met)))
    (l__law_met : K.lookup f__law_met = some ⟨oc__law_met, od__law_met, .func (PySem.W.fnOf "_law_met" "_law_met" (defArgs s__law_met) (defBody s__law_met) (defScope s__law_met) .none kV__law_met dc__law_met pm__law_met an__law_met cd__law_met ct__law_met), sl__law_met⟩)
    (y__law_met : PySem.W.codeIn K cd__law_met "_law_met" = true)
    (k__law_met : PySem.W.keepIn K (.ref f__law_met) = true)
    {f__law_error : Addr} {od__law_error an__law_error : Option Addr} {sl__law_error : Array (Option Value)} {oc__law_error kV__law_error dc__law_error pm__law_error cd__law_error ct__law_error : Value}
    (a__law_error : PySem.W.nsIn K mainGlobals "_law_error" = some (some (.ref f__law_error)))
    (l__law_error : K.lookup f__law_error = some ⟨oc__law_error, od__law_error, .func (PySem.W.fnOf "_law_error" "_law_error" (defArgs s__law_error) (defBody s__law_error) (defScope s__law_error) .none kV__law_error dc__law_error pm__law_error an__law_error cd__law_error ct__law_error), sl__law_error⟩)
    (y__law_error : PySem.W.codeIn K cd__law_error "_law_error" = true)
    (k__law_error : PySem.W.keepIn K (.ref f__law_error) = true)
    {f_is_int : Addr} {od_is_int an_is_int : Option Addr} {sl_is_int : Array (Option Value)} {oc_is_int kV_is_int dc_is_int pm_is_int cd_is_int ct_is_int : Value}
    (a_is_int : PySem.W.nsIn K mainGlobals "is_int" = some (some (.ref f_is_int)))
    (l_is_int : K.lookup f_is_int = some ⟨oc_is_int, od_is_int, .func (PySem.W.fnOf "is_int" "is_int" (defArgs s_is_int) (defBody s_is_int) (defScope s_is_int) .none kV_is_int dc_is_int pm_is_int an_is_int cd_is_int ct_is_int), sl_is_int⟩)
    (y_is_int : PySem.W.codeIn K cd_is_int "is_int" = true)
    (k_is_int : PySem.W.keepIn K (.ref f_is_int) = true)
    {f_check_digits : Addr} {od_check_digits an_check_digits : Option Addr} {sl_check_digits : Array (Option Value)} {oc_check_digits kV_check_digits dc_check_digits pm_check_digits cd_check_digits ct_check_digits : Value}
    (a_check_digits : PySem.W.nsIn K mainGlobals "check_digits" = some (some (.ref f_check_digits)))
    (l_check_digits : K.lookup f_check_digits = some ⟨oc_check_digits, od_check_digits, .func (PySem.W.fnOf "check_digits" "check_digits" (defArgs s_check_digits) (defBody s_check_digits) (defScope s_check_digits) .none kV_check_digits dc_check_digits pm_check_digits an_check_digits cd_check_digits ct_check_digits), sl_check_digits⟩)
    (y_check_digits : PySem.W.codeIn K cd_check_digits "check_digits" = true)
    (k_check_digits : PySem.W.keepIn K (.ref f_check_digits) = true)
    {f_check_whole : Addr} {od_check_whole an_check_whole : Option Addr} {sl_check_whole : Array (Option Value)} {oc_check_whole kV_check_whole dc_check_whole pm_check_whole cd_check_whole ct_check_whole : Value}
    (a_check_whole : PySem.W.nsIn K mainGlobals "check_whole" = some (some (.ref f_check_whole)))
    (l_check_whole : K.lookup f_check_whole = some ⟨oc_check_whole, od_check_whole, .func (PySem.W.fnOf "check_whole" "check_whole" (defArgs s_check_whole) (defBody s_check_whole) (defScope s_check_whole) .none kV_check_whole dc_check_whole pm_check_whole an_check_whole cd_check_whole ct_check_whole), sl_check_whole⟩)
    (y_check_whole : PySem.W.codeIn K cd_check_whole "check_whole" = true)
    (k_check_whole : PySem.W.keepIn K (.ref f_check_whole) = true)
    {f_check_rule : Addr} {od_check_rule an_check_rule : Option Addr} {sl_check_rule : Array (Option Value)} {oc_check_rule kV_check_rule dc_check_rule pm_check_rule cd_check_rule ct_check_rule : Value}
    (a_check_rule : PySem.W.nsIn K mainGlobals "check_rule" = some (some (.ref f_check_rule)))
    (l_check_rule : K.lookup f_check_rule = some ⟨oc_check_rule, od_check_rule, .func (PySem.W.fnOf "check_rule" "check_rule" (defArgs s_check_rule) (defBody s_check_rule) (defScope s_check_rule) .none kV_check_rule dc_check_rule pm_check_rule an_check_rule cd_check_rule ct_check_rule), sl_check_rule⟩)
    (y_check_rule : PySem.W.codeIn K cd_check_rule "check_rule" = true)
    (k_check_rule : PySem.W.keepIn K (.ref f_check_rule) = true)
    {f_met : Addr} {od_met an_met : Option Addr} {sl_met : Array (Option Value)} {oc_met kV_met dc_met pm_met cd_met ct_met : Value}
    (a_met : PySem.W.nsIn K mainGlobals "met" = some (some (.ref f_met)))
    (l_met : K.lookup f_met = some ⟨oc_met, od_met, .func (PySem.W.fnOf "met" "met" (defArgs s_met) (defBody s_met) (defScope s_met) .none kV_met dc_met pm_met an_met cd_met ct_met), sl_met⟩)
    (y_met : PySem.W.codeIn K cd_met "met" = true)
    (k_met : PySem.W.keepIn K (.ref f_met) = true)
    {f_span_of : Addr} {od_span_of an_span_of : Option Addr} {sl_span_of : Array (Option Value)} {oc_span_of kV_span_of dc_span_of pm_span_of cd_span_of ct_span_of : Value}
    (a_span_of : PySem.W.nsIn K mainGlobals "span_of" = some (some (.ref f_span_of)))
    (l_span_of : K.lookup f_span_of = some ⟨oc_span_of, od_span_of, .func (PySem.W.fnOf "span_of" "span_of" (defArgs s_span_of) (defBody s_span_of) (defScope s_span_of) .none kV_span_of dc_span_of pm_span_of an_span_of cd_span_of ct_span_of), sl_span_of⟩)
    (y_span_of : PySem.W.codeIn K cd_span_of "span_of" = true)
    (k_span_of : PySem.W.keepIn K (.ref f_span_of) = true)
    {f_Reader_tell : Addr} {od_Reader_tell an_Reader_tell : Option Addr} {sl_Reader_tell : Array (Option Value)} {oc_Reader_tell kV_Reader_tell dc_Reader_tell pm_Reader_tell cd_Reader_tell ct_Reader_tell : Value}
    (a_Reader_tell : PySem.W.findIn K (.ref C_R) "tell" = some (some (.ref f_Reader_tell)))
    (i_Reader_tell : PySem.W.isFn K (.ref f_Reader_tell) = true)
    (l_Reader_tell : K.lookup f_Reader_tell = some ⟨oc_Reader_tell, od_Reader_tell, .func (PySem.W.fnOf "tell" "Reader.tell" (defArgs s_Reader_tell) (defBody s_Reader_tell) (defScope s_Reader_tell) .none kV_Reader_tell dc_Reader_tell pm_Reader_tell an_Reader_tell cd_Reader_tell ct_Reader_tell), sl_Reader_tell⟩)
    (y_Reader_tell : PySem.W.codeIn K cd_Reader_tell "Reader.tell" = true)
    (k_Reader_tell : PySem.W.keepIn K (.ref f_Reader_tell) = true)
    {f_Reader_undo : Addr} {od_Reader_undo an_Reader_undo : Option Addr} {sl_Reader_undo : Array (Option Value)} {oc_Reader_undo kV_Reader_undo dc_Reader_undo pm_Reader_undo cd_Reader_undo ct_Reader_undo : Value}
    (a_Reader_undo : PySem.W.findIn K (.ref C_R) "undo" = some (some (.ref f_Reader_undo)))
    (i_Reader_undo : PySem.W.isFn K (.ref f_Reader_undo) = true)
    (l_Reader_undo : K.lookup f_Reader_undo = some ⟨oc_Reader_undo, od_Reader_undo, .func (PySem.W.fnOf "undo" "Reader.undo" (defArgs s_Reader_undo) (defBody s_Reader_undo) (defScope s_Reader_undo) .none kV_Reader_undo dc_Reader_undo pm_Reader_undo an_Reader_undo cd_Reader_undo ct_Reader_undo), sl_Reader_undo⟩)
    (y_Reader_undo : PySem.W.codeIn K cd_Reader_undo "Reader.undo" = true)
    (k_Reader_undo : PySem.W.keepIn K (.ref f_Reader_undo) = true)
    {f__law_call : Addr} {od__law_call an__law_call : Option Addr} {sl__law_call : Array (Option Value)} {oc__law_call kV__law_call dc__law_call pm__law_call cd__law_call ct__law_call : Value}
    (a__law_call : PySem.W.nsIn K mainGlobals "_law_call" = some (some (.ref f__law_call)))
    (l__law_call : K.lookup f__law_call = some ⟨oc__law_call, od__law_call, .func (PySem.W.fnOf "_law_call" "_law_call" (defArgs s__law_call) (defBody s__law_call) (defScope s__law_call) .none kV__law_call dc__law_call pm__law_call an__law_call cd__law_call ct__law_call), sl__law_call⟩)
    (y__law_call : PySem.W.codeIn K cd__law_call "_law_call" = true)
    (k__law_call : PySem.W.keepIn K (.ref f__law_call) = true)
    {f_simplest : Addr} {od_simplest an_simplest : Option Addr} {sl_simplest : Array (Option Value)} {oc_simplest kV_simplest dc_simplest pm_simplest cd_simplest ct_simplest : Value}
    (a_simplest : PySem.W.nsIn K mainGlobals "simplest" = some (some (.ref f_simplest)))
    (l_simplest : K.lookup f_simplest = some ⟨oc_simplest, od_simplest, .func (PySem.W.fnOf "simplest" "simplest" (defArgs s_simplest) (defBody s_simplest) (defScope s_simplest) .none kV_simplest dc_simplest pm_simplest an_simplest cd_simplest ct_simplest), sl_simplest⟩)
    (y_simplest : PySem.W.codeIn K cd_simplest "simplest" = true)
    (k_simplest : PySem.W.keepIn K (.ref f_simplest) = true)
    {f__law_rules : Addr} {od__law_rules an__law_rules : Option Addr} {sl__law_rules : Array (Option Value)} {oc__law_rules kV__law_rules dc__law_rules pm__law_rules cd__law_rules ct__law_rules : Value}
    (a__law_rules : PySem.W.nsIn K mainGlobals "_law_rules" = some (some (.ref f__law_rules)))
    (l__law_rules : K.lookup f__law_rules = some ⟨oc__law_rules, od__law_rules, .func (PySem.W.fnOf "_law_rules" "_law_rules" (defArgs s__law_rules) (defBody s__law_rules) (defScope s__law_rules) .none kV__law_rules dc__law_rules pm__law_rules an__law_rules cd__law_rules ct__law_rules), sl__law_rules⟩)
    (y__law_rules : PySem.W.codeIn K cd__law_rules "_law_rules" = true)
    (k__law_rules : PySem.W.keepIn K (.ref f__law_rules) = true)
    {f_range_of : Addr} {od_range_of an_range_of : Option Addr} {sl_range_of : Array (Option Value)} {oc_range_of kV_range_of dc_range_of pm_range_of cd_range_of ct_range_of : Value}
    (a_range_of : PySem.W.nsIn K mainGlobals "range_of" = some (some (.ref f_range_of)))
    (l_range_of : K.lookup f_range_of = some ⟨oc_range_of, od_range_of, .func (PySem.W.fnOf "range_of" "range_of" (defArgs s_range_of) (defBody s_range_of) (defScope s_range_of) .none kV_range_of dc_range_of pm_range_of an_range_of cd_range_of ct_range_of), sl_range_of⟩)
    (y_range_of : PySem.W.codeIn K cd_range_of "range_of" = true)
    (k_range_of : PySem.W.keepIn K (.ref f_range_of) = true)
    {f_Reader_span : Addr} {od_Reader_span an_Reader_span : Option Addr} {sl_Reader_span : Array (Option Value)} {oc_Reader_span kV_Reader_span dc_Reader_span pm_Reader_span cd_Reader_span ct_Reader_span : Value}
    (a_Reader_span : PySem.W.findIn K (.ref C_R) "span" = some (some (.ref f_Reader_span)))
    (i_Reader_span : PySem.W.isFn K (.ref f_Reader_span) = true)
    (l_Reader_span : K.lookup f_Reader_span = some ⟨oc_Reader_span, od_Reader_span, .func (PySem.W.fnOf "span" "Reader.span" (defArgs s_Reader_span) (defBody s_Reader_span) (defScope s_Reader_span) .none kV_Reader_span dc_Reader_span pm_Reader_span an_Reader_span cd_Reader_span ct_Reader_span), sl_Reader_span⟩)
    (y_Reader_span : PySem.W.codeIn K cd_Reader_span "Reader.span" = true)
    (k_Reader_span : PySem.W.keepIn K (.ref f_Reader_span) = true)
    {f_Reader___len__ : Addr} {od_Reader___len__ an_Reader___len__ : Option Addr} {sl_Reader___len__ : Array (Option Value)} {oc_Reader___len__ kV_Reader___len__ dc_Reader___len__ pm_Reader___len__ cd_Reader___len__ ct_Reader___len__ : Value}
    (a_Reader___len__ : PySem.W.findIn K (.ref C_R) "__len__" = some (some (.ref f_Reader___len__)))
    (i_Reader___len__ : PySem.W.isFn K (.ref f_Reader___len__) = true)
    (l_Reader___len__ : K.lookup f_Reader___len__ = some ⟨oc_Reader___len__, od_Reader___len__, .func (PySem.W.fnOf "__len__" "Reader.__len__" (defArgs s_Reader___len__) (defBody s_Reader___len__) (defScope s_Reader___len__) .none kV_Reader___len__ dc_Reader___len__ pm_Reader___len__ an_Reader___len__ cd_Reader___len__ ct_Reader___len__), sl_Reader___len__⟩)
    (y_Reader___len__ : PySem.W.codeIn K cd_Reader___len__ "Reader.__len__" = true)
    (k_Reader___len__ : PySem.W.keepIn K (.ref f_Reader___len__) = true)
    {f_shortest : Addr} {od_shortest an_shortest : Option Addr} {sl_shortest : Array (Option Value)} {oc_shortest kV_shortest dc_shortest pm_shortest cd_shortest ct_shortest : Value}
    (a_shortest : PySem.W.nsIn K mainGlobals "shortest" = some (some (.ref f_shortest)))
    (l_shortest : K.lookup f_shortest = some ⟨oc_shortest, od_shortest, .func (PySem.W.fnOf "shortest" "shortest" (defArgs s_shortest) (defBody s_shortest) (defScope s_shortest) .none kV_shortest dc_shortest pm_shortest an_shortest cd_shortest ct_shortest), sl_shortest⟩)
    (y_shortest : PySem.W.codeIn K cd_shortest "shortest" = true)
    (k_shortest : PySem.W.keepIn K (.ref f_shortest) = true)
    {f_law : Addr} {od_law an_law : Option Addr} {sl_law : Array (Option Value)} {oc_law kV_law dc_law pm_law cd_law ct_law : Value}
    (a_law : PySem.W.nsIn K mainGlobals "law" = some (some (.ref f_law)))
    (l_law : K.lookup f_law = some ⟨oc_law, od_law, .func (PySem.W.fnOf "law" "law" (defArgs s_law) (defBody s_law) (defScope s_law) .none kV_law dc_law pm_law an_law cd_law ct_law), sl_law⟩)
    (y_law : PySem.W.codeIn K cd_law "law" = true)
    (k_law : PySem.W.keepIn K (.ref f_law) = true)
    (z_ValueError : PySem.W.nsIn K mainGlobals "ValueError" = some none)
    (z_abs : PySem.W.nsIn K mainGlobals "abs" = some none)
    (z_all : PySem.W.nsIn K mainGlobals "all" = some none)
    (z_bool : PySem.W.nsIn K mainGlobals "bool" = some none)
    (z_int : PySem.W.nsIn K mainGlobals "int" = some none)
    (z_isinstance : PySem.W.nsIn K mainGlobals "isinstance" = some none)
    (z_len : PySem.W.nsIn K mainGlobals "len" = some none)
    (z_list : PySem.W.nsIn K mainGlobals "list" = some none)
    (z_range : PySem.W.nsIn K mainGlobals "range" = some none)
    (z_str : PySem.W.nsIn K mainGlobals "str" = some none)
    (z_tuple : PySem.W.nsIn K mainGlobals "tuple" = some none)
    {t_MOST_DIGITS : Tok}
    (q_MOST_DIGITS : PySem.W.nsIn K mainGlobals "MOST_DIGITS" = some (some (.int 6 t_MOST_DIGITS)))
    {t_MOST_TRIED : Tok}
    (q_MOST_TRIED : PySem.W.nsIn K mainGlobals "MOST_TRIED" = some (some (.int 1000 t_MOST_TRIED)))
    {a_RULES : Addr} {od_RULES : Option Addr} {n_RULES : Nat} {sl_RULES : Array (Option Value)} {t1 t2 t3 t4 t5 t6 t7 : Tok}
    (q_RULES : PySem.W.nsIn K mainGlobals "RULES" = some (some (.ref a_RULES)))
    (w_RULES : K.lookup a_RULES = some ⟨.type "tuple", od_RULES, .seq #[.str "down" t1, .str "up" t2, .str "zero" t3, .str "near-up" t4, .str "near-zero" t5, .str "near-away" t6, .str "near-even" t7] n_RULES, sl_RULES⟩)
    {C_frac : Addr}
    (xa_frac : PySem.W.nsIn K mainGlobals "BadFraction" = some (some (.ref C_frac)))
    (xe_frac : PySem.W.excIn K C_frac [.type "ValueError", .type "Exception", .type "BaseException", .type "object"] "ValueError.__new__" = true)
    (xk_frac : PySem.W.keepIn K (.ref C_frac) = true)
    (xs_frac : PySem.W.subIn K (.ref C_frac) (.type "BaseException") = some true)
    (xt_frac : PySem.W.typeIn K (.ref C_frac) = some (.type "type"))
    {C_nof : Addr}
    (xa_nof : PySem.W.nsIn K mainGlobals "NotFound" = some (some (.ref C_nof)))
    (xe_nof : PySem.W.excIn K C_nof [.type "ValueError", .type "Exception", .type "BaseException", .type "object"] "ValueError.__new__" = true)
    (xk_nof : PySem.W.keepIn K (.ref C_nof) = true)
    (xs_nof : PySem.W.subIn K (.ref C_nof) (.type "BaseException") = some true)
    (xt_nof : PySem.W.typeIn K (.ref C_nof) = some (.type "type"))
    {C_num : Addr}
    (xa_num : PySem.W.nsIn K mainGlobals "BadNumber" = some (some (.ref C_num)))
    (xe_num : PySem.W.excIn K C_num [.type "ValueError", .type "Exception", .type "BaseException", .type "object"] "ValueError.__new__" = true)
    (xk_num : PySem.W.keepIn K (.ref C_num) = true)
    (xs_num : PySem.W.subIn K (.ref C_num) (.type "BaseException") = some true)
    (xt_num : PySem.W.typeIn K (.ref C_num) = some (.type "type"))
    {C_rng : Addr}
    (xa_rng : PySem.W.nsIn K mainGlobals "BadRange" = some (some (.ref C_rng)))
    (xe_rng : PySem.W.excIn K C_rng [.type "ValueError", .type "Exception", .type "BaseException", .type "object"] "ValueError.__new__" = true)
    (xk_rng : PySem.W.keepIn K (.ref C_rng) = true)
    (xs_rng : PySem.W.subIn K (.ref C_rng) (.type "BaseException") = some true)
    (xt_rng : PySem.W.typeIn K (.ref C_rng) = some (.type "type"))
    {C_rul : Addr}
    (xa_rul : PySem.W.nsIn K mainGlobals "BadRule" = some (some (.ref C_rul)))
    (xe_rul : PySem.W.excIn K C_rul [.type "ValueError", .type "Exception", .type "BaseException", .type "object"] "ValueError.__new__" = true)
    (xk_rul : PySem.W.keepIn K (.ref C_rul) = true)
    (xs_rul : PySem.W.subIn K (.ref C_rul) (.type "BaseException") = some true)
    (xt_rul : PySem.W.typeIn K (.ref C_rul) = some (.type "type"))
    {C_txt : Addr}
    (xa_txt : PySem.W.nsIn K mainGlobals "BadText" = some (some (.ref C_txt)))
    (xe_txt : PySem.W.excIn K C_txt [.type "ValueError", .type "Exception", .type "BaseException", .type "object"] "ValueError.__new__" = true)
    (xk_txt : PySem.W.keepIn K (.ref C_txt) = true)
    (xs_txt : PySem.W.subIn K (.ref C_txt) (.type "BaseException") = some true)
    (xt_txt : PySem.W.typeIn K (.ref C_txt) = some (.type "type"))
    {C_D : Addr}
    (ya_D : PySem.W.nsIn K mainGlobals "DecimalError" = some (some (.ref C_D)))
    (ys_D : PySem.W.subIn K (.ref C_D) (.type "BaseException") = some true)
    (yt_D : PySem.W.typeIn K (.ref C_D) = some (.type "type"))
    (yh_D : PySem.W.hasDictIn K C_D = true)
    (yn : PySem.W.specialIn K (.builtin "object.__class__") "__get__" = some (some (.builtin "getset_descriptor.__get__")))
    (yk : PySem.W.takesIn K (.builtin "object.__class__") = some true)
    (ye_frac : PySem.W.subIn K (.ref C_frac) (.ref C_D) = some true)
    (yv_frac : PySem.W.subIn K (.ref C_frac) (.type "ValueError") = some true)
    (yg_frac : PySem.W.findIn K (.ref C_frac) "__getattribute__" = some (some (.builtin "BaseException.__getattribute__")))
    (yf_frac : PySem.W.findIn K (.ref C_frac) "__getattr__" = some none)
    (yh_frac : PySem.W.hasDictIn K C_frac = true)
    (yc_frac : PySem.W.findIn K (.ref C_frac) "__class__" = some (some (.builtin "object.__class__")))
    (ym_frac : PySem.W.mroIn K C_frac (.type "object") = some true)
    (yx_frac_frac : PySem.W.subIn K (.ref C_frac) (.ref C_frac) = some true)
    (yx_frac_rng : PySem.W.subIn K (.ref C_frac) (.ref C_rng) = some false)
    (yx_frac_rul : PySem.W.subIn K (.ref C_frac) (.ref C_rul) = some false)
    (yx_frac_num : PySem.W.subIn K (.ref C_frac) (.ref C_num) = some false)
    (yx_frac_txt : PySem.W.subIn K (.ref C_frac) (.ref C_txt) = some false)
    (yx_frac_nof : PySem.W.subIn K (.ref C_frac) (.ref C_nof) = some false)
    (ye_rng : PySem.W.subIn K (.ref C_rng) (.ref C_D) = some true)
    (yv_rng : PySem.W.subIn K (.ref C_rng) (.type "ValueError") = some true)
    (yg_rng : PySem.W.findIn K (.ref C_rng) "__getattribute__" = some (some (.builtin "BaseException.__getattribute__")))
    (yf_rng : PySem.W.findIn K (.ref C_rng) "__getattr__" = some none)
    (yh_rng : PySem.W.hasDictIn K C_rng = true)
    (yc_rng : PySem.W.findIn K (.ref C_rng) "__class__" = some (some (.builtin "object.__class__")))
    (ym_rng : PySem.W.mroIn K C_rng (.type "object") = some true)
    (yx_rng_frac : PySem.W.subIn K (.ref C_rng) (.ref C_frac) = some false)
    (yx_rng_rng : PySem.W.subIn K (.ref C_rng) (.ref C_rng) = some true)
    (yx_rng_rul : PySem.W.subIn K (.ref C_rng) (.ref C_rul) = some false)
    (yx_rng_num : PySem.W.subIn K (.ref C_rng) (.ref C_num) = some false)
    (yx_rng_txt : PySem.W.subIn K (.ref C_rng) (.ref C_txt) = some false)
    (yx_rng_nof : PySem.W.subIn K (.ref C_rng) (.ref C_nof) = some false)
    (ye_rul : PySem.W.subIn K (.ref C_rul) (.ref C_D) = some true)
    (yv_rul : PySem.W.subIn K (.ref C_rul) (.type "ValueError") = some true)
    (yg_rul : PySem.W.findIn K (.ref C_rul) "__getattribute__" = some (some (.builtin "BaseException.__getattribute__")))
    (yf_rul : PySem.W.findIn K (.ref C_rul) "__getattr__" = some none)
    (yh_rul : PySem.W.hasDictIn K C_rul = true)
    (yc_rul : PySem.W.findIn K (.ref C_rul) "__class__" = some (some (.builtin "object.__class__")))
    (ym_rul : PySem.W.mroIn K C_rul (.type "object") = some true)
    (yx_rul_frac : PySem.W.subIn K (.ref C_rul) (.ref C_frac) = some false)
    (yx_rul_rng : PySem.W.subIn K (.ref C_rul) (.ref C_rng) = some false)
    (yx_rul_rul : PySem.W.subIn K (.ref C_rul) (.ref C_rul) = some true)
    (yx_rul_num : PySem.W.subIn K (.ref C_rul) (.ref C_num) = some false)
    (yx_rul_txt : PySem.W.subIn K (.ref C_rul) (.ref C_txt) = some false)
    (yx_rul_nof : PySem.W.subIn K (.ref C_rul) (.ref C_nof) = some false)
    (ye_num : PySem.W.subIn K (.ref C_num) (.ref C_D) = some true)
    (yv_num : PySem.W.subIn K (.ref C_num) (.type "ValueError") = some true)
    (yg_num : PySem.W.findIn K (.ref C_num) "__getattribute__" = some (some (.builtin "BaseException.__getattribute__")))
    (yf_num : PySem.W.findIn K (.ref C_num) "__getattr__" = some none)
    (yh_num : PySem.W.hasDictIn K C_num = true)
    (yc_num : PySem.W.findIn K (.ref C_num) "__class__" = some (some (.builtin "object.__class__")))
    (ym_num : PySem.W.mroIn K C_num (.type "object") = some true)
    (yx_num_frac : PySem.W.subIn K (.ref C_num) (.ref C_frac) = some false)
    (yx_num_rng : PySem.W.subIn K (.ref C_num) (.ref C_rng) = some false)
    (yx_num_rul : PySem.W.subIn K (.ref C_num) (.ref C_rul) = some false)
    (yx_num_num : PySem.W.subIn K (.ref C_num) (.ref C_num) = some true)
    (yx_num_txt : PySem.W.subIn K (.ref C_num) (.ref C_txt) = some false)
    (yx_num_nof : PySem.W.subIn K (.ref C_num) (.ref C_nof) = some false)
    (ye_txt : PySem.W.subIn K (.ref C_txt) (.ref C_D) = some true)
    (yv_txt : PySem.W.subIn K (.ref C_txt) (.type "ValueError") = some true)
    (yg_txt : PySem.W.findIn K (.ref C_txt) "__getattribute__" = some (some (.builtin "BaseException.__getattribute__")))
    (yf_txt : PySem.W.findIn K (.ref C_txt) "__getattr__" = some none)
    (yh_txt : PySem.W.hasDictIn K C_txt = true)
    (yc_txt : PySem.W.findIn K (.ref C_txt) "__class__" = some (some (.builtin "object.__class__")))
    (ym_txt : PySem.W.mroIn K C_txt (.type "object") = some true)
    (yx_txt_frac : PySem.W.subIn K (.ref C_txt) (.ref C_frac) = some false)
    (yx_txt_rng : PySem.W.subIn K (.ref C_txt) (.ref C_rng) = some false)
    (yx_txt_rul : PySem.W.subIn K (.ref C_txt) (.ref C_rul) = some false)
    (yx_txt_num : PySem.W.subIn K (.ref C_txt) (.ref C_num) = some false)
    (yx_txt_txt : PySem.W.subIn K (.ref C_txt) (.ref C_txt) = some true)
    (yx_txt_nof : PySem.W.subIn K (.ref C_txt) (.ref C_nof) = some false)
    (ye_nof : PySem.W.subIn K (.ref C_nof) (.ref C_D) = some true)
    (yv_nof : PySem.W.subIn K (.ref C_nof) (.type "ValueError") = some true)
    (yg_nof : PySem.W.findIn K (.ref C_nof) "__getattribute__" = some (some (.builtin "BaseException.__getattribute__")))
    (yf_nof : PySem.W.findIn K (.ref C_nof) "__getattr__" = some none)
    (yh_nof : PySem.W.hasDictIn K C_nof = true)
    (yc_nof : PySem.W.findIn K (.ref C_nof) "__class__" = some (some (.builtin "object.__class__")))
    (ym_nof : PySem.W.mroIn K C_nof (.type "object") = some true)
    (yx_nof_frac : PySem.W.subIn K (.ref C_nof) (.ref C_frac) = some false)
    (yx_nof_rng : PySem.W.subIn K (.ref C_nof) (.ref C_rng) = some false)
    (yx_nof_rul : PySem.W.subIn K (.ref C_nof) (.ref C_rul) = some false)
    (yx_nof_num : PySem.W.subIn K (.ref C_nof) (.ref C_num) = some false)
    (yx_nof_txt : PySem.W.subIn K (.ref C_nof) (.ref C_txt) = some false)
    (yx_nof_nof : PySem.W.subIn K (.ref C_nof) (.ref C_nof) = some true)
    : ∃ fd : FuncData, (∀ (s : Shared) (v : Value), BindsTo s fd ⟨[v], []⟩ [("script", v)]) ∧ ∀ base : Heap, K.In base → base.Ns mainGlobals mg → FnOk l.prog w K mg base (L2.CX l.prog w) 8 fa fd ["script"] (DL.spL K) := by
  have e := hfa.symm.trans (PySem.W.mg_of X G a_law)
  cases e
  have m_ValueError := PySem.W.mg_none_of X G z_ValueError
  have m_abs := PySem.W.mg_none_of X G z_abs
  have m_all := PySem.W.mg_none_of X G z_all
  have m_bool := PySem.W.mg_none_of X G z_bool
  have m_int := PySem.W.mg_none_of X G z_int
  have m_isinstance := PySem.W.mg_none_of X G z_isinstance
  have m_len := PySem.W.mg_none_of X G z_len
  have m_list := PySem.W.mg_none_of X G z_list
  have m_range := PySem.W.mg_none_of X G z_range
  have m_str := PySem.W.mg_none_of X G z_str
  have m_tuple := PySem.W.mg_none_of X G z_tuple
  have g_MOST_DIGITS : ∃ t, mg "MOST_DIGITS" = some (.int 6 t) := ⟨_, PySem.W.mg_of X G q_MOST_DIGITS⟩
  have g_MOST_TRIED : ∃ t, mg "MOST_TRIED" = some (.int 1000 t) := ⟨_, PySem.W.mg_of X G q_MOST_TRIED⟩
  have g_RULES := PySem.W.mg_of X G q_RULES
  have d_RULES := fun H => d_rules w_RULES H
  have X_frac : Xf K mg "BadFraction" ((caOf C_frac C_rng C_rul C_num C_txt C_nof) .frac) := ⟨PySem.W.mg_of X G xa_frac, xe_frac, xk_frac, xs_frac, xt_frac⟩
  have X_nof : Xf K mg "NotFound" ((caOf C_frac C_rng C_rul C_num C_txt C_nof) .nof) := ⟨PySem.W.mg_of X G xa_nof, xe_nof, xk_nof, xs_nof, xt_nof⟩
  have X_num : Xf K mg "BadNumber" ((caOf C_frac C_rng C_rul C_num C_txt C_nof) .num) := ⟨PySem.W.mg_of X G xa_num, xe_num, xk_num, xs_num, xt_num⟩
  have X_rng : Xf K mg "BadRange" ((caOf C_frac C_rng C_rul C_num C_txt C_nof) .rng) := ⟨PySem.W.mg_of X G xa_rng, xe_rng, xk_rng, xs_rng, xt_rng⟩
  have X_rul : Xf K mg "BadRule" ((caOf C_frac C_rng C_rul C_num C_txt C_nof) .rul) := ⟨PySem.W.mg_of X G xa_rul, xe_rul, xk_rul, xs_rul, xt_rul⟩
  have X_txt : Xf K mg "BadText" ((caOf C_frac C_rng C_rul C_num C_txt C_nof) .txt) := ⟨PySem.W.mg_of X G xa_txt, xe_txt, xk_txt, xs_txt, xt_txt⟩
  have XI : XIs K mg (caOf C_frac C_rng C_rul C_num C_txt C_nof) C_D := {
    gD := PySem.W.mg_of X G ya_D
    exm := (fun er => match er with | .frac => PySem.W.exm_ref ys_D yh_D yt_D ye_frac | .rng => PySem.W.exm_ref ys_D yh_D yt_D ye_rng | .rul => PySem.W.exm_ref ys_D yh_D yt_D ye_rul | .num => PySem.W.exm_ref ys_D yh_D yt_D ye_num | .txt => PySem.W.exm_ref ys_D yh_D yt_D ye_txt | .nof => PySem.W.exm_ref ys_D yh_D yt_D ye_nof)
    kD := (fun er => match er with | .frac => kit_ref yh_D yt_D ye_frac yx_frac_frac | .rng => kit_ref yh_D yt_D ye_rng yx_rng_rng | .rul => kit_ref yh_D yt_D ye_rul yx_rul_rul | .num => kit_ref yh_D yt_D ye_num yx_num_num | .txt => kit_ref yh_D yt_D ye_txt yx_txt_txt | .nof => kit_ref yh_D yt_D ye_nof yx_nof_nof)
    kV := (fun er => match er with | .frac => kit_ve yv_frac | .rng => kit_ve yv_rng | .rul => kit_ve yv_rul | .num => kit_ve yv_num | .txt => kit_ve yv_txt | .nof => kit_ve yv_nof)
    ex := (fun er => match er with | .frac => ⟨yg_frac, yf_frac, xs_frac, yh_frac, yc_frac, yn, yk, ym_frac⟩ | .rng => ⟨yg_rng, yf_rng, xs_rng, yh_rng, yc_rng, yn, yk, ym_rng⟩ | .rul => ⟨yg_rul, yf_rul, xs_rul, yh_rul, yc_rul, yn, yk, ym_rul⟩ | .num => ⟨yg_num, yf_num, xs_num, yh_num, yc_num, yn, yk, ym_num⟩ | .txt => ⟨yg_txt, yf_txt, xs_txt, yh_txt, yc_txt, yn, yk, ym_txt⟩ | .nof => ⟨yg_nof, yf_nof, xs_nof, yh_nof, yc_nof, yn, yk, ym_nof⟩)
    kit := fun er er' => match er, er' with | .frac, .frac => kit_ref yh_frac xt_frac yx_frac_frac yx_frac_frac | .frac, .rng => kit_ref yh_rng xt_rng yx_frac_rng yx_frac_frac | .frac, .rul => kit_ref yh_rul xt_rul yx_frac_rul yx_frac_frac | .frac, .num => kit_ref yh_num xt_num yx_frac_num yx_frac_frac | .frac, .txt => kit_ref yh_txt xt_txt yx_frac_txt yx_frac_frac | .frac, .nof => kit_ref yh_nof xt_nof yx_frac_nof yx_frac_frac | .rng, .frac => kit_ref yh_frac xt_frac yx_rng_frac yx_rng_rng | .rng, .rng => kit_ref yh_rng xt_rng yx_rng_rng yx_rng_rng | .rng, .rul => kit_ref yh_rul xt_rul yx_rng_rul yx_rng_rng | .rng, .num => kit_ref yh_num xt_num yx_rng_num yx_rng_rng | .rng, .txt => kit_ref yh_txt xt_txt yx_rng_txt yx_rng_rng | .rng, .nof => kit_ref yh_nof xt_nof yx_rng_nof yx_rng_rng | .rul, .frac => kit_ref yh_frac xt_frac yx_rul_frac yx_rul_rul | .rul, .rng => kit_ref yh_rng xt_rng yx_rul_rng yx_rul_rul | .rul, .rul => kit_ref yh_rul xt_rul yx_rul_rul yx_rul_rul | .rul, .num => kit_ref yh_num xt_num yx_rul_num yx_rul_rul | .rul, .txt => kit_ref yh_txt xt_txt yx_rul_txt yx_rul_rul | .rul, .nof => kit_ref yh_nof xt_nof yx_rul_nof yx_rul_rul | .num, .frac => kit_ref yh_frac xt_frac yx_num_frac yx_num_num | .num, .rng => kit_ref yh_rng xt_rng yx_num_rng yx_num_num | .num, .rul => kit_ref yh_rul xt_rul yx_num_rul yx_num_num | .num, .num => kit_ref yh_num xt_num yx_num_num yx_num_num | .num, .txt => kit_ref yh_txt xt_txt yx_num_txt yx_num_num | .num, .nof => kit_ref yh_nof xt_nof yx_num_nof yx_num_num | .txt, .frac => kit_ref yh_frac xt_frac yx_txt_frac yx_txt_txt | .txt, .rng => kit_ref yh_rng xt_rng yx_txt_rng yx_txt_txt | .txt, .rul => kit_ref yh_rul xt_rul yx_txt_rul yx_txt_txt | .txt, .num => kit_ref yh_num xt_num yx_txt_num yx_txt_txt | .txt, .txt => kit_ref yh_txt xt_txt yx_txt_txt yx_txt_txt | .txt, .nof => kit_ref yh_nof xt_nof yx_txt_nof yx_txt_txt | .nof, .frac => kit_ref yh_frac xt_frac yx_nof_frac yx_nof_nof | .nof, .rng => kit_ref yh_rng xt_rng yx_nof_rng yx_nof_nof | .nof, .rul => kit_ref yh_rul xt_rul yx_nof_rul yx_nof_nof | .nof, .num => kit_ref yh_num xt_num yx_nof_num yx_nof_nof | .nof, .txt => kit_ref yh_txt xt_txt yx_nof_txt yx_nof_nof | .nof, .nof => kit_ref yh_nof xt_nof yx_nof_nof yx_nof_nof
    g0 := PySem.W.mg_of X G xa_frac
    g1 := PySem.W.mg_of X G xa_rng
    g2 := PySem.W.mg_of X G xa_rul
    g3 := PySem.W.mg_of X G xa_num
    g4 := PySem.W.mg_of X G xa_txt
    g5 := PySem.W.mg_of X G xa_nof
    exn := PySem.W.exm_ref xs_nof yh_nof xt_nof yx_nof_nof
  }
  refine ⟨PySem.W.fnOf "law" "law" (defArgs s_law) (defBody s_law) (defScope s_law) .none kV_law dc_law pm_law an_law cd_law ct_law, fun s v => .of_eq rfl, fun base _ _ => ?_⟩
  have RT : RTx K C_R := ⟨⟨rg, rh, ro, rs⟩, rn, rp⟩
  have U__law_start := fun_mk (st := s__law_start) l__law_start y__law_start k__law_start
  have F__law_start : FdS l.prog w K mg base "_law_start" 1 := ⟨_, _, _, ok__law_start U__law_start m_list, (PySem.W.mg_of X G a__law_start), U__law_start.kp, U__law_start.binds (fun _ _ _ _ _ _ us hl => match us, hl with | [_], _ => rfl)⟩
  have U__law_draw := fun_mk (st := s__law_draw) l__law_draw y__law_draw k__law_draw
  have F__law_draw : FdW l.prog w K mg base (caOf C_frac C_rng C_rul C_num C_txt C_nof) "_law_draw" c__law_draw 1 1 := FdW.mk' U__law_draw (PySem.W.mg_of X G a__law_draw) (ok__law_draw U__law_draw m_len) (fun _ _ _ _ _ _ us hl => match us, hl with | [_, _], _ => rfl)
  have U__law_pick := fun_mk (st := s__law_pick) l__law_pick y__law_pick k__law_pick
  have F__law_pick : FdW l.prog w K mg base (caOf C_frac C_rng C_rul C_num C_txt C_nof) "_law_pick" c__law_pick 1 2 := FdW.mk' U__law_pick (PySem.W.mg_of X G a__law_pick) (ok__law_pick U__law_pick F__law_draw m_len) (fun _ _ _ _ _ _ us hl => match us, hl with | [_, _], _ => rfl)
  have U__law_low := fun_mk (st := s__law_low) l__law_low y__law_low k__law_low
  have F__law_low : Fd l.prog w K mg base (caOf C_frac C_rng C_rul C_num C_txt C_nof) "_law_low" c__law_low 2 1 := Fd.mk' U__law_low (PySem.W.mg_of X G a__law_low) (ok__law_low U__law_low m_abs) (fun _ _ _ _ _ _ us hl => match us, hl with | [_, _], _ => rfl)
  have U__law_fraction := fun_mk (st := s__law_fraction) l__law_fraction y__law_fraction k__law_fraction
  have F__law_fraction : FdW l.prog w K mg base (caOf C_frac C_rng C_rul C_num C_txt C_nof) "_law_fraction" c__law_fraction 0 3 := FdW.mk' U__law_fraction (PySem.W.mg_of X G a__law_fraction) (ok__law_fraction U__law_fraction F__law_pick F__law_low F__law_draw) (fun _ _ _ _ _ _ us hl => match us, hl with | [_], _ => rfl)
  have U_less := fun_mk (st := s_less) l_less y_less k_less
  have F_less : Fd l.prog w K mg base (caOf C_frac C_rng C_rul C_num C_txt C_nof) "less" c_less 2 1 := Fd.mk' U_less (PySem.W.mg_of X G a_less) (ok_less U_less ) (fun _ _ _ _ _ _ us hl => match us, hl with | [_, _], _ => rfl)
  have U_common := fun_mk (st := s_common) l_common y_common k_common
  have F_common : Fd l.prog w K mg base (caOf C_frac C_rng C_rul C_num C_txt C_nof) "common" c_common 2 1 := Fd.mk' U_common (PySem.W.mg_of X G a_common) (ok_common U_common m_abs) (fun _ _ _ _ _ _ us hl => match us, hl with | [_, _], _ => rfl)
  have U_is_any := fun_mk (st := s_is_any) l_is_any y_is_any k_is_any
  have F_is_any : Fd l.prog w K mg base (caOf C_frac C_rng C_rul C_num C_txt C_nof) "is_any" c_is_any 1 2 := Fd.mk' U_is_any (PySem.W.mg_of X G a_is_any) (ok_is_any U_is_any F_common m_all m_bool m_int m_isinstance m_len m_tuple) (fun _ _ _ _ _ _ us hl => match us, hl with | [_], _ => rfl)
  have U_is_span := fun_mk (st := s_is_span) l_is_span y_is_span k_is_span
  have F_is_span : Fd l.prog w K mg base (caOf C_frac C_rng C_rul C_num C_txt C_nof) "is_span" c_is_span 1 3 := Fd.mk' U_is_span (PySem.W.mg_of X G a_is_span) (ok_is_span U_is_span F_less F_is_any m_bool m_isinstance m_len m_tuple) (fun _ _ _ _ _ _ us hl => match us, hl with | [_], _ => rfl)
  have U_is_range := fun_mk (st := s_is_range) l_is_range y_is_range k_is_range
  have F_is_range : Fd l.prog w K mg base (caOf C_frac C_rng C_rul C_num C_txt C_nof) "is_range" c_is_range 1 4 := Fd.mk' U_is_range (PySem.W.mg_of X G a_is_range) (ok_is_range U_is_range F_is_span F_less) (fun _ _ _ _ _ _ us hl => match us, hl with | [_], _ => rfl)
  have U_check_range := fun_mk (st := s_check_range) l_check_range y_check_range k_check_range
  have F_check_range : Fd l.prog w K mg base (caOf C_frac C_rng C_rul C_num C_txt C_nof) "check_range" c_check_range 1 5 := Fd.mk' U_check_range (PySem.W.mg_of X G a_check_range) (ok_check_range U_check_range F_is_range X_rng) (fun _ _ _ _ _ _ us hl => match us, hl with | [_], _ => rfl)
  have U_Reader___init__ := fun_mk (st := s_Reader___init__) l_Reader___init__ y_Reader___init__ k_Reader___init__
  have F_Reader___init__ : FdI l.prog w K mg base C_R rgS "Reader" 6 := ⟨_, _, _, ok_Reader___init__ U_Reader___init__ RT F_check_range, ⟨rm, a_Reader___init__, i_Reader___init__, rk⟩, U_Reader___init__.binds (fun _ _ _ _ _ _ us hl => match us, hl with | [_, _], _ => rfl), PySem.W.mg_of X G ra⟩
  have U_power_of := fun_mk (st := s_power_of) l_power_of y_power_of k_power_of
  have F_power_of : Fd l.prog w K mg base (caOf C_frac C_rng C_rul C_num C_txt C_nof) "power_of" c_power_of 1 1 := Fd.mk' U_power_of (PySem.W.mg_of X G a_power_of) (ok_power_of U_power_of m_range) (fun _ _ _ _ _ _ us hl => match us, hl with | [_], _ => rfl)
  have U_ends_of := fun_mk (st := s_ends_of) l_ends_of y_ends_of k_ends_of
  have F_ends_of : Fd l.prog w K mg base (caOf C_frac C_rng C_rul C_num C_txt C_nof) "ends_of" c_ends_of 2 2 := Fd.mk' U_ends_of (PySem.W.mg_of X G a_ends_of) (ok_ends_of U_ends_of F_power_of) (fun _ _ _ _ _ _ us hl => match us, hl with | [_, _], _ => rfl)
  have U_least_of := fun_mk (st := s_least_of) l_least_of y_least_of k_least_of
  have F_least_of : Fd l.prog w K mg base (caOf C_frac C_rng C_rul C_num C_txt C_nof) "least_of" c_least_of 1 3 := Fd.mk' U_least_of (PySem.W.mg_of X G a_least_of) (ok_least_of U_least_of F_ends_of m_range g_MOST_DIGITS) (fun _ _ _ _ _ _ us hl => match us, hl with | [_], _ => rfl)
  have U_Reader_shortest := fun_mk (st := s_Reader_shortest) l_Reader_shortest y_Reader_shortest k_Reader_shortest
  have F_Reader_shortest : FdM l.prog w K mg base (caOf C_frac C_rng C_rul C_num C_txt C_nof) C_R "shortest" c_Reader_shortest 0 4 := ⟨_, _, _, ok_Reader_shortest U_Reader_shortest RT F_least_of F_ends_of, ⟨a_Reader_shortest, i_Reader_shortest, k_Reader_shortest⟩, U_Reader_shortest.binds (fun _ _ _ _ _ _ us hl => match us, hl with | [_], _ => rfl)⟩
  have U_tops_in := fun_mk (st := s_tops_in) l_tops_in y_tops_in k_tops_in
  have F_tops_in : Fd l.prog w K mg base (caOf C_frac C_rng C_rul C_num C_txt C_nof) "tops_in" c_tops_in 2 1 := Fd.mk' U_tops_in (PySem.W.mg_of X G a_tops_in) (ok_tops_in U_tops_in ) (fun _ _ _ _ _ _ us hl => match us, hl with | [_, _], _ => rfl)
  have U_simplest_of := fun_mk (st := s_simplest_of) l_simplest_of y_simplest_of k_simplest_of
  have F_simplest_of : Fd l.prog w K mg base (caOf C_frac C_rng C_rul C_num C_txt C_nof) "simplest_of" c_simplest_of 1 2 := Fd.mk' U_simplest_of (PySem.W.mg_of X G a_simplest_of) (ok_simplest_of U_simplest_of F_tops_in m_range g_MOST_TRIED) (fun _ _ _ _ _ _ us hl => match us, hl with | [_], _ => rfl)
  have U_lowest := fun_mk (st := s_lowest) l_lowest y_lowest k_lowest
  have F_lowest : Fd l.prog w K mg base (caOf C_frac C_rng C_rul C_num C_txt C_nof) "lowest" c_lowest 2 2 := Fd.mk' U_lowest (PySem.W.mg_of X G a_lowest) (ok_lowest U_lowest F_common) (fun _ _ _ _ _ _ us hl => match us, hl with | [_, _], _ => rfl)
  have U_Reader_simplest := fun_mk (st := s_Reader_simplest) l_Reader_simplest y_Reader_simplest k_Reader_simplest
  have F_Reader_simplest : FdM l.prog w K mg base (caOf C_frac C_rng C_rul C_num C_txt C_nof) C_R "simplest" c_Reader_simplest 0 3 := ⟨_, _, _, ok_Reader_simplest U_Reader_simplest RT F_simplest_of F_lowest, ⟨a_Reader_simplest, i_Reader_simplest, k_Reader_simplest⟩, U_Reader_simplest.binds (fun _ _ _ _ _ _ us hl => match us, hl with | [_], _ => rfl)⟩
  have U__law_less := fun_mk (st := s__law_less) l__law_less y__law_less k__law_less
  have F__law_less : Fd l.prog w K mg base (caOf C_frac C_rng C_rul C_num C_txt C_nof) "_law_less" c__law_less 2 1 := Fd.mk' U__law_less (PySem.W.mg_of X G a__law_less) (ok__law_less U__law_less ) (fun _ _ _ _ _ _ us hl => match us, hl with | [_, _], _ => rfl)
  have U__law_within := fun_mk (st := s__law_within) l__law_within y__law_within k__law_within
  have F__law_within : Fd l.prog w K mg base (caOf C_frac C_rng C_rul C_num C_txt C_nof) "_law_within" c__law_within 2 2 := Fd.mk' U__law_within (PySem.W.mg_of X G a__law_within) (ok__law_within U__law_within F__law_less) (fun _ _ _ _ _ _ us hl => match us, hl with | [_, _], _ => rfl)
  have U__law_ten := fun_mk (st := s__law_ten) l__law_ten y__law_ten k__law_ten
  have F__law_ten : Fd l.prog w K mg base (caOf C_frac C_rng C_rul C_num C_txt C_nof) "_law_ten" c__law_ten 1 1 := Fd.mk' U__law_ten (PySem.W.mg_of X G a__law_ten) (ok__law_ten U__law_ten m_int) (fun _ _ _ _ _ _ us hl => match us, hl with | [_], _ => rfl)
  have U__law_units := fun_mk (st := s__law_units) l__law_units y__law_units k__law_units
  have F__law_units : Fd l.prog w K mg base (caOf C_frac C_rng C_rul C_num C_txt C_nof) "_law_units" c__law_units 4 2 := Fd.mk' U__law_units (PySem.W.mg_of X G a__law_units) (ok__law_units U__law_units F__law_ten) (fun _ _ _ _ _ _ us hl => match us, hl with | [_, _, _, _], _ => rfl)
  have U__law_met := fun_mk (st := s__law_met) l__law_met y__law_met k__law_met
  have F__law_met : Fd l.prog w K mg base (caOf C_frac C_rng C_rul C_num C_txt C_nof) "_law_met" c__law_met 2 2 := Fd.mk' U__law_met (PySem.W.mg_of X G a__law_met) (ok__law_met U__law_met F__law_less) (fun _ _ _ _ _ _ us hl => match us, hl with | [_, _], _ => rfl)
  have U__law_error := fun_mk (st := s__law_error) l__law_error y__law_error k__law_error
  have F__law_error : FdX l.prog w K mg base (caOf C_frac C_rng C_rul C_num C_txt C_nof) "_law_error" 1 := ⟨_, _, _, ok__law_error U__law_error m_ValueError m_isinstance XI, (PySem.W.mg_of X G a__law_error), U__law_error.kp, U__law_error.binds (fun _ _ _ _ _ _ us hl => match us, hl with | [_], _ => rfl)⟩
  have U_is_int := fun_mk (st := s_is_int) l_is_int y_is_int k_is_int
  have F_is_int : Fd l.prog w K mg base (caOf C_frac C_rng C_rul C_num C_txt C_nof) "is_int" c_is_int 3 1 := Fd.mk' U_is_int (PySem.W.mg_of X G a_is_int) (ok_is_int U_is_int m_bool m_int m_isinstance) (fun _ _ _ _ _ _ us hl => match us, hl with | [_, _, _], _ => rfl)
  have U_check_digits := fun_mk (st := s_check_digits) l_check_digits y_check_digits k_check_digits
  have F_check_digits : Fd l.prog w K mg base (caOf C_frac C_rng C_rul C_num C_txt C_nof) "check_digits" c_check_digits 1 2 := Fd.mk' U_check_digits (PySem.W.mg_of X G a_check_digits) (ok_check_digits U_check_digits F_is_int g_MOST_DIGITS X_num) (fun _ _ _ _ _ _ us hl => match us, hl with | [_], _ => rfl)
  have U_check_whole := fun_mk (st := s_check_whole) l_check_whole y_check_whole k_check_whole
  have F_check_whole : Fd l.prog w K mg base (caOf C_frac C_rng C_rul C_num C_txt C_nof) "check_whole" c_check_whole 2 2 := Fd.mk' U_check_whole (PySem.W.mg_of X G a_check_whole) (ok_check_whole U_check_whole F_is_int F_power_of X_num) (fun _ _ _ _ _ _ us hl => match us, hl with | [_, _], _ => rfl)
  have U_check_rule := fun_mk (st := s_check_rule) l_check_rule y_check_rule k_check_rule
  have F_check_rule : Fd l.prog w K mg base (caOf C_frac C_rng C_rul C_num C_txt C_nof) "check_rule" c_check_rule 1 1 := Fd.mk' U_check_rule (PySem.W.mg_of X G a_check_rule) (ok_check_rule U_check_rule m_isinstance m_str g_RULES d_RULES X_rul) (fun _ _ _ _ _ _ us hl => match us, hl with | [_], _ => rfl)
  have U_met := fun_mk (st := s_met) l_met y_met k_met
  have F_met : Fd l.prog w K mg base (caOf C_frac C_rng C_rul C_num C_txt C_nof) "met" c_met 2 2 := Fd.mk' U_met (PySem.W.mg_of X G a_met) (ok_met U_met F_less) (fun _ _ _ _ _ _ us hl => match us, hl with | [_, _], _ => rfl)
  have U_span_of := fun_mk (st := s_span_of) l_span_of y_span_of k_span_of
  have F_span_of : Fd l.prog w K mg base (caOf C_frac C_rng C_rul C_num C_txt C_nof) "span_of" c_span_of 3 3 := Fd.mk' U_span_of (PySem.W.mg_of X G a_span_of) (ok_span_of U_span_of F_power_of F_lowest) (fun _ _ _ _ _ _ us hl => match us, hl with | [_, _, _], _ => rfl)
  have U_Reader_tell := fun_mk (st := s_Reader_tell) l_Reader_tell y_Reader_tell k_Reader_tell
  have F_Reader_tell : FdM l.prog w K mg base (caOf C_frac C_rng C_rul C_num C_txt C_nof) C_R "tell" c_Reader_tell 3 4 := ⟨_, _, _, ok_Reader_tell U_Reader_tell RT F_check_digits F_check_whole F_check_rule F_met F_span_of F_is_span X_nof, ⟨a_Reader_tell, i_Reader_tell, k_Reader_tell⟩, U_Reader_tell.binds (fun _ _ _ _ _ _ us hl => match us, hl with | [_, _, _, _], _ => rfl)⟩
  have U_Reader_undo := fun_mk (st := s_Reader_undo) l_Reader_undo y_Reader_undo k_Reader_undo
  have F_Reader_undo : FdM l.prog w K mg base (caOf C_frac C_rng C_rul C_num C_txt C_nof) C_R "undo" c_Reader_undo 0 1 := ⟨_, _, _, ok_Reader_undo U_Reader_undo RT X_nof, ⟨a_Reader_undo, i_Reader_undo, k_Reader_undo⟩, U_Reader_undo.binds (fun _ _ _ _ _ _ us hl => match us, hl with | [_], _ => rfl)⟩
  have U__law_call := fun_mk (st := s__law_call) l__law_call y__law_call k__law_call
  have F__law_call : FdR l.prog w K mg base (caOf C_frac C_rng C_rul C_num C_txt C_nof) C_R "_law_call" c__law_call 4 5 := ⟨_, _, _, ok__law_call U__law_call RT F__law_error F_Reader_tell F_Reader_undo XI, (PySem.W.mg_of X G a__law_call), U__law_call.kp, U__law_call.binds (fun _ _ _ _ _ _ us hl => match us, hl with | [_, _, _, _, _], _ => rfl)⟩
  have U_simplest := fun_mk (st := s_simplest) l_simplest y_simplest k_simplest
  have F_simplest : Fd l.prog w K mg base (caOf C_frac C_rng C_rul C_num C_txt C_nof) "simplest" c_simplest 1 6 := Fd.mk' U_simplest (PySem.W.mg_of X G a_simplest) (ok_simplest U_simplest F_check_range F_simplest_of F_lowest X_nof) (fun _ _ _ _ _ _ us hl => match us, hl with | [_], _ => rfl)
  have U__law_rules := fun_mk (st := s__law_rules) l__law_rules y__law_rules k__law_rules
  have F__law_rules : Fd l.prog w K mg base (caOf C_frac C_rng C_rul C_num C_txt C_nof) "_law_rules" c__law_rules 0 1 := Fd.mk' U__law_rules (PySem.W.mg_of X G a__law_rules) (ok__law_rules U__law_rules ) (fun _ _ _ _ _ _ us hl => match us, hl with | [], _ => rfl)
  have U_range_of := fun_mk (st := s_range_of) l_range_of y_range_of k_range_of
  have F_range_of : Fd l.prog w K mg base (caOf C_frac C_rng C_rul C_num C_txt C_nof) "range_of" c_range_of 3 4 := Fd.mk' U_range_of (PySem.W.mg_of X G a_range_of) (ok_range_of U_range_of F_check_digits F_check_whole F_check_rule F_span_of) (fun _ _ _ _ _ _ us hl => match us, hl with | [_, _, _], _ => rfl)
  have U_Reader_span := fun_mk (st := s_Reader_span) l_Reader_span y_Reader_span k_Reader_span
  have F_Reader_span : FdM l.prog w K mg base (caOf C_frac C_rng C_rul C_num C_txt C_nof) C_R "span" c_Reader_span 0 1 := ⟨_, _, _, ok_Reader_span U_Reader_span RT, ⟨a_Reader_span, i_Reader_span, k_Reader_span⟩, U_Reader_span.binds (fun _ _ _ _ _ _ us hl => match us, hl with | [_], _ => rfl)⟩
  have U_Reader___len__ := fun_mk (st := s_Reader___len__) l_Reader___len__ y_Reader___len__ k_Reader___len__
  have F_Reader___len__ : FdM l.prog w K mg base (caOf C_frac C_rng C_rul C_num C_txt C_nof) C_R "__len__" c_Reader___len__ 0 1 := ⟨_, _, _, ok_Reader___len__ U_Reader___len__ RT m_len, ⟨a_Reader___len__, i_Reader___len__, k_Reader___len__⟩, U_Reader___len__.binds (fun _ _ _ _ _ _ us hl => match us, hl with | [_], _ => rfl)⟩
  have U_shortest := fun_mk (st := s_shortest) l_shortest y_shortest k_shortest
  have F_shortest : Fd l.prog w K mg base (caOf C_frac C_rng C_rul C_num C_txt C_nof) "shortest" c_shortest 1 6 := Fd.mk' U_shortest (PySem.W.mg_of X G a_shortest) (ok_shortest U_shortest F_check_range F_least_of F_ends_of m_list m_range X_nof) (fun _ _ _ _ _ _ us hl => match us, hl with | [_], _ => rfl)
  have U_law := fun_mk (st := s_law) l_law y_law k_law
  exact ok_law (ca := (caOf C_frac C_rng C_rul C_num C_txt C_nof)) U_law RT F__law_start F__law_fraction F_Reader___init__ F_Reader_shortest F_Reader_simplest F__law_within F__law_draw F__law_pick F__law_units F__law_met F__law_call F_simplest F__law_rules F_range_of F_Reader_span F_Reader___len__ F_shortest m_len m_range
end SD
open PySem PySem.W PyProof.Rows
set_option maxHeartbeats 0 in
theorem PySem.Challenge.cw_shortdecimals_k08_whole_readers_holds : PySem.Challenge.rw_shortdecimals_k08_whole_readers.Holds := by
  w_on; o_law; k_head; (case hw => w_witness2)
  k_fill
  refine L2.walk_of (l := PySem.Challenge.rw_shortdecimals_k08_whole_readers) (n := 63) (k := 8) (x := "script") (CX := fun w => L2.CX PySem.Challenge.rw_shortdecimals_k08_whole_readers.prog w) (sp := fun w => DL.spL _) rfl (by decide) rfl ⟨rfl, by decide, by decide⟩ (fun w h Y => PySem.W.kIn_of Y) ?F (fun _ _ a ns hl _ hS => ⟨a, ns, rfl, hS, hl, fun _ => rfl⟩) (fun _ H s e s' h => SD.no_cx H s e s' h)
  case F =>
    intro w mg fa h KX G hmg
    refine' SD.all_mk KX G hmg ?ra ?rg ?rh ?ro ?rs ?rm ?rk ?rn ?rp ?a__law_start ?l__law_start ?y__law_start ?k__law_start ?a__law_draw ?l__law_draw ?y__law_draw ?k__law_draw ?a__law_pick ?l__law_pick ?y__law_pick ?k__law_pick ?a__law_low ?l__law_low ?y__law_low ?k__law_low ?a__law_fraction ?l__law_fraction ?y__law_fraction ?k__law_fraction ?a_less ?l_less ?y_less ?k_less ?a_common ?l_common ?y_common ?k_common ?a_is_any ?l_is_any ?y_is_any ?k_is_any ?a_is_span ?l_is_span ?y_is_span ?k_is_span ?a_is_range ?l_is_range ?y_is_range ?k_is_range ?a_check_range ?l_check_range ?y_check_range ?k_check_range ?a_Reader___init__ ?i_Reader___init__ ?l_Reader___init__ ?y_Reader___init__ ?k_Reader___init__ ?a_power_of ?l_power_of ?y_power_of ?k_power_of ?a_ends_of ?l_ends_of ?y_ends_of ?k_ends_of ?a_least_of ?l_least_of ?y_least_of ?k_least_of ?a_Reader_shortest ?i_Reader_shortest ?l_Reader_shortest ?y_Reader_shortest ?k_Reader_shortest ?a_tops_in ?l_tops_in ?y_tops_in ?k_tops_in ?a_simplest_of ?l_simplest_of ?y_simplest_of ?k_simplest_of ?a_lowest ?l_lowest ?y_lowest ?k_lowest ?a_Reader_simplest ?i_Reader_simplest ?l_Reader_simplest ?y_Reader_simplest ?k_Reader_simplest ?a__law_less ?l__law_less ?y__law_less ?k__law_less ?a__law_within ?l__law_within ?y__law_within ?k__law_within ?a__law_ten ?l__law_ten ?y__law_ten ?k__law_ten ?a__law_units ?l__law_units ?y__law_units ?k__law_units ?a__law_met ?l__law_met ?y__law_met ?k__law_met ?a__law_error ?l__law_error ?y__law_error ?k__law_error ?a_is_int ?l_is_int ?y_is_int ?k_is_int ?a_check_digits ?l_check_digits ?y_check_digits ?k_check_digits ?a_check_whole ?l_check_whole ?y_check_whole ?k_check_whole ?a_check_rule ?l_check_rule ?y_check_rule ?k_check_rule ?a_met ?l_met ?y_met ?k_met ?a_span_of ?l_span_of ?y_span_of ?k_span_of ?a_Reader_tell ?i_Reader_tell ?l_Reader_tell ?y_Reader_tell ?k_Reader_tell ?a_Reader_undo ?i_Reader_undo ?l_Reader_undo ?y_Reader_undo ?k_Reader_undo ?a__law_call ?l__law_call ?y__law_call ?k__law_call ?a_simplest ?l_simplest ?y_simplest ?k_simplest ?a__law_rules ?l__law_rules ?y__law_rules ?k__law_rules ?a_range_of ?l_range_of ?y_range_of ?k_range_of ?a_Reader_span ?i_Reader_span ?l_Reader_span ?y_Reader_span ?k_Reader_span ?a_Reader___len__ ?i_Reader___len__ ?l_Reader___len__ ?y_Reader___len__ ?k_Reader___len__ ?a_shortest ?l_shortest ?y_shortest ?k_shortest ?a_law ?l_law ?y_law ?k_law ?z_ValueError ?z_abs ?z_all ?z_bool ?z_int ?z_isinstance ?z_len ?z_list ?z_range ?z_str ?z_tuple ?q_MOST_DIGITS ?q_MOST_TRIED ?q_RULES ?w_RULES ?xa_frac ?xe_frac ?xk_frac ?xs_frac ?xt_frac ?xa_nof ?xe_nof ?xk_nof ?xs_nof ?xt_nof ?xa_num ?xe_num ?xk_num ?xs_num ?xt_num ?xa_rng ?xe_rng ?xk_rng ?xs_rng ?xt_rng ?xa_rul ?xe_rul ?xk_rul ?xs_rul ?xt_rul ?xa_txt ?xe_txt ?xk_txt ?xs_txt ?xt_txt ?ya_D ?ys_D ?yt_D ?yh_D ?yn ?yk ?ye_frac ?yv_frac ?yg_frac ?yf_frac ?yh_frac ?yc_frac ?ym_frac ?yx_frac_frac ?yx_frac_rng ?yx_frac_rul ?yx_frac_num ?yx_frac_txt ?yx_frac_nof ?ye_rng ?yv_rng ?yg_rng ?yf_rng ?yh_rng ?yc_rng ?ym_rng ?yx_rng_frac ?yx_rng_rng ?yx_rng_rul ?yx_rng_num ?yx_rng_txt ?yx_rng_nof ?ye_rul ?yv_rul ?yg_rul ?yf_rul ?yh_rul ?yc_rul ?ym_rul ?yx_rul_frac ?yx_rul_rng ?yx_rul_rul ?yx_rul_num ?yx_rul_txt ?yx_rul_nof ?ye_num ?yv_num ?yg_num ?yf_num ?yh_num ?yc_num ?ym_num ?yx_num_frac ?yx_num_rng ?yx_num_rul ?yx_num_num ?yx_num_txt ?yx_num_nof ?ye_txt ?yv_txt ?yg_txt ?yf_txt ?yh_txt ?yc_txt ?ym_txt ?yx_txt_frac ?yx_txt_rng ?yx_txt_rul ?yx_txt_num ?yx_txt_txt ?yx_txt_nof ?ye_nof ?yv_nof ?yg_nof ?yf_nof ?yh_nof ?yc_nof ?ym_nof ?yx_nof_frac ?yx_nof_rng ?yx_nof_rul ?yx_nof_num ?yx_nof_txt ?yx_nof_nof
    (case ra => k_is); (case rg => k_is); (case rh => k_is); (case ro => k_is)
    (case rs => k_is); (case rm => k_is); (case rk => k_is); (case rn => k_is)
    (case rp => k_is); (case a__law_start => k_is); (case l__law_start => k_is); (case y__law_start => k_is)
    (case k__law_start => k_is); (case a__law_draw => k_is); (case l__law_draw => k_is); (case y__law_draw => k_is)
    (case k__law_draw => k_is); (case a__law_pick => k_is); (case l__law_pick => k_is); (case y__law_pick => k_is)
    (case k__law_pick => k_is); (case a__law_low => k_is); (case l__law_low => k_is); (case y__law_low => k_is)
    (case k__law_low => k_is); (case a__law_fraction => k_is); (case l__law_fraction => k_is); (case y__law_fraction => k_is)
    (case k__law_fraction => k_is); (case a_less => k_is); (case l_less => k_is); (case y_less => k_is)
    (case k_less => k_is); (case a_common => k_is); (case l_common => k_is); (case y_common => k_is)
    (case k_common => k_is); (case a_is_any => k_is); (case l_is_any => k_is); (case y_is_any => k_is)
    (case k_is_any => k_is); (case a_is_span => k_is); (case l_is_span => k_is); (case y_is_span => k_is)
    (case k_is_span => k_is); (case a_is_range => k_is); (case l_is_range => k_is); (case y_is_range => k_is)
    (case k_is_range => k_is); (case a_check_range => k_is); (case l_check_range => k_is); (case y_check_range => k_is)
    (case k_check_range => k_is); (case a_Reader___init__ => k_is); (case i_Reader___init__ => k_is); (case l_Reader___init__ => k_is)
    (case y_Reader___init__ => k_is); (case k_Reader___init__ => k_is); (case a_power_of => k_is); (case l_power_of => k_is)
    (case y_power_of => k_is); (case k_power_of => k_is); (case a_ends_of => k_is); (case l_ends_of => k_is)
    (case y_ends_of => k_is); (case k_ends_of => k_is); (case a_least_of => k_is); (case l_least_of => k_is)
    (case y_least_of => k_is); (case k_least_of => k_is); (case a_Reader_shortest => k_is); (case i_Reader_shortest => k_is)
    (case l_Reader_shortest => k_is); (case y_Reader_shortest => k_is); (case k_Reader_shortest => k_is); (case a_tops_in => k_is)
    (case l_tops_in => k_is); (case y_tops_in => k_is); (case k_tops_in => k_is); (case a_simplest_of => k_is)
    (case l_simplest_of => k_is); (case y_simplest_of => k_is); (case k_simplest_of => k_is); (case a_lowest => k_is)
    (case l_lowest => k_is); (case y_lowest => k_is); (case k_lowest => k_is); (case a_Reader_simplest => k_is)
    (case i_Reader_simplest => k_is); (case l_Reader_simplest => k_is); (case y_Reader_simplest => k_is); (case k_Reader_simplest => k_is)
    (case a__law_less => k_is); (case l__law_less => k_is); (case y__law_less => k_is); (case k__law_less => k_is)
    (case a__law_within => k_is); (case l__law_within => k_is); (case y__law_within => k_is); (case k__law_within => k_is)
    (case a__law_ten => k_is); (case l__law_ten => k_is); (case y__law_ten => k_is); (case k__law_ten => k_is)
    (case a__law_units => k_is); (case l__law_units => k_is); (case y__law_units => k_is); (case k__law_units => k_is)
    (case a__law_met => k_is); (case l__law_met => k_is); (case y__law_met => k_is); (case k__law_met => k_is)
    (case a__law_error => k_is); (case l__law_error => k_is); (case y__law_error => k_is); (case k__law_error => k_is)
    (case a_is_int => k_is); (case l_is_int => k_is); (case y_is_int => k_is); (case k_is_int => k_is)
    (case a_check_digits => k_is); (case l_check_digits => k_is); (case y_check_digits => k_is); (case k_check_digits => k_is)
    (case a_check_whole => k_is); (case l_check_whole => k_is); (case y_check_whole => k_is); (case k_check_whole => k_is)
    (case a_check_rule => k_is); (case l_check_rule => k_is); (case y_check_rule => k_is); (case k_check_rule => k_is)
    (case a_met => k_is); (case l_met => k_is); (case y_met => k_is); (case k_met => k_is)
    (case a_span_of => k_is); (case l_span_of => k_is); (case y_span_of => k_is); (case k_span_of => k_is)
    (case a_Reader_tell => k_is); (case i_Reader_tell => k_is); (case l_Reader_tell => k_is); (case y_Reader_tell => k_is)
    (case k_Reader_tell => k_is); (case a_Reader_undo => k_is); (case i_Reader_undo => k_is); (case l_Reader_undo => k_is)
    (case y_Reader_undo => k_is); (case k_Reader_undo => k_is); (case a__law_call => k_is); (case l__law_call => k_is)
    (case y__law_call => k_is); (case k__law_call => k_is); (case a_simplest => k_is); (case l_simplest => k_is)
    (case y_simplest => k_is); (case k_simplest => k_is); (case a__law_rules => k_is); (case l__law_rules => k_is)
    (case y__law_rules => k_is); (case k__law_rules => k_is); (case a_range_of => k_is); (case l_range_of => k_is)
    (case y_range_of => k_is); (case k_range_of => k_is); (case a_Reader_span => k_is); (case i_Reader_span => k_is)
    (case l_Reader_span => k_is); (case y_Reader_span => k_is); (case k_Reader_span => k_is); (case a_Reader___len__ => k_is)
    (case i_Reader___len__ => k_is); (case l_Reader___len__ => k_is); (case y_Reader___len__ => k_is); (case k_Reader___len__ => k_is)
    (case a_shortest => k_is); (case l_shortest => k_is); (case y_shortest => k_is); (case k_shortest => k_is)
    (case a_law => k_is); (case l_law => k_is); (case y_law => k_is); (case k_law => k_is)
    (case z_ValueError => k_is); (case z_abs => k_is); (case z_all => k_is); (case z_bool => k_is)
    (case z_int => k_is); (case z_isinstance => k_is); (case z_len => k_is); (case z_list => k_is)
    (case z_range => k_is); (case z_str => k_is); (case z_tuple => k_is); (case q_MOST_DIGITS => k_is)
    (case q_MOST_TRIED => k_is); (case q_RULES => k_is); (case w_RULES => k_is); (case xa_frac => k_is)
    (case xe_frac => k_exc); (case xk_frac => k_is); (case xs_frac => k_is); (case xt_frac => k_is)
    (case xa_nof => k_is); (case xe_nof => k_exc); (case xk_nof => k_is); (case xs_nof => k_is)
    (case xt_nof => k_is); (case xa_num => k_is); (case xe_num => k_exc); (case xk_num => k_is)
    (case xs_num => k_is); (case xt_num => k_is); (case xa_rng => k_is); (case xe_rng => k_exc)
    (case xk_rng => k_is); (case xs_rng => k_is); (case xt_rng => k_is); (case xa_rul => k_is)
    (case xe_rul => k_exc); (case xk_rul => k_is); (case xs_rul => k_is); (case xt_rul => k_is)
    (case xa_txt => k_is); (case xe_txt => k_exc); (case xk_txt => k_is); (case xs_txt => k_is)
    (case xt_txt => k_is); (case ya_D => k_is); (case ys_D => k_is); (case yt_D => k_is)
    (case yh_D => k_is); (case yn => k_is); (case yk => k_is); (case ye_frac => k_is)
    (case yv_frac => k_is); (case yg_frac => k_is); (case yf_frac => k_is); (case yh_frac => k_is)
    (case yc_frac => k_is); (case ym_frac => k_is); (case yx_frac_frac => k_is); (case yx_frac_rng => k_is)
    (case yx_frac_rul => k_is); (case yx_frac_num => k_is); (case yx_frac_txt => k_is); (case yx_frac_nof => k_is)
    (case ye_rng => k_is); (case yv_rng => k_is); (case yg_rng => k_is); (case yf_rng => k_is)
    (case yh_rng => k_is); (case yc_rng => k_is); (case ym_rng => k_is); (case yx_rng_frac => k_is)
    (case yx_rng_rng => k_is); (case yx_rng_rul => k_is); (case yx_rng_num => k_is); (case yx_rng_txt => k_is)
    (case yx_rng_nof => k_is); (case ye_rul => k_is); (case yv_rul => k_is); (case yg_rul => k_is)
    (case yf_rul => k_is); (case yh_rul => k_is); (case yc_rul => k_is); (case ym_rul => k_is)
    (case yx_rul_frac => k_is); (case yx_rul_rng => k_is); (case yx_rul_rul => k_is); (case yx_rul_num => k_is)
    (case yx_rul_txt => k_is); (case yx_rul_nof => k_is); (case ye_num => k_is); (case yv_num => k_is)
    (case yg_num => k_is); (case yf_num => k_is); (case yh_num => k_is); (case yc_num => k_is)
    (case ym_num => k_is); (case yx_num_frac => k_is); (case yx_num_rng => k_is); (case yx_num_rul => k_is)
    (case yx_num_num => k_is); (case yx_num_txt => k_is); (case yx_num_nof => k_is); (case ye_txt => k_is)
    (case yv_txt => k_is); (case yg_txt => k_is); (case yf_txt => k_is); (case yh_txt => k_is)
    (case yc_txt => k_is); (case ym_txt => k_is); (case yx_txt_frac => k_is); (case yx_txt_rng => k_is)
    (case yx_txt_rul => k_is); (case yx_txt_num => k_is); (case yx_txt_txt => k_is); (case yx_txt_nof => k_is)
    (case ye_nof => k_is); (case yv_nof => k_is); (case yg_nof => k_is); (case yf_nof => k_is)
    (case yh_nof => k_is); (case yc_nof => k_is); (case ym_nof => k_is); (case yx_nof_frac => k_is)
    (case yx_nof_rng => k_is); (case yx_nof_rul => k_is); (case yx_nof_num => k_is); (case yx_nof_txt => k_is)
    (case yx_nof_nof => k_is)

