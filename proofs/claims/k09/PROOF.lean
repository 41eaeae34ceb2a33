import PyProof.Rows.All
import HandS.ExcValue
import HandS.ExcIs
import HandS.SetFor
import HandS.Conv
import HandS.FStr
import HandS.HotCalls
import HandS.Text
import HandS.Steps
import HandS.Codes
import Wide.All
import OpenK.AllK
import Wide.FinOn
import HandS.ForMost
import HandS.ForExc
import HandS.IsInst
import HandS.Deep
import HandS.TupLe
import HandS.Wide
import HandS.Style
import PySem.Challenge.RW_shortdecimals_k09_whole_texts
import PyProof.StrOps2
set_option Elab.async false
set_option linter.all false
set_option maxRecDepth 100000
set_option maxHeartbeats 4000000
/-! DL: a layer of plain data over HandS. A def's body is read as a predicate over lists of plain data (slots); the heap is hidden behind Rep. -/
namespace DL
open PySem PySem.Spec PyProof.Rows L2

/-- the package's errors -/
inductive Er where
  | frac | rng | rul | num | txt | nof
  deriving DecidableEq

/-- plain data at a value, lists tracked as they are -/
inductive Dv (K : PySem.W.Frag) (H : Hp) : V → PyData → Prop
  | non : Dv K H .non .none
  | bl (b : Bool) : Dv K H (.bl b) (.bool b)
  | int (i : Int) : Dv K H (.int i) (.int i)
  | str (x : Str) : Dv K H (.str x) (.str x)
  | lst {a : Addr} {xs : List V} {ds : List PyData} : H a = some (.lst xs) → xs.length = ds.length → (∀ (i : Nat) (v : V) (d : PyData), xs[i]? = some v → ds[i]? = some d → Dv K H v d) → Dv K H (.ref a) (.list ds)
  | tup {a : Addr} {xs : List V} {ds : List PyData} : SqT K H a xs → xs.length = ds.length → (∀ (i : Nat) (v : V) (d : PyData), xs[i]? = some v → ds[i]? = some d → Dv K H v d) → Dv K H (.ref a) (.tuple ds)

/-- lists of values, item by item -/
def DvAll (K : PySem.W.Frag) (H : Hp) (xs : List V) (ds : List PyData) : Prop := xs.length = ds.length ∧ ∀ (i : Nat) (v : V) (d : PyData), xs[i]? = some v → ds[i]? = some d → Dv K H v d

theorem Dv.lst' {K H a} {xs : List V} {ds : List PyData} (h : H a = some (.lst xs)) (q : DvAll K H xs ds) : Dv K H (.ref a) (.list ds) := .lst h q.1 q.2
theorem Dv.tup' {K H a} {xs : List V} {ds : List PyData} (h : SqT K H a xs) (q : DvAll K H xs ds) : Dv K H (.ref a) (.tuple ds) := .tup h q.1 q.2

theorem DvAll.nil {K H} : DvAll K H [] [] := ⟨rfl, fun i v d h => by simp at h⟩
theorem DvAll.cons {K H v d} {vs : List V} {ds : List PyData} (h : Dv K H v d) (q : DvAll K H vs ds) : DvAll K H (v :: vs) (d :: ds) :=
  ⟨by simp [q.1], fun i w e h1 h2 => by
    cases i with
    | zero =>
      simp at h1 h2
      subst h1
      subst h2
      exact h
    | succ i => exact q.2 i w e (by simpa using h1) (by simpa using h2)⟩
theorem DvAll.uncons {K H v d} {vs : List V} {ds : List PyData} (q : DvAll K H (v :: vs) (d :: ds)) : Dv K H v d ∧ DvAll K H vs ds :=
  ⟨q.2 0 v d rfl rfl, by simpa using q.1, fun i w e h1 h2 => q.2 (i + 1) w e (by simpa using h1) (by simpa using h2)⟩
theorem DvAll.nil_inv {K H} {vs : List V} (q : DvAll K H vs []) : vs = [] := List.length_eq_zero_iff.mp q.1
theorem DvAll.cons_inv {K H d} {vs : List V} {ds : List PyData} (q : DvAll K H vs (d :: ds)) : ∃ v r, vs = v :: r ∧ Dv K H v d ∧ DvAll K H r ds := by
  cases vs with
  | nil => exact absurd q.1 (by simp)
  | cons v r => exact ⟨v, r, rfl, q.uncons.1, q.uncons.2⟩
theorem DvAll.append {K H} {vs ws : List V} {ds es : List PyData} (p : DvAll K H vs ds) (q : DvAll K H ws es) : DvAll K H (vs ++ ws) (ds ++ es) := by
  induction vs generalizing ds with
  | nil =>
    cases ds with
    | nil => exact q
    | cons d ds => exact absurd p.1 (by simp)
  | cons v vs ih =>
    cases ds with
    | nil => exact absurd p.1 (by simp)
    | cons d ds => exact .cons p.uncons.1 (ih p.uncons.2)

theorem sqT_mono {K : PySem.W.Frag} {H H' : Hp} {a : Addr} {xs : List V} (e : Same H H') (h : SqT K H a xs) : SqT K H' a xs := by
  rcases h with (h | ⟨o, h⟩) | h
  · exact .inl (.inl (e _ _ h))
  · exact .inl (.inr ⟨o, e _ _ h⟩)
  · exact .inr h

theorem Dv.mono {K : PySem.W.Frag} {H H' : Hp} (e : Same H H') {v : V} {d : PyData} (h : Dv K H v d) : Dv K H' v d := by
  induction h with
  | non => exact .non
  | bl b => exact .bl b
  | int i => exact .int i
  | str x => exact .str x
  | lst h l _ ih => exact .lst (e _ _ h) l ih
  | tup h l _ ih => exact .tup (sqT_mono e h) l ih
theorem DvAll.mono {K : PySem.W.Frag} {H H' : Hp} (e : Same H H') {vs : List V} {ds : List PyData} (q : DvAll K H vs ds) : DvAll K H' vs ds := ⟨q.1, fun i v d h1 h2 => (q.2 i v d h1 h2).mono e⟩

theorem Dv.int_inv {K H v i} (h : Dv K H v (.int i)) : v = .int i := by cases h; rfl
theorem Dv.bl_inv {K H v i} (h : Dv K H v (.bool i)) : v = .bl i := by cases h; rfl
theorem Dv.str_inv {K H v i} (h : Dv K H v (.str i)) : v = .str i := by cases h; rfl
theorem Dv.non_inv {K H v} (h : Dv K H v .none) : v = .non := by cases h; rfl
theorem Dv.list_inv {K H v ds} (h : Dv K H v (.list ds)) : ∃ a xs, v = .ref a ∧ H a = some (.lst xs) ∧ DvAll K H xs ds := by
  cases h with
  | lst h l q => exact ⟨_, _, rfl, h, l, q⟩
theorem Dv.tuple_inv {K H v ds} (h : Dv K H v (.tuple ds)) : ∃ a xs, v = .ref a ∧ SqT K H a xs ∧ DvAll K H xs ds := by
  cases h with
  | tup h l q => exact ⟨_, _, rfl, h, l, q⟩

theorem dpAll_of {K : PySem.W.Frag} {H : Hp} : ∀ {xs : List V} {ds : List PyData}, xs.length = ds.length → (∀ (i : Nat) (v : V) (d : PyData), xs[i]? = some v → ds[i]? = some d → Dp K H v d) → DpAll K H xs ds
  | [], [], _, _ => .nil
  | [], _ :: _, h, _ => absurd h (by simp)
  | _ :: _, [], h, _ => absurd h (by simp)
  | v :: vs, d :: ds, h, q => .cons (q 0 v d rfl rfl) (dpAll_of (by simpa using h) fun i w e h1 h2 => q (i + 1) w e (by simpa using h1) (by simpa using h2))
theorem Dv.dp {K : PySem.W.Frag} {H : Hp} {v : V} {d : PyData} (h : Dv K H v d) : Dp K H v d := by
  induction h with
  | non => exact .non
  | bl b => exact .bl b
  | int i => exact .int i
  | str x => exact .str x
  | lst h l _ ih => exact .lst (.inl (.inl h)) (dpAll_of l ih)
  | tup h l _ ih => exact .tup h (dpAll_of l ih)

/-! ### the frame of a call -/
structure Frm (ex : List Addr) (H Hf H' Hf' : Hp) : Prop where
  keep : ∀ b o, b ∉ ex → H b = some o → H' b = some o
  there : ∀ b o, H b = some o → ∃ o', H' b = some o'
  fz : ∀ b o, H b = some o → Hf' b = Hf b
  sub : Same Hf' H'
theorem Frm.refl {ex : List Addr} {H Hf : Hp} (s : Same Hf H) : Frm ex H Hf H Hf := ⟨fun _ _ _ h => h, fun _ o h => ⟨o, h⟩, fun _ _ _ => rfl, s⟩
theorem Frm.sameF {ex : List Addr} {H Hf H' Hf' : Hp} (f : Frm ex H Hf H' Hf') (s : Same Hf H) : Same Hf Hf' := fun b o h => by
  rw [f.fz b o (s b o h)]
  exact h
theorem Frm.trans {ex ex2 : List Addr} {H0 Hf0 H1 Hf1 H2 Hf2 : Hp} (f : Frm ex H0 Hf0 H1 Hf1) (g : Frm ex2 H1 Hf1 H2 Hf2) (h : ∀ b ∈ ex2, b ∈ ex ∨ H0 b = none) : Frm ex H0 Hf0 H2 Hf2 := by
  refine ⟨fun b o hb e => ?_, fun b o e => ?_, fun b o e => ?_, g.sub⟩
  · refine g.keep b o (fun z => ?_) (f.keep b o hb e)
    rcases h b z with q | q
    · exact hb q
    · rw [q] at e
      cases e
  · obtain ⟨o1, e1⟩ := f.there b o e
    exact g.there b o1 e1
  · obtain ⟨o1, e1⟩ := f.there b o e
    rw [g.fz b o1 e1, f.fz b o e]
theorem Frm.trans0 {ex : List Addr} {H0 Hf0 H1 Hf1 H2 Hf2 : Hp} (f : Frm ex H0 Hf0 H1 Hf1) (g : Frm [] H1 Hf1 H2 Hf2) : Frm ex H0 Hf0 H2 Hf2 := f.trans g fun _ z => nomatch z
theorem same_upd {H : Hp} {p : Addr} {o : HO} (h : H p = none) : Same H (upd H p o) := fun b x e => by
  rw [upd_ne (ne_of_none e h)]
  exact e
/-- a new object, frozen at once -/
theorem Frm.new {ex : List Addr} {H Hf : Hp} {p : Addr} {o : HO} (s : Same Hf H) (h : H p = none) : Frm ex H Hf (upd H p o) (upd Hf p o) := by
  refine ⟨fun b u _ e => same_upd h b u e, fun b u e => ⟨u, same_upd h b u e⟩, fun b u e => upd_ne (ne_of_none e h), fun b u e => ?_⟩
  by_cases hb : b = p
  · subst hb
    rw [upd_same] at e ⊢
    exact e
  · rw [upd_ne hb] at e ⊢
    exact s b u e
/-- a new object, kept as one's own -/
theorem Frm.newOwn {ex : List Addr} {H Hf : Hp} {p : Addr} {o : HO} (s : Same Hf H) (h : H p = none) : Frm ex H Hf (upd H p o) Hf :=
  ⟨fun b u _ e => same_upd h b u e, fun b u e => ⟨u, same_upd h b u e⟩, fun _ _ _ => rfl, fun b u e => same_upd h b u (s b u e)⟩
/-- one's own object changed -/
theorem Frm.mut {ex : List Addr} {H Hf : Hp} {p : Addr} {o : HO} (s : Same Hf H) (hp : p ∈ ex) (hf : Hf p = none) : Frm ex H Hf (upd H p o) Hf := by
  refine ⟨fun b u hb e => ?_, fun b u e => ?_, fun _ _ _ => rfl, fun b u e => ?_⟩
  · rw [upd_ne (fun z => hb (by rw [z]; exact hp))]
    exact e
  · by_cases hb : b = p
    · subst hb
      exact ⟨o, upd_same⟩
    · exact ⟨u, by rw [upd_ne hb]; exact e⟩
  · rw [upd_ne (ne_of_none e hf)]
    exact s b u e

/-! ### slots -/
/-- what a slot is known to hold: data; a list of one's own at p; the draws at a, their numbers at b; the script -/
inductive S where
  | val (d : PyData)
  | own (p : Addr) (ds : List PyData)
  | drw (a b : Addr)
  | scr
  | exn (C : Addr)
  | rdr (p dx l C : Addr) (now : PyData) (past : List PyData)
abbrev Sl := List (Option S)
/-- what is fixed through a def's run -/
structure Gm where
  ex : List Addr
  H0 : Hp
  Hf0 : Hp

/-- a caught exception of the class C, kept as a value -/
def ExK (C a : Addr) : HO := .ext fun h => ∃ (oe : Obj) (vs : Array Value), h.get? a = some oe ∧ (oe.cls = .ref C ∧ oe.dict = none) ∧ oe.data = .fields vs
/-- a reader: its fields; the object at p, its dict at dx, its list at l -/
def rf (v : V) (l : Addr) : List (Str × V) := [("now", v), ("past", .ref l)]
def RdrAt (K : PySem.W.Frag) (H Hf : Hp) (p dx l C : Addr) (now : PyData) (past : List PyData) : Prop := ∃ (vn : V) (vs : List V), H p = some (.ins C dx (rf vn l)) ∧ H dx = some (.own p) ∧ H l = some (.lst vs) ∧ Dv K Hf vn now ∧ DvAll K Hf vs past
def DrwAt (H : Hp) (a b : Addr) : Prop := ∃ (ns : List Int) (k : Int), H a = some (.lst [.ref b, .int k]) ∧ H b = some (.lst (ns.map V.int)) ∧ ns ≠ [] ∧ ns.length ≤ 1000
def SOk (K : PySem.W.Frag) (H Hf : Hp) (v : V) : S → Prop
  | .val d => Dv K Hf v d
  | .own p ds => v = .ref p ∧ ∃ vs, H p = some (.lst vs) ∧ DvAll K Hf vs ds
  | .drw a b => v = .ref a ∧ DrwAt H a b
  | .scr => ∃ (a : Addr) (ns : List Int), v = .ref a ∧ SqL K Hf a (ns.map V.int) ∧ ns.length ≤ 63
  | .exn C => ∃ a : Addr, v = .ref a ∧ Hf a = some (ExK C a)
  | .rdr p dx l C now past => v = .ref p ∧ RdrAt K H Hf p dx l C now past
def foot : Option S → List Addr
  | some (.own p _) => [p]
  | some (.drw a b) => [a, b]
  | some (.rdr p dx l _ _ _) => [p, dx, l]
  | _ => []
def feet (l : Sl) : List Addr := l.flatMap foot

structure Rep (K : PySem.W.Frag) (G : Gm) (H Hf : Hp) (σ : L2.St) (l : Sl) : Prop where
  len : σ.length = l.length
  slot : ∀ (i : Nat) (s : S), l[i]? = some (some s) → ∃ v, σ[i]? = some (some v) ∧ SOk K H Hf v s
  nd : (feet l).Nodup
  free : ∀ b ∈ feet l, Hf b = none ∧ (b ∈ G.ex ∨ G.H0 b = none)
  ownNew : ∀ (i : Nat) (p : Addr) (ds : List PyData), l[i]? = some (some (.own p ds)) → G.H0 p = none
  frm : Frm G.ex G.H0 G.Hf0 H Hf

theorem feet_set_sub {l : Sl} {i : Nat} {x : Option S} (h : foot x = []) : (feet (l.set i x)).Sublist (feet l) := by
  induction l generalizing i with
  | nil => exact List.Sublist.refl _
  | cons y r ih =>
    cases i with
    | zero =>
      show (foot x ++ feet r).Sublist (foot y ++ feet r)
      rw [h]
      exact List.sublist_append_right _ _
    | succ i =>
      show (foot y ++ feet (r.set i x)).Sublist (foot y ++ feet r)
      exact (List.Sublist.refl _).append ih
theorem feet_set_same {l : Sl} {i : Nat} {x y : Option S} (hi : l[i]? = some y) (h : foot x = foot y) : feet (l.set i x) = feet l := by
  induction l generalizing i with
  | nil => simp at hi
  | cons z r ih =>
    cases i with
    | zero =>
      have e : z = y := by simpa using hi
      subst e
      show foot x ++ feet r = foot z ++ feet r
      rw [h]
    | succ i =>
      show foot z ++ feet (r.set i x) = foot z ++ feet r
      rw [ih (by simpa using hi)]
theorem mem_feet {l : Sl} {i : Nat} {x : Option S} {b : Addr} (hi : l[i]? = some x) (hb : b ∈ foot x) : b ∈ feet l := List.mem_flatMap.mpr ⟨x, List.mem_of_getElem? hi, hb⟩
/-- a footed slot put in: its feet new -/
theorem feet_set_nd {l : Sl} {i : Nat} {x : Option S} (hl : (feet l).Nodup) (hx : (foot x).Nodup) (hn : ∀ b ∈ foot x, b ∉ feet l) : (feet (l.set i x)).Nodup ∧ ∀ b ∈ feet (l.set i x), b ∈ feet l ∨ b ∈ foot x := by
  induction l generalizing i with
  | nil => exact ⟨hl, fun b hb => .inl hb⟩
  | cons y r ih =>
    have hl' : (foot y ++ feet r).Nodup := hl
    have hr := (List.nodup_append.mp hl').2.1
    have hn' : ∀ b ∈ foot x, b ∉ foot y ∧ b ∉ feet r := fun b hb => ⟨fun z => hn b hb (show b ∈ foot y ++ feet r from List.mem_append_left _ z), fun z => hn b hb (show b ∈ foot y ++ feet r from List.mem_append_right _ z)⟩
    cases i with
    | zero =>
      show (foot x ++ feet r).Nodup ∧ ∀ b ∈ foot x ++ feet r, b ∈ foot y ++ feet r ∨ b ∈ foot x
      refine ⟨List.nodup_append.mpr ⟨hx, hr, fun b hb c hc e => (hn' b hb).2 (e ▸ hc)⟩, fun b hb => ?_⟩
      rcases List.mem_append.mp hb with z | z
      · exact .inr z
      · exact .inl (List.mem_append_right _ z)
    | succ i =>
      obtain ⟨h1, h2⟩ := ih (i := i) hr fun b hb => (hn' b hb).2
      show (foot y ++ feet (r.set i x)).Nodup ∧ ∀ b ∈ foot y ++ feet (r.set i x), b ∈ foot y ++ feet r ∨ b ∈ foot x
      refine ⟨List.nodup_append.mpr ⟨(List.nodup_append.mp hl').1, h1, fun b hb c hc e => ?_⟩, fun b hb => ?_⟩
      · subst e
        rcases h2 b hc with z | z
        · exact (List.nodup_append.mp hl').2.2 b hb b z rfl
        · exact (hn' b z).1 hb
      · rcases List.mem_append.mp hb with z | z
        · exact .inl (List.mem_append_left _ z)
        · rcases h2 b z with z | z
          · exact .inl (List.mem_append_right _ z)
          · exact .inr z

section
variable {K : PySem.W.Frag} {G : Gm} {H Hf H' Hf' : Hp} {σ : L2.St} {l : Sl}
theorem SOk.grow {v : V} {s : S} (h : SOk K H Hf v s) (f : Frm [] H Hf H' Hf') (sb : Same Hf H) : SOk K H' Hf' v s := by
  cases s with
  | val d => exact Dv.mono (f.sameF sb) h
  | own p ds =>
    obtain ⟨e, vs, h1, h2⟩ := h
    exact ⟨e, vs, f.keep p _ (fun z => nomatch z) h1, h2.mono (f.sameF sb)⟩
  | drw a b =>
    obtain ⟨e, ns, k, h1, h2, h3⟩ := h
    exact ⟨e, ns, k, f.keep a _ (fun z => nomatch z) h1, f.keep b _ (fun z => nomatch z) h2, h3⟩
  | scr =>
    obtain ⟨a, ns, e, h1, h2⟩ := h
    exact ⟨a, ns, e, (f.sameF sb).seq h1, h2⟩
  | exn C =>
    obtain ⟨a, e, h1⟩ := h
    exact ⟨a, e, f.sameF sb _ _ h1⟩
  | rdr p dx l C now past =>
    obtain ⟨e, vn, vs, h1, h2, h3, h4, h5⟩ := h
    exact ⟨e, vn, vs, f.keep p _ (fun z => nomatch z) h1, f.keep dx _ (fun z => nomatch z) h2, f.keep l _ (fun z => nomatch z) h3, h4.mono (f.sameF sb), h5.mono (f.sameF sb)⟩
theorem SOk.there {v : V} {s : S} (h : SOk K H Hf v s) {b : Addr} (hb : b ∈ foot (some s)) : ∃ o, H b = some o := by
  cases s with
  | val d => exact nomatch hb
  | own p ds =>
    obtain ⟨e, vs, h1, h2⟩ := h
    have e : b = p := by simpa [foot] using hb
    exact ⟨_, e ▸ h1⟩
  | drw a c =>
    obtain ⟨e, ns, k, h1, h2, h3⟩ := h
    have e : b = a ∨ b = c := by simpa [foot] using hb
    rcases e with e | e
    · exact ⟨_, e ▸ h1⟩
    · exact ⟨_, e ▸ h2⟩
  | scr => exact nomatch hb
  | exn C => exact nomatch hb
  | rdr p dx l C now past =>
    obtain ⟨e, vn, vs, h1, h2, h3, h4, h5⟩ := h
    have e : b = p ∨ b = dx ∨ b = l := by simpa [foot] using hb
    rcases e with e | e | e
    · exact ⟨_, e ▸ h1⟩
    · exact ⟨_, e ▸ h2⟩
    · exact ⟨_, e ▸ h3⟩
theorem Rep.there (R : Rep K G H Hf σ l) {b : Addr} (hb : b ∈ feet l) : ∃ o, H b = some o := by
  obtain ⟨x, hx, hb⟩ := List.mem_flatMap.mp hb
  obtain ⟨i, hi⟩ := List.getElem?_of_mem hx
  cases x with
  | none => exact nomatch hb
  | some s =>
    obtain ⟨v, _, h⟩ := R.slot i s hi
    exact h.there hb
theorem Rep.grow (R : Rep K G H Hf σ l) (f : Frm [] H Hf H' Hf') : Rep K G H' Hf' σ l := by
  refine ⟨R.len, fun i s h => ?_, R.nd, fun b hb => ?_, R.ownNew, R.frm.trans0 f⟩
  · obtain ⟨v, e, q⟩ := R.slot i s h
    exact ⟨v, e, q.grow f R.frm.sub⟩
  · obtain ⟨o, ho⟩ := R.there hb
    rw [f.fz b o ho]
    exact R.free b hb
theorem Rep.sub (R : Rep K G H Hf σ l) : Same Hf H := R.frm.sub
/-- a slot forgotten -/
theorem Rep.forget (R : Rep K G H Hf σ l) (i : Nat) (o : Option V) : Rep K G H Hf (σ.set i o) (l.set i none) := by
  have sl : (feet (l.set i none)).Sublist (feet l) := feet_set_sub rfl
  have old : ∀ (j : Nat) (s : S), (l.set i none)[j]? = some (some s) → i ≠ j ∧ l[j]? = some (some s) := fun j s h => by
    by_cases e : i = j
    · subst e
      rw [List.getElem?_set_self'] at h
      cases q : l[i]? with
      | none => rw [q] at h; simp at h
      | some y => rw [q] at h; simp at h
    · rw [List.getElem?_set_ne e] at h
      exact ⟨e, h⟩
  refine ⟨by simp [R.len], fun j s h => ?_, R.nd.sublist sl, fun b hb => R.free b (sl.subset hb), fun j p ds h => R.ownNew j p ds (old j _ h).2, R.frm⟩
  obtain ⟨e, h⟩ := old j s h
  rw [List.getElem?_set_ne e]
  exact R.slot j s h
/-- data stored -/
theorem Rep.put (R : Rep K G H Hf σ l) (i : Nat) {v : V} {d : PyData} (h : Dv K Hf v d) : Rep K G H Hf (σ.set i (some v)) (l.set i (some (.val d))) := by
  have sl : (feet (l.set i (some (.val d)))).Sublist (feet l) := feet_set_sub rfl
  refine ⟨by simp [R.len], fun j s q => ?_, R.nd.sublist sl, fun b hb => R.free b (sl.subset hb), fun j p ds q => ?_, R.frm⟩
  · by_cases e : i = j
    · subst e
      have hlt : i < l.length := by
        have z := (List.getElem?_eq_some_iff.mp q).1
        simpa using z
      rw [List.getElem?_set_self hlt] at q
      have e : s = .val d := by simpa using q.symm
      subst e
      exact ⟨v, List.getElem?_set_self (by rw [R.len]; exact hlt), h⟩
    · rw [List.getElem?_set_ne e] at q
      rw [List.getElem?_set_ne e]
      exact R.slot j s q
  · by_cases e : i = j
    · subst e
      have hlt : i < l.length := by
        have z := (List.getElem?_eq_some_iff.mp q).1
        simpa using z
      rw [List.getElem?_set_self hlt] at q
      simp at q
    · rw [List.getElem?_set_ne e] at q
      exact R.ownNew j p ds q
/-- an exception stored -/
theorem Rep.putExn (R : Rep K G H Hf σ l) (i : Nat) {v : V} {C a : Addr} (hv : v = .ref a) (h : Hf a = some (ExK C a)) : Rep K G H Hf (σ.set i (some v)) (l.set i (some (.exn C))) := by
  have sl : (feet (l.set i (some (.exn C)))).Sublist (feet l) := feet_set_sub rfl
  refine ⟨by simp [R.len], fun j s q => ?_, R.nd.sublist sl, fun b hb => R.free b (sl.subset hb), fun j p ds q => ?_, R.frm⟩
  · by_cases e : i = j
    · subst e
      have hlt : i < l.length := by
        have z := (List.getElem?_eq_some_iff.mp q).1
        simpa using z
      rw [List.getElem?_set_self hlt] at q
      have e : s = .exn C := by simpa using q.symm
      subst e
      exact ⟨v, List.getElem?_set_self (by rw [R.len]; exact hlt), a, hv, h⟩
    · rw [List.getElem?_set_ne e] at q
      rw [List.getElem?_set_ne e]
      exact R.slot j s q
  · by_cases e : i = j
    · subst e
      have hlt : i < l.length := by
        have z := (List.getElem?_eq_some_iff.mp q).1
        simpa using z
      rw [List.getElem?_set_self hlt] at q
      simp at q
    · rw [List.getElem?_set_ne e] at q
      exact R.ownNew j p ds q
/-- a new list, one's own, stored -/
theorem Rep.putOwn (R : Rep K G H Hf σ l) (i : Nat) {p : Addr} {vs : List V} {ds : List PyData} (hp : H p = none) (h : DvAll K Hf vs ds) : Rep K G (upd H p (.lst vs)) Hf (σ.set i (some (.ref p))) (l.set i (some (.own p ds))) := by
  have R1 : Rep K G (upd H p (.lst vs)) Hf σ l := R.grow (Frm.newOwn R.sub hp)
  have nin : p ∉ feet l := fun z => by
    obtain ⟨o, ho⟩ := R.there z
    rw [hp] at ho
    cases ho
  have hf0 : G.H0 p = none := by
    cases e : G.H0 p with
    | none => rfl
    | some o =>
      obtain ⟨o', e'⟩ := R.frm.there p o e
      rw [hp] at e'
      cases e'
  have hff : Hf p = none := by
    cases e : Hf p with
    | none => rfl
    | some o =>
      have e' := R.sub p o e
      rw [hp] at e'
      cases e'
  obtain ⟨n1, n2⟩ := feet_set_nd (i := i) (x := some (.own p ds)) R.nd (by simp [foot]) (fun b hb => by
    have e : b = p := by simpa [foot] using hb
    rw [e]
    exact nin)
  refine ⟨by simp [R.len], fun j s q => ?_, n1, fun b hb => ?_, fun j p' ds' q => ?_, R1.frm⟩
  · by_cases e : i = j
    · subst e
      have hlt : i < l.length := by
        have z := (List.getElem?_eq_some_iff.mp q).1
        simpa using z
      rw [List.getElem?_set_self hlt] at q
      have e : s = .own p ds := by simpa using q.symm
      subst e
      exact ⟨.ref p, List.getElem?_set_self (by rw [R.len]; exact hlt), rfl, vs, upd_same, h⟩
    · rw [List.getElem?_set_ne e] at q
      rw [List.getElem?_set_ne e]
      exact R1.slot j s q
  · rcases n2 b hb with z | z
    · exact R.free b z
    · have e : b = p := by simpa [foot] using z
      rw [e]
      exact ⟨hff, .inr hf0⟩
  · by_cases e : i = j
    · subst e
      have hlt : i < l.length := by
        have z := (List.getElem?_eq_some_iff.mp q).1
        simpa using z
      rw [List.getElem?_set_self hlt] at q
      have e : p = p' := by
        have z : S.own p ds = S.own p' ds' := by simpa using q
        exact (S.own.inj z).1
      rw [← e]
      exact hf0
    · rw [List.getElem?_set_ne e] at q
      exact R.ownNew j p' ds' q
theorem feet_ne {i j : Nat} {s s' : S} (nd : (feet l).Nodup) (hi : l[i]? = some (some s)) (hj : l[j]? = some (some s')) (ne : i ≠ j) {b c : Addr} (hb : b ∈ foot (some s)) (hc : c ∈ foot (some s')) : b ≠ c := by
  induction l generalizing i j with
  | nil => simp at hi
  | cons x r ih =>
    have nd' : (foot x ++ feet r).Nodup := nd
    have h3 := (List.nodup_append.mp nd').2.2
    cases i with
    | zero =>
      cases j with
      | zero => exact absurd rfl ne
      | succ j =>
        have e : x = some s := by simpa using hi
        subst e
        exact h3 b hb c (mem_feet (by simpa using hj) hc)
    | succ i =>
      cases j with
      | zero =>
        have e : x = some s' := by simpa using hj
        subst e
        exact fun z => h3 c hc b (mem_feet (by simpa using hi) hb) z.symm
      | succ j => exact ih (List.nodup_append.mp nd').2.1 (by simpa using hi) (by simpa using hj) (by omega)
/-- one's own list changed -/
theorem Rep.mutOwn (R : Rep K G H Hf σ l) {i : Nat} {p : Addr} {ds es : List PyData} {vs : List V} (hi : l[i]? = some (some (.own p ds))) (h : DvAll K Hf vs es) : Rep K G (upd H p (.lst vs)) Hf σ (l.set i (some (.own p es))) := by
  have hlt : i < l.length := (List.getElem?_eq_some_iff.mp hi).1
  have ft : feet (l.set i (some (.own p es))) = feet l := feet_set_same hi rfl
  have pin : p ∈ feet l := mem_feet hi (by simp [foot])
  obtain ⟨pf, pe⟩ := R.free p pin
  refine ⟨by simp [R.len], fun j s q => ?_, by rw [ft]; exact R.nd, fun b hb => R.free b (ft ▸ hb), fun j p' ds' q => ?_, ?_⟩
  · by_cases e : i = j
    · subst e
      rw [List.getElem?_set_self hlt] at q
      have e : s = .own p es := by simpa using q.symm
      subst e
      obtain ⟨v, e1, e2, _⟩ := R.slot i _ hi
      exact ⟨v, e1, e2, vs, upd_same, h⟩
    · rw [List.getElem?_set_ne e] at q
      obtain ⟨v, e1, e2⟩ := R.slot j s q
      refine ⟨v, e1, ?_⟩
      have ne : ∀ b ∈ foot (some s), b ≠ p := fun b hb => feet_ne R.nd q hi (fun z => e z.symm) hb (by simp [foot])
      cases s with
      | val d => exact e2
      | own p' ds' =>
        obtain ⟨e3, ws, h1, h2⟩ := e2
        exact ⟨e3, ws, by rw [upd_ne (ne p' (by simp [foot]))]; exact h1, h2⟩
      | drw a b =>
        obtain ⟨e3, ns, k, h1, h2, h3⟩ := e2
        exact ⟨e3, ns, k, by rw [upd_ne (ne a (by simp [foot]))]; exact h1, by rw [upd_ne (ne b (by simp [foot]))]; exact h2, h3⟩
      | scr => exact e2
      | exn C => exact e2
      | rdr pp dx l C now past =>
        obtain ⟨e3, vn, ws, h1, h2, h3, h4, h5⟩ := e2
        exact ⟨e3, vn, ws, by rw [upd_ne (ne pp (by simp [foot]))]; exact h1, by rw [upd_ne (ne dx (by simp [foot]))]; exact h2, by rw [upd_ne (ne l (by simp [foot]))]; exact h3, h4, h5⟩
  · by_cases e : i = j
    · subst e
      rw [List.getElem?_set_self hlt] at q
      have e : p = p' := by
        have z : S.own p es = S.own p' ds' := by simpa using q
        exact (S.own.inj z).1
      rw [← e]
      exact R.ownNew i p ds hi
    · rw [List.getElem?_set_ne e] at q
      exact R.ownNew j p' ds' q
  · refine R.frm.trans (Frm.mut (ex := [p]) R.sub (by simp) pf) fun b hb => ?_
    have e : b = p := by simpa using hb
    rw [e]
    exact pe
/-- a list of one's own is left as it is from now on -/
theorem Rep.freeze (R : Rep K G H Hf σ l) {i : Nat} {p : Addr} {ds : List PyData} (hi : l[i]? = some (some (.own p ds))) : ∃ Hf', Same Hf Hf' ∧ Rep K G H Hf' σ (l.set i (some (.val (.list ds)))) := by
  have hlt : i < l.length := (List.getElem?_eq_some_iff.mp hi).1
  have pin : p ∈ feet l := mem_feet hi (by simp [foot])
  obtain ⟨pf, _⟩ := R.free p pin
  have p0 := R.ownNew i p ds hi
  obtain ⟨v, e1, e2, vs, e3, e4⟩ := R.slot i _ hi
  have sm : Same Hf (upd Hf p (.lst vs)) := same_upd pf
  have sl : (feet (l.set i (some (.val (.list ds))))).Sublist (feet l) := feet_set_sub rfl
  refine ⟨upd Hf p (.lst vs), sm, by simp [R.len], fun j s q => ?_, R.nd.sublist sl, fun b hb => ?_, fun j p' ds' q => ?_, ⟨R.frm.keep, R.frm.there, fun b o e => ?_, fun b o e => ?_⟩⟩
  · by_cases e : i = j
    · subst e
      rw [List.getElem?_set_self hlt] at q
      have e : s = .val (.list ds) := by simpa using q.symm
      subst e
      refine ⟨v, e1, ?_⟩
      subst e2
      exact .lst' upd_same (e4.mono sm)
    · rw [List.getElem?_set_ne e] at q
      obtain ⟨v, e1, e2⟩ := R.slot j s q
      refine ⟨v, e1, ?_⟩
      cases s with
      | val d => exact Dv.mono sm e2
      | own p' ds' =>
        obtain ⟨e3, ws, h1, h2⟩ := e2
        exact ⟨e3, ws, h1, h2.mono sm⟩
      | drw a b => exact e2
      | scr =>
        obtain ⟨a, ns, e, h1, h2⟩ := e2
        exact ⟨a, ns, e, sm.seq h1, h2⟩
      | exn C =>
        obtain ⟨a, e, h1⟩ := e2
        exact ⟨a, e, sm _ _ h1⟩
      | rdr pp dx l C now past =>
        obtain ⟨e3, vn, ws, h1, h2, h3, h4, h5⟩ := e2
        exact ⟨e3, vn, ws, h1, h2, h3, h4.mono sm, h5.mono sm⟩
  · obtain ⟨f1, f2⟩ := R.free b (sl.subset hb)
    have nb : b ≠ p := fun z => by
      subst z
      obtain ⟨x, hx, hb2⟩ := List.mem_flatMap.mp hb
      obtain ⟨j, hj⟩ := List.getElem?_of_mem hx
      by_cases e : i = j
      · subst e
        rw [List.getElem?_set_self hlt] at hj
        have e : x = some (.val (.list ds)) := by simpa using hj.symm
        subst e
        exact nomatch hb2
      · rw [List.getElem?_set_ne e] at hj
        cases x with
        | none => exact nomatch hb2
        | some s => exact feet_ne R.nd hj hi (fun z => e z.symm) hb2 (by simp [foot]) rfl
    rw [upd_ne nb]
    exact ⟨f1, f2⟩
  · by_cases e : i = j
    · subst e
      rw [List.getElem?_set_self hlt] at q
      simp at q
    · rw [List.getElem?_set_ne e] at q
      exact R.ownNew j p' ds' q
  · rw [upd_ne (ne_of_none e p0)]
    exact R.frm.fz b o e
  · by_cases hb : b = p
    · subst hb
      rw [upd_same] at e
      rw [← e]
      exact e3
    · rw [upd_ne hb] at e
      exact R.sub b o e
/-- what was done may have changed the things at ex2: the slots that stand there are shown anew -/
theorem Rep.growEx {ex2 : List Addr} (R : Rep K G H Hf σ l) (f : Frm ex2 H Hf H' Hf') (he : ∀ b ∈ ex2, b ∈ G.ex ∨ G.H0 b = none)
    (hs : ∀ (i : Nat) (s : S) (v : V), l[i]? = some (some s) → σ[i]? = some (some v) → SOk K H Hf v s → (∀ b ∈ foot (some s), b ∉ ex2) ∨ SOk K H' Hf' v s) : Rep K G H' Hf' σ l := by
  refine ⟨R.len, fun i s h => ?_, R.nd, fun b hb => ?_, R.ownNew, R.frm.trans f he⟩
  · obtain ⟨v, e, q⟩ := R.slot i s h
    refine ⟨v, e, ?_⟩
    rcases hs i s v h e q with z | z
    · cases s with
      | val d => exact Dv.mono (f.sameF R.sub) q
      | own p ds =>
        obtain ⟨e, vs, h1, h2⟩ := q
        exact ⟨e, vs, f.keep p _ (z p (by simp [foot])) h1, h2.mono (f.sameF R.sub)⟩
      | drw a b =>
        obtain ⟨e, ns, k, h1, h2, h3⟩ := q
        exact ⟨e, ns, k, f.keep a _ (z a (by simp [foot])) h1, f.keep b _ (z b (by simp [foot])) h2, h3⟩
      | scr =>
        obtain ⟨a, ns, e, h1, h2⟩ := q
        exact ⟨a, ns, e, (f.sameF R.sub).seq h1, h2⟩
      | exn C =>
        obtain ⟨a, e, h1⟩ := q
        exact ⟨a, e, f.sameF R.sub _ _ h1⟩
      | rdr q dx l C now past =>
        obtain ⟨e, vn, vs, h1, h2, h3, h4, h5⟩ := q
        exact ⟨e, vn, vs, f.keep _ _ (z _ (by simp [foot])) h1, f.keep dx _ (z dx (by simp [foot])) h2, f.keep l _ (z l (by simp [foot])) h3, h4.mono (f.sameF R.sub), h5.mono (f.sameF R.sub)⟩
    · exact z
  · obtain ⟨o, ho⟩ := R.there hb
    rw [f.fz b o ho]
    exact R.free b hb
end
end DL

namespace DL
open PySem PySem.Spec PyProof.Rows L2

/-! ### readings over data -/
abbrev DQ := PyData → Sl → Prop
abbrev DR := Er → Sl → Prop
abbrev DE := Sl → DQ → DR → Prop
abbrev DT := Sl → (Bool → Sl → Prop) → DR → Prop
abbrev DA := Sl → (List PyData → Sl → Prop) → DR → Prop

/-- what the data's ends promise of the run's: a value, frozen -/
def KQ (K : PySem.W.Frag) (G : Gm) (σ : L2.St) (Hf : Hp) (q : DQ) (Q : VK) : Prop := ∀ x l' v H' Hf', q x l' → Rep K G H' Hf' σ l' → Same Hf Hf' → Dv K Hf' v x → Q v H'
/-- a value as it is seen now -/
def KV (K : PySem.W.Frag) (G : Gm) (σ : L2.St) (Hf : Hp) (q : DQ) (Q : VK) : Prop := ∀ x l' v H' Hf', q x l' → Rep K G H' Hf' σ l' → Same Hf Hf' → Dv K H' v x → Q v H'
def KT (K : PySem.W.Frag) (G : Gm) (σ : L2.St) (Hf : Hp) (q : Bool → Sl → Prop) (Q : Bool → Hp → Prop) : Prop := ∀ x l' H' Hf', q x l' → Rep K G H' Hf' σ l' → Same Hf Hf' → Q x H'
def KA (K : PySem.W.Frag) (G : Gm) (σ : L2.St) (Hf : Hp) (n : Nat) (q : List PyData → Sl → Prop) (Q : List V → Hp → Prop) : Prop := ∀ x l' v H' Hf', q x l' → x.length = n → Rep K G H' Hf' σ l' → Same Hf Hf' → DvAll K Hf' v x → Q v H'
def KR (K : PySem.W.Frag) (ca : Er → Addr) (G : Gm) (W : WX) (σ : L2.St) (r : DR) : Prop := ∀ e l' H' Hf', r e l' → Rep K G H' Hf' σ l' → W (.ref (ca e)) none σ H'
def ES (K : PySem.W.Frag) (ca : Er → Addr) (W : WX) (te : TE) (d : DE) : Prop := ∀ (G : Gm) (σ : L2.St) (H Hf : Hp) (l : Sl) (Q : VK) (q : DQ) (r : DR), Rep K G H Hf σ l → KQ K G σ Hf q Q → KR K ca G W σ r → d l q r → te σ H Q
def EV (K : PySem.W.Frag) (ca : Er → Addr) (W : WX) (te : TE) (d : DE) : Prop := ∀ (G : Gm) (σ : L2.St) (H Hf : Hp) (l : Sl) (Q : VK) (q : DQ) (r : DR), Rep K G H Hf σ l → KV K G σ Hf q Q → KR K ca G W σ r → d l q r → te σ H Q
def ET (K : PySem.W.Frag) (ca : Er → Addr) (W : WX) (te : TT) (d : DT) : Prop := ∀ (G : Gm) (σ : L2.St) (H Hf : Hp) (l : Sl) (Q : Bool → Hp → Prop) (q : Bool → Sl → Prop) (r : DR), Rep K G H Hf σ l → KT K G σ Hf q Q → KR K ca G W σ r → d l q r → te σ H Q
def EA (K : PySem.W.Frag) (ca : Er → Addr) (W : WX) (n : Nat) (te : TA) (d : DA) : Prop := ∀ (G : Gm) (σ : L2.St) (H Hf : Hp) (l : Sl) (Q : List V → Hp → Prop) (q : List PyData → Sl → Prop) (r : DR), Rep K G H Hf σ l → KA K G σ Hf n q Q → KR K ca G W σ r → d l q r → te σ H Q
structure PD (X : Cx) (ca : Er → Addr) (W : WX) (e : Expr) (u : TE) (d : DE) : Prop where
  pe : PE X e u
  es : ES X.K ca W u d
structure PV (X : Cx) (ca : Er → Addr) (W : WX) (e : Expr) (u : TE) (d : DE) : Prop where
  pe : PE X e u
  es : EV X.K ca W u d
structure PDT (X : Cx) (ca : Er → Addr) (W : WX) (e : Expr) (u : TT) (d : DT) : Prop where
  pe : PT X e u
  es : ET X.K ca W u d
structure PDW (X : Cx) (ca : Er → Addr) (W : WX) (e : Expr) (u : TT) (d : DT) : Prop where
  pe : PW X e u
  es : ET X.K ca W u d
structure PDA (X : Cx) (ca : Er → Addr) (W : WX) (es : List Expr) (u : TA) (d : DA) : Prop where
  pe : PA X es u
  es : EA X.K ca W es.length u d

def dVar (i : Nat) : DE := fun l Q _ => ∃ d, l[i]? = some (some (.val d)) ∧ Q d l
def dOwn (i : Nat) : DE := fun l Q _ => ∃ p ds, l[i]? = some (some (.own p ds)) ∧ Q (.list ds) l
def dC (d : PyData) : DE := fun l Q _ => Q d l
def dNil : DA := fun l Q _ => Q [] l
def dCons (a : DE) (r : DA) : DA := fun l Q R => a l (fun x l1 => r l1 (fun xs l2 => Q (x :: xs) l2) R) R
def dU (f : PyData → Option PyData) (a : DE) : DE := fun l Q R => a l (fun x l1 => ∃ z, f x = some z ∧ Q z l1) R
def dB (f : PyData → PyData → Option PyData) (a b : DE) : DE := fun l Q R => a l (fun x l1 => b l1 (fun y l2 => ∃ z, f x y = some z ∧ Q z l2) R) R
/-- a comparison -/
def dCmp (f : PyData → PyData → Option Bool) (a b : DE) : DE := fun l Q R => a l (fun x l1 => b l1 (fun y l2 => ∃ z, f x y = some z ∧ Q (.bool z) l2) R) R
def dCmpT (f : PyData → PyData → Option Bool) (a b : DE) : DT := fun l Q R => a l (fun x l1 => b l1 (fun y l2 => ∃ z, f x y = some z ∧ Q z l2) R) R
def dOwnCmp (i : Nat) (f : PyData → PyData → Option Bool) (b : DE) : DE := fun l Q R => ∃ p ds, l[i]? = some (some (.own p ds)) ∧ b l (fun y l2 => ∃ es z, l2[i]? = some (some (.own p es)) ∧ f (.list es) y = some z ∧ Q (.bool z) l2) R
def dOwnCmpT (i : Nat) (f : PyData → PyData → Option Bool) (b : DE) : DT := fun l Q R => ∃ p ds, l[i]? = some (some (.own p ds)) ∧ b l (fun y l2 => ∃ es z, l2[i]? = some (some (.own p es)) ∧ f (.list es) y = some z ∧ Q z l2) R
def dChain (f g : PyData → PyData → Option Bool) (a b c : DE) : DE := fun l Q R => a l (fun x l1 => b l1 (fun y l2 => ∃ z, f x y = some z ∧ if z = true then c l2 (fun w l3 => ∃ u, g y w = some u ∧ Q (.bool u) l3) R else Q (.bool false) l2) R) R
def dChainT (f g : PyData → PyData → Option Bool) (a b c : DE) : DT := fun l Q R => a l (fun x l1 => b l1 (fun y l2 => ∃ z, f x y = some z ∧ if z = true then c l2 (fun w l3 => ∃ u, g y w = some u ∧ Q u l3) R else Q false l2) R) R
def dTest (a : DE) : DT := fun l Q R => a l (fun x l1 => ∃ b, x = .bool b ∧ Q b l1) R
def dAndV (a b : DE) : DE := fun l Q R => a l (fun x l1 => ∃ c, x = .bool c ∧ if c = true then b l1 Q R else Q (.bool false) l1) R
def dOrV (a b : DE) : DE := fun l Q R => a l (fun x l1 => ∃ c, x = .bool c ∧ if c = true then Q (.bool true) l1 else b l1 Q R) R
def dNotV (a : DE) : DE := fun l Q R => a l (fun x l1 => ∃ c, x = .bool c ∧ Q (.bool (!c)) l1) R
def dAnd (a b : DT) : DT := fun l Q R => a l (fun c l1 => if c = true then b l1 Q R else Q false l1) R
def dOr (a b : DT) : DT := fun l Q R => a l (fun c l1 => if c = true then Q true l1 else b l1 Q R) R
def dNot (a : DT) : DT := fun l Q R => a l (fun c l1 => Q (!c) l1) R
def dIf (c : DT) (a b : DE) : DE := fun l Q R => c l (fun k l1 => if k = true then a l1 Q R else b l1 Q R) R
def dTup (a : DA) : DE := fun l Q R => a l (fun xs l1 => xs.length ≤ sizeLine ∧ Q (.tuple xs) l1) R
def dLst (a : DA) : DE := fun l Q R => a l (fun xs l1 => xs.length ≤ sizeLine ∧ Q (.list xs) l1) R

section
variable {X : Cx} {ca : Er → Addr} {W : WX} {a b c e : Expr} {es : List Expr} {ua ub uc : TE} {va vb vc : TT} {da db dc : DE} {ta tb tc : DT} {pos : Pos}


theorem pd_var {i : Nat} (h : PE X e (tVar i)) : PD X ca W e (tVar i) (dVar i) := ⟨h, fun G σ H Hf l Q q r R k _ hd => by
  obtain ⟨d, hi, z⟩ := hd
  obtain ⟨v, e1, e2⟩ := R.slot i _ hi
  exact ⟨v, e1, k _ _ _ _ _ z R (Same.refl _) e2⟩⟩
theorem pv_own {i : Nat} (h : PE X e (tVar i)) : PV X ca W e (tVar i) (dOwn i) := ⟨h, fun G σ H Hf l Q q r R k _ hd => by
  obtain ⟨p, ds, hi, z⟩ := hd
  obtain ⟨v, e1, e2, vs, e3, e4⟩ := R.slot i _ hi
  subst e2
  exact ⟨_, e1, k _ _ _ _ _ z R (Same.refl _) (.lst' e3 (e4.mono R.sub))⟩⟩
theorem PD.pv (h : PD X ca W e ua da) : PV X ca W e ua da := by
  obtain ⟨h1, h2⟩ := h
  exact ⟨h1, fun G σ H Hf l Q q r R k kr hd => h2 G σ H Hf l Q q r R (fun x l' v H' Hf' z R' s d => k x l' v H' Hf' z R' s (d.mono R'.sub)) kr hd⟩
/-- a constant -/
theorem pd_const {v : V} {d : PyData} (h : PE X e (tC v)) (hv : ∀ K H, Dv K H v d) : PD X ca W e (tC v) (dC d) := ⟨h, fun G σ H Hf l Q q r R k _ hd => k _ _ _ _ _ hd R (Same.refl _) (hv _ _)⟩
theorem pd_int {i : Int} {j : Nat} : PD X ca W (.Constant (.int i) j pos) (tC (.int i)) (dC (.int i)) := pd_const pe_int fun _ _ => .int i
theorem pd_bl {i : Bool} {j : Nat} : PD X ca W (.Constant (.bool i) j pos) (tC (.bl i)) (dC (.bool i)) := pd_const pe_bl fun _ _ => .bl i
theorem pd_str {i : Str} {j : Nat} : PD X ca W (.Constant (.str i) j pos) (tC (.str i)) (dC (.str i)) := pd_const pe_str fun _ _ => .str i
theorem pd_non {j : Nat} : PD X ca W (.Constant .none j pos) (tC .non) (dC .none) := pd_const pe_non fun _ _ => .non
/-- arguments -/
theorem pda_nil : PDA X ca W [] tNil dNil := ⟨pa_nil, fun G σ H Hf l Q q r R k _ hd => k _ _ _ _ _ hd rfl R (Same.refl _) .nil⟩
theorem pda_cons {r : DA} {ur : TA} (ha : PD X ca W e ua da) (hr : PDA X ca W es ur r) (hs : starEach (e :: es) X.env = (false, eval e X.env) :: starEach es X.env := by rfl) : PDA X ca W (e :: es) (tCons ua ur) (dCons da r) := by
  obtain ⟨h1, h2⟩ := ha
  obtain ⟨h3, h4⟩ := hr
  refine ⟨pa_cons h1 h3 hs, fun G σ H Hf l Q q r R k kr hd => ?_⟩
  refine h2 G σ H Hf l _ _ r R (fun x l1 v H1 Hf1 z R1 s1 d1 => ?_) kr hd
  refine h4 G σ H1 Hf1 l1 _ _ r R1 (fun xs l2 vs H2 Hf2 z hn R2 s2 d2 => ?_) kr z
  exact k _ _ _ _ _ z (by simp [hn]) R2 (s1.trans s2) (.cons (d1.mono s2) d2)
/-- a binary operator upon frozen data -/
def OpD (K : PySem.W.Frag) (r : R2) (f : PyData → PyData → Option PyData) : Prop := ∀ (x y : V) (dx dy z : PyData) (H Hf : Hp) (Q : VK), Same Hf H → Dv K Hf x dx → Dv K Hf y dy → f dx dy = some z →
  (∀ v H' Hf', Frm [] H Hf H' Hf' → Dv K Hf' v z → Q v H') → r x y H Q
theorem pd_op {op : Operator} {r : R2} {f : PyData → PyData → Option PyData} (ho : OpR X (binaryOp op) r) (hf : OpD X.K r f) (ha : PD X ca W a ua da) (hb : PD X ca W b ub db) : PD X ca W (.BinOp a op b pos) (tOp r ua ub) (dB f da db) := by
  obtain ⟨h1, h2⟩ := ha
  obtain ⟨h3, h4⟩ := hb
  refine ⟨pe_op ho h1 h3, fun G σ H Hf l Q q r R k kr hd => ?_⟩
  refine h2 G σ H Hf l _ _ r R (fun x l1 v H1 Hf1 z R1 s1 d1 => ?_) kr hd
  refine h4 G σ H1 Hf1 l1 _ _ r R1 (fun y l2 v2 H2 Hf2 z R2 s2 d2 => ?_) kr z
  obtain ⟨w, e, z⟩ := z
  exact hf v v2 _ _ _ H2 Hf2 _ R2.sub (d1.mono s2) d2 e fun v3 H3 Hf3 F d3 => k _ _ _ _ _ z (R2.grow F) ((s1.trans s2).trans (F.sameF R2.sub)) d3
/-- the same for a subscript -/
theorem pd_ix {r : R2} {f : PyData → PyData → Option PyData} (hr : IxR X r) (hf : OpD X.K r f) (ha : PD X ca W a ua da) (hb : PD X ca W b ub db) (hs : PlainIx b) : PD X ca W (.Subscript a b pos) (tOp r ua ub) (dB f da db) := by
  obtain ⟨h1, h2⟩ := ha
  obtain ⟨h3, h4⟩ := hb
  refine ⟨pe_ix hr h1 h3 hs, fun G σ H Hf l Q q r R k kr hd => ?_⟩
  refine h2 G σ H Hf l _ _ r R (fun x l1 v H1 Hf1 z R1 s1 d1 => ?_) kr hd
  refine h4 G σ H1 Hf1 l1 _ _ r R1 (fun y l2 v2 H2 Hf2 z R2 s2 d2 => ?_) kr z
  obtain ⟨w, e, z⟩ := z
  exact hf v v2 _ _ _ H2 Hf2 _ R2.sub (d1.mono s2) d2 e fun v3 H3 Hf3 F d3 => k _ _ _ _ _ z (R2.grow F) ((s1.trans s2).trans (F.sameF R2.sub)) d3
/-- a comparison upon data as they are seen -/
def CmD (K : PySem.W.Frag) (r : R2) (f : PyData → PyData → Option Bool) : Prop := ∀ (x y : V) (dx dy : PyData) (z : Bool) (H : Hp) (Q : VK), Dv K H x dx → Dv K H y dy → f dx dy = some z → Q (.bl z) H → r x y H Q
theorem pd_cmp {op : CmpOp} {r : R2} {f : PyData → PyData → Option Bool} (ho : OpR X (compareOp op) r) (hf : CmD X.K r f) (ha : PD X ca W a ua da) (hb : PV X ca W b ub db) (hm : behindInMarks op b = false) : PD X ca W (.Compare a [op] [b] pos) (tOp r ua ub) (dCmp f da db) := by
  obtain ⟨h1, h2⟩ := ha
  obtain ⟨h3, h4⟩ := hb
  refine ⟨pe_cmpR ho h1 h3 hm, fun G σ H Hf l Q q r R k kr hd => ?_⟩
  refine h2 G σ H Hf l _ _ r R (fun x l1 v H1 Hf1 z R1 s1 d1 => ?_) kr hd
  refine h4 G σ H1 Hf1 l1 _ _ r R1 (fun y l2 v2 H2 Hf2 z R2 s2 d2 => ?_) kr z
  obtain ⟨w, e, z⟩ := z
  exact hf v v2 _ _ _ H2 _ (d1.mono (s2.trans R2.sub)) d2 e (k _ _ _ _ _ z R2 (s1.trans s2) (.bl w))
theorem pdt_cmp {op : CmpOp} {r : R2} {f : PyData → PyData → Option Bool} (ho : OpR X (compareOp op) r) (hf : CmD X.K r f) (ha : PD X ca W a ua da) (hb : PV X ca W b ub db) (hm : behindInMarks op b = false) : PDT X ca W (.Compare a [op] [b] pos) (tTest (tOp r ua ub)) (dCmpT f da db) := by
  obtain ⟨h1, h2⟩ := ha
  obtain ⟨h3, h4⟩ := hb
  refine ⟨pt_cmpR ho h1 h3 hm, fun G σ H Hf l Q q r R k kr hd => ?_⟩
  refine h2 G σ H Hf l _ _ r R (fun x l1 v H1 Hf1 z R1 s1 d1 => ?_) kr hd
  refine h4 G σ H1 Hf1 l1 _ _ r R1 (fun y l2 v2 H2 Hf2 z R2 s2 d2 => ?_) kr z
  obtain ⟨w, e, z⟩ := z
  exact hf v v2 _ _ _ H2 _ (d1.mono (s2.trans R2.sub)) d2 e ⟨w, rfl, k _ _ _ _ z R2 (s1.trans s2)⟩
/-- .. the left one a list of one's own -/
theorem pd_ocmp {op : CmpOp} {r : R2} {i : Nat} {f : PyData → PyData → Option Bool} (ho : OpR X (compareOp op) r) (hf : CmD X.K r f) (ha : PE X a (tVar i)) (hb : PV X ca W b ub db) (hm : behindInMarks op b = false) : PD X ca W (.Compare a [op] [b] pos) (tOp r (tVar i) ub) (dOwnCmp i f db) := by
  obtain ⟨h3, h4⟩ := hb
  refine ⟨pe_cmpR ho ha h3 hm, fun G σ H Hf l Q q r R k kr hd => ?_⟩
  obtain ⟨p, ds, hi, hd⟩ := hd
  obtain ⟨v, e1, e2, _⟩ := R.slot i _ hi
  subst e2
  refine ⟨_, e1, ?_⟩
  refine h4 G σ H Hf l _ _ r R (fun y l2 v2 H2 Hf2 z R2 s2 d2 => ?_) kr hd
  obtain ⟨es, w, hi2, e, z⟩ := z
  obtain ⟨v, _, _, vs, e3, e4⟩ := R2.slot i _ hi2
  exact hf _ v2 _ _ _ H2 _ (.lst' e3 (e4.mono R2.sub)) d2 e (k _ _ _ _ _ z R2 s2 (.bl w))
theorem pdt_ocmp {op : CmpOp} {r : R2} {i : Nat} {f : PyData → PyData → Option Bool} (ho : OpR X (compareOp op) r) (hf : CmD X.K r f) (ha : PE X a (tVar i)) (hb : PV X ca W b ub db) (hm : behindInMarks op b = false) : PDT X ca W (.Compare a [op] [b] pos) (tTest (tOp r (tVar i) ub)) (dOwnCmpT i f db) := by
  obtain ⟨h3, h4⟩ := hb
  refine ⟨pt_cmpR ho ha h3 hm, fun G σ H Hf l Q q r R k kr hd => ?_⟩
  obtain ⟨p, ds, hi, hd⟩ := hd
  obtain ⟨v, e1, e2, _⟩ := R.slot i _ hi
  subst e2
  refine ⟨_, e1, ?_⟩
  refine h4 G σ H Hf l _ _ r R (fun y l2 v2 H2 Hf2 z R2 s2 d2 => ?_) kr hd
  obtain ⟨es, w, hi2, e, z⟩ := z
  obtain ⟨v, _, _, vs, e3, e4⟩ := R2.slot i _ hi2
  exact hf _ v2 _ _ _ H2 _ (.lst' e3 (e4.mono R2.sub)) d2 e ⟨w, rfl, k _ _ _ _ z R2 s2⟩
/-- a chain of two -/
theorem pd_chain {op op' : CmpOp} {r r' : R2} {f g : PyData → PyData → Option Bool} (ho : OpR X (compareOp op) r) (hf : CmD X.K r f) (ho' : OpR X (compareOp op') r') (hg : CmD X.K r' g) (ha : PD X ca W a ua da) (hb : PD X ca W b ub db) (hc : PD X ca W c uc dc) (hm : lastMarks [op, op'] [b, c] = false := by rfl) : PD X ca W (.Compare a [op, op'] [b, c] pos) (tChain r r' ua ub uc) (dChain f g da db dc) := by
  obtain ⟨h1, h2⟩ := ha
  obtain ⟨h3, h4⟩ := hb
  obtain ⟨h5, h6⟩ := hc
  refine ⟨pe_chain ho ho' h1 h3 h5 hm, fun G σ H Hf l Q q r R k kr hd => ?_⟩
  refine h2 G σ H Hf l _ _ r R (fun x l1 v H1 Hf1 z R1 s1 d1 => ?_) kr hd
  refine h4 G σ H1 Hf1 l1 _ _ r R1 (fun y l2 v2 H2 Hf2 z R2 s2 d2 => ?_) kr z
  obtain ⟨w, e, z⟩ := z
  refine hf v v2 _ _ _ H2 _ (d1.mono (s2.trans R2.sub)) (d2.mono R2.sub) e ⟨w, rfl, ?_⟩
  cases w with
  | true =>
    rw [if_pos rfl] at z ⊢
    refine h6 G σ H2 Hf2 l2 _ _ r R2 (fun y l3 v3 H3 Hf3 z R3 s3 d3 => ?_) kr z
    obtain ⟨w, e, z⟩ := z
    exact hg v2 v3 _ _ _ H3 _ (d2.mono (s3.trans R3.sub)) (d3.mono R3.sub) e (k _ _ _ _ _ z R3 ((s1.trans s2).trans s3) (.bl w))
  | false =>
    rw [if_neg Bool.false_ne_true] at z ⊢
    exact k _ _ _ _ _ z R2 (s1.trans s2) (.bl _)
theorem pdt_chain {op op' : CmpOp} {r r' : R2} {f g : PyData → PyData → Option Bool} (ho : OpR X (compareOp op) r) (hf : CmD X.K r f) (ho' : OpR X (compareOp op') r') (hg : CmD X.K r' g) (ha : PD X ca W a ua da) (hb : PD X ca W b ub db) (hc : PD X ca W c uc dc) (hm : lastMarks [op, op'] [b, c] = false := by rfl) : PDT X ca W (.Compare a [op, op'] [b, c] pos) (tTest (tChain r r' ua ub uc)) (dChainT f g da db dc) := by
  obtain ⟨h1, h2⟩ := ha
  obtain ⟨h3, h4⟩ := hb
  obtain ⟨h5, h6⟩ := hc
  refine ⟨pt_chain ho ho' h1 h3 h5 hm, fun G σ H Hf l Q q r R k kr hd => ?_⟩
  refine h2 G σ H Hf l _ _ r R (fun x l1 v H1 Hf1 z R1 s1 d1 => ?_) kr hd
  refine h4 G σ H1 Hf1 l1 _ _ r R1 (fun y l2 v2 H2 Hf2 z R2 s2 d2 => ?_) kr z
  obtain ⟨w, e, z⟩ := z
  refine hf v v2 _ _ _ H2 _ (d1.mono (s2.trans R2.sub)) (d2.mono R2.sub) e ⟨w, rfl, ?_⟩
  cases w with
  | true =>
    rw [if_pos rfl] at z ⊢
    refine h6 G σ H2 Hf2 l2 _ _ r R2 (fun y l3 v3 H3 Hf3 z R3 s3 d3 => ?_) kr z
    obtain ⟨w, e, z⟩ := z
    exact hg v2 v3 _ _ _ H3 _ (d2.mono (s3.trans R3.sub)) (d3.mono R3.sub) e ⟨w, rfl, k _ _ _ _ z R3 ((s1.trans s2).trans s3)⟩
  | false =>
    rw [if_neg Bool.false_ne_true] at z ⊢
    exact ⟨_, rfl, k _ _ _ _ z R2 (s1.trans s2)⟩
/-- a value that is a bool, as a test -/
theorem pdt_val (h : PD X ca W e ua da) (he : ∀ whole, isTrue e X.env whole = (do let v ← whole; standAt e.pos; holding [v] (truthy v)) := by intro _; rfl) : PDT X ca W e (L2.tB ua) (dTest da) := by
  obtain ⟨h1, h2⟩ := h
  refine ⟨pt_val h1 he, fun G σ H Hf l Q q r R k kr hd => ?_⟩
  refine h2 G σ H Hf l _ _ r R (fun x l1 v H1 Hf1 z R1 s1 d1 => ?_) kr hd
  obtain ⟨b, rfl, z⟩ := z
  exact ⟨b, d1.bl_inv, k _ _ _ _ z R1 s1⟩
theorem PDW.pt {d : DT} (h : PDW X ca W e va d) : PDT X ca W e va d := by
  obtain ⟨h1, h2⟩ := h
  exact ⟨h1.pt, h2⟩
theorem pdw_and1 (h : PDT X ca W a va ta) : PDW X ca W (.BoolOp .And [a] pos) va ta := by
  obtain ⟨h1, h2⟩ := h
  exact ⟨pw_and1 h1, h2⟩
theorem pdw_or1 (h : PDT X ca W a va ta) : PDW X ca W (.BoolOp .Or [a] pos) va ta := by
  obtain ⟨h1, h2⟩ := h
  exact ⟨pw_or1 h1, h2⟩
theorem pdw_and {rest : List Expr} (ha : PDT X ca W a va ta) (hb : PDW X ca W (.BoolOp .And (b :: rest) pos) vb tb) : PDW X ca W (.BoolOp .And (a :: b :: rest) pos) (tAnd va vb) (dAnd ta tb) := by
  obtain ⟨h1, h2⟩ := ha
  obtain ⟨h3, h4⟩ := hb
  refine ⟨pw_and h1 h3, fun G σ H Hf l Q q r R k kr hd => ?_⟩
  refine h2 G σ H Hf l _ _ r R (fun x l1 H1 Hf1 z R1 s1 => ?_) kr hd
  cases x with
  | true =>
    rw [if_pos rfl] at z ⊢
    exact h4 G σ H1 Hf1 l1 _ _ r R1 (fun x l2 H2 Hf2 z R2 s2 => k _ _ _ _ z R2 (s1.trans s2)) kr z
  | false =>
    rw [if_neg Bool.false_ne_true] at z ⊢
    exact k _ _ _ _ z R1 s1
theorem pdw_or {rest : List Expr} (ha : PDT X ca W a va ta) (hb : PDW X ca W (.BoolOp .Or (b :: rest) pos) vb tb) : PDW X ca W (.BoolOp .Or (a :: b :: rest) pos) (tOr va vb) (dOr ta tb) := by
  obtain ⟨h1, h2⟩ := ha
  obtain ⟨h3, h4⟩ := hb
  refine ⟨pw_or h1 h3, fun G σ H Hf l Q q r R k kr hd => ?_⟩
  refine h2 G σ H Hf l _ _ r R (fun x l1 H1 Hf1 z R1 s1 => ?_) kr hd
  cases x with
  | true =>
    rw [if_pos rfl] at z ⊢
    exact k _ _ _ _ z R1 s1
  | false =>
    rw [if_neg Bool.false_ne_true] at z ⊢
    exact h4 G σ H1 Hf1 l1 _ _ r R1 (fun x l2 H2 Hf2 z R2 s2 => k _ _ _ _ z R2 (s1.trans s2)) kr z
theorem pdt_not (ha : PDT X ca W a va ta) : PDT X ca W (.UnaryOp .Not a pos) (tNot va) (dNot ta) := by
  obtain ⟨h1, h2⟩ := ha
  refine ⟨pt_not h1, fun G σ H Hf l Q q r R k kr hd => ?_⟩
  exact h2 G σ H Hf l _ _ r R (fun x l1 H1 Hf1 z R1 s1 => k _ _ _ _ z R1 s1) kr hd
theorem pd_one {op} (h : PD X ca W a ua da) : PD X ca W (.BoolOp op [a] pos) ua da := by
  obtain ⟨h1, h2⟩ := h
  exact ⟨pe_one h1, h2⟩
theorem pd_and {rest : List Expr} (ha : PD X ca W a ua da) (hb : PD X ca W (.BoolOp .And (b :: rest) pos) ub db) : PD X ca W (.BoolOp .And (a :: b :: rest) pos) (tAndV ua ub) (dAndV da db) := by
  obtain ⟨h1, h2⟩ := ha
  obtain ⟨h3, h4⟩ := hb
  refine ⟨pe_and h1 h3, fun G σ H Hf l Q q r R k kr hd => ?_⟩
  refine h2 G σ H Hf l _ _ r R (fun x l1 v H1 Hf1 z R1 s1 d1 => ?_) kr hd
  obtain ⟨c, rfl, z⟩ := z
  refine ⟨c, d1.bl_inv, ?_⟩
  cases c with
  | true =>
    rw [if_pos rfl] at z ⊢
    exact h4 G σ H1 Hf1 l1 _ _ r R1 (fun x l2 v H2 Hf2 z R2 s2 d2 => k _ _ _ _ _ z R2 (s1.trans s2) d2) kr z
  | false =>
    rw [if_neg Bool.false_ne_true] at z ⊢
    exact k _ _ _ _ _ z R1 s1 (.bl _)
theorem pd_or {rest : List Expr} (ha : PD X ca W a ua da) (hb : PD X ca W (.BoolOp .Or (b :: rest) pos) ub db) : PD X ca W (.BoolOp .Or (a :: b :: rest) pos) (tOrV ua ub) (dOrV da db) := by
  obtain ⟨h1, h2⟩ := ha
  obtain ⟨h3, h4⟩ := hb
  refine ⟨pe_or h1 h3, fun G σ H Hf l Q q r R k kr hd => ?_⟩
  refine h2 G σ H Hf l _ _ r R (fun x l1 v H1 Hf1 z R1 s1 d1 => ?_) kr hd
  obtain ⟨c, rfl, z⟩ := z
  refine ⟨c, d1.bl_inv, ?_⟩
  cases c with
  | true =>
    rw [if_pos rfl] at z ⊢
    exact k _ _ _ _ _ z R1 s1 (.bl _)
  | false =>
    rw [if_neg Bool.false_ne_true] at z ⊢
    exact h4 G σ H1 Hf1 l1 _ _ r R1 (fun x l2 v H2 Hf2 z R2 s2 d2 => k _ _ _ _ _ z R2 (s1.trans s2) d2) kr z
theorem pd_not (ha : PD X ca W a ua da) : PD X ca W (.UnaryOp .Not a pos) (tNotV ua) (dNotV da) := by
  obtain ⟨h1, h2⟩ := ha
  refine ⟨pe_not h1, fun G σ H Hf l Q q r R k kr hd => ?_⟩
  refine h2 G σ H Hf l _ _ r R (fun x l1 v H1 Hf1 z R1 s1 d1 => ?_) kr hd
  obtain ⟨c, rfl, z⟩ := z
  exact ⟨c, d1.bl_inv, k _ _ _ _ _ z R1 s1 (.bl _)⟩
theorem pd_if (hc : PDT X ca W c vc tc) (ha : PD X ca W a ua da) (hb : PD X ca W b ub db) : PD X ca W (.IfExp c a b pos) (tIf vc ua ub) (dIf tc da db) := by
  obtain ⟨h1, h2⟩ := hc
  obtain ⟨h3, h4⟩ := ha
  obtain ⟨h5, h6⟩ := hb
  refine ⟨pe_ifExp h1 h3 h5, fun G σ H Hf l Q q r R k kr hd => ?_⟩
  refine h2 G σ H Hf l _ _ r R (fun x l1 H1 Hf1 z R1 s1 => ?_) kr hd
  cases x with
  | true =>
    rw [if_pos rfl] at z ⊢
    exact h4 G σ H1 Hf1 l1 _ _ r R1 (fun x l2 v H2 Hf2 z R2 s2 d2 => k _ _ _ _ _ z R2 (s1.trans s2) d2) kr z
  | false =>
    rw [if_neg Bool.false_ne_true] at z ⊢
    exact h6 G σ H1 Hf1 l1 _ _ r R1 (fun x l2 v H2 Hf2 z R2 s2 d2 => k _ _ _ _ _ z R2 (s1.trans s2) d2) kr z
theorem pd_tup {x1} {d : DA} {u : TA} (h : PDA X ca W es u d) : PD X ca W (.Tuple es x1 pos) (tTup u) (dTup d) := by
  obtain ⟨h1, h2⟩ := h
  refine ⟨pe_tup h1, fun G σ H Hf l Q q r R k kr hd => ?_⟩
  refine h2 G σ H Hf l _ _ r R (fun xs l1 vs H1 Hf1 z hn R1 s1 d1 => ?_) kr hd
  obtain ⟨hz, z⟩ := z
  refine ⟨by rw [d1.1]; exact hz, fun p hp => ?_⟩
  have F : Frm [] H1 Hf1 (upd H1 p (.tup vs)) (upd Hf1 p (.tup vs)) := Frm.new R1.sub hp
  exact k _ _ _ _ _ z (R1.grow F) (s1.trans (F.sameF R1.sub)) (.tup' (.inl (.inl upd_same)) (d1.mono (F.sameF R1.sub)))
theorem pd_lst {d : DA} {u : TA} (h : PDA X ca W es u d) : PD X ca W (.List es pos) (tLst u) (dLst d) := by
  obtain ⟨h1, h2⟩ := h
  refine ⟨pe_lst h1, fun G σ H Hf l Q q r R k kr hd => ?_⟩
  refine h2 G σ H Hf l _ _ r R (fun xs l1 vs H1 Hf1 z hn R1 s1 d1 => ?_) kr hd
  obtain ⟨hz, z⟩ := z
  refine ⟨by rw [d1.1]; exact hz, fun p hp => ?_⟩
  have F : Frm [] H1 Hf1 (upd H1 p (.lst vs)) (upd Hf1 p (.lst vs)) := Frm.new R1.sub hp
  exact k _ _ _ _ _ z (R1.grow F) (s1.trans (F.sameF R1.sub)) (.lst' upd_same (d1.mono (F.sameF R1.sub)))

/-! ### unary operators, built-ins -/
def UnD (K : PySem.W.Frag) (r : V → Hp → VK → Prop) (f : PyData → Option PyData) : Prop := ∀ (x : V) (dx z : PyData) (H Hf : Hp) (Q : VK), Same Hf H → Dv K Hf x dx → f dx = some z → (∀ v H' Hf', Frm [] H Hf H' Hf' → Dv K Hf' v z → Q v H') → r x H Q
theorem pd_un {op : UnaryOp} {r : V → Hp → VK → Prop} {f : PyData → Option PyData} (ho : UnR X (unaryOp op) r) (hf : UnD X.K r f) (ha : PD X ca W a ua da) : PD X ca W (.UnaryOp op a pos) (tUn r ua) (dU f da) := by
  obtain ⟨h1, h2⟩ := ha
  refine ⟨pe_un ho h1, fun G σ H Hf l Q q r R k kr hd => ?_⟩
  refine h2 G σ H Hf l _ _ r R (fun x l1 v H1 Hf1 z R1 s1 d1 => ?_) kr hd
  obtain ⟨w, e, z⟩ := z
  exact hf v _ _ H1 Hf1 _ R1.sub d1 e fun v3 H3 Hf3 F d3 => k _ _ _ _ _ z (R1.grow F) (s1.trans (F.sameF R1.sub)) d3
/-- a built-in upon its arguments, frozen -/
def CaD (K : PySem.W.Frag) (r : List V → Hp → VK → Prop) (f : List PyData → Option PyData) : Prop := ∀ (xs : List V) (ds : List PyData) (z : PyData) (H Hf : Hp) (Q : VK), Same Hf H → DvAll K Hf xs ds → f ds = some z → (∀ v H' Hf', Frm [] H Hf H' Hf' → Dv K Hf' v z → Q v H') → r xs H Q
def dCaB (f : List PyData → Option PyData) (d : DA) : DE := fun l Q R => d l (fun xs l1 => ∃ z, f xs = some z ∧ Q z l1) R
theorem pd_callB {x : Str} {p : Pos} {id : String} {r : List V → Hp → VK → Prop} {f : List PyData → Option PyData} {d : DA} {u : TA} (hc : CallR X (.builtin id) r) (hf : CaD X.K r f) (hg : Gl X x) (hm : X.mg x = none) (hv : bootBuiltins x = some (.builtin id)) (ha : PDA X ca W (e :: es) u d)
    (hn : x ≠ "__name__" := by decide) (hdb : (x == ("__debug__" : Str)) = false := by decide) (he : starEach (e :: es) X.env = (false, eval e X.env) :: starEach es X.env := by rfl) (hpl : (backTo pos (starEach es X.env)).any (·.1) = false := by rfl) :
    PD X ca W (.Call (.Name x p) (e :: es) [] pos) (tCB r u) (dCaB f d) := by
  obtain ⟨h1, h2⟩ := ha
  refine ⟨pe_callB hc hg hm hv h1 hn hdb he hpl, fun G σ H Hf l Q q r R k kr hd => ?_⟩
  refine h2 G σ H Hf l _ _ r R (fun xs l1 vs H1 Hf1 z hn R1 s1 d1 => ?_) kr hd
  obtain ⟨w, e, z⟩ := z
  exact hf vs _ _ H1 Hf1 _ R1.sub d1 e fun v3 H3 Hf3 F d3 => k _ _ _ _ _ z (R1.grow F) (s1.trans (F.sameF R1.sub)) d3
theorem pd_callTy {x : Str} {p : Pos} {T : String} {r : List V → Hp → VK → Prop} {f : List PyData → Option PyData} {d : DA} {u : TA} (hc : CallR X (.type T) r) (hf : CaD X.K r f) (hg : Gl X x) (hm : X.mg x = none) (hv : bootBuiltins x = some (.type T)) (ha : PDA X ca W (e :: es) u d)
    (hn : x ≠ "__name__" := by decide) (hdb : (x == ("__debug__" : Str)) = false := by decide) (he : starEach (e :: es) X.env = (false, eval e X.env) :: starEach es X.env := by rfl) (hpl : (backTo pos (starEach es X.env)).any (·.1) = false := by rfl) :
    PD X ca W (.Call (.Name x p) (e :: es) [] pos) (tCB r u) (dCaB f d) := by
  obtain ⟨h1, h2⟩ := ha
  refine ⟨pe_callTy hc hg hm hv h1 hn hdb he hpl, fun G σ H Hf l Q q r R k kr hd => ?_⟩
  refine h2 G σ H Hf l _ _ r R (fun xs l1 vs H1 Hf1 z hn R1 s1 d1 => ?_) kr hd
  obtain ⟨w, e, z⟩ := z
  exact hf vs _ _ H1 Hf1 _ R1.sub d1 e fun v3 H3 Hf3 F d3 => k _ _ _ _ _ z (R1.grow F) (s1.trans (F.sameF R1.sub)) d3

/-! ### a def's contract -/
inductive Res where
  | ok (d : PyData)
  | er (e : Er)
/-- from the arguments: what is wanted of the end -/
abbrev Ct := List PyData → (Res → Prop) → Prop
def spD (K : PySem.W.Frag) (ca : Er → Addr) (c : Ct) (n : Nat) : Sp := fun vs H Q E => ∃ (Hf : Hp) (ds : List PyData) (q : Res → Prop), ds.length = n ∧ Same Hf H ∧ DvAll K Hf vs ds ∧ c ds q ∧
  (∀ d v H' Hf', q (.ok d) → Frm [] H Hf H' Hf' → Dv K Hf' v d → Q v H') ∧ (∀ e H' Hf', q (.er e) → Frm [] H Hf H' Hf' → E (.ref (ca e)) none H')
def dCall (c : Ct) (d : DA) : DE := fun l Q R => d l (fun ds l1 => c ds fun r => match r with | .ok x => Q x l1 | .er e => R e l1) R
theorem pd_call {x : Str} {p : Pos} {k n : Nat} {f : Addr} {fd : FuncData} {ps : List Str} {c : Ct} {d : DA} {u : TA} (F : FnOk X.prog X.w X.K X.mg X.base (L2.CX X.prog X.w) k f fd ps (spD X.K ca c n)) (hr : Room k X.A) (hg : Gl X x) (hm : X.mg x = some (.ref f)) (hk : PySem.W.keepIn X.K (.ref f) = true)
    (hb : Binds X.K fd ps []) (tk : Takes X W) (ha : PDA X ca W (e :: es) u d) (hl : (e :: es).length = n := by rfl) (hdb : (x == ("__debug__" : Str)) = false := by decide) (he : starEach (e :: es) X.env = (false, eval e X.env) :: starEach es X.env := by rfl) (hpl : (backTo pos (starEach es X.env)).any (·.1) = false := by rfl) :
    PD X ca W (.Call (.Name x p) (e :: es) [] pos) (tCallS (spD X.K ca c n) (WE W) u) (dCall c d) := by
  obtain ⟨h1, h2⟩ := ha
  refine ⟨pe_callS (E := WE W) F hr hg hm hk hb (fun σ => passAt tk σ) h1 hdb he hpl, fun G σ H Hf l Q q r R k kr hd => ?_⟩
  refine h2 G σ H Hf l _ _ r R (fun xs l1 vs H1 Hf1 z hn R1 s1 d1 => ?_) kr hd
  exact ⟨Hf1, xs, _, hn.trans hl, R1.sub, d1, z, fun d v H' Hf' q' F' dv => k _ _ _ _ _ q' (R1.grow F') (s1.trans (F'.sameF R1.sub)) dv, fun e H' Hf' q' F' => kr _ _ _ _ q' (R1.grow F')⟩
end
end DL

namespace DL
open PySem PySem.Spec PyProof.Rows L2

/-! ### statements -/
structure DEnd where
  nx : Sl → Prop
  rt : PyData → Sl → Prop
  bk : Sl → Prop
  ct : Sl → Prop
  rs : Er → Sl → Prop
abbrev DS := DEnd → Sl → Prop
structure Mt (K : PySem.W.Frag) (ca : Er → Addr) (G : Gm) (W : WX) (Hs : Hp) (D : Ends) (E : DEnd) : Prop where
  nx : ∀ σ' l' H' Hf', E.nx l' → Rep K G H' Hf' σ' l' → Same Hs Hf' → D.nx σ' H'
  rt : ∀ σ' l' v d H' Hf', E.rt d l' → Rep K G H' Hf' σ' l' → Same Hs Hf' → Dv K Hf' v d → D.rt v H'
  bk : ∀ σ' l' H' Hf', E.bk l' → Rep K G H' Hf' σ' l' → Same Hs Hf' → D.bk σ' H'
  ct : ∀ σ' l' H' Hf', E.ct l' → Rep K G H' Hf' σ' l' → Same Hs Hf' → D.ct σ' H'
  rs : ∀ e σ' l' H' Hf', E.rs e l' → Rep K G H' Hf' σ' l' → W (.ref (ca e)) none σ' H'
def SS (K : PySem.W.Frag) (ca : Er → Addr) (W : WX) (t : TS) (d : DS) : Prop := ∀ (G : Gm) (D : Ends) (E : DEnd) (σ : L2.St) (H Hf : Hp) (l : Sl), Rep K G H Hf σ l → Mt K ca G W Hf D E → d E l → t D σ H
structure PDS (X : Cx) (ca : Er → Addr) (W : WX) (s : Stmt) (t : TS) (d : DS) : Prop where
  pe : PS X s t
  es : SS X.K ca W t d
structure PDB (X : Cx) (ca : Er → Addr) (W : WX) (s : List Stmt) (t : TS) (d : DS) : Prop where
  pe : PSs X s t
  es : SS X.K ca W t d
section
variable {K : PySem.W.Frag} {ca : Er → Addr} {G : Gm} {W : WX} {Hs Hs' : Hp} {D : Ends} {E : DEnd}
theorem Mt.later (m : Mt K ca G W Hs D E) (s : Same Hs Hs') : Mt K ca G W Hs' D E :=
  ⟨fun σ' l' H' Hf' h R s' => m.nx σ' l' H' Hf' h R (s.trans s'), fun σ' l' v d H' Hf' h R s' => m.rt σ' l' v d H' Hf' h R (s.trans s'), fun σ' l' H' Hf' h R s' => m.bk σ' l' H' Hf' h R (s.trans s'), fun σ' l' H' Hf' h R s' => m.ct σ' l' H' Hf' h R (s.trans s'), m.rs⟩
theorem Mt.kr (m : Mt K ca G W Hs D E) (σ : L2.St) : KR K ca G W σ E.rs := fun e l' H' Hf' h R => m.rs e σ l' H' Hf' h R
end

def dNext : DS := fun E l => E.nx l
def dSeq (t u : DS) : DS := fun E l => t { E with nx := u E } l
def dBreak : DS := fun E l => E.bk l
def dCont : DS := fun E l => E.ct l
def dNever : DS := fun _ _ => False
def dDrop (d : DE) : DS := fun E l => d l (fun _ l' => E.nx l') E.rs
def dRet (d : DE) : DS := fun E l => d l E.rt E.rs
def dRetN : DS := fun E l => E.rt .none l
def dIfS (c : DT) (t u : DS) : DS := fun E l => c l (fun b l' => if b = true then t E l' else u E l') E.rs
abbrev DG := PyData → Sl → (Sl → Prop) → Prop
abbrev DGs := List PyData → Sl → (Sl → Prop) → Prop
def gN (i : Nat) : DG := fun d l q => q (l.set i (some (.val d)))
def gT (n : Nat) (g : DGs) : DG := fun d l q => ∃ ds, d = .tuple ds ∧ ds.length = n ∧ g ds l q
def gs0 : DGs := fun ds l q => ds = [] ∧ q l
def gs1 (g : DG) (r : DGs) : DGs := fun ds l q => ∃ d t, ds = d :: t ∧ g d l fun l' => r t l' q
def dAsg (d : DE) (g : DG) : DS := fun E l => d l (fun x l' => g x l' E.nx) E.rs
def dPar (i j : Nat) (d : DA) : DS := fun E l => d l (fun xs l' => ∃ x y, xs = [x, y] ∧ E.nx ((l'.set i (some (.val x))).set j (some (.val y)))) E.rs
def dPar3 (i j k : Nat) (d : DA) : DS := fun E l => d l (fun xs l' => ∃ x y z, xs = [x, y, z] ∧ E.nx (((l'.set i (some (.val x))).set j (some (.val y))).set k (some (.val z)))) E.rs
def dAug (i : Nat) (f : PyData → PyData → Option PyData) (d : DE) : DS := fun E l => ∃ x, l[i]? = some (some (.val x)) ∧ d l (fun y l' => ∃ z, f x y = some z ∧ E.nx (l'.set i (some (.val z)))) E.rs
def dOwnNil (i : Nat) : DS := fun E l => ∀ p, E.nx (l.set i (some (.own p [])))
def dApp (i : Nat) (d : DE) : DS := fun E l => ∃ p ds, l[i]? = some (some (.own p ds)) ∧ d l (fun y l' => ∃ es, l'[i]? = some (some (.own p es)) ∧ es.length < sizeLine ∧ E.nx (l'.set i (some (.own p (es ++ [y]))))) E.rs
def dFreeze (i : Nat) (t : DS) : DS := fun E l => ∃ p ds, l[i]? = some (some (.own p ds)) ∧ t E (l.set i (some (.val (.list ds))))
def forW (g : DG) (t : DS) (E : DEnd) : List PyData → Sl → Prop
  | [], l => E.nx l
  | x :: xs, l => g x l fun l2 => t { E with nx := forW g t E xs, ct := forW g t E xs, bk := E.nx } l2
abbrev DI := Sl → (List PyData → Sl → Prop) → DR → Prop
def dFor (w : DI) (g : DG) (t : DS) : DS := fun E l => w l (fun xs l' => forW g t E xs l') E.rs
def whW (c : DT) (t : DS) (E : DEnd) : Nat → Sl → Prop
  | 0, _ => False
  | n + 1, l => c l (fun b l' => if b = true then t { E with nx := whW c t E n, ct := whW c t E n, bk := E.nx } l' else E.nx l') E.rs
def dWhile (c : DT) (t : DS) : DS := fun E l => ∃ n, whW c t E n l

section
variable {X : Cx} {ca : Er → Addr} {W : WX} {a b c e : Expr} {es : List Expr} {ua ub uc : TE} {va vb vc : TT} {da db dc : DE} {ta tb tc : DT} {pos : Pos} {st : Stmt} {rest sa sb : List Stmt} {t u : TS} {d d' : DS}
theorem pdb_nil : PDB X ca W [] tNext dNext := ⟨pss_nil, fun G D E σ H Hf l R m h => m.nx _ _ _ _ h R (Same.refl _)⟩
theorem pdb_cons (h1 : PDS X ca W st t d) (h2 : PDB X ca W rest u d') : PDB X ca W (st :: rest) (tSeq t u) (dSeq d d') :=
  ⟨pss_cons h1.pe h2.pe, fun G D E σ H Hf l R m h => h1.es G { D with nx := u D } { E with nx := d' E } σ H Hf l R
    ⟨fun σ' l' H' Hf' z R' s => h2.es G D E σ' H' Hf' l' R' (m.later s) z, m.rt, m.bk, m.ct, m.rs⟩ h⟩
theorem pdb_one (h : PDS X ca W st t d) : PDB X ca W [st] t d := ⟨pss_one h.pe, h.es⟩
theorem pds_pass : PDS X ca W (.Pass pos) tNext dNext := ⟨ps_pass, fun G D E σ H Hf l R m h => m.nx _ _ _ _ h R (Same.refl _)⟩
theorem pds_break : PDS X ca W (.Break pos) tBreak dBreak := ⟨ps_break, fun G D E σ H Hf l R m h => m.bk _ _ _ _ h R (Same.refl _)⟩
theorem pds_continue : PDS X ca W (.Continue pos) tCont dCont := ⟨ps_continue, fun G D E σ H Hf l R m h => m.ct _ _ _ _ h R (Same.refl _)⟩
theorem pds_never : PDS X ca W st tNever dNever := ⟨ps_never, fun G D E σ H Hf l R m h => h⟩
theorem pdb_never : PDB X ca W rest tNever dNever := ⟨pss_never, fun G D E σ H Hf l R m h => h⟩
theorem pds_expr (h : PD X ca W e ua da) (hs : swapsWith e none pos.line X.env = pure false := by rfl) : PDS X ca W (.Expr e pos) (tDrop ua) (dDrop da) :=
  ⟨ps_expr h.pe hs, fun G D E σ H Hf l R m z => h.es G σ H Hf l _ _ E.rs R (fun x l' v H' Hf' q R' s _ => m.nx _ _ _ _ q R' s) (m.kr σ) z⟩
theorem pds_ret (h : PD X ca W e ua da) : PDS X ca W (.Return (some e) pos) (tRet ua) (dRet da) :=
  ⟨ps_ret h.pe, fun G D E σ H Hf l R m z => h.es G σ H Hf l _ _ E.rs R (fun x l' v H' Hf' q R' s dv => m.rt _ _ _ _ _ _ q R' s dv) (m.kr σ) z⟩
theorem pds_retN : PDS X ca W (.Return none pos) tRetN dRetN := ⟨ps_retN, fun G D E σ H Hf l R m z => m.rt _ _ _ _ _ _ z R (Same.refl _) .non⟩
theorem pds_if (h : PDT X ca W c vc tc) (h1 : PDB X ca W sa t d) (h2 : PDB X ca W sb u d') : PDS X ca W (.If c sa sb pos) (tIfS vc t u) (dIfS tc d d') :=
  ⟨ps_if h.pe h1.pe h2.pe, fun G D E σ H Hf l R m z => h.es G σ H Hf l _ _ E.rs R (fun x l' H' Hf' q R' s => by
    cases x with
    | true =>
      rw [if_pos rfl] at q ⊢
      exact h1.es G D E σ H' Hf' l' R' (m.later s) q
    | false =>
      rw [if_neg Bool.false_ne_true] at q ⊢
      exact h2.es G D E σ H' Hf' l' R' (m.later s) q) (m.kr σ) z⟩
theorem pdb_freeze {i : Nat} (h : PDB X ca W rest t d) : PDB X ca W rest t (dFreeze i d) := ⟨h.pe, fun G D E σ H Hf l R m z => by
  obtain ⟨p, ds, hi, z⟩ := z
  obtain ⟨Hf', s, R'⟩ := R.freeze hi
  exact h.es G D E σ H Hf' _ R' (m.later s) z⟩

/-! targets -/
def GS (K : PySem.W.Frag) (g : TG) (d : DG) : Prop := ∀ (G : Gm) (σ : L2.St) (H Hf : Hp) (l : Sl) (v : V) (x : PyData) (Q : L2.St → Hp → Prop) (q : Sl → Prop), Rep K G H Hf σ l → Dv K Hf v x → (∀ σ' l', q l' → Rep K G H Hf σ' l' → Q σ' H) → d x l q → g v σ H Q
def GSs (K : PySem.W.Frag) (g : TGs) (d : DGs) : Prop := ∀ (G : Gm) (σ : L2.St) (H Hf : Hp) (l : Sl) (v : List V) (x : List PyData) (Q : L2.St → Hp → Prop) (q : Sl → Prop), Rep K G H Hf σ l → DvAll K Hf v x → (∀ σ' l', q l' → Rep K G H Hf σ' l' → Q σ' H) → d x l q → g v σ H Q
structure PDG (X : Cx) (e : Expr) (g : TG) (d : DG) : Prop where
  pe : PG X e g
  es : GS X.K g d
structure PDGs (X : Cx) (e : List Expr) (g : TGs) (d : DGs) : Prop where
  pe : PGs X e g
  es : GSs X.K g d
theorem pdg_name {i : Nat} (h : PG X e (gName i)) : PDG X e (gName i) (gN i) := ⟨h, fun G σ H Hf l v x Q q R dv k z => k _ _ z (R.put i dv)⟩
theorem pdgs_nil : PDGs X [] gNil gs0 := ⟨pgs_nil, fun G σ H Hf l v x Q q R dv k z => by
  obtain ⟨rfl, z⟩ := z
  exact ⟨dv.nil_inv, k _ _ z R⟩⟩
theorem pdgs_cons {g : TG} {r : TGs} {dg : DG} {dr : DGs} (h1 : PDG X e g dg) (h2 : PDGs X es r dr) (hs : (assignEach (e :: es) X.env).map (·.2) = assign e X.env :: (assignEach es X.env).map (·.2) := by rfl) : PDGs X (e :: es) (gCons g r) (gs1 dg dr) :=
  ⟨pgs_cons h1.pe h2.pe hs, fun G σ H Hf l v x Q q R dv k z => by
    obtain ⟨x1, x2, rfl, z⟩ := z
    obtain ⟨v1, v2, rfl, hv1, hv2⟩ := dv.cons_inv
    exact ⟨v1, v2, rfl, h1.es G σ H Hf l v1 x1 _ _ R hv1 (fun σ' l' z R' => h2.es G σ' H Hf l' v2 x2 _ _ R' hv2 k z) z⟩⟩
theorem pdg_tup {k n : Nat} {g : TGs} {dg : DGs} (hc : X.calm = true) (h : PDGs X es g dg) (hn : (assignEach es X.env).length = n := by rfl) (hst : (assignEach es X.env).findIdx? (·.1) = none := by rfl) : PDG X (.Tuple es k pos) (gTup X.K n g) (gT n dg) :=
  ⟨pg_tup hc h.pe hn hst, fun G σ H Hf l v x Q q R dv k z => by
    obtain ⟨ds, rfl, hl, z⟩ := z
    obtain ⟨a, xs, rfl, h1, h2⟩ := dv.tuple_inv
    exact ⟨a, xs, rfl, sqT_mono R.sub h1, by rw [h2.1]; exact hl, h.es G σ H Hf l xs ds _ _ R h2 k z⟩⟩
theorem pds_asg {tg : Expr} {g : TG} {dg : DG} (h : PD X ca W e ua da) (hg : PDG X tg g dg) (hs : swapsWithSole [tg] e pos.line X.env = pure false := by rfl) (hw : swappedStores [tg] e X.env = pure none := by rfl) (h1 : (assignEach [tg] X.env).map (·.2) = [assign tg X.env] := by rfl) :
    PDS X ca W (.Assign [tg] e pos) (tAsg ua g) (dAsg da dg) :=
  ⟨ps_asg h.pe hg.pe hs hw h1, fun G D E σ H Hf l R m z => h.es G σ H Hf l _ _ E.rs R (fun x l' v H' Hf' q R' s dv => hg.es G σ H' Hf' l' v x _ _ R' dv (fun σ' l2 z R2 => m.nx _ _ _ _ z R2 s) q) (m.kr σ) z⟩
/-- name = e; of the kit's rule for it (a store by name) -/
theorem pds_set {i : Nat} {tg : Expr} (h : PD X ca W e ua da) (hp : PE X e ua → PS X (.Assign [tg] e pos) (tAsg ua (gName i))) : PDS X ca W (.Assign [tg] e pos) (tAsg ua (gName i)) (dAsg da (gN i)) :=
  ⟨hp h.pe, fun G D E σ H Hf l R m z => h.es G σ H Hf l _ _ E.rs R (fun x l' v H' Hf' q R' s dv => m.nx _ _ _ _ q (R'.put i dv) s) (m.kr σ) z⟩
theorem pds_par {i j : Nat} {ual : TA} {dal : DA} (h : PDA X ca W [a, b] ual dal) (hp : PA X [a, b] ual → PS X st (tPar i j ual)) : PDS X ca W st (tPar i j ual) (dPar i j dal) :=
  ⟨hp h.pe, fun G D E σ H Hf l R m z => h.es G σ H Hf l _ _ E.rs R (fun xs l' vs H' Hf' q _ R' s dv => by
    obtain ⟨x, y, rfl, q⟩ := q
    obtain ⟨v1, r1, rfl, hv1, hr1⟩ := dv.cons_inv
    obtain ⟨v2, r2, rfl, hv2, hr2⟩ := hr1.cons_inv
    obtain rfl := hr2.nil_inv
    exact ⟨v1, v2, rfl, m.nx _ _ _ _ q ((R'.put i hv1).put j hv2) s⟩) (m.kr σ) z⟩
theorem pds_par3 {i j k : Nat} {ual : TA} {dal : DA} (h : PDA X ca W [a, b, c] ual dal) (hp : PA X [a, b, c] ual → PS X st (tPar3 i j k ual)) : PDS X ca W st (tPar3 i j k ual) (dPar3 i j k dal) :=
  ⟨hp h.pe, fun G D E σ H Hf l R m z => h.es G σ H Hf l _ _ E.rs R (fun xs l' vs H' Hf' q _ R' s dv => by
    obtain ⟨x, y, w, rfl, q⟩ := q
    obtain ⟨v1, r1, rfl, hv1, hr1⟩ := dv.cons_inv
    obtain ⟨v2, r2, rfl, hv2, hr2⟩ := hr1.cons_inv
    obtain ⟨v3, r3, rfl, hv3, hr3⟩ := hr2.cons_inv
    obtain rfl := hr3.nil_inv
    exact ⟨v1, v2, v3, rfl, m.nx _ _ _ _ q (((R'.put i hv1).put j hv2).put k hv3) s⟩) (m.kr σ) z⟩
theorem pds_aug {i : Nat} {ti : TIp} {f : PyData → PyData → Option PyData} (h : PD X ca W e ua da) (hf : OpD X.K ti f) (hp : PE X e ua → PS X st (tAug i ua ti)) : PDS X ca W st (tAug i ua ti) (dAug i f da) :=
  ⟨hp h.pe, fun G D E σ H Hf l R m z => by
    obtain ⟨x, hi, z⟩ := z
    obtain ⟨v, e1, e2⟩ := R.slot i _ hi
    refine ⟨v, e1, h.es G σ H Hf l _ _ E.rs R (fun y l' w H' Hf' q R' s dv => ?_) (m.kr σ) z⟩
    obtain ⟨z, ez, q⟩ := q
    refine hf v w x y z H' Hf' _ R'.sub (Dv.mono s e2) dv ez fun v3 H3 Hf3 F d3 => ?_
    exact m.nx _ _ _ _ q ((R'.grow F).put i d3) (s.trans (F.sameF R'.sub))⟩
/-- name = [] -/
theorem pds_nil {i : Nat} {tg : Expr} {p2 : Pos} (hp : PE X (.List [] p2) (tLst tNil) → PS X (.Assign [tg] (.List [] p2) pos) (tAsg (tLst tNil) (gName i))) : PDS X ca W (.Assign [tg] (.List [] p2) pos) (tAsg (tLst tNil) (gName i)) (dOwnNil i) :=
  ⟨hp (pe_lst pa_nil), fun G D E σ H Hf l R m z => ⟨Nat.zero_le _, fun p hp => m.nx _ _ _ _ (z p) (R.putOwn i hp .nil) (Same.refl _)⟩⟩
/-- name.append(e) -/
theorem pds_app {i : Nat} {o : Expr} (ho : PE X o (tVar i)) (h : PD X ca W e ua da)
    (hp : PE X o (tVar i) → PA X [e] (tCons ua tNil) → PS X st (tDrop (tBM X.K "list" rAppend (tVar i) (tCons ua tNil)))) (hst : starEach [e] X.env = (false, eval e X.env) :: starEach [] X.env := by rfl) : PDS X ca W st (tDrop (tBM X.K "list" rAppend (tVar i) (tCons ua tNil))) (dApp i da) := by
  refine ⟨hp ho (pa_cons h.pe pa_nil hst), fun G D E σ H Hf l R m z => ?_⟩
  obtain ⟨p, ds, hi, z⟩ := z
  obtain ⟨v, e1, e2, vs, e3, e4⟩ := R.slot i _ hi
  subst e2
  refine ⟨_, e1, .inl ⟨rfl, _, .inl (.inl e3)⟩, h.es G σ H Hf l _ _ E.rs R (fun y l' w H' Hf' q R' s dv => ?_) (m.kr σ) z⟩
  obtain ⟨fs, hi', hl, q⟩ := q
  obtain ⟨v, e1', e2', ws, e3', e4'⟩ := R'.slot i _ hi'
  exact ⟨p, ws, w, rfl, rfl, e3', by rw [e4'.1]; exact hl, m.nx _ _ _ _ q (R'.mutOwn hi' (e4'.append (.cons dv .nil))) s⟩

/-! loops -/
/-- how a walk runs over data -/
structure Wk (K : PySem.W.Frag) (J : It) (Hf : Hp) (xs : List PyData) : Prop where
  go : ∀ i H, Same Hf H → i < xs.length → J.go i H
  stop : ∀ i H, Same Hf H → xs.length ≤ i → J.stop i H
  yld : ∀ i H Hf1 v H' d, Same Hf Hf1 → Same Hf1 H → xs[i]? = some d → J.yld i H v H' → ∃ Hf2, Frm [] H Hf1 H' Hf2 ∧ Dv K Hf2 v d
theorem Wk.mono {K : PySem.W.Frag} {J : It} {Hf Hf' : Hp} {xs : List PyData} (w : Wk K J Hf xs) (s : Same Hf Hf') : Wk K J Hf' xs :=
  ⟨fun i H h => w.go i H (s.trans h), fun i H h => w.stop i H (s.trans h), fun i H Hf1 v H' d h => w.yld i H Hf1 v H' d (s.trans h)⟩
def IS (K : PySem.W.Frag) (ca : Er → Addr) (W : WX) (w : TI) (d : DI) : Prop := ∀ (G : Gm) (σ : L2.St) (H Hf : Hp) (l : Sl) (R : It → Hp → Prop) (q : List PyData → Sl → Prop) (r : DR), Rep K G H Hf σ l →
  (∀ xs l' J H' Hf', q xs l' → Rep K G H' Hf' σ l' → Same Hf Hf' → Wk K J Hf' xs → R J H') → KR K ca G W σ r → d l q r → w σ H R
structure PDI (X : Cx) (ca : Er → Addr) (W : WX) (tg e : Expr) (w : TI) (d : DI) : Prop where
  pe : PI X tg e w
  es : IS X.K ca W w d
theorem pds_for {tg : Expr} {w : TI} {wd : DI} {g : TG} {dg : DG} (hp : PassesOwn (model X.prog X.w) X.A X.env X.xe) (hc : X.calm = true) (hi : PDI X ca W tg e w wd) (hg : PDG X tg g dg) (hb : PDB X ca W rest t d)
    (hs : ∀ x, foldedSetIterable e X.env x = pure x := by intro _; rfl) : PDS X ca W (.For tg e rest [] pos) (tFor w g t) (dFor wd dg d) := by
  refine ⟨ps_for hp hc hi.pe hg.pe hb.pe hs, fun G D E σ H Hf l R m z => ?_⟩
  refine hi.es G σ H Hf l _ _ E.rs R (fun xs l1 J H1 Hf1 z1 R1 s1 wk => ?_) (m.kr σ) z
  refine ⟨fun i n σ' H' => n = xs.length - i ∧ ∃ l' Hf', Rep X.K G H' Hf' σ' l' ∧ Same Hf1 Hf' ∧ forW dg d E (xs.drop i) l', ⟨xs.length, by simp, l1, Hf1, R1, Same.refl _, by simpa using z1⟩, ?_⟩
  rintro i n σ' H' ⟨rfl, l', Hf', R', s', z'⟩
  by_cases hlt : i < xs.length
  · right
    have ed : xs.drop i = xs[i] :: xs.drop (i + 1) := List.drop_eq_getElem_cons hlt
    rw [ed] at z'
    refine ⟨wk.go i H' (s'.trans R'.sub) hlt, fun σ2 H2 => ∃ l2 Hf2, Rep X.K G H2 Hf2 σ2 l2 ∧ Same Hf1 Hf2 ∧ forW dg d E (xs.drop (i + 1)) l2, fun σ2 H2 ⟨l2, Hf2, R2, s2, z2⟩ => ⟨xs.length - (i + 1), by omega, rfl, l2, Hf2, R2, s2, z2⟩, fun v H2 y => ?_⟩
    obtain ⟨Hf2, F2, dv⟩ := wk.yld i H' Hf' v H2 xs[i] s' R'.sub (List.getElem?_eq_getElem hlt) y
    have R2 := R'.grow F2
    have s2 : Same Hf1 Hf2 := s'.trans (F2.sameF R'.sub)
    refine hg.es G σ' H2 Hf2 l' v xs[i] _ _ R2 dv (fun σ3 l3 z3 R3 => ?_) z'
    refine hb.es G _ { E with nx := forW dg d E (xs.drop (i + 1)), ct := forW dg d E (xs.drop (i + 1)), bk := E.nx } σ3 H2 Hf2 l3 R3 ⟨fun σ4 l4 H4 Hf4 z4 R4 s4 => ⟨l4, Hf4, R4, s2.trans s4, z4⟩, fun σ4 l4 v4 d4 H4 Hf4 z4 R4 s4 => m.rt _ _ _ _ _ _ z4 R4 ((s1.trans s2).trans s4), fun σ4 l4 H4 Hf4 z4 R4 s4 => m.nx _ _ _ _ z4 R4 ((s1.trans s2).trans s4), fun σ4 l4 H4 Hf4 z4 R4 s4 => ⟨l4, Hf4, R4, s2.trans s4, z4⟩, m.rs⟩ z3
  · left
    have ed : xs.drop i = [] := List.drop_eq_nil_of_le (by omega)
    rw [ed] at z'
    exact ⟨wk.stop i H' (s'.trans R'.sub) (by omega), m.nx _ _ _ _ z' R' (s1.trans s')⟩
theorem pds_while (hp : PassesOwn (model X.prog X.w) X.A X.env X.xe) (h : PDT X ca W c vc tc) (hb : PDB X ca W rest t d) : PDS X ca W (.While c rest [] pos) (tWhile vc t) (dWhile tc d) := by
  refine ⟨ps_while hp h.pe hb.pe, fun G D E σ H Hf l R m z => ?_⟩
  obtain ⟨n, z⟩ := z
  refine ⟨fun n σ' H' => ∃ l' Hf', Rep X.K G H' Hf' σ' l' ∧ Same Hf Hf' ∧ whW tc d E n l', ⟨n, l, Hf, R, Same.refl _, z⟩, ?_⟩
  rintro n σ' H' ⟨l', Hf', R', s', z'⟩
  cases n with
  | zero => exact z'.elim
  | succ n =>
    refine h.es G σ' H' Hf' l' _ _ E.rs R' (fun b l2 H2 Hf2 z2 R2 s2 => ?_) (m.kr σ') z'
    cases b with
    | true =>
      rw [if_pos rfl] at z2 ⊢
      refine ⟨fun σ3 H3 => ∃ l3 Hf3, Rep X.K G H3 Hf3 σ3 l3 ∧ Same Hf Hf3 ∧ whW tc d E n l3, fun σ3 H3 z3 => ⟨n, Nat.lt_succ_self _, z3⟩, ?_⟩
      exact hb.es G _ { E with nx := whW tc d E n, ct := whW tc d E n, bk := E.nx } σ' H2 Hf2 l2 R2 ⟨fun σ4 l4 H4 Hf4 z4 R4 s4 => ⟨l4, Hf4, R4, (s'.trans s2).trans s4, z4⟩, fun σ4 l4 v4 d4 H4 Hf4 z4 R4 s4 => m.rt _ _ _ _ _ _ z4 R4 ((s'.trans s2).trans s4), fun σ4 l4 H4 Hf4 z4 R4 s4 => m.nx _ _ _ _ z4 R4 ((s'.trans s2).trans s4), fun σ4 l4 H4 Hf4 z4 R4 s4 => ⟨l4, Hf4, R4, (s'.trans s2).trans s4, z4⟩, m.rs⟩ z2
    | false =>
      rw [if_neg Bool.false_ne_true] at z2 ⊢
      exact m.nx _ _ _ _ z2 R2 (s'.trans s2)

/-! walks -/
def rngD (lo : Int) (n : Nat) : List PyData := (List.range n).map fun (k : Nat) => PyData.int (lo + k)
theorem rngD_len (lo : Int) (n : Nat) : (rngD lo n).length = n := by simp [rngD]
theorem rngD_get {lo : Int} {n i : Nat} {d : PyData} (h : (rngD lo n)[i]? = some d) : i < n ∧ d = .int (lo + i) := by
  have hi : i < n := by
    have z := (List.getElem?_eq_some_iff.mp h).1
    rwa [rngD_len] at z
  refine ⟨hi, ?_⟩
  simp [rngD, hi] at h
  exact h.symm
def small62 (i : Int) : Bool := decide (-(2 ^ 62) ≤ i) && decide (i < 2 ^ 62)
theorem small62_of {i : Int} (h : small62 i = true) : -(2 ^ 62) ≤ i ∧ i < 2 ^ 62 := by simpa [small62] using h
def dRng1 (d : DA) : DI := fun l Q R => d l (fun xs l' => ∃ j : Int, xs = [.int j] ∧ small62 j = true ∧ Q (rngD 0 j.toNat) l') R
def dRng2 (d : DA) : DI := fun l Q R => d l (fun xs l' => ∃ i j : Int, xs = [.int i, .int j] ∧ small62 i = true ∧ small62 j = true ∧ Q (rngD i (j - i).toNat) l') R
theorem wk_range {K : PySem.W.Frag} {Hf : Hp} (lo : Int) (n : Nat) : Wk K (Itr lo n) Hf (rngD lo n) := by
  refine ⟨fun i H _ h => ?_, fun i H _ h => ?_, fun i H Hf1 v H' d s s' h y => ?_⟩
  · rw [rngD_len] at h
    exact h
  · rw [rngD_len] at h
    exact h
  · obtain ⟨rfl, rfl⟩ := y
    obtain ⟨_, rfl⟩ := rngD_get h
    exact ⟨Hf1, Frm.refl s', .int _⟩
theorem pdi_range1 {tg : Expr} {ual : TA} {dal : DA} {p : Pos} (hg : Gl X "range") (hm : X.mg "range" = none) (h : PDA X ca W [a] ual dal) (hs : starEach [a] X.env = [(false, eval a X.env)] := by rfl) : PDI X ca W tg (.Call (.Name "range" p) [a] [] pos) (iRng1 ual) (dRng1 dal) :=
  ⟨pi_range1 hg hm h.pe hs, fun G σ H Hf l R q r Rp k kr z => h.es G σ H Hf l _ _ r Rp (fun xs l' vs H' Hf' z' _ R' s dv => by
    obtain ⟨j, rfl, hj, z'⟩ := z'
    obtain ⟨v1, r1, rfl, hv1, hr1⟩ := dv.cons_inv
    obtain rfl := hr1.nil_inv
    obtain rfl := hv1.int_inv
    obtain ⟨j1, j2⟩ := small62_of hj
    exact ⟨j, rfl, j1, j2, k _ _ _ _ _ z' R' s (wk_range 0 _)⟩) kr z⟩
theorem pdi_range2 {tg : Expr} {ual : TA} {dal : DA} {p : Pos} (hg : Gl X "range") (hm : X.mg "range" = none) (h : PDA X ca W [a, b] ual dal) (hs : starEach [a, b] X.env = [(false, eval a X.env), (false, eval b X.env)] := by rfl) (hs2 : starEach [b] X.env = [(false, eval b X.env)] := by rfl) : PDI X ca W tg (.Call (.Name "range" p) [a, b] [] pos) (iRng2 ual) (dRng2 dal) :=
  ⟨pi_range2 hg hm h.pe hs hs2, fun G σ H Hf l R q r Rp k kr z => h.es G σ H Hf l _ _ r Rp (fun xs l' vs H' Hf' z' _ R' s dv => by
    obtain ⟨i, j, rfl, hi, hj, z'⟩ := z'
    obtain ⟨v1, r1, rfl, hv1, hr1⟩ := dv.cons_inv
    obtain ⟨v2, r2, rfl, hv2, hr2⟩ := hr1.cons_inv
    obtain rfl := hr2.nil_inv
    obtain rfl := hv1.int_inv
    obtain rfl := hv2.int_inv
    obtain ⟨j1, j2⟩ := small62_of hj
    obtain ⟨i1, i2⟩ := small62_of hi
    exact ⟨i, j, rfl, ⟨i1, i2, j1, j2⟩, k _ _ _ _ _ z' R' s (wk_range i _)⟩) kr z⟩
/-- over a list, a tuple -/
def dItL (d : DE) : DI := fun l Q R => d l (fun x l' => ∃ ds, x = .list ds ∧ Q ds l') R
def dItT (d : DE) : DI := fun l Q R => d l (fun x l' => ∃ ds, x = .tuple ds ∧ Q ds l') R
theorem wk_list {K : PySem.W.Frag} {Hf : Hp} {p : Addr} {vs : List V} {ds : List PyData} (h : Hf p = some (.lst vs)) (q : DvAll K Hf vs ds) : Wk K (Itl K p) Hf ds := by
  refine ⟨fun i H s hi => ?_, fun i H s hi => ?_, fun i H Hf1 v H' d s s' hd y => ?_⟩
  · have hi' : i < vs.length := by rw [q.1]; exact hi
    exact ⟨vs, vs[i], .inl (.inl (s _ _ h)), List.getElem?_eq_getElem hi'⟩
  · exact ⟨vs, .inl (.inl (s _ _ h)), by rw [q.1]; exact hi⟩
  · obtain ⟨rfl, y⟩ := y
    have y1 := y vs (.inl (.inl (s' _ _ (s _ _ h))))
    exact ⟨Hf1, Frm.refl s', (q.2 i v d y1 hd).mono s⟩
theorem wk_tup {K : PySem.W.Frag} {Hf : Hp} {p : Addr} {vs : List V} {ds : List PyData} (h : SqT K Hf p vs) (q : DvAll K Hf vs ds) : Wk K (Itt K p) Hf ds := by
  refine ⟨fun i H s hi => ?_, fun i H s hi => ?_, fun i H Hf1 v H' d s s' hd y => ?_⟩
  · have hi' : i < vs.length := by rw [q.1]; exact hi
    exact ⟨vs, vs[i], sqT_mono s h, List.getElem?_eq_getElem hi'⟩
  · exact ⟨vs, sqT_mono s h, by rw [q.1]; exact hi⟩
  · obtain ⟨rfl, y⟩ := y
    have y1 := y vs (sqT_mono (s.trans s') h)
    exact ⟨Hf1, Frm.refl s', (q.2 i v d y1 hd).mono s⟩
theorem pdi_list {K : PySem.W.Frag} {tg : Expr} (h : PD X ca W a ua da) (hK : X.K = K := by rfl) : PDI X ca W tg a (iList K ua) (dItL da) := by
  subst hK
  exact ⟨pi_list h.pe, fun G σ H Hf l R q r Rp k kr z => h.es G σ H Hf l _ _ r Rp (fun x l' v H' Hf' z' R' s dv => by
    obtain ⟨ds, rfl, z'⟩ := z'
    obtain ⟨p, vs, rfl, h1, h2⟩ := dv.list_inv
    exact ⟨p, rfl, ⟨vs, .inl (.inl (R'.sub _ _ h1))⟩, k _ _ _ _ _ z' R' s (wk_list h1 h2)⟩) kr z⟩
theorem pdi_tup {K : PySem.W.Frag} {tg : Expr} (h : PD X ca W a ua da) (hK : X.K = K := by rfl) : PDI X ca W tg a (iTup K ua) (dItT da) := by
  subst hK
  exact ⟨pi_tup h.pe, fun G σ H Hf l R q r Rp k kr z => h.es G σ H Hf l _ _ r Rp (fun x l' v H' Hf' z' R' s dv => by
    obtain ⟨ds, rfl, z'⟩ := z'
    obtain ⟨p, vs, rfl, h1, h2⟩ := dv.tuple_inv
    exact ⟨p, rfl, ⟨vs, sqT_mono R'.sub h1⟩, k _ _ _ _ _ z' R' s (wk_tup h1 h2)⟩) kr z⟩
end
end DL

namespace DL
open PySem PySem.Spec PyProof.Rows L2

/-! ### list comprehensions -/
def lcW (g : DG) (tt : DT) (de : DE) (lb : Sl) : List PyData → List PyData → (List PyData → Prop) → Prop
  | [], acc, k => k acc
  | x :: xs, acc, k => g x lb fun l2 => tt l2 (fun b l3 => l3 = l2 ∧ if b = true then de l2 (fun y l4 => l4 = l2 ∧ acc.length < sizeLine ∧ lcW g tt de lb xs (acc ++ [y]) k) (fun _ _ => False) else lcW g tt de lb xs acc k) (fun _ _ => False)
def unOwn : Option S → Option S
  | some (.rdr _ _ _ _ _ _) => none
  | some (.own _ _) => none
  | x => x
def wipeL (l : Sl) : List Nat → Sl
  | [] => l
  | v :: vs => (wipeL l vs).set v none
def blkL (l : Sl) (vs : List Nat) : Sl := wipeL (l.map unOwn) vs
def dLc (w : DI) (g : DG) (tt : DT) (de : DE) (vs : List Nat) : DE := fun l Q R => w l (fun xs l1 => lcW g tt de (blkL l1 vs) xs [] fun out => Q (.list out) l1) R
def dYes : DT := fun l Q _ => Q true l

theorem wipe_get (σ : L2.St) : ∀ (vs : List Nat) (j : Nat), (wipe σ vs)[j]? = if j ∈ vs then (σ[j]?.map fun _ => none) else σ[j]?
  | [], j => by simp [wipe]
  | v :: vs, j => by
    have ih := wipe_get σ vs j
    unfold wipe
    by_cases e : v = j
    · subst e
      rw [List.getElem?_set_self']
      by_cases h : v < σ.length
      · have h2 : v < (wipe σ vs).length := by rw [wipe_length]; exact h
        simp [h, h2]
      · have h2 : ¬ v < (wipe σ vs).length := by rw [wipe_length]; exact h
        simp [h, h2]
    · rw [List.getElem?_set_ne e, ih]
      have e2 : j ≠ v := fun z => e z.symm
      simp [e2]
def Agree (vs : List Nat) (σ τ : L2.St) (l m : Sl) : Prop := τ.length = σ.length ∧ ∀ j, j ∉ vs → τ[j]? = σ[j]? ∧ m[j]? = l[j]?
theorem wipe_agree {vs : List Nat} {σ τ : L2.St} {l m : Sl} (h : Agree vs (wipe σ vs) τ l m) : wipe τ vs = wipe σ vs := by
  have hl : τ.length = σ.length := h.1.trans (wipe_length σ vs)
  apply List.ext_getElem?
  intro j
  rw [wipe_get, wipe_get]
  by_cases e : j ∈ vs
  · rw [if_pos e, if_pos e]
    by_cases z : j < σ.length
    · rw [List.getElem?_eq_getElem z, List.getElem?_eq_getElem (by omega)]
      rfl
    · rw [List.getElem?_eq_none (by omega), List.getElem?_eq_none (by omega)]
  · rw [if_neg e, if_neg e, (h.2 j e).1, wipe_get, if_neg e]
theorem wipeL_get (l : Sl) : ∀ (vs : List Nat) (j : Nat) (s : S), (wipeL l vs)[j]? = some (some s) → j ∉ vs ∧ l[j]? = some (some s)
  | [], j, s, h => ⟨by simp, h⟩
  | v :: vs, j, s, h => by
    unfold wipeL at h
    by_cases e : v = j
    · subst e
      rw [List.getElem?_set_self'] at h
      cases q : (wipeL l vs)[v]? with
      | none => rw [q] at h; simp at h
      | some y => rw [q] at h; simp at h
    · rw [List.getElem?_set_ne e] at h
      obtain ⟨h1, h2⟩ := wipeL_get l vs j s h
      exact ⟨by simp only [List.mem_cons, not_or]; exact ⟨fun z => e z.symm, h1⟩, h2⟩
theorem wipeL_len (l : Sl) : ∀ vs : List Nat, (wipeL l vs).length = l.length
  | [] => rfl
  | v :: vs => by unfold wipeL; rw [List.length_set, wipeL_len l vs]
theorem blkL_get {l : Sl} {vs : List Nat} {j : Nat} {s : S} (h : (blkL l vs)[j]? = some (some s)) : j ∉ vs ∧ l[j]? = some (some s) ∧ ∀ p ds, s ≠ .own p ds := by
  obtain ⟨h1, h2⟩ := wipeL_get _ vs j s h
  refine ⟨h1, ?_⟩
  rw [List.getElem?_map] at h2
  cases q : l[j]? with
  | none => rw [q] at h2; simp at h2
  | some y =>
    rw [q] at h2
    have h3 : unOwn y = some s := by simpa using h2
    cases y with
    | none => exact nomatch h3
    | some s' =>
      cases s' with
      | own p ds => exact nomatch h3
      | val d =>
        have e : S.val d = s := Option.some.inj h3
        subst e
        exact ⟨rfl, fun p ds z => nomatch z⟩
      | drw a b =>
        have e : S.drw a b = s := Option.some.inj h3
        subst e
        exact ⟨rfl, fun p ds z => nomatch z⟩
      | scr =>
        have e : S.scr = s := Option.some.inj h3
        subst e
        exact ⟨rfl, fun p ds z => nomatch z⟩
      | exn C =>
        have e : S.exn C = s := Option.some.inj h3
        subst e
        exact ⟨rfl, fun p ds z => nomatch z⟩
      | rdr p dx l C now past => exact nomatch h3
theorem blkL_no {l : Sl} {vs : List Nat} {j : Nat} {p dx q C : Addr} {now : PyData} {past : List PyData} (h : (blkL l vs)[j]? = some (some (.rdr p dx q C now past))) : False := by
  obtain ⟨h1, h2⟩ := wipeL_get _ vs j _ h
  rw [List.getElem?_map] at h2
  cases qq : l[j]? with
  | none => rw [qq] at h2; simp at h2
  | some y =>
    rw [qq] at h2
    have h3 : unOwn y = some (.rdr p dx q C now past) := by simpa using h2
    cases y with
    | none => exact nomatch h3
    | some s' => cases s' <;> exact nomatch h3
theorem feet_sub_of {l l' : Sl} (h : ∀ (j : Nat) (s : S), l'[j]? = some (some s) → l[j]? = some (some s)) {b : Addr} (hb : b ∈ feet l') : b ∈ feet l := by
  obtain ⟨x, hx, hb⟩ := List.mem_flatMap.mp hb
  obtain ⟨j, hj⟩ := List.getElem?_of_mem hx
  cases x with
  | none => exact nomatch hb
  | some s => exact mem_feet (h j s hj) hb
theorem feet_sublist : ∀ {l l' : Sl}, l'.length = l.length → (∀ (j : Nat) (s : S), l'[j]? = some (some s) → l[j]? = some (some s)) → (feet l').Sublist (feet l)
  | [], [], _, _ => List.Sublist.refl _
  | [], _ :: _, h, _ => absurd h (by simp)
  | _ :: _, [], h, _ => absurd h (by simp)
  | x :: l, y :: l', h, q => by
    have ih := feet_sublist (l := l) (l' := l') (by simpa using h) fun j s e => by simpa using q (j + 1) s (by simpa using e)
    show (foot y ++ feet l').Sublist (foot x ++ feet l)
    cases y with
    | none => exact ih.trans (List.sublist_append_right _ _)
    | some s =>
      have e : x = some s := by simpa using q 0 s rfl
      subst e
      exact (List.Sublist.refl _).append ih

/-- targets of a comprehension: only the slots vs are set -/
def GSv (K : PySem.W.Frag) (vs : List Nat) (g : TG) (d : DG) : Prop := ∀ (G : Gm) (σ : L2.St) (H Hf : Hp) (l : Sl) (v : V) (x : PyData) (Q : L2.St → Hp → Prop) (q : Sl → Prop), Rep K G H Hf σ l → Dv K Hf v x →
  (∀ σ' l', q l' → Rep K G H Hf σ' l' → Agree vs σ σ' l l' → Q σ' H) → d x l q → g v σ H Q
def GSvs (K : PySem.W.Frag) (vs : List Nat) (g : TGs) (d : DGs) : Prop := ∀ (G : Gm) (σ : L2.St) (H Hf : Hp) (l : Sl) (v : List V) (x : List PyData) (Q : L2.St → Hp → Prop) (q : Sl → Prop), Rep K G H Hf σ l → DvAll K Hf v x →
  (∀ σ' l', q l' → Rep K G H Hf σ' l' → Agree vs σ σ' l l' → Q σ' H) → d x l q → g v σ H Q
theorem gsv_name {K : PySem.W.Frag} {vs : List Nat} {i : Nat} (hi : i ∈ vs) : GSv K vs (gName i) (gN i) := fun G σ H Hf l v x Q q R dv k z => k _ _ z (R.put i dv) ⟨by simp, fun j hj => by
  have ne : i ≠ j := fun e => hj (by rw [← e]; exact hi)
  rw [List.getElem?_set_ne ne, List.getElem?_set_ne ne]
  exact ⟨rfl, rfl⟩⟩
theorem gsv_nil {K : PySem.W.Frag} {vs : List Nat} : GSvs K vs gNil gs0 := fun G σ H Hf l v x Q q R dv k z => by
  obtain ⟨rfl, z⟩ := z
  exact ⟨dv.nil_inv, k _ _ z R ⟨rfl, fun _ _ => ⟨rfl, rfl⟩⟩⟩
theorem gsv_cons {K : PySem.W.Frag} {vs : List Nat} {g : TG} {r : TGs} {dg : DG} {dr : DGs} (h1 : GSv K vs g dg) (h2 : GSvs K vs r dr) : GSvs K vs (gCons g r) (gs1 dg dr) := fun G σ H Hf l v x Q q R dv k z => by
  obtain ⟨x1, x2, rfl, z⟩ := z
  obtain ⟨v1, v2, rfl, hv1, hv2⟩ := dv.cons_inv
  exact ⟨v1, v2, rfl, h1 G σ H Hf l v1 x1 _ _ R hv1 (fun σ' l' z R' ag => h2 G σ' H Hf l' v2 x2 _ _ R' hv2 (fun σ2 l2 z2 R2 ag2 => k σ2 l2 z2 R2 ⟨ag2.1.trans ag.1, fun j hj => ⟨(ag2.2 j hj).1.trans (ag.2 j hj).1, (ag2.2 j hj).2.trans (ag.2 j hj).2⟩⟩) z) z⟩
theorem gsv_tup {K : PySem.W.Frag} {vs : List Nat} {n : Nat} {g : TGs} {dg : DGs} (h : GSvs K vs g dg) : GSv K vs (gTup K n g) (gT n dg) := fun G σ H Hf l v x Q q R dv k z => by
  obtain ⟨ds, rfl, hl, z⟩ := z
  obtain ⟨a, xs, rfl, h1, h2⟩ := dv.tuple_inv
  exact ⟨a, xs, rfl, sqT_mono R.sub h1, by rw [h2.1]; exact hl, h G σ H Hf l xs ds _ _ R h2 k z⟩

abbrev W0 : WX := fun _ _ _ _ => False

theorem lc_es {K : PySem.W.Frag} {ca : Er → Addr} {W : WX} {wi : TI} {wd : DI} {g : TG} {dg : DG} {tt : TT} {dt : DT} {te : TE} {de : DE} {vs : List Nat} (hi : IS K ca W wi wd) (hg : GSv K vs g dg) (ht : ET K ca W0 tt dt) (he : ES K ca W0 te de) :
    ES K ca W (tLc wi g tt te vs) (dLc wd dg dt de vs) := by
  intro G σ H Hf l Q q r R k kr z
  refine hi G σ H Hf l _ _ r R (fun xs l1 J H1 Hf1 z1 R1 s1 wk => ?_) kr z
  intro D hD
  have dnew : ∀ b ∈ feet l1, b ≠ D := fun b hb e => by
    obtain ⟨o, ho⟩ := R1.there hb
    rw [e, hD] at ho
    cases ho
  have bsub : ∀ (j : Nat) (s : S), (blkL l1 vs)[j]? = some (some s) → l1[j]? = some (some s) := fun j s h => (blkL_get h).2.1
  have exsub : ∀ b ∈ feet (blkL l1 vs), b ∈ feet l1 := fun b hb => feet_sub_of bsub hb
  have blen : (blkL l1 vs).length = l1.length := by unfold blkL; rw [wipeL_len, List.length_map]
  -- what holds ahead of turn i
  refine ⟨fun i m H' => m = xs.length - i ∧ ∃ (Hf' : Hp) (acc : List V) (accd : List PyData), H' D = some (.lst acc) ∧ Hf' D = none ∧ DvAll K Hf' acc accd ∧ Frm (feet (blkL l1 vs)) H1 Hf1 H' Hf' ∧
      (∀ (j : Nat) (a b : Addr), (blkL l1 vs)[j]? = some (some (.drw a b)) → DrwAt H' a b) ∧ lcW dg dt de (blkL l1 vs) (xs.drop i) accd (fun out => q (.list out) l1), ⟨xs.length, by simp, Hf1, [], [], upd_same, ?_, .nil, ⟨fun b o _ e => ?_, fun b o e => ?_, fun _ _ _ => rfl, fun b o e => ?_⟩, fun j a b hj => ?_, by simpa using z1⟩, ?_⟩
  · cases e : Hf1 D with
    | none => rfl
    | some o =>
      have e' := R1.sub D o e
      rw [hD] at e'
      cases e'
  · exact same_upd hD b o e
  · exact ⟨o, same_upd hD b o e⟩
  · exact same_upd hD b o (R1.sub b o e)
  · obtain ⟨v, _, _, ns, kk, h1, h2, h3⟩ := R1.slot j _ (bsub j _ hj)
    exact ⟨ns, kk, same_upd hD _ _ h1, same_upd hD _ _ h2, h3⟩
  · rintro i m H' ⟨rfl, Hf', acc, accd, eD, fD, hacc, F, hdrw, zz⟩
    have sF : Same Hf1 Hf' := F.sameF R1.sub
    by_cases hlt : i < xs.length
    · right
      have ed : xs.drop i = xs[i] :: xs.drop (i + 1) := List.drop_eq_getElem_cons hlt
      rw [ed] at zz
      refine ⟨wk.go i H' (sF.trans F.sub) hlt, fun H2 => ∃ (Hf2 : Hp) (acc : List V) (accd : List PyData), H2 D = some (.lst acc) ∧ Hf2 D = none ∧ DvAll K Hf2 acc accd ∧ Frm (feet (blkL l1 vs)) H1 Hf1 H2 Hf2 ∧
        (∀ (j : Nat) (a b : Addr), (blkL l1 vs)[j]? = some (some (.drw a b)) → DrwAt H2 a b) ∧ lcW dg dt de (blkL l1 vs) (xs.drop (i + 1)) accd (fun out => q (.list out) l1), fun H2 h2 => ⟨xs.length - (i + 1), by omega, rfl, h2⟩, fun v H2 y => ?_⟩
      obtain ⟨Hf2, F2, dv⟩ := wk.yld i H' Hf' v H2 xs[i] sF F.sub (List.getElem?_eq_getElem hlt) y
      have eD2 : H2 D = some (.lst acc) := F2.keep D _ (fun z => nomatch z) eD
      have fD2 : Hf2 D = none := by rw [F2.fz D _ eD]; exact fD
      -- the block's own frame
      have RB : Rep K ⟨feet (blkL l1 vs), H2, Hf2⟩ H2 Hf2 (wipe σ vs) (blkL l1 vs) := by
        have G12 : Frm (feet (blkL l1 vs)) H1 Hf1 H2 Hf2 := F.trans0 F2
        refine ⟨by rw [wipe_length, blen]; exact R1.len, fun j s hj => ?_, R1.nd.sublist (feet_sublist blen bsub), fun b hb => ⟨?_, .inl hb⟩, fun j p ds hj => absurd rfl ((blkL_get hj).2.2 p ds), Frm.refl F2.sub⟩
        · obtain ⟨n1, n2, n3⟩ := blkL_get hj
          obtain ⟨w, e1, e2⟩ := R1.slot j s n2
          refine ⟨w, by rw [wipe_get, if_neg n1]; exact e1, ?_⟩
          cases s with
          | val d => exact Dv.mono (G12.sameF R1.sub) e2
          | own p ds => exact absurd rfl (n3 p ds)
          | drw a b =>
            obtain ⟨ns, kk, h1, h2, h3⟩ := hdrw j a b hj
            exact ⟨e2.1, ns, kk, F2.keep _ _ (fun z => nomatch z) h1, F2.keep _ _ (fun z => nomatch z) h2, h3⟩
          | scr =>
            obtain ⟨a, ns, e, h1, h2⟩ := e2
            exact ⟨a, ns, e, (G12.sameF R1.sub).seq h1, h2⟩
          | exn C =>
            obtain ⟨a, e, h1⟩ := e2
            exact ⟨a, e, G12.sameF R1.sub _ _ h1⟩
          | rdr p dx l C now past => exact (blkL_no hj).elim
        · obtain ⟨o, ho⟩ := R1.there (exsub b hb)
          rw [G12.fz b o ho]
          exact (R1.free b (exsub b hb)).1
      refine hg ⟨feet (blkL l1 vs), H2, Hf2⟩ (wipe σ vs) H2 Hf2 (blkL l1 vs) v xs[i] _ _ RB dv (fun σ2 l2 z2 R2 ag => ?_) zz
      refine ⟨wipe_agree ag, ?_⟩
      -- what the turn leaves
      have back : ∀ (H4 Hf4 : Hp), Rep K ⟨feet (blkL l1 vs), H2, Hf2⟩ H4 Hf4 σ2 l2 → Frm (feet (blkL l1 vs)) H1 Hf1 H4 Hf4 ∧ H4 D = some (.lst acc) ∧ Hf4 D = none ∧ (∀ (j : Nat) (a b : Addr), (blkL l1 vs)[j]? = some (some (.drw a b)) → DrwAt H4 a b) := by
        intro H4 Hf4 R4
        have f4 : Frm (feet (blkL l1 vs)) H2 Hf2 H4 Hf4 := R4.frm
        refine ⟨(F.trans0 F2).trans f4 fun b hb => .inl hb, f4.keep D _ (fun z => dnew D (exsub D z) rfl) eD2, by rw [f4.fz D _ eD2]; exact fD2, fun j a b hj => ?_⟩
        obtain ⟨n1, _, _⟩ := blkL_get hj
        obtain ⟨w, _, _, h⟩ := R4.slot j _ ((ag.2 j n1).2.trans hj)
        exact h
      refine ht ⟨feet (blkL l1 vs), H2, Hf2⟩ σ2 H2 Hf2 l2 _ _ (fun _ _ => False) R2 (fun b l3 H3 Hf3 z3 R3 s3 => ?_) (fun _ _ _ _ z => z.elim) z2
      obtain ⟨rfl, z3⟩ := z3
      cases b with
      | false =>
        rw [if_neg Bool.false_ne_true] at z3 ⊢
        obtain ⟨b1, b2, b3, b4⟩ := back H3 Hf3 R3
        exact ⟨Hf3, acc, accd, b2, b3, hacc.mono ((F2.sameF F.sub).trans s3), b1, b4, z3⟩
      | true =>
        rw [if_pos rfl] at z3 ⊢
        refine he ⟨feet (blkL l1 vs), H2, Hf2⟩ σ2 H3 Hf3 _ _ _ (fun _ _ => False) R3 (fun y l4 w H4 Hf4 z4 R4 s4 dw => ?_) (fun _ _ _ _ z => z.elim) z3
        obtain ⟨rfl, hsz, z4⟩ := z4
        obtain ⟨b1, b2, b3, b4⟩ := back H4 Hf4 R4
        have sacc : DvAll K Hf4 acc accd := hacc.mono (((F2.sameF F.sub).trans s3).trans s4)
        refine ⟨acc, b2, by rw [sacc.1]; exact hsz, Hf4, acc ++ [w], accd ++ [y], upd_same, b3, sacc.append (.cons dw .nil), ⟨fun b o hb e => ?_, fun b o e => ?_, b1.fz, fun b o e => ?_⟩, fun j a b hj => ?_, z4⟩
        · rw [upd_ne (ne_of_none e hD)]
          exact b1.keep b o hb e
        · rw [upd_ne (ne_of_none e hD)]
          exact b1.there b o e
        · rw [upd_ne (ne_of_none e b3)]
          exact b1.sub b o e
        · obtain ⟨ns, kk, h1, h2, h3⟩ := b4 j a b hj
          have na : a ≠ D := dnew a (mem_feet (bsub j _ hj) (by simp [foot]))
          have nb : b ≠ D := dnew b (mem_feet (bsub j _ hj) (by simp [foot]))
          exact ⟨ns, kk, by rw [upd_ne na]; exact h1, by rw [upd_ne nb]; exact h2, h3⟩
    · left
      have ed : xs.drop i = [] := List.drop_eq_nil_of_le (by omega)
      rw [ed] at zz
      refine ⟨wk.stop i H' (sF.trans F.sub) (by omega), ?_⟩
      have FE : Frm (feet (blkL l1 vs)) H1 Hf1 H' (upd Hf' D (.lst acc)) := by
        refine ⟨F.keep, F.there, fun b o e => ?_, fun b o e => ?_⟩
        · rw [upd_ne (ne_of_none e hD)]
          exact F.fz b o e
        · by_cases hb : b = D
          · subst hb
            rw [upd_same] at e
            rw [← e]
            exact eD
          · rw [upd_ne hb] at e
            exact F.sub b o e
      have sE : Same Hf' (upd Hf' D (.lst acc)) := same_upd fD
      have RE : Rep K G H' (upd Hf' D (.lst acc)) σ l1 := by
        refine R1.growEx FE (fun b hb => (R1.free b (exsub b hb)).2) fun j s v hj hv hs => ?_
        cases s with
        | val d => exact .inl fun b hb => nomatch hb
        | scr => exact .inl fun b hb => nomatch hb
        | exn C => exact .inl fun b hb => nomatch hb
        | rdr p dx l C now past =>
          refine .inl fun b hb z => ?_
          obtain ⟨x, hx, hb2⟩ := List.mem_flatMap.mp z
          obtain ⟨j2, hj2⟩ := List.getElem?_of_mem hx
          cases x with
          | none => exact nomatch hb2
          | some s2 =>
            obtain ⟨_, n2, n3⟩ := blkL_get hj2
            by_cases e : j2 = j
            · subst e
              rw [hj] at n2
              have e2 : S.rdr p dx l C now past = s2 := by simpa using n2
              subst e2
              exact blkL_no hj2
            · exact feet_ne R1.nd n2 hj e hb2 hb rfl
        | own p ds =>
          refine .inl fun b hb z => ?_
          have e : b = p := by simpa [foot] using hb
          subst e
          obtain ⟨x, hx, hb2⟩ := List.mem_flatMap.mp z
          obtain ⟨j2, hj2⟩ := List.getElem?_of_mem hx
          cases x with
          | none => exact nomatch hb2
          | some s2 =>
            obtain ⟨_, n2, n3⟩ := blkL_get hj2
            by_cases e : j2 = j
            · subst e
              rw [hj] at n2
              have e2 : S.own b ds = s2 := by simpa using n2
              exact n3 b ds e2.symm
            · exact feet_ne R1.nd n2 hj e hb2 (by simp [foot]) rfl
        | drw a b =>
          -- a draws' slot: either it stands in the block as well, or its feet are not touched
          by_cases hb : (blkL l1 vs)[j]? = some (some (.drw a b))
          · exact .inr ⟨hs.1, hdrw j a b hb⟩
          · refine .inl fun c hc z => ?_
            obtain ⟨x, hx, hb2⟩ := List.mem_flatMap.mp z
            obtain ⟨j2, hj2⟩ := List.getElem?_of_mem hx
            cases x with
            | none => exact nomatch hb2
            | some s2 =>
              obtain ⟨_, n2, n3⟩ := blkL_get hj2
              by_cases e : j2 = j
              · subst e
                rw [hj] at n2
                have e2 : S.drw a b = s2 := by simpa using n2
                exact hb (by rw [e2]; exact hj2)
              · exact feet_ne R1.nd n2 hj e hb2 hc rfl
      exact k _ _ _ _ _ zz RE ((s1.trans sF).trans sE) (.lst' upd_same (hacc.mono sE))

structure PDTs (X : Cx) (ca : Er → Addr) (W : WX) (ifs : List Expr) (v : TT) (d : DT) : Prop where
  pe : PTs X ifs v
  es : ET X.K ca W v d
section
variable {X : Cx} {ca : Er → Addr} {W : WX} {a b c e : Expr} {va : TT} {ta : DT} {pos : Pos}
theorem pdts_nil : PDTs X ca W [] tYes dYes := ⟨pts_nil, fun G σ H Hf l Q q r R k kr z => k _ _ _ _ z R (Same.refl _)⟩
theorem pdts_one (h : PDT X ca W a va ta) : PDTs X ca W [a] va ta := ⟨pts_one h.pe, h.es⟩
/-- the target's rule in each block, one reading -/
theorem pd_lc {elt tg iter : Expr} {ifs : List Expr} {scope : Scope} {own : List (Str × Nat)} {wi : TI} {wd : DI} {g : TG} {dg : DG} {tt : TT} {dt : DT} {te : TE} {de : DE} (hc : X.calm = true) (hN : X.N.Nodup) (hi : PDI X ca W tg iter wi wd) (ok : BlkOk X.N X.env.scope scope own)
    (hg : ∀ (s : Shared) (H : Hp) (C : Addr) (cl : List (Str × Addr)) (fp : List Addr), PG (X.blk s H scope (compEnvC scope cl C X.env) fp) tg g) (hgs : GSv X.K (own.map (·.2)) g dg)
    (ht : ∀ (s : Shared) (H : Hp) (C : Addr) (cl : List (Str × Addr)) (fp : List Addr), PDTs (X.blk s H scope (compEnvC scope cl C X.env) fp) ca W0 ifs tt dt)
    (he : ∀ (s : Shared) (H : Hp) (C : Addr) (cl : List (Str × Addr)) (fp : List Addr), PD (X.blk s H scope (compEnvC scope cl C X.env) fp) ca W0 elt te de) (hs : ∀ x, foldedSetIterable iter X.env x = pure x := by intro _; rfl) :
    PD X ca W (.ListComp elt [⟨tg, iter, ifs, 0⟩] scope pos) (tLc wi g tt te (own.map (·.2))) (dLc wd dg dt de (own.map (·.2))) :=
  ⟨pe_lc hc hN hi.pe ok hg (fun s H C cl fp => (ht s H C cl fp).pe) (fun s H C cl fp => (he s H C cl fp).pe) hs, lc_es hi.es hgs (ht X.s_0 (fun _ => none) 0 [] []).es (he X.s_0 (fun _ => none) 0 [] []).es⟩
theorem pds_setLc {i : Nat} {y : Str} {py : Pos} {elt tg iter : Expr} {ifs : List Expr} {scope : Scope} {own : List (Str × Nat)} {wi : TI} {wd : DI} {g : TG} {dg : DG} {tt : TT} {dt : DT} {te : TE} {de : DE} {spos : Pos} (hc : X.calm = true) (hN : X.N.Nodup) (hy : X.N[i]? = some y) (hyl : X.env.scope.names.lookup y = some .local)
    (hsw : swapsWith (.ListComp elt [⟨tg, iter, ifs, 0⟩] scope pos) (some (.Name y py)) spos.line X.env = pure true) (hi : PDI X ca W tg iter wi wd) (ok : BlkOk X.N X.env.scope scope own)
    (hg : ∀ (s : Shared) (H : Hp) (C : Addr) (cl : List (Str × Addr)) (fp : List Addr), PG (X.blk s H scope (compEnvC scope cl C X.env) fp) tg g) (hgs : GSv X.K (own.map (·.2)) g dg)
    (ht : ∀ (s : Shared) (H : Hp) (C : Addr) (cl : List (Str × Addr)) (fp : List Addr), PDTs (X.blk s H scope (compEnvC scope cl C X.env) fp) ca W0 ifs tt dt)
    (he : ∀ (s : Shared) (H : Hp) (C : Addr) (cl : List (Str × Addr)) (fp : List Addr), PD (X.blk s H scope (compEnvC scope cl C X.env) fp) ca W0 elt te de) (hs : ∀ x, foldedSetIterable iter X.env x = pure x := by intro _; rfl) :
    PDS X ca W (.Assign [.Name y py] (.ListComp elt [⟨tg, iter, ifs, 0⟩] scope pos) spos) (tAsg (tLc wi g tt te (own.map (·.2))) (gName i)) (dAsg (dLc wd dg dt de (own.map (·.2))) (gN i)) :=
  ⟨ps_setLc hc hN hy hyl hsw hi.pe ok hg (fun s H C cl fp => (ht s H C cl fp).pe) (fun s H C cl fp => (he s H C cl fp).pe) hs,
    fun G D E σ H Hf l R m z => lc_es hi.es hgs (ht X.s_0 (fun _ => none) 0 [] []).es (he X.s_0 (fun _ => none) 0 [] []).es G σ H Hf l _ _ E.rs R (fun x l' v H' Hf' q R' s dv => m.nx _ _ _ _ q (R'.put i dv) s) (m.kr σ) z⟩
end
end DL

namespace DL
open PySem PySem.Spec PyProof.Rows L2

/-! ### operators upon data -/
def addD : PyData → PyData → Option PyData
  | .int a, .int b => some (.int (a + b))
  | .str a, .str b => if a.length + b.length ≤ sizeLine then some (.str (a ++ b)) else none
  | .list a, .list b => if a.length + b.length ≤ sizeLine then some (.list (a ++ b)) else none
  | _, _ => none
def subD : PyData → PyData → Option PyData
  | .int a, .int b => some (.int (a - b))
  | _, _ => none
def mulOk (a b : Int) : Bool := (decide (-(2 ^ 64) < a) && decide (a < 2 ^ 64)) || (decide (-(2 ^ 64) < b) && decide (b < 2 ^ 64))
def mulD : PyData → PyData → Option PyData
  | .int a, .int b => if mulOk a b = true then some (.int (a * b)) else none
  | _, _ => none
/-- [..] * n -/
def repD : PyData → PyData → Option PyData
  | .list a, .int b => if 0 ≤ b ∧ b < 2 ^ 63 ∧ a.length * b.toNat ≤ sizeLine then some (.list (List.replicate b.toNat a).flatten) else none
  | _, _ => none
def fdivD : PyData → PyData → Option PyData
  | .int a, .int b => if 0 < b ∧ b < 2 ^ 64 then some (.int (a / b)) else none
  | _, _ => none
def modD : PyData → PyData → Option PyData
  | .int a, .int b => if 0 < b then some (.int (a % b)) else none
  | _, _ => none
def powD : PyData → PyData → Option PyData
  | .int a, .int b => if 0 ≤ b ∧ b ≤ 1000000 ∧ a.natAbs < 2 ^ 64 then some (.int (a ^ b.toNat)) else none
  | _, _ => none
def negD : PyData → Option PyData
  | .int a => some (.int (-a))
  | _ => none
def ixD : PyData → PyData → Option PyData
  | .list xs, .int i => atI xs i
  | .tuple xs, .int i => atI xs i
  | .str z, .int i => if z.length ≤ sizeLine then (atI z.cps.toList i).map fun c => .str ⟨#[c]⟩ else none
  | _, _ => none
def eqD (a b : PyData) : Option Bool := if SeqAt.shaped a = true ∧ SeqAt.shaped b = true then some (PyData.eqv a b) else none
def neD (a b : PyData) : Option Bool := if SeqAt.shaped a = true ∧ SeqAt.shaped b = true then some (!PyData.eqv a b) else none
def ltD : PyData → PyData → Option Bool
  | .int a, .int b => some (decide (a < b))
  | _, _ => none
def leD : PyData → PyData → Option Bool
  | .int a, .int b => some (decide (a ≤ b))
  | _, _ => none
def gtD : PyData → PyData → Option Bool
  | .int a, .int b => some (decide (b < a))
  | _, _ => none
def geD : PyData → PyData → Option Bool
  | .int a, .int b => some (decide (b ≤ a))
  | _, _ => none
def isNonD : PyData → Bool
  | .none => true
  | _ => false
def isNd : PyData → PyData → Option Bool
  | a, .none => some (isNonD a)
  | _, _ => none
def notNd : PyData → PyData → Option Bool
  | a, .none => some (!isNonD a)
  | _, _ => none
def isBd : PyData → PyData → Option Bool
  | .bool a, .bool b => some (decide (a = b))
  | _, _ => none
def notBd : PyData → PyData → Option Bool
  | .bool a, .bool b => some (!decide (a = b))
  | _, _ => none
def inLd : PyData → PyData → Option Bool
  | d, .list ds => if SeqAt.shaped d = true ∧ SeqAt.shaped (.list ds) = true then some (ds.any fun z => PyData.eqv z d) else none
  | _, _ => none
def notInLd : PyData → PyData → Option Bool
  | d, .list ds => if SeqAt.shaped d = true ∧ SeqAt.shaped (.list ds) = true then some (!ds.any fun z => PyData.eqv z d) else none
  | _, _ => none
def strsOf : List PyData → Option (List Str)
  | [] => some []
  | .str x :: r => (strsOf r).map (x :: ·)
  | _ => none
/-- a text in a tuple of texts -/
def inTd : PyData → PyData → Option Bool
  | .str x, .tuple ds => (strsOf ds).map fun ys => decide (x ∈ ys)
  | _, _ => none
def notInTd : PyData → PyData → Option Bool
  | .str x, .tuple ds => (strsOf ds).map fun ys => !decide (x ∈ ys)
  | _, _ => none

section
variable {K : PySem.W.Frag}
/-- an answer that lays nothing -/
theorem opd_flat {r : R2} {f : PyData → PyData → Option PyData} (h : ∀ (x y : V) (dx dy z : PyData) (H Hf : Hp) (Q : VK), Same Hf H → Dv K Hf x dx → Dv K Hf y dy → f dx dy = some z → (∀ v, Dv K Hf v z → Q v H) → r x y H Q) : OpD K r f :=
  fun x y dx dy z H Hf Q s hx hy e k => h x y dx dy z H Hf Q s hx hy e fun v dv => k v H Hf (Frm.refl s) dv
theorem od_add : OpD K (fun x y H Q => rI0 (fun i j => .int (i + j)) x y H Q ∨ (∃ i j, x = .str i ∧ y = .str j ∧ i.length + j.length ≤ sizeLine ∧ Q (.str (i ++ j)) H) ∨ rCat x y H Q) addD := by
  intro x y dx dy z H Hf Q s hx hy e k
  unfold addD at e
  split at e
  · cases e
    obtain rfl := hx.int_inv
    obtain rfl := hy.int_inv
    exact .inl ⟨_, _, rfl, rfl, k _ H Hf (Frm.refl s) (.int _)⟩
  · split at e
    · rename_i hl
      cases e
      obtain rfl := hx.str_inv
      obtain rfl := hy.str_inv
      exact .inr (.inl ⟨_, _, rfl, rfl, hl, k _ H Hf (Frm.refl s) (.str _)⟩)
    · cases e
  · split at e
    · rename_i hl
      cases e
      obtain ⟨p, vs, rfl, h1, h2⟩ := hx.list_inv
      obtain ⟨q, ws, rfl, h3, h4⟩ := hy.list_inv
      refine .inr (.inr ⟨p, q, vs, ws, rfl, rfl, s _ _ h1, s _ _ h3, by rw [h2.1, h4.1]; exact hl, fun a ha => ?_⟩)
      have F : Frm [] H Hf (upd H a (.lst (vs ++ ws))) (upd Hf a (.lst (vs ++ ws))) := Frm.new s ha
      exact k _ _ _ F (.lst' upd_same ((h2.append h4).mono (F.sameF s)))
    · cases e
  · cases e
theorem od_sub : OpD K (rI0 fun i j => .int (i - j)) subD := opd_flat fun x y dx dy z H Hf Q s hx hy e k => by
  unfold subD at e
  split at e
  · cases e
    obtain rfl := hx.int_inv
    obtain rfl := hy.int_inv
    exact ⟨_, _, rfl, rfl, k _ (.int _)⟩
  · cases e
theorem mulOk_of {a b : Int} (h : mulOk a b = true) : CMul a b := by
  unfold mulOk at h
  simp only [Bool.or_eq_true, Bool.and_eq_true, decide_eq_true_eq] at h
  exact h
theorem od_mul : OpD K (rI CMul fun i j => .int (i * j)) mulD := opd_flat fun x y dx dy z H Hf Q s hx hy e k => by
  unfold mulD at e
  split at e
  · split at e
    · rename_i hm
      cases e
      obtain rfl := hx.int_inv
      obtain rfl := hy.int_inv
      exact ⟨_, _, rfl, rfl, mulOk_of hm, k _ (.int _)⟩
    · cases e
  · cases e
theorem dvAll_rep {H : Hp} {vs : List V} {ds : List PyData} (q : DvAll K H vs ds) : ∀ n : Nat, DvAll K H (List.replicate n vs).flatten (List.replicate n ds).flatten
  | 0 => .nil
  | n + 1 => by
    rw [List.replicate_succ, List.replicate_succ, List.flatten_cons, List.flatten_cons]
    exact q.append (dvAll_rep q n)
theorem od_rep : OpD K rRep repD := fun x y dx dy z H Hf Q s hx hy e k => by
  unfold repD at e
  split at e
  · split at e
    · rename_i n hm
      obtain ⟨h1, h2, h3⟩ := hm
      cases e
      obtain ⟨p, vs, rfl, h4, h5⟩ := hx.list_inv
      obtain rfl := hy.int_inv
      refine ⟨p, _, vs, rfl, rfl, s _ _ h4, by omega, h2, by rw [h5.1]; exact h3, fun a ha => ?_⟩
      have F : Frm [] H Hf (upd H a (.lst (List.replicate n.toNat vs).flatten)) (upd Hf a (.lst (List.replicate n.toNat vs).flatten)) := Frm.new s ha
      exact k _ _ _ F (.lst' upd_same ((dvAll_rep h5 _).mono (F.sameF s)))
    · cases e
  · cases e
theorem od_fdiv : OpD K (rI CDivW fun i j => .int (i / j)) fdivD := opd_flat fun x y dx dy z H Hf Q s hx hy e k => by
  unfold fdivD at e
  split at e
  · split at e
    · rename_i hm
      cases e
      obtain rfl := hx.int_inv
      obtain rfl := hy.int_inv
      exact ⟨_, _, rfl, rfl, wide_div (b := 64) hm.1 (by omega) (by decide) (by decide), k _ (.int _)⟩
    · cases e
  · cases e
theorem od_mod : OpD K (rI (fun _ j => 0 < j) fun i j => .int (i % j)) modD := opd_flat fun x y dx dy z H Hf Q s hx hy e k => by
  unfold modD at e
  split at e
  · split at e
    · rename_i hm
      cases e
      obtain rfl := hx.int_inv
      obtain rfl := hy.int_inv
      exact ⟨_, _, rfl, rfl, hm, k _ (.int _)⟩
    · cases e
  · cases e
theorem od_pow : OpD K (rI CPow fun i j => .int (i ^ j.toNat)) powD := opd_flat fun x y dx dy z H Hf Q s hx hy e k => by
  unfold powD at e
  split at e
  · split at e
    · rename_i hm
      cases e
      obtain rfl := hx.int_inv
      obtain rfl := hy.int_inv
      exact ⟨_, _, rfl, rfl, hm, k _ (.int _)⟩
    · cases e
  · cases e
theorem ud_neg : UnD K (rU fun i => .int (-i)) negD := fun x dx z H Hf Q s hx e k => by
  unfold negD at e
  split at e
  · cases e
    obtain rfl := hx.int_inv
    exact ⟨_, rfl, k _ H Hf (Frm.refl s) (.int _)⟩
  · cases e
theorem atI_dv {H : Hp} {vs : List V} {ds : List PyData} {i : Int} {d : PyData} (q : DvAll K H vs ds) (h : atI ds i = some d) : ∃ v, atI vs i = some v ∧ Dv K H v d := by
  unfold atI at h ⊢
  rw [q.1]
  cases e : ixN ds.length i with
  | none => rw [e] at h; cases h
  | some j =>
    rw [e] at h
    have h : ds[j]? = some d := h
    have hj : j < ds.length := (List.getElem?_eq_some_iff.mp h).1
    refine ⟨vs[j]'(by rw [q.1]; exact hj), ?_, q.2 j _ d (List.getElem?_eq_getElem _) h⟩
    show vs[j]? = _
    exact List.getElem?_eq_getElem _
theorem od_ix : OpD K (rIx K) ixD := opd_flat fun x y dx dy z H Hf Q s hx hy e k => by
  unfold ixD at e
  split at e
  · obtain ⟨p, vs, rfl, h1, h2⟩ := hx.list_inv
    obtain rfl := hy.int_inv
    obtain ⟨v, h3, h4⟩ := atI_dv h2 e
    exact .inl ⟨p, vs, _, v, rfl, rfl, .inl (.inl (s _ _ h1)), h3, k v h4⟩
  · obtain ⟨p, vs, rfl, h1, h2⟩ := hx.tuple_inv
    obtain rfl := hy.int_inv
    obtain ⟨v, h3, h4⟩ := atI_dv h2 e
    exact .inr (.inl ⟨p, vs, _, v, rfl, rfl, sqT_mono s h1, h3, k v h4⟩)
  · obtain rfl := hx.str_inv
    obtain rfl := hy.int_inv
    split at e
    · rename_i hl
      cases h : atI (_ : List Nat) _ with
      | none => rw [h] at e; cases e
      | some c =>
        rw [h] at e
        cases e
        exact .inr (.inr ⟨_, _, c, rfl, rfl, hl, h, k _ (.str _)⟩)
    · cases e
  · cases e
theorem cm_eq : CmD K (rEqD K) eqD := fun x y dx dy z H Q hx hy e q => by
  unfold eqD at e
  split at e
  · rename_i h
    cases e
    exact ⟨dx, dy, hx.dp, hy.dp, h.1, h.2, q⟩
  · cases e
theorem cm_ne : CmD K (rNeD K) neD := fun x y dx dy z H Q hx hy e q => by
  unfold neD at e
  split at e
  · rename_i h
    cases e
    exact ⟨dx, dy, hx.dp, hy.dp, h.1, h.2, q⟩
  · cases e
theorem cm_lt : CmD K (rI0 fun i j => .bl (decide (i < j))) ltD := fun x y dx dy z H Q hx hy e q => by
  unfold ltD at e
  split at e
  · cases e
    exact ⟨_, _, hx.int_inv, hy.int_inv, q⟩
  · cases e
theorem cm_le : CmD K (rI0 fun i j => .bl (decide (i ≤ j))) leD := fun x y dx dy z H Q hx hy e q => by
  unfold leD at e
  split at e
  · cases e
    exact ⟨_, _, hx.int_inv, hy.int_inv, q⟩
  · cases e
theorem cm_gt : CmD K (rI0 fun i j => .bl (decide (j < i))) gtD := fun x y dx dy z H Q hx hy e q => by
  unfold gtD at e
  split at e
  · cases e
    exact ⟨_, _, hx.int_inv, hy.int_inv, q⟩
  · cases e
theorem cm_ge : CmD K (rI0 fun i j => .bl (decide (j ≤ i))) geD := fun x y dx dy z H Q hx hy e q => by
  unfold geD at e
  split at e
  · cases e
    exact ⟨_, _, hx.int_inv, hy.int_inv, q⟩
  · cases e
theorem isNon_dec {H : Hp} {x : V} {d : PyData} (h : Dv K H x d) : decide (x = .non) = isNonD d := by
  cases h <;> rfl
theorem cm_isN : CmD K (fun x y H Q => y = .non ∧ Q (.bl (decide (x = .non))) H) isNd := fun x y dx dy z H Q hx hy e q => by
  unfold isNd at e
  split at e
  · cases e
    exact ⟨hy.non_inv, by rw [isNon_dec hx]; exact q⟩
  · cases e
theorem cm_notN : CmD K (fun x y H Q => y = .non ∧ Q (.bl (!decide (x = .non))) H) notNd := fun x y dx dy z H Q hx hy e q => by
  unfold notNd at e
  split at e
  · cases e
    exact ⟨hy.non_inv, by rw [isNon_dec hx]; exact q⟩
  · cases e
theorem cm_isB : CmD K (fun x y H Q => ∃ a b, x = .bl a ∧ y = .bl b ∧ Q (.bl (decide (a = b))) H) isBd := fun x y dx dy z H Q hx hy e q => by
  unfold isBd at e
  split at e
  · cases e
    exact ⟨_, _, hx.bl_inv, hy.bl_inv, q⟩
  · cases e
theorem cm_notB : CmD K (fun x y H Q => ∃ a b, x = .bl a ∧ y = .bl b ∧ Q (.bl (!decide (a = b))) H) notBd := fun x y dx dy z H Q hx hy e q => by
  unfold notBd at e
  split at e
  · cases e
    exact ⟨_, _, hx.bl_inv, hy.bl_inv, q⟩
  · cases e
theorem cm_inL : CmD K (rInD K) inLd := fun x y dx dy z H Q hx hy e q => by
  unfold inLd at e
  split at e
  · split at e
    · rename_i h
      cases e
      exact ⟨_, _, hx.dp, hy.dp, h.1, h.2, q⟩
    · cases e
  · cases e
theorem cm_notInL : CmD K (rNotInD K) notInLd := fun x y dx dy z H Q hx hy e q => by
  unfold notInLd at e
  split at e
  · split at e
    · rename_i h
      cases e
      exact ⟨_, _, hx.dp, hy.dp, h.1, h.2, q⟩
    · cases e
  · cases e
theorem strs_vals {H : Hp} {x : Str} : ∀ {ds : List PyData} {ys : List Str} {vs : List V}, strsOf ds = some ys → DvAll K H vs ds → vs.all flatV = true ∧ inV (.str x) vs = decide (x ∈ ys)
  | [], ys, vs, e, q => by
    cases e
    obtain rfl := q.nil_inv
    exact ⟨rfl, rfl⟩
  | d :: ds, ys, vs, e, q => by
    obtain ⟨v, r, rfl, h1, h2⟩ := q.cons_inv
    cases d with
    | str y =>
      have e : (strsOf ds).map (y :: ·) = some ys := e
      cases e2 : strsOf ds with
      | none => rw [e2] at e; cases e
      | some zs =>
        rw [e2] at e
        cases e
        obtain rfl := h1.str_inv
        obtain ⟨i1, i2⟩ := strs_vals e2 h2
        refine ⟨by simp only [List.all_cons, i1]; rfl, ?_⟩
        have i3 : r.any (fun z => eqV z (.str x)) = decide (x ∈ zs) := i2
        show (eqV (.str y) (.str x) || r.any fun z => eqV z (.str x)) = decide (x ∈ y :: zs)
        rw [i3]
        have e4 : eqV (.str y) (.str x) = (y == x) := rfl
        rw [e4]
        by_cases hxy : y = x
        · subst hxy
          simp
        · have hyx : ¬ x = y := fun z => hxy z.symm
          simp [hxy, hyx]
    | _ => cases e
theorem cm_inT : CmD K (rIn K false) inTd := fun x y dx dy z H Q hx hy e q => by
  unfold inTd at e
  split at e
  · rename_i xx ds
    cases e2 : strsOf ds with
    | none => rw [e2] at e; cases e
    | some ys =>
      rw [e2] at e
      cases e
      obtain rfl := hx.str_inv
      obtain ⟨p, vs, rfl, h1, h2⟩ := hy.tuple_inv
      obtain ⟨i1, i2⟩ := strs_vals (x := xx) e2 h2
      refine ⟨p, vs, rfl, .inr h1, rfl, i1, ?_⟩
      rw [if_neg Bool.false_ne_true, i2]
      exact q
  · cases e
theorem cm_notInT : CmD K (rIn K true) notInTd := fun x y dx dy z H Q hx hy e q => by
  unfold notInTd at e
  split at e
  · rename_i xx ds
    cases e2 : strsOf ds with
    | none => rw [e2] at e; cases e
    | some ys =>
      rw [e2] at e
      cases e
      obtain rfl := hx.str_inv
      obtain ⟨p, vs, rfl, h1, h2⟩ := hy.tuple_inv
      obtain ⟨i1, i2⟩ := strs_vals (x := xx) e2 h2
      refine ⟨p, vs, rfl, .inr h1, rfl, i1, ?_⟩
      rw [if_pos rfl, i2]
      exact q
  · cases e
end
end DL

namespace DL
open PySem PySem.Spec PyProof.Rows L2

/-! ### built-ins upon data -/
def absD : List PyData → Option PyData
  | [.int i] => some (.int (i.natAbs : Int))
  | _ => none
def maxD : List PyData → Option PyData
  | [.int i, .int j] => some (.int (max i j))
  | _ => none
def lenD : List PyData → Option PyData
  | [.list xs] => some (.int (xs.length : Int))
  | [.tuple xs] => some (.int (xs.length : Int))
  | [.str z] => if z.length ≤ sizeLine then some (.int (z.length : Int)) else none
  | _ => none
def intsOf : List PyData → Option (List Int)
  | [] => some []
  | .int x :: r => (intsOf r).map (x :: ·)
  | _ => none
def sumD : List PyData → Option PyData
  | [.list xs] => (intsOf xs).map fun ns => .int ns.sum
  | _ => none
section
variable {K : PySem.W.Frag}
theorem dv1 {H : Hp} {vs : List V} {d : PyData} (q : DvAll K H vs [d]) : ∃ v, vs = [v] ∧ Dv K H v d := by
  obtain ⟨v, r, rfl, h1, h2⟩ := q.cons_inv
  obtain rfl := h2.nil_inv
  exact ⟨v, rfl, h1⟩
theorem dv2 {H : Hp} {vs : List V} {d e : PyData} (q : DvAll K H vs [d, e]) : ∃ v w, vs = [v, w] ∧ Dv K H v d ∧ Dv K H w e := by
  obtain ⟨v, r, rfl, h1, h2⟩ := q.cons_inv
  obtain ⟨w, rfl, h3⟩ := dv1 h2
  exact ⟨v, w, rfl, h1, h3⟩
theorem cd_abs : CaD K (fun xs H Q => ∃ i, xs = [.int i] ∧ Q (.int (if i < 0 then -i else i)) H) absD := fun xs ds z H Hf Q s h e k => by
  unfold absD at e
  split at e
  · cases e
    obtain ⟨v, rfl, hv⟩ := dv1 h
    obtain rfl := hv.int_inv
    rename_i i
    refine ⟨i, rfl, ?_⟩
    have e : (if i < 0 then -i else i) = (i.natAbs : Int) := by split <;> omega
    rw [e]
    exact k _ H Hf (Frm.refl s) (.int _)
  · cases e
theorem cd_max : CaD K (fun xs H Q => ∃ i j, xs = [.int i, .int j] ∧ Q (.int (if j > i then j else i)) H) maxD := fun xs ds z H Hf Q s h e k => by
  unfold maxD at e
  split at e
  · cases e
    obtain ⟨v, w, rfl, hv, hw⟩ := dv2 h
    obtain rfl := hv.int_inv
    obtain rfl := hw.int_inv
    rename_i i j
    refine ⟨i, j, rfl, ?_⟩
    have e : (if j > i then j else i) = max i j := by split <;> omega
    rw [e]
    exact k _ H Hf (Frm.refl s) (.int _)
  · cases e
def rLenA (K : PySem.W.Frag) : List V → Hp → VK → Prop := fun xs H Q => (∃ p ys, xs = [.ref p] ∧ (SqL K H p ys ∨ SqT K H p ys) ∧ Q (.int ys.length) H) ∨ ∃ z, xs = [.str z] ∧ z.length ≤ sizeLine ∧ Q (.int z.length) H
theorem call_lenA {X : Cx} : CallR X (.builtin "len") (rLenA X.K) := call_len_seq.or call_len_str
theorem cd_len : CaD K (rLenA K) lenD := fun xs ds z H Hf Q s h e k => by
  unfold lenD at e
  split at e
  · cases e
    obtain ⟨v, rfl, hv⟩ := dv1 h
    obtain ⟨p, vs, rfl, h1, h2⟩ := hv.list_inv
    exact .inl ⟨p, vs, rfl, .inl (.inl (.inl (s _ _ h1))), by rw [h2.1]; exact k _ H Hf (Frm.refl s) (.int _)⟩
  · cases e
    obtain ⟨v, rfl, hv⟩ := dv1 h
    obtain ⟨p, vs, rfl, h1, h2⟩ := hv.tuple_inv
    exact .inl ⟨p, vs, rfl, .inr (sqT_mono s h1), by rw [h2.1]; exact k _ H Hf (Frm.refl s) (.int _)⟩
  · split at e
    · rename_i hl
      cases e
      obtain ⟨v, rfl, hv⟩ := dv1 h
      obtain rfl := hv.str_inv
      exact .inr ⟨_, rfl, hl, k _ H Hf (Frm.refl s) (.int _)⟩
    · cases e
  · cases e
theorem intsOf_vals {H : Hp} : ∀ {ds : List PyData} {ns : List Int} {vs : List V}, intsOf ds = some ns → DvAll K H vs ds → vs = ns.map V.int
  | [], ns, vs, e, q => by
    cases e
    exact q.nil_inv
  | d :: ds, ns, vs, e, q => by
    obtain ⟨v, r, rfl, h1, h2⟩ := q.cons_inv
    cases d with
    | int y =>
      have e : (intsOf ds).map (y :: ·) = some ns := e
      cases e2 : intsOf ds with
      | none => rw [e2] at e; cases e
      | some zs =>
        rw [e2] at e
        cases e
        obtain rfl := h1.int_inv
        rw [intsOf_vals e2 h2]
        rfl
    | _ => cases e
theorem intsOf_map (ns : List Int) : intsOf (ns.map PyData.int) = some ns := by
  induction ns with
  | nil => rfl
  | cons n ns ih =>
    show (intsOf (ns.map PyData.int)).map (n :: ·) = _
    rw [ih]
    rfl
theorem cd_sum : CaD K (rSum K) sumD := fun xs ds z H Hf Q s h e k => by
  unfold sumD at e
  split at e
  · rename_i xs'
    cases e2 : intsOf xs' with
    | none => rw [e2] at e; cases e
    | some ns =>
      rw [e2] at e
      cases e
      obtain ⟨v, rfl, hv⟩ := dv1 h
      obtain ⟨p, vs, rfl, h1, h2⟩ := hv.list_inv
      refine ⟨p, ns, rfl, .inl (.inl ?_), k _ H Hf (Frm.refl s) (.int _)⟩
      rw [← intsOf_vals e2 h2]
      exact s _ _ h1
  · cases e
end

/-! ### isinstance(x, T), T a built-in class -/
def tyn : PyData → String
  | .none => "NoneType"
  | .bool _ => "bool"
  | .int _ => "int"
  | .str _ => "str"
  | .list _ => "list"
  | .tuple _ => "tuple"
  | .dict _ => "dict"
def dIsi (T : String) (d : DE) : DE := fun l Q R => d l (fun x l' => ∃ b, kitB (tyn x) T = some b ∧ Q (.bool b) l') R
theorem Dv.ty {K : PySem.W.Frag} {H : Hp} {v : V} {d : PyData} (h : Dv K H v d) : TyX K H v (.type (tyn d)) := by
  cases h with
  | non => exact .base .non
  | bl b => exact .base (.bl b)
  | int i => exact .base (.int i)
  | str x => exact .base (.str x)
  | lst h _ _ => exact .base (.lst h)
  | tup h _ _ =>
    rcases h with (h | ⟨o, h⟩) | ⟨o, its, n, h1, h2, _⟩
    · exact .base (.tup h)
    · exact .fTuple h
    · exact .kTuple h1 h2
section
variable {X : Cx} {ca : Er → Addr} {W : WX} {a b c e : Expr} {es : List Expr} {ua ub uc : TE} {va vb vc : TT} {da db dc : DE} {ta tb tc : DT} {pos : Pos}
theorem pd_isi {K : PySem.W.Frag} {x : Str} {T : String} {p p2 : Pos} (ha : PD X ca W a ua da) (hg : Gl X "isinstance") (hm : X.mg "isinstance" = none) (hT : PE X (.Name x p2) (tC (.ty T)))
    (hs : starEach [a, .Name x p2] X.env = (false, eval a X.env) :: starEach [.Name x p2] X.env := by rfl) (hs2 : starEach [.Name x p2] X.env = (false, eval (.Name x p2) X.env) :: starEach [] X.env := by rfl)
    (hpl : (backTo pos (starEach [.Name x p2] X.env)).any (·.1) = false := by rfl) (hK : X.K = K := by rfl) :
    PD X ca W (.Call (.Name "isinstance" p) [a, .Name x p2] [] pos) (tCB (rIsi K) (tCons ua (tCons (tC (.ty T)) tNil))) (dIsi T da) := by
  subst hK
  refine ⟨pe_callB call_isi hg hm boot_isinstance (pa_cons ha.pe (pa_cons hT pa_nil hs2) hs) (by decide) (by decide) hs hpl, fun G σ H Hf l Q q r R k kr z => ?_⟩
  refine ha.es G σ H Hf l _ _ r R (fun x l' v H' Hf' z' R' s dv => ?_) kr z
  obtain ⟨b, e, z'⟩ := z'
  exact ⟨v, .ty T, .type (tyn x), .type T, b, rfl, .ty T, (dv.mono R'.sub).ty, kit_ty e, k _ _ _ _ _ z' R' s (.bl b)⟩

/-! ### slices -/
def cutD {α : Type} (xs : List α) (lo hi : Option Int) : List α := (xs.drop (HT.sIx xs.length 0 lo)).take (HT.sIx xs.length xs.length hi - HT.sIx xs.length 0 lo)
theorem dvAll_cut {K : PySem.W.Frag} {H : Hp} {vs : List V} {ds : List PyData} (q : DvAll K H vs ds) (lo hi : Option Int) : DvAll K H (cutV vs lo hi) (cutD ds lo hi) := by
  unfold cutV cutD
  rw [q.1]
  refine ⟨by simp [q.1], fun i v d h1 h2 => ?_⟩
  rw [List.getElem?_take] at h1 h2
  split at h1
  · rename_i hlt
    rw [if_pos hlt] at h2
    rw [List.getElem?_drop] at h1 h2
    exact q.2 _ v d h1 h2
  · cases h1
abbrev DO := Sl → (Option Int → Sl → Prop) → DR → Prop
def dO0 : DO := fun l Q _ => Q none l
def dO1 (d : DE) : DO := fun l Q R => d l (fun x l' => ∃ i, x = .int i ∧ Q (some i) l') R
def KO (K : PySem.W.Frag) (G : Gm) (σ : L2.St) (Hf : Hp) (q : Option Int → Sl → Prop) (Q : Option Int → Hp → Prop) : Prop := ∀ x l' H' Hf', q x l' → Rep K G H' Hf' σ l' → Same Hf Hf' → Q x H'
def EO (K : PySem.W.Frag) (ca : Er → Addr) (W : WX) (t : TO) (d : DO) : Prop := ∀ (G : Gm) (σ : L2.St) (H Hf : Hp) (l : Sl) (Q : Option Int → Hp → Prop) (q : Option Int → Sl → Prop) (r : DR), Rep K G H Hf σ l → KO K G σ Hf q Q → KR K ca G W σ r → d l q r → t σ H Q
structure PDO (X : Cx) (ca : Er → Addr) (W : WX) (e : Option Expr) (t : TO) (d : DO) : Prop where
  pe : PO X e t
  es : EO X.K ca W t d
theorem pdo_none : PDO X ca W none tNoPart dO0 := ⟨po_none, fun G σ H Hf l Q q r R k kr z => k _ _ _ _ z R (Same.refl _)⟩
theorem pdo_some (h : PD X ca W a ua da) : PDO X ca W (some a) (tPart ua) (dO1 da) := ⟨po_some h.pe, fun G σ H Hf l Q q r R k kr z => h.es G σ H Hf l _ _ r R (fun x l' v H' Hf' z' R' s dv => by
  obtain ⟨i, rfl, z'⟩ := z'
  exact ⟨i, dv.int_inv, k _ _ _ _ z' R' s⟩) kr z⟩
def dSlL (d : DE) (lo hi : DO) : DE := fun l Q R => d l (fun x l1 => lo l1 (fun i l2 => hi l2 (fun j l3 => ∃ ds, x = .list ds ∧ Q (.list (cutD ds i j)) l3) R) R) R
theorem pd_slL {K : PySem.W.Frag} {lo hi : Option Expr} {tl th : TO} {dl dh : DO} {p2 : Pos} (h : PD X ca W a ua da) (hl : PDO X ca W lo tl dl) (hh : PDO X ca W hi th dh) (hK : X.K = K := by rfl) : PD X ca W (.Subscript a (.Slice lo hi none p2) pos) (tSl (rSlL K) ua tl th) (dSlL da dl dh) := by
  subst hK
  refine ⟨pe_slice sl_list h.pe hl.pe hh.pe, fun G σ H Hf l Q q r R k kr z => ?_⟩
  refine h.es G σ H Hf l _ _ r R (fun x l1 v H1 Hf1 z1 R1 s1 d1 => ?_) kr z
  refine hl.es G σ H1 Hf1 l1 _ _ r R1 (fun i l2 H2 Hf2 z2 R2 s2 => ?_) kr z1
  refine hh.es G σ H2 Hf2 l2 _ _ r R2 (fun j l3 H3 Hf3 z3 R3 s3 => ?_) kr z2
  obtain ⟨ds, rfl, z3⟩ := z3
  obtain ⟨p, vs, rfl, h1, h2⟩ := d1.list_inv
  have s13 : Same Hf1 Hf3 := s2.trans s3
  refine ⟨p, vs, rfl, .inl (.inl (R3.sub _ _ (s13 _ _ h1))), fun b hb => ?_⟩
  have F : Frm [] H3 Hf3 (upd H3 b (.lst (cutV vs i j))) (upd Hf3 b (.lst (cutV vs i j))) := Frm.new R3.sub hb
  exact k _ _ _ _ _ z3 (R3.grow F) (((s1.trans s2).trans s3).trans (F.sameF R3.sub)) (.lst' upd_same ((dvAll_cut (h2.mono s13) i j).mono (F.sameF R3.sub)))
/-- a module's constant -/
theorem pd_glob {x : Str} {v : V} {u : Value} {d : PyData} {p : Pos} (hg : Gl X x) (hm : X.mg x = some u) (r : RelV v u) (hd : ∀ H, Dv X.K H v d) (hdb : (x == ("__debug__" : Str)) = false := by decide) : PD X ca W (.Name x p) (tC v) (dC d) :=
  ⟨pe_glob hg hm r hdb, fun G σ H Hf l Q q r R k _ hd' => k _ _ _ _ _ hd' R (Same.refl _) (hd _)⟩
end

/-! ### a def's body keeps its contract -/
def start0 (N : List Str) (ds : List PyData) : Sl := ds.map (fun d => some (S.val d)) ++ List.replicate (N.length - ds.length) none
theorem feet_none (n : Nat) : feet (List.replicate n (none : Option S)) = [] := by
  induction n with
  | zero => rfl
  | succ n ih =>
    rw [List.replicate_succ]
    exact ih
theorem feet_vals (ds : List PyData) (r : Sl) : feet (ds.map (fun d => some (S.val d)) ++ r) = feet r := by
  induction ds with
  | nil => rfl
  | cons d ds ih => exact ih
theorem start0_slot {N : List Str} {ds : List PyData} {i : Nat} {s : S} (h : (start0 N ds)[i]? = some (some s)) : ∃ d, ds[i]? = some d ∧ s = .val d := by
  unfold start0 at h
  rw [List.getElem?_append] at h
  split at h
  · rename_i hl
    rw [List.getElem?_map] at h
    cases e : ds[i]? with
    | none => rw [e] at h; cases h
    | some d =>
      rw [e] at h
      refine ⟨d, rfl, ?_⟩
      have z : some (S.val d) = some s := by simpa using h
      exact (Option.some.inj z).symm
  · rw [List.getElem?_replicate] at h
    split at h
    · simp at h
    · cases h
theorem rep_start {K : PySem.W.Frag} {H Hf : Hp} {N : List Str} {vs : List V} {ds : List PyData} (s : Same Hf H) (q : DvAll K Hf vs ds) : Rep K ⟨[], H, Hf⟩ H Hf (L2.start N vs) (start0 N ds) := by
  have ft : feet (start0 N ds) = [] := by
    unfold start0
    rw [feet_vals, feet_none]
  refine ⟨by simp [L2.start, start0, q.1], fun i x h => ?_, by rw [ft]; exact List.nodup_nil, fun b hb => absurd (ft ▸ hb) (List.not_mem_nil), fun i p es h => ?_, Frm.refl s⟩
  · obtain ⟨d, h1, rfl⟩ := start0_slot h
    have hi : i < ds.length := (List.getElem?_eq_some_iff.mp h1).1
    have hi2 : i < vs.length := by rw [q.1]; exact hi
    refine ⟨vs[i], ?_, q.2 i _ d (List.getElem?_eq_getElem hi2) h1⟩
    unfold L2.start
    rw [List.getElem?_append, if_pos (by rw [List.length_map]; exact hi2), List.getElem?_map, List.getElem?_eq_getElem hi2]
    rfl
  · obtain ⟨d, _, z⟩ := start0_slot h
    exact nomatch z
def topE (q : Res → Prop) : DEnd := ⟨fun _ => q (.ok .none), fun d _ => q (.ok d), fun _ => False, fun _ => False, fun e _ => q (.er e)⟩
section
variable {P : Program} {w : World} {K : PySem.W.Frag} {mg : Str → Option Value} {base : Heap}
abbrev fnX (P : Program) (w : World) (K : PySem.W.Frag) (mg : Str → Option Value) (base : Heap) (N : List Str) (qual : Str) (st : Stmt) (f : Addr) (cdv : Value) (A : Around) (outer : List Env) (s : Shared) (H : Hp) (E : XK) : Cx := cxOf (L2.CX P w) P w K mg base N qual (defScope st) f cdv A outer s H E
abbrev fnW (E : XK) : WX := fun cls d _ H => E cls d H
theorem fn_ok {x qual : Str} {st : Stmt} {f : Addr} {fd : FuncData} {N ps : List Str} {k n : Nat} {ca : Er → Addr} {c : Ct} (F : Fun K x qual st f fd) (S : FnScope N ps (defScope st)) (hn : ps.length = n)
    (body : ∀ (cdv : Value) (A : Around) (outer : List Env) (s : Shared) (H : Hp) (E : XK), Room k (fnX P w K mg base N qual st f cdv A outer s H E).A → Takes (fnX P w K mg base N qual st f cdv A outer s H E) (fnW E) →
      PassesOwn (model P w) (fnX P w K mg base N qual st f cdv A outer s H E).A (fnX P w K mg base N qual st f cdv A outer s H E).env (fnX P w K mg base N qual st f cdv A outer s H E).xe → (fnX P w K mg base N qual st f cdv A outer s H E).A.units + 64 < cLine → (fnX P w K mg base N qual st f cdv A outer s H E).A.units + 65 < cLine →
      ∃ t d, PDB (fnX P w K mg base N qual st f cdv A outer s H E) ca (fnW E) (defBody st) t d ∧ ∀ ds q, ds.length = n → c ds q → d (topE q) (start0 N ds)) :
    FnOk P w K mg base (L2.CX P w) (k + 1) f fd ps (spD K ca c n) := by
  refine F.okX S (fun vs H Q E h => ?_) (fun cdv A outer s H vs Q E hr h => ?_)
  · obtain ⟨Hf, ds, q, h1, _, h2, _⟩ := h
    rw [h2.1, h1, hn]
  · obtain ⟨Hf, ds, q, h1, h2, h3, h4, h5, h6⟩ := h
    obtain ⟨t, d, hb, hd⟩ := body cdv A outer s H E hr (takes_of rfl rfl rfl rfl) (passes_of rfl) hr.units (by have := hr.un; show (A.deeper _).units + 65 < cLine; omega)
    refine ⟨t, hb.pe, ?_⟩
    refine hb.es ⟨[], H, Hf⟩ _ (topE q) _ H Hf _ (rep_start h2 h3) ⟨?_, ?_, ?_, ?_, ?_⟩ (hd ds q h1 h4)
    · exact fun σ' l' H' Hf' z R _ => h5 _ _ _ _ z R.frm .non
    · exact fun σ' l' v d H' Hf' z R _ dv => h5 _ _ _ _ z R.frm dv
    · exact fun σ' l' H' Hf' z R _ => z.elim
    · exact fun σ' l' H' Hf' z R _ => z.elim
    · exact fun e σ' l' H' Hf' z R => h6 _ _ _ z R.frm
end
end DL

namespace DL
open PySem PySem.Spec PyProof.Rows L2

def iaddD : PyData → PyData → Option PyData
  | .int a, .int b => some (.int (a + b))
  | _, _ => none
def ifdivD : PyData → PyData → Option PyData
  | .int a, .int b => if 0 < b ∧ b < 1073741824 then some (.int (a / b)) else none
  | _, _ => none
section
variable {K : PySem.W.Frag}
theorem od_iadd : OpD K (rI0 fun i j => .int (i + j)) iaddD := opd_flat fun x y dx dy z H Hf Q s hx hy e k => by
  unfold iaddD at e
  split at e
  · cases e
    obtain rfl := hx.int_inv
    obtain rfl := hy.int_inv
    exact ⟨_, _, rfl, rfl, k _ (.int _)⟩
  · cases e
theorem od_ifdiv : OpD K (rI CDiv fun i j => .int (i / j)) ifdivD := opd_flat fun x y dx dy z H Hf Q s hx hy e k => by
  unfold ifdivD at e
  split at e
  · split at e
    · rename_i hm
      cases e
      obtain rfl := hx.int_inv
      obtain rfl := hy.int_inv
      exact ⟨_, _, rfl, rfl, hm, k _ (.int _)⟩
    · cases e
  · cases e
end

/-! ### raise -/
def dRaise (e : Er) : DS := fun E l => E.rs e l
/-- what the written part says of an error's class -/
structure Xf (K : PySem.W.Frag) (mg : Str → Option Value) (x : Str) (C : Addr) : Prop where
  g : mg x = some (.ref C)
  ex : PySem.W.excIn K C [.type "ValueError", .type "Exception", .type "BaseException", .type "object"] "ValueError.__new__" = true
  kp : PySem.W.keepIn K (.ref C) = true
  sb : PySem.W.subIn K (.ref C) (.type "BaseException") = some true
  ty : PySem.W.typeIn K (.ref C) = some (.type "type")
theorem pds_raise {X : Cx} {ca : Er → Addr} {W : WX} {x m : Str} {j : Nat} {p p2 pos pos2 : Pos} {er : Er} (h : Xf X.K X.mg x (ca er)) (hc : X.calm = true) (tk : Takes X W) (hg : Gl X x) (hdb : (x == ("__debug__" : Str)) = false := by decide) :
    PDS X ca W (.Raise (some (.Call (.Name x p) [.Constant (.str m) j p2] [] pos)) none pos2) (fun _ σ H => W (.ref (ca er)) none σ H) (dRaise er) :=
  ⟨ps_raise hc tk (pmk_own PySem.F.excBase_ValueError h.ex h.g h.kp (raises_own h.sb h.ty) hg hdb), fun G D E σ H Hf l R m z => m.rs _ _ _ _ _ z R⟩

/-! ### a def by its name -/
structure Fd (P : Program) (w : World) (K : PySem.W.Frag) (mg : Str → Option Value) (base : Heap) (ca : Er → Addr) (x : Str) (c : Ct) (n k : Nat) : Prop where
  ex : ∃ (f : Addr) (fd : FuncData) (ps : List Str), FnOk P w K mg base (L2.CX P w) k f fd ps (spD K ca c n) ∧ mg x = some (.ref f) ∧ PySem.W.keepIn K (.ref f) = true ∧ Binds K fd ps []
section
variable {X : Cx} {ca : Er → Addr} {W : WX} {a b c e : Expr} {es : List Expr} {pos : Pos}
theorem pd_fn {P : Program} {w : World} {K : PySem.W.Frag} {mg : Str → Option Value} {base : Heap} {x : Str} {p : Pos} {k n : Nat} {c : Ct} {d : DA} {u : TA} (F : Fd P w K mg base ca x c n k) (hr : Room k X.A) (hg : Gl X x) (tk : Takes X W) (ha : PDA X ca W (e :: es) u d) (hl : (e :: es).length = n := by rfl)
    (hdb : (x == ("__debug__" : Str)) = false := by decide) (he : starEach (e :: es) X.env = (false, eval e X.env) :: starEach es X.env := by rfl) (hpl : (backTo pos (starEach es X.env)).any (·.1) = false := by rfl)
    (hP : X.prog = P := by rfl) (hw : X.w = w := by rfl) (hK : X.K = K := by rfl) (hM : X.mg = mg := by rfl) (hB : X.base = base := by rfl) :
    PD X ca W (.Call (.Name x p) (e :: es) [] pos) (tCallS (spD K ca c n) (WE W) u) (dCall c d) := by
  subst hP hw hK hM hB
  obtain ⟨f, fd, ps, h1, h2, h3, h4⟩ := F
  exact pd_call h1 hr hg h2 h3 h4 tk ha hl hdb he hpl
/-- a module's whole number -/
theorem pd_gint {x : Str} {i : Int} {p : Pos} (hg : Gl X x) (hm : ∃ t, X.mg x = some (.int i t)) (hdb : (x == ("__debug__" : Str)) = false := by decide) : PD X ca W (.Name x p) (tC (.int i)) (dC (.int i)) := by
  obtain ⟨t, hm⟩ := hm
  exact pd_glob hg hm ⟨t, rfl⟩ (fun _ => .int i) hdb
/-- a module's tuple of texts -/
theorem pd_gtup {x : Str} {a : Addr} {d : PyData} {p : Pos} (hg : Gl X x) (hm : X.mg x = some (.ref a)) (hd : ∀ H, Dv X.K H (.ref a) d) (hdb : (x == ("__debug__" : Str)) = false := by decide) : PD X ca W (.Name x p) (tC (.ref a)) (dC d) := pd_glob hg hm rfl hd hdb
end
section
variable {P : Program} {w : World} {K : PySem.W.Frag} {mg : Str → Option Value} {base : Heap} {ca : Er → Addr}
theorem Fd.mk' {x qual : Str} {st : Stmt} {f : Addr} {fd : FuncData} {ps : List Str} {c : Ct} {n k : Nat} (F : Fun K x qual st f fd) (g : mg x = some (.ref f)) (ok : FnOk P w K mg base (L2.CX P w) k f fd ps (spD K ca c n))
    (b : ∀ (kV doc pm : Value) (an : Option Addr) (cdv ct : Value) (us : List Value), us.length = ps.length → bindArgs (PySem.W.fnOf x qual (defArgs st) (defBody st) (defScope st) .none kV doc pm an cdv ct) ⟨us, []⟩ = pure (ps.zip us)) : Fd P w K mg base ca x c n k :=
  ⟨f, fd, ps, ok, g, F.kp, F.binds b⟩
end
end DL

namespace DL
open PySem PySem.Spec PyProof.Rows L2

/-! ### the readings over data, said for rewriting -/
theorem shaped_int (a : Int) : SeqAt.shaped (.int a) = true := by simp [SeqAt.shaped, PyData.canLay0, PyData.depth]
theorem shaped_bool (a : Bool) : SeqAt.shaped (.bool a) = true := by simp [SeqAt.shaped, PyData.canLay0, PyData.depth]
theorem shaped_none : SeqAt.shaped .none = true := by simp [SeqAt.shaped, PyData.canLay0, PyData.depth]
theorem eqv_int (a b : Int) : PyData.eqv (.int a) (.int b) = decide (a = b) := by
  simp [PyData.eqv]
  by_cases h : a = b <;> simp [h]
theorem eqv_bool (a b : Bool) : PyData.eqv (.bool a) (.bool b) = decide (a = b) := by
  cases a <;> cases b <;> simp [PyData.eqv]
theorem eqv_str (a b : Str) : PyData.eqv (.str a) (.str b) = decide (a = b) := by
  simp [PyData.eqv]
  by_cases h : a = b <;> simp [h]
theorem eqD_int (a b : Int) : eqD (.int a) (.int b) = some (decide (a = b)) := by simp [eqD, shaped_int, eqv_int]
theorem neD_int (a b : Int) : neD (.int a) (.int b) = some (!decide (a = b)) := by simp [neD, shaped_int, eqv_int]
theorem eqD_bool (a b : Bool) : eqD (.bool a) (.bool b) = some (decide (a = b)) := by simp [eqD, shaped_bool, eqv_bool]
theorem neD_bool (a b : Bool) : neD (.bool a) (.bool b) = some (!decide (a = b)) := by simp [neD, shaped_bool, eqv_bool]
/-- a fraction -/
abbrev fr (a b : Int) : PyData := .tuple [.int a, .int b]
theorem shaped_fr (a b : Int) : SeqAt.shaped (fr a b) = true := by simp [SeqAt.shaped, PyData.canLay0, PyData.canLayAll0, PyData.depth, PyData.depthAll]
theorem eqv_fr (a b c d : Int) : PyData.eqv (fr a b) (fr c d) = decide (a = c ∧ b = d) := by
  simp [PyData.eqv, PyData.eqvAll]
  by_cases h : a = c <;> by_cases g : b = d <;> simp [h, g]
theorem eqD_fr (a b c d : Int) : eqD (fr a b) (fr c d) = some (decide (a = c ∧ b = d)) := by simp [eqD, shaped_fr, eqv_fr]
theorem neD_fr (a b c d : Int) : neD (fr a b) (fr c d) = some (!decide (a = c ∧ b = d)) := by simp [neD, shaped_fr, eqv_fr]
theorem ix_fr0 (a b : PyData) : ixD (.tuple [a, b]) (.int 0) = some a := rfl
theorem ix_fr1 (a b : PyData) : ixD (.tuple [a, b]) (.int 1) = some b := rfl
def yInt : PyData → Bool
  | .bool _ => true
  | .int _ => true
  | _ => false
theorem kit_int_NoneType : kitB "NoneType" "int" = some false := by decide +kernel
theorem kit_int_bool : kitB "bool" "int" = some true := by decide +kernel
theorem kit_int_int : kitB "int" "int" = some true := by decide +kernel
theorem kit_int_str : kitB "str" "int" = some false := by decide +kernel
theorem kit_int_list : kitB "list" "int" = some false := by decide +kernel
theorem kit_int_tuple : kitB "tuple" "int" = some false := by decide +kernel
theorem kit_int_dict : kitB "dict" "int" = some false := by decide +kernel
theorem kit_int (d : PyData) : kitB (tyn d) "int" = some (yInt d) := by
  cases d
  · exact kit_int_NoneType
  · exact kit_int_bool
  · exact kit_int_int
  · exact kit_int_str
  · exact kit_int_list
  · exact kit_int_tuple
  · exact kit_int_dict
def yBool : PyData → Bool
  | .bool _ => true
  | _ => false
theorem kit_bool_NoneType : kitB "NoneType" "bool" = some false := by decide +kernel
theorem kit_bool_bool : kitB "bool" "bool" = some true := by decide +kernel
theorem kit_bool_int : kitB "int" "bool" = some false := by decide +kernel
theorem kit_bool_str : kitB "str" "bool" = some false := by decide +kernel
theorem kit_bool_list : kitB "list" "bool" = some false := by decide +kernel
theorem kit_bool_tuple : kitB "tuple" "bool" = some false := by decide +kernel
theorem kit_bool_dict : kitB "dict" "bool" = some false := by decide +kernel
theorem kit_bool (d : PyData) : kitB (tyn d) "bool" = some (yBool d) := by
  cases d
  · exact kit_bool_NoneType
  · exact kit_bool_bool
  · exact kit_bool_int
  · exact kit_bool_str
  · exact kit_bool_list
  · exact kit_bool_tuple
  · exact kit_bool_dict
def yStr : PyData → Bool
  | .str _ => true
  | _ => false
theorem kit_str_NoneType : kitB "NoneType" "str" = some false := by decide +kernel
theorem kit_str_bool : kitB "bool" "str" = some false := by decide +kernel
theorem kit_str_int : kitB "int" "str" = some false := by decide +kernel
theorem kit_str_str : kitB "str" "str" = some true := by decide +kernel
theorem kit_str_list : kitB "list" "str" = some false := by decide +kernel
theorem kit_str_tuple : kitB "tuple" "str" = some false := by decide +kernel
theorem kit_str_dict : kitB "dict" "str" = some false := by decide +kernel
theorem kit_str (d : PyData) : kitB (tyn d) "str" = some (yStr d) := by
  cases d
  · exact kit_str_NoneType
  · exact kit_str_bool
  · exact kit_str_int
  · exact kit_str_str
  · exact kit_str_list
  · exact kit_str_tuple
  · exact kit_str_dict
def yTup : PyData → Bool
  | .tuple _ => true
  | _ => false
theorem kit_tuple_NoneType : kitB "NoneType" "tuple" = some false := by decide +kernel
theorem kit_tuple_bool : kitB "bool" "tuple" = some false := by decide +kernel
theorem kit_tuple_int : kitB "int" "tuple" = some false := by decide +kernel
theorem kit_tuple_str : kitB "str" "tuple" = some false := by decide +kernel
theorem kit_tuple_list : kitB "list" "tuple" = some false := by decide +kernel
theorem kit_tuple_tuple : kitB "tuple" "tuple" = some true := by decide +kernel
theorem kit_tuple_dict : kitB "dict" "tuple" = some false := by decide +kernel
theorem kit_tuple (d : PyData) : kitB (tyn d) "tuple" = some (yTup d) := by
  cases d
  · exact kit_tuple_NoneType
  · exact kit_tuple_bool
  · exact kit_tuple_int
  · exact kit_tuple_str
  · exact kit_tuple_list
  · exact kit_tuple_tuple
  · exact kit_tuple_dict
/-! each operator at the shapes that occur -/
theorem ex_if {c : Prop} [Decidable c] (v : PyData) (q : PyData → Prop) : (∃ z, (if c then some v else none) = some z ∧ q z) ↔ c ∧ q v := by
  by_cases h : c
  · rw [if_pos h]
    exact ⟨fun ⟨z, e, k⟩ => ⟨h, by cases e; exact k⟩, fun k => ⟨v, rfl, k.2⟩⟩
  · rw [if_neg h]
    exact ⟨fun ⟨z, e, k⟩ => (by cases e), fun k => absurd k.1 h⟩
theorem addD_i (a b : Int) : addD (.int a) (.int b) = some (.int (a + b)) := rfl
theorem iaddD_i (a b : Int) : iaddD (.int a) (.int b) = some (.int (a + b)) := rfl
theorem subD_i (a b : Int) : subD (.int a) (.int b) = some (.int (a - b)) := rfl
theorem negD_i (a : Int) : negD (.int a) = some (.int (-a)) := rfl
theorem mulD_i {a b : Int} (h : mulOk a b = true) : mulD (.int a) (.int b) = some (.int (a * b)) := if_pos h
theorem mulD_e (a b : Int) (q : PyData → Prop) : (∃ z, mulD (.int a) (.int b) = some z ∧ q z) ↔ mulOk a b = true ∧ q (.int (a * b)) := ex_if _ q
theorem fdivD_e (a b : Int) (q : PyData → Prop) : (∃ z, fdivD (.int a) (.int b) = some z ∧ q z) ↔ (0 < b ∧ b < 2 ^ 64) ∧ q (.int (a / b)) := ex_if _ q
theorem ifdivD_e (a b : Int) (q : PyData → Prop) : (∃ z, ifdivD (.int a) (.int b) = some z ∧ q z) ↔ (0 < b ∧ b < 1073741824) ∧ q (.int (a / b)) := ex_if _ q
theorem modD_e (a b : Int) (q : PyData → Prop) : (∃ z, modD (.int a) (.int b) = some z ∧ q z) ↔ 0 < b ∧ q (.int (a % b)) := ex_if _ q
theorem ltD_i (a b : Int) : ltD (.int a) (.int b) = some (decide (a < b)) := rfl
theorem leD_i (a b : Int) : leD (.int a) (.int b) = some (decide (a ≤ b)) := rfl
theorem gtD_i (a b : Int) : gtD (.int a) (.int b) = some (decide (b < a)) := rfl
theorem geD_i (a b : Int) : geD (.int a) (.int b) = some (decide (b ≤ a)) := rfl
theorem absD_i (a : Int) : absD [.int a] = some (.int (a.natAbs : Int)) := rfl
theorem maxD_i (a b : Int) : maxD [.int a, .int b] = some (.int (max a b)) := rfl
theorem lenD_t (xs : List PyData) : lenD [.tuple xs] = some (.int (xs.length : Int)) := rfl
theorem lenD_l (xs : List PyData) : lenD [.list xs] = some (.int (xs.length : Int)) := rfl
theorem isNd_n (a : PyData) : isNd a .none = some (isNonD a) := rfl
theorem notNd_n (a : PyData) : notNd a .none = some (!isNonD a) := rfl
theorem isBd_b (a b : Bool) : isBd (.bool a) (.bool b) = some (decide (a = b)) := rfl
theorem notBd_b (a b : Bool) : notBd (.bool a) (.bool b) = some (!decide (a = b)) := rfl
theorem isNonD_i (a : Int) : isNonD (.int a) = false := rfl
theorem isNonD_n : isNonD .none = true := rfl
theorem isNonD_t (a : List PyData) : isNonD (.tuple a) = false := rfl
theorem isNonD_l (a : List PyData) : isNonD (.list a) = false := rfl
/-- a statement, then the rest: the rest is a letter meanwhile -/
theorem seq_mk {t u : DS} {E : DEnd} {l : Sl} (h : ∀ k : Sl → Prop, (∀ l', u E l' → k l') → t { E with nx := k } l) : dSeq t u E l := h _ fun _ z => z
/-- a for loop by what holds ahead of each turn -/
theorem forW_inv {g : DG} {t : DS} {E : DEnd} {xs : List PyData} (I : Nat → Sl → Prop)
    (hs : ∀ (i : Nat) (x : PyData) (l : Sl) (k : Sl → Prop), xs[i]? = some x → I i l → (∀ l', I (i + 1) l' → k l') → g x l fun l2 => t { E with nx := k, ct := k, bk := E.nx } l2)
    (hd : ∀ l, I xs.length l → E.nx l) (l : Sl) (h : I 0 l) : forW g t E xs l := by
  have key : ∀ (m i : Nat) (l : Sl), xs.length - i = m → i ≤ xs.length → I i l → forW g t E (xs.drop i) l := by
    intro m
    induction m with
    | zero =>
      intro i l hm hi h
      have e : i = xs.length := by omega
      subst e
      rw [List.drop_length]
      exact hd l h
    | succ m ih =>
      intro i l hm hi h
      have hlt : i < xs.length := by omega
      rw [List.drop_eq_getElem_cons hlt]
      exact hs i _ l _ (List.getElem?_eq_getElem hlt) h fun l' h' => ih (i + 1) l' (by omega) hlt h'
  simpa using key xs.length 0 l (by omega) (Nat.zero_le _) h
theorem forW_rng {g : DG} {t : DS} {E : DEnd} {lo : Int} {n : Nat} (I : Nat → Sl → Prop)
    (hs : ∀ (i : Nat) (l : Sl) (k : Sl → Prop), i < n → I i l → (∀ l', I (i + 1) l' → k l') → g (.int (lo + i)) l fun l2 => t { E with nx := k, ct := k, bk := E.nx } l2)
    (hd : ∀ l, I n l → E.nx l) (l : Sl) (h : I 0 l) : forW g t E (rngD lo n) l :=
  forW_inv I (fun i x l k hx h q => by
    obtain ⟨hi, rfl⟩ := rngD_get hx
    exact hs i l k hi h q) (fun l h => hd l (by rwa [rngD_len] at h)) l h
/-- a while loop by what holds ahead of each turn and a number that falls -/
theorem whW_inv {c : DT} {t : DS} {E : DEnd} (I : Nat → Sl → Prop)
    (hs : ∀ (n : Nat) (l : Sl) (k : Sl → Prop), I n l → (∀ l' m, m < n → I m l' → k l') → c l (fun b l' => if b = true then t { E with nx := k, ct := k, bk := E.nx } l' else E.nx l') E.rs) (n : Nat) (l : Sl) (h : I n l) : dWhile c t E l := by
  have key : ∀ (N n : Nat) (l : Sl), n ≤ N → I n l → whW c t E (N + 1) l := by
    intro N
    induction N with
    | zero =>
      intro n l hn h
      exact hs n l _ h fun l' m hm _ => absurd hm (by omega)
    | succ N ih =>
      intro n l hn h
      exact hs n l _ h fun l' m hm h' => ih m l' (by omega) h'
  exact ⟨n + 1, key n n l (Nat.le_refl _) h⟩
theorem line_nil : ([] : List PyData).length ≤ sizeLine := Nat.zero_le _
theorem line1 (a : PyData) : [a].length ≤ sizeLine := by rw [sizeLine_eq]; exact (by decide : 1 ≤ 16777216)
theorem line2 (a b : PyData) : [a, b].length ≤ sizeLine := by rw [sizeLine_eq]; exact (by decide : 2 ≤ 16777216)
theorem line3 (a b c : PyData) : [a, b, c].length ≤ sizeLine := by rw [sizeLine_eq]; exact (by decide : 3 ≤ 16777216)
theorem line4 (a b c d : PyData) : [a, b, c, d].length ≤ sizeLine := by rw [sizeLine_eq]; exact (by decide : 4 ≤ 16777216)
theorem mulOk_l {a b : Int} (h1 : -(2 ^ 64) < a) (h2 : a < 2 ^ 64) : mulOk a b = true := by simp [mulOk]; omega
theorem mulOk_r {a b : Int} (h1 : -(2 ^ 64) < b) (h2 : b < 2 ^ 64) : mulOk a b = true := by simp [mulOk]; omega
end DL

/-! the package's functions as plain Lean -/
namespace SD
open PySem DL

inductive Ru where
  | down | up | zero | nup | nzero | naway | neven
  deriving DecidableEq
def ruS : Ru → Str
  | .down => "down"
  | .up => "up"
  | .zero => "zero"
  | .nup => "near-up"
  | .nzero => "near-zero"
  | .naway => "near-away"
  | .neven => "near-even"
def ruAll : List Ru := [.down, .up, .zero, .nup, .nzero, .naway, .neven]
theorem ruAll_mem (r : Ru) : r ∈ ruAll := by cases r <;> decide
/-- the rules as data -/
def rulesD : List PyData := ruAll.map fun r => .str (ruS r)
theorem ru_shaped (r : Ru) : SeqAt.shaped (.str (ruS r)) = true := by cases r <;> decide +kernel
theorem ruS_inj : ∀ r s : Ru, ruS r = ruS s → r = s := by
  intro r s
  cases r <;> cases s <;> first | (intro _; rfl) | (intro h; exact absurd h (by decide +kernel))
theorem eqD_ru (r s : Ru) : eqD (.str (ruS r)) (.str (ruS s)) = some (decide (r = s)) := by
  unfold eqD
  rw [if_pos ⟨ru_shaped r, ru_shaped s⟩, eqv_str]
  by_cases h : r = s
  · subst h
    simp
  · have h2 : ¬ ruS r = ruS s := fun z => h (ruS_inj r s z)
    simp [h, h2]
theorem eqD_down (r : Ru) : eqD (.str (ruS r)) (.str "down") = some (decide (r = .down)) := eqD_ru r .down
theorem eqD_up (r : Ru) : eqD (.str (ruS r)) (.str "up") = some (decide (r = .up)) := eqD_ru r .up
theorem eqD_zero (r : Ru) : eqD (.str (ruS r)) (.str "zero") = some (decide (r = .zero)) := eqD_ru r .zero
theorem eqD_nup (r : Ru) : eqD (.str (ruS r)) (.str "near-up") = some (decide (r = .nup)) := eqD_ru r .nup
theorem eqD_nzero (r : Ru) : eqD (.str (ruS r)) (.str "near-zero") = some (decide (r = .nzero)) := eqD_ru r .nzero
theorem eqD_naway (r : Ru) : eqD (.str (ruS r)) (.str "near-away") = some (decide (r = .naway)) := eqD_ru r .naway
theorem eqD_neven (r : Ru) : eqD (.str (ruS r)) (.str "near-even") = some (decide (r = .neven)) := eqD_ru r .neven

theorem strs_rules : strsOf rulesD = some (ruAll.map ruS) := rfl
theorem notInRules (x : Str) : notInTd (.str x) (.tuple rulesD) = some (!decide (x ∈ ruAll.map ruS)) := by
  show (strsOf rulesD).map (fun ys => !decide (x ∈ ys)) = _
  rw [strs_rules]
  rfl
/-! ### whole numbers, fractions -/
def isIntB (v : PyData) (lo hi : Int) : Bool := match v with
  | .int i => decide (lo ≤ i ∧ i ≤ hi)
  | _ => false
def isFracB (v : PyData) : Bool := match v with
  | .tuple [.int p, .int q] => decide (1 ≤ q ∧ q ≤ 60 ∧ -100 * q ≤ p ∧ p ≤ 100 * q ∧ Int.gcd p q = 1)
  | _ => false
theorem isFracB_no {v : PyData} (h : ∀ p n : Int, v ≠ .tuple [.int p, .int n]) : isFracB v = false := by
  unfold isFracB
  split
  · exact absurd rfl (h _ _)
  · rfl
theorem isFracB_inv {v : PyData} (h : isFracB v = true) : ∃ p n : Int, v = fr p n ∧ 1 ≤ n ∧ n ≤ 60 ∧ -100 * n ≤ p ∧ p ≤ 100 * n ∧ Int.gcd p n = 1 := by
  unfold isFracB at h
  split at h
  · exact ⟨_, _, rfl, of_decide_eq_true h⟩
  · cases h
theorem isIntB_inv {v : PyData} {lo hi : Int} (h : isIntB v lo hi = true) : ∃ i : Int, v = .int i ∧ lo ≤ i ∧ i ≤ hi := by
  unfold isIntB at h
  split at h
  · exact ⟨_, rfl, of_decide_eq_true h⟩
  · cases h
def isRuleB (v : PyData) : Bool := match v with
  | .str x => decide (x ∈ ruAll.map ruS)
  | _ => false
theorem isRuleB_inv {v : PyData} (h : isRuleB v = true) : ∃ r : Ru, v = .str (ruS r) := by
  unfold isRuleB at h
  split at h
  · obtain ⟨r, _, e⟩ := List.mem_map.mp (of_decide_eq_true h)
    exact ⟨r, by rw [e]⟩
  · cases h
theorem isRuleB_ru (r : Ru) : isRuleB (.str (ruS r)) = true := by
  unfold isRuleB
  exact decide_eq_true (List.mem_map.mpr ⟨r, ruAll_mem r, rfl⟩)
def powT (d : Int) : Int := 10 ^ d.toNat
theorem powT_pos (d : Int) : 0 < powT d := by unfold powT; exact Int.pow_pos (by decide)
theorem powT_le {d : Int} (h : d ≤ 6) : powT d ≤ 1000000 := by
  unfold powT
  have h1 : d.toNat = 0 ∨ d.toNat = 1 ∨ d.toNat = 2 ∨ d.toNat = 3 ∨ d.toNat = 4 ∨ d.toNat = 5 ∨ d.toNat = 6 := by omega
  rcases h1 with h | h | h | h | h | h | h <;> rw [h] <;> decide
def gcdI (a b : Int) : Int := (Int.gcd a b : Int)
theorem gcdI_pos {a b : Int} (h : 0 < b) : 0 < gcdI a b := by
  unfold gcdI
  have : 0 < Int.gcd a b := Int.gcd_pos_of_ne_zero_right a (by omega)
  omega
theorem gcdI_le {a b : Int} (h : 0 < b) : gcdI a b ≤ b := by
  unfold gcdI
  exact Int.le_of_dvd h (Int.gcd_dvd_right ..)
def lowN (a b : Int) : Int := a / gcdI a b
def lowU (a b : Int) : Int := b / gcdI a b
/-- lowest -/
def lowF (a b : Int) : PyData := fr (lowN a b) (lowU a b)
theorem lowU_pos {a b : Int} (h : 0 < b) : 0 < lowU a b := by
  unfold lowU
  have h1 := gcdI_pos (a := a) h
  have h2 := gcdI_le (a := a) h
  exact Int.ediv_pos_of_pos_of_dvd h (by omega) (Int.gcd_dvd_right ..)
theorem lowU_le {a b : Int} (h : 0 < b) : lowU a b ≤ b := by
  unfold lowU
  exact Int.ediv_le_self _ (by omega)
/-- units_of -/
def unitsF (p q d : Int) (r : Ru) : Int :=
  if p * powT d % q = 0 ∨ r = .down then p * powT d / q
  else if r = .up then p * powT d / q + 1
  else if r = .zero then (if 0 < p * powT d then p * powT d / q else p * powT d / q + 1)
  else if ¬ 2 * (p * powT d % q) = q then (if 2 * (p * powT d % q) < q then p * powT d / q else p * powT d / q + 1)
  else if r = .nup then p * powT d / q + 1
  else if r = .nzero then (if 0 < p * powT d then p * powT d / q else p * powT d / q + 1)
  else if r = .naway then (if 0 < p * powT d then p * powT d / q + 1 else p * powT d / q)
  else (if p * powT d / q % 2 = 0 then p * powT d / q else p * powT d / q + 1)
/-- one check ahead of the rest -/
def chk (b : Bool) (e : Er) (q : Res → Prop) (r : Prop) : Prop := if b = true then r else q (.er e)
theorem chk_t {e : Er} {q : Res → Prop} {r : Prop} : chk true e q r ↔ r := by simp [chk]
theorem chk_f {e : Er} {q : Res → Prop} {r : Prop} : chk false e q r ↔ q (.er e) := by simp [chk]
/-- minus -/
def minusF (a b c d : Int) : PyData := lowF (a * d - c * b) (b * d)
/-- the units as a fraction less the fraction itself -/
def errF (p n k : Int) (r : Ru) : PyData := minusF (lowN (unitsF p n k r) (powT k)) (lowU (unitsF p n k r) (powT k)) p n
def errN (p n k : Int) (r : Ru) : Int := lowN (lowN (unitsF p n k r) (powT k) * n - p * lowU (unitsF p n k r) (powT k)) (lowU (unitsF p n k r) (powT k) * n)
def errU (p n k : Int) (r : Ru) : Int := lowU (lowN (unitsF p n k r) (powT k) * n - p * lowU (unitsF p n k r) (powT k)) (lowU (unitsF p n k r) (powT k) * n)
theorem errF_eq (p n k : Int) (r : Ru) : errF p n k r = fr (errN p n k r) (errU p n k r) := rfl
/-- the first of i, i + 1, .. (m of them) at which f holds -/
def fstK (f : Nat → Bool) : Nat → Nat → Option Nat
  | _, 0 => none
  | i, m + 1 => if f i = true then some i else fstK f (i + 1) m
def optI : Option Nat → PyData
  | some k => .int (k : Int)
  | none => .none
def ldC (p n c d : Int) (k : Nat) : Bool := decide (((errN p n k .neven).natAbs : Int) * d ≤ c * errU p n k .neven)
/-- least_digits_for -/
def ldF (p n c d : Int) : Option Nat := fstK (ldC p n c d) 0 7
theorem lowU_lt {a b : Int} (h : 0 < b) (h2 : b < 4294967296) : 0 < lowU a b ∧ lowU a b < 4294967296 := by
  have h1 := lowU_pos (a := a) h
  have h3 := lowU_le (a := a) h
  omega
theorem powT_lt {d : Int} (h : d ≤ 6) : 0 < powT d ∧ powT d < 4294967296 := by
  have h1 := powT_pos d
  have h2 := powT_le h
  omega
theorem gcdI_dvd_l (a b : Int) : gcdI a b ∣ a := Int.gcd_dvd_left ..
theorem gcdI_dvd_r (a b : Int) : gcdI a b ∣ b := Int.gcd_dvd_right ..
theorem lowN_mul {a b : Int} (h : 0 < b) : lowN a b * gcdI a b = a := Int.ediv_mul_cancel (gcdI_dvd_l a b)
theorem lowU_mul {a b : Int} (h : 0 < b) : lowU a b * gcdI a b = b := Int.ediv_mul_cancel (gcdI_dvd_r a b)
theorem low_coprime {a b : Int} (h : 0 < b) : Int.gcd (lowN a b) (lowU a b) = 1 := by
  have hg : 0 < Int.gcd a b := Int.gcd_pos_of_ne_zero_right a (by omega)
  exact Int.gcd_ediv_gcd_ediv_gcd hg
theorem low_frac {a u : Int} (h1 : 1 ≤ u) (h2 : u ≤ 60) (h3 : -100 * u ≤ a) (h4 : a ≤ 100 * u) : isFracB (lowF a u) = true := by
  have hu : 0 < u := by omega
  have g := gcdI_pos (a := a) hu
  have e1 := lowN_mul (a := a) hu
  have e2 := lowU_mul (a := a) hu
  have p1 := lowU_pos (a := a) hu
  have p2 := lowU_le (a := a) hu
  have c := low_coprime (a := a) hu
  show isFracB (.tuple [.int (lowN a u), .int (lowU a u)]) = true
  unfold isFracB
  refine decide_eq_true ⟨by omega, by omega, ?_, ?_, c⟩
  · refine Int.le_of_mul_le_mul_right (a := gcdI a u) ?_ g
    rw [Int.mul_assoc, e1, e2]
    exact h3
  · refine Int.le_of_mul_le_mul_right (a := gcdI a u) ?_ g
    rw [Int.mul_assoc, e1, e2]
    exact h4
theorem lowF_def (a b : Int) : lowF a b = fr (lowN a b) (lowU a b) := rfl
end SD

namespace DL
open PySem PySem.Spec PyProof.Rows L2

/-! ### defs whose first argument is the draws -/
def spW (K : PySem.W.Frag) (ca : Er → Addr) (c : Ct) (n : Nat) : Sp := fun vs H Q E => ∃ (a b : Addr) (vr : List V) (Hf : Hp) (ds : List PyData) (q : Res → Prop), vs = .ref a :: vr ∧ ds.length = n ∧ Same Hf H ∧ (Hf a = none ∧ Hf b = none ∧ a ≠ b) ∧ DrwAt H a b ∧ DvAll K Hf vr ds ∧ c ds q ∧
  (∀ d v H' Hf', q (.ok d) → Frm [a, b] H Hf H' Hf' → DrwAt H' a b → Dv K Hf' v d → Q v H') ∧ (∀ e H' Hf', q (.er e) → Frm [a, b] H Hf H' Hf' → DrwAt H' a b → E (.ref (ca e)) none H')
def dCallW (i : Nat) (c : Ct) (d : DA) : DE := fun l Q R => ∃ a b, l[i]? = some (some (.drw a b)) ∧ d l (fun ds l1 => l1[i]? = some (some (.drw a b)) ∧ c ds fun r => match r with | .ok x => Q x l1 | .er e => R e l1) R
structure FdW (P : Program) (w : World) (K : PySem.W.Frag) (mg : Str → Option Value) (base : Heap) (ca : Er → Addr) (x : Str) (c : Ct) (n k : Nat) : Prop where
  ex : ∃ (f : Addr) (fd : FuncData) (ps : List Str), FnOk P w K mg base (L2.CX P w) k f fd ps (spW K ca c n) ∧ mg x = some (.ref f) ∧ PySem.W.keepIn K (.ref f) = true ∧ Binds K fd ps []
section
variable {X : Cx} {ca : Er → Addr} {W : WX} {a b c e o : Expr} {es : List Expr} {pos : Pos}
theorem drw_back {K : PySem.W.Frag} {G : Gm} {H Hf H' Hf' : Hp} {σ : L2.St} {l : Sl} {i : Nat} {a b : Addr} (R : Rep K G H Hf σ l) (hi : l[i]? = some (some (.drw a b))) (F : Frm [a, b] H Hf H' Hf') (hd : DrwAt H' a b) : Rep K G H' Hf' σ l := by
  have fa := R.free a (mem_feet hi (by simp [foot]))
  have fb := R.free b (mem_feet hi (by simp [foot]))
  refine R.growEx F (fun x hx => ?_) fun j s v hj hv hs => ?_
  · have e : x = a ∨ x = b := by simpa using hx
    rcases e with e | e
    · rw [e]; exact fa.2
    · rw [e]; exact fb.2
  · by_cases e : j = i
    · subst e
      rw [hi] at hj
      have e2 : S.drw a b = s := by simpa using hj
      subst e2
      exact .inr ⟨hs.1, hd⟩
    · refine .inl fun x hx z => ?_
      have z : x = a ∨ x = b := by simpa using z
      rcases z with z | z
      · exact feet_ne R.nd hj hi e hx (by simp [foot]) z
      · exact feet_ne R.nd hj hi e hx (by simp [foot]) z
theorem drw_ne {K : PySem.W.Frag} {G : Gm} {H Hf : Hp} {σ : L2.St} {l : Sl} {i : Nat} {a b : Addr} (R : Rep K G H Hf σ l) (hi : l[i]? = some (some (.drw a b))) : a ≠ b := by
  have nd := R.nd
  intro e
  subst e
  have sub : (foot (some (S.drw a a))).Sublist (feet l) := by
    have : ∀ {l : Sl} {i : Nat}, l[i]? = some (some (S.drw a a)) → (foot (some (S.drw a a))).Sublist (feet l) := by
      intro l
      induction l with
      | nil =>
        intro i h
        simp at h
      | cons x r ih =>
        intro i h
        cases i with
        | zero =>
          have e : x = some (S.drw a a) := by simpa using h
          subst e
          exact List.sublist_append_left _ _
        | succ i => exact (ih (by simpa using h)).trans (List.sublist_append_right _ _)
    exact this hi
  have := nd.sublist sub
  simp [foot] at this
theorem pd_fnW {P : Program} {w : World} {K : PySem.W.Frag} {mg : Str → Option Value} {base : Heap} {x : Str} {p : Pos} {k n i : Nat} {c : Ct} {d : DA} {u : TA} (F : FdW P w K mg base ca x c n k) (hr : Room k X.A) (hg : Gl X x) (tk : Takes X W) (ho : PE X o (tVar i)) (ha : PDA X ca W es u d) (hl : es.length = n := by rfl)
    (hdb : (x == ("__debug__" : Str)) = false := by decide) (he : starEach (o :: es) X.env = (false, eval o X.env) :: starEach es X.env := by rfl) (hpl : (backTo pos (starEach es X.env)).any (·.1) = false := by rfl)
    (hP : X.prog = P := by rfl) (hw : X.w = w := by rfl) (hK : X.K = K := by rfl) (hM : X.mg = mg := by rfl) (hB : X.base = base := by rfl) :
    PD X ca W (.Call (.Name x p) (o :: es) [] pos) (tCallS (spW K ca c n) (WE W) (tCons (tVar i) u)) (dCallW i c d) := by
  subst hP hw hK hM hB
  obtain ⟨f, fd, ps, h1, h2, h3, h4⟩ := F
  refine ⟨pe_callS (E := WE W) h1 hr hg h2 h3 h4 (fun σ => passAt tk σ) (pa_cons ho ha.pe he) hdb he hpl, fun G σ H Hf l Q q r R k kr z => ?_⟩
  obtain ⟨a, b, hi, z⟩ := z
  obtain ⟨v, e1, e2, _⟩ := R.slot i _ hi
  subst e2
  refine ⟨_, e1, ha.es G σ H Hf l _ _ r R (fun xs l1 vs H1 Hf1 z1 hn R1 s1 d1 => ?_) kr z⟩
  obtain ⟨hi1, z1⟩ := z1
  obtain ⟨v, _, _, hd⟩ := R1.slot i _ hi1
  have fa := R1.free a (mem_feet hi1 (by simp [foot]))
  have fb := R1.free b (mem_feet hi1 (by simp [foot]))
  refine ⟨a, b, vs, Hf1, xs, _, rfl, hn.trans hl, R1.sub, ⟨fa.1, fb.1, drw_ne R1 hi1⟩, hd, d1, z1, fun d v H' Hf' q' F' hd' dv => ?_, fun e H' Hf' q' F' hd' => ?_⟩
  · exact k _ _ _ _ _ q' (drw_back R1 hi1 F' hd') (s1.trans (F'.sameF R1.sub)) dv
  · exact kr _ _ _ _ q' (drw_back R1 hi1 F' hd')
end

def startW (N : List Str) (a b : Addr) (ds : List PyData) : Sl := some (.drw a b) :: (ds.map (fun d => some (S.val d)) ++ List.replicate (N.length - (ds.length + 1)) none)
def topW (a b : Addr) (q : Res → Prop) : DEnd := ⟨fun l => l[0]? = some (some (.drw a b)) ∧ q (.ok .none), fun d l => l[0]? = some (some (.drw a b)) ∧ q (.ok d), fun _ => False, fun _ => False, fun e l => l[0]? = some (some (.drw a b)) ∧ q (.er e)⟩
theorem rep_startW {K : PySem.W.Frag} {H Hf : Hp} {N : List Str} {a b : Addr} {vs : List V} {ds : List PyData} (s : Same Hf H) (ha : Hf a = none ∧ Hf b = none ∧ a ≠ b) (hd : DrwAt H a b) (q : DvAll K Hf vs ds) : Rep K ⟨[a, b], H, Hf⟩ H Hf (L2.start N (.ref a :: vs)) (startW N a b ds) := by
  have ft : feet (startW N a b ds) = [a, b] := by
    show [a, b] ++ feet (ds.map (fun d => some (S.val d)) ++ List.replicate (N.length - (ds.length + 1)) none) = [a, b]
    rw [feet_vals, feet_none]
    rfl
  have slot : ∀ (i : Nat) (x : S), (startW N a b ds)[i]? = some (some x) → (i = 0 ∧ x = .drw a b) ∨ ∃ j d, i = j + 1 ∧ ds[j]? = some d ∧ x = .val d := by
    intro i x h
    cases i with
    | zero =>
      have e : S.drw a b = x := by simpa [startW] using h
      exact .inl ⟨rfl, e.symm⟩
    | succ j =>
      refine .inr ?_
      have h' : (ds.map (fun d => some (S.val d)) ++ List.replicate (N.length - (ds.length + 1)) none)[j]? = some (some x) := by simpa [startW] using h
      rw [List.getElem?_append] at h'
      split at h'
      · rw [List.getElem?_map] at h'
        cases e : ds[j]? with
        | none => rw [e] at h'; cases h'
        | some d =>
          rw [e] at h'
          have z : S.val d = x := by simpa using h'
          exact ⟨j, d, rfl, e, z.symm⟩
      · rw [List.getElem?_replicate] at h'
        split at h'
        · simp at h'
        · cases h'
  refine ⟨by simp [L2.start, startW, q.1], fun i x h => ?_, by rw [ft]; simp [ha.2.2], fun c hc => ?_, fun i p es h => ?_, Frm.refl s⟩
  · rcases slot i x h with ⟨rfl, rfl⟩ | ⟨j, d, rfl, h1, rfl⟩
    · exact ⟨.ref a, rfl, rfl, hd⟩
    · have hi : j < ds.length := (List.getElem?_eq_some_iff.mp h1).1
      have hi2 : j < vs.length := by rw [q.1]; exact hi
      refine ⟨vs[j], ?_, q.2 j _ d (List.getElem?_eq_getElem hi2) h1⟩
      unfold L2.start
      rw [List.getElem?_append, if_pos (by simp; exact hi2), List.getElem?_map]
      show ((V.ref a :: vs)[j + 1]?).map some = _
      rw [List.getElem?_cons_succ, List.getElem?_eq_getElem hi2]
      rfl
  · rw [ft] at hc
    have e : c = a ∨ c = b := by simpa using hc
    rcases e with e | e
    · rw [e]; exact ⟨ha.1, .inl (by simp)⟩
    · rw [e]; exact ⟨ha.2.1, .inl (by simp)⟩
  · rcases slot i _ h with ⟨_, z⟩ | ⟨_, _, _, _, z⟩
    · exact nomatch z
    · exact nomatch z
section
variable {P : Program} {w : World} {K : PySem.W.Frag} {mg : Str → Option Value} {base : Heap}
theorem fn_okW {x qual : Str} {st : Stmt} {f : Addr} {fd : FuncData} {N ps : List Str} {k n : Nat} {ca : Er → Addr} {c : Ct} (F : Fun K x qual st f fd) (S : FnScope N ps (defScope st)) (hn : ps.length = n + 1)
    (body : ∀ (cdv : Value) (A : Around) (outer : List Env) (s : Shared) (H : Hp) (E : XK), Room k (fnX P w K mg base N qual st f cdv A outer s H E).A → Takes (fnX P w K mg base N qual st f cdv A outer s H E) (fnW E) →
      PassesOwn (model P w) (fnX P w K mg base N qual st f cdv A outer s H E).A (fnX P w K mg base N qual st f cdv A outer s H E).env (fnX P w K mg base N qual st f cdv A outer s H E).xe → (fnX P w K mg base N qual st f cdv A outer s H E).A.units + 64 < cLine → (fnX P w K mg base N qual st f cdv A outer s H E).A.units + 65 < cLine →
      ∃ t d, PDB (fnX P w K mg base N qual st f cdv A outer s H E) ca (fnW E) (defBody st) t d ∧ ∀ ds q a b, ds.length = n → c ds q → d (topW a b q) (startW N a b ds)) :
    FnOk P w K mg base (L2.CX P w) (k + 1) f fd ps (spW K ca c n) := by
  refine F.okX S (fun vs H Q E h => ?_) (fun cdv A outer s H vs Q E hr h => ?_)
  · obtain ⟨a, b, vr, Hf, ds, q, rfl, h1, _, _, _, h2, _⟩ := h
    rw [List.length_cons, h2.1, h1, hn]
  · obtain ⟨a, b, vr, Hf, ds, q, rfl, h1, h2, ha, hd0, h3, h4, h5, h6⟩ := h
    obtain ⟨t, d, hb, hd⟩ := body cdv A outer s H E hr (takes_of rfl rfl rfl rfl) (passes_of rfl) hr.units (by have := hr.un; show (A.deeper _).units + 65 < cLine; omega)
    refine ⟨t, hb.pe, ?_⟩
    have back : ∀ σ' l' H' Hf', l'[0]? = some (some (DL.S.drw a b)) → Rep K ⟨[a, b], H, Hf⟩ H' Hf' σ' l' → DrwAt H' a b := fun σ' l' H' Hf' e R => by
      obtain ⟨v, _, _, z⟩ := R.slot 0 _ e
      exact z
    refine hb.es ⟨[a, b], H, Hf⟩ _ (topW a b q) _ H Hf _ (rep_startW h2 ha hd0 h3) ⟨?_, ?_, ?_, ?_, ?_⟩ (hd ds q a b h1 h4)
    · exact fun σ' l' H' Hf' z R _ => h5 _ _ _ _ z.2 R.frm (back _ _ _ _ z.1 R) .non
    · exact fun σ' l' v d H' Hf' z R _ dv => h5 _ _ _ _ z.2 R.frm (back _ _ _ _ z.1 R) dv
    · exact fun σ' l' H' Hf' z R _ => z.elim
    · exact fun σ' l' H' Hf' z R _ => z.elim
    · exact fun e σ' l' H' Hf' z R => h6 _ _ _ z.2 R.frm (back _ _ _ _ z.1 R)
theorem FdW.mk' {ca : Er → Addr} {x qual : Str} {st : Stmt} {f : Addr} {fd : FuncData} {ps : List Str} {c : Ct} {n k : Nat} (F : Fun K x qual st f fd) (g : mg x = some (.ref f)) (ok : FnOk P w K mg base (L2.CX P w) k f fd ps (spW K ca c n))
    (b : ∀ (kV doc pm : Value) (an : Option Addr) (cdv ct : Value) (us : List Value), us.length = ps.length → bindArgs (PySem.W.fnOf x qual (defArgs st) (defBody st) (defScope st) .none kV doc pm an cdv ct) ⟨us, []⟩ = pure (ps.zip us)) : FdW P w K mg base ca x c n k :=
  ⟨f, fd, ps, ok, g, F.kp, F.binds b⟩
end

/-! ### the law: its script, its draws -/
def spS (K : PySem.W.Frag) : Sp := fun vs H Q _ => ∃ (a : Addr) (ns : List Int), vs = [.ref a] ∧ SqL K H a (ns.map V.int) ∧ ns.length ≤ 63 ∧ ∀ (p b : Addr) (H' : Hp), Same H H' → H p = none → H b = none → p ≠ b → DrwAt H' p b → Q (.ref p) H'
structure FdS (P : Program) (w : World) (K : PySem.W.Frag) (mg : Str → Option Value) (base : Heap) (x : Str) (k : Nat) : Prop where
  ex : ∃ (f : Addr) (fd : FuncData) (ps : List Str), FnOk P w K mg base (L2.CX P w) k f fd ps (spS K) ∧ mg x = some (.ref f) ∧ PySem.W.keepIn K (.ref f) = true ∧ Binds K fd ps []
def dStart (i j : Nat) : DS := fun E l => l[j]? = some (some .scr) ∧ ∀ a b, E.nx (l.set i (some (.drw a b)))
theorem Rep.putDrw {K : PySem.W.Frag} {G : Gm} {H Hf H' : Hp} {σ : L2.St} {l : Sl} (R : Rep K G H Hf σ l) (i : Nat) {p b : Addr} (s : Same H H') (hp : H p = none) (hb : H b = none) (ne : p ≠ b) (hd : DrwAt H' p b) : Rep K G H' Hf (σ.set i (some (.ref p))) (l.set i (some (.drw p b))) := by
  have F : Frm [] H Hf H' Hf := ⟨fun b o _ e => s b o e, fun b o e => ⟨o, s b o e⟩, fun _ _ _ => rfl, fun b o e => s b o (R.sub b o e)⟩
  have R1 := R.grow F
  have nin : ∀ x, H x = none → x ∉ feet l ∧ G.H0 x = none ∧ Hf x = none := fun x hx => by
    refine ⟨fun z => ?_, ?_, ?_⟩
    · obtain ⟨o, ho⟩ := R.there z
      rw [hx] at ho
      cases ho
    · cases e : G.H0 x with
      | none => rfl
      | some o =>
        obtain ⟨o', e'⟩ := R.frm.there x o e
        rw [hx] at e'
        cases e'
    · cases e : Hf x with
      | none => rfl
      | some o =>
        have e' := R.sub x o e
        rw [hx] at e'
        cases e'
  obtain ⟨n1, n2⟩ := feet_set_nd (i := i) (x := some (.drw p b)) R.nd (by simp [foot, ne]) (fun x hx => by
    have e : x = p ∨ x = b := by simpa [foot] using hx
    rcases e with e | e
    · rw [e]; exact (nin p hp).1
    · rw [e]; exact (nin b hb).1)
  refine ⟨by simp [R.len], fun j s q => ?_, n1, fun x hx => ?_, fun j p' ds' q => ?_, R1.frm⟩
  · by_cases e : i = j
    · subst e
      have hlt : i < l.length := by
        have z := (List.getElem?_eq_some_iff.mp q).1
        simpa using z
      rw [List.getElem?_set_self hlt] at q
      have e : s = .drw p b := by simpa using q.symm
      subst e
      exact ⟨.ref p, List.getElem?_set_self (by rw [R.len]; exact hlt), rfl, hd⟩
    · rw [List.getElem?_set_ne e] at q
      rw [List.getElem?_set_ne e]
      exact R1.slot j s q
  · rcases n2 x hx with z | z
    · exact R.free x z
    · have e : x = p ∨ x = b := by simpa [foot] using z
      rcases e with e | e
      · rw [e]; exact ⟨(nin p hp).2.2, .inr (nin p hp).2.1⟩
      · rw [e]; exact ⟨(nin b hb).2.2, .inr (nin b hb).2.1⟩
  · by_cases e : i = j
    · subst e
      have hlt : i < l.length := by
        have z := (List.getElem?_eq_some_iff.mp q).1
        simpa using z
      rw [List.getElem?_set_self hlt] at q
      simp at q
    · rw [List.getElem?_set_ne e] at q
      exact R.ownNew j p' ds' q
section
variable {X : Cx} {ca : Er → Addr} {W : WX} {o tg : Expr} {pos : Pos}
theorem pds_start {x : Str} {p pos2 : Pos} {k i j : Nat} (F : FdS X.prog X.w X.K X.mg X.base x k) (hr : Room k X.A) (hg : Gl X x) (tk : Takes X W) (ho : PE X o (tVar j))
    (hp : PE X (.Call (.Name x p) [o] [] pos) (tCallS (spS X.K) (WE W) (tCons (tVar j) tNil)) → PS X (.Assign [tg] (.Call (.Name x p) [o] [] pos) pos2) (tAsg (tCallS (spS X.K) (WE W) (tCons (tVar j) tNil)) (gName i)))
    (hdb : (x == ("__debug__" : Str)) = false := by decide) (he : starEach [o] X.env = (false, eval o X.env) :: starEach [] X.env := by rfl) (hpl : (backTo pos (starEach [] X.env)).any (·.1) = false := by rfl) :
    PDS X ca W (.Assign [tg] (.Call (.Name x p) [o] [] pos) pos2) (tAsg (tCallS (spS X.K) (WE W) (tCons (tVar j) tNil)) (gName i)) (dStart i j) := by
  obtain ⟨f, fd, ps, h1, h2, h3, h4⟩ := F
  refine ⟨hp (pe_callS (E := WE W) h1 hr hg h2 h3 h4 (fun σ => passAt tk σ) (pa_cons ho pa_nil he) hdb he hpl), fun G D E σ H Hf l R m z => ?_⟩
  obtain ⟨hj, z⟩ := z
  obtain ⟨v, e1, a, ns, e2, hS, hl⟩ := R.slot j _ hj
  subst e2
  exact ⟨_, e1, a, ns, rfl, R.sub.seq hS, hl, fun p b H' s hp hb ne hd => m.nx _ _ _ _ (z p b) (R.putDrw i s hp hb ne hd) (Same.refl _)⟩
end
def spL (K : PySem.W.Frag) : Sp := fun vs H Q _ => ∃ (a : Addr) (ns : List Int), vs = [.ref a] ∧ SqL K H a (ns.map V.int) ∧ ns.length ≤ 63 ∧ ∀ H', Q (.bl true) H'
def startL (N : List Str) : Sl := some .scr :: List.replicate (N.length - 1) none
def topL : DEnd := ⟨fun _ => False, fun d _ => d = .bool true, fun _ => False, fun _ => False, fun _ _ => False⟩
section
variable {P : Program} {w : World} {K : PySem.W.Frag} {mg : Str → Option Value} {base : Heap}
theorem fn_okL {x qual : Str} {st : Stmt} {f : Addr} {fd : FuncData} {N ps : List Str} {k : Nat} {ca : Er → Addr} (F : Fun K x qual st f fd) (S : FnScope N ps (defScope st)) (hn : ps.length = 1)
    (body : ∀ (cdv : Value) (A : Around) (outer : List Env) (s : Shared) (H : Hp) (E : XK), Room k (fnX P w K mg base N qual st f cdv A outer s H E).A → Takes (fnX P w K mg base N qual st f cdv A outer s H E) W0 →
      PassesOwn (model P w) (fnX P w K mg base N qual st f cdv A outer s H E).A (fnX P w K mg base N qual st f cdv A outer s H E).env (fnX P w K mg base N qual st f cdv A outer s H E).xe → (fnX P w K mg base N qual st f cdv A outer s H E).A.units + 64 < cLine → (fnX P w K mg base N qual st f cdv A outer s H E).A.units + 65 < cLine →
      ∃ t d, PDB (fnX P w K mg base N qual st f cdv A outer s H E) ca W0 (defBody st) t d ∧ d topL (startL N)) :
    FnOk P w K mg base (L2.CX P w) (k + 1) f fd ps (spL K) := by
  refine F.okX S (fun vs H Q E h => ?_) (fun cdv A outer s H vs Q E hr h => ?_)
  · obtain ⟨a, ns, rfl, _⟩ := h
    rw [hn]
    rfl
  · obtain ⟨a, ns, rfl, hS, hl, hQ⟩ := h
    obtain ⟨t, d, hb, hd⟩ := body cdv A outer s H E hr takes0 (passes_of rfl) hr.units (by have := hr.un; show (A.deeper _).units + 65 < cLine; omega)
    refine ⟨t, hb.pe, ?_⟩
    have slot : ∀ (i : Nat) (x : DL.S), (startL N)[i]? = some (some x) → i = 0 ∧ x = .scr := fun i x h => by
      cases i with
      | zero =>
        have e : DL.S.scr = x := by simpa [startL] using h
        exact ⟨rfl, e.symm⟩
      | succ j =>
        have h' : (List.replicate (N.length - 1) (none : Option DL.S))[j]? = some (some x) := by simpa [startL] using h
        rw [List.getElem?_replicate] at h'
        split at h'
        · simp at h'
        · cases h'
    have ft : feet (startL N) = [] := by
      show feet (List.replicate (N.length - 1) none) = []
      exact feet_none _
    have R0 : Rep K ⟨[], H, H⟩ H H (L2.start N [.ref a]) (startL N) := by
      refine ⟨by simp [L2.start, startL], fun i x h => ?_, by rw [ft]; exact List.nodup_nil, fun b hb => absurd (ft ▸ hb) List.not_mem_nil, fun i p es h => ?_, Frm.refl (Same.refl _)⟩
      · obtain ⟨rfl, rfl⟩ := slot i x h
        exact ⟨.ref a, rfl, a, ns, rfl, hS, hl⟩
      · exact nomatch (slot i _ h).2
    refine hb.es ⟨[], H, H⟩ _ topL _ H H _ R0 ⟨?_, ?_, ?_, ?_, ?_⟩ hd
    · exact fun σ' l' H' Hf' z R _ => z.elim
    · intro σ' l' v d H' Hf' z R _ dv
      have z : d = .bool true := z
      subst z
      obtain rfl := dv.bl_inv
      exact hQ H'
    · exact fun σ' l' H' Hf' z R _ => z.elim
    · exact fun σ' l' H' Hf' z R _ => z.elim
    · exact fun e σ' l' H' Hf' z R => z.elim
end
end DL

namespace DL
open PySem PySem.Spec PyProof.Rows L2

/-! ### a text times a number -/
def repS (n : Nat) (z : Str) : Str := ⟨(List.replicate n z.cps).foldl (· ++ ·) #[]⟩
def rMulS : R2 := fun x y H Q => ∃ (z : Str) (n : Int), x = .str z ∧ y = .int n ∧ (1 ≤ z.length ∧ z.length ≤ 10) ∧ (0 ≤ n ∧ n ≤ 1000) ∧ Q (.str (repS n.toNat z)) H
def mulSD : PyData → PyData → Option PyData
  | .str z, .int n => if (1 ≤ z.length ∧ z.length ≤ 10) ∧ (0 ≤ n ∧ n ≤ 1000) then some (.str (repS n.toNat z)) else none
  | _, _ => none
theorem foldl_size (z : Array Nat) : ∀ (n : Nat) (a : Array Nat), ((List.replicate n z).foldl (· ++ ·) a).size = a.size + n * z.size
  | 0, a => by simp
  | n + 1, a => by
    rw [List.replicate_succ, List.foldl_cons, foldl_size z n (a ++ z), Array.size_append, Nat.succ_mul]
    omega
theorem repS_len (n : Nat) (z : Str) : (repS n z).length = n * z.length := by
  show ((List.replicate n z.cps).foldl (· ++ ·) #[]).size = n * z.cps.size
  rw [foldl_size]
  simp
theorem op_mulS {X : Cx} : OpR X (binaryOp .Mult) rMulS := by
  intro pins s σ H x y v u Q I rx ry h
  obtain ⟨z, n, rfl, rfl, hz, hn, q⟩ := h
  obtain ⟨t, rfl⟩ := rx
  obtain ⟨t', rfl⟩ := ry
  have big : (2 : Int) ^ 63 = 9223372036854775808 := by decide
  have hzl : z.length = z.cps.size := rfl
  refine P.mul_str ?_ (fun h1 h2 => ?_) (fun h1 h2 => ?_) ?_
  · rw [Bool.or_eq_false_iff]
    exact ⟨decide_eq_false (by rw [big]; omega), decide_eq_false (by rw [big]; omega)⟩
  · rw [big]
    have h3 : (1000 : Int) ≤ (9223372036854775808 - 1) / n := (Int.le_ediv_iff_mul_le (by omega)).mpr (by omega)
    omega
  · unfold Builtin.Str.tooLong
    rw [sizeLine_eq]
    have h3 : z.length * n.toNat ≤ 10 * 1000 := Nat.mul_le_mul hz.2 (by omega)
    exact decide_eq_false (by omega)
  · by_cases h1 : n < 1
    · rw [if_pos h1]
      have e : n.toNat = 0 := by omega
      rw [e] at q
      refine ⟨by decide, .str _, H, I.tok _, ⟨_, rfl⟩, ?_⟩
      exact q
    · rw [if_neg h1]
      by_cases h2 : (n == 1 || z.length == 0) = true
      · rw [if_pos h2]
        have e : n = 1 := by
          rw [Bool.or_eq_true] at h2
          rcases h2 with h2 | h2
          · exact beq_iff_eq.mp h2
          · have := beq_iff_eq.mp h2
            omega
        subst e
        have e2 : repS (1 : Int).toNat z = z := by
          show (⟨#[] ++ z.cps⟩ : Str) = z
          simp
        rw [e2] at q
        exact ⟨.str z, H, I, ⟨_, rfl⟩, q⟩
      · rw [if_neg h2]
        refine ⟨?_, .str _, H, I.tok _, ⟨_, rfl⟩, q⟩
        have := repS_len n.toNat z
        unfold repS at this
        rw [this, sizeLine_eq]
        have h3 : n.toNat * z.length ≤ 1000 * 10 := Nat.mul_le_mul (by omega) hz.2
        omega
theorem od_mulS {K : PySem.W.Frag} : OpD K rMulS mulSD := opd_flat fun x y dx dy z H Hf Q s hx hy e k => by
  unfold mulSD at e
  split at e
  · split at e
    · rename_i hm
      cases e
      exact ⟨_, _, hx.str_inv, hy.int_inv, hm.1, hm.2, k _ (.str _)⟩
    · cases e
  · cases e
theorem mulSD_e (z : Str) (n : Int) (q : PyData → Prop) : (∃ r, mulSD (.str z) (.int n) = some r ∧ q r) ↔ ((1 ≤ z.length ∧ z.length ≤ 10) ∧ (0 ≤ n ∧ n ≤ 1000)) ∧ q (.str (repS n.toNat z)) := ex_if _ q
theorem addD_e (a b : Str) (q : PyData → Prop) : (∃ r, addD (.str a) (.str b) = some r ∧ q r) ↔ a.length + b.length ≤ sizeLine ∧ q (.str (a ++ b)) := ex_if _ q

/-! ### int(text) -/
def intSD : List PyData → Option PyData
  | [.str a] => if a.length ≤ 640 then (PySem.intText? a).map PyData.int else none
  | _ => none
theorem cd_intS {K : PySem.W.Frag} : CaD K (fun xs H Q => ∃ a n, xs = [.str a] ∧ PySem.intText? a = some n ∧ a.length ≤ 640 ∧ Q (.int n) H) intSD := fun xs ds z H Hf Q s h e k => by
  unfold intSD at e
  split at e
  · split at e
    · rename_i a hl
      cases h2 : PySem.intText? a with
      | none => rw [h2] at e; cases e
      | some n =>
        rw [h2] at e
        cases e
        obtain ⟨v, rfl, hv⟩ := dv1 h
        obtain rfl := hv.str_inv
        exact ⟨a, n, rfl, h2, hl, k _ H Hf (Frm.refl s) (.int _)⟩
    · cases e
  · cases e

/-! ### a def without arguments, from which nothing is raised -/
def dCall0 (c : Ct) : DE := fun l Q _ => c [] fun r => match r with | .ok x => Q x l | .er _ => False
section
variable {X : Cx} {ca : Er → Addr} {W : WX} {a b c e o : Expr} {es : List Expr} {ua : TE} {da : DE} {pos : Pos}
theorem pd_fn0 {P : Program} {w : World} {K : PySem.W.Frag} {mg : Str → Option Value} {base : Heap} {x : Str} {p : Pos} {k : Nat} {c : Ct} (F : Fd P w K mg base ca x c 0 k) (hr : Room k X.A) (hg : Gl X x) (tk : Takes X W) (hdb : (x == ("__debug__" : Str)) = false := by decide)
    (hP : X.prog = P := by rfl) (hw : X.w = w := by rfl) (hK : X.K = K := by rfl) (hM : X.mg = mg := by rfl) (hB : X.base = base := by rfl) :
    PD X ca W (.Call (.Name x p) [] [] pos) (tCall (spD K ca c 0) [] E0 tNil) (dCall0 c) := by
  subst hP hw hK hM hB
  obtain ⟨f, fd, ps, h1, h2, h3, h4⟩ := F
  refine ⟨pe_call0 h1 hr hg h2 h3 h4 .nil passL hdb, fun G σ H Hf l Q q r R k kr z => ?_⟩
  exact ⟨Hf, [], _, rfl, R.sub, .nil, z, fun d v H' Hf' q' F' dv => k _ _ _ _ _ q' (R.grow F') (F'.sameF R.sub) dv, fun e H' Hf' q' F' => q'.elim⟩

/-! ### len(set(..)) of whole numbers -/
def cntI (ns : List Int) : Nat := (ns.foldl PyProof.Rows.step_dedup []).length
theorem firstMet_all (ns : List Int) : PyProof.Rows.firstMet (fun i => ns.getD i 0) ns.length = ns.foldl PyProof.Rows.step_dedup [] := by
  unfold PyProof.Rows.firstMet
  congr 1
  apply List.ext_getElem?
  intro i
  by_cases h : i < ns.length
  · simp [h]
  · simp [h]
def tLenS (K : PySem.W.Frag) (ta : TE) : TE := fun σ H Q => ta σ H fun x H1 => ∃ (p : Addr) (ns : List Int), x = .ref p ∧ SqL K H1 p (ns.map V.int) ∧ ns.length ≤ 4000 ∧ Q (.int (cntI ns : Nat)) H1
theorem pe_lenS {p p2 q : Pos} (hc : X.calm = true) (hg : Gl X "len") (hm : X.mg "len" = none) (hg2 : Gl X "set") (hm2 : X.mg "set" = none) (ha : PE X a ua)
    (na : starEach [a] X.env = (false, eval a X.env) :: starEach [] X.env := by rfl) : PE X (.Call (.Name "len" p) [.Call (.Name "set" p2) [a] [] q] [] pos) (tLenS X.K ua) := by
  refine ⟨fun pins s σ H Q I h => Call_ (ld_blt I hg hm boot_len (PyProof.Rows.callWith_builtin1 (PyProof.Rows.args_cons (Call_ (ld_blt I hg2 hm2 boot_set ?_)) rfl) rfl rfl))⟩
  refine PyProof.Rows.callWith_type1 (PyProof.Rows.args_cons (thn (ha.run pins s σ H _ I h) fun v s1 ⟨x, H1, I1, r1, l, ns, ex, hq, hl, q1⟩ => PyProof.Rows.args_nil ?_) na) na rfl
  subst ex
  cases r1
  obtain ⟨its, r, pl, hz⟩ := I1.list hq
  have hn : its.length = ns.length := by
    have := r.length
    rw [List.length_map] at this
    exact this.symm
  refine call_set_list (ns := ns) (I1.ok.hd hc) pl.isList (by simpa using Vals.ints r) (by rw [List.size_toArray, hn]; unfold scanBound; omega) fun h' tk hS hk => PyProof.Rows.args_nil ?_
  have hn2 : its.toArray.size = ns.length := by rw [List.size_toArray]; exact hn
  rw [hn2, firstMet_all] at hS
  obtain ⟨o, es, ep, t, ho, hex, hd, _, _, _, hf, hcnt⟩ := hS
  have I2 : Inv X pins σ H1 { s1 with heap := h', toks := tk } := I1.kept fun b o e => hk b o (Heap.lt_size e) e
  have small : es.size < 4097 := by
    rw [hcnt]
    have h1 := PyProof.Rows.firstMet_length_le (fun i => ns.getD i 0) ns.length
    rw [firstMet_all] at h1
    omega
  exact call_len_set ho hex hd hf (by omega) ⟨.int (cntI ns : Nat), H1, I2.tok _, ⟨_, by rw [hcnt]; rfl⟩, q1⟩
def dLenS (d : DE) : DE := fun l Q R => d l (fun x l' => ∃ xs ns, x = .list xs ∧ intsOf xs = some ns ∧ ns.length ≤ 4000 ∧ Q (.int (cntI ns : Nat)) l') R
theorem pd_lenSet {K : PySem.W.Frag} {p p2 q : Pos} (hg : Gl X "len") (hm : X.mg "len" = none) (hg2 : Gl X "set") (hm2 : X.mg "set" = none) (hc : X.calm = true) (ha : PV X ca W a ua da)
    (na : starEach [a] X.env = (false, eval a X.env) :: starEach [] X.env := by rfl) (hK : X.K = K := by rfl) : PD X ca W (.Call (.Name "len" p) [.Call (.Name "set" p2) [a] [] q] [] pos) (tLenS K ua) (dLenS da) := by
  subst hK
  refine ⟨pe_lenS hc hg hm hg2 hm2 ha.pe na, fun G σ H Hf l Q q r R k kr z => ?_⟩
  refine ha.es G σ H Hf l _ _ r R (fun x l' v H' Hf' z' R' s dv => ?_) kr z
  obtain ⟨xs, ns, rfl, e, hl, z'⟩ := z'
  obtain ⟨p, vs, rfl, h1, h2⟩ := dv.list_inv
  refine ⟨p, ns, rfl, .inl (.inl ?_), hl, k _ _ _ _ _ z' R' s (.int _)⟩
  rw [← intsOf_vals e h2]
  exact h1

/-! ### range(a, b, -1) -/
def rngDn (hi : Int) (n : Nat) : List PyData := (List.range n).map fun (k : Nat) => PyData.int (hi + (k : Int) * -1)
theorem rngDn_len (hi : Int) (n : Nat) : (rngDn hi n).length = n := by simp [rngDn]
theorem rngDn_get {hi : Int} {n i : Nat} {d : PyData} (h : (rngDn hi n)[i]? = some d) : i < n ∧ d = .int (hi + (i : Int) * -1) := by
  have hi : i < n := by
    have z := (List.getElem?_eq_some_iff.mp h).1
    rwa [rngDn_len] at z
  refine ⟨hi, ?_⟩
  simp [rngDn, hi] at h
  rw [← h]
  congr 1
  omega
def dRng3 (d : DA) : DI := fun l Q R => d l (fun xs l' => ∃ i j : Int, xs = [.int i, .int j, .int (-1)] ∧ small62 i = true ∧ small62 j = true ∧ Q (rngDn i (i - j).toNat) l') R
theorem wk_rangeDn {K : PySem.W.Frag} {Hf : Hp} (hi : Int) (n : Nat) : Wk K (Itc hi (-1) n) Hf (rngDn hi n) := by
  refine ⟨fun i H _ h => ?_, fun i H _ h => ?_, fun i H Hf1 v H' d s s' h y => ?_⟩
  · rw [rngDn_len] at h
    exact h
  · rw [rngDn_len] at h
    exact h
  · obtain ⟨rfl, rfl⟩ := y
    obtain ⟨_, rfl⟩ := rngDn_get h
    exact ⟨Hf1, Frm.refl s', .int _⟩
theorem pdi_range3 {tg : Expr} {ual : TA} {dal : DA} {p : Pos} (hg : Gl X "range") (hm : X.mg "range" = none) (h : PDA X ca W [a, b, c] ual dal) (hs : starEach [a, b, c] X.env = (false, eval a X.env) :: starEach [b, c] X.env := by rfl) (hpl : (backTo pos (starEach [b, c] X.env)).any (·.1) = false := by rfl) :
    PDI X ca W tg (.Call (.Name "range" p) [a, b, c] [] pos) (iRng3 ual) (dRng3 dal) :=
  ⟨pi_range3 hg hm h.pe hs hpl, fun G σ H Hf l R q r Rp k kr z => h.es G σ H Hf l _ _ r Rp (fun xs l' vs H' Hf' z' _ R' s dv => by
    obtain ⟨i, j, rfl, hi, hj, z'⟩ := z'
    obtain ⟨v1, r1, rfl, hv1, hr1⟩ := dv.cons_inv
    obtain ⟨v2, v3, rfl, hv2, hv3⟩ := dv2 hr1
    obtain rfl := hv1.int_inv
    obtain rfl := hv2.int_inv
    obtain rfl := hv3.int_inv
    obtain ⟨j1, j2⟩ := small62_of hj
    obtain ⟨i1, i2⟩ := small62_of hi
    exact ⟨i, j, -1, (i - j).toNat, rfl, RgC.neg i1 i2 j1 j2, k _ _ _ _ _ z' R' s (wk_rangeDn i _)⟩) kr z⟩
end
end DL

namespace SD
open PySem DL

/-! ### lowest terms -/
theorem gcdI_scale {k a b : Int} (hk : 0 < k) : gcdI (k * a) (k * b) = k * gcdI a b := by
  unfold gcdI
  rw [Int.gcd_mul_left]
  have : (k.natAbs : Int) = k := Int.natAbs_of_nonneg (by omega)
  rw [Int.natCast_mul, this]
theorem lowN_scale {k a b : Int} (hk : 0 < k) : lowN (k * a) (k * b) = lowN a b := by
  unfold lowN
  rw [gcdI_scale hk]
  exact Int.mul_ediv_mul_of_pos _ _ hk
theorem lowU_scale {k a b : Int} (hk : 0 < k) : lowU (k * a) (k * b) = lowU a b := by
  unfold lowU
  rw [gcdI_scale hk]
  exact Int.mul_ediv_mul_of_pos _ _ hk
theorem low_cross {a b c d : Int} (hb : 0 < b) (hd : 0 < d) (h : a * d = c * b) : lowN a b = lowN c d ∧ lowU a b = lowU c d := by
  have e1 : lowN a b = lowN c d := by
    rw [← lowN_scale (k := d) (a := a) (b := b) hd, ← lowN_scale (k := b) (a := c) (b := d) hb, Int.mul_comm d a, h, Int.mul_comm c b, Int.mul_comm d b]
  have e2 : lowU a b = lowU c d := by
    rw [← lowU_scale (k := d) (a := a) (b := b) hd, ← lowU_scale (k := b) (a := c) (b := d) hb, Int.mul_comm d a, h, Int.mul_comm c b, Int.mul_comm d b]
  exact ⟨e1, e2⟩
theorem lowF_cross {a b c d : Int} (hb : 0 < b) (hd : 0 < d) (h : a * d = c * b) : lowF a b = lowF c d := by
  obtain ⟨e1, e2⟩ := low_cross hb hd h
  unfold lowF
  rw [e1, e2]
/-- the error over the common denominator -/
theorem err_low (p n k : Int) (r : Ru) (hn : 0 < n) : errN p n k r = lowN (unitsF p n k r * n - p * powT k) (n * powT k) ∧ errU p n k r = lowU (unitsF p n k r * n - p * powT k) (n * powT k) := by
  have hp := powT_pos k
  have g := gcdI_pos (a := unitsF p n k r) hp
  have e1 := lowN_mul (a := unitsF p n k r) hp
  have e2 := lowU_mul (a := unitsF p n k r) hp
  have hu := lowU_pos (a := unitsF p n k r) hp
  unfold errN errU
  generalize unitsF p n k r = u at *
  generalize powT k = P at *
  refine low_cross (Int.mul_pos hu hn) (Int.mul_pos hn hp) ?_
  generalize hg : gcdI u P = G at *
  generalize lowN u P = a at *
  generalize lowU u P = b at *
  subst e1
  rw [← e2, Int.sub_mul, Int.sub_mul]
  have h1 : a * n * (n * (b * G)) = a * G * n * (b * n) := by
    simp only [Int.mul_assoc, Int.mul_comm, Int.mul_left_comm]
  have h2 : p * b * (n * (b * G)) = p * (b * G) * (b * n) := by
    simp only [Int.mul_assoc, Int.mul_comm, Int.mul_left_comm]
  rw [h1, h2]
theorem errF_low (p n k : Int) (r : Ru) (hn : 0 < n) : errF p n k r = lowF (unitsF p n k r * n - p * powT k) (n * powT k) := by
  obtain ⟨e1, e2⟩ := err_low p n k r hn
  rw [errF_eq, e1, e2]
  rfl
/-- sizes in lowest terms -/
theorem low_le {a b c d : Int} (hb : 0 < b) : (lowN a b).natAbs * d ≤ c * lowU a b ↔ (a.natAbs : Int) * d ≤ c * b := by
  have g := gcdI_pos (a := a) hb
  have e1 := lowN_mul (a := a) hb
  have e2 := lowU_mul (a := a) hb
  have e3 : ((lowN a b).natAbs : Int) * gcdI a b = (a.natAbs : Int) := by
    have : (a.natAbs : Int) = ((lowN a b * gcdI a b).natAbs : Int) := by rw [e1]
    rw [this, Int.natAbs_mul, Int.natCast_mul]
    have h : ((gcdI a b).natAbs : Int) = gcdI a b := Int.natAbs_of_nonneg (by omega)
    rw [h]
  have h1 : ((lowN a b).natAbs : Int) * d * gcdI a b = (a.natAbs : Int) * d := by
    rw [← e3, Int.mul_right_comm]
  have h2 : c * lowU a b * gcdI a b = c * b := by rw [Int.mul_assoc, e2]
  constructor
  · intro h
    have := Int.mul_le_mul_of_nonneg_right h (Int.le_of_lt g)
    rw [h1, h2] at this
    exact this
  · intro h
    rw [← h1, ← h2] at h
    exact Int.le_of_mul_le_mul_right h g

/-! ### units -/
theorem units_cases (p n k : Int) (r : Ru) (hn : 0 < n) : (unitsF p n k r = p * powT k / n) ∨ (unitsF p n k r = p * powT k / n + 1 ∧ ¬ p * powT k % n = 0) := by
  unfold unitsF
  by_cases c : p * powT k % n = 0
  · rw [if_pos (Or.inl c)]
    exact .inl rfl
  · repeat' split
    all_goals first | exact .inl rfl | exact .inr ⟨rfl, c⟩
theorem units_err (p n k : Int) (r : Ru) (hn : 0 < n) : -n < unitsF p n k r * n - p * powT k ∧ unitsF p n k r * n - p * powT k < n := by
  have hdm := Int.mul_ediv_add_emod (p * powT k) n
  have hm := Int.emod_lt_of_pos (p * powT k) hn
  have hm0 := Int.emod_nonneg (p * powT k) (show n ≠ 0 by omega)
  rcases units_cases p n k r hn with h | ⟨h, c⟩
  · rw [h, Int.mul_comm (p * powT k / n) n]
    omega
  · rw [h, Int.add_mul, Int.mul_comm (p * powT k / n) n]
    omega
/-- the first three rules -/
def isDir : Ru → Bool
  | .down => true
  | .up => true
  | .zero => true
  | _ => false
theorem units_near (p n k : Int) (r : Ru) (hn : 0 < n) (hr : isDir r = false) : -n ≤ 2 * (unitsF p n k r * n - p * powT k) ∧ 2 * (unitsF p n k r * n - p * powT k) ≤ n := by
  have hdm := Int.mul_ediv_add_emod (p * powT k) n
  have hm := Int.emod_lt_of_pos (p * powT k) hn
  have hm0 := Int.emod_nonneg (p * powT k) (show n ≠ 0 by omega)
  have f1 : (p * powT k / n) * n = n * (p * powT k / n) := Int.mul_comm ..
  have f2 : (p * powT k / n + 1) * n = n * (p * powT k / n) + n := by rw [Int.add_mul, f1]; omega
  unfold unitsF
  cases r <;> simp only [isDir, reduceCtorEq, Bool.true_eq_false] at hr <;> simp only [reduceCtorEq, or_false, if_false, if_true]
  all_goals (repeat' split)
  all_goals first | (rw [f1]; omega) | (rw [f2]; omega)
theorem near_zero (p n k : Int) (r : Ru) (h : p * powT k % n = 0) : unitsF p n k r = p * powT k / n := by
  unfold unitsF
  rw [if_pos (Or.inl h)]

/-! ### how many different ones -/
def dueL (p n k : Int) : List Int := ruAll.map fun u => unitsF p n k u
theorem ne_s1 (x : Int) : ¬ x = x + 1 := by omega
theorem ne_s2 (x : Int) : ¬ x + 1 = x := by omega
theorem cnt_due (p n k : Int) (hn : 0 < n) : ((cntI (dueL p n k) : Nat) : Int) = 1 ↔ p * powT k % n = 0 := by
  unfold dueL ruAll cntI
  simp only [List.map_cons, List.map_nil]
  by_cases c : p * powT k % n = 0
  · simp only [near_zero _ _ _ _ c, c]
    simp [PyProof.Rows.step_dedup]
  · have e0 : unitsF p n k .down = p * powT k / n := by unfold unitsF; simp
    have e1 : unitsF p n k .up = p * powT k / n + 1 := by unfold unitsF; simp [c]
    rw [e0, e1]
    have key : ∀ (xs acc : List Int), 2 ≤ acc.length → 2 ≤ (xs.foldl PyProof.Rows.step_dedup acc).length := by
      intro xs
      induction xs with
      | nil => intro acc h; exact h
      | cons x xs ih =>
        intro acc h
        refine ih _ ?_
        unfold PyProof.Rows.step_dedup
        split
        · exact h
        · simp; omega
    have h2 : 2 ≤ (List.foldl PyProof.Rows.step_dedup [] ((p * powT k / n) :: (p * powT k / n + 1) :: [unitsF p n k .zero, unitsF p n k .nup, unitsF p n k .nzero, unitsF p n k .naway, unitsF p n k .neven])).length := by
      rw [List.foldl_cons, List.foldl_cons]
      refine key _ _ ?_
      simp [PyProof.Rows.step_dedup, ne_s1, ne_s2]
    constructor
    · intro z
      omega
    · intro z
      exact absurd z c
theorem cnt_near (p n k : Int) (hn : 0 < n) : ((cntI ((dueL p n k).drop 3) : Nat) : Int) = if 2 * (p * powT k % n) = n then 2 else 1 := by
  have hm0 := Int.emod_nonneg (p * powT k) (show n ≠ 0 by omega)
  unfold dueL ruAll cntI
  simp only [List.map_cons, List.map_nil, List.drop_succ_cons, List.drop_zero]
  by_cases c : 2 * (p * powT k % n) = n
  · have c0 : ¬ p * powT k % n = 0 := by omega
    rw [if_pos c]
    unfold unitsF
    by_cases c5 : 0 < p * powT k <;> by_cases c6 : p * powT k / n % 2 = 0 <;> simp [c, c0, c5, c6, PyProof.Rows.step_dedup, ne_s1, ne_s2]
  · rw [if_neg c]
    by_cases c0 : p * powT k % n = 0
    · simp only [near_zero _ _ _ _ c0]
      simp [PyProof.Rows.step_dedup]
    · unfold unitsF
      by_cases c6 : 2 * (p * powT k % n) < n <;> simp [c, c0, c6, PyProof.Rows.step_dedup, ne_s1, ne_s2]

/-! ### data -/
theorem canLay_ints (ms : List Int) : PyData.canLayAll0 (ms.map PyData.int) = true := by
  induction ms with
  | nil => simp [PyData.canLayAll0]
  | cons m ms ih => simp [PyData.canLayAll0, PyData.canLay0, ih]
theorem depth_ints (ms : List Int) : PyData.depthAll (ms.map PyData.int) = 0 := by
  induction ms with
  | nil => simp [PyData.depthAll]
  | cons m ms ih => simp [PyData.depthAll, PyData.depth, ih]
theorem shaped_ints (ms : List Int) : SeqAt.shaped (.list (ms.map PyData.int)) = true := by simp [SeqAt.shaped, PyData.canLay0, PyData.depth, canLay_ints, depth_ints]
theorem eqv_ints : ∀ (xs ys : List Int), PyData.eqvAll (xs.map PyData.int) (ys.map PyData.int) = decide (xs = ys)
  | [], [] => by simp [PyData.eqvAll]
  | [], y :: ys => by simp [PyData.eqvAll]
  | x :: xs, [] => by simp [PyData.eqvAll]
  | x :: xs, y :: ys => by
    simp only [List.map_cons, PyData.eqvAll, eqv_int, eqv_ints xs ys]
    by_cases h : x = y <;> by_cases g : xs = ys <;> simp [h, g]
theorem eqD_ints (xs ys : List Int) : eqD (.list (xs.map PyData.int)) (.list (ys.map PyData.int)) = some (decide (xs = ys)) := by
  unfold eqD
  rw [if_pos ⟨shaped_ints xs, shaped_ints ys⟩]
  show some (PyData.eqvAll _ _) = _
  rw [eqv_ints]
theorem neD_ints (xs ys : List Int) : neD (.list (xs.map PyData.int)) (.list (ys.map PyData.int)) = some (!decide (xs = ys)) := by
  unfold neD
  rw [if_pos ⟨shaped_ints xs, shaped_ints ys⟩]
  show some (!PyData.eqvAll _ _) = _
  rw [eqv_ints]

/-! ### the first digits that are enough -/
theorem fstK_filter (f : Nat → Bool) : ∀ (m i : Nat), fstK f i m = ((List.range' i m).filter f).head?
  | 0, i => rfl
  | m + 1, i => by
    unfold fstK
    rw [List.range'_succ, List.filter_cons]
    split
    · simp
    · exact fstK_filter f m (i + 1)
theorem ldC_iff (p n c d : Int) (k : Nat) (hn : 0 < n) : ldC p n c d k = decide (((unitsF p n k .neven * n - p * powT k).natAbs : Int) * d ≤ c * n * powT k) := by
  unfold ldC
  obtain ⟨e1, e2⟩ := err_low p n k .neven hn
  rw [e1, e2]
  have h := low_le (a := unitsF p n k .neven * n - p * powT k) (b := n * powT k) (c := c) (d := d) (Int.mul_pos hn (powT_pos k))
  rw [← Int.mul_assoc] at h
  exact decide_eq_decide.mpr h
theorem rs_down : PyData.str (Str.ofString "down") = PyData.str (ruS .down) := rfl
theorem rs_up : PyData.str (Str.ofString "up") = PyData.str (ruS .up) := rfl
theorem rs_zero : PyData.str (Str.ofString "zero") = PyData.str (ruS .zero) := rfl
theorem rs_nup : PyData.str (Str.ofString "near-up") = PyData.str (ruS .nup) := rfl
theorem rs_nzero : PyData.str (Str.ofString "near-zero") = PyData.str (ruS .nzero) := rfl
theorem rs_naway : PyData.str (Str.ofString "near-away") = PyData.str (ruS .naway) := rfl
theorem rs_neven : PyData.str (Str.ofString "near-even") = PyData.str (ruS .neven) := rfl
end SD

namespace SD
open PySem DL

/-! ### the twos and fives of a denominator -/
def cutK (k : Int) : Nat → Int → Int × Nat
  | 0, x => (x, 0)
  | f + 1, x => if x % k = 0 then ((cutK k f (x / k)).1, (cutK k f (x / k)).2 + 1) else (x, 0)
theorem cutK_pos {k x : Int} {m : Nat} (h : x % k = 0) : cutK k (m + 1) x = ((cutK k m (x / k)).1, (cutK k m (x / k)).2 + 1) := if_pos h
theorem cutK_neg {k x : Int} {m : Nat} (h : ¬ x % k = 0) : cutK k (m + 1) x = (x, 0) := if_neg h
def partsB (n : Int) : Int := max ((cutK 2 8 n).2 : Int) ((cutK 5 8 (cutK 2 8 n).1).2 : Int)
def partsL (n : Int) : Int := (cutK 5 8 (cutK 2 8 n).1).1
def needD (n : Int) : PyData := if partsL n = 1 then .int (partsB n) else .none
theorem parts_all : ((List.range 60).all fun i => ((List.range 7).all fun k => decide ((10 ^ k : Int) % ((i : Int) + 1) = 0) == (decide (partsL ((i : Int) + 1) = 1) && decide (partsB ((i : Int) + 1) ≤ (k : Int)))) && decide (0 ≤ partsB ((i : Int) + 1) ∧ partsB ((i : Int) + 1) ≤ 5 ∧ 1 ≤ partsL ((i : Int) + 1) ∧ partsL ((i : Int) + 1) ≤ 60)) = true := by decide +kernel
theorem parts_at {n : Int} (h1 : 1 ≤ n) (h2 : n ≤ 60) : (∀ k : Nat, k < 7 → (decide ((10 ^ k : Int) % n = 0) == (decide (partsL n = 1) && decide (partsB n ≤ (k : Int)))) = true) ∧ (0 ≤ partsB n ∧ partsB n ≤ 5 ∧ 1 ≤ partsL n ∧ partsL n ≤ 60) := by
  have h := List.all_eq_true.mp parts_all (n - 1).toNat (List.mem_range.mpr (by omega))
  have e : (((n - 1).toNat : Nat) : Int) + 1 = n := by omega
  rw [e, Bool.and_eq_true] at h
  exact ⟨fun k hk => List.all_eq_true.mp h.1 k (List.mem_range.mpr hk), of_decide_eq_true h.2⟩
theorem parts_b {n : Int} (h1 : 1 ≤ n) (h2 : n ≤ 60) : 0 ≤ partsB n ∧ partsB n ≤ 5 ∧ 1 ≤ partsL n ∧ partsL n ≤ 60 := (parts_at h1 h2).2
theorem ten_dvd {n k : Int} (h1 : 1 ≤ n) (h2 : n ≤ 60) (k0 : 0 ≤ k) (k1 : k ≤ 6) : powT k % n = 0 ↔ partsL n = 1 ∧ partsB n ≤ k := by
  have h := (parts_at h1 h2).1 k.toNat (by omega)
  have e := beq_iff_eq.mp h
  have ek : ((k.toNat : Nat) : Int) = k := by omega
  rw [ek] at e
  unfold powT
  constructor
  · intro z
    rw [decide_eq_true z] at e
    have e := e.symm
    rw [Bool.and_eq_true] at e
    exact ⟨of_decide_eq_true e.1, of_decide_eq_true e.2⟩
  · intro z
    rw [decide_eq_true z.1, decide_eq_true z.2] at e
    exact of_decide_eq_true e
theorem mul_dvd {p n P : Int} (h1 : 1 ≤ n) (hg : Int.gcd p n = 1) : p * P % n = 0 ↔ P % n = 0 := by
  constructor
  · intro z
    have d : n ∣ p * P := Int.dvd_of_emod_eq_zero z
    refine Int.emod_eq_zero_of_dvd (Int.natAbs_dvd_natAbs.mp ?_)
    have d2 := Int.natAbs_dvd_natAbs.mpr d
    rw [Int.natAbs_mul] at d2
    have co : Nat.Coprime n.natAbs p.natAbs := by
      have : Nat.gcd n.natAbs p.natAbs = 1 := by
        rw [Nat.gcd_comm]
        exact hg
      exact this
    exact co.dvd_of_dvd_mul_left d2
  · intro z
    exact Int.emod_eq_zero_of_dvd (Int.dvd_mul_of_dvd_right (Int.dvd_of_emod_eq_zero z))
/-- where a fraction is a decimal -/
theorem exact_need {p n k : Int} (h1 : 1 ≤ n) (h2 : n ≤ 60) (hg : Int.gcd p n = 1) (k0 : 0 ≤ k) (k1 : k ≤ 6) : p * powT k % n = 0 ↔ partsL n = 1 ∧ partsB n ≤ k :=
  (mul_dvd h1 hg).trans (ten_dvd h1 h2 k0 k1)
/-! ### the first one -/
theorem fstK_some {f : Nat → Bool} : ∀ (m i : Nat) {t : Nat}, fstK f i m = some t → f t = true ∧ i ≤ t ∧ t < i + m ∧ ∀ j, i ≤ j → j < t → f j = false
  | 0, i, t, h => by simp [fstK] at h
  | m + 1, i, t, h => by
    unfold fstK at h
    by_cases c : f i = true
    · rw [if_pos c] at h
      have e : i = t := by simpa using h
      subst e
      exact ⟨c, Nat.le_refl _, by omega, fun j a b => by omega⟩
    · rw [if_neg c] at h
      obtain ⟨a, b, d, g⟩ := fstK_some m (i + 1) h
      refine ⟨a, by omega, by omega, fun j ja jb => ?_⟩
      by_cases e : j = i
      · subst e
        simpa using c
      · exact g j (by omega) jb
theorem fstK_le {f : Nat → Bool} : ∀ (m i j : Nat), f j = true → i ≤ j → j < i + m → ∃ t, t ≤ j ∧ fstK f i m = some t
  | 0, i, j, _, h1, h2 => by omega
  | m + 1, i, j, hf, h1, h2 => by
    unfold fstK
    by_cases c : f i = true
    · exact ⟨i, h1, by rw [if_pos c]⟩
    · rw [if_neg c]
      have ne : j ≠ i := fun e => c (e ▸ hf)
      exact fstK_le m (i + 1) j hf (by omega) (by omega)
theorem fstK_none {f : Nat → Bool} {m i : Nat} (h : ∀ j, i ≤ j → j < i + m → f j = false) : fstK f i m = none := by
  cases e : fstK f i m with
  | none => rfl
  | some t =>
    obtain ⟨a, b, d, _⟩ := fstK_some m i e
    rw [h t b d] at a
    cases a
/-- the least digits: what they are -/
theorem ld_near {p n m : Int} (hn : 0 < n) (h1 : 1 ≤ m) (h2 : m ≤ 60) : ∃ t, t ≤ 2 ∧ ldF p n 1 m = some t := by
  refine fstK_le 7 0 2 ?_ (by omega) (by omega)
  rw [ldC_iff _ _ _ _ _ hn]
  refine decide_eq_true ?_
  have h := units_near p n (2 : Nat) .neven hn rfl
  have e : powT ((2 : Nat) : Int) = 100 := by decide
  rw [e] at h ⊢
  generalize unitsF p n ((2 : Nat) : Int) .neven * n - p * 100 = x at *
  have hx : (x.natAbs : Int) ≤ n := by omega
  have : (x.natAbs : Int) * m ≤ n * 60 := Int.mul_le_mul hx h2 (by omega) (by omega)
  omega
theorem ldC_mono {p n m m' : Int} {k : Nat} (h : m ≤ m') (hc : ldC p n 1 m' k = true) : ldC p n 1 m k = true := by
  unfold ldC at *
  have h1 := of_decide_eq_true hc
  refine decide_eq_true (Int.le_trans ?_ h1)
  exact Int.mul_le_mul_of_nonneg_left h (by omega)
theorem ld_mono {p n m m' : Int} {t t' : Nat} (h : m ≤ m') (e : ldF p n 1 m = some t) (e' : ldF p n 1 m' = some t') : t ≤ t' := by
  obtain ⟨a, b, c, d⟩ := fstK_some 7 0 e'
  obtain ⟨s, hs, es⟩ := fstK_le (f := ldC p n 1 m) 7 0 t' (ldC_mono h a) b c
  have : s = t := by
    have := es.symm.trans e
    simpa using this
  omega
theorem errN_zero {p n k : Int} {r : Ru} (hn : 0 < n) : errN p n k r = 0 ↔ p * powT k % n = 0 := by
  have hp := powT_pos k
  have hb := Int.mul_pos hn hp
  rw [(err_low p n k r hn).1]
  have e1 := lowN_mul (a := unitsF p n k r * n - p * powT k) hb
  have er := units_err p n k r hn
  constructor
  · intro z
    rw [z, Int.zero_mul] at e1
    have : p * powT k = unitsF p n k r * n := by omega
    rw [this]
    exact Int.mul_emod_left ..
  · intro z
    have : unitsF p n k r * n - p * powT k = 0 := by
      rw [near_zero _ _ _ _ z]
      have := Int.ediv_mul_cancel (Int.dvd_of_emod_eq_zero z)
      omega
    rw [this]
    unfold lowN
    exact Int.zero_ediv _
theorem low_zero {b : Int} (hb : 0 < b) : lowN 0 b = 0 ∧ lowU 0 b = 1 := by
  have g : gcdI 0 b = b := by
    unfold gcdI
    rw [Int.zero_gcd]
    exact Int.natAbs_of_nonneg (by omega)
  unfold lowN lowU
  rw [g]
  exact ⟨Int.zero_ediv _, Int.ediv_self (by omega)⟩
theorem errU_zero {p n k : Int} {r : Ru} (hn : 0 < n) (z : p * powT k % n = 0) : errU p n k r = 1 := by
  have hp := powT_pos k
  have hb := Int.mul_pos hn hp
  rw [(err_low p n k r hn).2]
  have : unitsF p n k r * n - p * powT k = 0 := by
    rw [near_zero _ _ _ _ z]
    have := Int.ediv_mul_cancel (Int.dvd_of_emod_eq_zero z)
    omega
  rw [this]
  exact (low_zero hb).2
/-- what 0 asks for -/
theorem ld_zero {p n : Int} (h1 : 1 ≤ n) (h2 : n ≤ 60) (hg : Int.gcd p n = 1) : optI (ldF p n 0 1) = needD n := by
  have hn : 0 < n := by omega
  have key : ∀ k : Nat, k < 7 → (ldC p n 0 1 k = true ↔ partsL n = 1 ∧ partsB n ≤ (k : Int)) := fun k hk => by
    rw [← exact_need h1 h2 hg (by omega) (by omega), ← errN_zero (r := .neven) hn]
    unfold ldC
    rw [decide_eq_true_eq, Int.mul_one, Int.zero_mul]
    omega
  have hb := parts_b h1 h2
  unfold needD
  by_cases c : partsL n = 1
  · rw [if_pos c]
    obtain ⟨t, ht, e⟩ := fstK_le (f := ldC p n 0 1) 7 0 (partsB n).toNat ((key _ (by omega)).mpr ⟨c, by omega⟩) (by omega) (by omega)
    obtain ⟨a, _, b, d⟩ := fstK_some 7 0 e
    have := ((key t (by omega)).mp a).2
    have e2 : ldF p n 0 1 = some t := e
    rw [e2]
    show PyData.int _ = _
    congr 1
    omega
  · rw [if_neg c]
    have e2 : ldF p n 0 1 = none := fstK_none fun j _ hj => by
      cases e : ldC p n 0 1 j with
      | false => rfl
      | true => exact absurd ((key j (by omega)).mp e).1 c
    rw [e2]
    rfl
/-- a middle is one digit away from the end -/
theorem mid_need {p n k : Int} (h1 : 1 ≤ n) (h2 : n ≤ 60) (hg : Int.gcd p n = 1) (k0 : 0 ≤ k) (k1 : k ≤ 6) (h : 2 * (p * powT k % n) = n) : partsL n = 1 ∧ partsB n = k + 1 := by
  have ne : ¬ p * powT k % n = 0 := by omega
  have n1 := fun z => ne ((exact_need h1 h2 hg k0 k1).mpr z)
  have d2 : p * (2 * powT k) % n = 0 := by
    have e : p * (2 * powT k) = 2 * (p * powT k) := by
      simp only [Int.mul_assoc, Int.mul_comm, Int.mul_left_comm]
    have h3 : 2 * (p * powT k) % n = 2 * (p * powT k % n) % n := by rw [Int.mul_emod, Int.mul_emod 2 (p * powT k % n), Int.emod_emod]
    rw [e, h3, h]
    exact Int.emod_self
  have d3 := (mul_dvd h1 hg).mp d2
  have d4 : powT (k + 1) % n = 0 := by
    have e : powT (k + 1) = 5 * (2 * powT k) := by
      unfold powT
      have : (k + 1).toNat = k.toNat + 1 := by omega
      rw [this, Int.pow_succ]
      omega
    rw [e]
    exact Int.emod_eq_zero_of_dvd (Int.dvd_mul_of_dvd_right (Int.dvd_of_emod_eq_zero d3))
  by_cases k6 : k = 6
  · subst k6
    -- with 7 digits: the kernel looks
    exfalso
    have hb := parts_b h1 h2
    have all : ((List.range 60).all fun i => !(decide ((10 ^ 7 : Int) % ((i : Int) + 1) = 0)) || decide ((10 ^ 6 : Int) % ((i : Int) + 1) = 0)) = true := by decide +kernel
    have h := List.all_eq_true.mp all (n - 1).toNat (List.mem_range.mpr (by omega))
    have e : (((n - 1).toNat : Nat) : Int) + 1 = n := by omega
    rw [e] at h
    have q : (10 ^ 7 : Int) % n = 0 := d4
    rw [decide_eq_true q] at h
    have q2 : (10 ^ 6 : Int) % n = 0 := by simpa using h
    exact n1 ((ten_dvd h1 h2 k0 k1).mp q2)
  · have h5 := (ten_dvd h1 h2 (k := k + 1) (by omega) (by omega)).mp d4
    refine ⟨h5.1, ?_⟩
    have : ¬ partsB n ≤ k := fun z => n1 ⟨h5.1, z⟩
    omega
theorem units_down (p n k : Int) : unitsF p n k .down = p * powT k / n := by unfold unitsF; simp
theorem units_up {p n k : Int} (c : ¬ p * powT k % n = 0) : unitsF p n k .up = p * powT k / n + 1 := by unfold unitsF; simp [c]
/-- up less down is one unit -/
theorem err_gap {p n k : Int} (hn : 0 < n) (c : ¬ p * powT k % n = 0) : lowF (errN p n k .up * errU p n k .down - errN p n k .down * errU p n k .up) (errU p n k .up * errU p n k .down) = fr 1 (powT k) := by
  have hp := powT_pos k
  have hb := Int.mul_pos hn hp
  obtain ⟨a1, a2⟩ := err_low p n k .up hn
  obtain ⟨b1, b2⟩ := err_low p n k .down hn
  have e0 : unitsF p n k .up * n - p * powT k = unitsF p n k .down * n - p * powT k + n := by
    rw [units_up c, units_down, Int.add_mul]
    omega
  have l1 : lowF 1 (powT k) = fr 1 (powT k) := by
    have g : gcdI 1 (powT k) = 1 := by unfold gcdI; rw [Int.one_gcd]; rfl
    unfold lowF lowN lowU
    rw [g, Int.ediv_one, Int.ediv_one]
  rw [← l1]
  have u1 : 0 < errU p n k .up := by rw [a2]; exact lowU_pos hb
  have u2 : 0 < errU p n k .down := by rw [b2]; exact lowU_pos hb
  have c1 : errN p n k .up * (n * powT k) = (unitsF p n k .up * n - p * powT k) * errU p n k .up := by
    rw [a1, a2]
    generalize unitsF p n k .up * n - p * powT k = x
    have e1 := lowN_mul (a := x) hb
    have e2 := lowU_mul (a := x) hb
    calc lowN x (n * powT k) * (n * powT k) = lowN x (n * powT k) * (lowU x (n * powT k) * gcdI x (n * powT k)) := by rw [e2]
      _ = lowN x (n * powT k) * gcdI x (n * powT k) * lowU x (n * powT k) := by simp only [Int.mul_assoc, Int.mul_comm, Int.mul_left_comm]
      _ = _ := by rw [e1]
  have c2 : errN p n k .down * (n * powT k) = (unitsF p n k .down * n - p * powT k) * errU p n k .down := by
    rw [b1, b2]
    generalize unitsF p n k .down * n - p * powT k = x
    have e1 := lowN_mul (a := x) hb
    have e2 := lowU_mul (a := x) hb
    calc lowN x (n * powT k) * (n * powT k) = lowN x (n * powT k) * (lowU x (n * powT k) * gcdI x (n * powT k)) := by rw [e2]
      _ = lowN x (n * powT k) * gcdI x (n * powT k) * lowU x (n * powT k) := by simp only [Int.mul_assoc, Int.mul_comm, Int.mul_left_comm]
      _ = _ := by rw [e1]
  rw [e0] at c1
  refine lowF_cross (Int.mul_pos u1 u2) hp ?_
  generalize errN p n k .up = A at *
  generalize errU p n k .up = B at *
  generalize errN p n k .down = C at *
  generalize errU p n k .down = D at *
  generalize unitsF p n k .down * n - p * powT k = x at *
  generalize powT k = P at *
  refine Int.eq_of_mul_eq_mul_left (a := n) (by omega) ?_
  have q1 : n * ((A * D - C * B) * P) = A * (n * P) * D - C * (n * P) * B := by
    rw [Int.sub_mul, Int.mul_sub]
    congr 1 <;> simp only [Int.mul_assoc, Int.mul_comm, Int.mul_left_comm]
  rw [q1, c1, c2, Int.one_mul, Int.add_mul, Int.add_mul]
  have q2 : x * B * D = x * D * B := Int.mul_right_comm ..
  rw [q2, Int.mul_assoc n B D]
  omega
theorem err_sign {p n k : Int} (hn : 0 < n) : errN p n k .down ≤ 0 ∧ 0 ≤ errN p n k .up := by
  have hp := powT_pos k
  have hb := Int.mul_pos hn hp
  have hdm := Int.mul_ediv_add_emod (p * powT k) n
  have hm := Int.emod_lt_of_pos (p * powT k) hn
  have hm0 := Int.emod_nonneg (p * powT k) (show n ≠ 0 by omega)
  constructor
  · rw [(err_low p n k .down hn).1]
    have : unitsF p n k .down * n - p * powT k ≤ 0 := by
      rw [units_down, Int.mul_comm _ n]
      omega
    unfold lowN
    exact Int.ediv_nonpos_of_nonpos_of_neg this (gcdI_pos hb)
  · by_cases c : p * powT k % n = 0
    · rw [(errN_zero hn).mpr c]
      exact Int.le_refl _
    · rw [(err_low p n k .up hn).1]
      have : 0 ≤ unitsF p n k .up * n - p * powT k := by
        rw [units_up c, Int.add_mul, Int.mul_comm _ n]
        omega
      unfold lowN
      exact Int.ediv_nonneg this (Int.le_of_lt (gcdI_pos hb))
end SD

namespace SD
open PySem DL

/-! ### rounding sees the ratio alone -/
theorem units_scale {g p n d : Int} {r : Ru} (hg : 0 < g) (hn : 0 < n) : unitsF (g * p) (g * n) d r = unitsF p n d r := by
  have e : g * p * powT d = g * (p * powT d) := Int.mul_assoc ..
  unfold unitsF
  rw [e]
  generalize p * powT d = t
  have e1 : g * t / (g * n) = t / n := Int.mul_ediv_mul_of_pos _ _ hg
  have e2 : g * t % (g * n) = g * (t % n) := Int.mul_emod_mul_of_pos _ _ hg
  rw [e1, e2]
  generalize t % n = re
  have z0 : g * re = 0 ↔ re = 0 := ⟨fun z => (Int.mul_eq_zero.mp z).resolve_left (by omega), fun z => by rw [z, Int.mul_zero]⟩
  have z1 : 2 * (g * re) = g * n ↔ 2 * re = n := by
    rw [Int.mul_left_comm]
    exact ⟨fun z => Int.eq_of_mul_eq_mul_left (by omega) z, fun z => by rw [z]⟩
  have z2 : 2 * (g * re) < g * n ↔ 2 * re < n := by
    rw [Int.mul_left_comm]
    exact ⟨fun z => Int.lt_of_mul_lt_mul_left z (Int.le_of_lt hg), fun z => Int.mul_lt_mul_of_pos_left z hg⟩
  have z3 : 0 < g * t ↔ 0 < t := ⟨fun z => Int.pos_of_mul_pos_right z hg, fun z => Int.mul_pos hg z⟩
  simp only [z0, z1, z2, z3]
theorem units_cross {a b c d k : Int} {r : Ru} (hb : 0 < b) (hd : 0 < d) (h : a * d = c * b) : unitsF a b k r = unitsF c d k r := by
  rw [← units_scale (g := d) hd hb, ← units_scale (g := b) hb hd, Int.mul_comm d a, h, Int.mul_comm c b, Int.mul_comm d b]
theorem units_low {a b k : Int} {r : Ru} (hb : 0 < b) : unitsF (lowN a b) (lowU a b) k r = unitsF a b k r := by
  refine units_cross (lowU_pos hb) hb ?_
  have e1 := lowN_mul (a := a) hb
  have e2 := lowU_mul (a := a) hb
  calc lowN a b * b = lowN a b * (lowU a b * gcdI a b) := by rw [e2]
    _ = lowN a b * gcdI a b * lowU a b := by simp only [Int.mul_assoc, Int.mul_comm, Int.mul_left_comm]
    _ = _ := by rw [e1]
/-- in two steps -/
def twF (p n f t : Int) (r : Ru) : Int := unitsF (unitsF p n f r) (powT f) t r
theorem units_exact {p n k : Int} {r : Ru} (h : p * powT k % n = 0) : unitsF p n k r * n = p * powT k := by
  rw [near_zero _ _ _ _ h]
  exact Int.ediv_mul_cancel (Int.dvd_of_emod_eq_zero h)
theorem tw_exact {p n f t : Int} {r : Ru} (hn : 0 < n) (h : p * powT f % n = 0) : twF p n f t r = unitsF p n t r :=
  units_cross (powT_pos f) hn (units_exact h)
theorem units_self (u t : Int) (r : Ru) : unitsF u (powT t) t r = u := by
  have hp := powT_pos t
  rw [near_zero _ _ _ _ (Int.mul_emod_left ..)]
  exact Int.mul_ediv_cancel _ (by omega)
theorem tw_self (p n t : Int) (r : Ru) : twF p n t t r = unitsF p n t r := units_self ..
theorem powT_split {f t : Int} (h0 : 0 ≤ t) (h : t ≤ f) : powT f = powT t * powT (f - t) := by
  unfold powT
  rw [← Int.pow_add]
  congr 1
  omega
theorem powT_even {k : Int} (h : 0 < k) : ∃ e, powT k = 2 * e ∧ 0 < e := by
  refine ⟨5 * powT (k - 1), ?_, ?_⟩
  · have : powT k = powT 1 * powT (k - 1) := powT_split (by decide) (by omega)
    rw [this, show powT 1 = 10 from by decide]
    omega
  · have := powT_pos (k - 1)
    omega
/-- with t digits kept, a number with f digits is one over D -/
theorem tw_over {p n f t : Int} {r : Ru} (h0 : 0 ≤ t) (h : t ≤ f) : twF p n f t r = unitsF (unitsF p n f r) (powT (f - t)) 0 r := by
  have e := powT_split h0 h
  have hp := powT_pos t
  have hq := powT_pos (f - t)
  have hf := powT_pos f
  have z : powT 0 = 1 := by decide
  unfold twF
  generalize unitsF p n f r = u
  have d : unitsF u (powT f) t r = unitsF (u * powT t) (powT f) 0 r := by
    unfold unitsF
    rw [z, Int.mul_one]
  rw [d]
  refine units_cross hf hq ?_
  rw [e, Int.mul_assoc]
theorem once_over (p n t : Int) (r : Ru) : unitsF p n t r = unitsF (p * powT t) n 0 r := by
  unfold unitsF
  rw [show powT 0 = 1 from by decide, Int.mul_one]
/-- rounding by the floor and the rest -/
theorem units_at {a b : Int} {r : Ru} : unitsF a b 0 r = if a % b = 0 ∨ r = .down then a / b
  else if r = .up then a / b + 1
  else if r = .zero then (if 0 < a then a / b else a / b + 1)
  else if ¬ 2 * (a % b) = b then (if 2 * (a % b) < b then a / b else a / b + 1)
  else if r = .nup then a / b + 1
  else if r = .nzero then (if 0 < a then a / b else a / b + 1)
  else if r = .naway then (if 0 < a then a / b + 1 else a / b)
  else (if a / b % 2 = 0 then a / b else a / b + 1) := by
  unfold unitsF
  rw [show powT 0 = 1 from by decide, Int.mul_one]
/-- the first three rules never differ -/
theorem tw_dir {p n f t : Int} {r : Ru} (hn : 0 < n) (h0 : 0 ≤ t) (h : t ≤ f) (hr : isDir r = true) : twF p n f t r = unitsF p n t r := by
  rw [tw_over h0 h, once_over p n t r]
  have hD := powT_pos (f - t)
  have e : p * powT f = p * powT t * powT (f - t) := by rw [powT_split h0 h, Int.mul_assoc]
  -- X over n is x; U is x * D rounded
  have hX : unitsF p n f r = unitsF (p * powT t * powT (f - t)) n 0 r := by rw [once_over p n f r, e]
  rw [hX]
  generalize p * powT t = X
  generalize powT (f - t) = D at *
  have m1 := Int.mul_ediv_add_emod X n
  have m2 := Int.emod_lt_of_pos X hn
  have m3 := Int.emod_nonneg X (show n ≠ 0 by omega)
  have fl : X * D / n / D = X / n := by
    rw [Int.ediv_ediv_of_nonneg (by omega), Int.mul_ediv_mul_of_pos_left _ _ hD]
  have ceil : ∀ a b : Int, 0 < b → (if a % b = 0 then a / b else a / b + 1) = -((-a) / b) := fun a b hb => by
    have k1 := Int.mul_ediv_add_emod a b
    have k2 := Int.emod_lt_of_pos a hb
    have k3 := Int.emod_nonneg a (show b ≠ 0 by omega)
    split
    · rename_i z
      have : -a = -(a / b) * b := by rw [Int.neg_mul, Int.mul_comm]; omega
      rw [this, Int.mul_ediv_cancel _ (by omega)]
      omega
    · rename_i z
      have : -a = (b - a % b) + b * (-(a / b) - 1) := by
        rw [Int.mul_sub, Int.mul_neg]
        omega
      rw [this, Int.add_mul_ediv_left _ _ (by omega), Int.ediv_eq_zero_of_lt (a := b - a % b) (b := b) (by omega) (by omega)]
      omega
  have up : ∀ Y Z : Int, 0 < Z → unitsF Y Z 0 .up = -((-Y) / Z) := fun Y Z hZ => by
    rw [← ceil Y Z hZ, units_at]
    simp
  have dn : ∀ Y Z : Int, unitsF Y Z 0 .down = Y / Z := fun Y Z => by
    rw [units_at]
    simp
  have zp : ∀ Y Z : Int, 0 < Z → 0 < Y → unitsF Y Z 0 .zero = Y / Z := fun Y Z hZ hY => by
    rw [units_at]
    simp [hY]
  have zn : ∀ Y Z : Int, 0 < Z → ¬ 0 < Y → unitsF Y Z 0 .zero = -((-Y) / Z) := fun Y Z hZ hY => by
    rw [← ceil Y Z hZ, units_at]
    simp [hY]
  have ce : -(-(-(-(X * D) / n)) / D) = -(-X / n) := by
    rw [Int.neg_neg, Int.ediv_ediv_of_nonneg (by omega), ← Int.neg_mul, Int.mul_ediv_mul_of_pos_left _ _ hD]
  cases r with
  | down => rw [dn, dn, dn, fl]
  | up => rw [up _ _ hn, up _ _ hD, up _ _ hn, ce]
  | zero =>
    by_cases hx : 0 < X
    · have hxD : 0 < X * D := Int.mul_pos hx hD
      rw [zp _ _ hn hx, zp _ _ hn hxD]
      by_cases hy : 0 < X * D / n
      · rw [zp _ _ hD hy, fl]
      · have hy0 : X * D / n = 0 := by
          have := Int.ediv_nonneg (Int.le_of_lt hxD) (Int.le_of_lt hn)
          omega
        rw [zn _ _ hD hy, hy0, ← fl, hy0]
        simp
    · have hxD : ¬ 0 < X * D := fun z => hx (Int.pos_of_mul_pos_left z hD)
      rw [zn _ _ hn hx, zn _ _ hn hxD]
      have hy : ¬ 0 < -(-(X * D) / n) := by
        have := Int.ediv_nonneg (show 0 ≤ -(X * D) by omega) (Int.le_of_lt hn)
        omega
      rw [zn _ _ hD hy, ce]
  | _ => simp [isDir] at hr
/-- where two steps differ from one, a middle lies between -/
theorem tw_mid {p n f t : Int} {r : Ru} (hn : 0 < n) (h0 : 0 ≤ t) (h : t ≤ f) (hd : twF p n f t r ≠ unitsF p n t r) :
    2 * (unitsF p n f r % powT (f - t)) = powT (f - t) ∧ ((twF p n f t r - unitsF p n t r).natAbs : Int) = 1 := by
  have hr : isDir r = false := by
    cases e : isDir r with
    | false => rfl
    | true => exact absurd (tw_dir hn h0 h e) hd
  have hf : t < f := by
    rcases Int.lt_or_eq_of_le h with z | z
    · exact z
    · subst z
      exact absurd (tw_self ..) hd
  obtain ⟨e, he, he0⟩ := powT_even (k := f - t) (by omega)
  have nr := units_near p n f r hn hr
  have hD := powT_pos (f - t)
  rw [tw_over h0 h, once_over p n t r] at hd ⊢
  have ep : p * powT f = p * powT t * powT (f - t) := by rw [powT_split h0 h, Int.mul_assoc]
  rw [ep] at nr
  generalize p * powT t = X at *
  generalize unitsF p n f r = U at *
  generalize powT (f - t) = D at *
  have u1 := Int.mul_ediv_add_emod U D
  have u2 := Int.emod_lt_of_pos U hD
  have u3 := Int.emod_nonneg U (show D ≠ 0 by omega)
  have x1 := Int.mul_ediv_add_emod X n
  have x2 := Int.emod_lt_of_pos X hn
  have x3 := Int.emod_nonneg X (show n ≠ 0 by omega)
  -- U n = D n q + n s ;  |2 (U n - X D)| ≤ n
  generalize hq : U / D = q at *
  generalize hs : U % D = s at *
  have en : U * n = D * (q * n) + s * n := by rw [← u1, Int.add_mul, Int.mul_assoc]
  -- y: how far X lies above q n
  have key : ∀ y : Int, X = q * n + y → -n ≤ 2 * (s * n - y * D) ∧ 2 * (s * n - y * D) ≤ n := fun y hy => by
    have : X * D = D * (q * n) + y * D := by rw [hy, Int.add_mul, Int.mul_comm D]
    rw [en, this] at nr
    omega
  obtain ⟨y, hy⟩ : ∃ y, X = q * n + y := ⟨X - q * n, by omega⟩
  obtain ⟨k1, k2⟩ := key y hy
  subst he
  -- 2 y e is near s n
  have ye : y * (2 * e) = 2 * (y * e) := by rw [Int.mul_left_comm]
  rw [ye] at k1 k2
  -- the floor and the rest of X
  have rest : ∀ z : Int, 0 ≤ z → z < n → ∀ c : Int, X = c * n + z → X / n = c ∧ X % n = z := fun z z0 z1 c hc => by
    have e1 : X = z + n * c := by rw [hc, Int.mul_comm]; omega
    constructor
    · rw [e1, Int.add_mul_ediv_left _ _ (by omega), Int.ediv_eq_zero_of_lt z0 z1]
      omega
    · rw [e1, Int.add_mul_emod_self_left, Int.emod_eq_of_lt z0 z1]
  by_cases c1 : s < e
  · -- both give q
    exfalso
    apply hd
    have w1 : unitsF U (2 * e) 0 r = q := by
      rw [units_at, hq, hs]
      by_cases c0 : s = 0
      · rw [if_pos (.inl c0)]
      · cases r <;> simp only [isDir, Bool.true_eq_false] at hr <;> simp only [c0, reduceCtorEq, or_false, if_false] <;> rw [if_pos (by omega), if_pos (by omega)]
    have y1 : s * n ≤ e * n - n := by
      have : s * n ≤ (e - 1) * n := Int.mul_le_mul_of_nonneg_right (by omega) (by omega)
      rw [Int.sub_mul] at this
      omega
    have y2 : 2 * y < n := by
      have : y * e * 4 < 2 * (e * n) := by omega
      have h2 : e * (2 * y) < e * n := by
        rw [Int.mul_left_comm, Int.mul_comm e y]
        omega
      exact Int.lt_of_mul_lt_mul_left h2 (Int.le_of_lt he0)
    have y3 : -n < 2 * y := by
      have sn : 0 ≤ s * n := Int.mul_nonneg u3 (by omega)
      have h2 : e * (-n) < e * (2 * y) := by
        rw [Int.mul_left_comm, Int.mul_comm e y, Int.mul_neg]
        have : n ≤ e * n := by
          have := Int.mul_le_mul_of_nonneg_right (show 1 ≤ e by omega) (show 0 ≤ n by omega)
          omega
        omega
      exact Int.lt_of_mul_lt_mul_left h2 (Int.le_of_lt he0)
    rw [w1]
    by_cases y0 : 0 ≤ y
    · obtain ⟨f1, f2⟩ := rest y y0 (by omega) q hy
      rw [units_at, f1, f2]
      by_cases c0 : y = 0
      · rw [if_pos (.inl c0)]
      · cases r <;> simp only [isDir, Bool.true_eq_false] at hr <;> simp only [c0, reduceCtorEq, or_false, if_false] <;> rw [if_pos (by omega), if_pos (by omega)]
    · obtain ⟨f1, f2⟩ := rest (y + n) (by omega) (by omega) (q - 1) (by rw [Int.sub_mul]; omega)
      rw [units_at, f1, f2]
      have c0 : ¬ y + n = 0 := by omega
      cases r <;> simp only [isDir, Bool.true_eq_false] at hr <;> simp only [c0, reduceCtorEq, or_false, if_false] <;> rw [if_pos (by omega), if_neg (by omega)] <;> omega
  · by_cases c2 : s = e
    · refine ⟨by omega, ?_⟩
      subst c2
      -- X lies strictly between q n and (q + 1) n
      have y2 : 0 < y := by
        have : n ≤ s * n := by
          have := Int.mul_le_mul_of_nonneg_right (show 1 ≤ s by omega) (show 0 ≤ n by omega)
          omega
        have h2 : 0 < y * s := by omega
        exact Int.pos_of_mul_pos_left h2 he0
      have y3 : y < n := by
        have : n ≤ s * n := by
          have := Int.mul_le_mul_of_nonneg_right (show 1 ≤ s by omega) (show 0 ≤ n by omega)
          omega
        have h2 : y * s < n * s := by
          rw [Int.mul_comm n s]
          omega
        exact Int.lt_of_mul_lt_mul_right h2 (Int.le_of_lt he0)
      obtain ⟨f1, f2⟩ := rest y (by omega) y3 q hy
      have b1 : unitsF U (2 * s) 0 r = q ∨ unitsF U (2 * s) 0 r = q + 1 := by
        rw [units_at, hq]
        repeat' split
        all_goals first | exact .inl rfl | exact .inr rfl
      have b2 : unitsF X n 0 r = q ∨ unitsF X n 0 r = q + 1 := by
        rw [units_at, f1]
        repeat' split
        all_goals first | exact .inl rfl | exact .inr rfl
      omega
    · -- both give q + 1
      exfalso
      apply hd
      have w1 : unitsF U (2 * e) 0 r = q + 1 := by
        rw [units_at, hq, hs]
        have c0 : ¬ s = 0 := by omega
        cases r <;> simp only [isDir, Bool.true_eq_false] at hr <;> simp only [c0, reduceCtorEq, or_false, if_false] <;> rw [if_pos (by omega), if_neg (by omega)]
      have y1 : e * n + n ≤ s * n := by
        have : (e + 1) * n ≤ s * n := Int.mul_le_mul_of_nonneg_right (by omega) (by omega)
        rw [Int.add_mul] at this
        omega
      have y2 : n < 2 * y := by
        have h2 : e * n < e * (2 * y) := by
          rw [Int.mul_left_comm, Int.mul_comm e y]
          omega
        exact Int.lt_of_mul_lt_mul_left h2 (Int.le_of_lt he0)
      have y3 : 2 * y < 3 * n := by
        have sn : s * n ≤ (2 * e - 1) * n := Int.mul_le_mul_of_nonneg_right (by omega) (by omega)
        rw [Int.sub_mul, Int.mul_assoc] at sn
        have h2 : e * (2 * y) < e * (3 * n) := by
          rw [Int.mul_left_comm, Int.mul_comm e y, Int.mul_left_comm e 3]
          have : n ≤ e * n := by
            have := Int.mul_le_mul_of_nonneg_right (show 1 ≤ e by omega) (show 0 ≤ n by omega)
            omega
          omega
        exact Int.lt_of_mul_lt_mul_left h2 (Int.le_of_lt he0)
      rw [w1]
      by_cases y0 : y < n
      · obtain ⟨f1, f2⟩ := rest y (by omega) y0 q hy
        rw [units_at, f1, f2]
        have c0 : ¬ y = 0 := by omega
        cases r <;> simp only [isDir, Bool.true_eq_false] at hr <;> simp only [c0, reduceCtorEq, or_false, if_false] <;> rw [if_pos (by omega), if_neg (by omega)]
      · obtain ⟨f1, f2⟩ := rest (y - n) (by omega) (by omega) (q + 1) (by rw [Int.add_mul]; omega)
        rw [units_at, f1, f2]
        by_cases c0 : y - n = 0
        · rw [if_pos (.inl c0)]
        · cases r <;> simp only [isDir, Bool.true_eq_false] at hr <;> simp only [c0, reduceCtorEq, or_false, if_false] <;> rw [if_pos (by omega), if_pos (by omega)]
/-- two steps stay within two units -/
theorem tw_err {p n f t : Int} {r : Ru} (hn : 0 < n) (h0 : 0 ≤ t) (h : t ≤ f) : ((twF p n f t r * n - p * powT t).natAbs : Int) ≤ 2 * n := by
  by_cases hd : twF p n f t r = unitsF p n t r
  · have := units_err p n t r hn
    rw [hd]
    omega
  · have h1 := (tw_mid hn h0 h hd).2
    have := units_err p n t r hn
    have e : twF p n f t r * n - p * powT t = (twF p n f t r - unitsF p n t r) * n + (unitsF p n t r * n - p * powT t) := by rw [Int.sub_mul]; omega
    rw [e]
    rcases (by omega : twF p n f t r - unitsF p n t r = 1 ∨ twF p n f t r - unitsF p n t r = -1) with z | z <;> rw [z] <;> omega
/-! ### the steps' answers -/
def trapB (p n t : Int) (u : Ru) (k : Nat) : Bool := !decide (twF p n (k : Int) t u = unitsF p n t u)
def trapK (p n t : Int) (u : Ru) : Option Nat := fstK (trapB p n t u) t.toNat (7 - t).toNat
def stepL (r : Ru) : Nat → Int → Int → List Int
  | 0, p, n => [unitsF p n 0 r]
  | d + 1, p, n => unitsF p n ((d + 1 : Nat) : Int) r :: stepL r d (unitsF p n ((d + 1 : Nat) : Int) r) (powT ((d + 1 : Nat) : Int))
theorem step_low {r : Ru} {m : Nat} {a b : Int} (hb : 0 < b) : stepL r m (lowN a b) (lowU a b) = stepL r m a b := by
  cases m with
  | zero => simp only [stepL, units_low hb]
  | succ m => simp only [stepL, units_low hb]
theorem step_len (r : Ru) : ∀ (m : Nat) (p n : Int), (stepL r m p n).length = m + 1
  | 0, p, n => rfl
  | m + 1, p, n => by simp [stepL, step_len r m]
theorem step_ne (r : Ru) (m : Nat) (p n : Int) : stepL r m p n ≠ [] := fun z => by
  have := step_len r m p n
  rw [z] at this
  simp at this
/-- the last of the steps -/
def stepZ (r : Ru) (m : Nat) (p n : Int) : Int := (stepL r m p n).getLast (step_ne r m p n)
theorem ix_last (L : List Int) (h : L ≠ []) : ixD (.list (L.map PyData.int)) (.int (-1)) = some (.int (L.getLast h)) := by
  have e : L.map PyData.int = (L.dropLast.map PyData.int) ++ [.int (L.getLast h)] := by
    rw [← List.map_singleton, ← List.map_append, List.dropLast_concat_getLast]
  rw [e]
  exact L2.atI_last _ _
def trapsB (m k j : Int) (u : Ru) (i : Nat) : Bool := decide (lowU (i : Int) m = m) && !decide (twF (lowN (i : Int) m) (lowU (i : Int) m) k j u = unitsF (lowN (i : Int) m) (lowU (i : Int) m) j u)
def trapsN (m k j : Int) (u : Ru) : Int := (((List.range (m + 1).toNat).filter (trapsB m k j u)).length : Int)
end SD

namespace SD
open PySem DL

/-! ### periods -/
/-- rest comes to 1 within so many turns -/
def stopB (L : Int) : Nat → Int → Bool
  | 0, x => decide (x = 1)
  | f + 1, x => if x = 1 then true else stopB L f (x * 10 % L)
def ordF (L : Int) : Nat → Int → Nat
  | 0, _ => 0
  | f + 1, x => if x = 1 then 0 else ordF L f (x * 10 % L) + 1
/-- the period's length -/
def perL (n : Int) : Int := if partsL n = 1 then 0 else (ordF (partsL n) 60 (10 % partsL n) : Int) + 1
theorem per_all : ((List.range 60).all fun i => (decide (partsL ((i : Int) + 1) = 1) || stopB (partsL ((i : Int) + 1)) 60 (10 % partsL ((i : Int) + 1))) && decide (0 ≤ perL ((i : Int) + 1) ∧ perL ((i : Int) + 1) ≤ 58)) = true := by decide +kernel
theorem per_at {n : Int} (h1 : 1 ≤ n) (h2 : n ≤ 60) : (¬ partsL n = 1 → stopB (partsL n) 60 (10 % partsL n) = true) ∧ (0 ≤ perL n ∧ perL n ≤ 58) := by
  have h := List.all_eq_true.mp per_all (n - 1).toNat (List.mem_range.mpr (by omega))
  have e : (((n - 1).toNat : Nat) : Int) + 1 = n := by omega
  rw [e, Bool.and_eq_true] at h
  refine ⟨fun c => ?_, of_decide_eq_true h.2⟩
  have := h.1
  rw [decide_eq_false c] at this
  simpa using this
/-- digits by dividing -/
def digL (n : Int) : Nat → Int → List Int
  | 0, _ => []
  | m + 1, x => x * 10 / n :: digL n m (x * 10 % n)
def rstL (n : Int) : Nat → Int → Int
  | 0, x => x
  | m + 1, x => rstL n m (x * 10 % n)
theorem digL_len (n : Int) : ∀ (m : Nat) (x : Int), (digL n m x).length = m
  | 0, x => rfl
  | m + 1, x => by simp [digL, digL_len n m]
theorem digL_snoc (n : Int) : ∀ (m : Nat) (x : Int), digL n (m + 1) x = digL n m x ++ [rstL n m x * 10 / n]
  | 0, x => rfl
  | m + 1, x => by
    have ih := digL_snoc n m (x * 10 % n)
    show x * 10 / n :: digL n (m + 1) (x * 10 % n) = _
    rw [ih]
    rfl
theorem rstL_succ (n : Int) : ∀ (m : Nat) (x : Int), rstL n (m + 1) x = rstL n m x * 10 % n
  | 0, x => rfl
  | m + 1, x => rstL_succ n m (x * 10 % n)
def rst0 (p n : Int) : Int := (p.natAbs : Int) % n
def digs (p n : Int) (m : Nat) : List Int := digL n m (rst0 p n)
def perD (p n : Int) : List Int := (digs p n (partsB n + perL n).toNat).drop (partsB n).toNat
end SD

namespace SD
open PySem DL

/-! ### what is rounded to a decimal -/
def spK (d : Int) (r : Ru) : Int := if isDir r = true then powT d else 2 * powT d
def loN (u : Int) : Ru → Int
  | .down => u
  | .up => u - 1
  | .zero => if 0 < u then u else if u < 0 then u - 1 else -1
  | _ => 2 * u - 1
def hiN (u : Int) : Ru → Int
  | .down => u + 1
  | .up => u
  | .zero => if 0 < u then u + 1 else if u < 0 then u else 1
  | _ => 2 * u + 1
def loI (u : Int) : Ru → Bool
  | .down => true
  | .up => false
  | .zero => decide (0 < u)
  | .nup => true
  | .nzero => decide (u ≤ 0)
  | .naway => decide (0 < u)
  | .neven => decide (u % 2 = 0)
def hiI (u : Int) : Ru → Bool
  | .down => false
  | .up => true
  | .zero => decide (u < 0)
  | .nup => false
  | .nzero => decide (0 ≤ u)
  | .naway => decide (u < 0)
  | .neven => decide (u % 2 = 0)
/-- a range as data -/
def spanT (a b : Int) (i : Bool) (c d : Int) (j : Bool) : PyData := .tuple [fr a b, .bool i, fr c d, .bool j]
def spanF (u d : Int) (r : Ru) : PyData := spanT (lowN (loN u r) (spK d r)) (lowU (loN u r) (spK d r)) (loI u r) (lowN (hiN u r) (spK d r)) (lowU (hiN u r) (spK d r)) (hiI u r)
theorem spK_pos (d : Int) (r : Ru) : 0 < spK d r := by
  have := powT_pos d
  unfold spK
  split <;> omega
theorem spK_le {d : Int} (r : Ru) (h : d ≤ 6) : spK d r ≤ 2000000 := by
  have := powT_le h
  have := powT_pos d
  unfold spK
  split <;> omega
theorem shaped_span (a b : Int) (i : Bool) (c d : Int) (j : Bool) : SeqAt.shaped (spanT a b i c d j) = true := by
  simp [spanT, SeqAt.shaped, PyData.canLay0, PyData.canLayAll0, PyData.depth, PyData.depthAll]
theorem eqv_span (a b : Int) (i : Bool) (c d : Int) (j : Bool) (a' b' : Int) (i' : Bool) (c' d' : Int) (j' : Bool) : PyData.eqv (spanT a b i c d j) (spanT a' b' i' c' d' j') = decide (a = a' ∧ b = b' ∧ i = i' ∧ c = c' ∧ d = d' ∧ j = j') := by
  by_cases h1 : a = a' <;> by_cases h2 : b = b' <;> by_cases h3 : c = c' <;> by_cases h4 : d = d' <;> cases i <;> cases i' <;> cases j <;> cases j' <;> simp [spanT, PyData.eqv, PyData.eqvAll, eqv_int, eqv_bool, h1, h2, h3, h4]
theorem neD_span (a b : Int) (i : Bool) (c d : Int) (j : Bool) (a' b' : Int) (i' : Bool) (c' d' : Int) (j' : Bool) : neD (spanT a b i c d j) (spanT a' b' i' c' d' j') = some (!decide (a = a' ∧ b = b' ∧ i = i' ∧ c = c' ∧ d = d' ∧ j = j')) := by
  unfold neD
  rw [if_pos ⟨shaped_span .., shaped_span ..⟩, eqv_span]
/-! ### opposites -/
theorem lowN_neg (a b : Int) : lowN (-a) b = -lowN a b := by
  unfold lowN gcdI
  rw [Int.neg_gcd]
  exact Int.neg_ediv_of_dvd (Int.gcd_dvd_left ..)
theorem lowU_neg (a b : Int) : lowU (-a) b = lowU a b := by
  unfold lowU gcdI
  rw [Int.neg_gcd]
/-- the rule seen in a mirror -/
def flipR : Ru → Ru
  | .down => .up
  | .up => .down
  | .nup => .nup
  | r => r
theorem units_neg {p n d : Int} {r : Ru} (hn : 0 < n) (hr : r ≠ .nup) : unitsF (-p) n d r = -unitsF p n d (flipR r) := by
  have hdm := Int.mul_ediv_add_emod (p * powT d) n
  have hm := Int.emod_lt_of_pos (p * powT d) hn
  have hm0 := Int.emod_nonneg (p * powT d) (show n ≠ 0 by omega)
  unfold unitsF
  rw [Int.neg_mul]
  generalize p * powT d = t at *
  by_cases c : t % n = 0
  · have e : -t = n * (-(t / n)) := by rw [Int.mul_neg]; omega
    have e1 : -t / n = -(t / n) := by rw [e]; exact Int.mul_ediv_cancel_left _ (by omega)
    have e2 : -t % n = 0 := by rw [e]; exact Int.mul_emod_right ..
    rw [if_pos (.inl e2), if_pos (.inl c), e1]
  · have e : -t = (n - t % n) + n * (-(t / n) - 1) := by rw [Int.mul_sub, Int.mul_neg]; omega
    have e1 : -t / n = -(t / n) - 1 := by
      rw [e, Int.add_mul_ediv_left _ _ (by omega), Int.ediv_eq_zero_of_lt (a := n - t % n) (b := n) (by omega) (by omega)]
      omega
    have e2 : -t % n = n - t % n := by
      rw [e, Int.add_mul_emod_self_left, Int.emod_eq_of_lt (by omega) (by omega)]
    rw [e1, e2]
    have c2 : ¬ n - t % n = 0 := by omega
    have t0 : t ≠ 0 := fun z => c (by rw [z]; exact Int.zero_emod _)
    generalize t % n = s at *
    generalize t / n = f at *
    cases r <;> simp only [flipR, ne_eq, not_true] at hr <;> simp only [flipR, c, c2, reduceCtorEq, or_false, or_true, if_true, if_false]
    all_goals (repeat' split)
    all_goals omega
theorem units_neg_nup {p n d : Int} (hn : 0 < n) : (2 * (p * powT d % n) = n → unitsF p n d .nup = unitsF p n d .up ∧ -unitsF (-p) n d .nup = unitsF p n d .down) ∧ (¬ 2 * (p * powT d % n) = n → -unitsF (-p) n d .nup = unitsF p n d .nup) := by
  have hdm := Int.mul_ediv_add_emod (p * powT d) n
  have hm := Int.emod_lt_of_pos (p * powT d) hn
  have hm0 := Int.emod_nonneg (p * powT d) (show n ≠ 0 by omega)
  unfold unitsF
  rw [Int.neg_mul]
  generalize p * powT d = t at *
  by_cases c : t % n = 0
  · have e : -t = n * (-(t / n)) := by rw [Int.mul_neg]; omega
    have e1 : -t / n = -(t / n) := by rw [e]; exact Int.mul_ediv_cancel_left _ (by omega)
    have e2 : -t % n = 0 := by rw [e]; exact Int.mul_emod_right ..
    simp only [e1, e2, c, true_or, if_true]
    exact ⟨fun z => by omega, fun z => by omega⟩
  · have e : -t = (n - t % n) + n * (-(t / n) - 1) := by rw [Int.mul_sub, Int.mul_neg]; omega
    have e1 : -t / n = -(t / n) - 1 := by
      rw [e, Int.add_mul_ediv_left _ _ (by omega), Int.ediv_eq_zero_of_lt (a := n - t % n) (b := n) (by omega) (by omega)]
      omega
    have e2 : -t % n = n - t % n := by
      rw [e, Int.add_mul_emod_self_left, Int.emod_eq_of_lt (by omega) (by omega)]
    rw [e1, e2]
    have c2 : ¬ n - t % n = 0 := by omega
    generalize t % n = s at *
    generalize t / n = f at *
    simp only [c, c2, reduceCtorEq, or_false, or_true, if_true, if_false]
    constructor
    · intro z
      have z2 : 2 * (n - s) = n := by omega
      simp only [z, z2, eq_self, not_true, if_false]
      exact ⟨trivial, by omega⟩
    · intro z
      have z2 : ¬ 2 * (n - s) = n := by omega
      rw [if_pos z, if_pos z2]
      by_cases z3 : 2 * s < n
      · rw [if_pos z3, if_neg (by omega)]
        omega
      · rw [if_neg z3, if_pos (by omega)]
        omega
/-- the rules that stay -/
def isSym : Ru → Bool
  | .zero => true
  | .nzero => true
  | .naway => true
  | .neven => true
  | _ => false
theorem flip_sym {r : Ru} (h : isSym r = true) : flipR r = r := by cases r <;> first | rfl | simp [isSym] at h
theorem span_neg (u d : Int) {r : Ru} (h : isSym r = true) : spanF (-u) d r = spanT (-lowN (hiN u r) (spK d r)) (lowU (hiN u r) (spK d r)) (hiI u r) (-lowN (loN u r) (spK d r)) (lowU (loN u r) (spK d r)) (loI u r) := by
  have a1 : loN (-u) r = -hiN u r := by
    cases r <;> simp only [isSym, Bool.false_eq_true] at h <;> simp only [loN, hiN]
    all_goals (repeat' split)
    all_goals omega
  have a2 : hiN (-u) r = -loN u r := by
    cases r <;> simp only [isSym, Bool.false_eq_true] at h <;> simp only [loN, hiN]
    all_goals (repeat' split)
    all_goals omega
  have a3 : loI (-u) r = hiI u r := by
    cases r <;> simp only [isSym, Bool.false_eq_true] at h <;> simp only [loI, hiI] <;> exact decide_eq_decide.mpr (by omega)
  have a4 : hiI (-u) r = loI u r := by
    cases r <;> simp only [isSym, Bool.false_eq_true] at h <;> simp only [loI, hiI] <;> exact decide_eq_decide.mpr (by omega)
  unfold spanF
  rw [a1, a2, a3, a4, lowN_neg, lowN_neg, lowU_neg, lowU_neg]
/-- a whole step further -/
theorem units_shift {p n d : Int} {r : Ru} (hn : 0 < n) (h0 : 0 ≤ d) (hr : r = .down ∨ r = .up ∨ r = .nup ∨ (r = .neven ∧ 0 < d)) : unitsF (p + n) n d r = unitsF p n d r + powT d := by
  have e : (p + n) * powT d = p * powT d + n * powT d := Int.add_mul ..
  unfold unitsF
  rw [e, Int.add_mul_ediv_left _ _ (by omega), Int.add_mul_emod_self_left]
  have ev : 0 < d → powT d % 2 = 0 := fun z => by
    obtain ⟨x, hx, _⟩ := powT_even z
    omega
  generalize p * powT d = t at *
  rcases hr with rfl | rfl | rfl | ⟨rfl, hd⟩
  · simp
  · simp only [reduceCtorEq, or_false, if_true, if_false]
    split <;> omega
  · simp only [reduceCtorEq, or_false, if_true, if_false]
    repeat' split
    all_goals omega
  · have := ev hd
    simp only [reduceCtorEq, or_false, if_false]
    repeat' split
    all_goals omega
theorem units_bound {p n d : Int} {r : Ru} (hn : 0 < n) (h1 : -100 * n ≤ p) (h2 : p ≤ 100 * n) : -100 * powT d ≤ unitsF p n d r ∧ unitsF p n d r ≤ 100 * powT d := by
  have hp := powT_pos d
  have er := units_err p n d r hn
  have b1 : p * powT d ≤ 100 * n * powT d := Int.mul_le_mul_of_nonneg_right h2 (Int.le_of_lt hp)
  have b2 : -100 * n * powT d ≤ p * powT d := Int.mul_le_mul_of_nonneg_right h1 (Int.le_of_lt hp)
  have e1 : 100 * n * powT d = n * (100 * powT d) := by rw [Int.mul_comm 100 n, Int.mul_assoc]
  have e2 : -100 * n * powT d = n * (-100 * powT d) := by rw [Int.mul_comm (-100) n, Int.mul_assoc]
  rw [e1] at b1
  rw [e2] at b2
  generalize unitsF p n d r = u at *
  rw [Int.mul_comm u n] at er
  constructor
  · have : n * (-100 * powT d) < n * (u + 1) := by rw [Int.mul_add]; omega
    have := Int.lt_of_mul_lt_mul_left this (Int.le_of_lt hn)
    omega
  · have : n * u < n * (100 * powT d + 1) := by rw [Int.mul_add]; omega
    have := Int.lt_of_mul_lt_mul_left this (Int.le_of_lt hn)
    omega
end SD

namespace SD
open PySem DL

/-! ### ranges: what lies in them -/
theorem low_id' {a b : Int} (h : Int.gcd a b = 1) : lowN a b = a ∧ lowU a b = b := by
  have g : gcdI a b = 1 := by unfold gcdI; rw [h]; rfl
  unfold lowN lowU
  rw [g]
  exact ⟨Int.ediv_one _, Int.ediv_one _⟩
theorem low_self {a b : Int} (hb : 0 < b) : (lowN a b = a ∧ lowU a b = b) ↔ Int.gcd a b = 1 := by
  constructor
  · intro h
    have e := lowU_mul (a := a) hb
    rw [h.2] at e
    have e : b * gcdI a b = b * 1 := by rw [e, Int.mul_one]
    have := Int.eq_of_mul_eq_mul_left (by omega) e
    unfold gcdI at this
    omega
  · exact low_id'
/-- a number t/m against an end a/b -/
theorem cross_lt_l {p n a b : Int} (hb : 0 < b) : p * lowU a b < lowN a b * n ↔ p * b < a * n := by
  have g := gcdI_pos (a := a) hb
  have e1 := lowN_mul (a := a) hb
  have e2 := lowU_mul (a := a) hb
  have h1 : p * b = (p * lowU a b) * gcdI a b := by rw [Int.mul_assoc, e2]
  have h2 : a * n = (lowN a b * n) * gcdI a b := by rw [Int.mul_right_comm, e1]
  rw [h1, h2]
  exact ⟨fun h => Int.mul_lt_mul_of_pos_right h g, fun h => Int.lt_of_mul_lt_mul_right h (Int.le_of_lt g)⟩
theorem cross_lt_r {p n a b : Int} (hb : 0 < b) : lowN a b * n < p * lowU a b ↔ a * n < p * b := by
  have g := gcdI_pos (a := a) hb
  have e1 := lowN_mul (a := a) hb
  have e2 := lowU_mul (a := a) hb
  have h1 : p * b = (p * lowU a b) * gcdI a b := by rw [Int.mul_assoc, e2]
  have h2 : a * n = (lowN a b * n) * gcdI a b := by rw [Int.mul_right_comm, e1]
  rw [h1, h2]
  exact ⟨fun h => Int.mul_lt_mul_of_pos_right h g, fun h => Int.lt_of_mul_lt_mul_right h (Int.le_of_lt g)⟩
theorem cross_eq {p n a b : Int} (hn : 0 < n) (hg : Int.gcd p n = 1) (hb : 0 < b) : (p = lowN a b ∧ n = lowU a b) ↔ p * b = a * n := by
  have e1 := lowN_mul (a := a) hb
  have e2 := lowU_mul (a := a) hb
  constructor
  · rintro ⟨h1, h2⟩
    rw [← e2, ← h2]
    have : a * n = lowN a b * gcdI a b * n := by rw [e1]
    rw [this, ← h1, Int.mul_right_comm, Int.mul_assoc]
  · intro h
    have l := low_cross hn hb (a := p) (c := a) h
    have i := low_id' hg
    rw [i.1, i.2] at l
    exact l
/-- within, by the ends a/b and c/d -/
def withB (a b : Int) (i : Bool) (c d : Int) (j : Bool) (p n : Int) : Bool :=
  decide (¬ p * b < a * n ∧ ¬ c * n < p * d ∧ ¬ ((p = a ∧ n = b) ∧ i = false) ∧ ¬ ((p = c ∧ n = d) ∧ j = false))
/-- by numbers a/b, c/d not in lowest terms -/
def inB (a b : Int) (i : Bool) (c d : Int) (j : Bool) (p n : Int) : Bool :=
  decide ((a * n < p * b ∨ (p * b = a * n ∧ i = true)) ∧ (p * d < c * n ∨ (p * d = c * n ∧ j = true)))
theorem with_in {a b : Int} {i : Bool} {c d : Int} {j : Bool} {p n : Int} (hb : 0 < b) (hd : 0 < d) (hn : 0 < n) (hg : Int.gcd p n = 1) :
    withB (lowN a b) (lowU a b) i (lowN c d) (lowU c d) j p n = inB a b i c d j p n := by
  unfold withB inB
  refine decide_eq_decide.mpr ?_
  rw [cross_lt_l hb, cross_lt_r hd, cross_eq hn hg hb, cross_eq hn hg hd]
  cases i <;> cases j <;> simp <;> omega
/-- in lowest terms already -/
theorem with_in' {a b : Int} {i : Bool} {c d : Int} {j : Bool} {p n : Int} (hb : 0 < b) (ga : Int.gcd a b = 1) (hd : 0 < d) (gc : Int.gcd c d = 1) (hn : 0 < n) (hg : Int.gcd p n = 1) :
    withB a b i c d j p n = inB a b i c d j p n := by
  have h := with_in (a := a) (b := b) (i := i) (c := c) (d := d) (j := j) hb hd hn hg
  rw [(low_id' ga).1, (low_id' ga).2, (low_id' gc).1, (low_id' gc).2] at h
  exact h
/-- the law's own within -/
def lawW (a b : Int) (i : Bool) (c d : Int) (j : Bool) (p n : Int) : Bool :=
  if (p = a ∧ n = b) ∨ (p = c ∧ n = d) then (!decide (p = a ∧ n = b) || i) && (!decide (p = c ∧ n = d) || j)
  else decide (a * n < p * b) && decide (p * d < c * n)
theorem law_in {a b : Int} {i : Bool} {c d : Int} {j : Bool} {p n : Int} (hb : 0 < b) (hd : 0 < d) (hn : 0 < n) (hg : Int.gcd p n = 1) (hle : a * d ≤ c * b) :
    lawW (lowN a b) (lowU a b) i (lowN c d) (lowU c d) j p n = inB a b i c d j p n := by
  unfold lawW inB
  simp only [cross_lt_l hd, cross_lt_r hb, cross_eq hn hg hb, cross_eq hn hg hd]
  -- p b against a n, p d against c n: both scaled
  have k1 : p * b = a * n → p * d ≤ c * n := fun h => by
    have : p * d * b ≤ c * n * b := by
      rw [Int.mul_right_comm, h, Int.mul_right_comm a n d, Int.mul_right_comm c n b]
      exact Int.mul_le_mul_of_nonneg_right hle (Int.le_of_lt hn)
    exact Int.le_of_mul_le_mul_right this hb
  have k2 : p * d = c * n → a * n ≤ p * b := fun h => by
    have : a * n * d ≤ p * b * d := by
      rw [Int.mul_right_comm p b d, h, Int.mul_right_comm a n d, Int.mul_right_comm c n b]
      exact Int.mul_le_mul_of_nonneg_right hle (Int.le_of_lt hn)
    exact Int.le_of_mul_le_mul_right this hd
  rw [Bool.eq_iff_iff]
  by_cases h1 : p * b = a * n <;> by_cases h2 : p * d = c * n <;> cases i <;> cases j <;> simp [h1, h2] <;> first | omega | (have := k1 h1; omega) | (have := k2 h2; omega) | skip
/-! ### what is rounded to u, by its range -/
theorem span_units (u t m d : Int) (r : Ru) (hm : 0 < m) :
    inB (loN u r) (spK d r) (loI u r) (hiN u r) (spK d r) (hiI u r) t m = decide (unitsF t m d r = u) := by
  have hP := powT_pos d
  have hdm := Int.mul_ediv_add_emod (t * powT d) m
  have hre := Int.emod_lt_of_pos (t * powT d) hm
  have hre0 := Int.emod_nonneg (t * powT d) (show m ≠ 0 by omega)
  have e2 : t * (2 * powT d) = 2 * (t * powT d) := by rw [Int.mul_left_comm]
  unfold inB unitsF
  refine decide_eq_decide.mpr ?_
  generalize t * powT d / m = fl at *
  generalize t * powT d % m = re at *
  -- where u lies
  have c1 : u < fl → u * m ≤ m * fl - m := fun h => by
    have : u * m ≤ (fl - 1) * m := Int.mul_le_mul_of_nonneg_right (by omega) (Int.le_of_lt hm)
    rw [Int.sub_mul, Int.one_mul, Int.mul_comm fl m] at this
    exact this
  have c2 : u = fl → u * m = m * fl := fun h => by rw [h, Int.mul_comm]
  have c3 : u = fl + 1 → u * m = m * fl + m := fun h => by rw [h, Int.add_mul, Int.one_mul, Int.mul_comm]
  have c4 : fl + 1 < u → m * fl + 2 * m ≤ u * m := fun h => by
    have : (fl + 2) * m ≤ u * m := Int.mul_le_mul_of_nonneg_right (by omega) (Int.le_of_lt hm)
    rw [Int.add_mul, Int.mul_comm fl m] at this
    exact this
  have s1 : 0 ≤ fl → 0 ≤ m * fl := fun h => Int.mul_nonneg (Int.le_of_lt hm) h
  have s2 : fl ≤ -1 → m * fl ≤ -m := fun h => by
    have : m * fl ≤ m * (-1) := Int.mul_le_mul_of_nonneg_left h (Int.le_of_lt hm)
    omega
  have s3 : 1 ≤ fl → m ≤ m * fl := fun h => by
    have : m * 1 ≤ m * fl := Int.mul_le_mul_of_nonneg_left h (Int.le_of_lt hm)
    omega
  have a1 : (2 * u - 1) * m = 2 * (u * m) - m := by rw [Int.sub_mul, Int.mul_assoc, Int.one_mul]
  have a2 : (2 * u + 1) * m = 2 * (u * m) + m := by rw [Int.add_mul, Int.mul_assoc, Int.one_mul]
  have a3 : (u - 1) * m = u * m - m := by rw [Int.sub_mul, Int.one_mul]
  have a4 : (u + 1) * m = u * m + m := by rw [Int.add_mul, Int.one_mul]
  have hU : (u < fl ∧ u * m ≤ m * fl - m) ∨ (u = fl ∧ u * m = m * fl) ∨ (u = fl + 1 ∧ u * m = m * fl + m) ∨ (fl + 1 < u ∧ m * fl + 2 * m ≤ u * m) := by
    rcases (by omega : u < fl ∨ u = fl ∨ u = fl + 1 ∨ fl + 1 < u) with h | h | h | h
    · exact .inl ⟨h, c1 h⟩
    · exact .inr (.inl ⟨h, c2 h⟩)
    · exact .inr (.inr (.inl ⟨h, c3 h⟩))
    · exact .inr (.inr (.inr ⟨h, c4 h⟩))
  have hX : (fl ≤ -1 ∧ m * fl ≤ -m) ∨ (0 ≤ fl ∧ 0 ≤ m * fl) := by
    rcases (by omega : fl ≤ -1 ∨ 0 ≤ fl) with h | h
    · exact .inl ⟨h, s2 h⟩
    · exact .inr ⟨h, s1 h⟩
  have u0 : u = 0 → u * m = 0 := fun h => by rw [h, Int.zero_mul]
  clear c1 c2 c3 c4 s1 s2 s3
  cases r
  · simp only [loN, hiN, loI, hiI, spK, isDir, if_true, or_true, a4, and_true, Bool.false_eq_true, and_false, or_false]
    rcases hU with ⟨h1, h2⟩ | ⟨h1, h2⟩ | ⟨h1, h2⟩ | ⟨h1, h2⟩ <;> omega
  · simp only [loN, hiN, loI, hiI, spK, isDir, if_true, or_false, a3, and_true, Bool.false_eq_true, and_false, reduceCtorEq]
    rcases hU with ⟨h1, h2⟩ | ⟨h1, h2⟩ | ⟨h1, h2⟩ | ⟨h1, h2⟩ <;> split <;> omega
  · simp only [loN, hiN, loI, hiI, spK, isDir, if_true, or_false, and_true, reduceCtorEq, decide_eq_true_eq, if_false]
    by_cases p1 : 0 < u
    · have p2 : ¬ u < 0 := by omega
      rw [if_pos p1, if_pos p1, a4]
      rcases hU with ⟨h1, h2⟩ | ⟨h1, h2⟩ | ⟨h1, h2⟩ | ⟨h1, h2⟩ <;> rcases hX with ⟨h3, h4⟩ | ⟨h3, h4⟩ <;> (repeat' split) <;> omega
    · by_cases p2 : u < 0
      · rw [if_neg p1, if_neg p1, if_pos p2, if_pos p2, a3]
        rcases hU with ⟨h1, h2⟩ | ⟨h1, h2⟩ | ⟨h1, h2⟩ | ⟨h1, h2⟩ <;> rcases hX with ⟨h3, h4⟩ | ⟨h3, h4⟩ <;> (repeat' split) <;> omega
      · have u0' := u0 (by omega)
        rw [if_neg p1, if_neg p1, if_neg p2, if_neg p2, Int.neg_mul, Int.one_mul]
        rcases hU with ⟨h1, h2⟩ | ⟨h1, h2⟩ | ⟨h1, h2⟩ | ⟨h1, h2⟩ <;> rcases hX with ⟨h3, h4⟩ | ⟨h3, h4⟩ <;> (repeat' split) <;> omega
  all_goals
    simp only [loN, hiN, loI, hiI, spK, isDir, Bool.false_eq_true, if_false, or_false, and_true, reduceCtorEq, a1, a2, e2, and_false, if_true, decide_eq_true_eq]
    rcases hU with ⟨h1, h2⟩ | ⟨h1, h2⟩ | ⟨h1, h2⟩ | ⟨h1, h2⟩ <;> rcases hX with ⟨h3, h4⟩ | ⟨h3, h4⟩ <;> (repeat' split) <;> omega
end SD

namespace SD
open PySem DL

/-! ### whole numbers from a on, below b -/
def rngI (a b : Int) : List Int := (List.range (b - a).toNat).map fun (k : Nat) => a + (k : Int)
theorem rngI_len (a b : Int) : (rngI a b).length = (b - a).toNat := by simp [rngI]
theorem rngI_mem {a b t : Int} : t ∈ rngI a b ↔ a ≤ t ∧ t < b := by
  unfold rngI
  rw [List.mem_map]
  constructor
  · rintro ⟨k, hk, rfl⟩
    have := List.mem_range.mp hk
    omega
  · intro h
    exact ⟨(t - a).toNat, List.mem_range.mpr (by omega), by omega⟩
theorem rngI_nil {a b : Int} (h : b ≤ a) : rngI a b = [] := by
  unfold rngI
  rw [show (b - a).toNat = 0 by omega]
  rfl
theorem rngI_split {a b c : Int} (h1 : a ≤ b) (h2 : b ≤ c) : rngI a c = rngI a b ++ rngI b c := by
  unfold rngI
  rw [show (c - a).toNat = (b - a).toNat + (c - b).toNat by omega, List.range_add, List.map_append, List.map_map]
  congr 1
  refine List.map_congr_left fun k _ => ?_
  show a + (((b - a).toNat + k : Nat) : Int) = b + (k : Int)
  omega
theorem rngI_snoc (a : Int) (j : Nat) : rngI a (a + ((j + 1 : Nat) : Int)) = rngI a (a + (j : Int)) ++ [a + (j : Int)] := by
  unfold rngI
  rw [show (a + ((j + 1 : Nat) : Int) - a).toNat = j + 1 by omega, show (a + (j : Int) - a).toNat = j by omega, List.range_succ, List.map_append]
  rfl
theorem rngI_D (a : Int) (n : Nat) : rngD a n = (rngI a (a + (n : Int))).map PyData.int := by
  unfold rngD rngI
  rw [show (a + (n : Int) - a).toNat = n by omega, List.map_map]
  rfl
theorem filt_rng {f : Int → Bool} {a b A B : Int} (hA : A ≤ a) (hB : b ≤ B) (hf : ∀ t, f t = true → A ≤ t → t < B → a ≤ t ∧ t < b) : (rngI A B).filter f = (rngI a b).filter f := by
  rcases Int.lt_or_le b a with h | h
  · rw [rngI_nil (Int.le_of_lt h)]
    refine List.filter_eq_nil_iff.mpr fun t ht z => ?_
    have := rngI_mem.mp ht
    have := hf t z this.1 this.2
    omega
  · rw [rngI_split (a := A) (b := a) (c := B) hA (by omega), rngI_split (a := a) (b := b) (c := B) h hB, List.filter_append, List.filter_append]
    have e1 : (rngI A a).filter f = [] := List.filter_eq_nil_iff.mpr fun t ht z => by
      have := rngI_mem.mp ht
      have := hf t z (by omega) (by omega)
      omega
    have e2 : (rngI b B).filter f = [] := List.filter_eq_nil_iff.mpr fun t ht z => by
      have := rngI_mem.mp ht
      have := hf t z (by omega) (by omega)
      omega
    rw [e1, e2]
    simp
/-! ### floors of an end -/
/-- the end a/b times n, rounded down -/
def flN (a b n : Int) : Int := lowN a b * n / lowU a b
theorem fl_lo {a b n t : Int} (hb : 0 < b) (h : a * n ≤ t * b) : flN a b n ≤ t := by
  unfold flN
  have hu := lowU_pos (a := a) hb
  refine Int.ediv_le_of_le_mul hu ?_
  rcases Int.lt_or_le (t * lowU a b) (lowN a b * n) with z | z
  · have := (cross_lt_l hb).mp z
    omega
  · exact z
theorem fl_hi {a b n t : Int} (hb : 0 < b) (h : t * b ≤ a * n) : t ≤ flN a b n := by
  unfold flN
  have hu := lowU_pos (a := a) hb
  refine (Int.le_ediv_iff_mul_le hu).mpr ?_
  rcases Int.lt_or_le (lowN a b * n) (t * lowU a b) with z | z
  · have := (cross_lt_r hb).mp z
    omega
  · exact z
theorem fl_bound {a b n : Int} (hb : 0 < b) (hn : 0 ≤ n) (h1 : -300 * b ≤ a) (h2 : a ≤ 300 * b) : -300 * n ≤ flN a b n ∧ flN a b n ≤ 300 * n := by
  constructor
  · refine fl_hi hb ?_
    rw [Int.mul_right_comm]
    exact Int.mul_le_mul_of_nonneg_right h1 hn
  · refine fl_lo hb ?_
    rw [Int.mul_right_comm]
    exact Int.mul_le_mul_of_nonneg_right h2 hn
theorem ends_bound {u d : Int} {r : Ru} (h1 : -101 * powT d ≤ u) (h2 : u ≤ 101 * powT d) : -200 * spK d r ≤ loN u r ∧ hiN u r ≤ 200 * spK d r ∧ loN u r < hiN u r ∧ loN u r ≤ 300 * spK d r ∧ -300 * spK d r ≤ hiN u r := by
  have := powT_pos d
  cases r <;> simp only [loN, hiN, spK, isDir, if_true, Bool.false_eq_true, if_false]
  all_goals (repeat' split)
  all_goals omega
/-! ### fractions that read as a decimal -/
def rdB (u d : Int) (r : Ru) (n t : Int) : Bool := decide (Int.gcd t n = 1 ∧ (t.natAbs : Int) ≤ 100 * n ∧ unitsF t n d r = u)
def rowF (u d : Int) (r : Ru) (n : Int) : Int := flN (loN u r) (spK d r) n
def rowT (u d : Int) (r : Ru) (n : Int) : Int := flN (hiN u r) (spK d r) n + 2
def rowR (u d : Int) (r : Ru) (n : Int) : List Int := (rngI (rowF u d r n) (rowT u d r n)).filter (rdB u d r n)
def readL (u d : Int) (r : Ru) (m : Nat) : List (Int × Int) := (List.range m).flatMap fun (i : Nat) => (rowR u d r ((i : Int) + 1)).map fun t => (t, (i : Int) + 1)
def frP (x : Int × Int) : PyData := fr x.1 x.2
theorem readL_succ (u d : Int) (r : Ru) (m : Nat) : readL u d r (m + 1) = readL u d r m ++ (rowR u d r ((m : Int) + 1)).map fun t => (t, (m : Int) + 1) := by
  unfold readL
  rw [List.range_succ, List.flatMap_append]
  simp
theorem row_bound {u d n : Int} {r : Ru} (h1 : -101 * powT d ≤ u) (h2 : u ≤ 101 * powT d) (n0 : 0 ≤ n) : -300 * n ≤ rowF u d r n ∧ rowT u d r n ≤ 300 * n + 2 ∧ rowF u d r n ≤ 300 * n ∧ -300 * n + 2 ≤ rowT u d r n := by
  obtain ⟨a1, a2, a3, a4, a5⟩ := ends_bound (r := r) h1 h2
  have hK := spK_pos d r
  have b1 := fl_bound (a := loN u r) hK n0 (by omega) a4
  have b2 := fl_bound (a := hiN u r) hK n0 a5 (by omega)
  unfold rowF rowT
  omega
theorem row_in {u d n t : Int} {r : Ru} (n0 : 0 < n) (h : unitsF t n d r = u) : rowF u d r n ≤ t ∧ t < rowT u d r n - 1 := by
  have hK := spK_pos d r
  have s := span_units u t n d r n0
  rw [decide_eq_true h] at s
  have s := of_decide_eq_true s
  have a1 : rowF u d r n ≤ t := fl_lo hK (by omega)
  have a2 : t ≤ flN (hiN u r) (spK d r) n := fl_hi hK (by omega)
  unfold rowT
  omega
theorem row_len {u d n : Int} {r : Ru} (h1 : -101 * powT d ≤ u) (h2 : u ≤ 101 * powT d) (n0 : 0 ≤ n) (n1 : n ≤ 20) : (rowR u d r n).length ≤ 12002 := by
  have b := row_bound (r := r) h1 h2 n0
  unfold rowR
  refine Nat.le_trans (List.length_filter_le _ _) ?_
  rw [rngI_len]
  omega
theorem read_len {u d : Int} {r : Ru} (h1 : -101 * powT d ≤ u) (h2 : u ≤ 101 * powT d) : ∀ m : Nat, m ≤ 20 → (readL u d r m).length ≤ 12002 * m
  | 0, _ => by simp [readL]
  | m + 1, hm => by
    have ih := read_len (r := r) h1 h2 m (by omega)
    have l := row_len (r := r) (n := (m : Int) + 1) h1 h2 (by omega) (by omega)
    rw [readL_succ, List.length_append, List.length_map]
    omega
theorem read_mem {u d : Int} {r : Ru} {m : Nat} {x : Int × Int} : x ∈ readL u d r m ↔ 1 ≤ x.2 ∧ x.2 ≤ m ∧ rdB u d r x.2 x.1 = true := by
  unfold readL
  rw [List.mem_flatMap]
  constructor
  · rintro ⟨i, hi, hx⟩
    have hi := List.mem_range.mp hi
    obtain ⟨t, ht, rfl⟩ := List.mem_map.mp hx
    exact ⟨by show 1 ≤ (i : Int) + 1; omega, by show (i : Int) + 1 ≤ m; omega, (List.mem_filter.mp ht).2⟩
  · rintro ⟨h1, h2, h3⟩
    refine ⟨(x.2 - 1).toNat, List.mem_range.mpr (by omega), List.mem_map.mpr ⟨x.1, List.mem_filter.mpr ⟨rngI_mem.mpr ?_, ?_⟩, ?_⟩⟩
    · rw [show (((x.2 - 1).toNat : Nat) : Int) + 1 = x.2 by omega]
      have := row_in (u := u) (d := d) (r := r) (n := x.2) (t := x.1) (by omega) (of_decide_eq_true h3).2.2
      omega
    · rw [show (((x.2 - 1).toNat : Nat) : Int) + 1 = x.2 by omega]
      exact h3
    · rw [show (((x.2 - 1).toNat : Nat) : Int) + 1 = x.2 by omega]
/-! ### ranges as data -/
def anyB (v : PyData) : Bool := match v with
  | .tuple [.int p, .int q] => decide (0 < q ∧ Int.gcd p q = 1)
  | _ => false
theorem anyB_no {v : PyData} (h : ∀ p n : Int, v ≠ .tuple [.int p, .int n]) : anyB v = false := by
  unfold anyB
  split
  · exact absurd rfl (h _ _)
  · rfl
theorem anyB_inv {v : PyData} (h : anyB v = true) : ∃ p n : Int, v = fr p n ∧ 0 < n ∧ Int.gcd p n = 1 := by
  unfold anyB at h
  split at h
  · exact ⟨_, _, rfl, of_decide_eq_true h⟩
  · cases h
def spanB (v : PyData) : Bool := match v with
  | .tuple [.tuple [.int a, .int b], .bool i, .tuple [.int c, .int d], .bool j] => decide ((0 < b ∧ Int.gcd a b = 1) ∧ (0 < d ∧ Int.gcd c d = 1) ∧ (a * d < c * b ∨ ((a = c ∧ b = d) ∧ i = true ∧ j = true)))
  | _ => false
theorem spanB_inv {v : PyData} (h : spanB v = true) : ∃ (a b : Int) (i : Bool) (c d : Int) (j : Bool), v = spanT a b i c d j ∧ (0 < b ∧ Int.gcd a b = 1) ∧ (0 < d ∧ Int.gcd c d = 1) ∧ (a * d < c * b ∨ ((a = c ∧ b = d) ∧ i = true ∧ j = true)) := by
  unfold spanB at h
  split at h
  · exact ⟨_, _, _, _, _, _, rfl, of_decide_eq_true h⟩
  · cases h
theorem spanB_e (a b : Int) (i : Bool) (c d : Int) (j : Bool) : spanB (spanT a b i c d j) = decide ((0 < b ∧ Int.gcd a b = 1) ∧ (0 < d ∧ Int.gcd c d = 1) ∧ (a * d < c * b ∨ ((a = c ∧ b = d) ∧ i = true ∧ j = true))) := rfl
def rangeB (v : PyData) : Bool := match v with
  | .tuple [.tuple [.int a, .int b], .bool i, .tuple [.int c, .int d], .bool j] => spanB (spanT a b i c d j) && (decide (-200 * b ≤ a) && decide (c ≤ 200 * d))
  | _ => false
theorem rangeB_inv {v : PyData} (h : rangeB v = true) : ∃ (a b : Int) (i : Bool) (c d : Int) (j : Bool), v = spanT a b i c d j ∧ (0 < b ∧ Int.gcd a b = 1) ∧ (0 < d ∧ Int.gcd c d = 1) ∧ (a * d < c * b ∨ ((a = c ∧ b = d) ∧ i = true ∧ j = true)) ∧ -200 * b ≤ a ∧ c ≤ 200 * d := by
  unfold rangeB at h
  split at h
  · rw [Bool.and_eq_true, Bool.and_eq_true, spanB_e] at h
    obtain ⟨h1, h2, h3⟩ := h
    obtain ⟨h1, h4, h5⟩ := of_decide_eq_true h1
    exact ⟨_, _, _, _, _, _, rfl, h1, h4, h5, of_decide_eq_true h2, of_decide_eq_true h3⟩
  · cases h
/-- its denominators are small enough for the machine -/
def smV (v : PyData) : Prop := ∀ (a b c d : Int) (i j : PyData), v = .tuple [.tuple [.int a, .int b], i, .tuple [.int c, .int d], j] → b < 2 ^ 60 ∧ d < 2 ^ 60
theorem smV_span {a b : Int} {i : Bool} {c d : Int} {j : Bool} (h1 : b < 2 ^ 60) (h2 : d < 2 ^ 60) : smV (spanT a b i c d j) := fun a' b' c' d' i' j' e => by
  simp [spanT] at e
  obtain ⟨⟨_, e1⟩, _, ⟨_, e2⟩, _⟩ := e
  omega
theorem span_range {u d : Int} {r : Ru} (h1 : -101 * powT d ≤ u) (h2 : u ≤ 101 * powT d) : rangeB (spanF u d r) = true := by
  obtain ⟨a1, a2, a3, a4, a5⟩ := ends_bound (r := r) h1 h2
  have hK := spK_pos d r
  have u1 := lowU_pos (a := loN u r) hK
  have u2 := lowU_pos (a := hiN u r) hK
  have g1 := gcdI_pos (a := loN u r) hK
  have g2 := gcdI_pos (a := hiN u r) hK
  have e1 := lowN_mul (a := loN u r) hK
  have e2 := lowU_mul (a := loN u r) hK
  have e3 := lowN_mul (a := hiN u r) hK
  have e4 := lowU_mul (a := hiN u r) hK
  show (spanB (spanT _ _ _ _ _ _) && _) = true
  rw [Bool.and_eq_true, Bool.and_eq_true, spanB_e]
  refine ⟨decide_eq_true ⟨⟨u1, low_coprime hK⟩, ⟨u2, low_coprime hK⟩, .inl ?_⟩, decide_eq_true ?_, decide_eq_true ?_⟩
  · rw [Int.mul_comm (lowN (hiN u r) (spK d r)), Int.mul_comm (lowN (loN u r) (spK d r))]
    have k := (cross_lt_r (p := lowN (hiN u r) (spK d r)) (n := lowU (hiN u r) (spK d r)) (a := loN u r) hK).mpr ?_
    · rw [Int.mul_comm (lowU (hiN u r) (spK d r)), Int.mul_comm (lowU (loN u r) (spK d r))]
      exact k
    · have : lowN (hiN u r) (spK d r) * spK d r = hiN u r * lowU (hiN u r) (spK d r) := by
        have x1 : lowN (hiN u r) (spK d r) * spK d r = lowN (hiN u r) (spK d r) * (lowU (hiN u r) (spK d r) * gcdI (hiN u r) (spK d r)) := by rw [e4]
        have x2 : hiN u r * lowU (hiN u r) (spK d r) = lowN (hiN u r) (spK d r) * gcdI (hiN u r) (spK d r) * lowU (hiN u r) (spK d r) := by rw [e3]
        rw [x1, x2, Int.mul_assoc, Int.mul_comm (gcdI _ _)]
      rw [this]
      exact Int.mul_lt_mul_of_pos_right a3 u2
  · refine Int.le_of_mul_le_mul_right (a := gcdI (loN u r) (spK d r)) ?_ g1
    rw [Int.mul_assoc, e1, e2]
    exact a1
  · refine Int.le_of_mul_le_mul_right (a := gcdI (hiN u r) (spK d r)) ?_ g2
    rw [Int.mul_assoc, e3, e4]
    exact a2
theorem span_small {u d : Int} {r : Ru} (h : d ≤ 6) : lowU (loN u r) (spK d r) ≤ 2000000 ∧ lowU (hiN u r) (spK d r) ≤ 2000000 ∧ 0 < lowU (loN u r) (spK d r) ∧ 0 < lowU (hiN u r) (spK d r) := by
  have hK := spK_pos d r
  have hk := spK_le r h
  have a1 := lowU_le (a := loN u r) hK
  have a2 := lowU_le (a := hiN u r) hK
  have u1 := lowU_pos (a := loN u r) hK
  have u2 := lowU_pos (a := hiN u r) hK
  omega
/-- within a range of a decimal: by rounding -/
theorem with_units {u d t m : Int} {r : Ru} (hm : 0 < m) (hg : Int.gcd t m = 1) : withB (lowN (loN u r) (spK d r)) (lowU (loN u r) (spK d r)) (loI u r) (lowN (hiN u r) (spK d r)) (lowU (hiN u r) (spK d r)) (hiI u r) t m = decide (unitsF t m d r = u) := by
  have hK := spK_pos d r
  rw [with_in hK hK hm hg, span_units u t m d r hm]
/-! ### lists of fractions as data -/
theorem canLay_frs (ms : List (Int × Int)) : PyData.canLayAll0 (ms.map frP) = true := by
  induction ms with
  | nil => simp [PyData.canLayAll0]
  | cons m ms ih => simp [PyData.canLayAll0, PyData.canLay0, ih, frP]
theorem depth_frs (ms : List (Int × Int)) : PyData.depthAll (ms.map frP) ≤ 1 := by
  induction ms with
  | nil => simp [PyData.depthAll]
  | cons m ms ih => simp [PyData.depthAll, PyData.depth, frP]; omega
theorem shaped_frs (ms : List (Int × Int)) : SeqAt.shaped (.list (ms.map frP)) = true := by
  have := depth_frs ms
  simp [SeqAt.shaped, PyData.canLay0, PyData.depth, canLay_frs]
  omega
theorem eqv_frs : ∀ (xs ys : List (Int × Int)), PyData.eqvAll (xs.map frP) (ys.map frP) = decide (xs = ys)
  | [], [] => by simp [PyData.eqvAll]
  | [], y :: ys => by simp [PyData.eqvAll]
  | x :: xs, [] => by simp [PyData.eqvAll]
  | x :: xs, y :: ys => by
    simp only [List.map_cons, PyData.eqvAll, eqv_frs xs ys, frP, eqv_fr]
    rw [Bool.eq_iff_iff]
    simp [Prod.ext_iff]
theorem eqD_frs (xs ys : List (Int × Int)) : eqD (.list (xs.map frP)) (.list (ys.map frP)) = some (decide (xs = ys)) := by
  unfold eqD
  rw [if_pos ⟨shaped_frs xs, shaped_frs ys⟩]
  simp only [PyData.eqv]
  rw [eqv_frs]
theorem neD_frs (xs ys : List (Int × Int)) : neD (.list (xs.map frP)) (.list (ys.map frP)) = some (!decide (xs = ys)) := by
  unfold neD
  rw [if_pos ⟨shaped_frs xs, shaped_frs ys⟩]
  simp only [PyData.eqv]
  rw [eqv_frs]
theorem in_frs (x : Int × Int) (L : List (Int × Int)) : inLd (frP x) (.list (L.map frP)) = some (decide (x ∈ L)) := by
  show (if _ then _ else _) = _
  rw [if_pos ⟨shaped_fr _ _, shaped_frs L⟩, List.any_map]
  congr 1
  rw [Bool.eq_iff_iff, List.any_eq_true, decide_eq_true_iff]
  constructor
  · rintro ⟨y, hy, e⟩
    have : y = x := by
      have e : PyData.eqv (fr y.1 y.2) (fr x.1 x.2) = true := e
      rw [eqv_fr] at e
      have := of_decide_eq_true e
      exact Prod.ext this.1 this.2
    rwa [← this]
  · intro h
    refine ⟨x, h, ?_⟩
    show PyData.eqv (fr x.1 x.2) (fr x.1 x.2) = true
    rw [eqv_fr]
    exact decide_eq_true ⟨rfl, rfl⟩
/-- an end of a range, and numbers beside it -/
theorem near_any {u d x y f : Int} {r : Ru} (hf : 0 < f) :
    decide (unitsF (lowN x (spK d r) * f + y * lowU x (spK d r)) (lowU x (spK d r) * f) d r = u) = decide ((loN u r * f < x * f + y * spK d r ∨ (x * f + y * spK d r = loN u r * f ∧ loI u r = true)) ∧ (x * f + y * spK d r < hiN u r * f ∨ (x * f + y * spK d r = hiN u r * f ∧ hiI u r = true))) := by
  have hK := spK_pos d r
  have hU := lowU_pos (a := x) hK
  have e1 := lowN_mul (a := x) hK
  have e2 := lowU_mul (a := x) hK
  rw [← span_units u _ _ d r (Int.mul_pos hU hf)]
  unfold inB
  refine decide_eq_decide.mpr ?_
  have ax : lowN x (spK d r) * spK d r = x * lowU x (spK d r) := by
    have x1 : lowN x (spK d r) * spK d r = lowN x (spK d r) * (lowU x (spK d r) * gcdI x (spK d r)) := by rw [e2]
    have x2 : x * lowU x (spK d r) = lowN x (spK d r) * gcdI x (spK d r) * lowU x (spK d r) := by rw [e1]
    rw [x1, x2, Int.mul_assoc, Int.mul_comm (gcdI _ _)]
  have t1 : (lowN x (spK d r) * f + y * lowU x (spK d r)) * spK d r = lowU x (spK d r) * (x * f + y * spK d r) := by
    rw [Int.add_mul, Int.mul_right_comm, ax, Int.mul_add, Int.mul_comm x, Int.mul_assoc, Int.mul_comm y, Int.mul_assoc]
  have t2 : ∀ z, z * (lowU x (spK d r) * f) = lowU x (spK d r) * (z * f) := fun z => Int.mul_left_comm ..
  rw [t1, t2, t2]
  have lt : ∀ a b : Int, lowU x (spK d r) * a < lowU x (spK d r) * b ↔ a < b := fun a b => ⟨fun h => Int.lt_of_mul_lt_mul_left h (Int.le_of_lt hU), fun h => Int.mul_lt_mul_of_pos_left h hU⟩
  have eq : ∀ a b : Int, lowU x (spK d r) * a = lowU x (spK d r) * b ↔ a = b := fun a b => ⟨fun h => Int.eq_of_mul_eq_mul_left (by omega) h, fun h => by rw [h]⟩
  rw [lt, lt, eq, eq]
end SD

namespace DL
open PySem PySem.Spec PyProof.Rows L2

/-- a comprehension over laid-out things, by what it keeps and makes of each -/
theorem lcW_of {α : Type} {g : DG} {tt : DT} {de : DE} {lb : Sl} (mk : α → PyData) (b : α → Bool) (f : α → PyData) : ∀ (ys : List α) (acc : List PyData) (k : List PyData → Prop),
    (∀ y, y ∈ ys → ∀ (K1 : PyData → Prop) (K0 : Prop), (b y = true → K1 (f y)) → (b y = false → K0) → g (mk y) lb fun l2 => tt l2 (fun c l3 => l3 = l2 ∧ if c = true then de l2 (fun z l4 => l4 = l2 ∧ K1 z) (fun _ _ => False) else K0) (fun _ _ => False)) →
    acc.length + ys.length < sizeLine → k (acc ++ (ys.filter b).map f) → lcW g tt de lb (ys.map mk) acc k
  | [], acc, k, _, _, h => by simpa [lcW] using h
  | y :: ys, acc, k, hs, hl, h => by
    rw [List.map_cons]
    unfold lcW
    rw [List.length_cons] at hl
    refine hs y (List.mem_cons_self ..) (fun z => acc.length < sizeLine ∧ lcW g tt de lb (ys.map mk) (acc ++ [z]) k) _ (fun hb => ⟨by omega, ?_⟩) (fun hb => ?_)
    · refine lcW_of mk b f ys _ k (fun y' hy' => hs y' (List.mem_cons_of_mem _ hy')) (by rw [List.length_append, List.length_singleton]; omega) ?_
      rw [List.filter_cons_of_pos hb] at h
      simpa using h
    · refine lcW_of mk b f ys _ k (fun y' hy' => hs y' (List.mem_cons_of_mem _ hy')) (by omega) ?_
      rw [List.filter_cons_of_neg (by rw [hb]; exact Bool.false_ne_true)] at h
      exact h
theorem rngD_eq (lo : Int) (n : Nat) : rngD lo n = (List.range n).map fun (k : Nat) => PyData.int (lo + k) := rfl

/-! x, y = (e, []) and x, y = ([], []) -/
def dParEN (i j : Nat) (d : DE) : DS := fun E l => d l (fun x l' => ∀ p, E.nx ((l'.set i (some (.val x))).set j (some (.own p [])))) E.rs
def dParNN (i j : Nat) : DS := fun E l => ∀ p q, p ≠ q → E.nx ((l.set i (some (.own p []))).set j (some (.own q [])))
section
variable {X : Cx} {ca : Er → Addr} {W : WX} {a b e : Expr} {ua : TE} {da : DE} {st : Stmt} {p1 p2 : Pos}
theorem pds_parEN {i j : Nat} (h : PD X ca W a ua da) (hp : PA X [a, .List [] p2] (tCons ua (tCons (tLst tNil) tNil)) → PS X st (tPar i j (tCons ua (tCons (tLst tNil) tNil))))
    (h1 : starEach [a, .List [] p2] X.env = (false, eval a X.env) :: starEach [.List [] p2] X.env := by rfl) (h2 : starEach [.List [] p2] X.env = (false, eval (.List [] p2) X.env) :: starEach [] X.env := by rfl) :
    PDS X ca W st (tPar i j (tCons ua (tCons (tLst tNil) tNil))) (dParEN i j da) :=
  ⟨hp (pa_cons h.pe (pa_cons (pe_lst pa_nil) pa_nil h2) h1), fun G D E σ H Hf l R m z => h.es G σ H Hf l _ _ E.rs R (fun x l' v H' Hf' q R' s dv =>
    ⟨Nat.zero_le _, fun p hp => ⟨_, _, rfl, m.nx _ _ _ _ (q p) ((R'.put i dv).putOwn j hp .nil) s⟩⟩) (m.kr σ) z⟩
theorem pds_parNN {i j : Nat} (hp : PA X [.List [] p1, .List [] p2] (tCons (tLst tNil) (tCons (tLst tNil) tNil)) → PS X st (tPar i j (tCons (tLst tNil) (tCons (tLst tNil) tNil))))
    (h1 : starEach [.List [] p1, .List [] p2] X.env = (false, eval (.List [] p1) X.env) :: starEach [.List [] p2] X.env := by rfl) (h2 : starEach [.List [] p2] X.env = (false, eval (.List [] p2) X.env) :: starEach [] X.env := by rfl) :
    PDS X ca W st (tPar i j (tCons (tLst tNil) (tCons (tLst tNil) tNil))) (dParNN i j) :=
  ⟨hp (pa_cons (pe_lst pa_nil) (pa_cons (pe_lst pa_nil) pa_nil h2) h1), fun G D E σ H Hf l R m z =>
    ⟨Nat.zero_le _, fun p hp => ⟨Nat.zero_le _, fun q hq => by
      have ne : p ≠ q := fun e => by
        subst e
        rw [upd_same] at hq
        cases hq
      have R1 := R.putOwn i hp (.nil : DvAll X.K Hf [] [])
      exact ⟨_, _, rfl, m.nx _ _ _ _ (z p q ne) (R1.putOwn j hq .nil) (Same.refl _)⟩⟩⟩⟩
end
end DL

namespace DL
open PySem PySem.Spec PyProof.Rows L2

/-! ### min, max, all of a list -/
def minD : List PyData → Option PyData
  | [.list xs] => (intsOf xs).bind fun ns => ns.min?.map PyData.int
  | _ => none
def maxLD : List PyData → Option PyData
  | [.list xs] => (intsOf xs).bind fun ns => ns.max?.map PyData.int
  | _ => none
def boolsOf : List PyData → Option (List Bool)
  | [] => some []
  | .bool x :: r => (boolsOf r).map (x :: ·)
  | _ => none
def allD : List PyData → Option PyData
  | [.list xs] => (boolsOf xs).map fun bs => .bool (bs.all id)
  | _ => none
theorem boolsOf_map (bs : List Bool) : boolsOf (bs.map PyData.bool) = some bs := by
  induction bs with
  | nil => rfl
  | cons b bs ih => simp [boolsOf, ih]
theorem boolsOf_vals {K : PySem.W.Frag} {H : Hp} : ∀ {xs : List PyData} {bs : List Bool} {vs : List V}, boolsOf xs = some bs → DvAll K H vs xs → vs = bs.map V.bl
  | [], bs, vs, e, q => by
    cases e
    rw [q.nil_inv]
    rfl
  | x :: xs, bs, vs, e, q => by
    obtain ⟨v, r, rfl, h1, h2⟩ := q.cons_inv
    cases x with
    | bool b =>
      cases e2 : boolsOf xs with
      | none => simp [boolsOf, e2] at e
      | some cs =>
        simp [boolsOf, e2] at e
        subst e
        obtain rfl := h1.bl_inv
        rw [boolsOf_vals e2 h2]
        rfl
    | _ => simp [boolsOf] at e
section
variable {K : PySem.W.Frag}
theorem cd_all : CaD K (rAll K) allD := fun xs ds z H Hf Q s h e k => by
  unfold allD at e
  split at e
  · rename_i xs'
    cases e2 : boolsOf xs' with
    | none => rw [e2] at e; cases e
    | some ns =>
      rw [e2] at e
      cases e
      obtain ⟨v, rfl, hv⟩ := dv1 h
      obtain ⟨p, vs, rfl, h1, h2⟩ := hv.list_inv
      refine ⟨p, ns, rfl, .inl (.inl ?_), k _ H Hf (Frm.refl s) (.bl _)⟩
      rw [← boolsOf_vals e2 h2]
      exact s _ _ h1
  · cases e
theorem cd_min : CaD K (rMin K) minD := fun xs ds z H Hf Q s h e k => by
  unfold minD at e
  split at e
  · rename_i xs'
    cases e2 : intsOf xs' with
    | none => rw [e2] at e; cases e
    | some ns =>
      rw [e2] at e
      obtain ⟨m, em, ez⟩ : ∃ m, ns.min? = some m ∧ z = .int m := by
        cases e3 : ns.min? with
        | none => simp [e3] at e
        | some m => simp [e3] at e; exact ⟨m, rfl, e.symm⟩
      subst ez
      obtain ⟨v, rfl, hv⟩ := dv1 h
      obtain ⟨p, vs, rfl, h1, h2⟩ := hv.list_inv
      have hm := List.min?_eq_some_iff.mp em
      refine ⟨p, ns, rfl, .inl (.inl ?_), List.length_pos_of_mem hm.1, fun m' h3 h4 => ?_⟩
      · rw [← intsOf_vals e2 h2]
        exact s _ _ h1
      · have : m' = m := Int.le_antisymm (h4 m hm.1) (hm.2 m' h3)
        subst this
        exact k _ H Hf (Frm.refl s) (.int _)
  · cases e
theorem cd_maxL : CaD K (rMax K) maxLD := fun xs ds z H Hf Q s h e k => by
  unfold maxLD at e
  split at e
  · rename_i xs'
    cases e2 : intsOf xs' with
    | none => rw [e2] at e; cases e
    | some ns =>
      rw [e2] at e
      obtain ⟨m, em, ez⟩ : ∃ m, ns.max? = some m ∧ z = .int m := by
        cases e3 : ns.max? with
        | none => simp [e3] at e
        | some m => simp [e3] at e; exact ⟨m, rfl, e.symm⟩
      subst ez
      obtain ⟨v, rfl, hv⟩ := dv1 h
      obtain ⟨p, vs, rfl, h1, h2⟩ := hv.list_inv
      have hm := List.max?_eq_some_iff.mp em
      refine ⟨p, ns, rfl, .inl (.inl ?_), List.length_pos_of_mem hm.1, fun m' h3 h4 => ?_⟩
      · rw [← intsOf_vals e2 h2]
        exact s _ _ h1
      · have : m' = m := Int.le_antisymm (hm.2 m' h3) (h4 m hm.1)
        subst this
        exact k _ H Hf (Frm.refl s) (.int _)
  · cases e
end
/-- an if, its suites as letters -/
theorem ifs_mk {c : DT} {t u : DS} {E : DEnd} {l : Sl} (h : ∀ kt ku : Sl → Prop, (∀ l', t E l' → kt l') → (∀ l', u E l' → ku l') → c l (fun b l' => if b = true then kt l' else ku l') E.rs) : dIfS c t u E l := h _ _ (fun _ z => z) fun _ z => z
/-! ### slices -/
theorem cut_from {xs : List PyData} {a : Int} (h0 : 0 ≤ a) (h : a.toNat ≤ xs.length) : DL.cutD xs (some a) none = xs.drop a.toNat := by
  have e1 : HT.sIx xs.length 0 (some a) = a.toNat := by
    show (if a < 0 then _ else _) = _
    rw [if_neg (by omega)]
    omega
  unfold DL.cutD
  rw [e1]
  show List.take (xs.length - a.toNat) _ = _
  rw [List.take_of_length_le (by rw [List.length_drop]; exact Nat.le_refl _)]
theorem cut_to {xs : List PyData} {a : Int} (h0 : 0 ≤ a) (h : a.toNat ≤ xs.length) : DL.cutD xs none (some a) = xs.take a.toNat := by
  have e1 : HT.sIx xs.length xs.length (some a) = a.toNat := by
    show (if a < 0 then _ else _) = _
    rw [if_neg (by omega)]
    omega
  unfold DL.cutD
  rw [e1]
  show List.take (a.toNat - 0) (List.drop 0 xs) = _
  simp
theorem cut_mid {xs : List PyData} {a b : Int} (h0 : 0 ≤ a) (hb : a ≤ b) (h : b.toNat ≤ xs.length) : DL.cutD xs (some a) (some b) = (xs.drop a.toNat).take (b.toNat - a.toNat) := by
  have e1 : HT.sIx xs.length 0 (some a) = a.toNat := by
    show (if a < 0 then _ else _) = _
    rw [if_neg (by omega)]
    omega
  have e2 : HT.sIx xs.length xs.length (some b) = b.toNat := by
    show (if b < 0 then _ else _) = _
    rw [if_neg (by omega)]
    omega
  unfold DL.cutD
  rw [e1, e2]
theorem mul_small {a b : Int} (h0 : 0 ≤ a) (h1 : a ≤ 100000) : mulOk a b = true := mulOk_l (by omega) (by omega)
end DL

namespace DL
open PySem PySem.Spec PyProof.Rows L2

/-! ### a list times a whole number -/
def mulLD : PyData → PyData → Option PyData
  | .list xs, .int k => if -(2 ^ 63) ≤ k ∧ k < 2 ^ 63 ∧ xs.length * k.toNat ≤ sizeLine then some (.list (List.replicate k.toNat xs).flatten) else none
  | _, _ => none
theorem DvAll.rep {K : PySem.W.Frag} {H : Hp} {vs : List V} {ds : List PyData} (q : DvAll K H vs ds) : ∀ n, DvAll K H (List.replicate n vs).flatten (List.replicate n ds).flatten
  | 0 => .nil
  | n + 1 => by
    rw [List.replicate_succ, List.replicate_succ, List.flatten_cons, List.flatten_cons]
    exact q.append (DvAll.rep q n)
theorem od_repL {K : PySem.W.Frag} : OpD K rRep mulLD := by
  intro x y dx dy z H Hf Q s hx hy e k
  unfold mulLD at e
  split at e
  · rename_i ws n
    split at e
    · rename_i hl
      cases e
      obtain ⟨p, vs, rfl, h1, h2⟩ := hx.list_inv
      obtain rfl := hy.int_inv
      refine ⟨p, _, vs, rfl, rfl, s _ _ h1, hl.1, hl.2.1, by rw [h2.1]; exact hl.2.2, fun a ha => ?_⟩
      have F : Frm [] H Hf (upd H a (.lst (List.replicate n.toNat vs).flatten)) (upd Hf a (.lst (List.replicate n.toNat vs).flatten)) := Frm.new s ha
      exact k _ _ _ F (.lst' upd_same ((h2.rep _).mono (F.sameF s)))
    · cases e
  · cases e
theorem mulLD_e (xs : List PyData) (n : Int) (q : PyData → Prop) : (∃ z, mulLD (.list xs) (.int n) = some z ∧ q z) ↔ (-(2 ^ 63) ≤ n ∧ n < 2 ^ 63 ∧ xs.length * n.toNat ≤ sizeLine) ∧ q (.list (List.replicate n.toNat xs).flatten) := ex_if _ q

/-! ### zip -/
def zipD (xs ys : List PyData) : List PyData := List.zipWith (fun a b => PyData.tuple [a, b]) xs ys
def dZip (d : DA) : DI := fun l Q R => d l (fun xs l' => ∃ as bs, xs = [.list as, .list bs] ∧ Q (zipD as bs) l') R
theorem wk_zip {K : PySem.W.Frag} {Hf : Hp} {a b : Addr} {vs ws : List V} {ds es : List PyData} (h1 : Hf a = some (.lst vs)) (q1 : DvAll K Hf vs ds) (h2 : Hf b = some (.lst ws)) (q2 : DvAll K Hf ws es) : Wk K (Itz K a b) Hf (zipD ds es) := by
  have hl : (zipD ds es).length = min vs.length ws.length := by
    unfold zipD
    rw [List.length_zipWith, q1.1, q2.1]
  refine ⟨fun i H s hi => ?_, fun i H s hi => ?_, fun i H Hf1 v H' d s s' hd y => ?_⟩
  · rw [hl] at hi
    exact ⟨vs, ws, vs[i]'(by omega), ws[i]'(by omega), .inl (.inl (s _ _ h1)), .inl (.inl (s _ _ h2)), List.getElem?_eq_getElem _, List.getElem?_eq_getElem _⟩
  · rw [hl] at hi
    exact ⟨vs, ws, .inl (.inl (s _ _ h1)), .inl (.inl (s _ _ h2)), by omega⟩
  · obtain ⟨T, x, y, rfl, hT, rfl, k1, k2⟩ := y
    have y1 := k1 vs (.inl (.inl (s' _ _ (s _ _ h1))))
    have y2 := k2 ws (.inl (.inl (s' _ _ (s _ _ h2))))
    unfold zipD at hd
    rw [List.getElem?_zipWith] at hd
    cases e1 : ds[i]? with
    | none => simp [e1] at hd
    | some d1 =>
      cases e2 : es[i]? with
      | none => simp [e1, e2] at hd
      | some d2 =>
        simp [e1, e2] at hd
        subst hd
        have F : Frm [] H Hf1 (upd H T (.tup [x, y])) (upd Hf1 T (.tup [x, y])) := Frm.new s' hT
        have m1 := ((q1.2 i x d1 y1 e1).mono s).mono (F.sameF s')
        have m2 := ((q2.2 i y d2 y2 e2).mono s).mono (F.sameF s')
        exact ⟨_, F, .tup' (.inl (.inl upd_same)) (.cons m1 (.cons m2 .nil))⟩
section
variable {X : Cx} {ca : Er → Addr} {W : WX} {e e2 o : Expr} {u : TA} {d : DA} {p pos tpos : Pos} {elts : List Expr} {kk : Nat}
theorem pdi_zip {K : PySem.W.Frag} (hg : Gl X "zip") (hm : X.mg "zip" = none) (ha : PDA X ca W [e, e2] u d)
    (hs : starEach [e, e2] X.env = (false, eval e X.env) :: starEach [e2] X.env := by rfl) (hpl : (backTo pos (starEach [e2] X.env)).any (·.1) = false := by rfl) (hK : X.K = K := by rfl) :
    PDI X ca W (.Tuple elts kk tpos) (.Call (.Name "zip" p) [e, e2] [] pos) (iZip K u) (dZip d) := by
  subst hK
  refine ⟨pi_zip hg hm ha.pe hs hpl, fun G σ H Hf l R q r Rp k kr z => ha.es G σ H Hf l _ _ r Rp (fun xs l' vs H' Hf' z' hn R' s dv => ?_) kr z⟩
  obtain ⟨as, bs, rfl, z'⟩ := z'
  obtain ⟨v1, v2, rfl, d1, d2⟩ := dv2 dv
  obtain ⟨a, ws, rfl, h1, h2⟩ := d1.list_inv
  obtain ⟨b, us, rfl, h3, h4⟩ := d2.list_inv
  exact ⟨a, b, ws, us, rfl, .inl (.inl (R'.sub _ _ h1)), .inl (.inl (R'.sub _ _ h3)), k _ _ _ _ _ z' R' s (wk_zip h1 h2 h3 h4)⟩
/-! ### l.index(x), whole numbers -/
def idxD : PyData → PyData → Option PyData
  | .list xs, .int y => (intsOf xs).bind fun ns => (ns.findIdx? (· == y)).map fun j => .int (j : Int)
  | _, _ => none
def dIdx (a b : DE) : DE := fun l Q R => a l (fun x l1 => ∃ ds, x = .list ds ∧ b l1 (fun y l2 => ∃ z, idxD x y = some z ∧ Q z l2) R) R
theorem pd_idx {K : PySem.W.Frag} {ua ub : TE} {da db : DE} {apos cpos : Pos} (ho : PD X ca W o ua da) (ha : PD X ca W e ub db) (hbase : attributeBase o "index" X.env (eval o X.env) = eval o X.env := by rfl)
    (hst : starEach [e] X.env = (false, eval e X.env) :: starEach [] X.env := by rfl)
    (hfew : ((backTo cpos (starEach (e :: []) X.env)).all (fun x => !x.1) && (backToKw cpos (keywordEach [] X.env)).all (fun x => x.1.isSome)
      && decide ((e :: []).length + ([] : List Keyword).length + (if ([] : List Keyword).isEmpty then 0 else 1) < 30)) = true := by rfl) (hline : (apos.endLine == cpos.line) = true := by rfl) (hK : X.K = K := by rfl) :
    PD X ca W (.Call (.Attribute o "index" apos) [e] [] cpos) (tBM K "list" (rIndex K) ua (tCons ub tNil)) (dIdx da db) := by
  subst hK
  refine ⟨pe_bm PySem.F.plainAttrs_list PySem.F.slot_list_index PySem.F.type_list_index mt_index ho.pe (pa_cons ha.pe pa_nil hst) hbase hfew hline hst rfl, fun G σ H Hf l Q q r R k kr z => ?_⟩
  refine ho.es G σ H Hf l _ _ r R (fun x l1 v H1 Hf1 z1 R1 s1 d1 => ?_) kr z
  obtain ⟨ds, rfl, z1⟩ := z1
  obtain ⟨a, vs, rfl, h1, h2⟩ := d1.list_inv
  refine ⟨.inl ⟨rfl, _, .inl (.inl (R1.sub _ _ h1))⟩, ha.es G σ H1 Hf1 l1 _ _ r R1 (fun y l2 w H2 Hf2 z2 R2 s2 d2 => ?_) kr z1⟩
  obtain ⟨z3, e3, z2⟩ := z2
  cases y with
  | int y =>
    obtain rfl := d2.int_inv
    cases e4 : intsOf ds with
    | none => simp [idxD, e4] at e3
    | some ns =>
      cases e5 : ns.findIdx? (· == y) with
      | none => simp [idxD, e4, e5] at e3
      | some j =>
        simp [idxD, e4, e5] at e3
        subst e3
        obtain ⟨hj, e6, e7⟩ := List.findIdx?_eq_some_iff_getElem.mp e5
        have ev := intsOf_vals e4 h2
        refine ⟨a, vs, _, j, .int ns[j], rfl, rfl, .inl (.inl (R2.sub _ _ (s2 _ _ h1))), rfl, ?_, ?_, ?_, fun m z' hm hz => ?_, k _ _ _ _ _ z2 R2 (s1.trans s2) (.int _)⟩
        · rw [ev, List.all_map]
          exact List.all_eq_true.mpr fun _ _ => rfl
        · rw [ev, List.getElem?_map, List.getElem?_eq_getElem hj]
          rfl
        · exact e6
        · rw [ev, List.getElem?_map] at hz
          cases e8 : ns[m]? with
          | none => simp [e8] at hz
          | some t =>
            simp [e8] at hz
            subst hz
            obtain ⟨hm2, e9⟩ := List.getElem?_eq_some_iff.mp e8
            have := e7 m hm
            rw [e9] at this
            show (t == y) = false
            simpa using this
  | _ => simp [idxD] at e3
end
end DL

namespace DL
open PySem PySem.Spec PyProof.Rows L2

/-! ### name += list, of a list of one's own -/
def dExt (i : Nat) (d : DE) : DS := fun E l => ∃ p ds, l[i]? = some (some (.own p ds)) ∧ d l (fun y l' => ∃ es fs, l'[i]? = some (some (.own p es)) ∧ y = .list fs ∧ es.length + fs.length ≤ sizeLine ∧ E.nx (l'.set i (some (.own p (es ++ fs))))) E.rs
theorem set_here {α : Type} {l : List α} {i : Nat} {a : α} (h : l[i]? = some a) : l.set i a = l := by
  obtain ⟨hi, e⟩ := List.getElem?_eq_some_iff.mp h
  rw [← e]
  exact List.set_getElem_self hi
theorem pds_augExt {X : Cx} {ca : Er → Addr} {W : WX} {e : Expr} {ua : TE} {da : DE} {st : Stmt} {i : Nat} (h : PD X ca W e ua da) (hp : PE X e ua → PS X st (tAug i ua rExt2)) : PDS X ca W st (tAug i ua rExt2) (dExt i da) :=
  ⟨hp h.pe, fun G D E σ H Hf l R m z => by
    obtain ⟨p, ds, hi, z⟩ := z
    obtain ⟨v, e1, e2, vs, e3, e4⟩ := R.slot i _ hi
    subst e2
    refine ⟨_, e1, h.es G σ H Hf l _ _ E.rs R (fun y l' w H' Hf' q R' s dv => ?_) (m.kr σ) z⟩
    obtain ⟨es, fs, hi', rfl, hl, q⟩ := q
    obtain ⟨v, e1', e2', ws, e3', e4'⟩ := R'.slot i _ hi'
    obtain ⟨b, zs, rfl, h1, h2⟩ := dv.list_inv
    refine ⟨p, b, ws, zs, rfl, rfl, e3', R'.sub _ _ h1, by rw [e4'.1, h2.1]; exact hl, ?_⟩
    show D.nx (σ.set i (some (.ref p))) _
    rw [set_here e1]
    exact m.nx _ _ _ _ q (R'.mutOwn hi' (e4'.append h2)) s⟩
end DL

namespace DL
open PySem PySem.Spec PyProof.Rows L2

/-! ### an exception that outlives its except clause -/
theorem exK_ok {P : Program} {w : World} {H : Hp} {h : Heap} {C a : Addr} {oe : Obj} {vs : Array Value}
    (e : h.get? a = some oe) (z : oe.cls = .ref C ∧ oe.dict = none) (d : oe.data = .fields vs) : ObjOk P w H h a (ExK C a) :=
  ⟨⟨oe, vs, e, z, d⟩, ⟨oe, e⟩, fun h1 h2 x k => by
    obtain ⟨o, v, q, r⟩ := x
    exact ⟨o, v, k o q, r⟩⟩
section
variable {X : Cx} {pins : List (Addr × Obj)} {σ : L2.St} {H : Hp} {s : Shared} {C a : Addr}
theorem adopt {oe : Obj} {vs : Array Value} (I : Inv X pins σ H s) (e : s.heap.get? a = some oe) (z : oe.cls = .ref C ∧ oe.dict = none)
    (d : oe.data = .fields vs) (na : H a = none) (n0 : X.s_0.heap.get? a = none) (nL : a ≠ X.env.locals)
    (nC : ∀ x c, X.env.cells.lookup x = some c → c ≠ a) (nP : ∀ p ∈ X.pn ++ pins, p.1 ≠ a) : Inv X pins σ (upd H a (ExK C a)) s where
  ok := I.ok
  os := I.os
  bare := I.bare
  base := {
    keep := I.base.keep
    slot := I.base.slot
    free := fun b o q n hx => by
      have ne : b ≠ a := fun y => by rw [y, n0] at q; cases q
      rw [upd_ne ne]
      exact I.base.free b o q n hx
    there := I.base.there
    tups := fun b xs q => by
      have q2 := I.base.tups b xs q
      rw [upd_ne (ne_of_none q2 na)]
      exact q2
    frzs := fun b o u q => by
      have q2 := I.base.frzs b o u q
      rw [upd_ne (ne_of_none q2 na)]
      exact q2
    tbls := fun b ps q => by
      obtain ⟨more, q2⟩ := I.base.tbls b ps q
      exact ⟨more, by rw [upd_ne (ne_of_none q2 na)]; exact q2⟩ }
  loc := I.loc
  cell := I.cell
  free := by rw [upd_ne nL.symm]; exact I.free
  freeC := fun x c q => by rw [upd_ne (nC x c q)]; exact I.freeC x c q
  pin := fun p hp => by
    obtain ⟨h1, h2, h3⟩ := I.pin p hp
    exact ⟨h1, by rw [upd_ne (nP p hp)]; exact h2, h3⟩
  hok := I.hok.laidN (fun _ _ q => q) na (exK_ok e z d)
  len := I.len
end
/-- what 'except x as n: y = n' wishes: n at slot i, y at slot j -/
def wKeep (K : PySem.W.Frag) (c : Value) (i j : Nat) (D : Ends) : WX := fun cls d σ H => ∃ C : Addr, cls = .ref C ∧ d = none ∧ PySem.W.exmOne K (.ref C) c = some true ∧
  ∀ a, H a = none → D.nx (((σ.set i (some (.ref a))).set j (some (.ref a))).set i none) (upd H a (ExK C a))
section
variable {X : Cx} {x n : Str} {c : Value} {i j : Nat} {body suite : List Stmt} {b₀ : Stmt} {np pos pos' : Pos} {tb : WX → TS}
theorem ps_try_keep (hst : X.stack = X.env :: X.outer) (hfr : X.env.frame = some X.env.locals) (hex : X.ex = []) (hnd : X.N.Nodup) (hi : X.N[i]? = some n) (hln : X.env.kindOf n = some .local) (hc : Names X x c)
    (hb : ∀ (W : WX) (pn : List (Addr × Obj)) (xe : Value → Shared → Prop), Takes (X.tr pn xe) W → PassesOwn (model X.prog X.w) X.A X.env xe → PSs (X.tr pn xe) body (tb W))
    (hsu : ∀ (a : Addr) (oe : Obj) (pn : List (Addr × Obj)), PSs (X.suite a ((a, oe) :: pn)) (b₀ :: suite) (tAsg (tVar i) (gName j))) :
    PS X (.Try body [.ExceptHandler (some (.Name x np)) (some n) (b₀ :: suite) pos'] [] [] pos) (fun D σ H => tb (wKeep X.K c i j D) D σ H) := by
  refine ⟨fun pins s σ H D I h => ?_⟩
  have okX := I.ok
  have hframes : X.A.frames = some (X.env :: X.outer) := okX.frames.trans (by rw [hst])
  have hbody := hb (wKeep X.K c i j D) (X.pn ++ pins) (fun e s₁ => wpAny (model X.prog X.w) X.A (noteFrame e X.env) (fun _ s₂ => wpAny (model X.prog X.w) X.A (setFlight e none) (fun _ s₃ =>
    wpAny (model X.prog X.w) X.A (handleBy e X.env [.ExceptHandler (some (.Name x np)) (some n) (b₀ :: suite) pos']) (SP X pins D) X.xe s₃) X.xe s₂) X.xe s₁)
  refine wpAny_Try_except (wpAny_mono ((hbody (fun u s' ex => ?_) PassesOwn.looking).run [] s σ H D (I.toTry _) h) (fun f s1 hsp => ?_) (fun e s1 he => he))
  · -- caught
    obtain ⟨a, B, sI, pins', σ', H', cls, d, rfl, J0, nb, up, sky, na, os, ag, C, rfl, rfl, hyes, hq⟩ := ex
    have J : Inv X pins σ' H' sI := J0.ofTry okX
    have sky2 : Sky B (X.env :: X.outer) a (Zc (.ref C) none) X.env.locals s'.heap := hst ▸ sky
    have newB : B.get? a = none := by
      rcases sky2 with z | z | z
      · exact z.2.1
      · exact z.2.1
      · exact z.2.1
    show wpAny (model X.prog X.w) X.A (noteFrame (.ref a) X.env) _ _ _
    refine Sky.land Zc.steady hframes hfr sky2 fun h3 fl3 up3 => ?_
    have J3 : Inv X pins σ' H' { s' with heap := h3 } := J.landed nb fl3.1 (up.trans up3) os ag
    obtain ⟨oe3, vs3, he3, hz3, hd3⟩ := fl3.there
    have outF : a ∉ frs (X.env :: X.outer) := fun hm => by
      obtain ⟨_, o', e', hnf⟩ := fl3.2.2.1.mem hm
      rw [he3] at e'
      cases e'
      exact hnf _ hd3
    have neL : a ≠ X.env.locals := fun z => outF (List.mem_filterMap.mpr ⟨X.env, List.mem_cons_self, hfr.trans (congrArg some z.symm)⟩)
    have neF : a ∉ X.fs := fun hm => by
      obtain ⟨e, he, q⟩ := List.mem_filterMap.mp hm
      exact outF (List.mem_filterMap.mpr ⟨e, List.mem_cons_of_mem _ he, q⟩)
    -- it is new
    have newI : sI.heap.get? a = none := by
      cases q : sI.heap.get? a with
      | none => rfl
      | some o =>
        have z := nb a o q (by rw [hst]; exact outF)
        rw [newB] at z
        cases z
    have new0 : X.s_0.heap.get? a = none := by
      cases q : X.s_0.heap.get? a with
      | none => rfl
      | some o =>
        obtain ⟨o', z⟩ := J.base.there a o q (by rw [hex]; exact fun z => nomatch z)
        rw [newI] at z
        cases z
    have newC : ∀ x c, X.env.cells.lookup x = some c → c ≠ a := fun x c q z => by
      obtain ⟨v, hv⟩ := J.cell x c q
      obtain ⟨o, ho⟩ : ∃ o, sI.heap.get? c = some o := by
        first
          | exact ⟨_, hv⟩
          | (obtain ⟨o, ho, _⟩ := hv; exact ⟨o, ho⟩)
      rw [z, newI] at ho
      cases ho
    have newP : ∀ p ∈ X.pn ++ pins, p.1 ≠ a := fun p hp z => by
      have h1 := (J.pin p hp).1
      rw [z, newI] at h1
      cases h1
    have S3 := J3.suite he3 hd3 na neL neF
    refine wpAny_handleBy_cons (codeAny_handlers_test ?_) (by intro q; cases q)
    have asT : PySem.W.Looks (model X.prog X.w) h3 (typeOf (.ref a)) (.ref C) := fun A Q E s k q => wpAny_typeOf_ref (k _ _ he3) (by rw [hz3.1]; exact q)
    have asM := PySem.W.exm_one (M := model X.prog X.w) (J3.kIn) asT hyes
    have named : ∀ {Q : Value → Shared → Prop} {E : Value → Shared → Prop}, Q c { s' with heap := h3 } →
        wpAny (model X.prog X.w) (X.A.mark (some (.ref a))) (eval (.Name x np) X.env) Q E { s' with heap := h3 } := fun {Q E} q => by
      obtain ⟨hg, hdbg, hm | ⟨hm, hv, hnn⟩⟩ := hc
      · exact ld_glob (X := X.suite a ((a, oe3) :: (X.pn ++ pins))) S3 hg hm q hdbg
      · exact ld_blt (X := X.suite a ((a, oe3) :: (X.pn ++ pins))) S3 hg hm hv q hnn hdbg
    refine named (asM.here (codeAny_handlers_suite_as (HandSPX.lands_againZ fl3 fun h4 fl4 up4 => ?_)))
    have J4 : Inv X pins σ' H' { s' with heap := h4 } := J.landed nb fl4.1 ((up.trans up3).trans up4) os ag
    obtain ⟨oe4, vs4, he4, hz4, hd4⟩ := fl4.there
    have S4 := J4.suite he4 hd4 na neL neF
    refine store_ok (X := X.suite a ((a, oe4) :: (X.pn ++ pins))) (v := .ref a) S4 hnd hi (.inl hln) rfl (fun s5 S5 => ?_) (.inr hln)
    have il : i < σ'.length := by
      rw [J.len]
      exact (List.getElem?_eq_some_iff.mp hi).1
    have run := (hsu a oe4 (X.pn ++ pins)).run [] s5 _ H' { nx := fun σ6 H6 => σ6 = (σ'.set i (some (.ref a))).set j (some (.ref a)) ∧ H6 = H', rt := fun _ _ => False } S5 ⟨.ref a, List.getElem?_set_self il, rfl, rfl⟩
    refine wpAny_mono run (fun f s6 hsp => ?_) (fun _ _ z => False.elim z)
    cases f with
    | next =>
      obtain ⟨σ6, H6, S6, e6, e7⟩ := hsp
      subst e6 e7
      obtain ⟨g1, _⟩ := S6.pin (a, oe4) (List.mem_append_left _ List.mem_cons_self)
      have J6 := adopt (S6.unsuite okX) g1 hz4 hd4 na new0 neL newC newP
      exact gone_ok J6 hnd hi hln fun s7 J7 => ⟨_, _, J7, hq a na⟩
    | brk =>
      obtain ⟨_, _, _, z⟩ := hsp
      exact z.elim
    | cont =>
      obtain ⟨_, _, _, z⟩ := hsp
      exact z.elim
    | ret u =>
      obtain ⟨_, _, _, _, _, z⟩ := hsp
      exact z.elim
  · -- the body ran through
    cases f with
    | next =>
      obtain ⟨σ2, H2, J2, q⟩ := hsp
      exact wpAny_execs_nil ⟨σ2, H2, J2.ofTry okX, q⟩
    | brk =>
      obtain ⟨σ2, H2, J2, q⟩ := hsp
      exact ⟨σ2, H2, J2.ofTry okX, q⟩
    | cont =>
      obtain ⟨σ2, H2, J2, q⟩ := hsp
      exact ⟨σ2, H2, J2.ofTry okX, q⟩
    | ret u =>
      obtain ⟨v, σ2, H2, J2, r, q⟩ := hsp
      exact ⟨v, σ2, H2, J2.ofTry okX, r, q⟩
end
end DL

namespace DL
open PySem PySem.Spec PyProof.Rows L2

/-! ### try, over data -/
def noOwn (l : Sl) : Bool := l.all fun x => match x with
  | some (.own _ _) => false
  | _ => true
theorem noOwn_at {l : Sl} (h : noOwn l = true) {i : Nat} {p : Addr} {ds : List PyData} (e : l[i]? = some (some (.own p ds))) : False := by
  have := List.all_eq_true.mp h _ (List.mem_of_getElem? e)
  exact Bool.false_ne_true this
section
variable {K : PySem.W.Frag} {G : Gm} {H Hf H' Hf' : Hp} {σ σ' : L2.St} {l l' : Sl}
theorem Rep.rebase (R : Rep K G H Hf σ l) (no : noOwn l = true) : Rep K ⟨feet l, H, Hf⟩ H Hf σ l :=
  ⟨R.len, R.slot, R.nd, fun b hb => ⟨(R.free b hb).1, .inl hb⟩, fun i p ds e => (noOwn_at no e).elim, Frm.refl R.sub⟩
theorem Rep.debase (R : Rep K G H Hf σ l) (R' : Rep K ⟨feet l, H, Hf⟩ H' Hf' σ' l') : Rep K G H' Hf' σ' l' := by
  have up : ∀ b, H b = none → G.H0 b = none := fun b hb => by
    cases e : G.H0 b with
    | none => rfl
    | some o =>
      obtain ⟨o', e'⟩ := R.frm.there b o e
      rw [hb] at e'
      cases e'
  refine ⟨R'.len, R'.slot, R'.nd, fun b hb => ⟨(R'.free b hb).1, ?_⟩, fun i p ds e => up _ (R'.ownNew i p ds e), R.frm.trans R'.frm fun b hb => (R.free b hb).2⟩
  rcases (R'.free b hb).2 with z | z
  · exact (R.free b z).2
  · exact .inr (up b z)
end
def dTry (ca : Er → Addr) (i j : Nat) (d : DS) : DS := fun E l => noOwn l = true ∧ d { E with rs := fun er l' => E.nx (((l'.set i none).set j (some (.exn (ca er)))).set i none) } l
section
variable {X : Cx} {ca : Er → Addr} {W : WX} {x n : Str} {c : Value} {i j : Nat} {body suite : List Stmt} {b₀ : Stmt} {np pos pos' : Pos} {tb : WX → TS} {d : DS}
theorem pds_try (hst : X.stack = X.env :: X.outer) (hfr : X.env.frame = some X.env.locals) (hex : X.ex = []) (hnd : X.N.Nodup) (hi : X.N[i]? = some n) (hln : X.env.kindOf n = some .local) (hc : Names X x c)
    (hm : ∀ er, PySem.W.exmOne X.K (.ref (ca er)) c = some true)
    (hb : ∀ (W : WX) (pn : List (Addr × Obj)) (xe : Value → Shared → Prop), Takes (X.tr pn xe) W → PDB (X.tr pn xe) ca W body (tb W) d)
    (hsu : ∀ (a : Addr) (oe : Obj) (pn : List (Addr × Obj)), PSs (X.suite a ((a, oe) :: pn)) (b₀ :: suite) (tAsg (tVar i) (gName j))) :
    PDS X ca W (.Try body [.ExceptHandler (some (.Name x np)) (some n) (b₀ :: suite) pos'] [] [] pos) (fun D σ H => tb (wKeep X.K c i j D) D σ H) (dTry ca i j d) := by
  refine ⟨ps_try_keep hst hfr hex hnd hi hln hc (fun W pn xe tk _ => (hb W pn xe tk).pe) hsu, fun G D E σ H Hf l R m z => ?_⟩
  obtain ⟨no, z⟩ := z
  have sm : ∀ {σ' l' H' Hf'}, Rep X.K ⟨feet l, H, Hf⟩ H' Hf' σ' l' → Same Hf Hf' := fun R' => R'.frm.sameF R.sub
  refine (hb (wKeep X.K c i j D) [] (fun _ _ => True) (fun _ _ _ => trivial)).es ⟨feet l, H, Hf⟩ D _ σ H Hf l (R.rebase no) ⟨?_, ?_, ?_, ?_, ?_⟩ z
  · exact fun σ' l' H' Hf' q R' s => m.nx _ _ _ _ q (R.debase R') s
  · exact fun σ' l' v dd H' Hf' q R' s dv => m.rt _ _ _ _ _ _ q (R.debase R') s dv
  · exact fun σ' l' H' Hf' q R' s => m.bk _ _ _ _ q (R.debase R') s
  · exact fun σ' l' H' Hf' q R' s => m.ct _ _ _ _ q (R.debase R') s
  · intro e σ' l' H' Hf' q R'
    refine ⟨ca e, rfl, rfl, hm e, fun a na => ?_⟩
    have R1 := R.debase R'
    have F : Frm [] H' Hf' (upd H' a (ExK (ca e) a)) (upd Hf' a (ExK (ca e) a)) := Frm.new R1.sub na
    have R2 := ((R1.grow F).forget i (some (.ref a))).putExn j (v := .ref a) (C := ca e) rfl upd_same
    exact m.nx _ _ _ _ q (R2.forget i none) ((sm R').trans (F.sameF R1.sub))
end
/-! ### is it None, of data or an exception -/
def dIsX (j : Nat) : DT := fun l Q _ => (∃ d, l[j]? = some (some (.val d)) ∧ Q (isNonD d) l) ∨ ∃ C, l[j]? = some (some (.exn C)) ∧ Q false l
theorem pdt_isX {X : Cx} {ca : Er → Addr} {W : WX} {a : Expr} {j k : Nat} {pos p2 : Pos} (h : PE X a (tVar j)) (hm : behindInMarks .Is (.Constant .none k p2) = false) :
    PDT X ca W (.Compare a [.Is] [.Constant .none k p2] pos) (tTest (tOp (fun x y H Q => y = .non ∧ Q (.bl (decide (x = .non))) H) (tVar j) (tC .non))) (dIsX j) := by
  refine ⟨pt_cmpR op_isN h pe_non hm, fun G σ H Hf l Q q r R k kr hd => ?_⟩
  rcases hd with ⟨d, hj, z⟩ | ⟨C, hj, z⟩
  · obtain ⟨v, e1, e2⟩ := R.slot j _ hj
    refine ⟨v, e1, rfl, _, rfl, ?_⟩
    rw [isNon_dec (K := X.K) (H := Hf) e2]
    exact k _ _ _ _ z R (Same.refl _)
  · obtain ⟨v, e1, a, rfl, e3⟩ := R.slot j _ hj
    refine ⟨.ref a, e1, rfl, _, rfl, ?_⟩
    rw [decide_eq_false (fun z => nomatch z)]
    exact k _ _ _ _ z R (Same.refl _)
/-! ### the names of errors -/
def erS : Er → Str
  | .frac => "fraction"
  | .rng => "range"
  | .rul => "rule"
  | .num => "number"
  | .txt => "text"
  | .nof => "none"
def spX (K : PySem.W.Frag) (ca : Er → Addr) : Sp := fun vs H Q _ => ∃ (a : Addr) (er : Er) (Hf : Hp), vs = [.ref a] ∧ Same Hf H ∧ Hf a = some (ExK (ca er) a) ∧
  ∀ v H' Hf', Frm [] H Hf H' Hf' → Dv K Hf' v (.str (erS er)) → Q v H'
structure FdX (P : Program) (w : World) (K : PySem.W.Frag) (mg : Str → Option Value) (base : Heap) (ca : Er → Addr) (x : Str) (k : Nat) : Prop where
  ex : ∃ (f : Addr) (fd : FuncData) (ps : List Str), FnOk P w K mg base (L2.CX P w) k f fd ps (spX K ca) ∧ mg x = some (.ref f) ∧ PySem.W.keepIn K (.ref f) = true ∧ Binds K fd ps []
def dCallX (ca : Er → Addr) (j : Nat) : DE := fun l Q _ => ∃ er, l[j]? = some (some (.exn (ca er))) ∧ Q (.str (erS er)) l
section
variable {X : Cx} {ca : Er → Addr} {W : WX} {a e o : Expr} {pos : Pos} {j : Nat}
theorem pd_fnX {P : Program} {w : World} {K : PySem.W.Frag} {mg : Str → Option Value} {base : Heap} {x : Str} {p : Pos} {k : Nat} (F : FdX P w K mg base ca x k) (hr : Room k X.A) (hg : Gl X x) (tk : Takes X W) (ha : PE X e (tVar j))
    (hdb : (x == ("__debug__" : Str)) = false := by decide) (he : starEach (e :: []) X.env = (false, eval e X.env) :: starEach [] X.env := by rfl) (hpl : (backTo pos (starEach [] X.env)).any (·.1) = false := by rfl)
    (hP : X.prog = P := by rfl) (hw : X.w = w := by rfl) (hK : X.K = K := by rfl) (hM : X.mg = mg := by rfl) (hB : X.base = base := by rfl) :
    PD X ca W (.Call (.Name x p) [e] [] pos) (tCallS (spX K ca) (WE W) (tCons (tVar j) tNil)) (dCallX ca j) := by
  subst hP hw hK hM hB
  obtain ⟨f, fd, ps, h1, h2, h3, h4⟩ := F
  refine ⟨pe_callS (E := WE W) h1 hr hg h2 h3 h4 (fun σ => passAt tk σ) (pa_cons ha pa_nil he) hdb he hpl, fun G σ H Hf l Q q r R k kr hd => ?_⟩
  obtain ⟨er, hj, z⟩ := hd
  obtain ⟨v, e1, b, rfl, e3⟩ := R.slot j _ hj
  exact ⟨.ref b, e1, b, er, Hf, rfl, R.sub, e3, fun v H' Hf' F' dv => k _ _ _ _ _ z (R.grow F') (F'.sameF R.sub) dv⟩
/-! ### isinstance of a kept exception -/
def rIsX (K : PySem.W.Frag) : List V → Hp → VK → Prop := fun xs H Q => ∃ (a C : Addr) (c : V) (u : Value) (b : Bool), xs = [.ref a, c] ∧ ClsV c u ∧ H a = some (ExK C a) ∧ ExcC K C ∧ PySem.W.kitOne K (.ref C) u = some b ∧ Q (.bl b) H
theorem call_isX : CallR X (.builtin "isinstance") (rIsX X.K) := by
  intro pins s σ H xs us Q I r h
  obtain ⟨a, C, c, u, b, rfl, hcv, ha, T, e, q⟩ := h
  obtain ⟨u1, u2, rfl, r1, r2⟩ := vals2 r
  obtain rfl := hcv.eq r2
  cases (show u1 = Value.ref a from r1)
  obtain ⟨⟨oe, vs, hget, ⟨h1, h2⟩, hv⟩, _⟩ := (show ObjOk X.prog X.w H s.heap a (ExK C a) from I.hok a _ ha)
  have J : PySem.W.InstAt s.heap a oe C none := by
    obtain ⟨oc, od, oda, osl⟩ := oe
    dsimp only at h1 h2 hv
    subst h1 h2 hv
    exact ⟨hget, rfl, rfl, trivial⟩
  have Z := PySem.W.handS_kitx_exc (x := a) (ox := oe) T.hg T.hk T.hs T.hd T.ha T.hn T.ht T.hm
  exact PySem.W.kia_one Z I.kIn J e (fun z => nomatch z) fun tk => ⟨.bl b, H, I.tok tk, rfl, q⟩
def dIsiX (ca : Er → Addr) (j : Nat) (kit : Er → Bool) : DE := fun l Q _ => ∃ er, l[j]? = some (some (.exn (ca er))) ∧ Q (.bool (kit er)) l
theorem pd_isiX {K : PySem.W.Frag} {t : Expr} {v : V} {u : Value} {kit : Er → Bool} {p : Pos} (ha : PE X a (tVar j)) (hg : Gl X "isinstance") (hm : X.mg "isinstance" = none) (hT : PE X t (tC v)) (hv : ClsV v u) (hE : ∀ er, ExcC K (ca er)) (hk : ∀ er, PySem.W.kitOne K (.ref (ca er)) u = some (kit er))
    (hs : starEach [a, t] X.env = (false, eval a X.env) :: starEach [t] X.env := by rfl) (hs2 : starEach [t] X.env = (false, eval t X.env) :: starEach [] X.env := by rfl)
    (hpl : (backTo pos (starEach [t] X.env)).any (·.1) = false := by rfl) (hK : X.K = K := by rfl) :
    PD X ca W (.Call (.Name "isinstance" p) [a, t] [] pos) (tCB (rIsX K) (tCons (tVar j) (tCons (tC v) tNil))) (dIsiX ca j kit) := by
  subst hK
  refine ⟨pe_callB call_isX hg hm boot_isinstance (pa_cons ha (pa_cons hT pa_nil hs2) hs) (by decide) (by decide) hs hpl, fun G σ H Hf l Q q r R k kr z => ?_⟩
  obtain ⟨er, hj, z⟩ := z
  obtain ⟨w, e1, b, rfl, e3⟩ := R.slot j _ hj
  exact ⟨.ref b, e1, b, ca er, v, u, kit er, rfl, hv, R.sub _ _ e3, hE er, hk er, k _ _ _ _ _ z R (Same.refl _) (.bl _)⟩
/-! ### l.count(True), l.index(True) -/
def rCntB (K : PySem.W.Frag) : V → List V → Hp → VK → Prop := fun x xs H Q => ∃ (p : Addr) (bs : List Bool), x = .ref p ∧ xs = [.bl true] ∧ SqL K H p (bs.map V.bl) ∧ Q (.int (bs.count true : Nat)) H
theorem flat_bls (bs : List Bool) : (bs.map V.bl).all flatV = true := by
  rw [List.all_map]
  exact List.all_eq_true.mpr fun _ _ => rfl
theorem cnt_bls : ∀ {bs : List Bool} {its : List Value}, Vals (bs.map V.bl) its → its.countP (eqU (.bl true)) = bs.count true
  | [], its, r => by cases r; rfl
  | b :: bs, its, r => by
    cases r with
    | cons rx rr =>
      cases (show _ = Value.bool b from rx)
      rw [List.countP_cons, List.count_cons, cnt_bls rr]
      cases b <;> rfl
theorem mt_countB : MtR X "list.count" (rCntB X.K) := by
  intro pins s σ H x xs v us Q I rx rxs h
  obtain ⟨p, bs, rfl, rfl, hs, q⟩ := h
  cases rx
  obtain ⟨u, rfl, ru⟩ := rxs.one
  cases (show u = Value.bool true from ru)
  obtain ⟨its, rv, ⟨⟨cls, dd, data, sl⟩, n, ho, hc, hdn, hd⟩, hlen⟩ := I.list hs
  simp only at hc hd
  subst hc hd
  have meets := SeqAt.list_countAt p its.toArray n dd sl (.bool true) (eqU (.bl true))
  refine call_meets PySem.F.slot_list_count ⟨_, ho, rfl⟩ PySem.F.entry_list_count (PySem.F.args_list_count_2 _ _) meets ⟨ho, fun y hy => mem_eqAt (x := .bl true) rfl rfl rv (flat_bls bs) y (by simpa using hy), ?_⟩
  have ec : its.toArray.toList.countP (eqU (.bl true)) = bs.count true := cnt_bls (by simpa using rv)
  refine ⟨.int (bs.count true : Nat), H, I.tok _, ⟨s.toks, ?_⟩, q⟩
  show Value.int ((its.toArray.toList.countP (eqU (.bl true)) : Nat) : Int) s.toks = Value.int ((bs.count true : Nat) : Int) s.toks
  rw [ec]
def cntBD : PyData → PyData → Option PyData
  | .list xs, .bool true => (boolsOf xs).map fun bs => .int (bs.count true : Nat)
  | _, _ => none
def idxBD : PyData → PyData → Option PyData
  | .list xs, .bool true => (boolsOf xs).bind fun bs => (bs.findIdx? id).map fun j => .int (j : Int)
  | _, _ => none
def dMeth (f : PyData → PyData → Option PyData) (a b : DE) : DE := fun l Q R => a l (fun x l1 => ∃ ds, x = .list ds ∧ b l1 (fun y l2 => ∃ z, f x y = some z ∧ Q z l2) R) R
theorem pd_cntB {K : PySem.W.Frag} {ua ub : TE} {da db : DE} {apos cpos : Pos} (ho : PD X ca W o ua da) (ha : PD X ca W e ub db) (hbase : attributeBase o "count" X.env (eval o X.env) = eval o X.env := by rfl)
    (hst : starEach [e] X.env = (false, eval e X.env) :: starEach [] X.env := by rfl)
    (hfew : ((backTo cpos (starEach (e :: []) X.env)).all (fun x => !x.1) && (backToKw cpos (keywordEach [] X.env)).all (fun x => x.1.isSome)
      && decide ((e :: []).length + ([] : List Keyword).length + (if ([] : List Keyword).isEmpty then 0 else 1) < 30)) = true := by rfl) (hline : (apos.endLine == cpos.line) = true := by rfl) (hK : X.K = K := by rfl) :
    PD X ca W (.Call (.Attribute o "count" apos) [e] [] cpos) (tBM K "list" (rCntB K) ua (tCons ub tNil)) (dMeth cntBD da db) := by
  subst hK
  refine ⟨pe_bm PySem.F.plainAttrs_list PySem.F.slot_list_count PySem.F.type_list_count mt_countB ho.pe (pa_cons ha.pe pa_nil hst) hbase hfew hline hst rfl, fun G σ H Hf l Q q r R k kr z => ?_⟩
  refine ho.es G σ H Hf l _ _ r R (fun x l1 v H1 Hf1 z1 R1 s1 d1 => ?_) kr z
  obtain ⟨ds, rfl, z1⟩ := z1
  obtain ⟨a, vs, rfl, h1, h2⟩ := d1.list_inv
  refine ⟨.inl ⟨rfl, _, .inl (.inl (R1.sub _ _ h1))⟩, ha.es G σ H1 Hf1 l1 _ _ r R1 (fun y l2 w H2 Hf2 z2 R2 s2 d2 => ?_) kr z1⟩
  obtain ⟨z3, e3, z2⟩ := z2
  unfold cntBD at e3
  split at e3
  · rename_i xs e4
    cases e4
    obtain rfl := d2.bl_inv
    cases e4 : boolsOf ds with
    | none => rw [e4] at e3; cases e3
    | some bs =>
      rw [e4] at e3
      cases e3
      have ev := boolsOf_vals e4 h2
      refine ⟨a, bs, rfl, rfl, ?_, k _ _ _ _ _ z2 R2 (s1.trans s2) (.int _)⟩
      rw [← ev]
      exact .inl (.inl (R2.sub _ _ (s2 _ _ h1)))
  · cases e3
theorem pd_idxB {K : PySem.W.Frag} {ua ub : TE} {da db : DE} {apos cpos : Pos} (ho : PD X ca W o ua da) (ha : PD X ca W e ub db) (hbase : attributeBase o "index" X.env (eval o X.env) = eval o X.env := by rfl)
    (hst : starEach [e] X.env = (false, eval e X.env) :: starEach [] X.env := by rfl)
    (hfew : ((backTo cpos (starEach (e :: []) X.env)).all (fun x => !x.1) && (backToKw cpos (keywordEach [] X.env)).all (fun x => x.1.isSome)
      && decide ((e :: []).length + ([] : List Keyword).length + (if ([] : List Keyword).isEmpty then 0 else 1) < 30)) = true := by rfl) (hline : (apos.endLine == cpos.line) = true := by rfl) (hK : X.K = K := by rfl) :
    PD X ca W (.Call (.Attribute o "index" apos) [e] [] cpos) (tBM K "list" (rIndex K) ua (tCons ub tNil)) (dMeth idxBD da db) := by
  subst hK
  refine ⟨pe_bm PySem.F.plainAttrs_list PySem.F.slot_list_index PySem.F.type_list_index mt_index ho.pe (pa_cons ha.pe pa_nil hst) hbase hfew hline hst rfl, fun G σ H Hf l Q q r R k kr z => ?_⟩
  refine ho.es G σ H Hf l _ _ r R (fun x l1 v H1 Hf1 z1 R1 s1 d1 => ?_) kr z
  obtain ⟨ds, rfl, z1⟩ := z1
  obtain ⟨a, vs, rfl, h1, h2⟩ := d1.list_inv
  refine ⟨.inl ⟨rfl, _, .inl (.inl (R1.sub _ _ h1))⟩, ha.es G σ H1 Hf1 l1 _ _ r R1 (fun y l2 w H2 Hf2 z2 R2 s2 d2 => ?_) kr z1⟩
  obtain ⟨z3, e3, z2⟩ := z2
  unfold idxBD at e3
  split at e3
  · rename_i xs e4
    cases e4
    obtain rfl := d2.bl_inv
    cases e4 : boolsOf ds with
    | none => rw [e4] at e3; cases e3
    | some bs =>
      cases e5 : bs.findIdx? id with
      | none => simp [e4, e5] at e3
      | some j =>
        simp [e4, e5] at e3
        subst e3
        obtain ⟨hj, e6, e7⟩ := List.findIdx?_eq_some_iff_getElem.mp e5
        have ev := boolsOf_vals e4 h2
        refine ⟨a, vs, _, j, .bl bs[j], rfl, rfl, .inl (.inl (R2.sub _ _ (s2 _ _ h1))), rfl, ?_, ?_, ?_, fun m z' hm hz => ?_, k _ _ _ _ _ z2 R2 (s1.trans s2) (.int _)⟩
        · rw [ev]
          exact flat_bls bs
        · rw [ev, List.getElem?_map, List.getElem?_eq_getElem hj]
          rfl
        · have : bs[j] = true := e6
          rw [this]
          rfl
        · rw [ev, List.getElem?_map] at hz
          cases e8 : bs[m]? with
          | none => simp [e8] at hz
          | some t =>
            simp [e8] at hz
            subst hz
            obtain ⟨hm2, e9⟩ := List.getElem?_eq_some_iff.mp e8
            have := e7 m hm
            rw [e9] at this
            cases t with
            | true => exact absurd rfl this
            | false => rfl
  · cases e3
end
/-! ### a def whose one argument is a kept exception -/
def startX (ca : Er → Addr) (er : Er) (N : List Str) : Sl := some (.exn (ca er)) :: List.replicate (N.length - 1) none
section
variable {P : Program} {w : World} {K : PySem.W.Frag} {mg : Str → Option Value} {base : Heap}
theorem fn_okX {x qual : Str} {st : Stmt} {f : Addr} {fd : FuncData} {N ps : List Str} {k : Nat} {ca : Er → Addr} (F : Fun K x qual st f fd) (S : FnScope N ps (defScope st)) (hn : ps.length = 1)
    (body : ∀ (cdv : Value) (A : Around) (outer : List Env) (s : Shared) (H : Hp) (E : XK), Room k (fnX P w K mg base N qual st f cdv A outer s H E).A → Takes (fnX P w K mg base N qual st f cdv A outer s H E) (fnW E) →
      PassesOwn (model P w) (fnX P w K mg base N qual st f cdv A outer s H E).A (fnX P w K mg base N qual st f cdv A outer s H E).env (fnX P w K mg base N qual st f cdv A outer s H E).xe → (fnX P w K mg base N qual st f cdv A outer s H E).A.units + 64 < cLine → (fnX P w K mg base N qual st f cdv A outer s H E).A.units + 65 < cLine →
      ∃ t d, PDB (fnX P w K mg base N qual st f cdv A outer s H E) ca (fnW E) (defBody st) t d ∧ ∀ er, d (topE fun r => r = .ok (.str (erS er))) (startX ca er N)) :
    FnOk P w K mg base (L2.CX P w) (k + 1) f fd ps (spX K ca) := by
  refine F.okX S (fun vs H Q E h => ?_) (fun cdv A outer s H vs Q E hr h => ?_)
  · obtain ⟨a, er, Hf, rfl, _⟩ := h
    rw [hn]
    rfl
  · obtain ⟨a, er, Hf, rfl, h2, h3, h4⟩ := h
    obtain ⟨t, d, hb, hd⟩ := body cdv A outer s H E hr (takes_of rfl rfl rfl rfl) (passes_of rfl) hr.units (by have := hr.un; show (A.deeper _).units + 65 < cLine; omega)
    have slot : ∀ (i : Nat) (x : DL.S), (startX ca er N)[i]? = some (some x) → i = 0 ∧ x = .exn (ca er) := fun i x h => by
      cases i with
      | zero =>
        have e : DL.S.exn (ca er) = x := by simpa [startX] using h
        exact ⟨rfl, e.symm⟩
      | succ i =>
        simp only [startX, List.getElem?_cons_succ, List.getElem?_replicate] at h
        split at h <;> simp at h
    have ft : feet (startX ca er N) = [] := by
      show foot (some (.exn (ca er))) ++ feet (List.replicate (N.length - 1) none) = []
      rw [feet_none]
      rfl
    have R : Rep K ⟨[], H, Hf⟩ H Hf (L2.start N [.ref a]) (startX ca er N) := by
      refine ⟨?_, fun i x h => ?_, (by rw [ft]; exact List.nodup_nil), (fun b hb => by rw [ft] at hb; cases hb), fun i p ds h => ?_, Frm.refl h2⟩
      · simp [L2.start, startX]
        first | done | omega
      · obtain ⟨rfl, rfl⟩ := slot i x h
        exact ⟨.ref a, rfl, a, rfl, h3⟩
      · obtain ⟨_, z⟩ := slot i _ h
        cases z
    refine ⟨t, hb.pe, ?_⟩
    refine hb.es ⟨[], H, Hf⟩ _ (topE fun r => r = .ok (.str (erS er))) _ H Hf _ R ⟨?_, ?_, ?_, ?_, ?_⟩ (hd er)
    · intro σ' l' H' Hf' z R _
      cases z
    · intro σ' l' v d H' Hf' z R _ dv
      cases z
      exact h4 _ _ _ R.frm dv
    · exact fun σ' l' H' Hf' z R _ => z.elim
    · exact fun σ' l' H' Hf' z R _ => z.elim
    · intro e σ' l' H' Hf' z R
      cases z
end
theorem addD_ll {xs ys : List PyData} (h : xs.length + ys.length ≤ sizeLine) : addD (.list xs) (.list ys) = some (.list (xs ++ ys)) := if_pos h
theorem kit_ref {K : PySem.W.Frag} {C D : Addr} {b : Bool} (hd : PySem.W.hasDictIn K D = true) (ht : PySem.W.typeIn K (.ref D) = some (.type "type")) (hs : PySem.W.subIn K (.ref C) (.ref D) = some b)
    (self : PySem.W.subIn K (.ref C) (.ref C) = some true) : PySem.W.kitOne K (.ref C) (.ref D) = some b := by
  unfold PySem.W.kitOne
  by_cases e : C = D
  · subst e
    rw [self] at hs
    cases hs
    rw [if_pos (by simp)]
  · rw [if_neg (by simpa using e)]
    obtain ⟨cd, hc, _⟩ := PySem.W.any_some hd
    show (if ((PySem.W.clsIn K D).isSome && PySem.W.typeIn K (.ref D) == some (.type "type")) = true then PySem.W.subIn K (.ref C) (.ref D) else none) = some b
    rw [hc, ht, if_pos (by simp)]
    exact hs
theorem kit_ve {K : PySem.W.Frag} {C : Addr} (hs : PySem.W.subIn K (.ref C) (.type "ValueError") = some true) : PySem.W.kitOne K (.ref C) (.type "ValueError") = some true := by
  unfold PySem.W.kitOne
  rw [if_neg (by simp)]
  show (if PySem.W.kitMeta "ValueError" = true then PySem.W.subIn K (.ref C) (.type "ValueError") else none) = some true
  rw [if_pos (by decide +kernel)]
  exact hs
/-- all that a law's own errors want -/
structure XIs (K : PySem.W.Frag) (mg : Str → Option Value) (ca : Er → Addr) (D : Addr) : Prop where
  gD : mg "DecimalError" = some (.ref D)
  exm : ∀ er, PySem.W.exmOne K (.ref (ca er)) (.ref D) = some true
  kD : ∀ er, PySem.W.kitOne K (.ref (ca er)) (.ref D) = some true
  kV : ∀ er, PySem.W.kitOne K (.ref (ca er)) (.type "ValueError") = some true
  ex : ∀ er, ExcC K (ca er)
  kit : ∀ er er', PySem.W.kitOne K (.ref (ca er)) (.ref (ca er')) = some (decide (er = er'))
  g0 : mg "BadFraction" = some (.ref (ca .frac))
  g1 : mg "BadRange" = some (.ref (ca .rng))
  g2 : mg "BadRule" = some (.ref (ca .rul))
  g3 : mg "BadNumber" = some (.ref (ca .num))
  g4 : mg "BadText" = some (.ref (ca .txt))
  g5 : mg "NotFound" = some (.ref (ca .nof))
  exn : PySem.W.exmOne K (.ref (ca .nof)) (.ref (ca .nof)) = some true
end DL

namespace DL
open PySem PySem.Spec PyProof.Rows L2

/-! ### list(range(i, j)) -/
def rgOk (a b : Int) : Bool := small62 a && small62 b && decide ((b - a).toNat ≤ 16777216)
def dListRg (x y : DE) : DE := fun l Q R => x l (fun u l1 => y l1 (fun v l2 => ∃ i j : Int, u = .int i ∧ v = .int j ∧ rgOk i j = true ∧ Q (.list (rngD i (j - i).toNat)) l2) R) R
theorem dvAll_rg {K : PySem.W.Frag} {H : Hp} (a b : Int) : DvAll K H (rgV a b) (rngD a (b - a).toNat) := by
  refine ⟨by rw [rgV_length, rngD_len], fun i v d h1 h2 => ?_⟩
  unfold rgV at h1
  unfold rngD at h2
  rw [List.getElem?_map] at h1 h2
  cases e : (List.range (b - a).toNat)[i]? with
  | none => rw [e] at h1; cases h1
  | some t =>
    rw [e] at h1 h2
    cases h1
    cases h2
    exact .int _
section
variable {X : Cx} {ca : Er → Addr} {W : WX} {a b e : Expr} {ua ub : TE} {da db : DE} {pos pos2 p p2 : Pos}
theorem pd_listRange (hc : X.calm = true) (hg : Gl X "list") (hm : X.mg "list" = none) (hg2 : Gl X "range") (hm2 : X.mg "range" = none) (ha : PD X ca W a ua da) (hb : PD X ca W b ub db)
    (na : starEach [a, b] X.env = (false, eval a X.env) :: starEach [b] X.env := by rfl) (nb : starEach [b] X.env = (false, eval b X.env) :: starEach [] X.env := by rfl) (hp : (backTo pos2 (starEach [b] X.env)).any (·.1) = false := by rfl)
    (nc : starEach [.Call (.Name "range" p2) [a, b] [] pos2] X.env = (false, eval (.Call (.Name "range" p2) [a, b] [] pos2) X.env) :: starEach [] X.env := by rfl) :
    PD X ca W (.Call (.Name "list" p) [.Call (.Name "range" p2) [a, b] [] pos2] [] pos) (tLstRg (tRg2 ua ub)) (dListRg da db) := by
  refine ⟨pe_listRg hc hg hm (prg_2 hg2 hm2 ha.pe hb.pe na nb hp) nc, fun G σ H Hf l Q q r R k kr hd => ?_⟩
  refine ha.es G σ H Hf l _ _ r R (fun x l1 v H1 Hf1 z R1 s1 d1 => ?_) kr hd
  refine hb.es G σ H1 Hf1 l1 _ _ r R1 (fun y l2 v2 H2 Hf2 z R2 s2 d2 => ?_) kr z
  obtain ⟨i, j, rfl, rfl, ok, z⟩ := z
  obtain rfl := d1.int_inv
  obtain rfl := d2.int_inv
  unfold rgOk at ok
  rw [Bool.and_eq_true, Bool.and_eq_true] at ok
  have o1 := small62_of ok.1.1
  have o2 := small62_of ok.1.2
  have o3 := of_decide_eq_true ok.2
  refine ⟨i, j, rfl, rfl, ⟨o1.1, o1.2, o2.1, o2.2, o3⟩, fun c hc => ?_⟩
  have F : Frm [] H2 Hf2 (upd H2 c (.lst (rgV i j))) (upd Hf2 c (.lst (rgV i j))) := Frm.new R2.sub hc
  exact k _ _ _ _ _ z (R2.grow F) ((s1.trans s2).trans (F.sameF R2.sub)) (.lst' upd_same (dvAll_rg i j))
/-! ### own[e] -/
def dOix (i : Nat) (e : DE) : DE := fun l Q R => ∃ p ds, l[i]? = some (some (.own p ds)) ∧ e l (fun y l' => ∃ es z, l'[i]? = some (some (.own p es)) ∧ ixD (.list es) y = some z ∧ Q z l') R
theorem pd_oix {K : PySem.W.Frag} {i : Nat} (h : PE X a (tVar i)) (hb : PD X ca W b ub db) (hs : PlainIx b) (hK : X.K = K := by rfl) : PD X ca W (.Subscript a b pos) (tOp (rIx K) (tVar i) ub) (dOix i db) := by
  subst hK
  refine ⟨pe_ix ix_seq h hb.pe hs, fun G σ H Hf l Q q r R k kr hd => ?_⟩
  obtain ⟨p, ds, hi, hd⟩ := hd
  obtain ⟨v, e1, e2, vs, e3, e4⟩ := R.slot i _ hi
  subst e2
  refine ⟨_, e1, hb.es G σ H Hf l _ _ r R (fun y l' w H' Hf' z R' s dv => ?_) kr hd⟩
  obtain ⟨es, z3, hi', ez, z⟩ := z
  obtain ⟨v', f1, f2, ws, f3, f4⟩ := R'.slot i _ hi'
  cases y with
  | int t =>
    obtain rfl := dv.int_inv
    obtain ⟨u, h3, h4⟩ := atI_dv f4 (show atI es t = some z3 from ez)
    exact .inl ⟨p, ws, _, u, rfl, rfl, .inl (.inl f3), h3, k _ _ _ _ _ z R' s h4⟩
  | _ => cases ez
end
end DL

namespace DL
open PySem PySem.Spec PyProof.Rows L2

/-! ### texts of numbers, f-strings -/
def txtI (i : Int) : Str := toString i
def txtOf : PyData → Option Str
  | .str y => if y.length ≤ sizeLine then some y else none
  | .int i => if i.natAbs.log2 < 1920 then some (txtI i) else none
  | _ => none
def dFmt (d : DE) : DE := fun l Q R => d l (fun x l1 => ∃ y, txtOf x = some y ∧ Q (.str y) l1) R
def dJs : List DE → Str → Sl → (Str → Sl → Prop) → DR → Prop
  | [], acc, l, Q, _ => Q acc l
  | d :: ds, acc, l, Q, R => d l (fun x l1 => ∃ y : Str, x = .str y ∧ (acc ++ y).length ≤ sizeLine ∧ dJs ds (acc ++ y) l1 Q R) R
def dJoin (ds : List DE) : DE := fun l Q R => dJs ds Str.empty l (fun y l1 => Q (.str y) l1) R
section
variable {X : Cx} {ca : Er → Addr} {W : WX} {e v1 v2 : Expr} {rest : List Expr} {ua : TE} {da : DE} {pos : Pos}
theorem pd_fmt (h : PD X ca W e ua da) : PD X ca W (.FormattedValue e (-1) none pos) (tFmt ua) (dFmt da) := by
  refine ⟨pe_fmt h.pe, fun G σ H Hf l Q q r R k kr z => h.es G σ H Hf l _ _ r R (fun x l1 v H1 Hf1 z1 R1 s1 dv => ?_) kr z⟩
  obtain ⟨y, e1, z1⟩ := z1
  unfold txtOf at e1
  split at e1
  · split at e1
    · rename_i hl
      cases e1
      obtain rfl := dv.str_inv
      exact .inl ⟨_, rfl, hl, k _ _ _ _ _ z1 R1 s1 (.str _)⟩
    · cases e1
  · split at e1
    · rename_i hl
      cases e1
      obtain rfl := dv.int_inv
      exact .inr ⟨_, rfl, hl, k _ _ _ _ _ z1 R1 s1 (.str _)⟩
    · cases e1
  · cases e1
/-- the parts of an f-string -/
inductive PJD (X : Cx) (ca : Er → Addr) (W : WX) : List Expr → List TE → List DE → Prop where
  | nil : PJD X ca W [] [] []
  | cons {e : Expr} {es : List Expr} {t : TE} {ts : List TE} {d : DE} {ds : List DE} (h : PD X ca W e t d) (r : PJD X ca W es ts ds) : PJD X ca W (e :: es) (t :: ts) (d :: ds)
theorem js_es {es : List Expr} {ts : List TE} {ds : List DE} (h : PJD X ca W es ts ds) : ∀ (G : Gm) (σ : L2.St) (H Hf : Hp) (l : Sl) (acc : Str) (Q : Str → Hp → Prop) (q : Str → Sl → Prop) (r : DR), Rep X.K G H Hf σ l →
    (∀ y l' H' Hf', q y l' → Rep X.K G H' Hf' σ l' → Same Hf Hf' → Q y H') → KR X.K ca G W σ r → dJs ds acc l q r → tJs ts acc σ H Q := by
  induction h with
  | nil => exact fun G σ H Hf l acc Q q r R k kr z => k _ _ _ _ z R (Same.refl _)
  | cons h r ih =>
    intro G σ H Hf l acc Q q rr R k kr z
    refine h.es G σ H Hf l _ _ rr R (fun x l1 v H1 Hf1 z1 R1 s1 dv => ?_) kr z
    obtain ⟨y, rfl, hl, z1⟩ := z1
    obtain rfl := dv.str_inv
    exact ⟨y, rfl, hl, ih G σ H1 Hf1 l1 _ Q q rr R1 (fun y' l' H' Hf' z' R' s' => k _ _ _ _ z' R' (s1.trans s')) kr z1⟩
theorem PJD.pj {es : List Expr} {ts : List TE} {ds : List DE} (h : PJD X ca W es ts ds) : PJ X es ts := by
  induction h with
  | nil => exact .nil
  | cons h r ih => exact .cons h.pe ih
theorem pd_join {ts : List TE} {ds : List DE} (h : PJD X ca W (v1 :: v2 :: rest) ts ds) : PD X ca W (.JoinedStr (v1 :: v2 :: rest) pos) (fun σ H Q => tJs ts Str.empty σ H fun out H1 => Q (.str out) H1) (dJoin ds) :=
  ⟨pe_joined h.pj, fun G σ H Hf l Q q r R k kr z => js_es h G σ H Hf l Str.empty _ _ r R (fun y l' H' Hf' z' R' s' => k _ _ _ _ _ z' R' s' (.str _)) kr z⟩
end
/-! ### str(i) -/
def strID : List PyData → Option PyData
  | [.int i] => if i.natAbs.log2 < 1920 then some (.str (txtI i)) else none
  | _ => none
theorem cd_strI {K : PySem.W.Frag} : CaD K (fun xs H Q => ∃ i, xs = [.int i] ∧ i.natAbs.log2 < 1920 ∧ Q (.str (toString i)) H) strID := fun xs ds z H Hf Q s h e k => by
  unfold strID at e
  split at e
  · split at e
    · rename_i hl
      cases e
      obtain ⟨v, rfl, hv⟩ := dv1 h
      obtain rfl := hv.int_inv
      exact ⟨_, rfl, hl, k _ H Hf (Frm.refl s) (.str _)⟩
    · cases e
  · cases e
end DL

namespace DL
open PySem PySem.Spec PyProof.Rows L2 SD

/-! ### texts of numbers -/
/-- the signs of a number's text -/
theorem txt_signs (m : Nat) : (txtI (m : Int)).cps.toList = (Nat.toDigits 10 m).map Char.toNat := PySem.W.KIN.signs_num m
theorem txt_len (m : Nat) : (txtI (m : Int)).length = (Nat.toDigits 10 m).length := by
  have h := congrArg List.length (txt_signs m)
  rw [List.length_map] at h
  rw [← h]
  exact (Array.length_toList).symm
/-- a number under 10^k takes at most k signs -/
theorem txt_le {n : Int} {k : Nat} (hk : 1 ≤ k) (h0 : 0 ≤ n) (h1 : n < 10 ^ k) : (txtI n).length ≤ k := by
  obtain ⟨m, rfl⟩ := Int.eq_ofNat_of_zero_le h0
  rw [txt_len]
  exact toDigits_len_pow (by decide) hk (by exact_mod_cast h1)
theorem txt_pow {n d : Int} (hd : 1 ≤ d ∧ d ≤ 6) (h0 : 0 ≤ n) (h1 : n < powT d) : (txtI n).length ≤ d.toNat := by
  rcases (by omega : d = 1 ∨ d = 2 ∨ d = 3 ∨ d = 4 ∨ d = 5 ∨ d = 6) with rfl | rfl | rfl | rfl | rfl | rfl
  all_goals exact txt_le (by decide) h0 h1
theorem log_small {n : Nat} (h : n < 2 ^ 1920) : n.log2 < 1920 := by
  by_cases z : n = 0
  · subst z; decide
  · exact (Nat.log2_lt z).mpr h
/-- the text of a number below 0 is one sign longer -/
theorem txt_neg (m : Nat) : (txtI (-((m + 1 : Nat) : Int))).length = (Nat.toDigits 10 (m + 1)).length + 1 := by
  have h : (PySem.Str.ofString (toString (-((m + 1 : Nat) : Int)))).cps.toList = (toString (-((m + 1 : Nat) : Int))).toList.map Char.toNat := signs_ofString _
  have e : toString (-((m + 1 : Nat) : Int)) = "-" ++ Nat.repr (m + 1) := rfl
  rw [e, String.toList_append, Nat.toList_repr] at h
  have h2 := congrArg List.length h
  rw [List.length_map, List.length_append] at h2
  have h3 : (txtI (-((m + 1 : Nat) : Int))).length = (PySem.Str.ofString ("-" ++ Nat.repr (m + 1))).cps.toList.length := (Array.length_toList).symm
  rw [h3, h2]
  exact Nat.add_comm _ _
theorem txt_any {n : Int} {k : Nat} (hk : 1 ≤ k) (h1 : n.natAbs < 10 ^ k) : (txtI n).length ≤ k + 1 := by
  rcases Int.lt_or_le n 0 with c | c
  · obtain ⟨m, rfl⟩ : ∃ m : Nat, n = -((m + 1 : Nat) : Int) := ⟨n.natAbs - 1, by omega⟩
    rw [txt_neg]
    have e : (-((m + 1 : Nat) : Int)).natAbs = m + 1 := by omega
    rw [e] at h1
    have := toDigits_len_pow (b := 10) (k := k) (n := m + 1) (by decide) hk h1
    omega
  · obtain ⟨m, rfl⟩ := Int.eq_ofNat_of_zero_le c
    rw [txt_len]
    have := toDigits_len_pow (b := 10) (k := k) (n := m) (by decide) hk (by simpa using h1)
    omega
end DL

namespace DL
open PySem PySem.Spec PyProof.Rows L2

/-! ### texts: slices, partition, signs -/
def dSlS (d : DE) (lo hi : DO) : DE := fun l Q R => d l (fun x l1 => lo l1 (fun i l2 => hi l2 (fun j l3 => ∃ z, x = .str z ∧ z.length ≤ sizeLine ∧ Q (.str (Txt.slice z i j)) l3) R) R) R
def dPart (d e : DE) : DE := fun l Q R => d l (fun x l1 => ∃ a, x = .str a ∧ e l1 (fun y l2 => ∃ b, y = .str b ∧ (b.length == 0) = false ∧ a.length ≤ sizeLine ∧ Q (.tuple [.str (Txt.partition a b).1, .str (Txt.partition a b).2.1, .str (Txt.partition a b).2.2]) l2) R) R
def dItS (d : DE) : DI := fun l Q R => d l (fun x l' => ∃ z, x = .str z ∧ Q (z.cps.toList.map fun c => .str ⟨#[c]⟩) l') R
def inSd : PyData → PyData → Option Bool
  | .str a, .str z => match a.cps.toList with
    | [c] => some (decide (c ∈ z.cps.toList))
    | _ => none
  | _, _ => none
section
variable {X : Cx} {ca : Er → Addr} {W : WX} {a b e o : Expr} {ua ub : TE} {da db : DE} {pos pos2 p p2 apos : Pos} {K : PySem.W.Frag}
theorem pd_slS {lo hi : Option Expr} {tl th : TO} {dl dh : DO} (h : PD X ca W a ua da) (hl : PDO X ca W lo tl dl) (hh : PDO X ca W hi th dh) : PD X ca W (.Subscript a (.Slice lo hi none p2) pos) (tSl C8.rSlX ua tl th) (dSlS da dl dh) := by
  refine ⟨pe_slice C8.sl_txt h.pe hl.pe hh.pe, fun G σ H Hf l Q q r R k kr z => ?_⟩
  refine h.es G σ H Hf l _ _ r R (fun x l1 v H1 Hf1 z1 R1 s1 d1 => ?_) kr z
  refine hl.es G σ H1 Hf1 l1 _ _ r R1 (fun i l2 H2 Hf2 z2 R2 s2 => ?_) kr z1
  refine hh.es G σ H2 Hf2 l2 _ _ r R2 (fun j l3 H3 Hf3 z3 R3 s3 => ?_) kr z2
  obtain ⟨y, rfl, hy, z3⟩ := z3
  obtain rfl := d1.str_inv
  exact ⟨y, rfl, hy, k _ _ _ _ _ z3 R3 ((s1.trans s2).trans s3) (.str _)⟩
theorem pd_part (ho : PD X ca W o ua da) (he : PD X ca W e ub db) (hs : starEach [e] X.env = [(false, eval e X.env)] := by rfl) (hbase : attributeBase o "partition" X.env (eval o X.env) = eval o X.env := by rfl) (hline : (apos.endLine == pos.line) = true := by rfl) :
    PD X ca W (.Call (.Attribute o "partition" apos) [e] [] pos) (tM1 (fun x xs H Q => ∃ a b, x = .str a ∧ xs = [.str b] ∧ (b.length == 0) = false ∧ a.length ≤ sizeLine ∧
      ∀ p, H p = none → Q (.ref p) (upd H p (.tup [.str (Txt.partition a b).1, .str (Txt.partition a b).2.1, .str (Txt.partition a b).2.2]))) ua ub) (dPart da db) := by
  refine ⟨pe_partition ho.pe he.pe hs hbase hline, fun G σ H Hf l Q q r R k kr z => ?_⟩
  refine ho.es G σ H Hf l _ _ r R (fun x l1 v H1 Hf1 z1 R1 s1 d1 => ?_) kr z
  obtain ⟨y, rfl, z1⟩ := z1
  obtain rfl := d1.str_inv
  refine ⟨⟨y, rfl⟩, he.es G σ H1 Hf1 l1 _ _ r R1 (fun x2 l2 w H2 Hf2 z2 R2 s2 d2 => ?_) kr z1⟩
  obtain ⟨b, rfl, hb, hy, z2⟩ := z2
  obtain rfl := d2.str_inv
  refine ⟨y, b, rfl, rfl, hb, hy, fun c hc => ?_⟩
  have F : Frm [] H2 Hf2 (upd H2 c (.tup [.str (Txt.partition y b).1, .str (Txt.partition y b).2.1, .str (Txt.partition y b).2.2])) (upd Hf2 c (.tup [.str (Txt.partition y b).1, .str (Txt.partition y b).2.1, .str (Txt.partition y b).2.2])) := Frm.new R2.sub hc
  exact k _ _ _ _ _ z2 (R2.grow F) ((s1.trans s2).trans (F.sameF R2.sub)) (.tup' (.inl (.inl upd_same)) (.cons (.str _) (.cons (.str _) (.cons (.str _) .nil))))
theorem wk_str {Hf : Hp} (z : Str) : Wk K (Its z) Hf (z.cps.toList.map fun c => .str ⟨#[c]⟩) := by
  have hl : (z.cps.toList.map fun c => PyData.str ⟨#[c]⟩).length = z.cps.size := by rw [List.length_map, Array.length_toList]
  refine ⟨fun i H s hi => ?_, fun i H s hi => ?_, fun i H Hf1 v H' d s s' hd y => ?_⟩
  · rw [hl] at hi
    exact hi
  · rw [hl] at hi
    exact hi
  · obtain ⟨rfl, c, hc, rfl⟩ := y
    rw [List.getElem?_map, Array.getElem?_toList, hc] at hd
    cases hd
    exact ⟨Hf1, Frm.refl s', .str _⟩
theorem pdi_str {tg : Expr} (h : PD X ca W a ua da) : PDI X ca W tg a (iStr ua) (dItS da) :=
  ⟨pi_str h.pe, fun G σ H Hf l R q r Rp k kr z => h.es G σ H Hf l _ _ r Rp (fun x l' v H' Hf' z' R' s dv => by
    obtain ⟨y, rfl, z'⟩ := z'
    obtain rfl := dv.str_inv
    exact ⟨y, rfl, k _ _ _ _ _ z' R' s (wk_str y)⟩) kr z⟩
theorem cm_inS : CmD K rInS inSd := fun x y dx dy z H Q hx hy e q => by
  unfold inSd at e
  split at e
  · rename_i a w
    split at e
    · rename_i c hc
      cases e
      obtain rfl := hx.str_inv
      obtain rfl := hy.str_inv
      have ea : a = ⟨#[c]⟩ := by
        cases a with
        | mk cs =>
          have hc : cs.toList = [c] := hc
          have : cs = #[c] := by
            apply Array.toList_inj.mp
            exact hc
          rw [this]
      subst ea
      exact ⟨c, w, rfl, rfl, q⟩
    · cases e
  · cases e
theorem pd_gstr {x y : Str} {p : Pos} (hg : Gl X x) (hm : ∃ t, X.mg x = some (.str y t)) (hdb : (x == ("__debug__" : Str)) = false := by decide) : PD X ca W (.Name x p) (tC (.str y)) (dC (.str y)) := by
  obtain ⟨t, hm⟩ := hm
  exact pd_glob hg hm ⟨t, rfl⟩ (fun _ => .str y) hdb
end
end DL

namespace SD
open PySem PySem.Spec PyProof.Rows DL SX

/-! ### texts as lists of signs -/
abbrev dV := NumText.digitsVal
abbrev AD := NumText.AllDigits
abbrev nL := TL.numL
theorem dV_nil : dV [] = 0 := rfl
theorem dV_foldl (b : List Nat) (x : Nat) : b.foldl (fun acc c => acc * 10 + (c - 48)) x = x * 10 ^ b.length + dV b := by
  induction b generalizing x with
  | nil => simp [NumText.digitsVal]
  | cons c r ih =>
    show r.foldl _ (x * 10 + (c - 48)) = x * 10 ^ (r.length + 1) + r.foldl _ (0 * 10 + (c - 48))
    rw [ih, ih (0 * 10 + (c - 48)), Nat.pow_succ, Nat.add_mul, Nat.mul_assoc, Nat.mul_comm 10, Nat.zero_mul, Nat.zero_add]
    omega
theorem dV_app (a b : List Nat) : dV (a ++ b) = dV a * 10 ^ b.length + dV b := by
  show (a ++ b).foldl _ 0 = _
  rw [List.foldl_append, dV_foldl]
  rfl
theorem dV_cons (c : Nat) (b : List Nat) : dV (c :: b) = (c - 48) * 10 ^ b.length + dV b := by
  have := dV_app [c] b
  rw [show dV [c] = c - 48 by simp [NumText.digitsVal]] at this
  exact this
theorem dV_lt {b : List Nat} (h : AD b) : dV b < 10 ^ b.length := by
  induction b with
  | nil => exact (by decide : 0 < 1)
  | cons c r ih =>
    rw [dV_cons, List.length_cons, Nat.pow_succ]
    have h1 := ih h.tail
    have h2 := h.head
    have h3 : (c - 48) * 10 ^ r.length ≤ 9 * 10 ^ r.length := Nat.mul_le_mul_right _ (by omega)
    omega
theorem dV_inj : ∀ {a b : List Nat}, AD a → AD b → a.length = b.length → dV a = dV b → a = b
  | [], [], _, _, _, _ => rfl
  | [], _ :: _, _, _, h, _ => by simp at h
  | _ :: _, [], _, _, h, _ => by simp at h
  | x :: a, y :: b, ha, hb, hl0, hv => by
    have hl : a.length = b.length := by simpa using hl0
    clear hl0
    rw [dV_cons, dV_cons, hl] at hv
    have h1 := dV_lt ha.tail
    have h2 := dV_lt hb.tail
    rw [hl] at h1
    have h3 := ha.head
    have h4 := hb.head
    have hp : 0 < 10 ^ b.length := Nat.pow_pos (by decide)
    have hx : x - 48 = y - 48 := by
      have e1 : ((x - 48) * 10 ^ b.length + dV a) / 10 ^ b.length = x - 48 := by
        rw [Nat.mul_comm, Nat.mul_add_div hp, Nat.div_eq_of_lt h1, Nat.add_zero]
      have e2 : ((y - 48) * 10 ^ b.length + dV b) / 10 ^ b.length = y - 48 := by
        rw [Nat.mul_comm, Nat.mul_add_div hp, Nat.div_eq_of_lt h2, Nat.add_zero]
      rw [← e1, hv, e2]
    have hxy : x = y := by omega
    subst hxy
    rw [dV_inj ha.tail hb.tail hl (by omega)]
theorem nL_ad (n : Nat) : AD (nL n) := TL.numL_digits n
theorem nL_val (n : Nat) : dV (nL n) = n := PySem.W.KIN.val_back n
theorem nL_ne (n : Nat) : nL n ≠ [] := by
  intro e
  have h := toDigits_len_ge 10 n
  rw [List.map_eq_nil_iff.mp e] at h
  exact absurd h (by decide)
theorem nL_len {n k : Nat} (hk : 1 ≤ k) (h : n < 10 ^ k) : (nL n).length ≤ k := by
  show ((Nat.toDigits 10 n).map Char.toNat).length ≤ k
  rw [List.length_map]
  exact toDigits_len_pow (by decide) hk h
theorem ad_app {a b : List Nat} (ha : AD a) (hb : AD b) : AD (a ++ b) := fun c hc => by
  rcases List.mem_append.mp hc with h | h
  · exact ha c h
  · exact hb c h
theorem ad_rep (n : Nat) : AD (List.replicate n 48) := fun c hc => by
  rw [(List.mem_replicate.mp hc).2]
  exact ⟨by decide, by decide⟩
theorem dV_rep (n : Nat) : dV (List.replicate n 48) = 0 := by
  induction n with
  | zero => rfl
  | succ n ih => rw [List.replicate_succ, dV_cons, ih]; simp
theorem ad_sub {a b : List Nat} (h : AD b) (hs : ∀ c ∈ a, c ∈ b) : AD a := fun c hc => h c (hs c hc)
def isD (c : Nat) : Bool := decide (48 ≤ c) && decide (c ≤ 57)
theorem all_isD {a : List Nat} : a.all isD = true ↔ AD a := by
  rw [List.all_eq_true]
  constructor
  · intro h c hc
    have := h c hc
    unfold isD at this
    rw [Bool.and_eq_true, decide_eq_true_eq, decide_eq_true_eq] at this
    exact this
  · intro h c hc
    unfold isD
    rw [Bool.and_eq_true, decide_eq_true_eq, decide_eq_true_eq]
    exact h c hc
theorem isD_signs (c : Nat) : decide (c ∈ ("0123456789" : Str).cps.toList) = isD c := by
  have e : ("0123456789" : Str).cps.toList = [48, 49, 50, 51, 52, 53, 54, 55, 56, 57] := by decide +kernel
  rw [e]
  unfold isD
  rw [← Bool.decide_and]
  refine decide_eq_decide.mpr ?_
  simp
  omega
/-! r with so many digits -/
def padL (d r : Nat) : List Nat := List.replicate (d - (nL r).length) 48 ++ nL r
theorem pad_ad (d r : Nat) : AD (padL d r) := ad_app (ad_rep _) (nL_ad r)
theorem pad_val (d r : Nat) : dV (padL d r) = r := by
  unfold padL
  rw [dV_app, dV_rep, nL_val]
  simp
theorem pad_len {d r : Nat} (hd : 1 ≤ d) (h : r < 10 ^ d) : (padL d r).length = d := by
  have := nL_len hd h
  unfold padL
  rw [List.length_append, List.length_replicate]
  omega
/-- the last d of a text of digits -/
theorem last_pad {a : List Nat} {d : Nat} (ha : AD a) (hd : 1 ≤ d) (hl : d ≤ a.length) : a.drop (a.length - d) = padL d (dV a % 10 ^ d) := by
  have hp : 0 < 10 ^ d := Nat.pow_pos (by decide)
  have hdrop : AD (a.drop (a.length - d)) := ad_sub ha fun c hc => List.mem_of_mem_drop hc
  have hlen : (a.drop (a.length - d)).length = d := by rw [List.length_drop]; omega
  refine dV_inj hdrop (pad_ad _ _) (by rw [hlen, pad_len hd (Nat.mod_lt _ hp)]) ?_
  rw [pad_val]
  have e := dV_app (a.take (a.length - d)) (a.drop (a.length - d))
  rw [List.take_append_drop, hlen] at e
  rw [e, Nat.mul_comm, Nat.mul_add_mod]
  refine (Nat.mod_eq_of_lt ?_).symm
  have := dV_lt hdrop
  rw [hlen] at this
  exact this
/-! ### the texts of a decimal, of a fraction -/
def sgL (u : Int) : List Nat := if u < 0 then [45] else []
def wrL (u : Int) (d : Nat) : List Nat := sgL u ++ (nL (u.natAbs / 10 ^ d) ++ (if d = 0 then [] else 46 :: padL d (u.natAbs % 10 ^ d)))
def frL (p n : Int) : List Nat := sgL p ++ (nL p.natAbs ++ (if n = 1 then [] else 47 :: nL n.natAbs))
def negL (t : List Nat) : Bool := decide (t.take 1 = [45])
def plainL (t : List Nat) : List Nat := if negL t = true then t.drop 1 else t
def cutL (c : Nat) (t : List Nat) : List Nat × List Nat × List Nat := match TL.par [c] [] t with
  | some (p, q) => (p, [c], q)
  | none => (t, [], [])
theorem part_S (t : List Nat) (c : Nat) : Txt.partition (S t) (S [c]) = (S (cutL c t).1, S (cutL c t).2.1, S (cutL c t).2.2) := by
  unfold cutL
  cases h : TL.par [c] [] t with
  | none => exact partition_none (by simp) h
  | some x => exact partition_some (by simp) h
theorem cut_app {c : Nat} {a b : List Nat} (h : c ∉ a) : cutL c (a ++ c :: b) = (a, [c], b) := by
  unfold cutL
  rw [show a ++ c :: b = a ++ (c :: ([] : List Nat) ++ b) from rfl, TL.par_part1 h]
  rfl
theorem cut_no {c : Nat} {a : List Nat} (h : c ∉ a) : cutL c a = (a, [], []) := by
  unfold cutL
  rw [TL.par_none1 h]
theorem neg_sg {u : Int} {a : List Nat} (ha : AD a) (hne : a ≠ []) (b : List Nat) : negL (sgL u ++ (a ++ b)) = decide (u < 0) ∧ plainL (sgL u ++ (a ++ b)) = a ++ b := by
  have key : negL (sgL u ++ (a ++ b)) = decide (u < 0) := by
    unfold negL sgL
    by_cases h : u < 0
    · rw [if_pos h, decide_eq_true h]
      rfl
    · rw [if_neg h, decide_eq_false h]
      refine decide_eq_false ?_
      cases a with
      | nil => exact absurd rfl hne
      | cons c r =>
        have := ha.head
        show ¬ ([c] = [45])
        intro e
        have : c = 45 := by simpa using e
        omega
  refine ⟨key, ?_⟩
  unfold plainL
  rw [key]
  unfold sgL
  by_cases h : u < 0
  · rw [decide_eq_true h, if_pos rfl, if_pos h]
    rfl
  · rw [decide_eq_false h, if_neg Bool.false_ne_true, if_neg h]
    rfl
def parD (t : List Nat) : Option (Int × Nat) :=
  if (cutL 46 (plainL t)).1 = [] ∨ 3 < (cutL 46 (plainL t)).1.length ∨ 6 < (cutL 46 (plainL t)).2.2.length ∨ ((cutL 46 (plainL t)).2.1 ≠ [] ∧ (cutL 46 (plainL t)).2.2 = []) then none
  else if ((cutL 46 (plainL t)).1 ++ (cutL 46 (plainL t)).2.2).all isD = false then none
  else if 101 * 10 ^ (cutL 46 (plainL t)).2.2.length < dV ((cutL 46 (plainL t)).1 ++ (cutL 46 (plainL t)).2.2) ∨ wrL (if negL t = true then -(dV ((cutL 46 (plainL t)).1 ++ (cutL 46 (plainL t)).2.2) : Int) else dV ((cutL 46 (plainL t)).1 ++ (cutL 46 (plainL t)).2.2)) (cutL 46 (plainL t)).2.2.length ≠ t then none
  else some (if negL t = true then -(dV ((cutL 46 (plainL t)).1 ++ (cutL 46 (plainL t)).2.2) : Int) else dV ((cutL 46 (plainL t)).1 ++ (cutL 46 (plainL t)).2.2), (cutL 46 (plainL t)).2.2.length)
theorem parD_some {t : List Nat} {u : Int} {d : Nat} (h : parD t = some (u, d)) : wrL u d = t ∧ d ≤ 6 ∧ u.natAbs ≤ 101 * 10 ^ d := by
  unfold parD at h
  obtain ⟨U, hU⟩ : ∃ U : Int, U = if negL t = true then -(dV ((cutL 46 (plainL t)).1 ++ (cutL 46 (plainL t)).2.2) : Int) else dV ((cutL 46 (plainL t)).1 ++ (cutL 46 (plainL t)).2.2) := ⟨_, rfl⟩
  rw [← hU] at h
  have hUa : U.natAbs = dV ((cutL 46 (plainL t)).1 ++ (cutL 46 (plainL t)).2.2) := by rw [hU]; split <;> omega
  clear hU
  split at h
  · cases h
  · rename_i c1
    split at h
    · cases h
    · split at h
      · cases h
      · rename_i c3
        simp only [Option.some.injEq, Prod.mk.injEq] at h
        obtain ⟨h1, h2⟩ := h
        subst h1
        subst h2
        refine ⟨?_, by omega, ?_⟩
        · exact Classical.not_not.mp fun z => c3 (.inr z)
        · have : ¬ 101 * 10 ^ (cutL 46 (plainL t)).2.2.length < dV ((cutL 46 (plainL t)).1 ++ (cutL 46 (plainL t)).2.2) := fun z => c3 (.inl z)
          omega
theorem parD_back {u : Int} {d : Nat} (hd : d ≤ 6) (hu : u.natAbs ≤ 101 * 10 ^ d) : parD (wrL u d) = some (u, d) := by
  have hp : 0 < 10 ^ d := Nat.pow_pos (by decide)
  have hq : u.natAbs / 10 ^ d ≤ 101 := Nat.div_le_of_le_mul (by rw [Nat.mul_comm]; exact hu)
  have hh := nL_ad (u.natAbs / 10 ^ d)
  have hl := nL_len (n := u.natAbs / 10 ^ d) (k := 3) (by decide) (by omega)
  have n46 : ∀ {a : List Nat}, AD a → 46 ∉ a := fun h z => by have := h 46 z; omega
  obtain ⟨e1, e2⟩ := neg_sg (u := u) hh (nL_ne _) (if d = 0 then [] else 46 :: padL d (u.natAbs % 10 ^ d))
  have e3 : ∃ pt, cutL 46 (nL (u.natAbs / 10 ^ d) ++ (if d = 0 then [] else 46 :: padL d (u.natAbs % 10 ^ d))) = (nL (u.natAbs / 10 ^ d), pt, if d = 0 then [] else padL d (u.natAbs % 10 ^ d)) ∧ (pt ≠ [] → d ≠ 0) := by
    by_cases c : d = 0
    · rw [if_pos c, if_pos c, List.append_nil]
      exact ⟨[], cut_no (n46 hh), fun z => absurd rfl z⟩
    · rw [if_neg c, if_neg c]
      exact ⟨[46], cut_app (n46 hh), fun _ => c⟩
  obtain ⟨pt, e3, hpt⟩ := e3
  have tl : (if d = 0 then [] else padL d (u.natAbs % 10 ^ d)).length = d := by
    by_cases c : d = 0
    · rw [if_pos c, c]; rfl
    · rw [if_neg c]
      exact pad_len (by omega) (Nat.mod_lt _ hp)
  have ta : AD (if d = 0 then [] else padL d (u.natAbs % 10 ^ d)) := by
    split
    · exact fun c z => nomatch z
    · exact pad_ad _ _
  have tv : dV (nL (u.natAbs / 10 ^ d) ++ (if d = 0 then [] else padL d (u.natAbs % 10 ^ d))) = u.natAbs := by
    rw [dV_app, tl, nL_val]
    by_cases c : d = 0
    · rw [if_pos c, c]
      simp [NumText.digitsVal]
    · rw [if_neg c, pad_val]
      exact Nat.div_add_mod' _ _
  have sv : (if decide (u < 0) = true then -((u.natAbs : Nat) : Int) else (u.natAbs : Nat)) = u := by
    by_cases c : u < 0
    · rw [decide_eq_true c, if_pos rfl]; omega
    · rw [decide_eq_false c, if_neg Bool.false_ne_true]; omega
  have ew : wrL u d = sgL u ++ (nL (u.natAbs / 10 ^ d) ++ (if d = 0 then [] else 46 :: padL d (u.natAbs % 10 ^ d))) := rfl
  unfold parD
  rw [ew, e1, e2, e3]
  simp only [tl, tv, sv]
  rw [if_neg, if_neg, if_neg]
  · rintro (z | z)
    · omega
    · exact z rfl
  · rw [all_isD.mpr (ad_app hh ta)]
    exact fun z => Bool.noConfusion z
  · rintro (z | z | z | z)
    · exact nL_ne _ z
    · omega
    · omega
    · have := hpt z.1
      have h0 := congrArg List.length z.2
      rw [tl] at h0
      exact this h0
def parF (t : List Nat) : Option (Int × Int) :=
  if ((cutL 47 (plainL t)).1 ++ (cutL 47 (plainL t)).2.2).all isD = false ∨ ¬ (1 ≤ (cutL 47 (plainL t)).1.length ∧ (cutL 47 (plainL t)).1.length ≤ 4) ∨ 2 < (cutL 47 (plainL t)).2.2.length then none
  else if (cutL 47 (plainL t)).2.1 ≠ [] ∧ (cutL 47 (plainL t)).2.2 = [] then none
  else if isFracB (fr (if negL t = true then -(dV (cutL 47 (plainL t)).1 : Int) else dV (cutL 47 (plainL t)).1) (if (cutL 47 (plainL t)).2.2 = [] then 1 else (dV (cutL 47 (plainL t)).2.2 : Nat))) = false ∨
      frL (if negL t = true then -(dV (cutL 47 (plainL t)).1 : Int) else dV (cutL 47 (plainL t)).1) (if (cutL 47 (plainL t)).2.2 = [] then 1 else (dV (cutL 47 (plainL t)).2.2 : Nat)) ≠ t then none
  else some (if negL t = true then -(dV (cutL 47 (plainL t)).1 : Int) else dV (cutL 47 (plainL t)).1, if (cutL 47 (plainL t)).2.2 = [] then 1 else (dV (cutL 47 (plainL t)).2.2 : Nat))
theorem parF_some {t : List Nat} {p n : Int} (h : parF t = some (p, n)) : frL p n = t ∧ isFracB (fr p n) = true := by
  unfold parF at h
  generalize (if negL t = true then -(dV (cutL 47 (plainL t)).1 : Int) else dV (cutL 47 (plainL t)).1) = A at h
  generalize (if (cutL 47 (plainL t)).2.2 = [] then (1 : Int) else (dV (cutL 47 (plainL t)).2.2 : Nat)) = B at h
  split at h
  · cases h
  · split at h
    · cases h
    · split at h
      · cases h
      · rename_i c3
        simp only [Option.some.injEq, Prod.mk.injEq] at h
        obtain ⟨h1, h2⟩ := h
        subst h1 h2
        refine ⟨Classical.not_not.mp fun z => c3 (.inr z), ?_⟩
        cases e : isFracB _ with
        | true => rfl
        | false => exact absurd (.inl e) c3
theorem parF_back {p n : Int} (hv : isFracB (fr p n) = true) : parF (frL p n) = some (p, n) := by
  obtain ⟨_, _, hvE, v1, v2, v3, v4, v5⟩ := isFracB_inv hv
  simp at hvE
  obtain ⟨rfl, rfl⟩ := hvE
  have hh := nL_ad p.natAbs
  have hl := nL_len (n := p.natAbs) (k := 4) (by decide) (by omega)
  have hl2 := nL_len (n := n.natAbs) (k := 2) (by decide) (by omega)
  have n47 : ∀ {a : List Nat}, AD a → 47 ∉ a := fun h z => by have := h 47 z; omega
  obtain ⟨e1, e2⟩ := neg_sg (u := p) hh (nL_ne _) (if n = 1 then [] else 47 :: nL n.natAbs)
  have e3 : ∃ pt, cutL 47 (nL p.natAbs ++ (if n = 1 then [] else 47 :: nL n.natAbs)) = (nL p.natAbs, pt, if n = 1 then [] else nL n.natAbs) ∧ (pt ≠ [] → n ≠ 1) := by
    by_cases c : n = 1
    · rw [if_pos c, if_pos c, List.append_nil]
      exact ⟨[], cut_no (n47 hh), fun z => absurd rfl z⟩
    · rw [if_neg c, if_neg c]
      exact ⟨[47], cut_app (n47 hh), fun _ => c⟩
  obtain ⟨pt, e3, hpt⟩ := e3
  have sv : (if decide (p < 0) = true then -((p.natAbs : Nat) : Int) else (p.natAbs : Nat)) = p := by
    by_cases c : p < 0
    · rw [decide_eq_true c, if_pos rfl]; omega
    · rw [decide_eq_false c, if_neg Bool.false_ne_true]; omega
  have tv : (if (if n = 1 then ([] : List Nat) else nL n.natAbs) = [] then (1 : Int) else (dV (if n = 1 then [] else nL n.natAbs) : Nat)) = n := by
    by_cases c : n = 1
    · rw [if_pos c, if_pos rfl, c]
    · rw [if_neg c, if_neg (nL_ne _), nL_val]; omega
  have ew : frL p n = sgL p ++ (nL p.natAbs ++ (if n = 1 then [] else 47 :: nL n.natAbs)) := rfl
  have ta : AD (if n = 1 then [] else nL n.natAbs) := by
    split
    · exact fun c z => nomatch z
    · exact nL_ad _
  have tl : (if n = 1 then [] else nL n.natAbs).length ≤ 2 := by
    split
    · decide
    · exact hl2
  have h1 : 1 ≤ (nL p.natAbs).length := by
    have := nL_ne p.natAbs
    cases h : nL p.natAbs with
    | nil => exact absurd h this
    | cons a b => simp
  unfold parF
  rw [ew, e1, e2, e3]
  simp only [nL_val, sv, tv]
  rw [if_neg, if_neg, if_neg]
  · rintro (z | z)
    · rw [hv] at z
      cases z
    · exact z rfl
  · rintro ⟨z1, z2⟩
    have := hpt z1
    rw [if_neg this] at z2
    exact nL_ne _ z2
  · rw [all_isD.mpr (ad_app hh ta)]
    rintro (z | z | z)
    · cases z
    · exact z ⟨h1, hl⟩
    · omega
/-! ### as texts of the program -/
theorem lit_minus : Str.ofString "-" = S [45] := by decide +kernel
theorem lit_empty : Str.ofString "" = S [] := by decide +kernel
theorem lit_point : Str.ofString "." = S [46] := by decide +kernel
theorem lit_slash : Str.ofString "/" = S [47] := by decide +kernel
theorem lit_zero : Str.ofString "0" = S [48] := by decide +kernel
theorem txt_nat (n : Nat) : txtI (n : Int) = S (nL n) := num_S n
theorem txt_int (p : Int) : txtI p = S (sgL p ++ nL p.natAbs) := by
  unfold sgL
  by_cases c : p < 0
  · rw [if_pos c]
    obtain ⟨m, rfl⟩ : ∃ m : Nat, p = -((m + 1 : Nat) : Int) := ⟨p.natAbs - 1, by omega⟩
    have h : (PySem.Str.ofString (toString (-((m + 1 : Nat) : Int)))).cps.toList = (toString (-((m + 1 : Nat) : Int))).toList.map Char.toNat := signs_ofString _
    have e : toString (-((m + 1 : Nat) : Int)) = "-" ++ Nat.repr (m + 1) := rfl
    rw [e, String.toList_append, Nat.toList_repr, List.map_append] at h
    have e2 : (-((m + 1 : Nat) : Int)).natAbs = m + 1 := by omega
    rw [e2]
    have h3 : (txtI (-((m + 1 : Nat) : Int))).cps.toList = [45] ++ nL (m + 1) := h
    rw [← h3, S_tl]
  · rw [if_neg c]
    obtain ⟨m, rfl⟩ := Int.eq_ofNat_of_zero_le (show 0 ≤ p by omega)
    exact txt_nat m
theorem rep_S (m : Nat) : repS m (S [48]) = S (List.replicate m 48) := by
  have key : ∀ (m : Nat) (acc : Array Nat), ((List.replicate m #[48]).foldl (· ++ ·) acc).toList = acc.toList ++ List.replicate m 48 := by
    intro m
    induction m with
    | zero => intro acc; simp
    | succ m ih =>
      intro acc
      rw [List.replicate_succ, List.foldl_cons, ih, List.replicate_succ]
      simp
  refine TL.ext_tl ?_
  show ((List.replicate m #[48]).foldl (· ++ ·) #[]).toList = _
  rw [key]
  rfl
def okL (t : List Nat) : Bool := t.all fun c => decide (c < 1114112)
theorem okL_app {a b : List Nat} : okL (a ++ b) = true ↔ okL a = true ∧ okL b = true := by
  unfold okL
  rw [List.all_append, Bool.and_eq_true]
theorem okL_sub {a b : List Nat} (h : okL b = true) (hs : ∀ c ∈ a, c ∈ b) : okL a = true := List.all_eq_true.mpr fun c hc => List.all_eq_true.mp h c (hs c hc)
theorem okL_ad {a : List Nat} (h : AD a) : okL a = true := List.all_eq_true.mpr fun c hc => decide_eq_true (by have := h c hc; omega)
theorem shaped_S {a : List Nat} (h : okL a = true) : SeqAt.shaped (.str (S a)) = true := by
  have e : PyData.strOk (S a) = true := by
    show (S a).cps.all (· < 0x110000) = true
    rw [← Array.all_toList]
    exact h
  simp [SeqAt.shaped, PyData.canLay0, PyData.depth, e]
theorem eqD_S {a b : List Nat} (ha : okL a = true) (hb : okL b = true) : eqD (.str (S a)) (.str (S b)) = some (decide (a = b)) := by
  show (if _ then _ else _) = _
  rw [if_pos ⟨shaped_S ha, shaped_S hb⟩]
  show some (S a == S b) = _
  rw [S_beq_eq]
theorem neD_S {a b : List Nat} (ha : okL a = true) (hb : okL b = true) : neD (.str (S a)) (.str (S b)) = some (!decide (a = b)) := by
  show (if _ then _ else _) = _
  rw [if_pos ⟨shaped_S ha, shaped_S hb⟩]
  show some (!(S a == S b)) = _
  rw [S_beq_eq]
theorem par_cat {c : Nat} : ∀ (l acc p q : List Nat), TL.par [c] acc l = some (p, q) → acc ++ l = p ++ c :: q
  | [], acc, p, q, h => by
    unfold TL.par at h
    cases h
  | x :: r, acc, p, q, h => by
    unfold TL.par at h
    split at h
    · rename_i hp
      have hx : x = c := by
        unfold TL.pre at hp
        have := eq_of_beq hp
        simpa using this
      cases h
      subst hx
      rfl
    · have := par_cat r (acc ++ [x]) p q h
      rw [← this, List.append_assoc]
      rfl
theorem cut_cat (c : Nat) (a : List Nat) : (cutL c a).1 ++ ((cutL c a).2.1 ++ (cutL c a).2.2) = a ∧ ((cutL c a).2.1 = [] ∨ (cutL c a).2.1 = [c]) := by
  unfold cutL
  cases h : TL.par [c] [] a with
  | none => exact ⟨by simp, .inl rfl⟩
  | some x =>
    obtain ⟨p, q⟩ := x
    have := par_cat a [] p q h
    exact ⟨by simpa using this.symm, .inr rfl⟩
theorem plain_sub {t : List Nat} : (∀ c ∈ plainL t, c ∈ t) ∧ (plainL t).length ≤ t.length := by
  unfold plainL
  split
  · exact ⟨fun c hc => List.mem_of_mem_drop hc, by rw [List.length_drop]; omega⟩
  · exact ⟨fun c hc => hc, Nat.le_refl _⟩
/-- the parts of a text -/
theorem cut_parts {c : Nat} {t H P T : List Nat} (hc : c < 1114112) (h : cutL c (plainL t) = (H, P, T)) (ok : okL t = true) : okL H = true ∧ okL P = true ∧ okL T = true ∧ H.length + T.length ≤ t.length := by
  obtain ⟨e1, e2⟩ := cut_cat c (plainL t)
  rw [h] at e1 e2
  dsimp only at e1 e2
  have op : okL (plainL t) = true := okL_sub ok plain_sub.1
  have ol := plain_sub (t := t) |>.2
  rw [← e1, okL_app, okL_app] at op
  rw [← e1, List.length_append, List.length_append] at ol
  exact ⟨op.1, op.2.1, op.2.2, by omega⟩
theorem sl_to1 (t : List Nat) : Txt.slice (S t) none (some 1) = S (t.take 1) := slice_to (by decide)
theorem sl_from1 (t : List Nat) : Txt.slice (S t) (some 1) none = S (t.drop 1) := slice_from (by decide)
theorem sl_toN (t : List Nat) {i : Int} (h : 0 ≤ i) : Txt.slice (S t) none (some i) = S (t.take i.toNat) := slice_to h
theorem sl_fromN (t : List Nat) {i : Int} (h : 0 ≤ i) : Txt.slice (S t) (some i) none = S (t.drop i.toNat) := slice_from h
theorem int_D {a : List Nat} (h : AD a) (hne : a ≠ []) (hl : a.length ≤ 640) : intSD [.str (S a)] = some (.int (dV a : Nat)) := by
  show (if _ then _ else _) = _
  rw [if_pos (by rw [S_len]; exact hl), int_S (all_isD.mpr h) hne (by omega)]
  rfl
theorem len_S (a : List Nat) (h : a.length ≤ 1000) : lenD [.str (S a)] = some (.int (a.length : Nat)) := by
  have e : (S a).length ≤ sizeLine := by rw [S_len, sizeLine_eq]; omega
  show (if _ then _ else _) = _
  rw [if_pos e, S_len]
theorem in_S (c : Nat) : inSd (.str ⟨#[c]⟩) (.str "0123456789") = some (isD c) := by
  show some (decide (c ∈ ("0123456789" : Str).cps.toList)) = _
  rw [isD_signs]
theorem all_S (a : List Nat) : allD [.list (a.map fun c => PyData.bool (isD c))] = some (.bool (a.all isD)) := by
  have e : (a.map fun c => PyData.bool (isD c)) = (a.map isD).map PyData.bool := by rw [List.map_map]; rfl
  rw [e]
  show (boolsOf _).map _ = _
  rw [boolsOf_map]
  show some (PyData.bool ((a.map isD).all id)) = _
  rw [List.all_map]
  rfl
theorem pow_nat (m : Nat) : powT (m : Int) = ((10 ^ m : Nat) : Int) := by
  unfold powT
  rw [Int.toNat_natCast]
  exact (Int.natCast_pow 10 m).symm
theorem wr_ok (u : Int) (d : Nat) : okL (wrL u d) = true := by
  unfold wrL sgL
  rw [okL_app, okL_app]
  refine ⟨by split <;> decide, okL_ad (nL_ad _), ?_⟩
  split
  · rfl
  · rw [show (46 :: padL d (u.natAbs % 10 ^ d)) = [46] ++ padL d (u.natAbs % 10 ^ d) from rfl, okL_app]
    exact ⟨by decide, okL_ad (pad_ad _ _)⟩
theorem fr_ok (p n : Int) : okL (frL p n) = true := by
  unfold frL sgL
  rw [okL_app, okL_app]
  refine ⟨by split <;> decide, okL_ad (nL_ad _), ?_⟩
  split
  · rfl
  · rw [show (47 :: nL n.natAbs) = [47] ++ nL n.natAbs from rfl, okL_app]
    exact ⟨by decide, okL_ad (nL_ad _)⟩
theorem wr_len {u : Int} {d : Nat} (hd : d ≤ 6) (hu : u.natAbs ≤ 101 * 10 ^ d) : (wrL u d).length ≤ 11 := by
  have hp : 0 < 10 ^ d := Nat.pow_pos (by decide)
  have hq : u.natAbs / 10 ^ d ≤ 101 := Nat.div_le_of_le_mul (by rw [Nat.mul_comm]; exact hu)
  have hl := nL_len (n := u.natAbs / 10 ^ d) (k := 3) (by decide) (by omega)
  have hs : (sgL u).length ≤ 1 := by unfold sgL; split <;> decide
  unfold wrL
  rw [List.length_append, List.length_append]
  by_cases c : d = 0
  · rw [if_pos c, List.length_nil]
    omega
  · rw [if_neg c, List.length_cons, pad_len (by omega) (Nat.mod_lt _ hp)]
    omega
theorem fr_len {p n : Int} (hv : isFracB (fr p n) = true) : (frL p n).length ≤ 11 := by
  obtain ⟨_, _, hvE, v1, v2, v3, v4, v5⟩ := isFracB_inv hv
  simp at hvE
  obtain ⟨rfl, rfl⟩ := hvE
  have hl := nL_len (n := p.natAbs) (k := 4) (by decide) (by omega)
  have hl2 := nL_len (n := n.natAbs) (k := 2) (by decide) (by omega)
  have hs : (sgL p).length ≤ 1 := by unfold sgL; split <;> decide
  unfold frL
  rw [List.length_append, List.length_append]
  by_cases c : n = 1
  · rw [if_pos c, List.length_nil]
    omega
  · rw [if_neg c, List.length_cons]
    omega
end SD

namespace SD
open PySem PySem.Spec PyProof.Rows L2 DL
def topS (i : Nat) : Stmt := PySem.Challenge.pw_shortdecimals_k09_whole_texts.main.body.getD i (.Pass ⟨0, 0, 0, 0⟩)
section
variable {P : Program} {w : World} {K : PySem.W.Frag} {mg : Str → Option Value} {base : Heap} {ca : Er → Addr} {f : Addr} {fd : FuncData}
abbrev s__law_start : Stmt := topS 31
theorem sc__law_start : FnScope ["script"] ["script"] (defScope s__law_start) := ⟨rfl, rfl, rfl, by decide +kernel, rfl, by decide +kernel, by decide +kernel⟩
theorem ok__law_start (F : Fun K "_law_start" "_law_start" s__law_start f fd) (m_list : mg "list" = none) : FnOk P w K mg base (L2.CX P w) 1 f fd ["script"] (spS K) := by
  refine F.okX sc__law_start (fun vs H Q E h => ?_) (fun cdv A outer s H vs Q E hr h => ?_)
  · obtain ⟨a, ns, rfl, _⟩ := h
    rfl
  · obtain ⟨a, ns, rfl, hS, hl, hQ⟩ := h
    refine ⟨_, pss_one (ps_ret (pe_lst (pa_cons (pe_ifExp (pt_cmpR (op_neD hr.units) (pv 0) (pe_lst pa_nil) (nomark _)) (pe_callTy call_list_of (by rfl) m_list boot_list (pa_cons (pv 0) pa_nil)) (pe_lst (pa_cons pe_int pa_nil))) (pa_cons pe_int pa_nil)))), ?_⟩
    have dd : ∀ (ms : List Int), SeqAt.shaped (.list (ms.map PyData.int)) = true := fun ms => by
      have h1 : ∀ ms : List Int, PyData.canLayAll0 (ms.map PyData.int) = true := fun ms => by
        induction ms with
        | nil => simp [PyData.canLayAll0]
        | cons m ms ih => simp [PyData.canLayAll0, PyData.canLay0, ih]
      have h2 : ∀ ms : List Int, PyData.depthAll (ms.map PyData.int) = 0 := fun ms => by
        induction ms with
        | nil => simp [PyData.depthAll]
        | cons m ms ih => simp [PyData.depthAll, PyData.depth, ih]
      simp [SeqAt.shaped, PyData.canLay0, PyData.depth, h1, h2]
    have dp : ∀ {H' : Hp} {x : Addr} {ms : List Int}, SqL K H' x (ms.map V.int) → Dp K H' (.ref x) (.list (ms.map PyData.int)) := fun {H' x ms} h => .lst h (by
      clear h
      induction ms with
      | nil => exact .nil
      | cons m ms ih => exact .cons (.int m) ih)
    refine ⟨.ref a, rfl, Nat.zero_le _, fun e0 he0 => ?_⟩
    have s0 : Same H (upd H e0 (.lst [])) := same_upd he0
    refine ⟨.list (ns.map PyData.int), .list [], dp (s0.seq hS), dp (ms := []) (.inl (.inl upd_same)), dd ns, dd [], _, rfl, ?_⟩
    have line : ([V.int 0] : List V).length ≤ sizeLine ∧ ∀ x y : V, [x, y].length ≤ sizeLine := by
      rw [sizeLine_eq]
      exact ⟨by decide, fun x y => (by decide : 2 ≤ 16777216)⟩
    by_cases hn : ns = []
    · have e : (!PyData.eqv (.list (ns.map PyData.int)) (.list [])) = false := by
        rw [hn]
        simp [PyData.eqv, PyData.eqvAll]
      rw [e]
      refine iteF ⟨line.1, fun b hb => ⟨line.2 _ _, fun p hp => ?_⟩⟩
      have s1 : Same (upd H e0 (.lst [])) (upd (upd H e0 (.lst [])) b (.lst [V.int 0])) := same_upd hb
      have s2 := same_upd (o := .lst [V.ref b, V.int 0]) hp
      have npb : p ≠ b := fun z => by
        rw [z, upd_same] at hp
        cases hp
      refine hQ p b _ ((s0.trans s1).trans s2) (s0.free (s1.free hp)) (s0.free hb) npb ⟨[0], 0, upd_same, ?_, by simp, by simp⟩
      rw [upd_ne npb.symm, upd_same]
      rfl
    · have e : (!PyData.eqv (.list (ns.map PyData.int)) (.list [])) = true := by
        cases ns with
        | nil => exact absurd rfl hn
        | cons m ms => simp [PyData.eqv, PyData.eqvAll]
      rw [e]
      refine iteT ⟨.ref a, rfl, a, ns.map V.int, rfl, .inl (s0.seq hS), fun b hb => ⟨line.2 _ _, fun p hp => ?_⟩⟩
      have s1 : Same (upd H e0 (.lst [])) (upd (upd H e0 (.lst [])) b (.lst (ns.map V.int))) := same_upd hb
      have s2 := same_upd (o := .lst [V.ref b, V.int 0]) hp
      have npb : p ≠ b := fun z => by
        rw [z, upd_same] at hp
        cases hp
      refine hQ p b _ ((s0.trans s1).trans s2) (s0.free (s1.free hp)) (s0.free hb) npb ⟨ns, 0, upd_same, ?_, hn, by omega⟩
      rw [upd_ne npb.symm, upd_same]

abbrev s_common : Stmt := topS 12
theorem sc_common : FnScope ["one", "other"] ["one", "other"] (defScope s_common) := ⟨rfl, rfl, rfl, by decide +kernel, rfl, by decide +kernel, by decide +kernel⟩
def c_common : Ct := fun ds q => ∃ a b : Int, ds = [.int a, .int b] ∧ q (.ok (.int (gcdI a b)))
theorem ok_common (F : Fun K "common" "common" s_common f fd) (m_abs : mg "abs" = none) : FnOk P w K mg base (L2.CX P w) 1 f fd ["one", "other"] (spD K ca c_common 2) := by
  refine fn_ok F sc_common rfl (fun cdv A outer s H E hr tk po hu hu5 => ?_)
  refine ⟨_, _, pdb_cons (pds_par (pda_cons (pd_callB call_abs cd_abs (by rfl) m_abs boot_abs (pda_cons (pd_var (pv 0)) pda_nil)) (pda_cons (pd_callB call_abs cd_abs (by rfl) m_abs boot_abs (pda_cons (pd_var (pv 1)) pda_nil)) pda_nil)) (fun h => ps_par (i := 0) (j := 1) rfl sc_common.nd rfl rfl (by decide) rfl rfl h (by rfl)))
      (pdb_cons (pds_while po (pdt_cmp (r := rNeD K) (op_neD hu) cm_ne (pd_var (pv 1)) (PD.pv pd_int) (nomark _)) (pdb_one (pds_par (pda_cons (pd_var (pv 1)) (pda_cons (pd_op op_mod od_mod (pd_var (pv 0)) (pd_var (pv 1))) pda_nil)) (fun h => ps_par (i := 0) (j := 1) rfl sc_common.nd rfl rfl (by decide) rfl rfl h (by rfl)))))
      (pdb_one (pds_ret (pd_var (pv 0))))), ?_⟩
  clear hr tk po hu hu5
  intro ds q hl hc
  obtain ⟨a, b, rfl, hq⟩ := hc
  rw [show start0 (["one", "other"] : List Str) [.int a, .int b] = [some (.val (.int a)), some (.val (.int b))] from rfl]
  simp only [dRet, dRetN, dSeq, dPar, dPar3, dCons, dNil, dCaB, dVar, dC, dCmpT, dCmp, dU, dB, dAndV, dOrV, dNotV, dAnd, dOr, dNot, dIf, dTup, dLst, dChain, dChainT, dTest, dIsi, dAsg, dDrop, dIfS, gN, gT, gs0, gs1, dAug, dNext, dRaise, dCall, dYes, topE, List.getElem?_cons_succ, List.getElem?_cons_zero, List.set_cons_zero, List.set_cons_succ, Option.some.injEq, S.val.injEq, exists_eq_left', exists_eq_left, exists_and_left, and_assoc, List.cons.injEq, and_true, true_and, PyData.int.injEq, PyData.bool.injEq, PyData.tuple.injEq, PyData.list.injEq, absD_i, maxD_i, addD_i, subD_i, negD_i, iaddD_i, mulD_e, fdivD_e, ifdivD_e, modD_e, leD_i, ltD_i, gtD_i, geD_i, lenD_t, lenD_l, isNd_n, notNd_n, isBd_b, notBd_b, isNonD_i, isNonD_n, isNonD_t, isNonD_l, eqD_int, neD_int, eqD_bool, neD_bool, eqD_fr, neD_fr, ix_fr0, ix_fr1, kit_int, kit_bool, kit_str, kit_tuple, decide_eq_true_eq, Bool.not_eq_true', decide_eq_false_iff_not, line_nil, line1, line2, if_true, if_false]

  refine whW_inv (fun n l => ∃ x y : Nat, l = [some (.val (.int x)), some (.val (.int y))] ∧ n = y ∧ Nat.gcd x y = Int.gcd a b) (fun n l k h hk => ?_) b.natAbs _ ⟨a.natAbs, b.natAbs, rfl, rfl, rfl⟩
  obtain ⟨x, y, rfl, rfl, hg⟩ := h
  simp only [dRet, dRetN, dSeq, dPar, dPar3, dCons, dNil, dCaB, dVar, dC, dCmpT, dCmp, dU, dB, dAndV, dOrV, dNotV, dAnd, dOr, dNot, dIf, dTup, dLst, dChain, dChainT, dTest, dIsi, dAsg, dDrop, dIfS, gN, gT, gs0, gs1, dAug, dNext, dRaise, dCall, dYes, topE, List.getElem?_cons_succ, List.getElem?_cons_zero, List.set_cons_zero, List.set_cons_succ, Option.some.injEq, S.val.injEq, exists_eq_left', exists_eq_left, exists_and_left, and_assoc, List.cons.injEq, and_true, true_and, PyData.int.injEq, PyData.bool.injEq, PyData.tuple.injEq, PyData.list.injEq, absD_i, maxD_i, addD_i, subD_i, negD_i, iaddD_i, mulD_e, fdivD_e, ifdivD_e, modD_e, leD_i, ltD_i, gtD_i, geD_i, lenD_t, lenD_l, isNd_n, notNd_n, isBd_b, notBd_b, isNonD_i, isNonD_n, isNonD_t, isNonD_l, eqD_int, neD_int, eqD_bool, neD_bool, eqD_fr, neD_fr, ix_fr0, ix_fr1, kit_int, kit_bool, kit_str, kit_tuple, decide_eq_true_eq, Bool.not_eq_true', decide_eq_false_iff_not, line_nil, line1, line2, if_true, if_false]
  by_cases hy : n = 0
  · subst hy
    have e : x = Int.gcd a b := by simpa using hg
    subst e
    rw [if_neg (by simp)]
    exact hq
  · rw [if_pos (by omega)]
    refine ⟨by omega, hk _ (x % n) (Nat.mod_lt _ (by omega)) ⟨n, x % n, rfl, rfl, ?_⟩⟩
    rw [← hg, Nat.gcd_comm n, ← Nat.gcd_rec, Nat.gcd_comm]
theorem c_common_e (a b : Int) (q : Res → Prop) : c_common [.int a, .int b] q ↔ q (.ok (.int (gcdI a b))) :=
  ⟨fun ⟨_, _, e, h⟩ => by cases e; exact h, fun h => ⟨_, _, rfl, h⟩⟩
abbrev s_is_int : Stmt := topS 11
theorem sc_is_int : FnScope ["value", "low", "high"] ["value", "low", "high"] (defScope s_is_int) := ⟨rfl, rfl, rfl, by decide +kernel, rfl, by decide +kernel, by decide +kernel⟩
def c_is_int : Ct := fun ds q => ∃ v lo hi, ds = [v, .int lo, .int hi] ∧ q (.ok (.bool (isIntB v lo hi)))
theorem ok_is_int (F : Fun K "is_int" "is_int" s_is_int f fd) (m_bool : mg "bool" = none) (m_int : mg "int" = none) (m_isinstance : mg "isinstance" = none) : FnOk P w K mg base (L2.CX P w) 1 f fd ["value", "low", "high"] (spD K ca c_is_int 3) := by
  refine fn_ok F sc_is_int rfl (fun cdv A outer s H E hr tk po hu hu5 => ?_)
  refine ⟨_, _, pdb_one (pds_ret (pd_and (pd_isi (K := K) (pd_var (pv 0)) rfl m_isinstance (pe_bltn (v := .ty "int") rfl m_int boot_int rfl)) (pd_and (pd_not (pd_isi (K := K) (pd_var (pv 0)) rfl m_isinstance (pe_bltn (v := .ty "bool") rfl m_bool boot_bool rfl))) (pd_one (pd_chain op_le cm_le op_le cm_le (pd_var (pv 1)) (pd_var (pv 0)) (pd_var (pv 2))))))), ?_⟩
  clear hr tk po hu hu5
  intro ds q hl hc
  obtain ⟨v, lo, hi, rfl, hq⟩ := hc
  rw [show start0 (["value", "low", "high"] : List Str) [v, .int lo, .int hi] = [some (.val (v)), some (.val (.int lo)), some (.val (.int hi))] from rfl]
  cases v with
  | int i =>
    simp only [dRet, dRetN, dSeq, dPar, dPar3, dCons, dNil, dCaB, dVar, dC, dCmpT, dCmp, dU, dB, dAndV, dOrV, dNotV, dAnd, dOr, dNot, dIf, dTup, dLst, dChain, dChainT, dTest, dIsi, dAsg, dDrop, dIfS, gN, gT, gs0, gs1, dAug, dNext, dRaise, dCall, dYes, topE, List.getElem?_cons_succ, List.getElem?_cons_zero, List.set_cons_zero, List.set_cons_succ, Option.some.injEq, S.val.injEq, exists_eq_left', exists_eq_left, exists_and_left, and_assoc, List.cons.injEq, and_true, true_and, PyData.int.injEq, PyData.bool.injEq, PyData.tuple.injEq, PyData.list.injEq, absD_i, maxD_i, addD_i, subD_i, negD_i, iaddD_i, mulD_e, fdivD_e, ifdivD_e, modD_e, leD_i, ltD_i, gtD_i, geD_i, lenD_t, lenD_l, isNd_n, notNd_n, isBd_b, notBd_b, isNonD_i, isNonD_n, isNonD_t, isNonD_l, eqD_int, neD_int, eqD_bool, neD_bool, eqD_fr, neD_fr, ix_fr0, ix_fr1, kit_int, kit_bool, kit_str, kit_tuple, decide_eq_true_eq, Bool.not_eq_true', decide_eq_false_iff_not, line_nil, line1, line2, if_true, if_false, yInt, yBool, if_true]
    have e : isIntB (.int i) lo hi = decide (lo ≤ i ∧ i ≤ hi) := rfl
    rw [e] at hq
    by_cases h : lo ≤ i
    · rw [if_pos h]
      have e2 : decide (lo ≤ i ∧ i ≤ hi) = decide (i ≤ hi) := by simp [h]
      rw [e2] at hq
      exact hq
    · rw [if_neg h]
      have e2 : decide (lo ≤ i ∧ i ≤ hi) = false := by simp [h]
      rw [e2] at hq
      exact hq
  | none => simp only [dRet, dRetN, dSeq, dPar, dPar3, dCons, dNil, dCaB, dVar, dC, dCmpT, dCmp, dU, dB, dAndV, dOrV, dNotV, dAnd, dOr, dNot, dIf, dTup, dLst, dChain, dChainT, dTest, dIsi, dAsg, dDrop, dIfS, gN, gT, gs0, gs1, dAug, dNext, dRaise, dCall, dYes, topE, List.getElem?_cons_succ, List.getElem?_cons_zero, List.set_cons_zero, List.set_cons_succ, Option.some.injEq, S.val.injEq, exists_eq_left', exists_eq_left, exists_and_left, and_assoc, List.cons.injEq, and_true, true_and, PyData.int.injEq, PyData.bool.injEq, PyData.tuple.injEq, PyData.list.injEq, absD_i, maxD_i, addD_i, subD_i, negD_i, iaddD_i, mulD_e, fdivD_e, ifdivD_e, modD_e, leD_i, ltD_i, gtD_i, geD_i, lenD_t, lenD_l, isNd_n, notNd_n, isBd_b, notBd_b, isNonD_i, isNonD_n, isNonD_t, isNonD_l, eqD_int, neD_int, eqD_bool, neD_bool, eqD_fr, neD_fr, ix_fr0, ix_fr1, kit_int, kit_bool, kit_str, kit_tuple, decide_eq_true_eq, Bool.not_eq_true', decide_eq_false_iff_not, line_nil, line1, line2, if_true, if_false, yInt, Bool.false_eq_true, if_false]; exact hq
  | bool b => simp only [dRet, dRetN, dSeq, dPar, dPar3, dCons, dNil, dCaB, dVar, dC, dCmpT, dCmp, dU, dB, dAndV, dOrV, dNotV, dAnd, dOr, dNot, dIf, dTup, dLst, dChain, dChainT, dTest, dIsi, dAsg, dDrop, dIfS, gN, gT, gs0, gs1, dAug, dNext, dRaise, dCall, dYes, topE, List.getElem?_cons_succ, List.getElem?_cons_zero, List.set_cons_zero, List.set_cons_succ, Option.some.injEq, S.val.injEq, exists_eq_left', exists_eq_left, exists_and_left, and_assoc, List.cons.injEq, and_true, true_and, PyData.int.injEq, PyData.bool.injEq, PyData.tuple.injEq, PyData.list.injEq, absD_i, maxD_i, addD_i, subD_i, negD_i, iaddD_i, mulD_e, fdivD_e, ifdivD_e, modD_e, leD_i, ltD_i, gtD_i, geD_i, lenD_t, lenD_l, isNd_n, notNd_n, isBd_b, notBd_b, isNonD_i, isNonD_n, isNonD_t, isNonD_l, eqD_int, neD_int, eqD_bool, neD_bool, eqD_fr, neD_fr, ix_fr0, ix_fr1, kit_int, kit_bool, kit_str, kit_tuple, decide_eq_true_eq, Bool.not_eq_true', decide_eq_false_iff_not, line_nil, line1, line2, if_true, if_false, yInt, yBool, Bool.true_eq_false, Bool.false_eq_true, if_true, if_false]; exact hq
  | str x => simp only [dRet, dRetN, dSeq, dPar, dPar3, dCons, dNil, dCaB, dVar, dC, dCmpT, dCmp, dU, dB, dAndV, dOrV, dNotV, dAnd, dOr, dNot, dIf, dTup, dLst, dChain, dChainT, dTest, dIsi, dAsg, dDrop, dIfS, gN, gT, gs0, gs1, dAug, dNext, dRaise, dCall, dYes, topE, List.getElem?_cons_succ, List.getElem?_cons_zero, List.set_cons_zero, List.set_cons_succ, Option.some.injEq, S.val.injEq, exists_eq_left', exists_eq_left, exists_and_left, and_assoc, List.cons.injEq, and_true, true_and, PyData.int.injEq, PyData.bool.injEq, PyData.tuple.injEq, PyData.list.injEq, absD_i, maxD_i, addD_i, subD_i, negD_i, iaddD_i, mulD_e, fdivD_e, ifdivD_e, modD_e, leD_i, ltD_i, gtD_i, geD_i, lenD_t, lenD_l, isNd_n, notNd_n, isBd_b, notBd_b, isNonD_i, isNonD_n, isNonD_t, isNonD_l, eqD_int, neD_int, eqD_bool, neD_bool, eqD_fr, neD_fr, ix_fr0, ix_fr1, kit_int, kit_bool, kit_str, kit_tuple, decide_eq_true_eq, Bool.not_eq_true', decide_eq_false_iff_not, line_nil, line1, line2, if_true, if_false, yInt, Bool.false_eq_true, if_false]; exact hq
  | list x => simp only [dRet, dRetN, dSeq, dPar, dPar3, dCons, dNil, dCaB, dVar, dC, dCmpT, dCmp, dU, dB, dAndV, dOrV, dNotV, dAnd, dOr, dNot, dIf, dTup, dLst, dChain, dChainT, dTest, dIsi, dAsg, dDrop, dIfS, gN, gT, gs0, gs1, dAug, dNext, dRaise, dCall, dYes, topE, List.getElem?_cons_succ, List.getElem?_cons_zero, List.set_cons_zero, List.set_cons_succ, Option.some.injEq, S.val.injEq, exists_eq_left', exists_eq_left, exists_and_left, and_assoc, List.cons.injEq, and_true, true_and, PyData.int.injEq, PyData.bool.injEq, PyData.tuple.injEq, PyData.list.injEq, absD_i, maxD_i, addD_i, subD_i, negD_i, iaddD_i, mulD_e, fdivD_e, ifdivD_e, modD_e, leD_i, ltD_i, gtD_i, geD_i, lenD_t, lenD_l, isNd_n, notNd_n, isBd_b, notBd_b, isNonD_i, isNonD_n, isNonD_t, isNonD_l, eqD_int, neD_int, eqD_bool, neD_bool, eqD_fr, neD_fr, ix_fr0, ix_fr1, kit_int, kit_bool, kit_str, kit_tuple, decide_eq_true_eq, Bool.not_eq_true', decide_eq_false_iff_not, line_nil, line1, line2, if_true, if_false, yInt, Bool.false_eq_true, if_false]; exact hq
  | tuple x => simp only [dRet, dRetN, dSeq, dPar, dPar3, dCons, dNil, dCaB, dVar, dC, dCmpT, dCmp, dU, dB, dAndV, dOrV, dNotV, dAnd, dOr, dNot, dIf, dTup, dLst, dChain, dChainT, dTest, dIsi, dAsg, dDrop, dIfS, gN, gT, gs0, gs1, dAug, dNext, dRaise, dCall, dYes, topE, List.getElem?_cons_succ, List.getElem?_cons_zero, List.set_cons_zero, List.set_cons_succ, Option.some.injEq, S.val.injEq, exists_eq_left', exists_eq_left, exists_and_left, and_assoc, List.cons.injEq, and_true, true_and, PyData.int.injEq, PyData.bool.injEq, PyData.tuple.injEq, PyData.list.injEq, absD_i, maxD_i, addD_i, subD_i, negD_i, iaddD_i, mulD_e, fdivD_e, ifdivD_e, modD_e, leD_i, ltD_i, gtD_i, geD_i, lenD_t, lenD_l, isNd_n, notNd_n, isBd_b, notBd_b, isNonD_i, isNonD_n, isNonD_t, isNonD_l, eqD_int, neD_int, eqD_bool, neD_bool, eqD_fr, neD_fr, ix_fr0, ix_fr1, kit_int, kit_bool, kit_str, kit_tuple, decide_eq_true_eq, Bool.not_eq_true', decide_eq_false_iff_not, line_nil, line1, line2, if_true, if_false, yInt, Bool.false_eq_true, if_false]; exact hq
  | dict x => simp only [dRet, dRetN, dSeq, dPar, dPar3, dCons, dNil, dCaB, dVar, dC, dCmpT, dCmp, dU, dB, dAndV, dOrV, dNotV, dAnd, dOr, dNot, dIf, dTup, dLst, dChain, dChainT, dTest, dIsi, dAsg, dDrop, dIfS, gN, gT, gs0, gs1, dAug, dNext, dRaise, dCall, dYes, topE, List.getElem?_cons_succ, List.getElem?_cons_zero, List.set_cons_zero, List.set_cons_succ, Option.some.injEq, S.val.injEq, exists_eq_left', exists_eq_left, exists_and_left, and_assoc, List.cons.injEq, and_true, true_and, PyData.int.injEq, PyData.bool.injEq, PyData.tuple.injEq, PyData.list.injEq, absD_i, maxD_i, addD_i, subD_i, negD_i, iaddD_i, mulD_e, fdivD_e, ifdivD_e, modD_e, leD_i, ltD_i, gtD_i, geD_i, lenD_t, lenD_l, isNd_n, notNd_n, isBd_b, notBd_b, isNonD_i, isNonD_n, isNonD_t, isNonD_l, eqD_int, neD_int, eqD_bool, neD_bool, eqD_fr, neD_fr, ix_fr0, ix_fr1, kit_int, kit_bool, kit_str, kit_tuple, decide_eq_true_eq, Bool.not_eq_true', decide_eq_false_iff_not, line_nil, line1, line2, if_true, if_false, yInt, Bool.false_eq_true, if_false]; exact hq
theorem c_is_int_e (v : PyData) (lo hi : Int) (q : Res → Prop) : c_is_int [v, .int lo, .int hi] q ↔ q (.ok (.bool (isIntB v lo hi))) :=
  ⟨fun ⟨_, _, _, e, h⟩ => by cases e; exact h, fun h => ⟨_, _, _, rfl, h⟩⟩
abbrev s_is_fraction : Stmt := topS 13
theorem sc_is_fraction : FnScope ["value"] ["value"] (defScope s_is_fraction) := ⟨rfl, rfl, rfl, by decide +kernel, rfl, by decide +kernel, by decide +kernel⟩
def c_is_fraction : Ct := fun ds q => ∃ v, ds = [v] ∧ q (.ok (.bool (isFracB v)))
theorem ok_is_fraction (F : Fun K "is_fraction" "is_fraction" s_is_fraction f fd) (F_common : Fd P w K mg base ca "common" c_common 2 1) (F_is_int : Fd P w K mg base ca "is_int" c_is_int 3 1) (m_isinstance : mg "isinstance" = none) (m_len : mg "len" = none) (m_tuple : mg "tuple" = none) (g_MOST_UNDER : ∃ t, mg "MOST_UNDER" = some (.int 60 t)) : FnOk P w K mg base (L2.CX P w) 2 f fd ["value"] (spD K ca c_is_fraction 1) := by
  refine fn_ok F sc_is_fraction rfl (fun cdv A outer s H E hr tk po hu hu5 => ?_)
  refine ⟨_, _, pdb_cons (pds_if (PDW.pt (pdw_or (pdt_not (pdt_val (pd_isi (K := K) (pd_var (pv 0)) rfl m_isinstance (pe_bltn (v := .ty "tuple") rfl m_tuple boot_tuple rfl)))) (pdw_or1 (pdt_cmp (r := rNeD K) (op_neD hu) cm_ne (pd_callB (r := rLenA K) call_lenA cd_len (by rfl) m_len boot_len (pda_cons (pd_var (pv 0)) pda_nil)) (PD.pv pd_int) (nomark _))))) (pdb_one (pds_ret pd_bl)) (pdb_nil))
      (pdb_cons (pds_if (PDW.pt (pdw_or (pdt_not (pdt_val (pd_fn F_is_int (hr.mono (by decide)) (by rfl) tk (pda_cons (pd_ix (r := rIx K) ix_seq od_ix (pd_var (pv 0)) pd_int (fun _ _ => rfl)) (pda_cons pd_int (pda_cons (pd_gint (by rfl) g_MOST_UNDER) pda_nil)))))) (pdw_or1 (pdt_not (pdt_val (pd_fn F_is_int (hr.mono (by decide)) (by rfl) tk (pda_cons (pd_ix (r := rIx K) ix_seq od_ix (pd_var (pv 0)) pd_int (fun _ _ => rfl)) (pda_cons (pd_op op_mul od_mul (pd_un un_neg ud_neg pd_int) (pd_ix (r := rIx K) ix_seq od_ix (pd_var (pv 0)) pd_int (fun _ _ => rfl))) (pda_cons (pd_op op_mul od_mul pd_int (pd_ix (r := rIx K) ix_seq od_ix (pd_var (pv 0)) pd_int (fun _ _ => rfl))) pda_nil))))))))) (pdb_one (pds_ret pd_bl)) (pdb_nil))
      (pdb_one (pds_ret (pd_cmp (r := rEqD K) (op_eqD hu) cm_eq (pd_fn F_common (hr.mono (by decide)) (by rfl) tk (pda_cons (pd_ix (r := rIx K) ix_seq od_ix (pd_var (pv 0)) pd_int (fun _ _ => rfl)) (pda_cons (pd_ix (r := rIx K) ix_seq od_ix (pd_var (pv 0)) pd_int (fun _ _ => rfl)) pda_nil))) (PD.pv pd_int) (nomark _))))), ?_⟩
  clear hr tk po hu hu5
  intro ds q hl hc
  obtain ⟨v, rfl, hq⟩ := hc
  rw [show start0 (["value"] : List Str) [v] = [some (.val (v))] from rfl]
  cases v with
  | tuple xs =>
    match xs with
    | [] => rw [isFracB_no (by intro p n z; simp at z)] at hq; simp only [dRet, dRetN, dSeq, dPar, dPar3, dCons, dNil, dCaB, dVar, dC, dCmpT, dCmp, dU, dB, dAndV, dOrV, dNotV, dAnd, dOr, dNot, dIf, dTup, dLst, dChain, dChainT, dTest, dIsi, dAsg, dDrop, dIfS, gN, gT, gs0, gs1, dAug, dNext, dRaise, dCall, dYes, topE, List.getElem?_cons_succ, List.getElem?_cons_zero, List.set_cons_zero, List.set_cons_succ, Option.some.injEq, S.val.injEq, exists_eq_left', exists_eq_left, exists_and_left, and_assoc, List.cons.injEq, and_true, true_and, PyData.int.injEq, PyData.bool.injEq, PyData.tuple.injEq, PyData.list.injEq, absD_i, maxD_i, addD_i, subD_i, negD_i, iaddD_i, mulD_e, fdivD_e, ifdivD_e, modD_e, leD_i, ltD_i, gtD_i, geD_i, lenD_t, lenD_l, isNd_n, notNd_n, isBd_b, notBd_b, isNonD_i, isNonD_n, isNonD_t, isNonD_l, eqD_int, neD_int, eqD_bool, neD_bool, eqD_fr, neD_fr, ix_fr0, ix_fr1, kit_int, kit_bool, kit_str, kit_tuple, decide_eq_true_eq, Bool.not_eq_true', decide_eq_false_iff_not, line_nil, line1, line2, if_true, if_false, yTup, Bool.true_eq_false, if_false]; simpa using hq
    | [x] => rw [isFracB_no (by intro p n z; simp at z)] at hq; simp only [dRet, dRetN, dSeq, dPar, dPar3, dCons, dNil, dCaB, dVar, dC, dCmpT, dCmp, dU, dB, dAndV, dOrV, dNotV, dAnd, dOr, dNot, dIf, dTup, dLst, dChain, dChainT, dTest, dIsi, dAsg, dDrop, dIfS, gN, gT, gs0, gs1, dAug, dNext, dRaise, dCall, dYes, topE, List.getElem?_cons_succ, List.getElem?_cons_zero, List.set_cons_zero, List.set_cons_succ, Option.some.injEq, S.val.injEq, exists_eq_left', exists_eq_left, exists_and_left, and_assoc, List.cons.injEq, and_true, true_and, PyData.int.injEq, PyData.bool.injEq, PyData.tuple.injEq, PyData.list.injEq, absD_i, maxD_i, addD_i, subD_i, negD_i, iaddD_i, mulD_e, fdivD_e, ifdivD_e, modD_e, leD_i, ltD_i, gtD_i, geD_i, lenD_t, lenD_l, isNd_n, notNd_n, isBd_b, notBd_b, isNonD_i, isNonD_n, isNonD_t, isNonD_l, eqD_int, neD_int, eqD_bool, neD_bool, eqD_fr, neD_fr, ix_fr0, ix_fr1, kit_int, kit_bool, kit_str, kit_tuple, decide_eq_true_eq, Bool.not_eq_true', decide_eq_false_iff_not, line_nil, line1, line2, if_true, if_false, yTup, Bool.true_eq_false, if_false]; simpa using hq
    | x :: y :: z :: r =>
      simp only [dRet, dRetN, dSeq, dPar, dPar3, dCons, dNil, dCaB, dVar, dC, dCmpT, dCmp, dU, dB, dAndV, dOrV, dNotV, dAnd, dOr, dNot, dIf, dTup, dLst, dChain, dChainT, dTest, dIsi, dAsg, dDrop, dIfS, gN, gT, gs0, gs1, dAug, dNext, dRaise, dCall, dYes, topE, List.getElem?_cons_succ, List.getElem?_cons_zero, List.set_cons_zero, List.set_cons_succ, Option.some.injEq, S.val.injEq, exists_eq_left', exists_eq_left, exists_and_left, and_assoc, List.cons.injEq, and_true, true_and, PyData.int.injEq, PyData.bool.injEq, PyData.tuple.injEq, PyData.list.injEq, absD_i, maxD_i, addD_i, subD_i, negD_i, iaddD_i, mulD_e, fdivD_e, ifdivD_e, modD_e, leD_i, ltD_i, gtD_i, geD_i, lenD_t, lenD_l, isNd_n, notNd_n, isBd_b, notBd_b, isNonD_i, isNonD_n, isNonD_t, isNonD_l, eqD_int, neD_int, eqD_bool, neD_bool, eqD_fr, neD_fr, ix_fr0, ix_fr1, kit_int, kit_bool, kit_str, kit_tuple, decide_eq_true_eq, Bool.not_eq_true', decide_eq_false_iff_not, line_nil, line1, line2, if_true, if_false, yTup, Bool.true_eq_false, if_false]
      rw [if_pos (by simp only [List.length_cons]; omega)]
      rw [isFracB_no (by intro p n z; simp at z)] at hq
      exact hq
    | [x, y] =>
      simp only [dRet, dRetN, dSeq, dPar, dPar3, dCons, dNil, dCaB, dVar, dC, dCmpT, dCmp, dU, dB, dAndV, dOrV, dNotV, dAnd, dOr, dNot, dIf, dTup, dLst, dChain, dChainT, dTest, dIsi, dAsg, dDrop, dIfS, gN, gT, gs0, gs1, dAug, dNext, dRaise, dCall, dYes, topE, List.getElem?_cons_succ, List.getElem?_cons_zero, List.set_cons_zero, List.set_cons_succ, Option.some.injEq, S.val.injEq, exists_eq_left', exists_eq_left, exists_and_left, and_assoc, List.cons.injEq, and_true, true_and, PyData.int.injEq, PyData.bool.injEq, PyData.tuple.injEq, PyData.list.injEq, absD_i, maxD_i, addD_i, subD_i, negD_i, iaddD_i, mulD_e, fdivD_e, ifdivD_e, modD_e, leD_i, ltD_i, gtD_i, geD_i, lenD_t, lenD_l, isNd_n, notNd_n, isBd_b, notBd_b, isNonD_i, isNonD_n, isNonD_t, isNonD_l, eqD_int, neD_int, eqD_bool, neD_bool, eqD_fr, neD_fr, ix_fr0, ix_fr1, kit_int, kit_bool, kit_str, kit_tuple, decide_eq_true_eq, Bool.not_eq_true', decide_eq_false_iff_not, line_nil, line1, line2, if_true, if_false, yTup, Bool.true_eq_false, if_false, c_is_int_e, c_common_e]
      rw [if_neg (by simp)]
      cases y with
      | int n =>
        by_cases h1 : 1 ≤ n ∧ n ≤ 60
        · have e1 : isIntB (.int n) 1 60 = true := by simp [isIntB, h1]
          rw [e1, if_neg (by simp)]
          simp only [dRet, dRetN, dSeq, dPar, dPar3, dCons, dNil, dCaB, dVar, dC, dCmpT, dCmp, dU, dB, dAndV, dOrV, dNotV, dAnd, dOr, dNot, dIf, dTup, dLst, dChain, dChainT, dTest, dIsi, dAsg, dDrop, dIfS, gN, gT, gs0, gs1, dAug, dNext, dRaise, dCall, dYes, topE, List.getElem?_cons_succ, List.getElem?_cons_zero, List.set_cons_zero, List.set_cons_succ, Option.some.injEq, S.val.injEq, exists_eq_left', exists_eq_left, exists_and_left, and_assoc, List.cons.injEq, and_true, true_and, PyData.int.injEq, PyData.bool.injEq, PyData.tuple.injEq, PyData.list.injEq, absD_i, maxD_i, addD_i, subD_i, negD_i, iaddD_i, mulD_e, fdivD_e, ifdivD_e, modD_e, leD_i, ltD_i, gtD_i, geD_i, lenD_t, lenD_l, isNd_n, notNd_n, isBd_b, notBd_b, isNonD_i, isNonD_n, isNonD_t, isNonD_l, eqD_int, neD_int, eqD_bool, neD_bool, eqD_fr, neD_fr, ix_fr0, ix_fr1, kit_int, kit_bool, kit_str, kit_tuple, decide_eq_true_eq, Bool.not_eq_true', decide_eq_false_iff_not, line_nil, line1, line2, if_true, if_false, c_is_int_e, c_common_e]
          refine ⟨mulOk_l (by omega) (by omega), mulOk_l (by omega) (by omega), ?_⟩
          cases x with
          | int p =>
            by_cases h2 : -100 * n ≤ p ∧ p ≤ 100 * n
            · have e2 : isIntB (.int p) (-100 * n) (100 * n) = true := by simp only [isIntB, h2]; rfl
              rw [e2, if_neg (by simp)]
              have e3 : isFracB (.tuple [.int p, .int n]) = decide (gcdI p n = 1) := by
                unfold isFracB gcdI
                have : (Int.gcd p n = 1) ↔ ((Int.gcd p n : Int) = 1) := by omega
                simp [h1.1, h1.2, h2.1, h2.2, this]
              rw [e3] at hq
              simp only [dRet, dRetN, dSeq, dPar, dPar3, dCons, dNil, dCaB, dVar, dC, dCmpT, dCmp, dU, dB, dAndV, dOrV, dNotV, dAnd, dOr, dNot, dIf, dTup, dLst, dChain, dChainT, dTest, dIsi, dAsg, dDrop, dIfS, gN, gT, gs0, gs1, dAug, dNext, dRaise, dCall, dYes, topE, List.getElem?_cons_succ, List.getElem?_cons_zero, List.set_cons_zero, List.set_cons_succ, Option.some.injEq, S.val.injEq, exists_eq_left', exists_eq_left, exists_and_left, and_assoc, List.cons.injEq, and_true, true_and, PyData.int.injEq, PyData.bool.injEq, PyData.tuple.injEq, PyData.list.injEq, absD_i, maxD_i, addD_i, subD_i, negD_i, iaddD_i, mulD_e, fdivD_e, ifdivD_e, modD_e, leD_i, ltD_i, gtD_i, geD_i, lenD_t, lenD_l, isNd_n, notNd_n, isBd_b, notBd_b, isNonD_i, isNonD_n, isNonD_t, isNonD_l, eqD_int, neD_int, eqD_bool, neD_bool, eqD_fr, neD_fr, ix_fr0, ix_fr1, kit_int, kit_bool, kit_str, kit_tuple, decide_eq_true_eq, Bool.not_eq_true', decide_eq_false_iff_not, line_nil, line1, line2, if_true, if_false, c_common_e]
              exact hq
            · have e2 : isIntB (.int p) (-100 * n) (100 * n) = false := by simp only [isIntB, h2]; rfl
              rw [e2, if_pos rfl]
              have e3 : isFracB (.tuple [.int p, .int n]) = false := by
                unfold isFracB
                simp only [decide_eq_false_iff_not]
                intro z
                exact h2 ⟨z.2.2.1, z.2.2.2.1⟩
              rw [e3] at hq
              exact hq
          | _ => rw [isFracB_no (by intro p n z; simp at z)] at hq; simpa [isIntB] using hq
        · have e1 : isIntB (.int n) 1 60 = false := by simp only [isIntB, h1]; rfl
          rw [e1, if_pos rfl]
          have e3 : isFracB (.tuple [x, .int n]) = false := by
            cases x with
            | int p =>
              unfold isFracB
              simp only [decide_eq_false_iff_not]
              intro z
              exact h1 ⟨z.1, z.2.1⟩
            | _ => rfl
          rw [e3] at hq
          exact hq
      | _ => rw [isFracB_no (by intro p n z; simp at z)] at hq; simpa [isIntB] using hq
  | _ => rw [isFracB_no (by intro p n z; simp at z)] at hq; simp only [dRet, dRetN, dSeq, dPar, dPar3, dCons, dNil, dCaB, dVar, dC, dCmpT, dCmp, dU, dB, dAndV, dOrV, dNotV, dAnd, dOr, dNot, dIf, dTup, dLst, dChain, dChainT, dTest, dIsi, dAsg, dDrop, dIfS, gN, gT, gs0, gs1, dAug, dNext, dRaise, dCall, dYes, topE, List.getElem?_cons_succ, List.getElem?_cons_zero, List.set_cons_zero, List.set_cons_succ, Option.some.injEq, S.val.injEq, exists_eq_left', exists_eq_left, exists_and_left, and_assoc, List.cons.injEq, and_true, true_and, PyData.int.injEq, PyData.bool.injEq, PyData.tuple.injEq, PyData.list.injEq, absD_i, maxD_i, addD_i, subD_i, negD_i, iaddD_i, mulD_e, fdivD_e, ifdivD_e, modD_e, leD_i, ltD_i, gtD_i, geD_i, lenD_t, lenD_l, isNd_n, notNd_n, isBd_b, notBd_b, isNonD_i, isNonD_n, isNonD_t, isNonD_l, eqD_int, neD_int, eqD_bool, neD_bool, eqD_fr, neD_fr, ix_fr0, ix_fr1, kit_int, kit_bool, kit_str, kit_tuple, decide_eq_true_eq, Bool.not_eq_true', decide_eq_false_iff_not, line_nil, line1, line2, if_true, if_false, yTup, if_true]; simpa using hq
theorem c_is_fraction_e (v : PyData) (q : Res → Prop) : c_is_fraction [v] q ↔ q (.ok (.bool (isFracB v))) :=
  ⟨fun ⟨_, e, h⟩ => by cases e; exact h, fun h => ⟨_, rfl, h⟩⟩
abbrev s_check_fraction : Stmt := topS 14
theorem sc_check_fraction : FnScope ["value"] ["value"] (defScope s_check_fraction) := ⟨rfl, rfl, rfl, by decide +kernel, rfl, by decide +kernel, by decide +kernel⟩
def c_check_fraction : Ct := fun ds q => ∃ v, ds = [v] ∧ q (if isFracB v = true then .ok .none else .er .frac)
theorem ok_check_fraction (F : Fun K "check_fraction" "check_fraction" s_check_fraction f fd) (F_is_fraction : Fd P w K mg base ca "is_fraction" c_is_fraction 1 2) (X_frac : Xf K mg "BadFraction" (ca .frac)) : FnOk P w K mg base (L2.CX P w) 3 f fd ["value"] (spD K ca c_check_fraction 1) := by
  refine fn_ok F sc_check_fraction rfl (fun cdv A outer s H E hr tk po hu hu5 => ?_)
  refine ⟨_, _, pdb_one (pds_if (pdt_not (pdt_val (pd_fn F_is_fraction (hr.mono (by decide)) (by rfl) tk (pda_cons (pd_var (pv 0)) pda_nil)))) (pdb_one (pds_raise (er := .frac) X_frac rfl tk rfl)) (pdb_nil)), ?_⟩
  clear hr tk po hu hu5
  intro ds q hl hc
  obtain ⟨v, rfl, hq⟩ := hc
  rw [show start0 (["value"] : List Str) [v] = [some (.val (v))] from rfl]
  simp only [dRet, dRetN, dSeq, dPar, dPar3, dCons, dNil, dCaB, dVar, dC, dCmpT, dCmp, dU, dB, dAndV, dOrV, dNotV, dAnd, dOr, dNot, dIf, dTup, dLst, dChain, dChainT, dTest, dIsi, dAsg, dDrop, dIfS, gN, gT, gs0, gs1, dAug, dNext, dRaise, dCall, dYes, topE, List.getElem?_cons_succ, List.getElem?_cons_zero, List.set_cons_zero, List.set_cons_succ, Option.some.injEq, S.val.injEq, exists_eq_left', exists_eq_left, exists_and_left, and_assoc, List.cons.injEq, and_true, true_and, PyData.int.injEq, PyData.bool.injEq, PyData.tuple.injEq, PyData.list.injEq, absD_i, maxD_i, addD_i, subD_i, negD_i, iaddD_i, mulD_e, fdivD_e, ifdivD_e, modD_e, leD_i, ltD_i, gtD_i, geD_i, lenD_t, lenD_l, isNd_n, notNd_n, isBd_b, notBd_b, isNonD_i, isNonD_n, isNonD_t, isNonD_l, eqD_int, neD_int, eqD_bool, neD_bool, eqD_fr, neD_fr, ix_fr0, ix_fr1, kit_int, kit_bool, kit_str, kit_tuple, decide_eq_true_eq, Bool.not_eq_true', decide_eq_false_iff_not, line_nil, line1, line2, if_true, if_false, c_is_fraction_e]
  cases h : isFracB v with
  | true => rw [h, if_pos rfl] at hq; simpa using hq
  | false => rw [h, if_neg Bool.false_ne_true] at hq; simpa using hq
theorem c_check_fraction_e (v : PyData) (q : Res → Prop) : c_check_fraction [v] q ↔ q (if isFracB v = true then .ok .none else .er .frac) :=
  ⟨fun ⟨_, e, h⟩ => by cases e; exact h, fun h => ⟨_, rfl, h⟩⟩
abbrev s_check_digits : Stmt := topS 16
theorem sc_check_digits : FnScope ["value"] ["value"] (defScope s_check_digits) := ⟨rfl, rfl, rfl, by decide +kernel, rfl, by decide +kernel, by decide +kernel⟩
def c_check_digits : Ct := fun ds q => ∃ v, ds = [v] ∧ q (if isIntB v 0 6 = true then .ok .none else .er .num)
theorem ok_check_digits (F : Fun K "check_digits" "check_digits" s_check_digits f fd) (F_is_int : Fd P w K mg base ca "is_int" c_is_int 3 1) (g_MOST_DIGITS : ∃ t, mg "MOST_DIGITS" = some (.int 6 t)) (X_num : Xf K mg "BadNumber" (ca .num)) : FnOk P w K mg base (L2.CX P w) 2 f fd ["value"] (spD K ca c_check_digits 1) := by
  refine fn_ok F sc_check_digits rfl (fun cdv A outer s H E hr tk po hu hu5 => ?_)
  refine ⟨_, _, pdb_one (pds_if (pdt_not (pdt_val (pd_fn F_is_int (hr.mono (by decide)) (by rfl) tk (pda_cons (pd_var (pv 0)) (pda_cons pd_int (pda_cons (pd_gint (by rfl) g_MOST_DIGITS) pda_nil)))))) (pdb_one (pds_raise (er := .num) X_num rfl tk rfl)) (pdb_nil)), ?_⟩
  clear hr tk po hu hu5
  intro ds q hl hc
  obtain ⟨v, rfl, hq⟩ := hc
  rw [show start0 (["value"] : List Str) [v] = [some (.val (v))] from rfl]
  simp only [dRet, dRetN, dSeq, dPar, dPar3, dCons, dNil, dCaB, dVar, dC, dCmpT, dCmp, dU, dB, dAndV, dOrV, dNotV, dAnd, dOr, dNot, dIf, dTup, dLst, dChain, dChainT, dTest, dIsi, dAsg, dDrop, dIfS, gN, gT, gs0, gs1, dAug, dNext, dRaise, dCall, dYes, topE, List.getElem?_cons_succ, List.getElem?_cons_zero, List.set_cons_zero, List.set_cons_succ, Option.some.injEq, S.val.injEq, exists_eq_left', exists_eq_left, exists_and_left, and_assoc, List.cons.injEq, and_true, true_and, PyData.int.injEq, PyData.bool.injEq, PyData.tuple.injEq, PyData.list.injEq, absD_i, maxD_i, addD_i, subD_i, negD_i, iaddD_i, mulD_e, fdivD_e, ifdivD_e, modD_e, leD_i, ltD_i, gtD_i, geD_i, lenD_t, lenD_l, isNd_n, notNd_n, isBd_b, notBd_b, isNonD_i, isNonD_n, isNonD_t, isNonD_l, eqD_int, neD_int, eqD_bool, neD_bool, eqD_fr, neD_fr, ix_fr0, ix_fr1, kit_int, kit_bool, kit_str, kit_tuple, decide_eq_true_eq, Bool.not_eq_true', decide_eq_false_iff_not, line_nil, line1, line2, if_true, if_false, c_is_int_e]
  cases h : isIntB v 0 6 with
  | true => rw [h, if_pos rfl] at hq; simpa using hq
  | false => rw [h, if_neg Bool.false_ne_true] at hq; simpa using hq
theorem c_check_digits_e (v : PyData) (q : Res → Prop) : c_check_digits [v] q ↔ q (if isIntB v 0 6 = true then .ok .none else .er .num) :=
  ⟨fun ⟨_, e, h⟩ => by cases e; exact h, fun h => ⟨_, rfl, h⟩⟩
abbrev s_check_rule : Stmt := topS 15
theorem sc_check_rule : FnScope ["value"] ["value"] (defScope s_check_rule) := ⟨rfl, rfl, rfl, by decide +kernel, rfl, by decide +kernel, by decide +kernel⟩
def c_check_rule : Ct := fun ds q => ∃ v, ds = [v] ∧ q (if isRuleB v = true then .ok .none else .er .rul)
theorem ok_check_rule (F : Fun K "check_rule" "check_rule" s_check_rule f fd) (m_isinstance : mg "isinstance" = none) (m_str : mg "str" = none) {a_RULES : Addr} (g_RULES : mg "RULES" = some (.ref a_RULES)) (d_RULES : ∀ H, Dv K H (.ref a_RULES) (.tuple rulesD)) (X_rul : Xf K mg "BadRule" (ca .rul)) : FnOk P w K mg base (L2.CX P w) 1 f fd ["value"] (spD K ca c_check_rule 1) := by
  refine fn_ok F sc_check_rule rfl (fun cdv A outer s H E hr tk po hu hu5 => ?_)
  refine ⟨_, _, pdb_one (pds_if (PDW.pt (pdw_or (pdt_not (pdt_val (pd_isi (K := K) (pd_var (pv 0)) rfl m_isinstance (pe_bltn (v := .ty "str") rfl m_str boot_str rfl)))) (pdw_or1 (pdt_cmp (r := rIn K true) op_notIn_seq cm_notInT (pd_var (pv 0)) (PD.pv (pd_gtup (by rfl) g_RULES d_RULES)) (by rfl))))) (pdb_one (pds_raise (er := .rul) X_rul rfl tk rfl)) (pdb_nil)), ?_⟩
  clear hr tk po hu hu5
  intro ds q hl hc
  obtain ⟨v, rfl, hq⟩ := hc
  rw [show start0 (["value"] : List Str) [v] = [some (.val (v))] from rfl]
  cases v with
  | str x =>
    simp only [dRet, dRetN, dSeq, dPar, dPar3, dCons, dNil, dCaB, dVar, dC, dCmpT, dCmp, dU, dB, dAndV, dOrV, dNotV, dAnd, dOr, dNot, dIf, dTup, dLst, dChain, dChainT, dTest, dIsi, dAsg, dDrop, dIfS, gN, gT, gs0, gs1, dAug, dNext, dRaise, dCall, dYes, topE, List.getElem?_cons_succ, List.getElem?_cons_zero, List.set_cons_zero, List.set_cons_succ, Option.some.injEq, S.val.injEq, exists_eq_left', exists_eq_left, exists_and_left, and_assoc, List.cons.injEq, and_true, true_and, PyData.int.injEq, PyData.bool.injEq, PyData.tuple.injEq, PyData.list.injEq, absD_i, maxD_i, addD_i, subD_i, negD_i, iaddD_i, mulD_e, fdivD_e, ifdivD_e, modD_e, leD_i, ltD_i, gtD_i, geD_i, lenD_t, lenD_l, isNd_n, notNd_n, isBd_b, notBd_b, isNonD_i, isNonD_n, isNonD_t, isNonD_l, eqD_int, neD_int, eqD_bool, neD_bool, eqD_fr, neD_fr, ix_fr0, ix_fr1, kit_int, kit_bool, kit_str, kit_tuple, decide_eq_true_eq, Bool.not_eq_true', decide_eq_false_iff_not, line_nil, line1, line2, if_true, if_false, yStr, Bool.true_eq_false, if_false, notInRules]
    by_cases h : x ∈ ruAll.map ruS
    · have e : isRuleB (.str x) = true := by simp [isRuleB, h]
      rw [e, if_pos rfl] at hq
      rw [if_neg (by simp only [h, not_true]; exact not_false)]
      exact hq
    · have e : isRuleB (.str x) = false := by simp only [isRuleB, h]; rfl
      rw [e, if_neg Bool.false_ne_true] at hq
      rw [if_pos h]
      exact hq
  | _ => simp only [dRet, dRetN, dSeq, dPar, dPar3, dCons, dNil, dCaB, dVar, dC, dCmpT, dCmp, dU, dB, dAndV, dOrV, dNotV, dAnd, dOr, dNot, dIf, dTup, dLst, dChain, dChainT, dTest, dIsi, dAsg, dDrop, dIfS, gN, gT, gs0, gs1, dAug, dNext, dRaise, dCall, dYes, topE, List.getElem?_cons_succ, List.getElem?_cons_zero, List.set_cons_zero, List.set_cons_succ, Option.some.injEq, S.val.injEq, exists_eq_left', exists_eq_left, exists_and_left, and_assoc, List.cons.injEq, and_true, true_and, PyData.int.injEq, PyData.bool.injEq, PyData.tuple.injEq, PyData.list.injEq, absD_i, maxD_i, addD_i, subD_i, negD_i, iaddD_i, mulD_e, fdivD_e, ifdivD_e, modD_e, leD_i, ltD_i, gtD_i, geD_i, lenD_t, lenD_l, isNd_n, notNd_n, isBd_b, notBd_b, isNonD_i, isNonD_n, isNonD_t, isNonD_l, eqD_int, neD_int, eqD_bool, neD_bool, eqD_fr, neD_fr, ix_fr0, ix_fr1, kit_int, kit_bool, kit_str, kit_tuple, decide_eq_true_eq, Bool.not_eq_true', decide_eq_false_iff_not, line_nil, line1, line2, if_true, if_false, yStr, if_true]; simpa [isRuleB] using hq
theorem c_check_rule_e (v : PyData) (q : Res → Prop) : c_check_rule [v] q ↔ q (if isRuleB v = true then .ok .none else .er .rul) :=
  ⟨fun ⟨_, e, h⟩ => by cases e; exact h, fun h => ⟨_, rfl, h⟩⟩
abbrev s_power_of : Stmt := topS 18
theorem sc_power_of : FnScope ["digits", "found", "turn"] ["digits"] (defScope s_power_of) := ⟨rfl, rfl, rfl, by decide +kernel, rfl, by decide +kernel, by decide +kernel⟩
def c_power_of : Ct := fun ds q => ∃ d : Int, ds = [.int d] ∧ (0 ≤ d ∧ d ≤ 1000) ∧ q (.ok (.int (powT d)))
theorem ok_power_of (F : Fun K "power_of" "power_of" s_power_of f fd) (m_range : mg "range" = none) : FnOk P w K mg base (L2.CX P w) 1 f fd ["digits"] (spD K ca c_power_of 1) := by
  refine fn_ok F sc_power_of rfl (fun cdv A outer s H E hr tk po hu hu5 => ?_)
  refine ⟨_, _, pdb_cons (pds_set pd_int (fun h => ps_set (i := 1) sc_power_of.nd rfl (.inl rfl) h))
      (pdb_cons (pds_for po rfl (pdi_range1 rfl m_range (pda_cons (pd_var (pv 0)) pda_nil)) (pdg_name (pg_name (i := 2) sc_power_of.nd rfl (.inl rfl))) (pdb_one (pds_aug pd_int od_mul (fun h => ps_aug (i := 1) sc_power_of.nd rfl (.inl rfl) h iop_mul))))
      (pdb_one (pds_ret (pd_var (pv 1))))), ?_⟩
  clear hr tk po hu hu5
  intro ds q hl hc
  obtain ⟨d, rfl, hd, hq⟩ := hc
  rw [show start0 (["digits", "found", "turn"] : List Str) [.int d] = [some (.val (.int d)), none, none] from rfl]
  simp only [dRet, dRetN, dSeq, dPar, dPar3, dCons, dNil, dCaB, dVar, dC, dCmpT, dCmp, dU, dB, dAndV, dOrV, dNotV, dAnd, dOr, dNot, dIf, dTup, dLst, dChain, dChainT, dTest, dIsi, dAsg, dDrop, dIfS, gN, gT, gs0, gs1, dAug, dNext, dRaise, dCall, dYes, topE, List.getElem?_cons_succ, List.getElem?_cons_zero, List.set_cons_zero, List.set_cons_succ, Option.some.injEq, S.val.injEq, exists_eq_left', exists_eq_left, exists_and_left, and_assoc, List.cons.injEq, and_true, true_and, PyData.int.injEq, PyData.bool.injEq, PyData.tuple.injEq, PyData.list.injEq, absD_i, maxD_i, addD_i, subD_i, negD_i, iaddD_i, mulD_e, fdivD_e, ifdivD_e, modD_e, leD_i, ltD_i, gtD_i, geD_i, lenD_t, lenD_l, isNd_n, notNd_n, isBd_b, notBd_b, isNonD_i, isNonD_n, isNonD_t, isNonD_l, eqD_int, neD_int, eqD_bool, neD_bool, eqD_fr, neD_fr, ix_fr0, ix_fr1, kit_int, kit_bool, kit_str, kit_tuple, decide_eq_true_eq, Bool.not_eq_true', decide_eq_false_iff_not, line_nil, line1, line2, if_true, if_false, dFor, dRng1]
  refine ⟨by simp [small62]; omega, ?_⟩
  refine forW_rng (fun i l => ∃ t, l = [some (.val (.int d)), some (.val (.int (10 ^ i))), t]) (fun i l k hi h hk => ?_) (fun l h => ?_) _ ⟨none, rfl⟩
  · obtain ⟨t, rfl⟩ := h
    simp only [dRet, dRetN, dSeq, dPar, dPar3, dCons, dNil, dCaB, dVar, dC, dCmpT, dCmp, dU, dB, dAndV, dOrV, dNotV, dAnd, dOr, dNot, dIf, dTup, dLst, dChain, dChainT, dTest, dIsi, dAsg, dDrop, dIfS, gN, gT, gs0, gs1, dAug, dNext, dRaise, dCall, dYes, topE, List.getElem?_cons_succ, List.getElem?_cons_zero, List.set_cons_zero, List.set_cons_succ, Option.some.injEq, S.val.injEq, exists_eq_left', exists_eq_left, exists_and_left, and_assoc, List.cons.injEq, and_true, true_and, PyData.int.injEq, PyData.bool.injEq, PyData.tuple.injEq, PyData.list.injEq, absD_i, maxD_i, addD_i, subD_i, negD_i, iaddD_i, mulD_e, fdivD_e, ifdivD_e, modD_e, leD_i, ltD_i, gtD_i, geD_i, lenD_t, lenD_l, isNd_n, notNd_n, isBd_b, notBd_b, isNonD_i, isNonD_n, isNonD_t, isNonD_l, eqD_int, neD_int, eqD_bool, neD_bool, eqD_fr, neD_fr, ix_fr0, ix_fr1, kit_int, kit_bool, kit_str, kit_tuple, decide_eq_true_eq, Bool.not_eq_true', decide_eq_false_iff_not, line_nil, line1, line2, if_true, if_false]
    refine ⟨mulOk_r (by decide) (by decide), hk _ ⟨some (.val (.int (0 + i))), ?_⟩⟩
    rw [Int.pow_succ]
  · obtain ⟨t, rfl⟩ := h
    simp only [dRet, dRetN, dSeq, dPar, dPar3, dCons, dNil, dCaB, dVar, dC, dCmpT, dCmp, dU, dB, dAndV, dOrV, dNotV, dAnd, dOr, dNot, dIf, dTup, dLst, dChain, dChainT, dTest, dIsi, dAsg, dDrop, dIfS, gN, gT, gs0, gs1, dAug, dNext, dRaise, dCall, dYes, topE, List.getElem?_cons_succ, List.getElem?_cons_zero, List.set_cons_zero, List.set_cons_succ, Option.some.injEq, S.val.injEq, exists_eq_left', exists_eq_left, exists_and_left, and_assoc, List.cons.injEq, and_true, true_and, PyData.int.injEq, PyData.bool.injEq, PyData.tuple.injEq, PyData.list.injEq, absD_i, maxD_i, addD_i, subD_i, negD_i, iaddD_i, mulD_e, fdivD_e, ifdivD_e, modD_e, leD_i, ltD_i, gtD_i, geD_i, lenD_t, lenD_l, isNd_n, notNd_n, isBd_b, notBd_b, isNonD_i, isNonD_n, isNonD_t, isNonD_l, eqD_int, neD_int, eqD_bool, neD_bool, eqD_fr, neD_fr, ix_fr0, ix_fr1, kit_int, kit_bool, kit_str, kit_tuple, decide_eq_true_eq, Bool.not_eq_true', decide_eq_false_iff_not, line_nil, line1, line2, if_true, if_false]
    exact hq
theorem c_power_of_e (d : Int) (q : Res → Prop) : c_power_of [.int d] q ↔ (0 ≤ d ∧ d ≤ 1000) ∧ q (.ok (.int (powT d))) :=
  ⟨fun ⟨_, e, h⟩ => by cases e; exact h, fun h => ⟨_, rfl, h⟩⟩
abbrev s_units_of : Stmt := topS 20
theorem sc_units_of : FnScope ["value", "digits", "rule", "top", "under", "floor", "rest"] ["value", "digits", "rule"] (defScope s_units_of) := ⟨rfl, rfl, rfl, by decide +kernel, rfl, by decide +kernel, by decide +kernel⟩
def c_units_of : Ct := fun ds q => ∃ (p n d : Int) (r : Ru), ds = [fr p n, .int d, .str (ruS r)] ∧ (0 < n ∧ n < 2 ^ 64) ∧ (0 ≤ d ∧ d ≤ 6) ∧ q (.ok (.int (unitsF p n d r)))
theorem ok_units_of (F : Fun K "units_of" "units_of" s_units_of f fd) (F_power_of : Fd P w K mg base ca "power_of" c_power_of 1 1) : FnOk P w K mg base (L2.CX P w) 2 f fd ["value", "digits", "rule"] (spD K ca c_units_of 3) := by
  refine fn_ok F sc_units_of rfl (fun cdv A outer s H E hr tk po hu hu5 => ?_)
  refine ⟨_, _, pdb_cons (pds_par (pda_cons (pd_op op_mul od_mul (pd_ix (r := rIx K) ix_seq od_ix (pd_var (pv 0)) pd_int (fun _ _ => rfl)) (pd_fn F_power_of (hr.mono (by decide)) (by rfl) tk (pda_cons (pd_var (pv 1)) pda_nil))) (pda_cons (pd_ix (r := rIx K) ix_seq od_ix (pd_var (pv 0)) pd_int (fun _ _ => rfl)) pda_nil)) (fun h => ps_par (i := 3) (j := 4) rfl sc_units_of.nd rfl rfl (by decide) rfl rfl h (by rfl)))
      (pdb_cons (pds_par (pda_cons (pd_op op_fdivW od_fdiv (pd_var (pv 3)) (pd_var (pv 4))) (pda_cons (pd_op op_mod od_mod (pd_var (pv 3)) (pd_var (pv 4))) pda_nil)) (fun h => ps_par (i := 5) (j := 6) rfl sc_units_of.nd rfl rfl (by decide) rfl rfl h (by rfl)))
      (pdb_cons (pds_if (PDW.pt (pdw_or (pdt_cmp (r := rEqD K) (op_eqD hu) cm_eq (pd_var (pv 6)) (PD.pv pd_int) (nomark _)) (pdw_or1 (pdt_cmp (r := rEqD K) (op_eqD hu) cm_eq (pd_var (pv 2)) (PD.pv pd_str) (nomark _))))) (pdb_one (pds_ret (pd_var (pv 5)))) (pdb_nil))
      (pdb_cons (pds_if (pdt_cmp (r := rEqD K) (op_eqD hu) cm_eq (pd_var (pv 2)) (PD.pv pd_str) (nomark _)) (pdb_one (pds_ret (pd_op (op_add.or (op_add_str.or op_cat)) od_add (pd_var (pv 5)) pd_int))) (pdb_nil))
      (pdb_cons (pds_if (pdt_cmp (r := rEqD K) (op_eqD hu) cm_eq (pd_var (pv 2)) (PD.pv pd_str) (nomark _)) (pdb_one (pds_ret (pd_if (pdt_cmp op_gt cm_gt (pd_var (pv 3)) (PD.pv pd_int) (nomark _)) (pd_var (pv 5)) (pd_op (op_add.or (op_add_str.or op_cat)) od_add (pd_var (pv 5)) pd_int)))) (pdb_nil))
      (pdb_cons (pds_if (pdt_cmp (r := rNeD K) (op_neD hu) cm_ne (pd_op op_mul od_mul pd_int (pd_var (pv 6))) (PD.pv (pd_var (pv 4))) (nomark _)) (pdb_one (pds_ret (pd_if (pdt_cmp op_lt cm_lt (pd_op op_mul od_mul pd_int (pd_var (pv 6))) (PD.pv (pd_var (pv 4))) (nomark _)) (pd_var (pv 5)) (pd_op (op_add.or (op_add_str.or op_cat)) od_add (pd_var (pv 5)) pd_int)))) (pdb_nil))
      (pdb_cons (pds_if (pdt_cmp (r := rEqD K) (op_eqD hu) cm_eq (pd_var (pv 2)) (PD.pv pd_str) (nomark _)) (pdb_one (pds_ret (pd_op (op_add.or (op_add_str.or op_cat)) od_add (pd_var (pv 5)) pd_int))) (pdb_nil))
      (pdb_cons (pds_if (pdt_cmp (r := rEqD K) (op_eqD hu) cm_eq (pd_var (pv 2)) (PD.pv pd_str) (nomark _)) (pdb_one (pds_ret (pd_if (pdt_cmp op_gt cm_gt (pd_var (pv 3)) (PD.pv pd_int) (nomark _)) (pd_var (pv 5)) (pd_op (op_add.or (op_add_str.or op_cat)) od_add (pd_var (pv 5)) pd_int)))) (pdb_nil))
      (pdb_cons (pds_if (pdt_cmp (r := rEqD K) (op_eqD hu) cm_eq (pd_var (pv 2)) (PD.pv pd_str) (nomark _)) (pdb_one (pds_ret (pd_if (pdt_cmp op_gt cm_gt (pd_var (pv 3)) (PD.pv pd_int) (nomark _)) (pd_op (op_add.or (op_add_str.or op_cat)) od_add (pd_var (pv 5)) pd_int) (pd_var (pv 5))))) (pdb_nil))
      (pdb_one (pds_ret (pd_if (pdt_cmp (r := rEqD K) (op_eqD hu) cm_eq (pd_op op_mod od_mod (pd_var (pv 5)) pd_int) (PD.pv pd_int) (nomark _)) (pd_var (pv 5)) (pd_op (op_add.or (op_add_str.or op_cat)) od_add (pd_var (pv 5)) pd_int)))))))))))), ?_⟩
  clear hr tk po hu hu5
  intro ds q hl hc
  obtain ⟨p, n, d, r, rfl, hn, hd, hq⟩ := hc
  rw [show start0 (["value", "digits", "rule", "top", "under", "floor", "rest"] : List Str) [fr p n, .int d, .str (ruS r)] = [some (.val (fr p n)), some (.val (.int d)), some (.val (.str (ruS r))), none, none, none, none] from rfl]
  have hp := powT_pos d
  have hp6 := powT_le hd.2
  have hm := Int.emod_lt_of_pos (p * powT d) hn.1
  have hm0 := Int.emod_nonneg (p * powT d) (show n ≠ 0 by omega)
  unfold unitsF at hq
  simp only [dRet, dRetN, dSeq, dPar, dPar3, dCons, dNil, dCaB, dVar, dC, dCmpT, dCmp, dU, dB, dAndV, dOrV, dNotV, dAnd, dOr, dNot, dIf, dTup, dLst, dChain, dChainT, dTest, dIsi, dAsg, dDrop, dIfS, gN, gT, gs0, gs1, dAug, dNext, dRaise, dCall, dYes, topE, List.getElem?_cons_succ, List.getElem?_cons_zero, List.set_cons_zero, List.set_cons_succ, Option.some.injEq, S.val.injEq, exists_eq_left', exists_eq_left, exists_and_left, and_assoc, List.cons.injEq, and_true, true_and, PyData.int.injEq, PyData.bool.injEq, PyData.tuple.injEq, PyData.list.injEq, absD_i, maxD_i, addD_i, subD_i, negD_i, iaddD_i, mulD_e, fdivD_e, ifdivD_e, modD_e, leD_i, ltD_i, gtD_i, geD_i, lenD_t, lenD_l, isNd_n, notNd_n, isBd_b, notBd_b, isNonD_i, isNonD_n, isNonD_t, isNonD_l, eqD_int, neD_int, eqD_bool, neD_bool, eqD_fr, neD_fr, ix_fr0, ix_fr1, kit_int, kit_bool, kit_str, kit_tuple, decide_eq_true_eq, Bool.not_eq_true', decide_eq_false_iff_not, line_nil, line1, line2, if_true, if_false, c_power_of_e, eqD_down, eqD_up, eqD_zero, eqD_nup, eqD_nzero, eqD_naway]
  refine ⟨hd.1, by omega, mulOk_r (by omega) (by omega), hn.1, hn.2, hn.1, ?_⟩
  generalize p * powT d = t at hq hm hm0 ⊢
  generalize t % n = re at hq hm hm0 ⊢
  generalize t / n = fl at hq ⊢
  have m2 : mulOk 2 re = true := mulOk_l (by decide) (by decide)
  by_cases c1 : re = 0
  · rw [if_pos (Or.inl c1)] at hq
    rw [if_pos c1]
    simpa using hq
  · rw [if_neg c1]
    by_cases c2 : r = .down
    · rw [if_pos (Or.inr c2)] at hq
      rw [if_pos c2]
      exact hq
    · rw [if_neg (by simp only [c1, c2, or_self]; exact not_false)] at hq
      rw [if_neg c2]
      by_cases c3 : r = .up
      · rw [if_pos c3] at hq ⊢
        exact hq
      · rw [if_neg c3] at hq ⊢
        by_cases c4 : r = .zero
        · rw [if_pos c4] at hq ⊢
          by_cases c : 0 < t
          · rw [if_pos c] at hq ⊢; exact hq
          · rw [if_neg c] at hq ⊢; exact hq
        · rw [if_neg c4] at hq ⊢
          refine ⟨m2, ?_⟩
          by_cases c5 : 2 * re = n
          · rw [if_neg (by simp only [c5, not_true]; exact not_false)] at hq ⊢
            by_cases c6 : r = .nup
            · rw [if_pos c6] at hq ⊢; exact hq
            · rw [if_neg c6] at hq ⊢
              by_cases c7 : r = .nzero
              · rw [if_pos c7] at hq ⊢
                by_cases c : 0 < t
                · rw [if_pos c] at hq ⊢; exact hq
                · rw [if_neg c] at hq ⊢; exact hq
              · rw [if_neg c7] at hq ⊢
                by_cases c8 : r = .naway
                · rw [if_pos c8] at hq ⊢
                  by_cases c : 0 < t
                  · rw [if_pos c] at hq ⊢; exact hq
                  · rw [if_neg c] at hq ⊢; exact hq
                · rw [if_neg c8] at hq ⊢
                  refine ⟨by decide, ?_⟩
                  by_cases c : fl % 2 = 0
                  · rw [if_pos c] at hq ⊢; exact hq
                  · rw [if_neg c] at hq ⊢; exact hq
          · rw [if_pos c5] at hq ⊢
            refine ⟨m2, ?_⟩
            by_cases c : 2 * re < n
            · rw [if_pos c] at hq ⊢; exact hq
            · rw [if_neg c] at hq ⊢; exact hq
theorem c_units_of_e (p n d : Int) (r : Ru) (q : Res → Prop) : c_units_of [fr p n, .int d, .str (ruS r)] q ↔ (0 < n ∧ n < 2 ^ 64) ∧ (0 ≤ d ∧ d ≤ 6) ∧ q (.ok (.int (unitsF p n d r))) :=
  ⟨fun ⟨p', n', d', r', e, h⟩ => by
    have e2 : r = r' := ruS_inj _ _ (by simp at e; exact e.2.2)
    subst e2
    simp at e
    obtain ⟨⟨rfl, rfl⟩, rfl⟩ := e
    exact h, fun h => ⟨_, _, _, _, rfl, h⟩⟩
abbrev s_rounded : Stmt := topS 21
theorem sc_rounded : FnScope ["value", "digits", "rule"] ["value", "digits", "rule"] (defScope s_rounded) := ⟨rfl, rfl, rfl, by decide +kernel, rfl, by decide +kernel, by decide +kernel⟩
def c_rounded : Ct := fun ds q => ∃ v d r, ds = [v, d, r] ∧ chk (isFracB v) .frac q (chk (isIntB d 0 6) .num q (chk (isRuleB r) .rul q (∀ p n : Int, v = fr p n → ∀ k : Int, d = .int k → ∀ u : Ru, r = .str (ruS u) → q (.ok (.int (unitsF p n k u))))))
theorem ok_rounded (F : Fun K "rounded" "rounded" s_rounded f fd) (F_check_fraction : Fd P w K mg base ca "check_fraction" c_check_fraction 1 3) (F_check_digits : Fd P w K mg base ca "check_digits" c_check_digits 1 2) (F_check_rule : Fd P w K mg base ca "check_rule" c_check_rule 1 1) (F_units_of : Fd P w K mg base ca "units_of" c_units_of 3 2) : FnOk P w K mg base (L2.CX P w) 4 f fd ["value", "digits", "rule"] (spD K ca c_rounded 3) := by
  refine fn_ok F sc_rounded rfl (fun cdv A outer s H E hr tk po hu hu5 => ?_)
  refine ⟨_, _, pdb_cons (pds_expr (pd_fn F_check_fraction (hr.mono (by decide)) (by rfl) tk (pda_cons (pd_var (pv 0)) pda_nil)))
      (pdb_cons (pds_expr (pd_fn F_check_digits (hr.mono (by decide)) (by rfl) tk (pda_cons (pd_var (pv 1)) pda_nil)))
      (pdb_cons (pds_expr (pd_fn F_check_rule (hr.mono (by decide)) (by rfl) tk (pda_cons (pd_var (pv 2)) pda_nil)))
      (pdb_one (pds_ret (pd_fn F_units_of (hr.mono (by decide)) (by rfl) tk (pda_cons (pd_var (pv 0)) (pda_cons (pd_var (pv 1)) (pda_cons (pd_var (pv 2)) pda_nil)))))))), ?_⟩
  clear hr tk po hu hu5
  intro ds q hl hc
  obtain ⟨v, d, r, rfl, hq⟩ := hc
  rw [show start0 (["value", "digits", "rule"] : List Str) [v, d, r] = [some (.val (v)), some (.val (d)), some (.val (r))] from rfl]
  simp only [dRet, dRetN, dSeq, dPar, dPar3, dCons, dNil, dCaB, dVar, dC, dCmpT, dCmp, dU, dB, dAndV, dOrV, dNotV, dAnd, dOr, dNot, dIf, dTup, dLst, dChain, dChainT, dTest, dIsi, dAsg, dDrop, dIfS, gN, gT, gs0, gs1, dAug, dNext, dRaise, dCall, dYes, topE, List.getElem?_cons_succ, List.getElem?_cons_zero, List.set_cons_zero, List.set_cons_succ, Option.some.injEq, S.val.injEq, exists_eq_left', exists_eq_left, exists_and_left, and_assoc, List.cons.injEq, and_true, true_and, PyData.int.injEq, PyData.bool.injEq, PyData.tuple.injEq, PyData.list.injEq, absD_i, maxD_i, addD_i, subD_i, negD_i, iaddD_i, mulD_e, fdivD_e, ifdivD_e, modD_e, leD_i, ltD_i, gtD_i, geD_i, lenD_t, lenD_l, isNd_n, notNd_n, isBd_b, notBd_b, isNonD_i, isNonD_n, isNonD_t, isNonD_l, eqD_int, neD_int, eqD_bool, neD_bool, eqD_fr, neD_fr, ix_fr0, ix_fr1, kit_int, kit_bool, kit_str, kit_tuple, decide_eq_true_eq, Bool.not_eq_true', decide_eq_false_iff_not, line_nil, line1, line2, if_true, if_false, c_check_fraction_e, c_check_digits_e, c_check_rule_e]
  cases h1 : isFracB v with
  | false => rw [h1, chk_f] at hq; simpa using hq
  | true =>
    rw [h1, chk_t] at hq
    simp only [if_true]
    cases h2 : isIntB d 0 6 with
    | false => rw [h2, chk_f] at hq; simpa using hq
    | true =>
      rw [h2, chk_t] at hq
      simp only [if_true]
      cases h3 : isRuleB r with
      | false => rw [h3, chk_f] at hq; simpa using hq
      | true =>
        rw [h3, chk_t] at hq
        simp only [if_true]
        obtain ⟨vp, vn, rfl, v1, v2, v3, v4, v5⟩ := isFracB_inv h1
        obtain ⟨di, rfl, d1, d2⟩ := isIntB_inv h2
        obtain ⟨ru, rfl⟩ := isRuleB_inv h3
        simp only [dRet, dRetN, dSeq, dPar, dPar3, dCons, dNil, dCaB, dVar, dC, dCmpT, dCmp, dU, dB, dAndV, dOrV, dNotV, dAnd, dOr, dNot, dIf, dTup, dLst, dChain, dChainT, dTest, dIsi, dAsg, dDrop, dIfS, gN, gT, gs0, gs1, dAug, dNext, dRaise, dCall, dYes, topE, List.getElem?_cons_succ, List.getElem?_cons_zero, List.set_cons_zero, List.set_cons_succ, Option.some.injEq, S.val.injEq, exists_eq_left', exists_eq_left, exists_and_left, and_assoc, List.cons.injEq, and_true, true_and, PyData.int.injEq, PyData.bool.injEq, PyData.tuple.injEq, PyData.list.injEq, absD_i, maxD_i, addD_i, subD_i, negD_i, iaddD_i, mulD_e, fdivD_e, ifdivD_e, modD_e, leD_i, ltD_i, gtD_i, geD_i, lenD_t, lenD_l, isNd_n, notNd_n, isBd_b, notBd_b, isNonD_i, isNonD_n, isNonD_t, isNonD_l, eqD_int, neD_int, eqD_bool, neD_bool, eqD_fr, neD_fr, ix_fr0, ix_fr1, kit_int, kit_bool, kit_str, kit_tuple, decide_eq_true_eq, Bool.not_eq_true', decide_eq_false_iff_not, line_nil, line1, line2, if_true, if_false, c_units_of_e]
        exact ⟨by omega, by omega, d1, d2, hq _ _ rfl _ rfl _ rfl⟩
theorem c_rounded_ok {p n k : Int} {u : Ru} {q : Res → Prop} (hv : isFracB (fr p n) = true) (hk : isIntB (.int k) 0 6 = true) (h : q (.ok (.int (unitsF p n k u)))) : c_rounded [fr p n, .int k, .str (ruS u)] q := by
  refine ⟨_, _, _, rfl, ?_⟩
  rw [hv, hk, isRuleB_ru, chk_t, chk_t, chk_t]
  intro p' n' e k' e2 u' e3
  simp at e e2 e3
  obtain ⟨rfl, rfl⟩ := e
  subst e2
  obtain rfl := ruS_inj _ _ e3
  exact h
abbrev s__law_error : Stmt := topS 34
theorem sc__law_error : FnScope ["caught", "kinds"] ["caught"] (defScope s__law_error) := ⟨rfl, rfl, rfl, by decide +kernel, rfl, by decide +kernel, by decide +kernel⟩
theorem ok__law_error (F : Fun K "_law_error" "_law_error" s__law_error f fd) (m_ValueError : mg "ValueError" = none) (m_isinstance : mg "isinstance" = none) {D_err : Addr} (XI : XIs K mg ca D_err) : FnOk P w K mg base (L2.CX P w) 1 f fd ["caught"] (spX K ca) := by
  refine fn_okX F sc__law_error rfl (fun cdv A outer s H E hr tk po hu hu5 => ?_)
  refine ⟨_, _, pdb_cons (pds_set (pd_lst (pda_cons (pd_isiX (K := K) (kit := fun er => decide (er = .frac)) (pv 0) rfl m_isinstance (pe_glob (v := .ref _) (by rfl) XI.g0 rfl) (.own _) XI.ex (fun er => XI.kit er .frac)) (pda_cons (pd_isiX (K := K) (kit := fun er => decide (er = .rng)) (pv 0) rfl m_isinstance (pe_glob (v := .ref _) (by rfl) XI.g1 rfl) (.own _) XI.ex (fun er => XI.kit er .rng)) (pda_cons (pd_isiX (K := K) (kit := fun er => decide (er = .rul)) (pv 0) rfl m_isinstance (pe_glob (v := .ref _) (by rfl) XI.g2 rfl) (.own _) XI.ex (fun er => XI.kit er .rul)) pda_nil)))) (fun h => ps_set (i := 1) sc__law_error.nd rfl (.inl rfl) h))
      (pdb_cons (pds_set (pd_op (op_add.or (op_add_str.or op_cat)) od_add (pd_var (pv 1)) (pd_lst (pda_cons (pd_isiX (K := K) (kit := fun er => decide (er = .num)) (pv 0) rfl m_isinstance (pe_glob (v := .ref _) (by rfl) XI.g3 rfl) (.own _) XI.ex (fun er => XI.kit er .num)) (pda_cons (pd_isiX (K := K) (kit := fun er => decide (er = .txt)) (pv 0) rfl m_isinstance (pe_glob (v := .ref _) (by rfl) XI.g4 rfl) (.own _) XI.ex (fun er => XI.kit er .txt)) (pda_cons (pd_isiX (K := K) (kit := fun er => decide (er = .nof)) (pv 0) rfl m_isinstance (pe_glob (v := .ref _) (by rfl) XI.g5 rfl) (.own _) XI.ex (fun er => XI.kit er .nof)) pda_nil))))) (fun h => ps_set (i := 1) sc__law_error.nd rfl (.inl rfl) h))
      (pdb_cons (pds_if (PDW.pt (pdw_or (pdt_cmp (r := rNeD K) (op_neD hu) cm_ne (pd_cntB (K := K) (pd_var (pv 1)) pd_bl) (PD.pv pd_int) (nomark _)) (pdw_or (pdt_not (pdt_val (pd_isiX (K := K) (kit := fun _ => true) (pv 0) rfl m_isinstance (pe_glob (v := .ref _) (by rfl) XI.gD rfl) (.own _) XI.ex XI.kD))) (pdw_or1 (pdt_not (pdt_val (pd_isiX (K := K) (kit := fun _ => true) (pv 0) rfl m_isinstance (pe_bltn (v := .ty "ValueError") rfl m_ValueError (by rfl) rfl) (.ty _) XI.ex XI.kV))))))) (pdb_one (pds_ret pd_str)) (pdb_nil))
      (pdb_one (pds_ret (pd_ix (r := rIx K) ix_seq od_ix (pd_lst (pda_cons pd_str (pda_cons pd_str (pda_cons pd_str (pda_cons pd_str (pda_cons pd_str (pda_cons pd_str pda_nil))))))) (pd_idxB (K := K) (pd_var (pv 1)) pd_bl) (fun _ _ => rfl)))))), ?_⟩
  clear hr tk po hu hu5
  intro er
  rw [show startX ca er ["caught", "kinds"] = [some (.exn (ca er)), none] from rfl]
  have e0 : ∀ b1 b2 b3 b4 b5 b6 : Bool, addD (.list [.bool b1, .bool b2, .bool b3]) (.list [.bool b4, .bool b5, .bool b6]) = some (.list [.bool b1, .bool b2, .bool b3, .bool b4, .bool b5, .bool b6]) := fun b1 b2 b3 b4 b5 b6 => addD_ll (by rw [sizeLine_eq]; exact (by decide : 3 + 3 ≤ 16777216))
  simp only [dRet, dRetN, dSeq, dPar, dPar3, dCons, dNil, dCaB, dVar, dC, dCmpT, dCmp, dU, dB, dAndV, dOrV, dNotV, dAnd, dOr, dNot, dIf, dTup, dLst, dChain, dChainT, dTest, dIsi, dAsg, dDrop, dIfS, gN, gT, gs0, gs1, dAug, dNext, dRaise, dCall, dYes, topE, List.getElem?_cons_succ, List.getElem?_cons_zero, List.set_cons_zero, List.set_cons_succ, Option.some.injEq, S.val.injEq, exists_eq_left', exists_eq_left, exists_and_left, and_assoc, List.cons.injEq, and_true, true_and, PyData.int.injEq, PyData.bool.injEq, PyData.tuple.injEq, PyData.list.injEq, absD_i, maxD_i, addD_i, subD_i, negD_i, iaddD_i, mulD_e, fdivD_e, ifdivD_e, modD_e, leD_i, ltD_i, gtD_i, geD_i, lenD_t, lenD_l, isNd_n, notNd_n, isBd_b, notBd_b, isNonD_i, isNonD_n, isNonD_t, isNonD_l, eqD_int, neD_int, eqD_bool, neD_bool, eqD_fr, neD_fr, ix_fr0, ix_fr1, kit_int, kit_bool, kit_str, kit_tuple, decide_eq_true_eq, Bool.not_eq_true', decide_eq_false_iff_not, line_nil, line1, line2, if_true, if_false, dIsiX, S.exn.injEq, List.length_cons, List.length_nil, sizeLine_eq, Nat.reduceAdd, Nat.reduceLeDiff, Nat.zero_add]
  refine ⟨er, rfl, er, rfl, er, rfl, er, rfl, er, rfl, er, rfl, _, e0 _ _ _ _ _ _, ?_⟩
  simp only [dRet, dRetN, dSeq, dPar, dPar3, dCons, dNil, dCaB, dVar, dC, dCmpT, dCmp, dU, dB, dAndV, dOrV, dNotV, dAnd, dOr, dNot, dIf, dTup, dLst, dChain, dChainT, dTest, dIsi, dAsg, dDrop, dIfS, gN, gT, gs0, gs1, dAug, dNext, dRaise, dCall, dYes, topE, List.getElem?_cons_succ, List.getElem?_cons_zero, List.set_cons_zero, List.set_cons_succ, Option.some.injEq, S.val.injEq, exists_eq_left', exists_eq_left, exists_and_left, and_assoc, List.cons.injEq, and_true, true_and, PyData.int.injEq, PyData.bool.injEq, PyData.tuple.injEq, PyData.list.injEq, absD_i, maxD_i, addD_i, subD_i, negD_i, iaddD_i, mulD_e, fdivD_e, ifdivD_e, modD_e, leD_i, ltD_i, gtD_i, geD_i, lenD_t, lenD_l, isNd_n, notNd_n, isBd_b, notBd_b, isNonD_i, isNonD_n, isNonD_t, isNonD_l, eqD_int, neD_int, eqD_bool, neD_bool, eqD_fr, neD_fr, ix_fr0, ix_fr1, kit_int, kit_bool, kit_str, kit_tuple, decide_eq_true_eq, Bool.not_eq_true', decide_eq_false_iff_not, line_nil, line1, line2, if_true, if_false, dMeth, dIsiX, S.exn.injEq, List.length_cons, List.length_nil, sizeLine_eq, Nat.reduceAdd, Nat.reduceLeDiff, Nat.zero_add]
  cases er
  all_goals
    refine ⟨_, rfl, ?_⟩
    simp only [dRet, dRetN, dSeq, dPar, dPar3, dCons, dNil, dCaB, dVar, dC, dCmpT, dCmp, dU, dB, dAndV, dOrV, dNotV, dAnd, dOr, dNot, dIf, dTup, dLst, dChain, dChainT, dTest, dIsi, dAsg, dDrop, dIfS, gN, gT, gs0, gs1, dAug, dNext, dRaise, dCall, dYes, topE, List.getElem?_cons_succ, List.getElem?_cons_zero, List.set_cons_zero, List.set_cons_succ, Option.some.injEq, S.val.injEq, exists_eq_left', exists_eq_left, exists_and_left, and_assoc, List.cons.injEq, and_true, true_and, PyData.int.injEq, PyData.bool.injEq, PyData.tuple.injEq, PyData.list.injEq, absD_i, maxD_i, addD_i, subD_i, negD_i, iaddD_i, mulD_e, fdivD_e, ifdivD_e, modD_e, leD_i, ltD_i, gtD_i, geD_i, lenD_t, lenD_l, isNd_n, notNd_n, isBd_b, notBd_b, isNonD_i, isNonD_n, isNonD_t, isNonD_l, eqD_int, neD_int, eqD_bool, neD_bool, eqD_fr, neD_fr, ix_fr0, ix_fr1, kit_int, kit_bool, kit_str, kit_tuple, decide_eq_true_eq, Bool.not_eq_true', decide_eq_false_iff_not, line_nil, line1, line2, if_true, if_false]
    rw [if_neg (by decide)]
    refine ⟨_, rfl, ?_⟩
    rw [if_neg (by decide)]
    refine ⟨_, rfl, ?_⟩
    rw [if_neg (by decide)]
    exact ⟨_, rfl, _, rfl, rfl⟩
abbrev s_written : Stmt := topS 24
theorem sc_written : FnScope ["units", "digits", "power", "head", "tail", "sign", "rest"] ["units", "digits"] (defScope s_written) := ⟨rfl, rfl, rfl, by decide +kernel, rfl, by decide +kernel, by decide +kernel⟩
def sgT (u : Int) : Str := if u < 0 then "-" else ""
def wrT (u d : Int) : Str := if d = 0 then ((Str.empty ++ sgT u) ++ txtI ((u.natAbs : Int) / powT d)) else ((((Str.empty ++ sgT u) ++ txtI ((u.natAbs : Int) / powT d)) ++ ".") ++ repS (d.toNat - (txtI ((u.natAbs : Int) % powT d)).length) "0") ++ txtI ((u.natAbs : Int) % powT d)
def c_written : Ct := fun ds q => ∃ u d : Int, ds = [.int u, .int d] ∧ (0 ≤ d ∧ d ≤ 6) ∧ ((u.natAbs : Int) ≤ 101 * powT d ∧ ((u.natAbs : Int) / powT d).natAbs.log2 < 1920 ∧ ((u.natAbs : Int) % powT d).natAbs.log2 < 1920) ∧ ((txtI ((u.natAbs : Int) / powT d)).length ≤ 1000 ∧ (txtI ((u.natAbs : Int) % powT d)).length ≤ d.toNat ∨ d = 0 ∧ (txtI ((u.natAbs : Int) / powT d)).length ≤ 1000) ∧ q (.ok (.str (wrT u d)))
theorem ok_written (F : Fun K "written" "written" s_written f fd) (F_power_of : Fd P w K mg base ca "power_of" c_power_of 1 1) (m_abs : mg "abs" = none) (m_len : mg "len" = none) (m_str : mg "str" = none) : FnOk P w K mg base (L2.CX P w) 2 f fd ["units", "digits"] (spD K ca c_written 2) := by
  refine fn_ok F sc_written rfl (fun cdv A outer s H E hr tk po hu hu5 => ?_)
  refine ⟨_, _, pdb_cons (pds_set (pd_fn F_power_of (hr.mono (by decide)) (by rfl) tk (pda_cons (pd_var (pv 1)) pda_nil)) (fun h => ps_set (i := 2) sc_written.nd rfl (.inl rfl) h))
      (pdb_cons (pds_par (pda_cons (pd_op op_fdivW od_fdiv (pd_callB call_abs cd_abs (by rfl) m_abs boot_abs (pda_cons (pd_var (pv 0)) pda_nil)) (pd_var (pv 2))) (pda_cons (pd_op op_mod od_mod (pd_callB call_abs cd_abs (by rfl) m_abs boot_abs (pda_cons (pd_var (pv 0)) pda_nil)) (pd_var (pv 2))) pda_nil)) (fun h => ps_par (i := 3) (j := 4) rfl sc_written.nd rfl rfl (by decide) rfl rfl h (by rfl)))
      (pdb_cons (pds_set (pd_if (pdt_cmp op_lt cm_lt (pd_var (pv 0)) (PD.pv pd_int) (nomark _)) pd_str pd_str) (fun h => ps_set (i := 5) sc_written.nd rfl (.inl rfl) h))
      (pdb_cons (pds_if (pdt_cmp (r := rEqD K) (op_eqD hu) cm_eq (pd_var (pv 1)) (PD.pv pd_int) (nomark _)) (pdb_one (pds_ret (pd_join (PJD.cons (pd_fmt (pd_var (pv 5))) (PJD.cons (pd_fmt (pd_var (pv 3))) PJD.nil))))) (pdb_nil))
      (pdb_cons (pds_set (pd_callTy call_str_int cd_strI (by rfl) m_str boot_str (pda_cons (pd_var (pv 4)) pda_nil)) (fun h => ps_set (i := 6) sc_written.nd rfl (.inl rfl) h))
      (pdb_one (pds_ret (pd_op (op_add.or (op_add_str.or op_cat)) od_add (pd_op (op_add.or (op_add_str.or op_cat)) od_add (pd_join (PJD.cons (pd_fmt (pd_var (pv 5))) (PJD.cons (pd_fmt (pd_var (pv 3))) (PJD.cons pd_str PJD.nil)))) (pd_op op_mulS od_mulS pd_str (pd_op op_sub od_sub (pd_var (pv 1)) (pd_callB (r := rLenA K) call_lenA cd_len (by rfl) m_len boot_len (pda_cons (pd_var (pv 6)) pda_nil))))) (pd_var (pv 6))))))))), ?_⟩
  clear hr tk po hu hu5
  intro ds q hl hc
  obtain ⟨u, d, rfl, hd, ⟨hu, g1, g2⟩, hl, hq⟩ := hc
  rw [show start0 (["units", "digits", "power", "head", "tail", "sign", "rest"] : List Str) [.int u, .int d] = [some (.val (.int u)), some (.val (.int d)), none, none, none, none, none] from rfl]
  have hP := powT_lt hd.2
  refine seq_mk fun k hk => ?_
  simp only [dRet, dRetN, dSeq, dPar, dPar3, dCons, dNil, dCaB, dVar, dC, dCmpT, dCmp, dU, dB, dAndV, dOrV, dNotV, dAnd, dOr, dNot, dIf, dTup, dLst, dChain, dChainT, dTest, dIsi, dAsg, dDrop, dIfS, gN, gT, gs0, gs1, dAug, dNext, dRaise, dCall, dYes, topE, List.getElem?_cons_succ, List.getElem?_cons_zero, List.set_cons_zero, List.set_cons_succ, Option.some.injEq, S.val.injEq, exists_eq_left', exists_eq_left, exists_and_left, and_assoc, List.cons.injEq, and_true, true_and, PyData.int.injEq, PyData.bool.injEq, PyData.tuple.injEq, PyData.list.injEq, absD_i, maxD_i, addD_i, subD_i, negD_i, iaddD_i, mulD_e, fdivD_e, ifdivD_e, modD_e, leD_i, ltD_i, gtD_i, geD_i, lenD_t, lenD_l, isNd_n, notNd_n, isBd_b, notBd_b, isNonD_i, isNonD_n, isNonD_t, isNonD_l, eqD_int, neD_int, eqD_bool, neD_bool, eqD_fr, neD_fr, ix_fr0, ix_fr1, kit_int, kit_bool, kit_str, kit_tuple, decide_eq_true_eq, Bool.not_eq_true', decide_eq_false_iff_not, line_nil, line1, line2, if_true, if_false, c_power_of_e]
  refine ⟨hd.1, by omega, hk [some (.val (.int u)), some (.val (.int d)), some (.val (.int (powT d))), none, none, none, none] ?_⟩
  clear hk k
  refine seq_mk fun k hk => ?_
  simp only [dRet, dRetN, dSeq, dPar, dPar3, dCons, dNil, dCaB, dVar, dC, dCmpT, dCmp, dU, dB, dAndV, dOrV, dNotV, dAnd, dOr, dNot, dIf, dTup, dLst, dChain, dChainT, dTest, dIsi, dAsg, dDrop, dIfS, gN, gT, gs0, gs1, dAug, dNext, dRaise, dCall, dYes, topE, List.getElem?_cons_succ, List.getElem?_cons_zero, List.set_cons_zero, List.set_cons_succ, Option.some.injEq, S.val.injEq, exists_eq_left', exists_eq_left, exists_and_left, and_assoc, List.cons.injEq, and_true, true_and, PyData.int.injEq, PyData.bool.injEq, PyData.tuple.injEq, PyData.list.injEq, absD_i, maxD_i, addD_i, subD_i, negD_i, iaddD_i, mulD_e, fdivD_e, ifdivD_e, modD_e, leD_i, ltD_i, gtD_i, geD_i, lenD_t, lenD_l, isNd_n, notNd_n, isBd_b, notBd_b, isNonD_i, isNonD_n, isNonD_t, isNonD_l, eqD_int, neD_int, eqD_bool, neD_bool, eqD_fr, neD_fr, ix_fr0, ix_fr1, kit_int, kit_bool, kit_str, kit_tuple, decide_eq_true_eq, Bool.not_eq_true', decide_eq_false_iff_not, line_nil, line1, line2, if_true, if_false]
  refine ⟨hP.1, by omega, hP.1, hk [some (.val (.int u)), some (.val (.int d)), some (.val (.int (powT d))), some (.val (.int ((u.natAbs : Int) / powT d))), some (.val (.int ((u.natAbs : Int) % powT d))), none, none] ?_⟩
  clear hk k
  refine seq_mk fun k hk => ?_
  have fin : k [some (.val (.int u)), some (.val (.int d)), some (.val (.int (powT d))), some (.val (.int ((u.natAbs : Int) / powT d))), some (.val (.int ((u.natAbs : Int) % powT d))), some (.val (.str (sgT u))), none] := hk _ (by
    clear hk k
    have sl : (sgT u).length ≤ 1 := by
      unfold sgT
      split <;> decide
    have t2 : txtOf (.int ((u.natAbs : Int) / powT d)) = some (txtI ((u.natAbs : Int) / powT d)) := if_pos g1
    have t3 : strID [.int ((u.natAbs : Int) % powT d)] = some (.str (txtI ((u.natAbs : Int) % powT d))) := if_pos g2
    have t0 : txtOf (.str (sgT u)) = some (sgT u) := if_pos (by rw [sizeLine_eq]; omega)
    have e0 : Str.empty.length = 0 := by decide
    have e1 : (Str.length (".": Str)) = 1 := by decide
    have e2 : (Str.length ("0" : Str)) = 1 := by decide
    have hh : (txtI ((u.natAbs : Int) / powT d)).length ≤ 1000 := by
      rcases hl with h | h
      · exact h.1
      · exact h.2
    refine seq_mk fun k hk => ?_
    simp only [dRet, dRetN, dSeq, dPar, dPar3, dCons, dNil, dCaB, dVar, dC, dCmpT, dCmp, dU, dB, dAndV, dOrV, dNotV, dAnd, dOr, dNot, dIf, dTup, dLst, dChain, dChainT, dTest, dIsi, dAsg, dDrop, dIfS, gN, gT, gs0, gs1, dAug, dNext, dRaise, dCall, dYes, topE, List.getElem?_cons_succ, List.getElem?_cons_zero, List.set_cons_zero, List.set_cons_succ, Option.some.injEq, S.val.injEq, exists_eq_left', exists_eq_left, exists_and_left, and_assoc, List.cons.injEq, and_true, true_and, PyData.int.injEq, PyData.bool.injEq, PyData.tuple.injEq, PyData.list.injEq, absD_i, maxD_i, addD_i, subD_i, negD_i, iaddD_i, mulD_e, fdivD_e, ifdivD_e, modD_e, leD_i, ltD_i, gtD_i, geD_i, lenD_t, lenD_l, isNd_n, notNd_n, isBd_b, notBd_b, isNonD_i, isNonD_n, isNonD_t, isNonD_l, eqD_int, neD_int, eqD_bool, neD_bool, eqD_fr, neD_fr, ix_fr0, ix_fr1, kit_int, kit_bool, kit_str, kit_tuple, decide_eq_true_eq, Bool.not_eq_true', decide_eq_false_iff_not, line_nil, line1, line2, if_true, if_false, dJoin, dJs, dFmt, t0, t2, PyData.str.injEq]
    by_cases c0 : d = 0
    · rw [if_pos c0]
      unfold wrT at hq
      rw [if_pos c0] at hq
      refine ⟨by rw [Str.length_append, sizeLine_eq]; omega, by rw [Str.length_append, Str.length_append, sizeLine_eq]; omega, hq⟩
    · rw [if_neg c0]
      refine hk [some (.val (.int u)), some (.val (.int d)), some (.val (.int (powT d))), some (.val (.int ((u.natAbs : Int) / powT d))), some (.val (.int ((u.natAbs : Int) % powT d))), some (.val (.str (sgT u))), none] ?_
      clear hk k
      have hr : (txtI ((u.natAbs : Int) % powT d)).length ≤ d.toNat := by
        rcases hl with h | h
        · exact h.2
        · exact absurd h.1 c0
      refine seq_mk fun k hk => ?_
      simp only [dRet, dRetN, dSeq, dPar, dPar3, dCons, dNil, dCaB, dVar, dC, dCmpT, dCmp, dU, dB, dAndV, dOrV, dNotV, dAnd, dOr, dNot, dIf, dTup, dLst, dChain, dChainT, dTest, dIsi, dAsg, dDrop, dIfS, gN, gT, gs0, gs1, dAug, dNext, dRaise, dCall, dYes, topE, List.getElem?_cons_succ, List.getElem?_cons_zero, List.set_cons_zero, List.set_cons_succ, Option.some.injEq, S.val.injEq, exists_eq_left', exists_eq_left, exists_and_left, and_assoc, List.cons.injEq, and_true, true_and, PyData.int.injEq, PyData.bool.injEq, PyData.tuple.injEq, PyData.list.injEq, absD_i, maxD_i, addD_i, subD_i, negD_i, iaddD_i, mulD_e, fdivD_e, ifdivD_e, modD_e, leD_i, ltD_i, gtD_i, geD_i, lenD_t, lenD_l, isNd_n, notNd_n, isBd_b, notBd_b, isNonD_i, isNonD_n, isNonD_t, isNonD_l, eqD_int, neD_int, eqD_bool, neD_bool, eqD_fr, neD_fr, ix_fr0, ix_fr1, kit_int, kit_bool, kit_str, kit_tuple, decide_eq_true_eq, Bool.not_eq_true', decide_eq_false_iff_not, line_nil, line1, line2, if_true, if_false, t3]
      refine hk [some (.val (.int u)), some (.val (.int d)), some (.val (.int (powT d))), some (.val (.int ((u.natAbs : Int) / powT d))), some (.val (.int ((u.natAbs : Int) % powT d))), some (.val (.str (sgT u))), some (.val (.str (txtI ((u.natAbs : Int) % powT d))))] ?_
      clear hk k
      have tl : lenD [.str (txtI ((u.natAbs : Int) % powT d))] = some (.int ((txtI ((u.natAbs : Int) % powT d)).length : Nat)) := if_pos (by rw [sizeLine_eq]; omega)
      simp only [dRet, dRetN, dSeq, dPar, dPar3, dCons, dNil, dCaB, dVar, dC, dCmpT, dCmp, dU, dB, dAndV, dOrV, dNotV, dAnd, dOr, dNot, dIf, dTup, dLst, dChain, dChainT, dTest, dIsi, dAsg, dDrop, dIfS, gN, gT, gs0, gs1, dAug, dNext, dRaise, dCall, dYes, topE, List.getElem?_cons_succ, List.getElem?_cons_zero, List.set_cons_zero, List.set_cons_succ, Option.some.injEq, S.val.injEq, exists_eq_left', exists_eq_left, exists_and_left, and_assoc, List.cons.injEq, and_true, true_and, PyData.int.injEq, PyData.bool.injEq, PyData.tuple.injEq, PyData.list.injEq, absD_i, maxD_i, addD_i, subD_i, negD_i, iaddD_i, mulD_e, fdivD_e, ifdivD_e, modD_e, leD_i, ltD_i, gtD_i, geD_i, lenD_t, lenD_l, isNd_n, notNd_n, isBd_b, notBd_b, isNonD_i, isNonD_n, isNonD_t, isNonD_l, eqD_int, neD_int, eqD_bool, neD_bool, eqD_fr, neD_fr, ix_fr0, ix_fr1, kit_int, kit_bool, kit_str, kit_tuple, decide_eq_true_eq, Bool.not_eq_true', decide_eq_false_iff_not, line_nil, line1, line2, if_true, if_false, dJoin, dJs, dFmt, t0, t2, PyData.str.injEq, tl, mulSD_e, addD_e]
      unfold wrT at hq
      rw [if_neg c0] at hq
      have en : (d - ((txtI ((u.natAbs : Int) % powT d)).length : Nat)).toNat = d.toNat - (txtI ((u.natAbs : Int) % powT d)).length := by omega
      refine ⟨by rw [Str.length_append, sizeLine_eq]; omega, by rw [Str.length_append, Str.length_append, sizeLine_eq]; omega, by rw [Str.length_append, Str.length_append, Str.length_append, sizeLine_eq]; omega, by decide, by decide, by omega, by omega, by rw [Str.length_append, Str.length_append, Str.length_append, repS_len, e2, sizeLine_eq]; omega, by rw [Str.length_append, Str.length_append, Str.length_append, Str.length_append, repS_len, e2, sizeLine_eq]; omega, ?_⟩
      rw [en]
      exact hq)
  simp only [dRet, dRetN, dSeq, dPar, dPar3, dCons, dNil, dCaB, dVar, dC, dCmpT, dCmp, dU, dB, dAndV, dOrV, dNotV, dAnd, dOr, dNot, dIf, dTup, dLst, dChain, dChainT, dTest, dIsi, dAsg, dDrop, dIfS, gN, gT, gs0, gs1, dAug, dNext, dRaise, dCall, dYes, topE, List.getElem?_cons_succ, List.getElem?_cons_zero, List.set_cons_zero, List.set_cons_succ, Option.some.injEq, S.val.injEq, exists_eq_left', exists_eq_left, exists_and_left, and_assoc, List.cons.injEq, and_true, true_and, PyData.int.injEq, PyData.bool.injEq, PyData.tuple.injEq, PyData.list.injEq, absD_i, maxD_i, addD_i, subD_i, negD_i, iaddD_i, mulD_e, fdivD_e, ifdivD_e, modD_e, leD_i, ltD_i, gtD_i, geD_i, lenD_t, lenD_l, isNd_n, notNd_n, isBd_b, notBd_b, isNonD_i, isNonD_n, isNonD_t, isNonD_l, eqD_int, neD_int, eqD_bool, neD_bool, eqD_fr, neD_fr, ix_fr0, ix_fr1, kit_int, kit_bool, kit_str, kit_tuple, decide_eq_true_eq, Bool.not_eq_true', decide_eq_false_iff_not, line_nil, line1, line2, if_true, if_false]
  unfold sgT at fin
  by_cases cu : u < 0
  · rw [if_pos cu] at fin ⊢
    exact fin
  · rw [if_neg cu] at fin ⊢
    exact fin
theorem c_written_e (u d : Int) (q : Res → Prop) : c_written [.int u, .int d] q ↔ (0 ≤ d ∧ d ≤ 6) ∧ ((u.natAbs : Int) ≤ 101 * powT d ∧ ((u.natAbs : Int) / powT d).natAbs.log2 < 1920 ∧ ((u.natAbs : Int) % powT d).natAbs.log2 < 1920) ∧ ((txtI ((u.natAbs : Int) / powT d)).length ≤ 1000 ∧ (txtI ((u.natAbs : Int) % powT d)).length ≤ d.toNat ∨ d = 0 ∧ (txtI ((u.natAbs : Int) / powT d)).length ≤ 1000) ∧ q (.ok (.str (wrT u d))) :=
  ⟨fun ⟨_, _, e, h⟩ => by cases e; exact h, fun h => ⟨_, _, rfl, h⟩⟩

theorem c_written_ok {u d : Int} {q : Res → Prop} (hd : 0 ≤ d ∧ d ≤ 6) (hu : (u.natAbs : Int) ≤ 101 * powT d) (h : q (.ok (.str (wrT u d)))) : c_written [.int u, .int d] q := by
  have hp := powT_lt hd.2
  have a0 : (0 : Int) ≤ (u.natAbs : Int) := by omega
  have hq1 : (u.natAbs : Int) / powT d < 102 := Int.ediv_lt_of_lt_mul hp.1 (by omega)
  have hq0 : 0 ≤ (u.natAbs : Int) / powT d := Int.ediv_nonneg a0 (by omega)
  have hr0 : 0 ≤ (u.natAbs : Int) % powT d := Int.emod_nonneg _ (by omega)
  have hr1 : (u.natAbs : Int) % powT d < powT d := Int.emod_lt_of_pos _ hp.1
  have g1 : ((u.natAbs : Int) / powT d).natAbs.log2 < 1920 := log_small (Nat.lt_trans (show _ < 2 ^ 64 by omega) (by decide))
  have g2 : ((u.natAbs : Int) % powT d).natAbs.log2 < 1920 := log_small (Nat.lt_trans (show _ < 2 ^ 64 by omega) (by decide))
  have l1 : (txtI ((u.natAbs : Int) / powT d)).length ≤ 3 := txt_le (by decide) hq0 (by omega)
  refine (c_written_e u d q).mpr ⟨hd, ⟨hu, g1, g2⟩, ?_, h⟩
  by_cases c0 : d = 0
  · exact .inr ⟨c0, by omega⟩
  · exact .inl ⟨by omega, txt_pow ⟨by omega, hd.2⟩ hr0 hr1⟩
abbrev s_parse_decimal : Stmt := topS 26
theorem sc_parse_decimal : FnScope ["text", "plain", "head", "point", "tail", "units", "sign"] ["text"] (defScope s_parse_decimal) := ⟨rfl, rfl, rfl, by decide +kernel, rfl, by decide +kernel, by decide +kernel⟩
def c_parse_decimal : Ct := fun ds q => ∃ v, ds = [v] ∧ (((∀ t, v ≠ .str t) ∧ q (.er .txt)) ∨ ∃ t : List Nat, v = .str (SX.S t) ∧ t.length ≤ 1000 ∧ okL t = true ∧ q (match parD t with | none => .er .txt | some x => .ok (fr x.1 (x.2 : Nat))))
theorem wrT_S {u d : Int} (d0 : 0 ≤ d) : wrT u d = SX.S (wrL u d.toNat) := by
  obtain ⟨m, rfl⟩ := Int.eq_ofNat_of_zero_le d0
  have eq : (u.natAbs : Int) / powT (m : Int) = ((u.natAbs / 10 ^ m : Nat) : Int) := by rw [pow_nat]; exact (Int.natCast_ediv _ _).symm
  have er : (u.natAbs : Int) % powT (m : Int) = ((u.natAbs % 10 ^ m : Nat) : Int) := by rw [pow_nat]; exact (Int.natCast_emod _ _).symm
  have es : sgT u = SX.S (sgL u) := by
    unfold sgT sgL
    split
    · exact lit_minus
    · exact lit_empty
  have e0 : Str.empty = SX.S [] := rfl
  unfold wrT wrL
  rw [eq, er, txt_nat, txt_nat, es, e0, Int.toNat_natCast]
  by_cases c : m = 0
  · rw [if_pos (by omega), if_pos c, SX.S_cat, SX.S_cat]
    simp
  · rw [if_neg (by omega), if_neg c]
    rw [show ("." : Str) = SX.S [46] from lit_point, show ("0" : Str) = SX.S [48] from lit_zero, rep_S, SX.S_len, SX.S_cat, SX.S_cat, SX.S_cat, SX.S_cat, SX.S_cat]
    unfold padL
    simp
theorem ok_parse_decimal (F : Fun K "parse_decimal" "parse_decimal" s_parse_decimal f fd) (F_written : Fd P w K mg base ca "written" c_written 2 2) (F_power_of : Fd P w K mg base ca "power_of" c_power_of 1 1) (m_abs : mg "abs" = none) (m_all : mg "all" = none) (m_int : mg "int" = none) (m_isinstance : mg "isinstance" = none) (m_len : mg "len" = none) (m_str : mg "str" = none) (g_MOST_DIGITS : ∃ t, mg "MOST_DIGITS" = some (.int 6 t)) (g_SIGNS : ∃ t, mg "SIGNS" = some (.str "0123456789" t)) (X_txt : Xf K mg "BadText" (ca .txt)) : FnOk P w K mg base (L2.CX P w) 3 f fd ["text"] (spD K ca c_parse_decimal 1) := by
  refine fn_ok F sc_parse_decimal rfl (fun cdv A outer s H E hr tk po hu hu5 => ?_)
  refine ⟨_, _, pdb_cons (pds_if (pdt_not (pdt_val (pd_isi (K := K) (pd_var (pv 0)) rfl m_isinstance (pe_bltn (v := .ty "str") rfl m_str boot_str rfl)))) (pdb_one (pds_raise (er := .txt) X_txt rfl tk rfl)) (pdb_nil))
      (pdb_cons (pds_set (pd_if (pdt_cmp (r := rEqD K) (op_eqD hu) cm_eq (pd_slS (pd_var (pv 0)) pdo_none (pdo_some pd_int)) (PD.pv pd_str) (nomark _)) (pd_slS (pd_var (pv 0)) (pdo_some pd_int) pdo_none) (pd_var (pv 0))) (fun h => ps_set (i := 1) sc_parse_decimal.nd rfl (.inl rfl) h))
      (pdb_cons (pds_asg (pd_part (pd_var (pv 1)) pd_str) (pdg_tup (n := 3) rfl (pdgs_cons (pdg_name (pg_name (i := 2) sc_parse_decimal.nd rfl (.inl rfl))) (pdgs_cons (pdg_name (pg_name (i := 3) sc_parse_decimal.nd rfl (.inl rfl))) (pdgs_cons (pdg_name (pg_name (i := 4) sc_parse_decimal.nd rfl (.inl rfl))) pdgs_nil)))))
      (pdb_cons (pds_if (PDW.pt (pdw_or (pdt_cmp (r := rEqD K) (op_eqD hu) cm_eq (pd_var (pv 2)) (PD.pv pd_str) (nomark _)) (pdw_or (pdt_cmp op_gt cm_gt (pd_callB (r := rLenA K) call_lenA cd_len (by rfl) m_len boot_len (pda_cons (pd_var (pv 2)) pda_nil)) (PD.pv pd_int) (nomark _)) (pdw_or (pdt_cmp op_gt cm_gt (pd_callB (r := rLenA K) call_lenA cd_len (by rfl) m_len boot_len (pda_cons (pd_var (pv 4)) pda_nil)) (PD.pv (pd_gint (by rfl) g_MOST_DIGITS)) (nomark _)) (pdw_or1 (PDW.pt (pdw_and (pdt_cmp (r := rNeD K) (op_neD hu) cm_ne (pd_var (pv 3)) (PD.pv pd_str) (nomark _)) (pdw_and1 (pdt_cmp (r := rEqD K) (op_eqD hu) cm_eq (pd_var (pv 4)) (PD.pv pd_str) (nomark _)))))))))) (pdb_one (pds_raise (er := .txt) X_txt rfl tk rfl)) (pdb_nil))
      (pdb_cons (pds_if (pdt_not (pdt_val (pd_callB (cr_all rfl) cd_all (by rfl) m_all boot_all (pda_cons (pd_lc (own := [("sign", 6)]) rfl sc_parse_decimal.nd (pdi_str (pd_op (op_add.or (op_add_str.or op_cat)) od_add (pd_var (pv 2)) (pd_var (pv 4)))) (blkOk_by (N := ["text", "plain", "head", "point", "tail", "units", "sign"]) (sc := defScope s_parse_decimal) (by decide +kernel)) (fun _ _ _ _ _ => pg_name (i := 6) sc_parse_decimal.nd rfl (.inl rfl)) (gsv_name (by decide)) (fun _ _ _ _ _ => pdts_nil) (fun _ _ _ _ _ => (pd_cmp (r := rInS) op_inS cm_inS (pd_var (pv 6)) (PD.pv (pd_gstr (by rfl) g_SIGNS)) (by rfl)))) pda_nil)))) (pdb_one (pds_raise (er := .txt) X_txt rfl tk rfl)) (pdb_nil))
      (pdb_cons (pds_set (pd_callTy call_int_str cd_intS (by rfl) m_int boot_int (pda_cons (pd_op (op_add.or (op_add_str.or op_cat)) od_add (pd_var (pv 2)) (pd_var (pv 4))) pda_nil)) (fun h => ps_set (i := 5) sc_parse_decimal.nd rfl (.inl rfl) h))
      (pdb_cons (pds_set (pd_if (pdt_cmp (r := rEqD K) (op_eqD hu) cm_eq (pd_slS (pd_var (pv 0)) pdo_none (pdo_some pd_int)) (PD.pv pd_str) (nomark _)) (pd_un un_neg ud_neg (pd_var (pv 5))) (pd_var (pv 5))) (fun h => ps_set (i := 5) sc_parse_decimal.nd rfl (.inl rfl) h))
      (pdb_cons (pds_if (PDW.pt (pdw_or (pdt_cmp op_gt cm_gt (pd_callB call_abs cd_abs (by rfl) m_abs boot_abs (pda_cons (pd_var (pv 5)) pda_nil)) (PD.pv (pd_op op_mul od_mul pd_int (pd_fn F_power_of (hr.mono (by decide)) (by rfl) tk (pda_cons (pd_callB (r := rLenA K) call_lenA cd_len (by rfl) m_len boot_len (pda_cons (pd_var (pv 4)) pda_nil)) pda_nil)))) (nomark _)) (pdw_or1 (pdt_cmp (r := rNeD K) (op_neD hu) cm_ne (pd_fn F_written (hr.mono (by decide)) (by rfl) tk (pda_cons (pd_var (pv 5)) (pda_cons (pd_callB (r := rLenA K) call_lenA cd_len (by rfl) m_len boot_len (pda_cons (pd_var (pv 4)) pda_nil)) pda_nil))) (PD.pv (pd_var (pv 0))) (nomark _))))) (pdb_one (pds_raise (er := .txt) X_txt rfl tk rfl)) (pdb_nil))
      (pdb_one (pds_ret (pd_tup (pda_cons (pd_var (pv 5)) (pda_cons (pd_callB (r := rLenA K) call_lenA cd_len (by rfl) m_len boot_len (pda_cons (pd_var (pv 4)) pda_nil)) pda_nil)))))))))))), ?_⟩
  clear hr tk po hu hu5
  intro ds q hl hc
  obtain ⟨v, rfl, hq⟩ := hc
  rw [show start0 (["text", "plain", "head", "point", "tail", "units", "sign"] : List Str) [v] = [some (.val (v)), none, none, none, none, none, none] from rfl]
  rcases hq with ⟨hv, hq⟩ | ⟨t, rfl, tl, ok, hq⟩
  · cases v with
    | str x => exact absurd rfl (hv x)
    | _ => simp only [dRet, dRetN, dSeq, dPar, dPar3, dCons, dNil, dCaB, dVar, dC, dCmpT, dCmp, dU, dB, dAndV, dOrV, dNotV, dAnd, dOr, dNot, dIf, dTup, dLst, dChain, dChainT, dTest, dIsi, dAsg, dDrop, dIfS, gN, gT, gs0, gs1, dAug, dNext, dRaise, dCall, dYes, topE, List.getElem?_cons_succ, List.getElem?_cons_zero, List.set_cons_zero, List.set_cons_succ, Option.some.injEq, S.val.injEq, exists_eq_left', exists_eq_left, exists_and_left, and_assoc, List.cons.injEq, and_true, true_and, PyData.int.injEq, PyData.bool.injEq, PyData.tuple.injEq, PyData.list.injEq, absD_i, maxD_i, addD_i, subD_i, negD_i, iaddD_i, mulD_e, fdivD_e, ifdivD_e, modD_e, leD_i, ltD_i, gtD_i, geD_i, lenD_t, lenD_l, isNd_n, notNd_n, isBd_b, notBd_b, isNonD_i, isNonD_n, isNonD_t, isNonD_l, eqD_int, neD_int, eqD_bool, neD_bool, eqD_fr, neD_fr, ix_fr0, ix_fr1, kit_int, kit_bool, kit_str, kit_tuple, decide_eq_true_eq, Bool.not_eq_true', decide_eq_false_iff_not, line_nil, line1, line2, if_true, if_false, yStr, if_true]; simpa using hq
  refine seq_mk fun k hk => ?_
  simp only [dRet, dRetN, dSeq, dPar, dPar3, dCons, dNil, dCaB, dVar, dC, dCmpT, dCmp, dU, dB, dAndV, dOrV, dNotV, dAnd, dOr, dNot, dIf, dTup, dLst, dChain, dChainT, dTest, dIsi, dAsg, dDrop, dIfS, gN, gT, gs0, gs1, dAug, dNext, dRaise, dCall, dYes, topE, List.getElem?_cons_succ, List.getElem?_cons_zero, List.set_cons_zero, List.set_cons_succ, Option.some.injEq, S.val.injEq, exists_eq_left', exists_eq_left, exists_and_left, and_assoc, List.cons.injEq, and_true, true_and, PyData.int.injEq, PyData.bool.injEq, PyData.tuple.injEq, PyData.list.injEq, absD_i, maxD_i, addD_i, subD_i, negD_i, iaddD_i, mulD_e, fdivD_e, ifdivD_e, modD_e, leD_i, ltD_i, gtD_i, geD_i, lenD_t, lenD_l, isNd_n, notNd_n, isBd_b, notBd_b, isNonD_i, isNonD_n, isNonD_t, isNonD_l, eqD_int, neD_int, eqD_bool, neD_bool, eqD_fr, neD_fr, ix_fr0, ix_fr1, kit_int, kit_bool, kit_str, kit_tuple, decide_eq_true_eq, Bool.not_eq_true', decide_eq_false_iff_not, line_nil, line1, line2, if_true, if_false, yStr, Bool.true_eq_false, if_false]
  refine hk [some (.val (.str (SX.S t))), none, none, none, none, none, none] ?_
  clear hk k
  have tz : (SX.S t).length ≤ sizeLine := by rw [SX.S_len, sizeLine_eq]; omega
  have eqm : eqD (.str (SX.S (t.take 1))) (.str (SX.S [45])) = some (negL t) := eqD_S (okL_sub ok fun c hc => List.mem_of_mem_take hc) (by decide)
  have ol := plain_sub (t := t) |>.2
  refine seq_mk fun k hk => ?_
  have fin : k [some (.val (.str (SX.S t))), some (.val (.str (SX.S (plainL t)))), none, none, none, none, none] := hk _ (by
    clear hk k
    refine seq_mk fun k hk => ?_
    simp only [dRet, dRetN, dSeq, dPar, dPar3, dCons, dNil, dCaB, dVar, dC, dCmpT, dCmp, dU, dB, dAndV, dOrV, dNotV, dAnd, dOr, dNot, dIf, dTup, dLst, dChain, dChainT, dTest, dIsi, dAsg, dDrop, dIfS, gN, gT, gs0, gs1, dAug, dNext, dRaise, dCall, dYes, topE, List.getElem?_cons_succ, List.getElem?_cons_zero, List.set_cons_zero, List.set_cons_succ, Option.some.injEq, S.val.injEq, exists_eq_left', exists_eq_left, exists_and_left, and_assoc, List.cons.injEq, and_true, true_and, PyData.int.injEq, PyData.bool.injEq, PyData.tuple.injEq, PyData.list.injEq, absD_i, maxD_i, addD_i, subD_i, negD_i, iaddD_i, mulD_e, fdivD_e, ifdivD_e, modD_e, leD_i, ltD_i, gtD_i, geD_i, lenD_t, lenD_l, isNd_n, notNd_n, isBd_b, notBd_b, isNonD_i, isNonD_n, isNonD_t, isNonD_l, eqD_int, neD_int, eqD_bool, neD_bool, eqD_fr, neD_fr, ix_fr0, ix_fr1, kit_int, kit_bool, kit_str, kit_tuple, decide_eq_true_eq, Bool.not_eq_true', decide_eq_false_iff_not, line_nil, line1, line2, if_true, if_false, dPart, PyData.str.injEq, lit_point, List.length_cons, List.length_nil, sizeLine_eq, Nat.reduceAdd, Nat.reduceLeDiff, Nat.zero_add]
    refine ⟨by rw [SX.S_len]; rfl, by rw [SX.S_len]; omega, ?_⟩
    rw [part_S]
    unfold parD at hq
    cases hC : cutL 46 (plainL t) with
    | mk H C =>
      obtain ⟨P, T⟩ := C
      rw [hC] at hq
      dsimp only at hq ⊢
      obtain ⟨oH, oP, oT, lHT⟩ := cut_parts (by decide) hC ok
      refine hk [some (.val (.str (SX.S t))), some (.val (.str (SX.S (plainL t)))), some (.val (.str (SX.S H))), some (.val (.str (SX.S P))), some (.val (.str (SX.S T))), none, none] ?_
      clear hk k
      have eH : eqD (.str (SX.S H)) (.str (SX.S [])) = some (decide (H = [])) := eqD_S oH rfl
      have eT : eqD (.str (SX.S T)) (.str (SX.S [])) = some (decide (T = [])) := eqD_S oT rfl
      have nT : neD (.str (SX.S T)) (.str (SX.S [])) = some (!decide (T = [])) := neD_S oT rfl
      have nP : neD (.str (SX.S P)) (.str (SX.S [])) = some (!decide (P = [])) := neD_S oP rfl
      have lH := len_S H (by omega)
      have lT := len_S T (by omega)
      have cat : addD (.str (SX.S H)) (.str (SX.S T)) = some (.str (SX.S (H ++ T))) := by
        show (if _ then _ else _) = _
        rw [if_pos (by rw [SX.S_len, SX.S_len, sizeLine_eq]; omega), SX.S_cat]
      refine seq_mk fun k hk => ?_
      simp only [dRet, dRetN, dSeq, dPar, dPar3, dCons, dNil, dCaB, dVar, dC, dCmpT, dCmp, dU, dB, dAndV, dOrV, dNotV, dAnd, dOr, dNot, dIf, dTup, dLst, dChain, dChainT, dTest, dIsi, dAsg, dDrop, dIfS, gN, gT, gs0, gs1, dAug, dNext, dRaise, dCall, dYes, topE, List.getElem?_cons_succ, List.getElem?_cons_zero, List.set_cons_zero, List.set_cons_succ, Option.some.injEq, S.val.injEq, exists_eq_left', exists_eq_left, exists_and_left, and_assoc, List.cons.injEq, and_true, true_and, PyData.int.injEq, PyData.bool.injEq, PyData.tuple.injEq, PyData.list.injEq, absD_i, maxD_i, addD_i, subD_i, negD_i, iaddD_i, mulD_e, fdivD_e, ifdivD_e, modD_e, leD_i, ltD_i, gtD_i, geD_i, lenD_t, lenD_l, isNd_n, notNd_n, isBd_b, notBd_b, isNonD_i, isNonD_n, isNonD_t, isNonD_l, eqD_int, neD_int, eqD_bool, neD_bool, eqD_fr, neD_fr, ix_fr0, ix_fr1, kit_int, kit_bool, kit_str, kit_tuple, decide_eq_true_eq, Bool.not_eq_true', decide_eq_false_iff_not, line_nil, line1, line2, if_true, if_false, eH, eT, nP, lH, lT, lit_empty, PyData.int.injEq, Bool.not_eq_true', decide_eq_false_iff_not]
      by_cases a1 : H = []
      · rw [if_pos (.inl a1)] at hq
        rw [if_pos a1]
        exact hq
      rw [if_neg a1]
      by_cases a2 : 3 < H.length
      · rw [if_pos (.inr (.inl a2))] at hq
        rw [if_pos (by omega)]
        exact hq
      rw [if_neg (by omega)]
      by_cases a3 : 6 < T.length
      · rw [if_pos (.inr (.inr (.inl a3)))] at hq
        rw [if_pos (by omega)]
        exact hq
      rw [if_neg (by omega)]
      by_cases a4 : P ≠ [] ∧ T = []
      · rw [if_pos (.inr (.inr (.inr a4)))] at hq
        rw [if_pos a4.1, if_pos a4.2]
        exact hq
      rw [if_neg (by rintro (z | z | z | z); exact a1 z; exact a2 z; exact a3 z; exact a4 z)] at hq
      have go : k [some (.val (.str (SX.S t))), some (.val (.str (SX.S (plainL t)))), some (.val (.str (SX.S H))), some (.val (.str (SX.S P))), some (.val (.str (SX.S T))), none, none] := hk _ (by
        clear hk k
        refine seq_mk fun k hk => ?_
        simp only [dRet, dRetN, dSeq, dPar, dPar3, dCons, dNil, dCaB, dVar, dC, dCmpT, dCmp, dU, dB, dAndV, dOrV, dNotV, dAnd, dOr, dNot, dIf, dTup, dLst, dChain, dChainT, dTest, dIsi, dAsg, dDrop, dIfS, gN, gT, gs0, gs1, dAug, dNext, dRaise, dCall, dYes, topE, List.getElem?_cons_succ, List.getElem?_cons_zero, List.set_cons_zero, List.set_cons_succ, Option.some.injEq, S.val.injEq, exists_eq_left', exists_eq_left, exists_and_left, and_assoc, List.cons.injEq, and_true, true_and, PyData.int.injEq, PyData.bool.injEq, PyData.tuple.injEq, PyData.list.injEq, absD_i, maxD_i, addD_i, subD_i, negD_i, iaddD_i, mulD_e, fdivD_e, ifdivD_e, modD_e, leD_i, ltD_i, gtD_i, geD_i, lenD_t, lenD_l, isNd_n, notNd_n, isBd_b, notBd_b, isNonD_i, isNonD_n, isNonD_t, isNonD_l, eqD_int, neD_int, eqD_bool, neD_bool, eqD_fr, neD_fr, ix_fr0, ix_fr1, kit_int, kit_bool, kit_str, kit_tuple, decide_eq_true_eq, Bool.not_eq_true', decide_eq_false_iff_not, line_nil, line1, line2, if_true, if_false, dLc, dItS, cat, PyData.str.injEq]
        refine lcW_of _ (fun _ => true) (fun c => .bool (isD c)) _ _ _ (fun c hc K1 K0 g1 g0 => ?_) (by rw [List.length_append, sizeLine_eq, List.length_nil]; omega) ?_
        · simp only [dRet, dRetN, dSeq, dPar, dPar3, dCons, dNil, dCaB, dVar, dC, dCmpT, dCmp, dU, dB, dAndV, dOrV, dNotV, dAnd, dOr, dNot, dIf, dTup, dLst, dChain, dChainT, dTest, dIsi, dAsg, dDrop, dIfS, gN, gT, gs0, gs1, dAug, dNext, dRaise, dCall, dYes, topE, List.getElem?_cons_succ, List.getElem?_cons_zero, List.set_cons_zero, List.set_cons_succ, Option.some.injEq, S.val.injEq, exists_eq_left', exists_eq_left, exists_and_left, and_assoc, List.cons.injEq, and_true, true_and, PyData.int.injEq, PyData.bool.injEq, PyData.tuple.injEq, PyData.list.injEq, absD_i, maxD_i, addD_i, subD_i, negD_i, iaddD_i, mulD_e, fdivD_e, ifdivD_e, modD_e, leD_i, ltD_i, gtD_i, geD_i, lenD_t, lenD_l, isNd_n, notNd_n, isBd_b, notBd_b, isNonD_i, isNonD_n, isNonD_t, isNonD_l, eqD_int, neD_int, eqD_bool, neD_bool, eqD_fr, neD_fr, ix_fr0, ix_fr1, kit_int, kit_bool, kit_str, kit_tuple, decide_eq_true_eq, Bool.not_eq_true', decide_eq_false_iff_not, line_nil, line1, line2, if_true, if_false, blkL, unOwn, wipeL, List.map_cons, List.map_nil, dYes, in_S]
          exact g1 rfl
        rw [List.nil_append, List.filter_eq_self.mpr (fun _ _ => rfl)]
        refine ⟨_, all_S _, ?_⟩
        cases hA : (H ++ T).all isD with
        | false =>
          rw [if_pos hA] at hq
          simp only [dRet, dRetN, dSeq, dPar, dPar3, dCons, dNil, dCaB, dVar, dC, dCmpT, dCmp, dU, dB, dAndV, dOrV, dNotV, dAnd, dOr, dNot, dIf, dTup, dLst, dChain, dChainT, dTest, dIsi, dAsg, dDrop, dIfS, gN, gT, gs0, gs1, dAug, dNext, dRaise, dCall, dYes, topE, List.getElem?_cons_succ, List.getElem?_cons_zero, List.set_cons_zero, List.set_cons_succ, Option.some.injEq, S.val.injEq, exists_eq_left', exists_eq_left, exists_and_left, and_assoc, List.cons.injEq, and_true, true_and, PyData.int.injEq, PyData.bool.injEq, PyData.tuple.injEq, PyData.list.injEq, absD_i, maxD_i, addD_i, subD_i, negD_i, iaddD_i, mulD_e, fdivD_e, ifdivD_e, modD_e, leD_i, ltD_i, gtD_i, geD_i, lenD_t, lenD_l, isNd_n, notNd_n, isBd_b, notBd_b, isNonD_i, isNonD_n, isNonD_t, isNonD_l, eqD_int, neD_int, eqD_bool, neD_bool, eqD_fr, neD_fr, ix_fr0, ix_fr1, kit_int, kit_bool, kit_str, kit_tuple, decide_eq_true_eq, Bool.not_eq_true', decide_eq_false_iff_not, line_nil, line1, line2, if_true, if_false]
          exact hq
        | true =>
          rw [if_neg (by rw [hA]; exact fun z => Bool.noConfusion z)] at hq
          have ad : AD (H ++ T) := all_isD.mp hA
          have ne : H ++ T ≠ [] := fun z => a1 (List.append_eq_nil_iff.mp z).1
          simp only [dRet, dRetN, dSeq, dPar, dPar3, dCons, dNil, dCaB, dVar, dC, dCmpT, dCmp, dU, dB, dAndV, dOrV, dNotV, dAnd, dOr, dNot, dIf, dTup, dLst, dChain, dChainT, dTest, dIsi, dAsg, dDrop, dIfS, gN, gT, gs0, gs1, dAug, dNext, dRaise, dCall, dYes, topE, List.getElem?_cons_succ, List.getElem?_cons_zero, List.set_cons_zero, List.set_cons_succ, Option.some.injEq, S.val.injEq, exists_eq_left', exists_eq_left, exists_and_left, and_assoc, List.cons.injEq, and_true, true_and, PyData.int.injEq, PyData.bool.injEq, PyData.tuple.injEq, PyData.list.injEq, absD_i, maxD_i, addD_i, subD_i, negD_i, iaddD_i, mulD_e, fdivD_e, ifdivD_e, modD_e, leD_i, ltD_i, gtD_i, geD_i, lenD_t, lenD_l, isNd_n, notNd_n, isBd_b, notBd_b, isNonD_i, isNonD_n, isNonD_t, isNonD_l, eqD_int, neD_int, eqD_bool, neD_bool, eqD_fr, neD_fr, ix_fr0, ix_fr1, kit_int, kit_bool, kit_str, kit_tuple, decide_eq_true_eq, Bool.not_eq_true', decide_eq_false_iff_not, line_nil, line1, line2, if_true, if_false, Bool.true_eq_false]
          refine hk [some (.val (.str (SX.S t))), some (.val (.str (SX.S (plainL t)))), some (.val (.str (SX.S H))), some (.val (.str (SX.S P))), some (.val (.str (SX.S T))), none, none] ?_
          clear hk k
          refine seq_mk fun k hk => ?_
          simp only [dRet, dRetN, dSeq, dPar, dPar3, dCons, dNil, dCaB, dVar, dC, dCmpT, dCmp, dU, dB, dAndV, dOrV, dNotV, dAnd, dOr, dNot, dIf, dTup, dLst, dChain, dChainT, dTest, dIsi, dAsg, dDrop, dIfS, gN, gT, gs0, gs1, dAug, dNext, dRaise, dCall, dYes, topE, List.getElem?_cons_succ, List.getElem?_cons_zero, List.set_cons_zero, List.set_cons_succ, Option.some.injEq, S.val.injEq, exists_eq_left', exists_eq_left, exists_and_left, and_assoc, List.cons.injEq, and_true, true_and, PyData.int.injEq, PyData.bool.injEq, PyData.tuple.injEq, PyData.list.injEq, absD_i, maxD_i, addD_i, subD_i, negD_i, iaddD_i, mulD_e, fdivD_e, ifdivD_e, modD_e, leD_i, ltD_i, gtD_i, geD_i, lenD_t, lenD_l, isNd_n, notNd_n, isBd_b, notBd_b, isNonD_i, isNonD_n, isNonD_t, isNonD_l, eqD_int, neD_int, eqD_bool, neD_bool, eqD_fr, neD_fr, ix_fr0, ix_fr1, kit_int, kit_bool, kit_str, kit_tuple, decide_eq_true_eq, Bool.not_eq_true', decide_eq_false_iff_not, line_nil, line1, line2, if_true, if_false, cat, int_D ad ne (by rw [List.length_append]; omega)]
          refine hk [some (.val (.str (SX.S t))), some (.val (.str (SX.S (plainL t)))), some (.val (.str (SX.S H))), some (.val (.str (SX.S P))), some (.val (.str (SX.S T))), some (.val (.int (dV (H ++ T) : Nat))), none] ?_
          clear hk k
          obtain ⟨U, hU⟩ : ∃ U : Int, U = if negL t = true then -((dV (H ++ T) : Nat) : Int) else (dV (H ++ T) : Nat) := ⟨_, rfl⟩
          rw [← hU] at hq
          have hUa : U.natAbs = dV (H ++ T) := by rw [hU]; split <;> omega
          refine seq_mk fun k hk => ?_
          have fin : k [some (.val (.str (SX.S t))), some (.val (.str (SX.S (plainL t)))), some (.val (.str (SX.S H))), some (.val (.str (SX.S P))), some (.val (.str (SX.S T))), some (.val (.int U)), none] := hk _ (by
            clear hk k
            have pT := pow_nat T.length
            refine seq_mk fun k hk => ?_
            simp only [dRet, dRetN, dSeq, dPar, dPar3, dCons, dNil, dCaB, dVar, dC, dCmpT, dCmp, dU, dB, dAndV, dOrV, dNotV, dAnd, dOr, dNot, dIf, dTup, dLst, dChain, dChainT, dTest, dIsi, dAsg, dDrop, dIfS, gN, gT, gs0, gs1, dAug, dNext, dRaise, dCall, dYes, topE, List.getElem?_cons_succ, List.getElem?_cons_zero, List.set_cons_zero, List.set_cons_succ, Option.some.injEq, S.val.injEq, exists_eq_left', exists_eq_left, exists_and_left, and_assoc, List.cons.injEq, and_true, true_and, PyData.int.injEq, PyData.bool.injEq, PyData.tuple.injEq, PyData.list.injEq, absD_i, maxD_i, addD_i, subD_i, negD_i, iaddD_i, mulD_e, fdivD_e, ifdivD_e, modD_e, leD_i, ltD_i, gtD_i, geD_i, lenD_t, lenD_l, isNd_n, notNd_n, isBd_b, notBd_b, isNonD_i, isNonD_n, isNonD_t, isNonD_l, eqD_int, neD_int, eqD_bool, neD_bool, eqD_fr, neD_fr, ix_fr0, ix_fr1, kit_int, kit_bool, kit_str, kit_tuple, decide_eq_true_eq, Bool.not_eq_true', decide_eq_false_iff_not, line_nil, line1, line2, if_true, if_false, lT, c_power_of_e]
            refine ⟨by omega, by omega, mulOk_l (by decide) (by decide), ?_⟩
            rw [pT]
            by_cases b1 : 101 * 10 ^ T.length < dV (H ++ T)
            · rw [if_pos (.inl b1)] at hq
              rw [if_pos (by rw [hUa]; omega)]
              exact hq
            rw [if_neg (by rw [hUa]; omega)]
            refine c_written_ok ⟨by omega, by omega⟩ (by rw [hUa, pT]; omega) ?_
            rw [wrT_S (by omega), Int.toNat_natCast]
            refine ⟨_, neD_S (wr_ok _ _) ok, ?_⟩
            by_cases b2 : wrL U T.length = t
            · rw [if_neg (by rintro (z | z); exact b1 z; exact z b2)] at hq
              rw [decide_eq_true b2]
              refine iteF (hk [some (.val (.str (SX.S t))), some (.val (.str (SX.S (plainL t)))), some (.val (.str (SX.S H))), some (.val (.str (SX.S P))), some (.val (.str (SX.S T))), some (.val (.int U)), none] ?_)
              clear hk k
              simp only [dRet, dRetN, dSeq, dPar, dPar3, dCons, dNil, dCaB, dVar, dC, dCmpT, dCmp, dU, dB, dAndV, dOrV, dNotV, dAnd, dOr, dNot, dIf, dTup, dLst, dChain, dChainT, dTest, dIsi, dAsg, dDrop, dIfS, gN, gT, gs0, gs1, dAug, dNext, dRaise, dCall, dYes, topE, List.getElem?_cons_succ, List.getElem?_cons_zero, List.set_cons_zero, List.set_cons_succ, Option.some.injEq, S.val.injEq, exists_eq_left', exists_eq_left, exists_and_left, and_assoc, List.cons.injEq, and_true, true_and, PyData.int.injEq, PyData.bool.injEq, PyData.tuple.injEq, PyData.list.injEq, absD_i, maxD_i, addD_i, subD_i, negD_i, iaddD_i, mulD_e, fdivD_e, ifdivD_e, modD_e, leD_i, ltD_i, gtD_i, geD_i, lenD_t, lenD_l, isNd_n, notNd_n, isBd_b, notBd_b, isNonD_i, isNonD_n, isNonD_t, isNonD_l, eqD_int, neD_int, eqD_bool, neD_bool, eqD_fr, neD_fr, ix_fr0, ix_fr1, kit_int, kit_bool, kit_str, kit_tuple, decide_eq_true_eq, Bool.not_eq_true', decide_eq_false_iff_not, line_nil, line1, line2, if_true, if_false, lT, List.length_cons, List.length_nil, sizeLine_eq, Nat.reduceAdd, Nat.reduceLeDiff, Nat.zero_add]
              exact hq
            · rw [if_pos (.inr b2)] at hq
              rw [decide_eq_false b2]
              refine iteT ?_
              exact hq)
          clear hk
          simp only [dRet, dRetN, dSeq, dPar, dPar3, dCons, dNil, dCaB, dVar, dC, dCmpT, dCmp, dU, dB, dAndV, dOrV, dNotV, dAnd, dOr, dNot, dIf, dTup, dLst, dChain, dChainT, dTest, dIsi, dAsg, dDrop, dIfS, gN, gT, gs0, gs1, dAug, dNext, dRaise, dCall, dYes, topE, List.getElem?_cons_succ, List.getElem?_cons_zero, List.set_cons_zero, List.set_cons_succ, Option.some.injEq, S.val.injEq, exists_eq_left', exists_eq_left, exists_and_left, and_assoc, List.cons.injEq, and_true, true_and, PyData.int.injEq, PyData.bool.injEq, PyData.tuple.injEq, PyData.list.injEq, absD_i, maxD_i, addD_i, subD_i, negD_i, iaddD_i, mulD_e, fdivD_e, ifdivD_e, modD_e, leD_i, ltD_i, gtD_i, geD_i, lenD_t, lenD_l, isNd_n, notNd_n, isBd_b, notBd_b, isNonD_i, isNonD_n, isNonD_t, isNonD_l, eqD_int, neD_int, eqD_bool, neD_bool, eqD_fr, neD_fr, ix_fr0, ix_fr1, kit_int, kit_bool, kit_str, kit_tuple, decide_eq_true_eq, Bool.not_eq_true', decide_eq_false_iff_not, line_nil, line1, line2, if_true, if_false, dSlS, dO0, dO1, PyData.str.injEq, sl_to1, lit_minus, eqm]
          refine ⟨tz, ?_⟩
          by_cases hn : negL t = true
          · rw [if_pos hn] at hU ⊢
            rw [← hU]
            exact fin
          · rw [if_neg hn] at hU ⊢
            rw [← hU]
            exact fin)
      clear hk
      by_cases b4 : P = []
      · first
          | (rw [if_neg (fun z => z b4)]; exact go)
          | (rw [if_neg (fun z => z b4), if_neg Bool.false_ne_true]; exact go)
      · rw [if_pos b4, if_neg (fun z => a4 ⟨b4, z⟩)]
        exact go)
  clear hk
  simp only [dRet, dRetN, dSeq, dPar, dPar3, dCons, dNil, dCaB, dVar, dC, dCmpT, dCmp, dU, dB, dAndV, dOrV, dNotV, dAnd, dOr, dNot, dIf, dTup, dLst, dChain, dChainT, dTest, dIsi, dAsg, dDrop, dIfS, gN, gT, gs0, gs1, dAug, dNext, dRaise, dCall, dYes, topE, List.getElem?_cons_succ, List.getElem?_cons_zero, List.set_cons_zero, List.set_cons_succ, Option.some.injEq, S.val.injEq, exists_eq_left', exists_eq_left, exists_and_left, and_assoc, List.cons.injEq, and_true, true_and, PyData.int.injEq, PyData.bool.injEq, PyData.tuple.injEq, PyData.list.injEq, absD_i, maxD_i, addD_i, subD_i, negD_i, iaddD_i, mulD_e, fdivD_e, ifdivD_e, modD_e, leD_i, ltD_i, gtD_i, geD_i, lenD_t, lenD_l, isNd_n, notNd_n, isBd_b, notBd_b, isNonD_i, isNonD_n, isNonD_t, isNonD_l, eqD_int, neD_int, eqD_bool, neD_bool, eqD_fr, neD_fr, ix_fr0, ix_fr1, kit_int, kit_bool, kit_str, kit_tuple, decide_eq_true_eq, Bool.not_eq_true', decide_eq_false_iff_not, line_nil, line1, line2, if_true, if_false, dSlS, dO0, dO1, PyData.str.injEq, sl_to1, sl_from1, lit_minus, eqm]
  unfold plainL at fin
  refine ⟨tz, ?_⟩
  by_cases hn : negL t = true
  · rw [if_pos hn] at fin ⊢
    exact ⟨tz, fin⟩
  · rw [if_neg hn] at fin ⊢
    exact fin
theorem c_parse_decimal_ok {t : List Nat} {q : Res → Prop} (hl : t.length ≤ 1000) (ok : okL t = true) (h : q (match parD t with | none => .er .txt | some x => .ok (fr x.1 (x.2 : Nat)))) : c_parse_decimal [.str (SX.S t)] q := ⟨_, rfl, .inr ⟨t, rfl, hl, ok, h⟩⟩
theorem c_parse_decimal_no {v : PyData} {q : Res → Prop} (hv : ∀ t, v ≠ .str t) (h : q (.er .txt)) : c_parse_decimal [v] q := ⟨_, rfl, .inl ⟨hv, h⟩⟩
abbrev s_format_fraction : Stmt := topS 27
theorem sc_format_fraction : FnScope ["value"] ["value"] (defScope s_format_fraction) := ⟨rfl, rfl, rfl, by decide +kernel, rfl, by decide +kernel, by decide +kernel⟩
def frT (p n : Int) : Str := if n = 1 then txtI p else ((Str.empty ++ txtI p) ++ "/") ++ txtI n
def c_format_fraction : Ct := fun ds q => ∃ v, ds = [v] ∧ chk (isFracB v) .frac q (∀ p n : Int, v = fr p n → q (.ok (.str (frT p n))))
theorem ok_format_fraction (F : Fun K "format_fraction" "format_fraction" s_format_fraction f fd) (F_check_fraction : Fd P w K mg base ca "check_fraction" c_check_fraction 1 3) (m_str : mg "str" = none) : FnOk P w K mg base (L2.CX P w) 4 f fd ["value"] (spD K ca c_format_fraction 1) := by
  refine fn_ok F sc_format_fraction rfl (fun cdv A outer s H E hr tk po hu hu5 => ?_)
  refine ⟨_, _, pdb_cons (pds_expr (pd_fn F_check_fraction (hr.mono (by decide)) (by rfl) tk (pda_cons (pd_var (pv 0)) pda_nil)))
      (pdb_one (pds_ret (pd_if (pdt_cmp (r := rEqD K) (op_eqD hu) cm_eq (pd_ix (r := rIx K) ix_seq od_ix (pd_var (pv 0)) pd_int (fun _ _ => rfl)) (PD.pv pd_int) (nomark _)) (pd_callTy call_str_int cd_strI (by rfl) m_str boot_str (pda_cons (pd_ix (r := rIx K) ix_seq od_ix (pd_var (pv 0)) pd_int (fun _ _ => rfl)) pda_nil)) (pd_join (PJD.cons (pd_fmt (pd_ix (r := rIx K) ix_seq od_ix (pd_var (pv 0)) pd_int (fun _ _ => rfl))) (PJD.cons pd_str (PJD.cons (pd_fmt (pd_ix (r := rIx K) ix_seq od_ix (pd_var (pv 0)) pd_int (fun _ _ => rfl))) PJD.nil))))))), ?_⟩
  clear hr tk po hu hu5
  intro ds q hl hc
  obtain ⟨v, rfl, hq⟩ := hc
  rw [show start0 (["value"] : List Str) [v] = [some (.val (v))] from rfl]
  simp only [dRet, dRetN, dSeq, dPar, dPar3, dCons, dNil, dCaB, dVar, dC, dCmpT, dCmp, dU, dB, dAndV, dOrV, dNotV, dAnd, dOr, dNot, dIf, dTup, dLst, dChain, dChainT, dTest, dIsi, dAsg, dDrop, dIfS, gN, gT, gs0, gs1, dAug, dNext, dRaise, dCall, dYes, topE, List.getElem?_cons_succ, List.getElem?_cons_zero, List.set_cons_zero, List.set_cons_succ, Option.some.injEq, S.val.injEq, exists_eq_left', exists_eq_left, exists_and_left, and_assoc, List.cons.injEq, and_true, true_and, PyData.int.injEq, PyData.bool.injEq, PyData.tuple.injEq, PyData.list.injEq, absD_i, maxD_i, addD_i, subD_i, negD_i, iaddD_i, mulD_e, fdivD_e, ifdivD_e, modD_e, leD_i, ltD_i, gtD_i, geD_i, lenD_t, lenD_l, isNd_n, notNd_n, isBd_b, notBd_b, isNonD_i, isNonD_n, isNonD_t, isNonD_l, eqD_int, neD_int, eqD_bool, neD_bool, eqD_fr, neD_fr, ix_fr0, ix_fr1, kit_int, kit_bool, kit_str, kit_tuple, decide_eq_true_eq, Bool.not_eq_true', decide_eq_false_iff_not, line_nil, line1, line2, if_true, if_false, c_check_fraction_e]
  cases h1 : isFracB v with
  | false => rw [h1, chk_f] at hq; simpa using hq
  | true =>
    rw [h1, chk_t] at hq
    simp only [if_true]
    obtain ⟨vp, vn, rfl, v1, v2, v3, v4, v5⟩ := isFracB_inv h1
    have hq := hq _ _ rfl
    have g1 : vp.natAbs.log2 < 1920 := log_small (Nat.lt_trans (show _ < 2 ^ 64 by omega) (by decide))
    have g2 : vn.natAbs.log2 < 1920 := log_small (Nat.lt_trans (show _ < 2 ^ 64 by omega) (by decide))
    have t1 : strID [.int vp] = some (.str (txtI vp)) := if_pos g1
    have t2 : txtOf (.int vp) = some (txtI vp) := if_pos g1
    have t3 : txtOf (.int vn) = some (txtI vn) := if_pos g2
    have l1 : (txtI vp).length ≤ 5 := txt_any (k := 4) (by decide) (by omega)
    have l2 : (txtI vn).length ≤ 5 := txt_any (k := 4) (by decide) (by omega)
    have e0 : Str.empty.length = 0 := by decide
    have e1 : (Str.length ("/" : Str)) = 1 := by decide
    simp only [dRet, dRetN, dSeq, dPar, dPar3, dCons, dNil, dCaB, dVar, dC, dCmpT, dCmp, dU, dB, dAndV, dOrV, dNotV, dAnd, dOr, dNot, dIf, dTup, dLst, dChain, dChainT, dTest, dIsi, dAsg, dDrop, dIfS, gN, gT, gs0, gs1, dAug, dNext, dRaise, dCall, dYes, topE, List.getElem?_cons_succ, List.getElem?_cons_zero, List.set_cons_zero, List.set_cons_succ, Option.some.injEq, S.val.injEq, exists_eq_left', exists_eq_left, exists_and_left, and_assoc, List.cons.injEq, and_true, true_and, PyData.int.injEq, PyData.bool.injEq, PyData.tuple.injEq, PyData.list.injEq, absD_i, maxD_i, addD_i, subD_i, negD_i, iaddD_i, mulD_e, fdivD_e, ifdivD_e, modD_e, leD_i, ltD_i, gtD_i, geD_i, lenD_t, lenD_l, isNd_n, notNd_n, isBd_b, notBd_b, isNonD_i, isNonD_n, isNonD_t, isNonD_l, eqD_int, neD_int, eqD_bool, neD_bool, eqD_fr, neD_fr, ix_fr0, ix_fr1, kit_int, kit_bool, kit_str, kit_tuple, decide_eq_true_eq, Bool.not_eq_true', decide_eq_false_iff_not, line_nil, line1, line2, if_true, if_false, t1, t2, t3, dJoin, dJs, dFmt, PyData.str.injEq]
    unfold frT at hq
    by_cases c : vn = 1
    · rw [if_pos c] at hq ⊢
      exact hq
    · rw [if_neg c] at hq ⊢
      exact ⟨by rw [Str.length_append, sizeLine_eq]; omega, by rw [Str.length_append, Str.length_append, sizeLine_eq]; omega, by rw [Str.length_append, Str.length_append, Str.length_append, sizeLine_eq]; omega, hq⟩
theorem c_format_fraction_ok {p n : Int} {q : Res → Prop} (hv : isFracB (fr p n) = true) (h : q (.ok (.str (frT p n)))) : c_format_fraction [fr p n] q := by
  refine ⟨_, rfl, ?_⟩
  rw [hv, chk_t]
  intro p' n' e
  simp at e
  obtain ⟨rfl, rfl⟩ := e
  exact h
abbrev s_parse_fraction : Stmt := topS 28
theorem sc_parse_fraction : FnScope ["text", "plain", "head", "stroke", "tail", "top", "found", "sign"] ["text"] (defScope s_parse_fraction) := ⟨rfl, rfl, rfl, by decide +kernel, rfl, by decide +kernel, by decide +kernel⟩
def c_parse_fraction : Ct := fun ds q => ∃ v, ds = [v] ∧ (((∀ t, v ≠ .str t) ∧ q (.er .txt)) ∨ ∃ t : List Nat, v = .str (SX.S t) ∧ t.length ≤ 1000 ∧ okL t = true ∧ q (match parF t with | none => .er .txt | some x => .ok (fr x.1 x.2)))
theorem frT_S {p n : Int} (n0 : 0 ≤ n) : frT p n = SX.S (frL p n) := by
  obtain ⟨m, rfl⟩ := Int.eq_ofNat_of_zero_le n0
  have e0 : Str.empty = SX.S [] := rfl
  unfold frT frL
  rw [txt_int, txt_nat, e0]
  by_cases c : (m : Int) = 1
  · rw [if_pos c, if_pos c]
    simp
  · rw [if_neg c, if_neg c]
    rw [show ("/" : Str) = SX.S [47] from lit_slash, SX.S_cat, SX.S_cat, SX.S_cat]
    simp
theorem ok_parse_fraction (F : Fun K "parse_fraction" "parse_fraction" s_parse_fraction f fd) (F_is_fraction : Fd P w K mg base ca "is_fraction" c_is_fraction 1 2) (F_format_fraction : Fd P w K mg base ca "format_fraction" c_format_fraction 1 4) (m_all : mg "all" = none) (m_int : mg "int" = none) (m_isinstance : mg "isinstance" = none) (m_len : mg "len" = none) (m_str : mg "str" = none) (g_SIGNS : ∃ t, mg "SIGNS" = some (.str "0123456789" t)) (X_txt : Xf K mg "BadText" (ca .txt)) : FnOk P w K mg base (L2.CX P w) 5 f fd ["text"] (spD K ca c_parse_fraction 1) := by
  refine fn_ok F sc_parse_fraction rfl (fun cdv A outer s H E hr tk po hu hu5 => ?_)
  refine ⟨_, _, pdb_cons (pds_if (pdt_not (pdt_val (pd_isi (K := K) (pd_var (pv 0)) rfl m_isinstance (pe_bltn (v := .ty "str") rfl m_str boot_str rfl)))) (pdb_one (pds_raise (er := .txt) X_txt rfl tk rfl)) (pdb_nil))
      (pdb_cons (pds_set (pd_if (pdt_cmp (r := rEqD K) (op_eqD hu) cm_eq (pd_slS (pd_var (pv 0)) pdo_none (pdo_some pd_int)) (PD.pv pd_str) (nomark _)) (pd_slS (pd_var (pv 0)) (pdo_some pd_int) pdo_none) (pd_var (pv 0))) (fun h => ps_set (i := 1) sc_parse_fraction.nd rfl (.inl rfl) h))
      (pdb_cons (pds_asg (pd_part (pd_var (pv 1)) pd_str) (pdg_tup (n := 3) rfl (pdgs_cons (pdg_name (pg_name (i := 2) sc_parse_fraction.nd rfl (.inl rfl))) (pdgs_cons (pdg_name (pg_name (i := 3) sc_parse_fraction.nd rfl (.inl rfl))) (pdgs_cons (pdg_name (pg_name (i := 4) sc_parse_fraction.nd rfl (.inl rfl))) pdgs_nil)))))
      (pdb_cons (pds_if (PDW.pt (pdw_or (pdt_not (pdt_val (pd_callB (cr_all rfl) cd_all (by rfl) m_all boot_all (pda_cons (pd_lc (own := [("sign", 7)]) rfl sc_parse_fraction.nd (pdi_str (pd_op (op_add.or (op_add_str.or op_cat)) od_add (pd_var (pv 2)) (pd_var (pv 4)))) (blkOk_by (N := ["text", "plain", "head", "stroke", "tail", "top", "found", "sign"]) (sc := defScope s_parse_fraction) (by decide +kernel)) (fun _ _ _ _ _ => pg_name (i := 7) sc_parse_fraction.nd rfl (.inl rfl)) (gsv_name (by decide)) (fun _ _ _ _ _ => pdts_nil) (fun _ _ _ _ _ => (pd_cmp (r := rInS) op_inS cm_inS (pd_var (pv 7)) (PD.pv (pd_gstr (by rfl) g_SIGNS)) (by rfl)))) pda_nil)))) (pdw_or (pdt_not (pdt_chain op_le cm_le op_le cm_le pd_int (pd_callB (r := rLenA K) call_lenA cd_len (by rfl) m_len boot_len (pda_cons (pd_var (pv 2)) pda_nil)) pd_int)) (pdw_or1 (pdt_cmp op_gt cm_gt (pd_callB (r := rLenA K) call_lenA cd_len (by rfl) m_len boot_len (pda_cons (pd_var (pv 4)) pda_nil)) (PD.pv pd_int) (nomark _)))))) (pdb_one (pds_raise (er := .txt) X_txt rfl tk rfl)) (pdb_nil))
      (pdb_cons (pds_if (PDW.pt (pdw_and (pdt_cmp (r := rNeD K) (op_neD hu) cm_ne (pd_var (pv 3)) (PD.pv pd_str) (nomark _)) (pdw_and1 (pdt_cmp (r := rEqD K) (op_eqD hu) cm_eq (pd_var (pv 4)) (PD.pv pd_str) (nomark _))))) (pdb_one (pds_raise (er := .txt) X_txt rfl tk rfl)) (pdb_nil))
      (pdb_cons (pds_set (pd_callTy call_int_str cd_intS (by rfl) m_int boot_int (pda_cons (pd_var (pv 2)) pda_nil)) (fun h => ps_set (i := 5) sc_parse_fraction.nd rfl (.inl rfl) h))
      (pdb_cons (pds_set (pd_tup (pda_cons (pd_if (pdt_cmp (r := rEqD K) (op_eqD hu) cm_eq (pd_slS (pd_var (pv 0)) pdo_none (pdo_some pd_int)) (PD.pv pd_str) (nomark _)) (pd_un un_neg ud_neg (pd_var (pv 5))) (pd_var (pv 5))) (pda_cons (pd_if (pdt_cmp (r := rNeD K) (op_neD hu) cm_ne (pd_var (pv 4)) (PD.pv pd_str) (nomark _)) (pd_callTy call_int_str cd_intS (by rfl) m_int boot_int (pda_cons (pd_var (pv 4)) pda_nil)) pd_int) pda_nil))) (fun h => ps_set (i := 6) sc_parse_fraction.nd rfl (.inl rfl) h))
      (pdb_cons (pds_if (PDW.pt (pdw_or (pdt_not (pdt_val (pd_fn F_is_fraction (hr.mono (by decide)) (by rfl) tk (pda_cons (pd_var (pv 6)) pda_nil)))) (pdw_or1 (pdt_cmp (r := rNeD K) (op_neD hu) cm_ne (pd_fn F_format_fraction (hr.mono (by decide)) (by rfl) tk (pda_cons (pd_var (pv 6)) pda_nil)) (PD.pv (pd_var (pv 0))) (nomark _))))) (pdb_one (pds_raise (er := .txt) X_txt rfl tk rfl)) (pdb_nil))
      (pdb_one (pds_ret (pd_var (pv 6))))))))))), ?_⟩
  clear hr tk po hu hu5
  intro ds q hl hc
  obtain ⟨v, rfl, hq⟩ := hc
  rw [show start0 (["text", "plain", "head", "stroke", "tail", "top", "found", "sign"] : List Str) [v] = [some (.val (v)), none, none, none, none, none, none, none] from rfl]
  rcases hq with ⟨hv, hq⟩ | ⟨t, rfl, tl, ok, hq⟩
  · cases v with
    | str x => exact absurd rfl (hv x)
    | _ => simp only [dRet, dRetN, dSeq, dPar, dPar3, dCons, dNil, dCaB, dVar, dC, dCmpT, dCmp, dU, dB, dAndV, dOrV, dNotV, dAnd, dOr, dNot, dIf, dTup, dLst, dChain, dChainT, dTest, dIsi, dAsg, dDrop, dIfS, gN, gT, gs0, gs1, dAug, dNext, dRaise, dCall, dYes, topE, List.getElem?_cons_succ, List.getElem?_cons_zero, List.set_cons_zero, List.set_cons_succ, Option.some.injEq, S.val.injEq, exists_eq_left', exists_eq_left, exists_and_left, and_assoc, List.cons.injEq, and_true, true_and, PyData.int.injEq, PyData.bool.injEq, PyData.tuple.injEq, PyData.list.injEq, absD_i, maxD_i, addD_i, subD_i, negD_i, iaddD_i, mulD_e, fdivD_e, ifdivD_e, modD_e, leD_i, ltD_i, gtD_i, geD_i, lenD_t, lenD_l, isNd_n, notNd_n, isBd_b, notBd_b, isNonD_i, isNonD_n, isNonD_t, isNonD_l, eqD_int, neD_int, eqD_bool, neD_bool, eqD_fr, neD_fr, ix_fr0, ix_fr1, kit_int, kit_bool, kit_str, kit_tuple, decide_eq_true_eq, Bool.not_eq_true', decide_eq_false_iff_not, line_nil, line1, line2, if_true, if_false, yStr, if_true]; simpa using hq
  refine seq_mk fun k hk => ?_
  simp only [dRet, dRetN, dSeq, dPar, dPar3, dCons, dNil, dCaB, dVar, dC, dCmpT, dCmp, dU, dB, dAndV, dOrV, dNotV, dAnd, dOr, dNot, dIf, dTup, dLst, dChain, dChainT, dTest, dIsi, dAsg, dDrop, dIfS, gN, gT, gs0, gs1, dAug, dNext, dRaise, dCall, dYes, topE, List.getElem?_cons_succ, List.getElem?_cons_zero, List.set_cons_zero, List.set_cons_succ, Option.some.injEq, S.val.injEq, exists_eq_left', exists_eq_left, exists_and_left, and_assoc, List.cons.injEq, and_true, true_and, PyData.int.injEq, PyData.bool.injEq, PyData.tuple.injEq, PyData.list.injEq, absD_i, maxD_i, addD_i, subD_i, negD_i, iaddD_i, mulD_e, fdivD_e, ifdivD_e, modD_e, leD_i, ltD_i, gtD_i, geD_i, lenD_t, lenD_l, isNd_n, notNd_n, isBd_b, notBd_b, isNonD_i, isNonD_n, isNonD_t, isNonD_l, eqD_int, neD_int, eqD_bool, neD_bool, eqD_fr, neD_fr, ix_fr0, ix_fr1, kit_int, kit_bool, kit_str, kit_tuple, decide_eq_true_eq, Bool.not_eq_true', decide_eq_false_iff_not, line_nil, line1, line2, if_true, if_false, yStr, Bool.true_eq_false, if_false]
  refine hk [some (.val (.str (SX.S t))), none, none, none, none, none, none, none] ?_
  clear hk k
  have tz : (SX.S t).length ≤ sizeLine := by rw [SX.S_len, sizeLine_eq]; omega
  have tz' := (by rw [SX.S_len]; omega : (SX.S t).length ≤ 16777216)
  have eqm : eqD (.str (SX.S (t.take 1))) (.str (SX.S [45])) = some (negL t) := eqD_S (okL_sub ok fun c hc => List.mem_of_mem_take hc) (by decide)
  have ol := plain_sub (t := t) |>.2
  refine seq_mk fun k hk => ?_
  have fin : k [some (.val (.str (SX.S t))), some (.val (.str (SX.S (plainL t)))), none, none, none, none, none, none] := hk _ (by
    clear hk k
    refine seq_mk fun k hk => ?_
    simp only [dRet, dRetN, dSeq, dPar, dPar3, dCons, dNil, dCaB, dVar, dC, dCmpT, dCmp, dU, dB, dAndV, dOrV, dNotV, dAnd, dOr, dNot, dIf, dTup, dLst, dChain, dChainT, dTest, dIsi, dAsg, dDrop, dIfS, gN, gT, gs0, gs1, dAug, dNext, dRaise, dCall, dYes, topE, List.getElem?_cons_succ, List.getElem?_cons_zero, List.set_cons_zero, List.set_cons_succ, Option.some.injEq, S.val.injEq, exists_eq_left', exists_eq_left, exists_and_left, and_assoc, List.cons.injEq, and_true, true_and, PyData.int.injEq, PyData.bool.injEq, PyData.tuple.injEq, PyData.list.injEq, absD_i, maxD_i, addD_i, subD_i, negD_i, iaddD_i, mulD_e, fdivD_e, ifdivD_e, modD_e, leD_i, ltD_i, gtD_i, geD_i, lenD_t, lenD_l, isNd_n, notNd_n, isBd_b, notBd_b, isNonD_i, isNonD_n, isNonD_t, isNonD_l, eqD_int, neD_int, eqD_bool, neD_bool, eqD_fr, neD_fr, ix_fr0, ix_fr1, kit_int, kit_bool, kit_str, kit_tuple, decide_eq_true_eq, Bool.not_eq_true', decide_eq_false_iff_not, line_nil, line1, line2, if_true, if_false, dPart, PyData.str.injEq, lit_slash, List.length_cons, List.length_nil, sizeLine_eq, Nat.reduceAdd, Nat.reduceLeDiff, Nat.zero_add]
    refine ⟨by rw [SX.S_len]; rfl, by rw [SX.S_len]; omega, ?_⟩
    rw [part_S]
    unfold parF at hq
    cases hC : cutL 47 (plainL t) with
    | mk H C =>
      obtain ⟨P, T⟩ := C
      rw [hC] at hq
      dsimp only at hq ⊢
      obtain ⟨oH, oP, oT, lHT⟩ := cut_parts (by decide) hC ok
      refine hk [some (.val (.str (SX.S t))), some (.val (.str (SX.S (plainL t)))), some (.val (.str (SX.S H))), some (.val (.str (SX.S P))), some (.val (.str (SX.S T))), none, none, none] ?_
      clear hk k
      have eH : eqD (.str (SX.S H)) (.str (SX.S [])) = some (decide (H = [])) := eqD_S oH rfl
      have eT : eqD (.str (SX.S T)) (.str (SX.S [])) = some (decide (T = [])) := eqD_S oT rfl
      have nT : neD (.str (SX.S T)) (.str (SX.S [])) = some (!decide (T = [])) := neD_S oT rfl
      have nP : neD (.str (SX.S P)) (.str (SX.S [])) = some (!decide (P = [])) := neD_S oP rfl
      have lH := len_S H (by omega)
      have lT := len_S T (by omega)
      have cat : addD (.str (SX.S H)) (.str (SX.S T)) = some (.str (SX.S (H ++ T))) := by
        show (if _ then _ else _) = _
        rw [if_pos (by rw [SX.S_len, SX.S_len, sizeLine_eq]; omega), SX.S_cat]
      refine seq_mk fun k hk => ?_
      simp only [dRet, dRetN, dSeq, dPar, dPar3, dCons, dNil, dCaB, dVar, dC, dCmpT, dCmp, dU, dB, dAndV, dOrV, dNotV, dAnd, dOr, dNot, dIf, dTup, dLst, dChain, dChainT, dTest, dIsi, dAsg, dDrop, dIfS, gN, gT, gs0, gs1, dAug, dNext, dRaise, dCall, dYes, topE, List.getElem?_cons_succ, List.getElem?_cons_zero, List.set_cons_zero, List.set_cons_succ, Option.some.injEq, S.val.injEq, exists_eq_left', exists_eq_left, exists_and_left, and_assoc, List.cons.injEq, and_true, true_and, PyData.int.injEq, PyData.bool.injEq, PyData.tuple.injEq, PyData.list.injEq, absD_i, maxD_i, addD_i, subD_i, negD_i, iaddD_i, mulD_e, fdivD_e, ifdivD_e, modD_e, leD_i, ltD_i, gtD_i, geD_i, lenD_t, lenD_l, isNd_n, notNd_n, isBd_b, notBd_b, isNonD_i, isNonD_n, isNonD_t, isNonD_l, eqD_int, neD_int, eqD_bool, neD_bool, eqD_fr, neD_fr, ix_fr0, ix_fr1, kit_int, kit_bool, kit_str, kit_tuple, decide_eq_true_eq, Bool.not_eq_true', decide_eq_false_iff_not, line_nil, line1, line2, if_true, if_false, dLc, dItS, cat, PyData.str.injEq]
      refine lcW_of _ (fun _ => true) (fun c => .bool (isD c)) _ _ _ (fun c hc K1 K0 g1 g0 => ?_) (by rw [List.length_append, sizeLine_eq, List.length_nil]; omega) ?_
      · simp only [dRet, dRetN, dSeq, dPar, dPar3, dCons, dNil, dCaB, dVar, dC, dCmpT, dCmp, dU, dB, dAndV, dOrV, dNotV, dAnd, dOr, dNot, dIf, dTup, dLst, dChain, dChainT, dTest, dIsi, dAsg, dDrop, dIfS, gN, gT, gs0, gs1, dAug, dNext, dRaise, dCall, dYes, topE, List.getElem?_cons_succ, List.getElem?_cons_zero, List.set_cons_zero, List.set_cons_succ, Option.some.injEq, S.val.injEq, exists_eq_left', exists_eq_left, exists_and_left, and_assoc, List.cons.injEq, and_true, true_and, PyData.int.injEq, PyData.bool.injEq, PyData.tuple.injEq, PyData.list.injEq, absD_i, maxD_i, addD_i, subD_i, negD_i, iaddD_i, mulD_e, fdivD_e, ifdivD_e, modD_e, leD_i, ltD_i, gtD_i, geD_i, lenD_t, lenD_l, isNd_n, notNd_n, isBd_b, notBd_b, isNonD_i, isNonD_n, isNonD_t, isNonD_l, eqD_int, neD_int, eqD_bool, neD_bool, eqD_fr, neD_fr, ix_fr0, ix_fr1, kit_int, kit_bool, kit_str, kit_tuple, decide_eq_true_eq, Bool.not_eq_true', decide_eq_false_iff_not, line_nil, line1, line2, if_true, if_false, blkL, unOwn, wipeL, List.map_cons, List.map_nil, dYes, in_S]
        exact g1 rfl
      rw [List.nil_append, List.filter_eq_self.mpr (fun _ _ => rfl)]
      refine ⟨_, all_S _, ?_⟩

      cases hA : (H ++ T).all isD with
      | false =>
        rw [if_pos (.inl hA)] at hq
        simp only [dRet, dRetN, dSeq, dPar, dPar3, dCons, dNil, dCaB, dVar, dC, dCmpT, dCmp, dU, dB, dAndV, dOrV, dNotV, dAnd, dOr, dNot, dIf, dTup, dLst, dChain, dChainT, dTest, dIsi, dAsg, dDrop, dIfS, gN, gT, gs0, gs1, dAug, dNext, dRaise, dCall, dYes, topE, List.getElem?_cons_succ, List.getElem?_cons_zero, List.set_cons_zero, List.set_cons_succ, Option.some.injEq, S.val.injEq, exists_eq_left', exists_eq_left, exists_and_left, and_assoc, List.cons.injEq, and_true, true_and, PyData.int.injEq, PyData.bool.injEq, PyData.tuple.injEq, PyData.list.injEq, absD_i, maxD_i, addD_i, subD_i, negD_i, iaddD_i, mulD_e, fdivD_e, ifdivD_e, modD_e, leD_i, ltD_i, gtD_i, geD_i, lenD_t, lenD_l, isNd_n, notNd_n, isBd_b, notBd_b, isNonD_i, isNonD_n, isNonD_t, isNonD_l, eqD_int, neD_int, eqD_bool, neD_bool, eqD_fr, neD_fr, ix_fr0, ix_fr1, kit_int, kit_bool, kit_str, kit_tuple, decide_eq_true_eq, Bool.not_eq_true', decide_eq_false_iff_not, line_nil, line1, line2, if_true, if_false]
        exact hq
      | true =>
        have ad : AD (H ++ T) := all_isD.mp hA
        have adH : AD H := ad_sub ad fun c hc => List.mem_append_left _ hc
        have adT : AD T := ad_sub ad fun c hc => List.mem_append_right _ hc
        simp only [dRet, dRetN, dSeq, dPar, dPar3, dCons, dNil, dCaB, dVar, dC, dCmpT, dCmp, dU, dB, dAndV, dOrV, dNotV, dAnd, dOr, dNot, dIf, dTup, dLst, dChain, dChainT, dTest, dIsi, dAsg, dDrop, dIfS, gN, gT, gs0, gs1, dAug, dNext, dRaise, dCall, dYes, topE, List.getElem?_cons_succ, List.getElem?_cons_zero, List.set_cons_zero, List.set_cons_succ, Option.some.injEq, S.val.injEq, exists_eq_left', exists_eq_left, exists_and_left, and_assoc, List.cons.injEq, and_true, true_and, PyData.int.injEq, PyData.bool.injEq, PyData.tuple.injEq, PyData.list.injEq, absD_i, maxD_i, addD_i, subD_i, negD_i, iaddD_i, mulD_e, fdivD_e, ifdivD_e, modD_e, leD_i, ltD_i, gtD_i, geD_i, lenD_t, lenD_l, isNd_n, notNd_n, isBd_b, notBd_b, isNonD_i, isNonD_n, isNonD_t, isNonD_l, eqD_int, neD_int, eqD_bool, neD_bool, eqD_fr, neD_fr, ix_fr0, ix_fr1, kit_int, kit_bool, kit_str, kit_tuple, decide_eq_true_eq, Bool.not_eq_true', decide_eq_false_iff_not, line_nil, line1, line2, if_true, if_false, Bool.true_eq_false, lH, lT]
        by_cases a1 : 1 ≤ H.length ∧ H.length ≤ 4
        case neg =>
          rw [if_pos (.inr (.inl a1))] at hq
          by_cases b1 : (1 : Int) ≤ ↑H.length
          · rw [if_pos b1, if_pos (by omega)]
            exact hq
          · rw [if_neg b1]
            first | exact hq | (rw [if_pos rfl]; exact hq)
        rw [if_pos (show (1 : Int) ≤ ↑H.length by omega), if_neg (by omega)]
        by_cases a2 : 2 < T.length
        · rw [if_pos (.inr (.inr a2))] at hq
          rw [if_pos (by omega)]
          exact hq
        rw [if_neg (by rintro (z | z | z); (rw [hA] at z; cases z); exact z a1; exact a2 z)] at hq
        rw [if_neg (by omega)]
        refine hk [some (.val (.str (SX.S t))), some (.val (.str (SX.S (plainL t)))), some (.val (.str (SX.S H))), some (.val (.str (SX.S P))), some (.val (.str (SX.S T))), none, none, none] ?_
        clear hk k
        refine seq_mk fun k hk => ?_
        simp only [dRet, dRetN, dSeq, dPar, dPar3, dCons, dNil, dCaB, dVar, dC, dCmpT, dCmp, dU, dB, dAndV, dOrV, dNotV, dAnd, dOr, dNot, dIf, dTup, dLst, dChain, dChainT, dTest, dIsi, dAsg, dDrop, dIfS, gN, gT, gs0, gs1, dAug, dNext, dRaise, dCall, dYes, topE, List.getElem?_cons_succ, List.getElem?_cons_zero, List.set_cons_zero, List.set_cons_succ, Option.some.injEq, S.val.injEq, exists_eq_left', exists_eq_left, exists_and_left, and_assoc, List.cons.injEq, and_true, true_and, PyData.int.injEq, PyData.bool.injEq, PyData.tuple.injEq, PyData.list.injEq, absD_i, maxD_i, addD_i, subD_i, negD_i, iaddD_i, mulD_e, fdivD_e, ifdivD_e, modD_e, leD_i, ltD_i, gtD_i, geD_i, lenD_t, lenD_l, isNd_n, notNd_n, isBd_b, notBd_b, isNonD_i, isNonD_n, isNonD_t, isNonD_l, eqD_int, neD_int, eqD_bool, neD_bool, eqD_fr, neD_fr, ix_fr0, ix_fr1, kit_int, kit_bool, kit_str, kit_tuple, decide_eq_true_eq, Bool.not_eq_true', decide_eq_false_iff_not, line_nil, line1, line2, if_true, if_false, nP, eT, lit_empty, Bool.not_eq_true', decide_eq_false_iff_not]
        by_cases a4 : P ≠ [] ∧ T = []
        · rw [if_pos a4] at hq
          rw [if_pos a4.1, if_pos a4.2]
          exact hq
        rw [if_neg a4] at hq
        have neH : H ≠ [] := fun z => by rw [z] at a1; exact absurd a1.1 (by decide)
        have go : k [some (.val (.str (SX.S t))), some (.val (.str (SX.S (plainL t)))), some (.val (.str (SX.S H))), some (.val (.str (SX.S P))), some (.val (.str (SX.S T))), none, none, none] := hk _ (by
          clear hk k
          refine seq_mk fun k hk => ?_
          simp only [dRet, dRetN, dSeq, dPar, dPar3, dCons, dNil, dCaB, dVar, dC, dCmpT, dCmp, dU, dB, dAndV, dOrV, dNotV, dAnd, dOr, dNot, dIf, dTup, dLst, dChain, dChainT, dTest, dIsi, dAsg, dDrop, dIfS, gN, gT, gs0, gs1, dAug, dNext, dRaise, dCall, dYes, topE, List.getElem?_cons_succ, List.getElem?_cons_zero, List.set_cons_zero, List.set_cons_succ, Option.some.injEq, S.val.injEq, exists_eq_left', exists_eq_left, exists_and_left, and_assoc, List.cons.injEq, and_true, true_and, PyData.int.injEq, PyData.bool.injEq, PyData.tuple.injEq, PyData.list.injEq, absD_i, maxD_i, addD_i, subD_i, negD_i, iaddD_i, mulD_e, fdivD_e, ifdivD_e, modD_e, leD_i, ltD_i, gtD_i, geD_i, lenD_t, lenD_l, isNd_n, notNd_n, isBd_b, notBd_b, isNonD_i, isNonD_n, isNonD_t, isNonD_l, eqD_int, neD_int, eqD_bool, neD_bool, eqD_fr, neD_fr, ix_fr0, ix_fr1, kit_int, kit_bool, kit_str, kit_tuple, decide_eq_true_eq, Bool.not_eq_true', decide_eq_false_iff_not, line_nil, line1, line2, if_true, if_false, int_D adH neH (by omega)]
          refine hk [some (.val (.str (SX.S t))), some (.val (.str (SX.S (plainL t)))), some (.val (.str (SX.S H))), some (.val (.str (SX.S P))), some (.val (.str (SX.S T))), some (.val (.int (dV H : Nat))), none, none] ?_
          clear hk k
          obtain ⟨A, hAe⟩ : ∃ A : Int, A = if negL t = true then -((dV H : Nat) : Int) else (dV H : Nat) := ⟨_, rfl⟩
          obtain ⟨B, hBe⟩ : ∃ B : Int, B = if T = [] then (1 : Int) else (dV T : Nat) := ⟨_, rfl⟩
          rw [← hAe, ← hBe] at hq
          refine seq_mk fun k hk => ?_
          have fin : k [some (.val (.str (SX.S t))), some (.val (.str (SX.S (plainL t)))), some (.val (.str (SX.S H))), some (.val (.str (SX.S P))), some (.val (.str (SX.S T))), some (.val (.int (dV H : Nat))), some (.val (fr A B)), none] := hk _ (by
            clear hk k
            refine seq_mk fun k hk => ?_
            simp only [dRet, dRetN, dSeq, dPar, dPar3, dCons, dNil, dCaB, dVar, dC, dCmpT, dCmp, dU, dB, dAndV, dOrV, dNotV, dAnd, dOr, dNot, dIf, dTup, dLst, dChain, dChainT, dTest, dIsi, dAsg, dDrop, dIfS, gN, gT, gs0, gs1, dAug, dNext, dRaise, dCall, dYes, topE, List.getElem?_cons_succ, List.getElem?_cons_zero, List.set_cons_zero, List.set_cons_succ, Option.some.injEq, S.val.injEq, exists_eq_left', exists_eq_left, exists_and_left, and_assoc, List.cons.injEq, and_true, true_and, PyData.int.injEq, PyData.bool.injEq, PyData.tuple.injEq, PyData.list.injEq, absD_i, maxD_i, addD_i, subD_i, negD_i, iaddD_i, mulD_e, fdivD_e, ifdivD_e, modD_e, leD_i, ltD_i, gtD_i, geD_i, lenD_t, lenD_l, isNd_n, notNd_n, isBd_b, notBd_b, isNonD_i, isNonD_n, isNonD_t, isNonD_l, eqD_int, neD_int, eqD_bool, neD_bool, eqD_fr, neD_fr, ix_fr0, ix_fr1, kit_int, kit_bool, kit_str, kit_tuple, decide_eq_true_eq, Bool.not_eq_true', decide_eq_false_iff_not, line_nil, line1, line2, if_true, if_false, c_is_fraction_e]
            cases hF : isFracB (fr A B) with
            | false =>
              rw [if_pos (.inl hF)] at hq
              simp only [dRet, dRetN, dSeq, dPar, dPar3, dCons, dNil, dCaB, dVar, dC, dCmpT, dCmp, dU, dB, dAndV, dOrV, dNotV, dAnd, dOr, dNot, dIf, dTup, dLst, dChain, dChainT, dTest, dIsi, dAsg, dDrop, dIfS, gN, gT, gs0, gs1, dAug, dNext, dRaise, dCall, dYes, topE, List.getElem?_cons_succ, List.getElem?_cons_zero, List.set_cons_zero, List.set_cons_succ, Option.some.injEq, S.val.injEq, exists_eq_left', exists_eq_left, exists_and_left, and_assoc, List.cons.injEq, and_true, true_and, PyData.int.injEq, PyData.bool.injEq, PyData.tuple.injEq, PyData.list.injEq, absD_i, maxD_i, addD_i, subD_i, negD_i, iaddD_i, mulD_e, fdivD_e, ifdivD_e, modD_e, leD_i, ltD_i, gtD_i, geD_i, lenD_t, lenD_l, isNd_n, notNd_n, isBd_b, notBd_b, isNonD_i, isNonD_n, isNonD_t, isNonD_l, eqD_int, neD_int, eqD_bool, neD_bool, eqD_fr, neD_fr, ix_fr0, ix_fr1, kit_int, kit_bool, kit_str, kit_tuple, decide_eq_true_eq, Bool.not_eq_true', decide_eq_false_iff_not, line_nil, line1, line2, if_true, if_false]
              exact hq
            | true =>
              simp only [dRet, dRetN, dSeq, dPar, dPar3, dCons, dNil, dCaB, dVar, dC, dCmpT, dCmp, dU, dB, dAndV, dOrV, dNotV, dAnd, dOr, dNot, dIf, dTup, dLst, dChain, dChainT, dTest, dIsi, dAsg, dDrop, dIfS, gN, gT, gs0, gs1, dAug, dNext, dRaise, dCall, dYes, topE, List.getElem?_cons_succ, List.getElem?_cons_zero, List.set_cons_zero, List.set_cons_succ, Option.some.injEq, S.val.injEq, exists_eq_left', exists_eq_left, exists_and_left, and_assoc, List.cons.injEq, and_true, true_and, PyData.int.injEq, PyData.bool.injEq, PyData.tuple.injEq, PyData.list.injEq, absD_i, maxD_i, addD_i, subD_i, negD_i, iaddD_i, mulD_e, fdivD_e, ifdivD_e, modD_e, leD_i, ltD_i, gtD_i, geD_i, lenD_t, lenD_l, isNd_n, notNd_n, isBd_b, notBd_b, isNonD_i, isNonD_n, isNonD_t, isNonD_l, eqD_int, neD_int, eqD_bool, neD_bool, eqD_fr, neD_fr, ix_fr0, ix_fr1, kit_int, kit_bool, kit_str, kit_tuple, decide_eq_true_eq, Bool.not_eq_true', decide_eq_false_iff_not, line_nil, line1, line2, if_true, if_false, Bool.true_eq_false]
              refine c_format_fraction_ok hF ?_
              have b1 : 0 ≤ B := by obtain ⟨_, _, e, h1, _⟩ := isFracB_inv hF; simp at e; obtain ⟨rfl, rfl⟩ := e; omega
              rw [frT_S b1]
              refine ⟨_, neD_S (fr_ok _ _) ok, ?_⟩
              by_cases b2 : frL A B = t
              · rw [if_neg (by rintro (z | z); (rw [hF] at z; cases z); exact z b2)] at hq
                rw [decide_eq_true b2]
                refine iteF (hk [some (.val (.str (SX.S t))), some (.val (.str (SX.S (plainL t)))), some (.val (.str (SX.S H))), some (.val (.str (SX.S P))), some (.val (.str (SX.S T))), some (.val (.int (dV H : Nat))), some (.val (fr A B)), none] ?_)
                clear hk k
                simp only [dRet, dRetN, dSeq, dPar, dPar3, dCons, dNil, dCaB, dVar, dC, dCmpT, dCmp, dU, dB, dAndV, dOrV, dNotV, dAnd, dOr, dNot, dIf, dTup, dLst, dChain, dChainT, dTest, dIsi, dAsg, dDrop, dIfS, gN, gT, gs0, gs1, dAug, dNext, dRaise, dCall, dYes, topE, List.getElem?_cons_succ, List.getElem?_cons_zero, List.set_cons_zero, List.set_cons_succ, Option.some.injEq, S.val.injEq, exists_eq_left', exists_eq_left, exists_and_left, and_assoc, List.cons.injEq, and_true, true_and, PyData.int.injEq, PyData.bool.injEq, PyData.tuple.injEq, PyData.list.injEq, absD_i, maxD_i, addD_i, subD_i, negD_i, iaddD_i, mulD_e, fdivD_e, ifdivD_e, modD_e, leD_i, ltD_i, gtD_i, geD_i, lenD_t, lenD_l, isNd_n, notNd_n, isBd_b, notBd_b, isNonD_i, isNonD_n, isNonD_t, isNonD_l, eqD_int, neD_int, eqD_bool, neD_bool, eqD_fr, neD_fr, ix_fr0, ix_fr1, kit_int, kit_bool, kit_str, kit_tuple, decide_eq_true_eq, Bool.not_eq_true', decide_eq_false_iff_not, line_nil, line1, line2, if_true, if_false]
                exact hq
              · rw [if_pos (.inr b2)] at hq
                rw [decide_eq_false b2]
                refine iteT ?_
                exact hq)
          clear hk
          simp only [dRet, dRetN, dSeq, dPar, dPar3, dCons, dNil, dCaB, dVar, dC, dCmpT, dCmp, dU, dB, dAndV, dOrV, dNotV, dAnd, dOr, dNot, dIf, dTup, dLst, dChain, dChainT, dTest, dIsi, dAsg, dDrop, dIfS, gN, gT, gs0, gs1, dAug, dNext, dRaise, dCall, dYes, topE, List.getElem?_cons_succ, List.getElem?_cons_zero, List.set_cons_zero, List.set_cons_succ, Option.some.injEq, S.val.injEq, exists_eq_left', exists_eq_left, exists_and_left, and_assoc, List.cons.injEq, and_true, true_and, PyData.int.injEq, PyData.bool.injEq, PyData.tuple.injEq, PyData.list.injEq, absD_i, maxD_i, addD_i, subD_i, negD_i, iaddD_i, mulD_e, fdivD_e, ifdivD_e, modD_e, leD_i, ltD_i, gtD_i, geD_i, lenD_t, lenD_l, isNd_n, notNd_n, isBd_b, notBd_b, isNonD_i, isNonD_n, isNonD_t, isNonD_l, eqD_int, neD_int, eqD_bool, neD_bool, eqD_fr, neD_fr, ix_fr0, ix_fr1, kit_int, kit_bool, kit_str, kit_tuple, decide_eq_true_eq, Bool.not_eq_true', decide_eq_false_iff_not, line_nil, line1, line2, if_true, if_false, dSlS, dO0, dO1, PyData.str.injEq, sl_to1, lit_minus, eqm, nT, lit_empty, List.length_cons, List.length_nil, sizeLine_eq, Nat.reduceAdd, Nat.reduceLeDiff, Nat.zero_add]
          refine ⟨tz', ?_⟩
          have fin2 : ∀ x : Int, x = A → (if ¬ T = [] then ∃ z, intSD [.str (SX.S T)] = some z ∧ k [some (.val (.str (SX.S t))), some (.val (.str (SX.S (plainL t)))), some (.val (.str (SX.S H))), some (.val (.str (SX.S P))), some (.val (.str (SX.S T))), some (.val (.int (dV H : Nat))), some (.val (.tuple [.int x, z])), none] else k [some (.val (.str (SX.S t))), some (.val (.str (SX.S (plainL t)))), some (.val (.str (SX.S H))), some (.val (.str (SX.S P))), some (.val (.str (SX.S T))), some (.val (.int (dV H : Nat))), some (.val (.tuple [.int x, .int 1])), none]) := fun x hx => by
            subst hx
            by_cases c : T = []
            · rw [if_neg (fun z => z c)]
              rw [if_pos c] at hBe
              subst hBe
              exact fin
            · rw [if_pos c]
              rw [if_neg c] at hBe
              subst hBe
              exact ⟨_, int_D adT c (by omega), fin⟩
          by_cases hn : negL t = true
          · rw [if_pos hn] at hAe ⊢
            exact fin2 _ hAe.symm
          · rw [if_neg hn] at hAe ⊢
            exact fin2 _ hAe.symm)
        clear hk
        by_cases b4 : P = []
        · first
            | (rw [if_neg (fun z => z b4)]; exact go)
            | (rw [if_neg (fun z => z b4), if_neg Bool.false_ne_true]; exact go)
        · rw [if_pos b4, if_neg (fun z => a4 ⟨b4, z⟩)]
          exact go)
  clear hk
  simp only [dRet, dRetN, dSeq, dPar, dPar3, dCons, dNil, dCaB, dVar, dC, dCmpT, dCmp, dU, dB, dAndV, dOrV, dNotV, dAnd, dOr, dNot, dIf, dTup, dLst, dChain, dChainT, dTest, dIsi, dAsg, dDrop, dIfS, gN, gT, gs0, gs1, dAug, dNext, dRaise, dCall, dYes, topE, List.getElem?_cons_succ, List.getElem?_cons_zero, List.set_cons_zero, List.set_cons_succ, Option.some.injEq, S.val.injEq, exists_eq_left', exists_eq_left, exists_and_left, and_assoc, List.cons.injEq, and_true, true_and, PyData.int.injEq, PyData.bool.injEq, PyData.tuple.injEq, PyData.list.injEq, absD_i, maxD_i, addD_i, subD_i, negD_i, iaddD_i, mulD_e, fdivD_e, ifdivD_e, modD_e, leD_i, ltD_i, gtD_i, geD_i, lenD_t, lenD_l, isNd_n, notNd_n, isBd_b, notBd_b, isNonD_i, isNonD_n, isNonD_t, isNonD_l, eqD_int, neD_int, eqD_bool, neD_bool, eqD_fr, neD_fr, ix_fr0, ix_fr1, kit_int, kit_bool, kit_str, kit_tuple, decide_eq_true_eq, Bool.not_eq_true', decide_eq_false_iff_not, line_nil, line1, line2, if_true, if_false, dSlS, dO0, dO1, PyData.str.injEq, sl_to1, sl_from1, lit_minus, eqm]
  unfold plainL at fin
  refine ⟨tz, ?_⟩
  by_cases hn : negL t = true
  · rw [if_pos hn] at fin ⊢
    exact ⟨tz, fin⟩
  · rw [if_neg hn] at fin ⊢
    exact fin
theorem c_parse_fraction_ok {t : List Nat} {q : Res → Prop} (hl : t.length ≤ 1000) (ok : okL t = true) (h : q (match parF t with | none => .er .txt | some x => .ok (fr x.1 x.2))) : c_parse_fraction [.str (SX.S t)] q := ⟨_, rfl, .inr ⟨t, rfl, hl, ok, h⟩⟩
theorem c_parse_fraction_no {v : PyData} {q : Res → Prop} (hv : ∀ t, v ≠ .str t) (h : q (.er .txt)) : c_parse_fraction [v] q := ⟨_, rfl, .inl ⟨hv, h⟩⟩
abbrev s__law_parsed : Stmt := topS 40
theorem sc__law_parsed : FnScope ["kind", "text", "found", "caught", "e"] ["kind", "text"] (defScope s__law_parsed) := ⟨rfl, rfl, rfl, by decide +kernel, rfl, by decide +kernel, by decide +kernel⟩
def c__law_parsed : Ct := fun ds q => ∃ (z : Int) (v : PyData), ds = [.int z, v] ∧ (((∀ t, v ≠ .str t) ∧ q (.ok (.str "text"))) ∨ ∃ t : List Nat, v = .str (SX.S t) ∧ t.length ≤ 1000 ∧ okL t = true ∧ q (.ok (if z = 0 then (match parD t with | none => .str "text" | some x => fr x.1 (x.2 : Nat)) else (match parF t with | none => .str "text" | some x => fr x.1 x.2))))
theorem ok__law_parsed (F : Fun K "_law_parsed" "_law_parsed" s__law_parsed f fd) (F__law_error : FdX P w K mg base ca "_law_error" 1) (F_parse_decimal : Fd P w K mg base ca "parse_decimal" c_parse_decimal 1 3) (F_parse_fraction : Fd P w K mg base ca "parse_fraction" c_parse_fraction 1 5) {D_err : Addr} (XI : XIs K mg ca D_err) : FnOk P w K mg base (L2.CX P w) 6 f fd ["kind", "text"] (spD K ca c__law_parsed 2) := by
  refine fn_ok F sc__law_parsed rfl (fun cdv A outer s H E hr tk po hu hu5 => ?_)
  refine ⟨_, _, pdb_cons (pds_set pd_non (fun h => ps_set (i := 2) sc__law_parsed.nd rfl (.inl rfl) h))
      (pdb_cons (pds_set pd_non (fun h => ps_set (i := 3) sc__law_parsed.nd rfl (.inl rfl) h))
      (pdb_cons (pds_try (i := 4) (j := 3) rfl rfl rfl sc__law_parsed.nd rfl rfl ⟨by rfl, by decide, .inl XI.gD⟩ XI.exm (fun W pn xe tk2 => (pdb_one (pds_set (pd_if (pdt_cmp (r := rEqD K) (op_eqD hu) cm_eq (pd_var (pv 0)) (PD.pv pd_int) (nomark _)) (pd_fn F_parse_decimal (hr.mono (by decide)) (by rfl) tk2 (pda_cons (pd_var (pv 1)) pda_nil)) (pd_fn F_parse_fraction (hr.mono (by decide)) (by rfl) tk2 (pda_cons (pd_var (pv 1)) pda_nil))) (fun h => ps_set (i := 2) sc__law_parsed.nd rfl (.inl rfl) h)))) (fun _ _ _ => pss_one (ps_set (i := 3) sc__law_parsed.nd rfl (.inl rfl) (pv 4))))
      (pdb_one (pds_ret (pd_if (pdt_isX (pv 3) (nomark _)) (pd_var (pv 2)) (pd_fnX F__law_error (hr.mono (by decide)) (by rfl) tk (pv 3))))))), ?_⟩
  clear hr tk po hu hu5
  intro ds q hl hc
  obtain ⟨z, v, rfl, hq⟩ := hc
  rw [show start0 (["kind", "text", "found", "caught", "e"] : List Str) [.int z, v] = [some (.val (.int z)), some (.val (v)), none, none, none] from rfl]
  refine seq_mk fun k hk => ?_
  simp only [dRet, dRetN, dSeq, dPar, dPar3, dCons, dNil, dCaB, dVar, dC, dCmpT, dCmp, dU, dB, dAndV, dOrV, dNotV, dAnd, dOr, dNot, dIf, dTup, dLst, dChain, dChainT, dTest, dIsi, dAsg, dDrop, dIfS, gN, gT, gs0, gs1, dAug, dNext, dRaise, dCall, dYes, topE, List.getElem?_cons_succ, List.getElem?_cons_zero, List.set_cons_zero, List.set_cons_succ, Option.some.injEq, S.val.injEq, exists_eq_left', exists_eq_left, exists_and_left, and_assoc, List.cons.injEq, and_true, true_and, PyData.int.injEq, PyData.bool.injEq, PyData.tuple.injEq, PyData.list.injEq, absD_i, maxD_i, addD_i, subD_i, negD_i, iaddD_i, mulD_e, fdivD_e, ifdivD_e, modD_e, leD_i, ltD_i, gtD_i, geD_i, lenD_t, lenD_l, isNd_n, notNd_n, isBd_b, notBd_b, isNonD_i, isNonD_n, isNonD_t, isNonD_l, eqD_int, neD_int, eqD_bool, neD_bool, eqD_fr, neD_fr, ix_fr0, ix_fr1, kit_int, kit_bool, kit_str, kit_tuple, decide_eq_true_eq, Bool.not_eq_true', decide_eq_false_iff_not, line_nil, line1, line2, if_true, if_false]
  refine hk [some (.val (.int z)), some (.val v), some (.val .none), none, none] ?_
  clear hk k
  refine seq_mk fun k hk => ?_
  simp only [dRet, dRetN, dSeq, dPar, dPar3, dCons, dNil, dCaB, dVar, dC, dCmpT, dCmp, dU, dB, dAndV, dOrV, dNotV, dAnd, dOr, dNot, dIf, dTup, dLst, dChain, dChainT, dTest, dIsi, dAsg, dDrop, dIfS, gN, gT, gs0, gs1, dAug, dNext, dRaise, dCall, dYes, topE, List.getElem?_cons_succ, List.getElem?_cons_zero, List.set_cons_zero, List.set_cons_succ, Option.some.injEq, S.val.injEq, exists_eq_left', exists_eq_left, exists_and_left, and_assoc, List.cons.injEq, and_true, true_and, PyData.int.injEq, PyData.bool.injEq, PyData.tuple.injEq, PyData.list.injEq, absD_i, maxD_i, addD_i, subD_i, negD_i, iaddD_i, mulD_e, fdivD_e, ifdivD_e, modD_e, leD_i, ltD_i, gtD_i, geD_i, lenD_t, lenD_l, isNd_n, notNd_n, isBd_b, notBd_b, isNonD_i, isNonD_n, isNonD_t, isNonD_l, eqD_int, neD_int, eqD_bool, neD_bool, eqD_fr, neD_fr, ix_fr0, ix_fr1, kit_int, kit_bool, kit_str, kit_tuple, decide_eq_true_eq, Bool.not_eq_true', decide_eq_false_iff_not, line_nil, line1, line2, if_true, if_false]
  refine hk [some (.val (.int z)), some (.val v), some (.val .none), some (.val .none), none] ?_
  clear hk k
  refine seq_mk fun k hk => ?_
  have bad : ∀ er, q (.ok (.str (erS er))) → k [some (.val (.int z)), some (.val v), some (.val .none), some (.exn (ca er)), none] := fun er hx => hk _ (by
    clear hk k
    simp only [dRet, dRetN, dSeq, dPar, dPar3, dCons, dNil, dCaB, dVar, dC, dCmpT, dCmp, dU, dB, dAndV, dOrV, dNotV, dAnd, dOr, dNot, dIf, dTup, dLst, dChain, dChainT, dTest, dIsi, dAsg, dDrop, dIfS, gN, gT, gs0, gs1, dAug, dNext, dRaise, dCall, dYes, topE, List.getElem?_cons_succ, List.getElem?_cons_zero, List.set_cons_zero, List.set_cons_succ, Option.some.injEq, S.val.injEq, exists_eq_left', exists_eq_left, exists_and_left, and_assoc, List.cons.injEq, and_true, true_and, PyData.int.injEq, PyData.bool.injEq, PyData.tuple.injEq, PyData.list.injEq, absD_i, maxD_i, addD_i, subD_i, negD_i, iaddD_i, mulD_e, fdivD_e, ifdivD_e, modD_e, leD_i, ltD_i, gtD_i, geD_i, lenD_t, lenD_l, isNd_n, notNd_n, isBd_b, notBd_b, isNonD_i, isNonD_n, isNonD_t, isNonD_l, eqD_int, neD_int, eqD_bool, neD_bool, eqD_fr, neD_fr, ix_fr0, ix_fr1, kit_int, kit_bool, kit_str, kit_tuple, decide_eq_true_eq, Bool.not_eq_true', decide_eq_false_iff_not, line_nil, line1, line2, if_true, if_false, dIsX, dCallX]
    refine .inr ⟨_, rfl, ?_⟩
    exact iteF ⟨er, rfl, hx⟩)
  have fin : ∀ x, q (.ok x) → k [some (.val (.int z)), some (.val v), some (.val x), some (.val .none), none] := fun x hx => hk _ (by
    clear hk bad k
    simp only [dRet, dRetN, dSeq, dPar, dPar3, dCons, dNil, dCaB, dVar, dC, dCmpT, dCmp, dU, dB, dAndV, dOrV, dNotV, dAnd, dOr, dNot, dIf, dTup, dLst, dChain, dChainT, dTest, dIsi, dAsg, dDrop, dIfS, gN, gT, gs0, gs1, dAug, dNext, dRaise, dCall, dYes, topE, List.getElem?_cons_succ, List.getElem?_cons_zero, List.set_cons_zero, List.set_cons_succ, Option.some.injEq, S.val.injEq, exists_eq_left', exists_eq_left, exists_and_left, and_assoc, List.cons.injEq, and_true, true_and, PyData.int.injEq, PyData.bool.injEq, PyData.tuple.injEq, PyData.list.injEq, absD_i, maxD_i, addD_i, subD_i, negD_i, iaddD_i, mulD_e, fdivD_e, ifdivD_e, modD_e, leD_i, ltD_i, gtD_i, geD_i, lenD_t, lenD_l, isNd_n, notNd_n, isBd_b, notBd_b, isNonD_i, isNonD_n, isNonD_t, isNonD_l, eqD_int, neD_int, eqD_bool, neD_bool, eqD_fr, neD_fr, ix_fr0, ix_fr1, kit_int, kit_bool, kit_str, kit_tuple, decide_eq_true_eq, Bool.not_eq_true', decide_eq_false_iff_not, line_nil, line1, line2, if_true, if_false, dIsX, dCallX]
    exact .inl hx)
  clear hk
  simp only [dRet, dRetN, dSeq, dPar, dPar3, dCons, dNil, dCaB, dVar, dC, dCmpT, dCmp, dU, dB, dAndV, dOrV, dNotV, dAnd, dOr, dNot, dIf, dTup, dLst, dChain, dChainT, dTest, dIsi, dAsg, dDrop, dIfS, gN, gT, gs0, gs1, dAug, dNext, dRaise, dCall, dYes, topE, List.getElem?_cons_succ, List.getElem?_cons_zero, List.set_cons_zero, List.set_cons_succ, Option.some.injEq, S.val.injEq, exists_eq_left', exists_eq_left, exists_and_left, and_assoc, List.cons.injEq, and_true, true_and, PyData.int.injEq, PyData.bool.injEq, PyData.tuple.injEq, PyData.list.injEq, absD_i, maxD_i, addD_i, subD_i, negD_i, iaddD_i, mulD_e, fdivD_e, ifdivD_e, modD_e, leD_i, ltD_i, gtD_i, geD_i, lenD_t, lenD_l, isNd_n, notNd_n, isBd_b, notBd_b, isNonD_i, isNonD_n, isNonD_t, isNonD_l, eqD_int, neD_int, eqD_bool, neD_bool, eqD_fr, neD_fr, ix_fr0, ix_fr1, kit_int, kit_bool, kit_str, kit_tuple, decide_eq_true_eq, Bool.not_eq_true', decide_eq_false_iff_not, line_nil, line1, line2, if_true, if_false, dTry]
  refine ⟨rfl, ?_⟩
  rcases hq with ⟨hv, hq⟩ | ⟨t, rfl, tl, ok, hq⟩
  · by_cases c : z = 0
    · rw [if_pos c]
      exact c_parse_decimal_no hv (bad .txt hq)
    · rw [if_neg c]
      exact c_parse_fraction_no hv (bad .txt hq)
  · by_cases c : z = 0
    · rw [if_pos c] at hq ⊢
      refine c_parse_decimal_ok tl ok ?_
      cases h : parD t with
      | none =>
        rw [h] at hq
        exact bad .txt hq
      | some x =>
        rw [h] at hq
        exact fin _ hq
    · rw [if_neg c] at hq ⊢
      refine c_parse_fraction_ok tl ok ?_
      cases h : parF t with
      | none =>
        rw [h] at hq
        exact bad .txt hq
      | some x =>
        rw [h] at hq
        exact fin _ hq
theorem c__law_parsed_no {z : Int} {v : PyData} {q : Res → Prop} (hv : ∀ t, v ≠ .str t) (h : q (.ok (.str "text"))) : c__law_parsed [.int z, v] q := ⟨_, _, rfl, .inl ⟨hv, h⟩⟩
theorem c__law_parsed_ok {z : Int} {t : List Nat} {q : Res → Prop} (hl : t.length ≤ 1000) (ok : okL t = true) (h : q (.ok (if z = 0 then (match parD t with | none => .str "text" | some x => fr x.1 (x.2 : Nat)) else (match parF t with | none => .str "text" | some x => fr x.1 x.2)))) : c__law_parsed [.int z, .str (SX.S t)] q := ⟨_, _, rfl, .inr ⟨t, rfl, hl, ok, h⟩⟩
abbrev s__law_rejected : Stmt := topS 41
theorem sc__law_rejected : FnScope ["odd", "bad"] [] (defScope s__law_rejected) := ⟨rfl, rfl, rfl, by decide +kernel, rfl, by decide +kernel, by decide +kernel⟩
def c__law_rejected : Ct := fun ds q => ds = [] ∧ q (.ok (.bool true))
def odd0 : List PyData := [.none, .int 5, .str "", .str ".", .str "-", .str "1.", .str ".5", .str "-.5", .str "00", .str "01", .str "+1", .str "-0", .str "-0.0", .str "0.0000000", .str "102", .str "101.1", .str "1000", .str "1,5", .str "1 ", .str "1.-5", .list [.str "1"], .str "-101.5"]
def odd1 : List PyData := [.none, .int 5, .str "", .str "/", .str "1/", .str "/2", .str "2/4", .str "1/61", .str "0/2", .str "-0", .str "01", .str "1/02", .str "101", .str "5/1", .str "1/2/3", .str "1 /2", .str "a", .str "+1", .list [.str "1"], .str "1/-2"]
def rejB (par : List Nat → Bool) : PyData → Bool
  | .str x => decide (x.cps.toList.length ≤ 1000) && okL x.cps.toList && par x.cps.toList
  | _ => true
theorem rej0 : odd0.all (rejB fun t => (parD t).isNone) = true := by decide +kernel
theorem rej1 : odd1.all (rejB fun t => (parF t).isNone) = true := by decide +kernel
theorem lit_a : Str.ofString "-101.000000" = SX.S [45, 49, 48, 49, 46, 48, 48, 48, 48, 48, 48] := by decide +kernel
theorem par_a : parD [45, 49, 48, 49, 46, 48, 48, 48, 48, 48, 48] = some (-101000000, 6) := by decide +kernel
theorem lit_b : Str.ofString "-100" = SX.S [45, 49, 48, 48] := by decide +kernel
theorem par_b : parF [45, 49, 48, 48] = some (-100, 1) := by decide +kernel
theorem lit_c : Str.ofString "5999/60" = SX.S [53, 57, 57, 57, 47, 54, 48] := by decide +kernel
theorem par_c : parF [53, 57, 57, 57, 47, 54, 48] = some (5999, 60) := by decide +kernel
theorem ok__law_rejected (F : Fun K "_law_rejected" "_law_rejected" s__law_rejected f fd) (F__law_parsed : Fd P w K mg base ca "_law_parsed" c__law_parsed 2 6) : FnOk P w K mg base (L2.CX P w) 7 f fd [] (spD K ca c__law_rejected 0) := by
  refine fn_ok F sc__law_rejected rfl (fun cdv A outer s H E hr tk po hu hu5 => ?_)
  refine ⟨_, _, pdb_cons (pds_set (pd_lst (pda_cons pd_non (pda_cons pd_int (pda_cons pd_str (pda_cons pd_str (pda_cons pd_str (pda_cons pd_str (pda_cons pd_str (pda_cons pd_str (pda_cons pd_str (pda_cons pd_str (pda_cons pd_str (pda_cons pd_str (pda_cons pd_str (pda_cons pd_str (pda_cons pd_str (pda_cons pd_str (pda_cons pd_str (pda_cons pd_str (pda_cons pd_str (pda_cons pd_str (pda_cons (pd_lst (pda_cons pd_str pda_nil)) (pda_cons pd_str pda_nil))))))))))))))))))))))) (fun h => ps_set (i := 0) sc__law_rejected.nd rfl (.inl rfl) h))
      (pdb_cons (pds_if (PDW.pt (pdw_or (pdt_cmp (r := rNeD K) (op_neD hu) cm_ne (pd_lc (own := [("bad", 1)]) rfl sc__law_rejected.nd (pdi_list (K := K) (pd_var (pv 0))) (blkOk_by (N := ["odd", "bad"]) (sc := defScope s__law_rejected) (by decide +kernel)) (fun _ _ _ _ _ => pg_name (i := 1) sc__law_rejected.nd rfl (.inl rfl)) (gsv_name (by decide)) (fun _ _ _ _ _ => pdts_nil) (fun _ _ _ _ _ => (pd_fn F__law_parsed (by exact hr.mono (by decide)) (by rfl) takes0 (pda_cons pd_int (pda_cons (pd_var (pv 1)) pda_nil))))) (PD.pv (pd_op op_rep od_repL (pd_lst (pda_cons pd_str pda_nil)) pd_int)) (nomark _)) (pdw_or1 (pdt_cmp (r := rNeD K) (op_neD hu) cm_ne (pd_fn F__law_parsed (hr.mono (by decide)) (by rfl) tk (pda_cons pd_int (pda_cons pd_str pda_nil))) (PD.pv (pd_tup (pda_cons (pd_op op_sub od_sub pd_int pd_int) (pda_cons pd_int pda_nil)))) (nomark _))))) (pdb_one (pds_ret pd_bl)) (pdb_nil))
      (pdb_cons (pds_set (pd_lst (pda_cons pd_non (pda_cons pd_int (pda_cons pd_str (pda_cons pd_str (pda_cons pd_str (pda_cons pd_str (pda_cons pd_str (pda_cons pd_str (pda_cons pd_str (pda_cons pd_str (pda_cons pd_str (pda_cons pd_str (pda_cons pd_str (pda_cons pd_str (pda_cons pd_str (pda_cons pd_str (pda_cons pd_str (pda_cons pd_str (pda_cons (pd_lst (pda_cons pd_str pda_nil)) (pda_cons pd_str pda_nil))))))))))))))))))))) (fun h => ps_set (i := 0) sc__law_rejected.nd rfl (.inl rfl) h))
      (pdb_one (pds_ret (pd_and (pd_cmp (r := rEqD K) (op_eqD hu) cm_eq (pd_lc (own := [("bad", 1)]) rfl sc__law_rejected.nd (pdi_list (K := K) (pd_var (pv 0))) (blkOk_by (N := ["odd", "bad"]) (sc := defScope s__law_rejected) (by decide +kernel)) (fun _ _ _ _ _ => pg_name (i := 1) sc__law_rejected.nd rfl (.inl rfl)) (gsv_name (by decide)) (fun _ _ _ _ _ => pdts_nil) (fun _ _ _ _ _ => (pd_fn F__law_parsed (by exact hr.mono (by decide)) (by rfl) takes0 (pda_cons pd_int (pda_cons (pd_var (pv 1)) pda_nil))))) (PD.pv (pd_op op_rep od_repL (pd_lst (pda_cons pd_str pda_nil)) pd_int)) (nomark _)) (pd_and (pd_cmp (r := rEqD K) (op_eqD hu) cm_eq (pd_fn F__law_parsed (hr.mono (by decide)) (by rfl) tk (pda_cons pd_int (pda_cons pd_str pda_nil))) (PD.pv (pd_tup (pda_cons (pd_op op_sub od_sub pd_int pd_int) (pda_cons pd_int pda_nil)))) (nomark _)) (pd_one (pd_cmp (r := rEqD K) (op_eqD hu) cm_eq (pd_fn F__law_parsed (hr.mono (by decide)) (by rfl) tk (pda_cons pd_int (pda_cons pd_str pda_nil))) (PD.pv (pd_tup (pda_cons pd_int (pda_cons pd_int pda_nil)))) (nomark _))))))))), ?_⟩
  clear hr tk po hu hu5
  intro ds q hl hc
  obtain ⟨rfl, hq⟩ := hc
  rw [show start0 (["odd", "bad"] : List Str) [] = [none, none] from rfl]
  refine seq_mk fun k hk => ?_
  simp only [dRet, dRetN, dSeq, dPar, dPar3, dCons, dNil, dCaB, dVar, dC, dCmpT, dCmp, dU, dB, dAndV, dOrV, dNotV, dAnd, dOr, dNot, dIf, dTup, dLst, dChain, dChainT, dTest, dIsi, dAsg, dDrop, dIfS, gN, gT, gs0, gs1, dAug, dNext, dRaise, dCall, dYes, topE, List.getElem?_cons_succ, List.getElem?_cons_zero, List.set_cons_zero, List.set_cons_succ, Option.some.injEq, S.val.injEq, exists_eq_left', exists_eq_left, exists_and_left, and_assoc, List.cons.injEq, and_true, true_and, PyData.int.injEq, PyData.bool.injEq, PyData.tuple.injEq, PyData.list.injEq, absD_i, maxD_i, addD_i, subD_i, negD_i, iaddD_i, mulD_e, fdivD_e, ifdivD_e, modD_e, leD_i, ltD_i, gtD_i, geD_i, lenD_t, lenD_l, isNd_n, notNd_n, isBd_b, notBd_b, isNonD_i, isNonD_n, isNonD_t, isNonD_l, eqD_int, neD_int, eqD_bool, neD_bool, eqD_fr, neD_fr, ix_fr0, ix_fr1, kit_int, kit_bool, kit_str, kit_tuple, decide_eq_true_eq, Bool.not_eq_true', decide_eq_false_iff_not, line_nil, line1, line2, if_true, if_false, List.length_cons, List.length_nil, sizeLine_eq, Nat.reduceAdd, Nat.reduceLeDiff, Nat.zero_add]
  refine hk [some (.val (.list (odd0))), none] ?_
  clear hk k
  refine seq_mk fun k hk => ?_
  simp only [dRet, dRetN, dSeq, dPar, dPar3, dCons, dNil, dCaB, dVar, dC, dCmpT, dCmp, dU, dB, dAndV, dOrV, dNotV, dAnd, dOr, dNot, dIf, dTup, dLst, dChain, dChainT, dTest, dIsi, dAsg, dDrop, dIfS, gN, gT, gs0, gs1, dAug, dNext, dRaise, dCall, dYes, topE, List.getElem?_cons_succ, List.getElem?_cons_zero, List.set_cons_zero, List.set_cons_succ, Option.some.injEq, S.val.injEq, exists_eq_left', exists_eq_left, exists_and_left, and_assoc, List.cons.injEq, and_true, true_and, PyData.int.injEq, PyData.bool.injEq, PyData.tuple.injEq, PyData.list.injEq, absD_i, maxD_i, addD_i, subD_i, negD_i, iaddD_i, mulD_e, fdivD_e, ifdivD_e, modD_e, leD_i, ltD_i, gtD_i, geD_i, lenD_t, lenD_l, isNd_n, notNd_n, isBd_b, notBd_b, isNonD_i, isNonD_n, isNonD_t, isNonD_l, eqD_int, neD_int, eqD_bool, neD_bool, eqD_fr, neD_fr, ix_fr0, ix_fr1, kit_int, kit_bool, kit_str, kit_tuple, decide_eq_true_eq, Bool.not_eq_true', decide_eq_false_iff_not, line_nil, line1, line2, if_true, if_false, dLc, dItL]
  rw [show odd0 = odd0.map id by rw [List.map_id]]

  refine lcW_of id (fun _ => true) (fun _ => .str "text") _ _ _ (fun v hv K1 K0 g1 g0 => ?_) (by rw [sizeLine_eq]; decide) ?_
  · have hv2 := List.all_eq_true.mp rej0 v hv
    simp only [dRet, dRetN, dSeq, dPar, dPar3, dCons, dNil, dCaB, dVar, dC, dCmpT, dCmp, dU, dB, dAndV, dOrV, dNotV, dAnd, dOr, dNot, dIf, dTup, dLst, dChain, dChainT, dTest, dIsi, dAsg, dDrop, dIfS, gN, gT, gs0, gs1, dAug, dNext, dRaise, dCall, dYes, topE, List.getElem?_cons_succ, List.getElem?_cons_zero, List.set_cons_zero, List.set_cons_succ, Option.some.injEq, S.val.injEq, exists_eq_left', exists_eq_left, exists_and_left, and_assoc, List.cons.injEq, and_true, true_and, PyData.int.injEq, PyData.bool.injEq, PyData.tuple.injEq, PyData.list.injEq, absD_i, maxD_i, addD_i, subD_i, negD_i, iaddD_i, mulD_e, fdivD_e, ifdivD_e, modD_e, leD_i, ltD_i, gtD_i, geD_i, lenD_t, lenD_l, isNd_n, notNd_n, isBd_b, notBd_b, isNonD_i, isNonD_n, isNonD_t, isNonD_l, eqD_int, neD_int, eqD_bool, neD_bool, eqD_fr, neD_fr, ix_fr0, ix_fr1, kit_int, kit_bool, kit_str, kit_tuple, decide_eq_true_eq, Bool.not_eq_true', decide_eq_false_iff_not, line_nil, line1, line2, if_true, if_false, blkL, unOwn, wipeL, List.map_cons, List.map_nil, dYes, id]
    cases v with
    | str x =>
      have hv3 : (decide (x.cps.toList.length ≤ 1000) && okL x.cps.toList && (parD x.cps.toList).isNone) = true := hv2
      rw [Bool.and_eq_true, Bool.and_eq_true] at hv3
      have e : x = SX.S x.cps.toList := (SX.S_tl x).symm
      rw [e]
      refine c__law_parsed_ok (of_decide_eq_true hv3.1.1) hv3.1.2 ?_
      rw [if_pos rfl, Option.isNone_iff_eq_none.mp hv3.2]
      exact g1 rfl
    | _ => exact c__law_parsed_no (fun _ z => nomatch z) (g1 rfl)

  simp only [dRet, dRetN, dSeq, dPar, dPar3, dCons, dNil, dCaB, dVar, dC, dCmpT, dCmp, dU, dB, dAndV, dOrV, dNotV, dAnd, dOr, dNot, dIf, dTup, dLst, dChain, dChainT, dTest, dIsi, dAsg, dDrop, dIfS, gN, gT, gs0, gs1, dAug, dNext, dRaise, dCall, dYes, topE, List.getElem?_cons_succ, List.getElem?_cons_zero, List.set_cons_zero, List.set_cons_succ, Option.some.injEq, S.val.injEq, exists_eq_left', exists_eq_left, exists_and_left, and_assoc, List.cons.injEq, and_true, true_and, PyData.int.injEq, PyData.bool.injEq, PyData.tuple.injEq, PyData.list.injEq, absD_i, maxD_i, addD_i, subD_i, negD_i, iaddD_i, mulD_e, fdivD_e, ifdivD_e, modD_e, leD_i, ltD_i, gtD_i, geD_i, lenD_t, lenD_l, isNd_n, notNd_n, isBd_b, notBd_b, isNonD_i, isNonD_n, isNonD_t, isNonD_l, eqD_int, neD_int, eqD_bool, neD_bool, eqD_fr, neD_fr, ix_fr0, ix_fr1, kit_int, kit_bool, kit_str, kit_tuple, decide_eq_true_eq, Bool.not_eq_true', decide_eq_false_iff_not, line_nil, line1, line2, if_true, if_false, mulLD_e, List.length_cons, List.length_nil, sizeLine_eq, Nat.reduceAdd, Nat.reduceLeDiff, Nat.zero_add]
  refine ⟨by decide, by decide, by decide, ?_⟩
  refine ⟨false, by decide +kernel, ?_⟩
  refine iteF ?_
  rw [lit_a]
  refine c__law_parsed_ok (by decide) (by decide) ?_
  rw [if_pos rfl, par_a]
  simp only [dRet, dRetN, dSeq, dPar, dPar3, dCons, dNil, dCaB, dVar, dC, dCmpT, dCmp, dU, dB, dAndV, dOrV, dNotV, dAnd, dOr, dNot, dIf, dTup, dLst, dChain, dChainT, dTest, dIsi, dAsg, dDrop, dIfS, gN, gT, gs0, gs1, dAug, dNext, dRaise, dCall, dYes, topE, List.getElem?_cons_succ, List.getElem?_cons_zero, List.set_cons_zero, List.set_cons_succ, Option.some.injEq, S.val.injEq, exists_eq_left', exists_eq_left, exists_and_left, and_assoc, List.cons.injEq, and_true, true_and, PyData.int.injEq, PyData.bool.injEq, PyData.tuple.injEq, PyData.list.injEq, absD_i, maxD_i, addD_i, subD_i, negD_i, iaddD_i, mulD_e, fdivD_e, ifdivD_e, modD_e, leD_i, ltD_i, gtD_i, geD_i, lenD_t, lenD_l, isNd_n, notNd_n, isBd_b, notBd_b, isNonD_i, isNonD_n, isNonD_t, isNonD_l, eqD_int, neD_int, eqD_bool, neD_bool, eqD_fr, neD_fr, ix_fr0, ix_fr1, kit_int, kit_bool, kit_str, kit_tuple, decide_eq_true_eq, Bool.not_eq_true', decide_eq_false_iff_not, line_nil, line1, line2, if_true, if_false]
  rw [if_neg (by decide)]
  refine hk [some (.val (.list (odd0))), none] ?_
  clear hk k
  refine seq_mk fun k hk => ?_
  simp only [dRet, dRetN, dSeq, dPar, dPar3, dCons, dNil, dCaB, dVar, dC, dCmpT, dCmp, dU, dB, dAndV, dOrV, dNotV, dAnd, dOr, dNot, dIf, dTup, dLst, dChain, dChainT, dTest, dIsi, dAsg, dDrop, dIfS, gN, gT, gs0, gs1, dAug, dNext, dRaise, dCall, dYes, topE, List.getElem?_cons_succ, List.getElem?_cons_zero, List.set_cons_zero, List.set_cons_succ, Option.some.injEq, S.val.injEq, exists_eq_left', exists_eq_left, exists_and_left, and_assoc, List.cons.injEq, and_true, true_and, PyData.int.injEq, PyData.bool.injEq, PyData.tuple.injEq, PyData.list.injEq, absD_i, maxD_i, addD_i, subD_i, negD_i, iaddD_i, mulD_e, fdivD_e, ifdivD_e, modD_e, leD_i, ltD_i, gtD_i, geD_i, lenD_t, lenD_l, isNd_n, notNd_n, isBd_b, notBd_b, isNonD_i, isNonD_n, isNonD_t, isNonD_l, eqD_int, neD_int, eqD_bool, neD_bool, eqD_fr, neD_fr, ix_fr0, ix_fr1, kit_int, kit_bool, kit_str, kit_tuple, decide_eq_true_eq, Bool.not_eq_true', decide_eq_false_iff_not, line_nil, line1, line2, if_true, if_false, List.length_cons, List.length_nil, sizeLine_eq, Nat.reduceAdd, Nat.reduceLeDiff, Nat.zero_add]
  refine hk [some (.val (.list (odd1))), none] ?_
  clear hk k
  simp only [dRet, dRetN, dSeq, dPar, dPar3, dCons, dNil, dCaB, dVar, dC, dCmpT, dCmp, dU, dB, dAndV, dOrV, dNotV, dAnd, dOr, dNot, dIf, dTup, dLst, dChain, dChainT, dTest, dIsi, dAsg, dDrop, dIfS, gN, gT, gs0, gs1, dAug, dNext, dRaise, dCall, dYes, topE, List.getElem?_cons_succ, List.getElem?_cons_zero, List.set_cons_zero, List.set_cons_succ, Option.some.injEq, S.val.injEq, exists_eq_left', exists_eq_left, exists_and_left, and_assoc, List.cons.injEq, and_true, true_and, PyData.int.injEq, PyData.bool.injEq, PyData.tuple.injEq, PyData.list.injEq, absD_i, maxD_i, addD_i, subD_i, negD_i, iaddD_i, mulD_e, fdivD_e, ifdivD_e, modD_e, leD_i, ltD_i, gtD_i, geD_i, lenD_t, lenD_l, isNd_n, notNd_n, isBd_b, notBd_b, isNonD_i, isNonD_n, isNonD_t, isNonD_l, eqD_int, neD_int, eqD_bool, neD_bool, eqD_fr, neD_fr, ix_fr0, ix_fr1, kit_int, kit_bool, kit_str, kit_tuple, decide_eq_true_eq, Bool.not_eq_true', decide_eq_false_iff_not, line_nil, line1, line2, if_true, if_false, dLc, dItL]
  rw [show odd1 = odd1.map id by rw [List.map_id]]

  refine lcW_of id (fun _ => true) (fun _ => .str "text") _ _ _ (fun v hv K1 K0 g1 g0 => ?_) (by rw [sizeLine_eq]; decide) ?_
  · have hv2 := List.all_eq_true.mp rej1 v hv
    simp only [dRet, dRetN, dSeq, dPar, dPar3, dCons, dNil, dCaB, dVar, dC, dCmpT, dCmp, dU, dB, dAndV, dOrV, dNotV, dAnd, dOr, dNot, dIf, dTup, dLst, dChain, dChainT, dTest, dIsi, dAsg, dDrop, dIfS, gN, gT, gs0, gs1, dAug, dNext, dRaise, dCall, dYes, topE, List.getElem?_cons_succ, List.getElem?_cons_zero, List.set_cons_zero, List.set_cons_succ, Option.some.injEq, S.val.injEq, exists_eq_left', exists_eq_left, exists_and_left, and_assoc, List.cons.injEq, and_true, true_and, PyData.int.injEq, PyData.bool.injEq, PyData.tuple.injEq, PyData.list.injEq, absD_i, maxD_i, addD_i, subD_i, negD_i, iaddD_i, mulD_e, fdivD_e, ifdivD_e, modD_e, leD_i, ltD_i, gtD_i, geD_i, lenD_t, lenD_l, isNd_n, notNd_n, isBd_b, notBd_b, isNonD_i, isNonD_n, isNonD_t, isNonD_l, eqD_int, neD_int, eqD_bool, neD_bool, eqD_fr, neD_fr, ix_fr0, ix_fr1, kit_int, kit_bool, kit_str, kit_tuple, decide_eq_true_eq, Bool.not_eq_true', decide_eq_false_iff_not, line_nil, line1, line2, if_true, if_false, blkL, unOwn, wipeL, List.map_cons, List.map_nil, dYes, id]
    cases v with
    | str x =>
      have hv3 : (decide (x.cps.toList.length ≤ 1000) && okL x.cps.toList && (parF x.cps.toList).isNone) = true := hv2
      rw [Bool.and_eq_true, Bool.and_eq_true] at hv3
      have e : x = SX.S x.cps.toList := (SX.S_tl x).symm
      rw [e]
      refine c__law_parsed_ok (of_decide_eq_true hv3.1.1) hv3.1.2 ?_
      rw [if_neg (by decide), Option.isNone_iff_eq_none.mp hv3.2]
      exact g1 rfl
    | _ => exact c__law_parsed_no (fun _ z => nomatch z) (g1 rfl)

  simp only [dRet, dRetN, dSeq, dPar, dPar3, dCons, dNil, dCaB, dVar, dC, dCmpT, dCmp, dU, dB, dAndV, dOrV, dNotV, dAnd, dOr, dNot, dIf, dTup, dLst, dChain, dChainT, dTest, dIsi, dAsg, dDrop, dIfS, gN, gT, gs0, gs1, dAug, dNext, dRaise, dCall, dYes, topE, List.getElem?_cons_succ, List.getElem?_cons_zero, List.set_cons_zero, List.set_cons_succ, Option.some.injEq, S.val.injEq, exists_eq_left', exists_eq_left, exists_and_left, and_assoc, List.cons.injEq, and_true, true_and, PyData.int.injEq, PyData.bool.injEq, PyData.tuple.injEq, PyData.list.injEq, absD_i, maxD_i, addD_i, subD_i, negD_i, iaddD_i, mulD_e, fdivD_e, ifdivD_e, modD_e, leD_i, ltD_i, gtD_i, geD_i, lenD_t, lenD_l, isNd_n, notNd_n, isBd_b, notBd_b, isNonD_i, isNonD_n, isNonD_t, isNonD_l, eqD_int, neD_int, eqD_bool, neD_bool, eqD_fr, neD_fr, ix_fr0, ix_fr1, kit_int, kit_bool, kit_str, kit_tuple, decide_eq_true_eq, Bool.not_eq_true', decide_eq_false_iff_not, line_nil, line1, line2, if_true, if_false, mulLD_e, List.length_cons, List.length_nil, sizeLine_eq, Nat.reduceAdd, Nat.reduceLeDiff, Nat.zero_add]
  refine ⟨by decide, by decide, by decide, ?_⟩
  refine ⟨true, by decide +kernel, ?_⟩
  refine iteT ?_
  rw [lit_b]
  refine c__law_parsed_ok (by decide) (by decide) ?_
  rw [if_neg (by decide), par_b]
  simp only [dRet, dRetN, dSeq, dPar, dPar3, dCons, dNil, dCaB, dVar, dC, dCmpT, dCmp, dU, dB, dAndV, dOrV, dNotV, dAnd, dOr, dNot, dIf, dTup, dLst, dChain, dChainT, dTest, dIsi, dAsg, dDrop, dIfS, gN, gT, gs0, gs1, dAug, dNext, dRaise, dCall, dYes, topE, List.getElem?_cons_succ, List.getElem?_cons_zero, List.set_cons_zero, List.set_cons_succ, Option.some.injEq, S.val.injEq, exists_eq_left', exists_eq_left, exists_and_left, and_assoc, List.cons.injEq, and_true, true_and, PyData.int.injEq, PyData.bool.injEq, PyData.tuple.injEq, PyData.list.injEq, absD_i, maxD_i, addD_i, subD_i, negD_i, iaddD_i, mulD_e, fdivD_e, ifdivD_e, modD_e, leD_i, ltD_i, gtD_i, geD_i, lenD_t, lenD_l, isNd_n, notNd_n, isBd_b, notBd_b, isNonD_i, isNonD_n, isNonD_t, isNonD_l, eqD_int, neD_int, eqD_bool, neD_bool, eqD_fr, neD_fr, ix_fr0, ix_fr1, kit_int, kit_bool, kit_str, kit_tuple, decide_eq_true_eq, Bool.not_eq_true', decide_eq_false_iff_not, line_nil, line1, line2, if_true, if_false]
  rw [if_pos (by decide)]
  rw [lit_c]
  refine c__law_parsed_ok (by decide) (by decide) ?_
  rw [if_neg (by decide), par_c]
  simp only [dRet, dRetN, dSeq, dPar, dPar3, dCons, dNil, dCaB, dVar, dC, dCmpT, dCmp, dU, dB, dAndV, dOrV, dNotV, dAnd, dOr, dNot, dIf, dTup, dLst, dChain, dChainT, dTest, dIsi, dAsg, dDrop, dIfS, gN, gT, gs0, gs1, dAug, dNext, dRaise, dCall, dYes, topE, List.getElem?_cons_succ, List.getElem?_cons_zero, List.set_cons_zero, List.set_cons_succ, Option.some.injEq, S.val.injEq, exists_eq_left', exists_eq_left, exists_and_left, and_assoc, List.cons.injEq, and_true, true_and, PyData.int.injEq, PyData.bool.injEq, PyData.tuple.injEq, PyData.list.injEq, absD_i, maxD_i, addD_i, subD_i, negD_i, iaddD_i, mulD_e, fdivD_e, ifdivD_e, modD_e, leD_i, ltD_i, gtD_i, geD_i, lenD_t, lenD_l, isNd_n, notNd_n, isBd_b, notBd_b, isNonD_i, isNonD_n, isNonD_t, isNonD_l, eqD_int, neD_int, eqD_bool, neD_bool, eqD_fr, neD_fr, ix_fr0, ix_fr1, kit_int, kit_bool, kit_str, kit_tuple, decide_eq_true_eq, Bool.not_eq_true', decide_eq_false_iff_not, line_nil, line1, line2, if_true, if_false]
  exact hq
theorem c__law_rejected_e (q : Res → Prop) : c__law_rejected [] q ↔ q (.ok (.bool true)) := ⟨fun h => h.2, fun h => ⟨rfl, h⟩⟩
abbrev s__law_draw : Stmt := topS 32
theorem sc__law_draw : FnScope ["draws", "limit", "numbers", "at", "cell", "mixed"] ["draws", "limit"] (defScope s__law_draw) := ⟨rfl, rfl, rfl, by decide +kernel, rfl, by decide +kernel, by decide +kernel⟩
def c__law_draw : Ct := fun ds q => ∃ n : Int, ds = [.int n] ∧ 0 < n ∧ n < 1073741824 ∧ ∀ r : Int, 0 ≤ r → r < n → q (.ok (.int r))
theorem ok__law_draw (F : Fun K "_law_draw" "_law_draw" s__law_draw f fd) (m_len : mg "len" = none) : FnOk P w K mg base (L2.CX P w) 1 f fd ["draws", "limit"] (spW K ca c__law_draw 1) := by
  refine F.okX sc__law_draw (fun vs H Q E h => ?_) (fun cdv A outer s H vs Q E hr h => ?_)
  · obtain ⟨a, b, vr, Hf, ds, q, rfl, h1, _, _, _, h2, _⟩ := h
    rw [List.length_cons, h2.1, h1]
    rfl
  · obtain ⟨a, b, vr, Hf, ds, q, rfl, _, hs, ⟨ha, hb, ne⟩, ⟨ns, k, e1, e2, nn, hl⟩, h3, hc, h5, _⟩ := h
    obtain ⟨n, rfl, hn0, hn1, hq⟩ := hc
    obtain ⟨v, rfl, hv⟩ := dv1 h3
    obtain rfl := hv.int_inv
    refine ⟨_, pss_cons (ps_set (i := 2) sc__law_draw.nd rfl (.inl rfl) (pe_ix ix_list (pv 0) pe_int (fun _ _ => rfl)))
      (pss_cons (ps_asg (pe_op op_add (pe_ix ix_list (pv 0) pe_int (fun _ _ => rfl)) pe_int) (pg_sub (pv 0) pe_int set_list))
      (pss_cons (ps_set (i := 3) sc__law_draw.nd rfl (.inl rfl) (pe_op op_mod (pe_ix ix_list (pv 0) pe_int (fun _ _ => rfl)) (pe_callB call_len_seq (by rfl) m_len boot_len (pa_cons (pv 2) pa_nil))))
      (pss_cons (ps_set (i := 4) sc__law_draw.nd rfl (.inl rfl) (pe_ix ix_list (pv 2) (pv 3) (fun _ _ => rfl)))
      (pss_cons (ps_if (pt_cmpR op_ge (pv 4) pe_int (nomark _)) (pss_cons (ps_asg (pe_op op_fdiv (pv 4) (pv 1)) (pg_sub (pv 2) (pv 3) set_list)) (pss_one (ps_ret (pe_op op_mod (pv 4) (pv 1))))) pss_nil)
      (pss_cons (ps_set (i := 5) sc__law_draw.nd rfl (.inl rfl) (pe_op op_mod (pe_op op_add (pv 4) (pe_op op_mul pe_int (pe_ix ix_list (pv 0) pe_int (fun _ _ => rfl)))) pe_int))
      (pss_cons (ps_set (i := 5) sc__law_draw.nd rfl (.inl rfl) (pe_op op_mod (pe_op op_pow (pv 5) pe_int) pe_int))
      (pss_one (ps_ret (pe_op op_mod (pe_op op_fdiv (pe_op op_mod (pe_op op_add (pe_op op_mul (pe_op op_fdiv (pv 5) pe_int) pe_int) (pv 5)) pe_int) pe_int) (pv 1)))))))))), ?_⟩
    -- numbers = draws[0]
    refine ⟨.ref a, rfl, a, [.ref b, .int k], 0, .ref b, rfl, rfl, .inl (.inl e1), rfl, ?_⟩
    -- draws[1] = draws[1] + 1
    refine ⟨.ref a, rfl, a, [.ref b, .int k], 1, .int k, rfl, rfl, .inl (.inl e1), rfl, k, 1, rfl, rfl, .ref a, rfl, a, [.ref b, .int k], 1, 1, rfl, rfl, e1, rfl, ?_⟩
    have x1 : (upd H a (.lst [V.ref b, V.int (k + 1)])) a = some (.lst [V.ref b, V.int (k + 1)]) := upd_same
    have x2 : (upd H a (.lst [V.ref b, V.int (k + 1)])) b = some (.lst (ns.map V.int)) := by
      rw [upd_ne ne.symm]
      exact e2
    have lp : 0 < ns.length := List.length_pos_iff.mpr nn
    have F1 : Frm [a, b] H Hf (upd H a (.lst [V.ref b, V.int (k + 1)])) Hf := Frm.mut hs (by simp) ha
    show tSeq _ _ _ _ (upd H a (.lst [V.ref b, V.int (k + 1)]))
    generalize upd H a (.lst [V.ref b, V.int (k + 1)]) = H1 at x1 x2 F1 ⊢
    -- at = draws[1] % len(numbers)
    refine ⟨.ref a, rfl, a, [.ref b, .int (k + 1)], 1, .int (k + 1), rfl, rfl, .inl (.inl x1), rfl, .ref b, rfl, b, ns.map V.int, rfl, .inl (.inl (.inl x2)), k + 1, _, rfl, rfl, by rw [List.length_map]; omega, ?_⟩
    have m1 : 0 ≤ (k + 1) % (((ns.map V.int).length : Nat) : Int) := Int.emod_nonneg _ (by rw [List.length_map]; omega)
    have m2 : (k + 1) % (((ns.map V.int).length : Nat) : Int) < (ns.length : Int) := by
      have := Int.emod_lt_of_pos (k + 1) (b := (((ns.map V.int).length : Nat) : Int)) (by rw [List.length_map]; omega)
      rwa [List.length_map] at this ⊢
    dsimp only
    generalize (k + 1) % (((ns.map V.int).length : Nat) : Int) = at_ at m1 m2 ⊢
    have hat : at_.toNat < ns.length := by omega
    have hci : (ns.map V.int)[at_.toNat]? = some (.int ns[at_.toNat]) := by
      rw [List.getElem?_map, List.getElem?_eq_getElem hat]
      rfl
    have hix : atI (ns.map V.int) at_ = some (.int ns[at_.toNat]) := at_of (by omega) hci
    -- cell = numbers[at]
    refine ⟨.ref b, rfl, .int at_, rfl, b, ns.map V.int, at_, .int ns[at_.toNat], rfl, rfl, .inl (.inl x2), hix, ?_⟩
    generalize ns[at_.toNat] = cell
    refine ⟨.int cell, rfl, cell, _, rfl, rfl, _, rfl, ite2 (fun _ => ?_) (fun _ => ?_)⟩
    · -- numbers[at] = cell // limit; return cell % limit
      refine ⟨.int cell, rfl, .int n, rfl, cell, n, rfl, rfl, ⟨hn0, hn1⟩, .ref b, rfl, .int at_, rfl, b, ns.map V.int, at_, at_.toNat, rfl, rfl, x2, ?_, ?_⟩
      · unfold ixN
        rw [List.length_map, if_pos m1, if_pos m2]
      · have x3 : (ns.map V.int).set at_.toNat (.int (cell / n)) = (ns.set at_.toNat (cell / n)).map V.int := by rw [List.map_set]
        rw [x3]
        refine ⟨.int cell, rfl, .int n, rfl, cell, n, rfl, rfl, hn0, ?_⟩
        refine h5 _ _ _ Hf (hq _ (Int.emod_nonneg _ (by omega)) (Int.emod_lt_of_pos _ hn0)) (F1.trans (Frm.mut (ex := [a, b]) F1.sub (by simp) hb) fun x hx => .inl hx) ⟨ns.set at_.toNat (cell / n), k + 1, ?_, upd_same, ?_, by simpa using hl⟩ (.int _)
        · rw [upd_ne ne]
          exact x1
        · intro z
          have z2 := congrArg List.length z
          rw [List.length_set] at z2
          exact absurd z2 (by simp; exact nn)
    · -- the mixed number
      refine ⟨.int cell, rfl, .ref a, rfl, a, [.ref b, .int (k + 1)], 1, .int (k + 1), rfl, rfl, .inl (.inl x1), rfl, _, k + 1, rfl, rfl, .inl ⟨by decide, by decide⟩, cell, _, rfl, rfl, _, _, rfl, rfl, (by decide : (0 : Int) < 4294967291), ?_⟩
      have g1 : 0 ≤ (cell + 104729 * (k + 1)) % 4294967291 := Int.emod_nonneg _ (by decide)
      have g2 : (cell + 104729 * (k + 1)) % 4294967291 < 4294967291 := Int.emod_lt_of_pos _ (by decide)
      dsimp only
      generalize (cell + 104729 * (k + 1)) % 4294967291 = mx at g1 g2 ⊢
      refine ⟨.int mx, rfl, mx, _, rfl, rfl, ⟨by decide, by decide, by omega⟩, _, _, rfl, rfl, (by decide : (0 : Int) < 4294967279), ?_⟩
      have g3 : 0 ≤ mx ^ (5 : Int).toNat % 4294967279 := Int.emod_nonneg _ (by decide)
      have g4 : mx ^ (5 : Int).toNat % 4294967279 < 4294967279 := Int.emod_lt_of_pos _ (by decide)
      dsimp only
      generalize mx ^ (5 : Int).toNat % 4294967279 = my at g3 g4 ⊢
      refine ⟨.int my, rfl, my, _, rfl, rfl, ⟨by decide, by decide⟩, _, _, rfl, rfl, .inr ⟨by decide, by decide⟩, .int my, rfl, _, my, rfl, rfl, _, _, rfl, rfl, (by decide : (0 : Int) < 4294967231), _, _, rfl, rfl, ⟨by decide, by decide⟩, .int n, rfl, _, n, rfl, rfl, hn0, ?_⟩
      exact h5 _ _ _ Hf (hq _ (Int.emod_nonneg _ (by omega)) (Int.emod_lt_of_pos _ hn0)) F1 ⟨ns, k + 1, x1, x2, nn, hl⟩ (.int _)

theorem c__law_draw_e (n : Int) (q : Res → Prop) : c__law_draw [.int n] q ↔ 0 < n ∧ n < 1073741824 ∧ ∀ r : Int, 0 ≤ r → r < n → q (.ok (.int r)) :=
  ⟨fun ⟨_, e, h⟩ => by cases e; exact h, fun h => ⟨_, rfl, h⟩⟩
abbrev s__law_pick : Stmt := topS 33
theorem sc__law_pick : FnScope ["draws", "choices"] ["draws", "choices"] (defScope s__law_pick) := ⟨rfl, rfl, rfl, by decide +kernel, rfl, by decide +kernel, by decide +kernel⟩
def c__law_pick : Ct := fun ds q => ∃ xs : List PyData, ds = [.list xs] ∧ (1 ≤ xs.length ∧ xs.length ≤ 1000) ∧ ∀ x, x ∈ xs → q (.ok x)
theorem at_of2 {xs : List PyData} {z : Int} {j : Nat} {v : PyData} (e : z = (j : Int)) (h : xs[j]? = some v) : ixD (.list xs) (.int z) = some v := by
  rw [e]
  exact atI_nat h
theorem ok__law_pick (F : Fun K "_law_pick" "_law_pick" s__law_pick f fd) (F__law_draw : FdW P w K mg base ca "_law_draw" c__law_draw 1 1) (m_len : mg "len" = none) : FnOk P w K mg base (L2.CX P w) 2 f fd ["draws", "choices"] (spW K ca c__law_pick 1) := by
  refine fn_okW F sc__law_pick rfl (fun cdv A outer s H E hr tk po hu hu5 => ?_)
  refine ⟨_, _, pdb_one (pds_ret (pd_ix (r := rIx K) ix_seq od_ix (pd_var (pv 1)) (pd_fnW F__law_draw (hr.mono (by decide)) (by rfl) tk (pv 0) (pda_cons (pd_callB (r := rLenA K) call_lenA cd_len (by rfl) m_len boot_len (pda_cons (pd_var (pv 1)) pda_nil)) pda_nil)) (fun _ _ => rfl))), ?_⟩
  clear hr tk po hu hu5
  intro ds q a b hl hc
  obtain ⟨xs, rfl, hx, hq⟩ := hc
  rw [show startW ["draws", "choices"] a b [.list xs] = [some (.drw a b), some (.val (.list xs))] from rfl]
  simp only [dRet, dRetN, dSeq, dPar, dPar3, dCons, dNil, dCaB, dVar, dC, dCmpT, dCmp, dU, dB, dAndV, dOrV, dNotV, dAnd, dOr, dNot, dIf, dTup, dLst, dChain, dChainT, dTest, dIsi, dAsg, dDrop, dIfS, gN, gT, gs0, gs1, dAug, dNext, dRaise, dCall, dYes, topE, List.getElem?_cons_succ, List.getElem?_cons_zero, List.set_cons_zero, List.set_cons_succ, Option.some.injEq, S.val.injEq, exists_eq_left', exists_eq_left, exists_and_left, and_assoc, List.cons.injEq, and_true, true_and, PyData.int.injEq, PyData.bool.injEq, PyData.tuple.injEq, PyData.list.injEq, absD_i, maxD_i, addD_i, subD_i, negD_i, iaddD_i, mulD_e, fdivD_e, ifdivD_e, modD_e, leD_i, ltD_i, gtD_i, geD_i, lenD_t, lenD_l, isNd_n, notNd_n, isBd_b, notBd_b, isNonD_i, isNonD_n, isNonD_t, isNonD_l, eqD_int, neD_int, eqD_bool, neD_bool, eqD_fr, neD_fr, ix_fr0, ix_fr1, kit_int, kit_bool, kit_str, kit_tuple, decide_eq_true_eq, Bool.not_eq_true', decide_eq_false_iff_not, line_nil, line1, line2, if_true, if_false, dCallW, S.drw.injEq, topW, c__law_draw_e]
  refine ⟨by omega, by omega, fun r h0 h1 => ?_⟩
  have hr : r.toNat < xs.length := by omega
  exact ⟨xs[r.toNat], at_of2 (by omega) (List.getElem?_eq_getElem hr), hq _ (List.getElem_mem hr)⟩
theorem c__law_pick_e (xs : List PyData) (q : Res → Prop) : c__law_pick [.list xs] q ↔ (1 ≤ xs.length ∧ xs.length ≤ 1000) ∧ ∀ x, x ∈ xs → q (.ok x) :=
  ⟨fun ⟨_, e, h⟩ => by cases e; exact h, fun h => ⟨_, rfl, h⟩⟩
abbrev s__law_low : Stmt := topS 35
theorem sc__law_low : FnScope ["top", "under", "one", "other"] ["top", "under"] (defScope s__law_low) := ⟨rfl, rfl, rfl, by decide +kernel, rfl, by decide +kernel, by decide +kernel⟩
def c__law_low : Ct := fun ds q => ∃ a b : Int, ds = [.int a, .int b] ∧ (0 < b ∧ b < 2 ^ 64) ∧ q (.ok (lowF a b))
theorem ok__law_low (F : Fun K "_law_low" "_law_low" s__law_low f fd) (m_abs : mg "abs" = none) : FnOk P w K mg base (L2.CX P w) 1 f fd ["top", "under"] (spD K ca c__law_low 2) := by
  refine fn_ok F sc__law_low rfl (fun cdv A outer s H E hr tk po hu hu5 => ?_)
  refine ⟨_, _, pdb_cons (pds_par (pda_cons (pd_callB call_abs cd_abs (by rfl) m_abs boot_abs (pda_cons (pd_var (pv 0)) pda_nil)) (pda_cons (pd_var (pv 1)) pda_nil)) (fun h => ps_par (i := 2) (j := 3) rfl sc__law_low.nd rfl rfl (by decide) rfl rfl h (by rfl)))
      (pdb_cons (pds_while po (pdt_cmp (r := rNeD K) (op_neD hu) cm_ne (pd_var (pv 3)) (PD.pv pd_int) (nomark _)) (pdb_one (pds_par (pda_cons (pd_var (pv 3)) (pda_cons (pd_op op_mod od_mod (pd_var (pv 2)) (pd_var (pv 3))) pda_nil)) (fun h => ps_par (i := 2) (j := 3) rfl sc__law_low.nd rfl rfl (by decide) rfl rfl h (by rfl)))))
      (pdb_one (pds_ret (pd_tup (pda_cons (pd_op op_fdivW od_fdiv (pd_var (pv 0)) (pd_var (pv 2))) (pda_cons (pd_op op_fdivW od_fdiv (pd_var (pv 1)) (pd_var (pv 2))) pda_nil)))))), ?_⟩
  clear hr tk po hu hu5
  intro ds q hl hc
  obtain ⟨a, b, rfl, hb, hq⟩ := hc
  rw [show start0 (["top", "under", "one", "other"] : List Str) [.int a, .int b] = [some (.val (.int a)), some (.val (.int b)), none, none] from rfl]
  have h1 : 0 < (Int.gcd a b : Int) := gcdI_pos (a := a) hb.1
  have h2 : (Int.gcd a b : Int) ≤ b := gcdI_le (a := a) hb.1
  simp only [dRet, dRetN, dSeq, dPar, dPar3, dCons, dNil, dCaB, dVar, dC, dCmpT, dCmp, dU, dB, dAndV, dOrV, dNotV, dAnd, dOr, dNot, dIf, dTup, dLst, dChain, dChainT, dTest, dIsi, dAsg, dDrop, dIfS, gN, gT, gs0, gs1, dAug, dNext, dRaise, dCall, dYes, topE, List.getElem?_cons_succ, List.getElem?_cons_zero, List.set_cons_zero, List.set_cons_succ, Option.some.injEq, S.val.injEq, exists_eq_left', exists_eq_left, exists_and_left, and_assoc, List.cons.injEq, and_true, true_and, PyData.int.injEq, PyData.bool.injEq, PyData.tuple.injEq, PyData.list.injEq, absD_i, maxD_i, addD_i, subD_i, negD_i, iaddD_i, mulD_e, fdivD_e, ifdivD_e, modD_e, leD_i, ltD_i, gtD_i, geD_i, lenD_t, lenD_l, isNd_n, notNd_n, isBd_b, notBd_b, isNonD_i, isNonD_n, isNonD_t, isNonD_l, eqD_int, neD_int, eqD_bool, neD_bool, eqD_fr, neD_fr, ix_fr0, ix_fr1, kit_int, kit_bool, kit_str, kit_tuple, decide_eq_true_eq, Bool.not_eq_true', decide_eq_false_iff_not, line_nil, line1, line2, if_true, if_false]

  refine whW_inv (fun n l => ∃ x y : Nat, l = [some (.val (.int a)), some (.val (.int b)), some (.val (.int x)), some (.val (.int y))] ∧ n = y ∧ Nat.gcd x y = Int.gcd a b) (fun n l k h hk => ?_) b.natAbs _ ⟨a.natAbs, b.natAbs, by rw [Int.natAbs_of_nonneg (by omega : 0 ≤ b)], rfl, rfl⟩
  obtain ⟨x, y, rfl, rfl, hg⟩ := h
  simp only [dRet, dRetN, dSeq, dPar, dPar3, dCons, dNil, dCaB, dVar, dC, dCmpT, dCmp, dU, dB, dAndV, dOrV, dNotV, dAnd, dOr, dNot, dIf, dTup, dLst, dChain, dChainT, dTest, dIsi, dAsg, dDrop, dIfS, gN, gT, gs0, gs1, dAug, dNext, dRaise, dCall, dYes, topE, List.getElem?_cons_succ, List.getElem?_cons_zero, List.set_cons_zero, List.set_cons_succ, Option.some.injEq, S.val.injEq, exists_eq_left', exists_eq_left, exists_and_left, and_assoc, List.cons.injEq, and_true, true_and, PyData.int.injEq, PyData.bool.injEq, PyData.tuple.injEq, PyData.list.injEq, absD_i, maxD_i, addD_i, subD_i, negD_i, iaddD_i, mulD_e, fdivD_e, ifdivD_e, modD_e, leD_i, ltD_i, gtD_i, geD_i, lenD_t, lenD_l, isNd_n, notNd_n, isBd_b, notBd_b, isNonD_i, isNonD_n, isNonD_t, isNonD_l, eqD_int, neD_int, eqD_bool, neD_bool, eqD_fr, neD_fr, ix_fr0, ix_fr1, kit_int, kit_bool, kit_str, kit_tuple, decide_eq_true_eq, Bool.not_eq_true', decide_eq_false_iff_not, line_nil, line1, line2, if_true, if_false]
  by_cases hy : n = 0
  · subst hy
    have e : x = Int.gcd a b := by simpa using hg
    subst e
    rw [if_neg (by simp)]
    exact ⟨h1, by omega, h1, by omega, hq⟩
  · rw [if_pos (by omega)]
    refine ⟨by omega, hk _ (x % n) (Nat.mod_lt _ (by omega)) ⟨n, x % n, rfl, rfl, ?_⟩⟩
    rw [← hg, Nat.gcd_comm n, ← Nat.gcd_rec, Nat.gcd_comm]
theorem c__law_low_e (a b : Int) (q : Res → Prop) : c__law_low [.int a, .int b] q ↔ (0 < b ∧ b < 2 ^ 64) ∧ q (.ok (lowF a b)) :=
  ⟨fun ⟨_, _, e, h⟩ => by cases e; exact h, fun h => ⟨_, _, rfl, h⟩⟩
abbrev s__law_fraction : Stmt := topS 36
theorem sc__law_fraction : FnScope ["draws", "under", "wide"] ["draws"] (defScope s__law_fraction) := ⟨rfl, rfl, rfl, by decide +kernel, rfl, by decide +kernel, by decide +kernel⟩
def c__law_fraction : Ct := fun ds q => ds = [] ∧ ∀ p n : Int, isFracB (fr p n) = true → q (.ok (fr p n))
theorem ok__law_fraction (F : Fun K "_law_fraction" "_law_fraction" s__law_fraction f fd) (F__law_pick : FdW P w K mg base ca "_law_pick" c__law_pick 1 2) (F__law_low : Fd P w K mg base ca "_law_low" c__law_low 2 1) (F__law_draw : FdW P w K mg base ca "_law_draw" c__law_draw 1 1) : FnOk P w K mg base (L2.CX P w) 3 f fd ["draws"] (spW K ca c__law_fraction 0) := by
  refine fn_okW F sc__law_fraction rfl (fun cdv A outer s H E hr tk po hu hu5 => ?_)
  refine ⟨_, _, pdb_cons (pds_set (pd_fnW F__law_pick (hr.mono (by decide)) (by rfl) tk (pv 0) (pda_cons (pd_lst (pda_cons pd_int (pda_cons pd_int (pda_cons pd_int (pda_cons pd_int (pda_cons pd_int (pda_cons pd_int (pda_cons pd_int (pda_cons pd_int (pda_cons (pd_op (op_add.or (op_add_str.or op_cat)) od_add pd_int (pd_fnW F__law_draw (hr.mono (by decide)) (by rfl) tk (pv 0) (pda_cons pd_int pda_nil))) pda_nil)))))))))) pda_nil)) (fun h => ps_set (i := 1) sc__law_fraction.nd rfl (.inl rfl) h))
      (pdb_cons (pds_set (pd_fnW F__law_pick (hr.mono (by decide)) (by rfl) tk (pv 0) (pda_cons (pd_lst (pda_cons pd_int (pda_cons pd_int (pda_cons pd_int pda_nil)))) pda_nil)) (fun h => ps_set (i := 2) sc__law_fraction.nd rfl (.inl rfl) h))
      (pdb_one (pds_ret (pd_fn F__law_low (hr.mono (by decide)) (by rfl) tk (pda_cons (pd_op op_sub od_sub (pd_fnW F__law_draw (hr.mono (by decide)) (by rfl) tk (pv 0) (pda_cons (pd_op (op_add.or (op_add_str.or op_cat)) od_add (pd_op op_mul od_mul (pd_op op_mul od_mul pd_int (pd_var (pv 2))) (pd_var (pv 1))) pd_int) pda_nil)) (pd_op op_mul od_mul (pd_var (pv 2)) (pd_var (pv 1)))) (pda_cons (pd_var (pv 1)) pda_nil)))))), ?_⟩
  clear hr tk po hu hu5
  intro ds q a b hl hc
  obtain ⟨rfl, hq⟩ := hc
  rw [show startW ["draws", "under", "wide"] a b [] = [some (.drw a b), none, none] from rfl]
  simp only [dRet, dRetN, dSeq, dPar, dPar3, dCons, dNil, dCaB, dVar, dC, dCmpT, dCmp, dU, dB, dAndV, dOrV, dNotV, dAnd, dOr, dNot, dIf, dTup, dLst, dChain, dChainT, dTest, dIsi, dAsg, dDrop, dIfS, gN, gT, gs0, gs1, dAug, dNext, dRaise, dCall, dYes, topE, List.getElem?_cons_succ, List.getElem?_cons_zero, List.set_cons_zero, List.set_cons_succ, Option.some.injEq, S.val.injEq, exists_eq_left', exists_eq_left, exists_and_left, and_assoc, List.cons.injEq, and_true, true_and, PyData.int.injEq, PyData.bool.injEq, PyData.tuple.injEq, PyData.list.injEq, absD_i, maxD_i, addD_i, subD_i, negD_i, iaddD_i, mulD_e, fdivD_e, ifdivD_e, modD_e, leD_i, ltD_i, gtD_i, geD_i, lenD_t, lenD_l, isNd_n, notNd_n, isBd_b, notBd_b, isNonD_i, isNonD_n, isNonD_t, isNonD_l, eqD_int, neD_int, eqD_bool, neD_bool, eqD_fr, neD_fr, ix_fr0, ix_fr1, kit_int, kit_bool, kit_str, kit_tuple, decide_eq_true_eq, Bool.not_eq_true', decide_eq_false_iff_not, line_nil, line1, line2, if_true, if_false, dCallW, S.drw.injEq, topW, c__law_draw_e, c__law_pick_e, c__law_low_e, List.length_cons, List.length_nil, sizeLine_eq, Nat.reduceAdd, Nat.reduceLeDiff, Nat.zero_add]
  refine ⟨by decide, by decide, fun r r0 r1 => fun x hx => ?_⟩
  obtain ⟨u, rfl, u1, u2⟩ : ∃ u : Int, x = .int u ∧ 1 ≤ u ∧ u ≤ 60 := by
    simp only [List.mem_cons, List.not_mem_nil, or_false] at hx
    rcases hx with h | h | h | h | h | h | h | h | h <;> exact ⟨_, h, by omega, by omega⟩
  intro y hy
  obtain ⟨t, rfl, t1, t2⟩ : ∃ t : Int, y = .int t ∧ 1 ≤ t ∧ t ≤ 100 := by
    simp only [List.mem_cons, List.not_mem_nil, or_false] at hy
    rcases hy with h | h | h <;> exact ⟨_, h, by omega, by omega⟩
  have b1 : 0 ≤ t * u := Int.mul_nonneg (by omega) (by omega)
  have b2 : t * u ≤ 100 * u := Int.mul_le_mul_of_nonneg_right t2 (by omega)
  have e2 : 2 * t * u = 2 * (t * u) := Int.mul_assoc ..
  simp only [dRet, dRetN, dSeq, dPar, dPar3, dCons, dNil, dCaB, dVar, dC, dCmpT, dCmp, dU, dB, dAndV, dOrV, dNotV, dAnd, dOr, dNot, dIf, dTup, dLst, dChain, dChainT, dTest, dIsi, dAsg, dDrop, dIfS, gN, gT, gs0, gs1, dAug, dNext, dRaise, dCall, dYes, topE, List.getElem?_cons_succ, List.getElem?_cons_zero, List.set_cons_zero, List.set_cons_succ, Option.some.injEq, S.val.injEq, exists_eq_left', exists_eq_left, exists_and_left, and_assoc, List.cons.injEq, and_true, true_and, PyData.int.injEq, PyData.bool.injEq, PyData.tuple.injEq, PyData.list.injEq, absD_i, maxD_i, addD_i, subD_i, negD_i, iaddD_i, mulD_e, fdivD_e, ifdivD_e, modD_e, leD_i, ltD_i, gtD_i, geD_i, lenD_t, lenD_l, isNd_n, notNd_n, isBd_b, notBd_b, isNonD_i, isNonD_n, isNonD_t, isNonD_l, eqD_int, neD_int, eqD_bool, neD_bool, eqD_fr, neD_fr, ix_fr0, ix_fr1, kit_int, kit_bool, kit_str, kit_tuple, decide_eq_true_eq, Bool.not_eq_true', decide_eq_false_iff_not, line_nil, line1, line2, if_true, if_false, c__law_draw_e, c__law_low_e]
  rw [e2]
  refine ⟨mulOk_l (by decide) (by decide), mulOk_r (by omega) (by omega), by omega, by omega, fun z z0 z1 => ⟨mulOk_r (by omega) (by omega), by omega, by omega, ?_⟩⟩
  exact hq _ _ (low_frac u1 u2 (by omega) (by omega))
theorem c__law_fraction_e (q : Res → Prop) : c__law_fraction [] q ↔ ∀ p n : Int, isFracB (fr p n) = true → q (.ok (fr p n)) := ⟨fun h => h.2, fun h => ⟨rfl, h⟩⟩
abbrev s_check_whole : Stmt := topS 17
theorem sc_check_whole : FnScope ["value", "digits"] ["value", "digits"] (defScope s_check_whole) := ⟨rfl, rfl, rfl, by decide +kernel, rfl, by decide +kernel, by decide +kernel⟩
def c_check_whole : Ct := fun ds q => ∃ (v : PyData) (d : Int), ds = [v, .int d] ∧ (0 ≤ d ∧ d ≤ 6) ∧ q (if isIntB v (-101 * powT d) (101 * powT d) = true then .ok .none else .er .num)
theorem ok_check_whole (F : Fun K "check_whole" "check_whole" s_check_whole f fd) (F_is_int : Fd P w K mg base ca "is_int" c_is_int 3 1) (F_power_of : Fd P w K mg base ca "power_of" c_power_of 1 1) (X_num : Xf K mg "BadNumber" (ca .num)) : FnOk P w K mg base (L2.CX P w) 2 f fd ["value", "digits"] (spD K ca c_check_whole 2) := by
  refine fn_ok F sc_check_whole rfl (fun cdv A outer s H E hr tk po hu hu5 => ?_)
  refine ⟨_, _, pdb_one (pds_if (pdt_not (pdt_val (pd_fn F_is_int (hr.mono (by decide)) (by rfl) tk (pda_cons (pd_var (pv 0)) (pda_cons (pd_op op_mul od_mul (pd_un un_neg ud_neg pd_int) (pd_fn F_power_of (hr.mono (by decide)) (by rfl) tk (pda_cons (pd_var (pv 1)) pda_nil))) (pda_cons (pd_op op_mul od_mul pd_int (pd_fn F_power_of (hr.mono (by decide)) (by rfl) tk (pda_cons (pd_var (pv 1)) pda_nil))) pda_nil)))))) (pdb_one (pds_raise (er := .num) X_num rfl tk rfl)) (pdb_nil)), ?_⟩
  clear hr tk po hu hu5
  intro ds q hl hc
  obtain ⟨v, d, rfl, hd, hq⟩ := hc
  rw [show start0 (["value", "digits"] : List Str) [v, .int d] = [some (.val (v)), some (.val (.int d))] from rfl]
  have hp := powT_lt hd.2
  simp only [dRet, dRetN, dSeq, dPar, dPar3, dCons, dNil, dCaB, dVar, dC, dCmpT, dCmp, dU, dB, dAndV, dOrV, dNotV, dAnd, dOr, dNot, dIf, dTup, dLst, dChain, dChainT, dTest, dIsi, dAsg, dDrop, dIfS, gN, gT, gs0, gs1, dAug, dNext, dRaise, dCall, dYes, topE, List.getElem?_cons_succ, List.getElem?_cons_zero, List.set_cons_zero, List.set_cons_succ, Option.some.injEq, S.val.injEq, exists_eq_left', exists_eq_left, exists_and_left, and_assoc, List.cons.injEq, and_true, true_and, PyData.int.injEq, PyData.bool.injEq, PyData.tuple.injEq, PyData.list.injEq, absD_i, maxD_i, addD_i, subD_i, negD_i, iaddD_i, mulD_e, fdivD_e, ifdivD_e, modD_e, leD_i, ltD_i, gtD_i, geD_i, lenD_t, lenD_l, isNd_n, notNd_n, isBd_b, notBd_b, isNonD_i, isNonD_n, isNonD_t, isNonD_l, eqD_int, neD_int, eqD_bool, neD_bool, eqD_fr, neD_fr, ix_fr0, ix_fr1, kit_int, kit_bool, kit_str, kit_tuple, decide_eq_true_eq, Bool.not_eq_true', decide_eq_false_iff_not, line_nil, line1, line2, if_true, if_false, c_power_of_e, c_is_int_e]
  refine ⟨hd.1, by omega, mulOk_l (by decide) (by decide), hd.1, by omega, mulOk_l (by decide) (by decide), ?_⟩
  cases h : isIntB v (-101 * powT d) (101 * powT d) with
  | true => rw [h, if_pos rfl] at hq; simpa using hq
  | false => rw [h, if_neg Bool.false_ne_true] at hq; simpa using hq
theorem c_check_whole_e (v : PyData) (d : Int) (q : Res → Prop) : c_check_whole [v, .int d] q ↔ (0 ≤ d ∧ d ≤ 6) ∧ q (if isIntB v (-101 * powT d) (101 * powT d) = true then .ok .none else .er .num) :=
  ⟨fun ⟨_, _, e, h⟩ => by cases e; exact h, fun h => ⟨_, _, rfl, h⟩⟩
abbrev s_format_decimal : Stmt := topS 25
theorem sc_format_decimal : FnScope ["units", "digits"] ["units", "digits"] (defScope s_format_decimal) := ⟨rfl, rfl, rfl, by decide +kernel, rfl, by decide +kernel, by decide +kernel⟩
def c_format_decimal : Ct := fun ds q => ∃ v w, ds = [v, w] ∧ chk (isIntB w 0 6) .num q (∀ k : Int, w = .int k → chk (isIntB v (-101 * powT k) (101 * powT k)) .num q (∀ u : Int, v = .int u → q (.ok (.str (wrT u k)))))
theorem ok_format_decimal (F : Fun K "format_decimal" "format_decimal" s_format_decimal f fd) (F_check_digits : Fd P w K mg base ca "check_digits" c_check_digits 1 2) (F_check_whole : Fd P w K mg base ca "check_whole" c_check_whole 2 2) (F_written : Fd P w K mg base ca "written" c_written 2 2) : FnOk P w K mg base (L2.CX P w) 3 f fd ["units", "digits"] (spD K ca c_format_decimal 2) := by
  refine fn_ok F sc_format_decimal rfl (fun cdv A outer s H E hr tk po hu hu5 => ?_)
  refine ⟨_, _, pdb_cons (pds_expr (pd_fn F_check_digits (hr.mono (by decide)) (by rfl) tk (pda_cons (pd_var (pv 1)) pda_nil)))
      (pdb_cons (pds_expr (pd_fn F_check_whole (hr.mono (by decide)) (by rfl) tk (pda_cons (pd_var (pv 0)) (pda_cons (pd_var (pv 1)) pda_nil))))
      (pdb_one (pds_ret (pd_fn F_written (hr.mono (by decide)) (by rfl) tk (pda_cons (pd_var (pv 0)) (pda_cons (pd_var (pv 1)) pda_nil)))))), ?_⟩
  clear hr tk po hu hu5
  intro ds q hl hc
  obtain ⟨v, w, rfl, hq⟩ := hc
  rw [show start0 (["units", "digits"] : List Str) [v, w] = [some (.val (v)), some (.val (w))] from rfl]
  simp only [dRet, dRetN, dSeq, dPar, dPar3, dCons, dNil, dCaB, dVar, dC, dCmpT, dCmp, dU, dB, dAndV, dOrV, dNotV, dAnd, dOr, dNot, dIf, dTup, dLst, dChain, dChainT, dTest, dIsi, dAsg, dDrop, dIfS, gN, gT, gs0, gs1, dAug, dNext, dRaise, dCall, dYes, topE, List.getElem?_cons_succ, List.getElem?_cons_zero, List.set_cons_zero, List.set_cons_succ, Option.some.injEq, S.val.injEq, exists_eq_left', exists_eq_left, exists_and_left, and_assoc, List.cons.injEq, and_true, true_and, PyData.int.injEq, PyData.bool.injEq, PyData.tuple.injEq, PyData.list.injEq, absD_i, maxD_i, addD_i, subD_i, negD_i, iaddD_i, mulD_e, fdivD_e, ifdivD_e, modD_e, leD_i, ltD_i, gtD_i, geD_i, lenD_t, lenD_l, isNd_n, notNd_n, isBd_b, notBd_b, isNonD_i, isNonD_n, isNonD_t, isNonD_l, eqD_int, neD_int, eqD_bool, neD_bool, eqD_fr, neD_fr, ix_fr0, ix_fr1, kit_int, kit_bool, kit_str, kit_tuple, decide_eq_true_eq, Bool.not_eq_true', decide_eq_false_iff_not, line_nil, line1, line2, if_true, if_false, c_check_digits_e]
  cases h2 : isIntB w 0 6 with
  | false => rw [h2, chk_f] at hq; simpa using hq
  | true =>
    rw [h2, chk_t] at hq
    simp only [if_true]
    obtain ⟨k, rfl, k1, k2⟩ := isIntB_inv h2
    have hq := hq k rfl
    simp only [dRet, dRetN, dSeq, dPar, dPar3, dCons, dNil, dCaB, dVar, dC, dCmpT, dCmp, dU, dB, dAndV, dOrV, dNotV, dAnd, dOr, dNot, dIf, dTup, dLst, dChain, dChainT, dTest, dIsi, dAsg, dDrop, dIfS, gN, gT, gs0, gs1, dAug, dNext, dRaise, dCall, dYes, topE, List.getElem?_cons_succ, List.getElem?_cons_zero, List.set_cons_zero, List.set_cons_succ, Option.some.injEq, S.val.injEq, exists_eq_left', exists_eq_left, exists_and_left, and_assoc, List.cons.injEq, and_true, true_and, PyData.int.injEq, PyData.bool.injEq, PyData.tuple.injEq, PyData.list.injEq, absD_i, maxD_i, addD_i, subD_i, negD_i, iaddD_i, mulD_e, fdivD_e, ifdivD_e, modD_e, leD_i, ltD_i, gtD_i, geD_i, lenD_t, lenD_l, isNd_n, notNd_n, isBd_b, notBd_b, isNonD_i, isNonD_n, isNonD_t, isNonD_l, eqD_int, neD_int, eqD_bool, neD_bool, eqD_fr, neD_fr, ix_fr0, ix_fr1, kit_int, kit_bool, kit_str, kit_tuple, decide_eq_true_eq, Bool.not_eq_true', decide_eq_false_iff_not, line_nil, line1, line2, if_true, if_false, c_check_whole_e]
    refine ⟨k1, k2, ?_⟩
    cases h3 : isIntB v (-101 * powT k) (101 * powT k) with
    | false => rw [h3, chk_f] at hq; simpa using hq
    | true =>
      rw [h3, chk_t] at hq
      simp only [if_true]
      obtain ⟨u, rfl, u1, u2⟩ := isIntB_inv h3
      exact c_written_ok ⟨k1, k2⟩ (by omega) (hq _ rfl)
theorem c_format_decimal_ok {u k : Int} {q : Res → Prop} (k0 : 0 ≤ k) (k6 : k ≤ 6) (u1 : -101 * powT k ≤ u) (u2 : u ≤ 101 * powT k) (h : q (.ok (.str (wrT u k)))) : c_format_decimal [.int u, .int k] q := by
  refine ⟨_, _, rfl, ?_⟩
  have h2 : isIntB (.int k) 0 6 = true := by simp only [isIntB]; exact decide_eq_true ⟨k0, k6⟩
  have h3 : isIntB (.int u) (-101 * powT k) (101 * powT k) = true := by simp only [isIntB]; exact decide_eq_true ⟨u1, u2⟩
  rw [h2, chk_t]
  intro k' e1
  cases e1
  rw [h3, chk_t]
  intro u' e2
  cases e2
  exact h
abbrev s_format_rounded : Stmt := topS 29
theorem sc_format_rounded : FnScope ["value", "digits", "rule"] ["value", "digits", "rule"] (defScope s_format_rounded) := ⟨rfl, rfl, rfl, by decide +kernel, rfl, by decide +kernel, by decide +kernel⟩
def c_format_rounded : Ct := fun ds q => ∃ v d r, ds = [v, d, r] ∧ chk (isFracB v) .frac q (chk (isIntB d 0 6) .num q (chk (isRuleB r) .rul q (∀ p n : Int, v = fr p n → ∀ k : Int, d = .int k → ∀ u : Ru, r = .str (ruS u) → q (.ok (.str (wrT (unitsF p n k u) k))))))
theorem ok_format_rounded (F : Fun K "format_rounded" "format_rounded" s_format_rounded f fd) (F_check_fraction : Fd P w K mg base ca "check_fraction" c_check_fraction 1 3) (F_check_digits : Fd P w K mg base ca "check_digits" c_check_digits 1 2) (F_check_rule : Fd P w K mg base ca "check_rule" c_check_rule 1 1) (F_written : Fd P w K mg base ca "written" c_written 2 2) (F_units_of : Fd P w K mg base ca "units_of" c_units_of 3 2) : FnOk P w K mg base (L2.CX P w) 4 f fd ["value", "digits", "rule"] (spD K ca c_format_rounded 3) := by
  refine fn_ok F sc_format_rounded rfl (fun cdv A outer s H E hr tk po hu hu5 => ?_)
  refine ⟨_, _, pdb_cons (pds_expr (pd_fn F_check_fraction (hr.mono (by decide)) (by rfl) tk (pda_cons (pd_var (pv 0)) pda_nil)))
      (pdb_cons (pds_expr (pd_fn F_check_digits (hr.mono (by decide)) (by rfl) tk (pda_cons (pd_var (pv 1)) pda_nil)))
      (pdb_cons (pds_expr (pd_fn F_check_rule (hr.mono (by decide)) (by rfl) tk (pda_cons (pd_var (pv 2)) pda_nil)))
      (pdb_one (pds_ret (pd_fn F_written (hr.mono (by decide)) (by rfl) tk (pda_cons (pd_fn F_units_of (hr.mono (by decide)) (by rfl) tk (pda_cons (pd_var (pv 0)) (pda_cons (pd_var (pv 1)) (pda_cons (pd_var (pv 2)) pda_nil)))) (pda_cons (pd_var (pv 1)) pda_nil))))))), ?_⟩
  clear hr tk po hu hu5
  intro ds q hl hc
  obtain ⟨v, d, r, rfl, hq⟩ := hc
  rw [show start0 (["value", "digits", "rule"] : List Str) [v, d, r] = [some (.val (v)), some (.val (d)), some (.val (r))] from rfl]
  simp only [dRet, dRetN, dSeq, dPar, dPar3, dCons, dNil, dCaB, dVar, dC, dCmpT, dCmp, dU, dB, dAndV, dOrV, dNotV, dAnd, dOr, dNot, dIf, dTup, dLst, dChain, dChainT, dTest, dIsi, dAsg, dDrop, dIfS, gN, gT, gs0, gs1, dAug, dNext, dRaise, dCall, dYes, topE, List.getElem?_cons_succ, List.getElem?_cons_zero, List.set_cons_zero, List.set_cons_succ, Option.some.injEq, S.val.injEq, exists_eq_left', exists_eq_left, exists_and_left, and_assoc, List.cons.injEq, and_true, true_and, PyData.int.injEq, PyData.bool.injEq, PyData.tuple.injEq, PyData.list.injEq, absD_i, maxD_i, addD_i, subD_i, negD_i, iaddD_i, mulD_e, fdivD_e, ifdivD_e, modD_e, leD_i, ltD_i, gtD_i, geD_i, lenD_t, lenD_l, isNd_n, notNd_n, isBd_b, notBd_b, isNonD_i, isNonD_n, isNonD_t, isNonD_l, eqD_int, neD_int, eqD_bool, neD_bool, eqD_fr, neD_fr, ix_fr0, ix_fr1, kit_int, kit_bool, kit_str, kit_tuple, decide_eq_true_eq, Bool.not_eq_true', decide_eq_false_iff_not, line_nil, line1, line2, if_true, if_false, c_check_fraction_e, c_check_digits_e, c_check_rule_e]
  cases h1 : isFracB v with
  | false => rw [h1, chk_f] at hq; simpa using hq
  | true =>
    rw [h1, chk_t] at hq
    simp only [if_true]
    cases h2 : isIntB d 0 6 with
    | false => rw [h2, chk_f] at hq; simpa using hq
    | true =>
      rw [h2, chk_t] at hq
      simp only [if_true]
      cases h3 : isRuleB r with
      | false => rw [h3, chk_f] at hq; simpa using hq
      | true =>
        rw [h3, chk_t] at hq
        simp only [if_true]
        obtain ⟨vp, vn, rfl, v1, v2, v3, v4, v5⟩ := isFracB_inv h1
        obtain ⟨di, rfl, d1, d2⟩ := isIntB_inv h2
        obtain ⟨ru, rfl⟩ := isRuleB_inv h3
        simp only [dRet, dRetN, dSeq, dPar, dPar3, dCons, dNil, dCaB, dVar, dC, dCmpT, dCmp, dU, dB, dAndV, dOrV, dNotV, dAnd, dOr, dNot, dIf, dTup, dLst, dChain, dChainT, dTest, dIsi, dAsg, dDrop, dIfS, gN, gT, gs0, gs1, dAug, dNext, dRaise, dCall, dYes, topE, List.getElem?_cons_succ, List.getElem?_cons_zero, List.set_cons_zero, List.set_cons_succ, Option.some.injEq, S.val.injEq, exists_eq_left', exists_eq_left, exists_and_left, and_assoc, List.cons.injEq, and_true, true_and, PyData.int.injEq, PyData.bool.injEq, PyData.tuple.injEq, PyData.list.injEq, absD_i, maxD_i, addD_i, subD_i, negD_i, iaddD_i, mulD_e, fdivD_e, ifdivD_e, modD_e, leD_i, ltD_i, gtD_i, geD_i, lenD_t, lenD_l, isNd_n, notNd_n, isBd_b, notBd_b, isNonD_i, isNonD_n, isNonD_t, isNonD_l, eqD_int, neD_int, eqD_bool, neD_bool, eqD_fr, neD_fr, ix_fr0, ix_fr1, kit_int, kit_bool, kit_str, kit_tuple, decide_eq_true_eq, Bool.not_eq_true', decide_eq_false_iff_not, line_nil, line1, line2, if_true, if_false, c_units_of_e]
        have ub := units_bound (p := vp) (n := vn) (d := di) (r := ru) (by omega) (by omega) (by omega)
        have hp := powT_lt d2
        exact ⟨by omega, by omega, d1, d2, c_written_ok ⟨d1, d2⟩ (by omega) (hq _ _ rfl _ rfl _ rfl)⟩
theorem c_format_rounded_ok {p n k : Int} {u : Ru} {q : Res → Prop} (hv : isFracB (fr p n) = true) (hk : isIntB (.int k) 0 6 = true) (h : q (.ok (.str (wrT (unitsF p n k u) k)))) : c_format_rounded [fr p n, .int k, .str (ruS u)] q := by
  refine ⟨_, _, _, rfl, ?_⟩
  rw [hv, hk, isRuleB_ru, chk_t, chk_t, chk_t]
  intro p' n' e k' e2 u' e3
  simp at e e2 e3
  obtain ⟨rfl, rfl⟩ := e
  subst e2
  obtain rfl := ruS_inj _ _ e3
  exact h
abbrev s__law_rules : Stmt := topS 37
theorem sc__law_rules : FnScope [] [] (defScope s__law_rules) := ⟨rfl, rfl, rfl, by decide +kernel, rfl, by decide +kernel, by decide +kernel⟩
def c__law_rules : Ct := fun ds q => ds = [] ∧ q (.ok (.list rulesD))
theorem ok__law_rules (F : Fun K "_law_rules" "_law_rules" s__law_rules f fd)  : FnOk P w K mg base (L2.CX P w) 1 f fd [] (spD K ca c__law_rules 0) := by
  refine fn_ok F sc__law_rules rfl (fun cdv A outer s H E hr tk po hu hu5 => ?_)
  refine ⟨_, _, pdb_one (pds_ret (pd_lst (pda_cons pd_str (pda_cons pd_str (pda_cons pd_str (pda_cons pd_str (pda_cons pd_str (pda_cons pd_str (pda_cons pd_str pda_nil))))))))), ?_⟩
  clear hr tk po hu hu5
  intro ds q hl hc
  obtain ⟨rfl, hq⟩ := hc
  rw [show start0 ([] : List Str) [] = [] from rfl]
  simp only [dRet, dRetN, dSeq, dPar, dPar3, dCons, dNil, dCaB, dVar, dC, dCmpT, dCmp, dU, dB, dAndV, dOrV, dNotV, dAnd, dOr, dNot, dIf, dTup, dLst, dChain, dChainT, dTest, dIsi, dAsg, dDrop, dIfS, gN, gT, gs0, gs1, dAug, dNext, dRaise, dCall, dYes, topE, List.getElem?_cons_succ, List.getElem?_cons_zero, List.set_cons_zero, List.set_cons_succ, Option.some.injEq, S.val.injEq, exists_eq_left', exists_eq_left, exists_and_left, and_assoc, List.cons.injEq, and_true, true_and, PyData.int.injEq, PyData.bool.injEq, PyData.tuple.injEq, PyData.list.injEq, absD_i, maxD_i, addD_i, subD_i, negD_i, iaddD_i, mulD_e, fdivD_e, ifdivD_e, modD_e, leD_i, ltD_i, gtD_i, geD_i, lenD_t, lenD_l, isNd_n, notNd_n, isBd_b, notBd_b, isNonD_i, isNonD_n, isNonD_t, isNonD_l, eqD_int, neD_int, eqD_bool, neD_bool, eqD_fr, neD_fr, ix_fr0, ix_fr1, kit_int, kit_bool, kit_str, kit_tuple, decide_eq_true_eq, Bool.not_eq_true', decide_eq_false_iff_not, line_nil, line1, line2, if_true, if_false, List.length_cons, List.length_nil, sizeLine_eq, Nat.reduceAdd, Nat.reduceLeDiff, Nat.zero_add]
  exact hq
theorem c__law_rules_e (q : Res → Prop) : c__law_rules [] q ↔ q (.ok (.list rulesD)) := ⟨fun h => h.2, fun h => ⟨rfl, h⟩⟩
abbrev s__law_ten : Stmt := topS 38
theorem sc__law_ten : FnScope ["digits"] ["digits"] (defScope s__law_ten) := ⟨rfl, rfl, rfl, by decide +kernel, rfl, by decide +kernel, by decide +kernel⟩
def c__law_ten : Ct := fun ds q => ∃ d : Int, ds = [.int d] ∧ (0 ≤ d ∧ d ≤ 60) ∧ q (.ok (.int (powT d)))
theorem ten_all : ((List.range 61).all fun d => PySem.intText? (("1" : Str) ++ repS d "0") == some ((10 : Int) ^ d) && decide ((("1" : Str) ++ repS d "0").length ≤ 640)) = true := by decide +kernel
theorem ten_txt (d : Int) (h0 : 0 ≤ d) (h1 : d ≤ 60) : intSD [.str (("1" : Str) ++ repS d.toNat "0")] = some (.int (powT d)) := by
  have h := List.all_eq_true.mp ten_all d.toNat (List.mem_range.mpr (by omega))
  rw [Bool.and_eq_true] at h
  have h2 := beq_iff_eq.mp h.1
  show (if _ then _ else _) = _
  rw [if_pos (of_decide_eq_true h.2), h2]
  rfl
theorem ok__law_ten (F : Fun K "_law_ten" "_law_ten" s__law_ten f fd) (m_int : mg "int" = none) : FnOk P w K mg base (L2.CX P w) 1 f fd ["digits"] (spD K ca c__law_ten 1) := by
  refine fn_ok F sc__law_ten rfl (fun cdv A outer s H E hr tk po hu hu5 => ?_)
  refine ⟨_, _, pdb_one (pds_ret (pd_callTy call_int_str cd_intS (by rfl) m_int boot_int (pda_cons (pd_op (op_add.or (op_add_str.or op_cat)) od_add pd_str (pd_op op_mulS od_mulS pd_str (pd_var (pv 0)))) pda_nil))), ?_⟩
  clear hr tk po hu hu5
  intro ds q hl hc
  obtain ⟨d, rfl, hd, hq⟩ := hc
  rw [show start0 (["digits"] : List Str) [.int d] = [some (.val (.int d))] from rfl]
  simp only [dRet, dRetN, dSeq, dPar, dPar3, dCons, dNil, dCaB, dVar, dC, dCmpT, dCmp, dU, dB, dAndV, dOrV, dNotV, dAnd, dOr, dNot, dIf, dTup, dLst, dChain, dChainT, dTest, dIsi, dAsg, dDrop, dIfS, gN, gT, gs0, gs1, dAug, dNext, dRaise, dCall, dYes, topE, List.getElem?_cons_succ, List.getElem?_cons_zero, List.set_cons_zero, List.set_cons_succ, Option.some.injEq, S.val.injEq, exists_eq_left', exists_eq_left, exists_and_left, and_assoc, List.cons.injEq, and_true, true_and, PyData.int.injEq, PyData.bool.injEq, PyData.tuple.injEq, PyData.list.injEq, absD_i, maxD_i, addD_i, subD_i, negD_i, iaddD_i, mulD_e, fdivD_e, ifdivD_e, modD_e, leD_i, ltD_i, gtD_i, geD_i, lenD_t, lenD_l, isNd_n, notNd_n, isBd_b, notBd_b, isNonD_i, isNonD_n, isNonD_t, isNonD_l, eqD_int, neD_int, eqD_bool, neD_bool, eqD_fr, neD_fr, ix_fr0, ix_fr1, kit_int, kit_bool, kit_str, kit_tuple, decide_eq_true_eq, Bool.not_eq_true', decide_eq_false_iff_not, line_nil, line1, line2, if_true, if_false, mulSD_e, addD_e]
  refine ⟨by decide, by decide, hd.1, by omega, ?_, _, ten_txt d hd.1 hd.2, hq⟩
  have e1 : (Str.length ("1" : Str)) = 1 := by decide
  have e0 : (Str.length ("0" : Str)) = 1 := by decide
  rw [repS_len, sizeLine_eq, e1, e0]
  omega
theorem c__law_ten_e (d : Int) (q : Res → Prop) : c__law_ten [.int d] q ↔ (0 ≤ d ∧ d ≤ 60) ∧ q (.ok (.int (powT d))) :=
  ⟨fun ⟨_, e, h⟩ => by cases e; exact h, fun h => ⟨_, rfl, h⟩⟩
abbrev s__law_written : Stmt := topS 39
theorem sc__law_written : FnScope ["kind", "thing", "units", "digits", "text", "whole"] ["kind", "thing"] (defScope s__law_written) := ⟨rfl, rfl, rfl, by decide +kernel, rfl, by decide +kernel, by decide +kernel⟩
def c__law_written : Ct := fun ds q => ∃ (z : Int) (v : PyData), ds = [.int z, v] ∧ ((z = 1 ∧ ∃ p n : Int, v = fr p n ∧ isFracB (fr p n) = true ∧ q (.ok (.str (SX.S (frL p n))))) ∨ (z = 0 ∧ ∃ (u : Int) (m : Nat), v = fr u m ∧ m ≤ 6 ∧ u.natAbs ≤ 101 * 10 ^ m ∧ q (.ok (.str (SX.S (wrL u m))))))
theorem ok__law_written (F : Fun K "_law_written" "_law_written" s__law_written f fd) (F__law_ten : Fd P w K mg base ca "_law_ten" c__law_ten 1 1) (m_abs : mg "abs" = none) (m_len : mg "len" = none) (m_str : mg "str" = none) : FnOk P w K mg base (L2.CX P w) 2 f fd ["kind", "thing"] (spD K ca c__law_written 2) := by
  refine fn_ok F sc__law_written rfl (fun cdv A outer s H E hr tk po hu hu5 => ?_)
  refine ⟨_, _, pdb_cons (pds_if (pdt_cmp (r := rEqD K) (op_eqD hu) cm_eq (pd_var (pv 0)) (PD.pv pd_int) (nomark _)) (pdb_one (pds_ret (pd_op (op_add.or (op_add_str.or op_cat)) od_add (pd_callTy call_str_int cd_strI (by rfl) m_str boot_str (pda_cons (pd_ix (r := rIx K) ix_seq od_ix (pd_var (pv 1)) pd_int (fun _ _ => rfl)) pda_nil)) (pd_if (pdt_cmp (r := rEqD K) (op_eqD hu) cm_eq (pd_ix (r := rIx K) ix_seq od_ix (pd_var (pv 1)) pd_int (fun _ _ => rfl)) (PD.pv pd_int) (nomark _)) pd_str (pd_op (op_add.or (op_add_str.or op_cat)) od_add pd_str (pd_callTy call_str_int cd_strI (by rfl) m_str boot_str (pda_cons (pd_ix (r := rIx K) ix_seq od_ix (pd_var (pv 1)) pd_int (fun _ _ => rfl)) pda_nil))))))) (pdb_nil))
      (pdb_cons (pds_asg (pd_var (pv 1)) (pdg_tup (n := 2) rfl (pdgs_cons (pdg_name (pg_name (i := 2) sc__law_written.nd rfl (.inl rfl))) (pdgs_cons (pdg_name (pg_name (i := 3) sc__law_written.nd rfl (.inl rfl))) pdgs_nil))))
      (pdb_cons (pds_set (pd_op (op_add.or (op_add_str.or op_cat)) od_add (pd_op op_mulS od_mulS pd_str pd_int) (pd_callTy call_str_int cd_strI (by rfl) m_str boot_str (pda_cons (pd_callB call_abs cd_abs (by rfl) m_abs boot_abs (pda_cons (pd_var (pv 2)) pda_nil)) pda_nil))) (fun h => ps_set (i := 4) sc__law_written.nd rfl (.inl rfl) h))
      (pdb_cons (pds_set (pd_callTy call_str_int cd_strI (by rfl) m_str boot_str (pda_cons (pd_op op_fdivW od_fdiv (pd_callB call_abs cd_abs (by rfl) m_abs boot_abs (pda_cons (pd_var (pv 2)) pda_nil)) (pd_fn F__law_ten (hr.mono (by decide)) (by rfl) tk (pda_cons (pd_var (pv 3)) pda_nil))) pda_nil)) (fun h => ps_set (i := 5) sc__law_written.nd rfl (.inl rfl) h))
      (pdb_one (pds_ret (pd_op (op_add.or (op_add_str.or op_cat)) od_add (pd_op (op_add.or (op_add_str.or op_cat)) od_add (pd_if (pdt_cmp op_lt cm_lt (pd_var (pv 2)) (PD.pv pd_int) (nomark _)) pd_str pd_str) (pd_var (pv 5))) (pd_if (pdt_cmp op_gt cm_gt (pd_var (pv 3)) (PD.pv pd_int) (nomark _)) (pd_op (op_add.or (op_add_str.or op_cat)) od_add pd_str (pd_slS (pd_var (pv 4)) (pdo_some (pd_op op_sub od_sub (pd_callB (r := rLenA K) call_lenA cd_len (by rfl) m_len boot_len (pda_cons (pd_var (pv 4)) pda_nil)) (pd_var (pv 3)))) pdo_none)) pd_str))))))), ?_⟩
  clear hr tk po hu hu5
  intro ds q hl hc
  obtain ⟨z, v, rfl, hq⟩ := hc
  rcases hq with ⟨rfl, p, n, rfl, hv, hq⟩ | ⟨rfl, u, m, rfl, hm, hu, hq⟩
  · rw [show start0 (["kind", "thing", "units", "digits", "text", "whole"] : List Str) [.int 1, fr p n] = [some (.val (.int 1)), some (.val (fr p n)), none, none, none, none] from rfl]
    obtain ⟨_, _, hvE, v1, v2, v3, v4, v5⟩ := isFracB_inv hv
    simp at hvE
    obtain ⟨rfl, rfl⟩ := hvE
    have g1 : p.natAbs.log2 < 1920 := log_small (Nat.lt_trans (show _ < 2 ^ 64 by omega) (by decide))
    have g2 : n.natAbs.log2 < 1920 := log_small (Nat.lt_trans (show _ < 2 ^ 64 by omega) (by decide))
    have t1 : strID [.int p] = some (.str (SX.S (sgL p ++ nL p.natAbs))) := by rw [← txt_int]; exact if_pos g1
    have t2 : strID [.int n] = some (.str (SX.S (nL n.natAbs))) := by
      have e : (n.natAbs : Int) = n := by omega
      have := txt_nat n.natAbs
      rw [e] at this
      rw [← this]
      exact if_pos g2
    have fl := fr_len hv
    unfold frL at hq fl
    refine seq_mk fun k hk => ?_
    simp only [dRet, dRetN, dSeq, dPar, dPar3, dCons, dNil, dCaB, dVar, dC, dCmpT, dCmp, dU, dB, dAndV, dOrV, dNotV, dAnd, dOr, dNot, dIf, dTup, dLst, dChain, dChainT, dTest, dIsi, dAsg, dDrop, dIfS, gN, gT, gs0, gs1, dAug, dNext, dRaise, dCall, dYes, topE, List.getElem?_cons_succ, List.getElem?_cons_zero, List.set_cons_zero, List.set_cons_succ, Option.some.injEq, S.val.injEq, exists_eq_left', exists_eq_left, exists_and_left, and_assoc, List.cons.injEq, and_true, true_and, PyData.int.injEq, PyData.bool.injEq, PyData.tuple.injEq, PyData.list.injEq, absD_i, maxD_i, addD_i, subD_i, negD_i, iaddD_i, mulD_e, fdivD_e, ifdivD_e, modD_e, leD_i, ltD_i, gtD_i, geD_i, lenD_t, lenD_l, isNd_n, notNd_n, isBd_b, notBd_b, isNonD_i, isNonD_n, isNonD_t, isNonD_l, eqD_int, neD_int, eqD_bool, neD_bool, eqD_fr, neD_fr, ix_fr0, ix_fr1, kit_int, kit_bool, kit_str, kit_tuple, decide_eq_true_eq, Bool.not_eq_true', decide_eq_false_iff_not, line_nil, line1, line2, if_true, if_false, t1, t2, lit_empty, lit_slash, addD_e]
    rw [SX.S_cat, SX.S_cat, SX.S_cat]
    simp only [SX.S_len]
    by_cases c : n = 1
    · rw [if_pos c] at hq fl ⊢
      rw [List.append_nil] at hq fl ⊢
      exact ⟨by rw [List.length_nil, sizeLine_eq]; omega, hq⟩
    · rw [if_neg c] at hq fl ⊢
      rw [List.length_append, List.length_append, List.length_cons] at fl
      have e : sgL p ++ nL p.natAbs ++ ([47] ++ nL n.natAbs) = sgL p ++ (nL p.natAbs ++ 47 :: nL n.natAbs) := by simp
      rw [e]
      exact ⟨by rw [List.length_cons, List.length_nil, sizeLine_eq]; omega, by rw [List.length_append, List.length_append, List.length_cons, List.length_nil, sizeLine_eq]; omega, hq⟩
  · rw [show start0 (["kind", "thing", "units", "digits", "text", "whole"] : List Str) [.int 0, fr u m] = [some (.val (.int 0)), some (.val (fr u m)), none, none, none, none] from rfl]
    have hp : 0 < 10 ^ m := Nat.pow_pos (by decide)
    have hP := powT_lt (d := (m : Int)) (by omega)
    have pm := pow_nat m
    have eq : (u.natAbs : Int) / powT (m : Int) = ((u.natAbs / 10 ^ m : Nat) : Int) := by rw [pow_nat]; exact (Int.natCast_ediv _ _).symm
    have u9 : u.natAbs < 10 ^ 9 := by
      have : 101 * 10 ^ m ≤ 101 * 10 ^ 6 := Nat.mul_le_mul_left _ (Nat.pow_le_pow_right (by decide) hm)
      omega
    have hq1 : u.natAbs / 10 ^ m ≤ 101 := Nat.div_le_of_le_mul (by rw [Nat.mul_comm]; exact hu)
    have l9 := nL_len (n := u.natAbs) (k := 9) (by decide) u9
    have lq := nL_len (n := u.natAbs / 10 ^ m) (k := 3) (by decide) (by omega)
    have g1 : ((u.natAbs : Int)).natAbs.log2 < 1920 := log_small (Nat.lt_trans (show _ < 2 ^ 64 by omega) (by decide))
    have g2 : (((u.natAbs / 10 ^ m : Nat) : Int)).natAbs.log2 < 1920 := log_small (Nat.lt_trans (show _ < 2 ^ 64 by rw [Int.natAbs_natCast]; omega) (by decide))
    have t1 : strID [.int (u.natAbs : Int)] = some (.str (SX.S (nL u.natAbs))) := by rw [← txt_nat]; exact if_pos g1
    have t2 : strID [.int ((u.natAbs / 10 ^ m : Nat) : Int)] = some (.str (SX.S (nL (u.natAbs / 10 ^ m)))) := by rw [← txt_nat]; exact if_pos g2
    have lx : ((List.replicate 9 48 ++ nL u.natAbs)).length = 9 + (nL u.natAbs).length := by rw [List.length_append, List.length_replicate]
    refine seq_mk fun k hk => ?_
    simp only [dRet, dRetN, dSeq, dPar, dPar3, dCons, dNil, dCaB, dVar, dC, dCmpT, dCmp, dU, dB, dAndV, dOrV, dNotV, dAnd, dOr, dNot, dIf, dTup, dLst, dChain, dChainT, dTest, dIsi, dAsg, dDrop, dIfS, gN, gT, gs0, gs1, dAug, dNext, dRaise, dCall, dYes, topE, List.getElem?_cons_succ, List.getElem?_cons_zero, List.set_cons_zero, List.set_cons_succ, Option.some.injEq, S.val.injEq, exists_eq_left', exists_eq_left, exists_and_left, and_assoc, List.cons.injEq, and_true, true_and, PyData.int.injEq, PyData.bool.injEq, PyData.tuple.injEq, PyData.list.injEq, absD_i, maxD_i, addD_i, subD_i, negD_i, iaddD_i, mulD_e, fdivD_e, ifdivD_e, modD_e, leD_i, ltD_i, gtD_i, geD_i, lenD_t, lenD_l, isNd_n, notNd_n, isBd_b, notBd_b, isNonD_i, isNonD_n, isNonD_t, isNonD_l, eqD_int, neD_int, eqD_bool, neD_bool, eqD_fr, neD_fr, ix_fr0, ix_fr1, kit_int, kit_bool, kit_str, kit_tuple, decide_eq_true_eq, Bool.not_eq_true', decide_eq_false_iff_not, line_nil, line1, line2, if_true, if_false]
    rw [if_neg (by decide)]
    refine hk [some (.val (.int 0)), some (.val (fr u m)), none, none, none, none] ?_
    clear hk k
    refine seq_mk fun k hk => ?_
    simp only [dRet, dRetN, dSeq, dPar, dPar3, dCons, dNil, dCaB, dVar, dC, dCmpT, dCmp, dU, dB, dAndV, dOrV, dNotV, dAnd, dOr, dNot, dIf, dTup, dLst, dChain, dChainT, dTest, dIsi, dAsg, dDrop, dIfS, gN, gT, gs0, gs1, dAug, dNext, dRaise, dCall, dYes, topE, List.getElem?_cons_succ, List.getElem?_cons_zero, List.set_cons_zero, List.set_cons_succ, Option.some.injEq, S.val.injEq, exists_eq_left', exists_eq_left, exists_and_left, and_assoc, List.cons.injEq, and_true, true_and, PyData.int.injEq, PyData.bool.injEq, PyData.tuple.injEq, PyData.list.injEq, absD_i, maxD_i, addD_i, subD_i, negD_i, iaddD_i, mulD_e, fdivD_e, ifdivD_e, modD_e, leD_i, ltD_i, gtD_i, geD_i, lenD_t, lenD_l, isNd_n, notNd_n, isBd_b, notBd_b, isNonD_i, isNonD_n, isNonD_t, isNonD_l, eqD_int, neD_int, eqD_bool, neD_bool, eqD_fr, neD_fr, ix_fr0, ix_fr1, kit_int, kit_bool, kit_str, kit_tuple, decide_eq_true_eq, Bool.not_eq_true', decide_eq_false_iff_not, line_nil, line1, line2, if_true, if_false, List.length_cons, List.length_nil, sizeLine_eq, Nat.reduceAdd, Nat.reduceLeDiff, Nat.zero_add]
    refine hk [some (.val (.int 0)), some (.val (fr u m)), some (.val (.int u)), some (.val (.int m)), none, none] ?_
    clear hk k
    refine seq_mk fun k hk => ?_
    simp only [dRet, dRetN, dSeq, dPar, dPar3, dCons, dNil, dCaB, dVar, dC, dCmpT, dCmp, dU, dB, dAndV, dOrV, dNotV, dAnd, dOr, dNot, dIf, dTup, dLst, dChain, dChainT, dTest, dIsi, dAsg, dDrop, dIfS, gN, gT, gs0, gs1, dAug, dNext, dRaise, dCall, dYes, topE, List.getElem?_cons_succ, List.getElem?_cons_zero, List.set_cons_zero, List.set_cons_succ, Option.some.injEq, S.val.injEq, exists_eq_left', exists_eq_left, exists_and_left, and_assoc, List.cons.injEq, and_true, true_and, PyData.int.injEq, PyData.bool.injEq, PyData.tuple.injEq, PyData.list.injEq, absD_i, maxD_i, addD_i, subD_i, negD_i, iaddD_i, mulD_e, fdivD_e, ifdivD_e, modD_e, leD_i, ltD_i, gtD_i, geD_i, lenD_t, lenD_l, isNd_n, notNd_n, isBd_b, notBd_b, isNonD_i, isNonD_n, isNonD_t, isNonD_l, eqD_int, neD_int, eqD_bool, neD_bool, eqD_fr, neD_fr, ix_fr0, ix_fr1, kit_int, kit_bool, kit_str, kit_tuple, decide_eq_true_eq, Bool.not_eq_true', decide_eq_false_iff_not, line_nil, line1, line2, if_true, if_false, mulSD_e, addD_e, t1, lit_zero]
    rw [rep_S, SX.S_cat]
    refine ⟨by rw [SX.S_len]; decide, by rw [SX.S_len]; decide, by decide, by decide, by rw [SX.S_len, SX.S_len, List.length_replicate, sizeLine_eq]; show 9 + _ ≤ _; omega, ?_⟩
    refine hk [some (.val (.int 0)), some (.val (fr u m)), some (.val (.int u)), some (.val (.int m)), some (.val (.str (SX.S (List.replicate 9 48 ++ nL u.natAbs)))), none] ?_
    clear hk k
    refine seq_mk fun k hk => ?_
    simp only [dRet, dRetN, dSeq, dPar, dPar3, dCons, dNil, dCaB, dVar, dC, dCmpT, dCmp, dU, dB, dAndV, dOrV, dNotV, dAnd, dOr, dNot, dIf, dTup, dLst, dChain, dChainT, dTest, dIsi, dAsg, dDrop, dIfS, gN, gT, gs0, gs1, dAug, dNext, dRaise, dCall, dYes, topE, List.getElem?_cons_succ, List.getElem?_cons_zero, List.set_cons_zero, List.set_cons_succ, Option.some.injEq, S.val.injEq, exists_eq_left', exists_eq_left, exists_and_left, and_assoc, List.cons.injEq, and_true, true_and, PyData.int.injEq, PyData.bool.injEq, PyData.tuple.injEq, PyData.list.injEq, absD_i, maxD_i, addD_i, subD_i, negD_i, iaddD_i, mulD_e, fdivD_e, ifdivD_e, modD_e, leD_i, ltD_i, gtD_i, geD_i, lenD_t, lenD_l, isNd_n, notNd_n, isBd_b, notBd_b, isNonD_i, isNonD_n, isNonD_t, isNonD_l, eqD_int, neD_int, eqD_bool, neD_bool, eqD_fr, neD_fr, ix_fr0, ix_fr1, kit_int, kit_bool, kit_str, kit_tuple, decide_eq_true_eq, Bool.not_eq_true', decide_eq_false_iff_not, line_nil, line1, line2, if_true, if_false, c__law_ten_e]
    refine ⟨by omega, by omega, hP.1, by omega, ?_⟩
    rw [eq]
    refine ⟨_, t2, ?_⟩
    refine hk [some (.val (.int 0)), some (.val (fr u m)), some (.val (.int u)), some (.val (.int m)), some (.val (.str (SX.S (List.replicate 9 48 ++ nL u.natAbs)))), some (.val (.str (SX.S (nL (u.natAbs / 10 ^ m)))))] ?_
    clear hk k
    have tz := len_S (List.replicate 9 48 ++ nL u.natAbs) (by omega)
    have ls : (sgL u).length ≤ 1 := by unfold sgL; split <;> decide
    have key : ∀ s : List Nat, s = sgL u → (if (0 : Int) < m then (SX.S (List.replicate 9 48 ++ nL u.natAbs)).length ≤ sizeLine ∧ (SX.S [46]).length + (Txt.slice (SX.S (List.replicate 9 48 ++ nL u.natAbs)) (some ((((List.replicate 9 48 ++ nL u.natAbs)).length : Nat) - (m : Int))) none).length ≤ sizeLine ∧ (SX.S s ++ SX.S (nL (u.natAbs / 10 ^ m))).length + (SX.S [46] ++ Txt.slice (SX.S (List.replicate 9 48 ++ nL u.natAbs)) (some ((((List.replicate 9 48 ++ nL u.natAbs)).length : Nat) - (m : Int))) none).length ≤ sizeLine ∧ q (.ok (.str (SX.S s ++ SX.S (nL (u.natAbs / 10 ^ m)) ++ (SX.S [46] ++ Txt.slice (SX.S (List.replicate 9 48 ++ nL u.natAbs)) (some ((((List.replicate 9 48 ++ nL u.natAbs)).length : Nat) - (m : Int))) none))))
        else (SX.S s ++ SX.S (nL (u.natAbs / 10 ^ m))).length + (SX.S []).length ≤ sizeLine ∧ q (.ok (.str (SX.S s ++ SX.S (nL (u.natAbs / 10 ^ m)) ++ SX.S [])))) := fun s hs => by
      subst hs
      have hz := sizeLine_eq
      unfold wrL at hq
      by_cases c : m = 0
      · rw [if_neg (by omega)]
        rw [if_pos c] at hq
        rw [SX.S_cat, SX.S_cat, SX.S_len, SX.S_len, List.length_append, List.append_assoc]
        exact ⟨by rw [List.length_nil]; omega, hq⟩
      · rw [if_pos (by omega)]
        rw [if_neg c] at hq
        have hd : 0 ≤ (((((List.replicate 9 48 ++ nL u.natAbs)).length : Nat) : Int) - (m : Int)) := by omega
        have hn : (((((List.replicate 9 48 ++ nL u.natAbs)).length : Nat) : Int) - (m : Int)).toNat = ((List.replicate 9 48 ++ nL u.natAbs)).length - m := by omega
        have lp := last_pad (a := (List.replicate 9 48 ++ nL u.natAbs)) (d := m) (ad_app (ad_rep 9) (nL_ad _)) (by omega) (by omega)
        rw [dV_app, dV_rep, nL_val, Nat.zero_mul, Nat.zero_add] at lp
        rw [sl_fromN _ hd, hn, lp, SX.S_cat, SX.S_cat, SX.S_cat, SX.S_len, SX.S_len, SX.S_len, SX.S_len, SX.S_len]
        have pl := pad_len (d := m) (r := u.natAbs % 10 ^ m) (by omega) (Nat.mod_lt _ hp)
        refine ⟨by omega, by simp [pl]; omega, by simp [pl]; omega, ?_⟩
        rw [show sgL u ++ nL (u.natAbs / 10 ^ m) ++ ([46] ++ padL m (u.natAbs % 10 ^ m)) = sgL u ++ (nL (u.natAbs / 10 ^ m) ++ 46 :: padL m (u.natAbs % 10 ^ m)) by simp]
        exact hq
    simp only [dRet, dRetN, dSeq, dPar, dPar3, dCons, dNil, dCaB, dVar, dC, dCmpT, dCmp, dU, dB, dAndV, dOrV, dNotV, dAnd, dOr, dNot, dIf, dTup, dLst, dChain, dChainT, dTest, dIsi, dAsg, dDrop, dIfS, gN, gT, gs0, gs1, dAug, dNext, dRaise, dCall, dYes, topE, List.getElem?_cons_succ, List.getElem?_cons_zero, List.set_cons_zero, List.set_cons_succ, Option.some.injEq, S.val.injEq, exists_eq_left', exists_eq_left, exists_and_left, and_assoc, List.cons.injEq, and_true, true_and, PyData.int.injEq, PyData.bool.injEq, PyData.tuple.injEq, PyData.list.injEq, absD_i, maxD_i, addD_i, subD_i, negD_i, iaddD_i, mulD_e, fdivD_e, ifdivD_e, modD_e, leD_i, ltD_i, gtD_i, geD_i, lenD_t, lenD_l, isNd_n, notNd_n, isBd_b, notBd_b, isNonD_i, isNonD_n, isNonD_t, isNonD_l, eqD_int, neD_int, eqD_bool, neD_bool, eqD_fr, neD_fr, ix_fr0, ix_fr1, kit_int, kit_bool, kit_str, kit_tuple, decide_eq_true_eq, Bool.not_eq_true', decide_eq_false_iff_not, line_nil, line1, line2, if_true, if_false, dSlS, dO0, dO1, PyData.str.injEq, tz, lit_minus, lit_point, lit_empty, addD_e]
    unfold sgL at key
    by_cases c : u < 0
    · rw [if_pos c] at key ⊢
      exact ⟨by rw [SX.S_len, SX.S_len, sizeLine_eq]; simp; omega, key _ rfl⟩
    · rw [if_neg c] at key ⊢
      exact ⟨by rw [SX.S_len, SX.S_len, sizeLine_eq]; simp; omega, key _ rfl⟩
theorem c__law_written_1 {p n : Int} {q : Res → Prop} (hv : isFracB (fr p n) = true) (h : q (.ok (.str (SX.S (frL p n))))) : c__law_written [.int 1, fr p n] q := ⟨_, _, rfl, .inl ⟨rfl, _, _, rfl, hv, h⟩⟩
theorem c__law_written_0 {u : Int} {m : Nat} {q : Res → Prop} (hm : m ≤ 6) (hu : u.natAbs ≤ 101 * 10 ^ m) (h : q (.ok (.str (SX.S (wrL u m))))) : c__law_written [.int 0, fr u m] q := ⟨_, _, rfl, .inr ⟨rfl, _, _, rfl, hm, hu, h⟩⟩
abbrev s_law : Stmt := topS 42
theorem sc_law : FnScope ["script", "draws", "value", "digits", "rule", "units", "texts", "things", "kind", "turn", "own", "at", "mark", "other", "found"] ["script"] (defScope s_law) := ⟨rfl, rfl, rfl, by decide +kernel, rfl, by decide +kernel, by decide +kernel⟩
theorem ne_text (a b : Int) : neD (fr a b) (.str "text") = some true := by
  unfold neD
  rw [if_pos ⟨shaped_fr _ _, by decide +kernel⟩]
  rfl
def markL : List PyData := [.str "0", .str "1", .str "9", .str ".", .str "-", .str "/", .str " ", .str "x", .str ""]
theorem marks_all : markL.all (fun v => match v with | .str x => okL x.cps.toList && decide (x.cps.toList.length ≤ 1) | _ => false) = true := by decide +kernel
theorem marks_of {w : PyData} (h : w ∈ markL) : ∃ mk : List Nat, w = .str (SX.S mk) ∧ okL mk = true ∧ mk.length ≤ 1 := by
  have := List.all_eq_true.mp marks_all w h
  cases w with
  | str x =>
    have hx : (okL x.cps.toList && decide (x.cps.toList.length ≤ 1)) = true := this
    rw [Bool.and_eq_true] at hx
    exact ⟨x.cps.toList, by rw [SX.S_tl], hx.1, of_decide_eq_true hx.2⟩
  | _ => exact absurd this Bool.false_ne_true
theorem ok_law (F : Fun K "law" "law" s_law f fd) (F__law_start : FdS P w K mg base "_law_start" 1) (F_rounded : Fd P w K mg base ca "rounded" c_rounded 3 4) (F__law_rejected : Fd P w K mg base ca "_law_rejected" c__law_rejected 0 7) (F__law_fraction : FdW P w K mg base ca "_law_fraction" c__law_fraction 0 3) (F__law_draw : FdW P w K mg base ca "_law_draw" c__law_draw 1 1) (F__law_pick : FdW P w K mg base ca "_law_pick" c__law_pick 1 2) (F_format_decimal : Fd P w K mg base ca "format_decimal" c_format_decimal 2 3) (F_format_fraction : Fd P w K mg base ca "format_fraction" c_format_fraction 1 4) (F_format_rounded : Fd P w K mg base ca "format_rounded" c_format_rounded 3 4) (F__law_rules : Fd P w K mg base ca "_law_rules" c__law_rules 0 1) (F__law_parsed : Fd P w K mg base ca "_law_parsed" c__law_parsed 2 6) (F__law_written : Fd P w K mg base ca "_law_written" c__law_written 2 2) (m_len : mg "len" = none) (m_range : mg "range" = none) : FnOk P w K mg base (L2.CX P w) 8 f fd ["script"] (spL K) := by
  refine fn_okL (ca := ca) F sc_law rfl (fun cdv A outer s H E hr tk po hu hu5 => ?_)
  refine ⟨_, _, pdb_cons (pds_start F__law_start (hr.mono (by decide)) (by rfl) tk (pv 0) (fun h => ps_set (i := 1) sc_law.nd rfl (.inl rfl) h))
      (pdb_cons (pds_par3 (pda_cons (pd_fnW F__law_fraction (hr.mono (by decide)) (by rfl) tk (pv 1) pda_nil) (pda_cons (pd_fnW F__law_draw (hr.mono (by decide)) (by rfl) tk (pv 1) (pda_cons pd_int pda_nil)) (pda_cons (pd_fnW F__law_pick (hr.mono (by decide)) (by rfl) tk (pv 1) (pda_cons (pd_fn0 F__law_rules (hr.mono (by decide)) (by rfl) tk) pda_nil)) pda_nil))) (fun h => ps_par3 (i := 2) (j := 3) (l := 4) rfl sc_law.nd rfl rfl rfl (by decide) (by decide) (by decide) rfl rfl rfl h (by rfl)))
      (pdb_cons (pds_set (pd_fn F_rounded (hr.mono (by decide)) (by rfl) tk (pda_cons (pd_var (pv 2)) (pda_cons (pd_var (pv 3)) (pda_cons (pd_var (pv 4)) pda_nil)))) (fun h => ps_set (i := 5) sc_law.nd rfl (.inl rfl) h))
      (pdb_cons (pds_set (pd_lst (pda_cons (pd_fn F_format_decimal (hr.mono (by decide)) (by rfl) tk (pda_cons (pd_var (pv 5)) (pda_cons (pd_var (pv 3)) pda_nil))) (pda_cons (pd_fn F_format_fraction (hr.mono (by decide)) (by rfl) tk (pda_cons (pd_var (pv 2)) pda_nil)) pda_nil))) (fun h => ps_set (i := 6) sc_law.nd rfl (.inl rfl) h))
      (pdb_cons (pds_set (pd_lst (pda_cons (pd_tup (pda_cons (pd_var (pv 5)) (pda_cons (pd_var (pv 3)) pda_nil))) (pda_cons (pd_var (pv 2)) pda_nil))) (fun h => ps_set (i := 7) sc_law.nd rfl (.inl rfl) h))
      (pdb_cons (pds_if (pdt_cmp (r := rNeD K) (op_neD hu) cm_ne (pd_fn F_format_rounded (hr.mono (by decide)) (by rfl) tk (pda_cons (pd_var (pv 2)) (pda_cons (pd_var (pv 3)) (pda_cons (pd_var (pv 4)) pda_nil)))) (PD.pv (pd_ix (r := rIx K) ix_seq od_ix (pd_var (pv 6)) pd_int (fun _ _ => rfl))) (nomark _)) (pdb_one (pds_ret pd_bl)) (pdb_nil))
      (pdb_cons (pds_for po rfl (pdi_list (K := K) (pd_lst (pda_cons pd_int (pda_cons pd_int pda_nil)))) (pdg_name (pg_name (i := 8) sc_law.nd rfl (.inl rfl))) (pdb_cons (pds_if (PDW.pt (pdw_or (pdt_cmp (r := rNeD K) (op_neD hu) cm_ne (pd_ix (r := rIx K) ix_seq od_ix (pd_var (pv 6)) (pd_var (pv 8)) (fun _ _ => rfl)) (PD.pv (pd_fn F__law_written (hr.mono (by decide)) (by rfl) tk (pda_cons (pd_var (pv 8)) (pda_cons (pd_ix (r := rIx K) ix_seq od_ix (pd_var (pv 7)) (pd_var (pv 8)) (fun _ _ => rfl)) pda_nil)))) (nomark _)) (pdw_or1 (pdt_cmp (r := rNeD K) (op_neD hu) cm_ne (pd_fn F__law_parsed (hr.mono (by decide)) (by rfl) tk (pda_cons (pd_var (pv 8)) (pda_cons (pd_ix (r := rIx K) ix_seq od_ix (pd_var (pv 6)) (pd_var (pv 8)) (fun _ _ => rfl)) pda_nil))) (PD.pv (pd_ix (r := rIx K) ix_seq od_ix (pd_var (pv 7)) (pd_var (pv 8)) (fun _ _ => rfl))) (nomark _))))) (pdb_one (pds_ret pd_bl)) (pdb_nil))
        (pdb_one (pds_for po rfl (pdi_range1 rfl m_range (pda_cons pd_int pda_nil)) (pdg_name (pg_name (i := 9) sc_law.nd rfl (.inl rfl))) (pdb_cons (pds_set (pd_ix (r := rIx K) ix_seq od_ix (pd_var (pv 6)) (pd_var (pv 8)) (fun _ _ => rfl)) (fun h => ps_set (i := 10) sc_law.nd rfl (.inl rfl) h))
          (pdb_cons (pds_set (pd_fnW F__law_draw (hr.mono (by decide)) (by rfl) tk (pv 1) (pda_cons (pd_op (op_add.or (op_add_str.or op_cat)) od_add (pd_callB (r := rLenA K) call_lenA cd_len (by rfl) m_len boot_len (pda_cons (pd_var (pv 10)) pda_nil)) pd_int) pda_nil)) (fun h => ps_set (i := 11) sc_law.nd rfl (.inl rfl) h))
          (pdb_cons (pds_set (pd_fnW F__law_pick (hr.mono (by decide)) (by rfl) tk (pv 1) (pda_cons (pd_lst (pda_cons pd_str (pda_cons pd_str (pda_cons pd_str (pda_cons pd_str (pda_cons pd_str (pda_cons pd_str (pda_cons pd_str (pda_cons pd_str (pda_cons pd_str pda_nil)))))))))) pda_nil)) (fun h => ps_set (i := 12) sc_law.nd rfl (.inl rfl) h))
          (pdb_cons (pds_set (pd_fnW F__law_pick (hr.mono (by decide)) (by rfl) tk (pv 1) (pda_cons (pd_lst (pda_cons (pd_op (op_add.or (op_add_str.or op_cat)) od_add (pd_op (op_add.or (op_add_str.or op_cat)) od_add (pd_slS (pd_var (pv 10)) pdo_none (pdo_some (pd_var (pv 11)))) (pd_var (pv 12))) (pd_slS (pd_var (pv 10)) (pdo_some (pd_op (op_add.or (op_add_str.or op_cat)) od_add (pd_var (pv 11)) pd_int)) pdo_none)) (pda_cons (pd_op (op_add.or (op_add_str.or op_cat)) od_add (pd_op (op_add.or (op_add_str.or op_cat)) od_add (pd_slS (pd_var (pv 10)) pdo_none (pdo_some (pd_var (pv 11)))) (pd_var (pv 12))) (pd_slS (pd_var (pv 10)) (pdo_some (pd_var (pv 11))) pdo_none)) pda_nil))) pda_nil)) (fun h => ps_set (i := 13) sc_law.nd rfl (.inl rfl) h))
          (pdb_cons (pds_set (pd_fn F__law_parsed (hr.mono (by decide)) (by rfl) tk (pda_cons (pd_var (pv 8)) (pda_cons (pd_var (pv 13)) pda_nil))) (fun h => ps_set (i := 14) sc_law.nd rfl (.inl rfl) h))
          (pdb_one (pds_if (PDW.pt (pdw_and (pdt_cmp (r := rNeD K) (op_neD hu) cm_ne (pd_var (pv 14)) (PD.pv pd_str) (nomark _)) (pdw_and1 (pdt_cmp (r := rNeD K) (op_neD hu) cm_ne (pd_var (pv 13)) (PD.pv (pd_fn F__law_written (hr.mono (by decide)) (by rfl) tk (pda_cons (pd_var (pv 8)) (pda_cons (pd_var (pv 14)) pda_nil)))) (nomark _))))) (pdb_one (pds_ret pd_bl)) (pdb_nil))))))))))))
      (pdb_one (pds_ret (pd_fn0 F__law_rejected (hr.mono (by decide)) (by rfl) tk))))))))), ?_⟩
  clear hr tk po hu hu5
  rw [show startL ["script", "draws", "value", "digits", "rule", "units", "texts", "things", "kind", "turn", "own", "at", "mark", "other", "found"] = [some .scr, none, none, none, none, none, none, none, none, none, none, none, none, none, none] from rfl]
  refine seq_mk fun k hk => ?_
  simp only [dRet, dRetN, dSeq, dPar, dPar3, dCons, dNil, dCaB, dVar, dC, dCmpT, dCmp, dU, dB, dAndV, dOrV, dNotV, dAnd, dOr, dNot, dIf, dTup, dLst, dChain, dChainT, dTest, dIsi, dAsg, dDrop, dIfS, gN, gT, gs0, gs1, dAug, dNext, dRaise, dCall, dYes, topE, List.getElem?_cons_succ, List.getElem?_cons_zero, List.set_cons_zero, List.set_cons_succ, Option.some.injEq, S.val.injEq, exists_eq_left', exists_eq_left, exists_and_left, and_assoc, List.cons.injEq, and_true, true_and, PyData.int.injEq, PyData.bool.injEq, PyData.tuple.injEq, PyData.list.injEq, absD_i, maxD_i, addD_i, subD_i, negD_i, iaddD_i, mulD_e, fdivD_e, ifdivD_e, modD_e, leD_i, ltD_i, gtD_i, geD_i, lenD_t, lenD_l, isNd_n, notNd_n, isBd_b, notBd_b, isNonD_i, isNonD_n, isNonD_t, isNonD_l, eqD_int, neD_int, eqD_bool, neD_bool, eqD_fr, neD_fr, ix_fr0, ix_fr1, kit_int, kit_bool, kit_str, kit_tuple, decide_eq_true_eq, Bool.not_eq_true', decide_eq_false_iff_not, line_nil, line1, line2, if_true, if_false, dStart, S.drw.injEq]
  refine fun a b => hk _ ?_
  clear hk k

  refine seq_mk fun k hk => ?_
  simp only [dRet, dRetN, dSeq, dPar, dPar3, dCons, dNil, dCaB, dVar, dC, dCmpT, dCmp, dU, dB, dAndV, dOrV, dNotV, dAnd, dOr, dNot, dIf, dTup, dLst, dChain, dChainT, dTest, dIsi, dAsg, dDrop, dIfS, gN, gT, gs0, gs1, dAug, dNext, dRaise, dCall, dYes, topE, List.getElem?_cons_succ, List.getElem?_cons_zero, List.set_cons_zero, List.set_cons_succ, Option.some.injEq, S.val.injEq, exists_eq_left', exists_eq_left, exists_and_left, and_assoc, List.cons.injEq, and_true, true_and, PyData.int.injEq, PyData.bool.injEq, PyData.tuple.injEq, PyData.list.injEq, absD_i, maxD_i, addD_i, subD_i, negD_i, iaddD_i, mulD_e, fdivD_e, ifdivD_e, modD_e, leD_i, ltD_i, gtD_i, geD_i, lenD_t, lenD_l, isNd_n, notNd_n, isBd_b, notBd_b, isNonD_i, isNonD_n, isNonD_t, isNonD_l, eqD_int, neD_int, eqD_bool, neD_bool, eqD_fr, neD_fr, ix_fr0, ix_fr1, kit_int, kit_bool, kit_str, kit_tuple, decide_eq_true_eq, Bool.not_eq_true', decide_eq_false_iff_not, line_nil, line1, line2, if_true, if_false, dCallW, S.drw.injEq, dCall0, c__law_rules_e, c__law_pick_e, c__law_draw_e, c__law_fraction_e]
  intro p n hv
  obtain ⟨_, _, hvE, v1, v2, v3, v4, v5⟩ := isFracB_inv hv
  simp at hvE
  obtain ⟨rfl, rfl⟩ := hvE
  have hn : 0 < n := by omega
  refine ⟨by decide, by decide, fun d d0 d1 => ⟨by decide, by decide, fun w hw => ?_⟩⟩
  obtain ⟨r, _, rfl⟩ := List.mem_map.mp hw
  obtain ⟨m, rfl⟩ := Int.eq_ofNat_of_zero_le d0
  refine hk [some .scr, some (.drw a b), some (.val (fr p n)), some (.val (.int m)), some (.val (.str (ruS r))), none, none, none, none, none, none, none, none, none, none] ?_
  clear hk k hw
  have hdb : isIntB (.int (m : Int)) 0 6 = true := by simp only [isIntB]; exact decide_eq_true ⟨d0, by omega⟩
  have ub := units_bound (p := p) (n := n) (d := (m : Int)) (r := r) hn v3 v4
  have pm := pow_nat m
  have hp := powT_pos (m : Int)
  refine seq_mk fun k hk => ?_
  simp only [dRet, dRetN, dSeq, dPar, dPar3, dCons, dNil, dCaB, dVar, dC, dCmpT, dCmp, dU, dB, dAndV, dOrV, dNotV, dAnd, dOr, dNot, dIf, dTup, dLst, dChain, dChainT, dTest, dIsi, dAsg, dDrop, dIfS, gN, gT, gs0, gs1, dAug, dNext, dRaise, dCall, dYes, topE, List.getElem?_cons_succ, List.getElem?_cons_zero, List.set_cons_zero, List.set_cons_succ, Option.some.injEq, S.val.injEq, exists_eq_left', exists_eq_left, exists_and_left, and_assoc, List.cons.injEq, and_true, true_and, PyData.int.injEq, PyData.bool.injEq, PyData.tuple.injEq, PyData.list.injEq, absD_i, maxD_i, addD_i, subD_i, negD_i, iaddD_i, mulD_e, fdivD_e, ifdivD_e, modD_e, leD_i, ltD_i, gtD_i, geD_i, lenD_t, lenD_l, isNd_n, notNd_n, isBd_b, notBd_b, isNonD_i, isNonD_n, isNonD_t, isNonD_l, eqD_int, neD_int, eqD_bool, neD_bool, eqD_fr, neD_fr, ix_fr0, ix_fr1, kit_int, kit_bool, kit_str, kit_tuple, decide_eq_true_eq, Bool.not_eq_true', decide_eq_false_iff_not, line_nil, line1, line2, if_true, if_false]
  refine c_rounded_ok hv hdb ?_
  have fin : ∀ U, U = unitsF p n m r → k [some .scr, some (.drw a b), some (.val (fr p n)), some (.val (.int m)), some (.val (.str (ruS r))), some (.val (.int U)), none, none, none, none, none, none, none, none, none] := fun U hU => hk _ (by
    clear hk k
    rw [← hU] at ub
    have hu : U.natAbs ≤ 101 * 10 ^ m := by rw [pm] at ub; omega
    have m6 : m ≤ 6 := by omega
    refine seq_mk fun k hk => ?_
    simp only [dRet, dRetN, dSeq, dPar, dPar3, dCons, dNil, dCaB, dVar, dC, dCmpT, dCmp, dU, dB, dAndV, dOrV, dNotV, dAnd, dOr, dNot, dIf, dTup, dLst, dChain, dChainT, dTest, dIsi, dAsg, dDrop, dIfS, gN, gT, gs0, gs1, dAug, dNext, dRaise, dCall, dYes, topE, List.getElem?_cons_succ, List.getElem?_cons_zero, List.set_cons_zero, List.set_cons_succ, Option.some.injEq, S.val.injEq, exists_eq_left', exists_eq_left, exists_and_left, and_assoc, List.cons.injEq, and_true, true_and, PyData.int.injEq, PyData.bool.injEq, PyData.tuple.injEq, PyData.list.injEq, absD_i, maxD_i, addD_i, subD_i, negD_i, iaddD_i, mulD_e, fdivD_e, ifdivD_e, modD_e, leD_i, ltD_i, gtD_i, geD_i, lenD_t, lenD_l, isNd_n, notNd_n, isBd_b, notBd_b, isNonD_i, isNonD_n, isNonD_t, isNonD_l, eqD_int, neD_int, eqD_bool, neD_bool, eqD_fr, neD_fr, ix_fr0, ix_fr1, kit_int, kit_bool, kit_str, kit_tuple, decide_eq_true_eq, Bool.not_eq_true', decide_eq_false_iff_not, line_nil, line1, line2, if_true, if_false, List.length_cons, List.length_nil, sizeLine_eq, Nat.reduceAdd, Nat.reduceLeDiff, Nat.zero_add]
    refine c_format_decimal_ok d0 (by omega) (by omega) (by omega) ?_
    rw [wrT_S d0, Int.toNat_natCast]
    refine c_format_fraction_ok hv ?_
    rw [frT_S (by omega)]
    simp only [dRet, dRetN, dSeq, dPar, dPar3, dCons, dNil, dCaB, dVar, dC, dCmpT, dCmp, dU, dB, dAndV, dOrV, dNotV, dAnd, dOr, dNot, dIf, dTup, dLst, dChain, dChainT, dTest, dIsi, dAsg, dDrop, dIfS, gN, gT, gs0, gs1, dAug, dNext, dRaise, dCall, dYes, topE, List.getElem?_cons_succ, List.getElem?_cons_zero, List.set_cons_zero, List.set_cons_succ, Option.some.injEq, S.val.injEq, exists_eq_left', exists_eq_left, exists_and_left, and_assoc, List.cons.injEq, and_true, true_and, PyData.int.injEq, PyData.bool.injEq, PyData.tuple.injEq, PyData.list.injEq, absD_i, maxD_i, addD_i, subD_i, negD_i, iaddD_i, mulD_e, fdivD_e, ifdivD_e, modD_e, leD_i, ltD_i, gtD_i, geD_i, lenD_t, lenD_l, isNd_n, notNd_n, isBd_b, notBd_b, isNonD_i, isNonD_n, isNonD_t, isNonD_l, eqD_int, neD_int, eqD_bool, neD_bool, eqD_fr, neD_fr, ix_fr0, ix_fr1, kit_int, kit_bool, kit_str, kit_tuple, decide_eq_true_eq, Bool.not_eq_true', decide_eq_false_iff_not, line_nil, line1, line2, if_true, if_false, List.length_cons, List.length_nil, sizeLine_eq, Nat.reduceAdd, Nat.reduceLeDiff, Nat.zero_add]
    refine hk [some .scr, some (.drw a b), some (.val (fr p n)), some (.val (.int m)), some (.val (.str (ruS r))), some (.val (.int U)), some (.val (.list [.str (SX.S (wrL U m)), .str (SX.S (frL p n))])), none, none, none, none, none, none, none, none] ?_
    clear hk k
    refine seq_mk fun k hk => ?_
    simp only [dRet, dRetN, dSeq, dPar, dPar3, dCons, dNil, dCaB, dVar, dC, dCmpT, dCmp, dU, dB, dAndV, dOrV, dNotV, dAnd, dOr, dNot, dIf, dTup, dLst, dChain, dChainT, dTest, dIsi, dAsg, dDrop, dIfS, gN, gT, gs0, gs1, dAug, dNext, dRaise, dCall, dYes, topE, List.getElem?_cons_succ, List.getElem?_cons_zero, List.set_cons_zero, List.set_cons_succ, Option.some.injEq, S.val.injEq, exists_eq_left', exists_eq_left, exists_and_left, and_assoc, List.cons.injEq, and_true, true_and, PyData.int.injEq, PyData.bool.injEq, PyData.tuple.injEq, PyData.list.injEq, absD_i, maxD_i, addD_i, subD_i, negD_i, iaddD_i, mulD_e, fdivD_e, ifdivD_e, modD_e, leD_i, ltD_i, gtD_i, geD_i, lenD_t, lenD_l, isNd_n, notNd_n, isBd_b, notBd_b, isNonD_i, isNonD_n, isNonD_t, isNonD_l, eqD_int, neD_int, eqD_bool, neD_bool, eqD_fr, neD_fr, ix_fr0, ix_fr1, kit_int, kit_bool, kit_str, kit_tuple, decide_eq_true_eq, Bool.not_eq_true', decide_eq_false_iff_not, line_nil, line1, line2, if_true, if_false, List.length_cons, List.length_nil, sizeLine_eq, Nat.reduceAdd, Nat.reduceLeDiff, Nat.zero_add]
    refine hk [some .scr, some (.drw a b), some (.val (fr p n)), some (.val (.int m)), some (.val (.str (ruS r))), some (.val (.int U)), some (.val (.list [.str (SX.S (wrL U m)), .str (SX.S (frL p n))])), some (.val (.list [fr U m, fr p n])), none, none, none, none, none, none, none] ?_
    clear hk k
    have ix0 : ixD (.list [.str (SX.S (wrL U m)), .str (SX.S (frL p n))]) (.int 0) = some (.str (SX.S (wrL U m))) := at_of2 (j := 0) rfl rfl
    refine seq_mk fun k hk => ?_
    simp only [dRet, dRetN, dSeq, dPar, dPar3, dCons, dNil, dCaB, dVar, dC, dCmpT, dCmp, dU, dB, dAndV, dOrV, dNotV, dAnd, dOr, dNot, dIf, dTup, dLst, dChain, dChainT, dTest, dIsi, dAsg, dDrop, dIfS, gN, gT, gs0, gs1, dAug, dNext, dRaise, dCall, dYes, topE, List.getElem?_cons_succ, List.getElem?_cons_zero, List.set_cons_zero, List.set_cons_succ, Option.some.injEq, S.val.injEq, exists_eq_left', exists_eq_left, exists_and_left, and_assoc, List.cons.injEq, and_true, true_and, PyData.int.injEq, PyData.bool.injEq, PyData.tuple.injEq, PyData.list.injEq, absD_i, maxD_i, addD_i, subD_i, negD_i, iaddD_i, mulD_e, fdivD_e, ifdivD_e, modD_e, leD_i, ltD_i, gtD_i, geD_i, lenD_t, lenD_l, isNd_n, notNd_n, isBd_b, notBd_b, isNonD_i, isNonD_n, isNonD_t, isNonD_l, eqD_int, neD_int, eqD_bool, neD_bool, eqD_fr, neD_fr, ix_fr0, ix_fr1, kit_int, kit_bool, kit_str, kit_tuple, decide_eq_true_eq, Bool.not_eq_true', decide_eq_false_iff_not, line_nil, line1, line2, if_true, if_false, ix0]
    refine c_format_rounded_ok hv hdb ?_
    rw [← hU, wrT_S d0, Int.toNat_natCast]
    refine ⟨_, neD_S (wr_ok _ _) (wr_ok _ _), ?_⟩
    rw [decide_eq_true rfl]
    refine iteF (hk [some .scr, some (.drw a b), some (.val (fr p n)), some (.val (.int m)), some (.val (.str (ruS r))), some (.val (.int U)), some (.val (.list [.str (SX.S (wrL U m)), .str (SX.S (frL p n))])), some (.val (.list [fr U m, fr p n])), none, none, none, none, none, none, none] ?_)
    clear hk k
    -- both kinds alike
    have all : ∀ x ∈ [PyData.int 0, PyData.int 1], ∃ (z : Int) (o : List Nat) (th : PyData), x = .int z ∧ ixD (.list [.str (SX.S (wrL U m)), .str (SX.S (frL p n))]) (.int z) = some (.str (SX.S o)) ∧ ixD (.list [fr U m, fr p n]) (.int z) = some th ∧ okL o = true ∧ o.length ≤ 11 ∧ neD th th = some false ∧
        (∀ q : Res → Prop, q (.ok (.str (SX.S o))) → c__law_written [.int z, th] q) ∧ (∀ q : Res → Prop, q (.ok th) → c__law_parsed [.int z, .str (SX.S o)] q) ∧
        ∀ t : List Nat, t.length ≤ 1000 → okL t = true → ∀ q : Res → Prop, q (.ok (.str "text")) → (∀ y, neD y (.str "text") = some true → (∀ q' : Res → Prop, q' (.ok (.str (SX.S t))) → c__law_written [.int z, y] q') → q (.ok y)) → c__law_parsed [.int z, .str (SX.S t)] q := by
      intro x hx
      rcases List.mem_cons.mp hx with h | h
      · refine ⟨0, wrL U m, fr U m, h, at_of2 (j := 0) rfl rfl, at_of2 (j := 0) rfl rfl, wr_ok _ _, wr_len m6 hu, by rw [neD_fr, decide_eq_true ⟨rfl, rfl⟩]; rfl, fun q h => c__law_written_0 m6 hu h, fun q h => ?_, fun t tl tok q h1 h2 => ?_⟩
        · refine c__law_parsed_ok (by have := wr_len m6 hu; omega) (wr_ok _ _) ?_
          rw [if_pos rfl, parD_back m6 hu]
          exact h
        · refine c__law_parsed_ok tl tok ?_
          rw [if_pos rfl]
          cases hP : parD t with
          | none => exact h1
          | some y =>
            obtain ⟨u, d⟩ := y
            obtain ⟨e1, e2, e3⟩ := parD_some hP
            exact h2 _ (ne_text _ _) fun q' h' => c__law_written_0 e2 e3 (by rw [e1]; exact h')
      · rw [List.mem_singleton] at h
        refine ⟨1, frL p n, fr p n, h, at_of2 (j := 1) rfl rfl, at_of2 (j := 1) rfl rfl, fr_ok _ _, fr_len hv, by rw [neD_fr, decide_eq_true ⟨rfl, rfl⟩]; rfl, fun q h => c__law_written_1 hv h, fun q h => ?_, fun t tl tok q h1 h2 => ?_⟩
        · refine c__law_parsed_ok (by have := fr_len hv; omega) (fr_ok _ _) ?_
          rw [if_neg (by decide), parF_back hv]
          exact h
        · refine c__law_parsed_ok tl tok ?_
          rw [if_neg (by decide)]
          cases hP : parF t with
          | none => exact h1
          | some y =>
            obtain ⟨u, d⟩ := y
            obtain ⟨e1, e2⟩ := parF_some hP
            exact h2 _ (ne_text _ _) fun q' h' => c__law_written_1 e2 (by rw [e1]; exact h')
    refine seq_mk fun k hk => ?_
    simp only [dRet, dRetN, dSeq, dPar, dPar3, dCons, dNil, dCaB, dVar, dC, dCmpT, dCmp, dU, dB, dAndV, dOrV, dNotV, dAnd, dOr, dNot, dIf, dTup, dLst, dChain, dChainT, dTest, dIsi, dAsg, dDrop, dIfS, gN, gT, gs0, gs1, dAug, dNext, dRaise, dCall, dYes, topE, List.getElem?_cons_succ, List.getElem?_cons_zero, List.set_cons_zero, List.set_cons_succ, Option.some.injEq, S.val.injEq, exists_eq_left', exists_eq_left, exists_and_left, and_assoc, List.cons.injEq, and_true, true_and, PyData.int.injEq, PyData.bool.injEq, PyData.tuple.injEq, PyData.list.injEq, absD_i, maxD_i, addD_i, subD_i, negD_i, iaddD_i, mulD_e, fdivD_e, ifdivD_e, modD_e, leD_i, ltD_i, gtD_i, geD_i, lenD_t, lenD_l, isNd_n, notNd_n, isBd_b, notBd_b, isNonD_i, isNonD_n, isNonD_t, isNonD_l, eqD_int, neD_int, eqD_bool, neD_bool, eqD_fr, neD_fr, ix_fr0, ix_fr1, kit_int, kit_bool, kit_str, kit_tuple, decide_eq_true_eq, Bool.not_eq_true', decide_eq_false_iff_not, line_nil, line1, line2, if_true, if_false, dFor, dItL, List.length_cons, List.length_nil, sizeLine_eq, Nat.reduceAdd, Nat.reduceLeDiff, Nat.zero_add]
    refine forW_inv (fun i l => ∃ t8 t9 t10 t11 t12 t13 t14, l = [some .scr, some (.drw a b), some (.val (fr p n)), some (.val (.int m)), some (.val (.str (ruS r))), some (.val (.int U)), some (.val (.list [.str (SX.S (wrL U m)), .str (SX.S (frL p n))])), some (.val (.list [fr U m, fr p n])), t8, t9, t10, t11, t12, t13, t14]) (fun i x l k' hx h hk' => ?_) (fun l h => ?_) _ ⟨none, none, none, none, none, none, none, rfl⟩
    · skip
      obtain ⟨t8, t9, t10, t11, t12, t13, t14, rfl⟩ := h
      obtain ⟨z, o, th, rfl, i1, i2, oo, ol, ht, h1, h2, h3⟩ := all x (List.mem_of_getElem? hx)
      clear hk
      refine seq_mk fun k3 hk3 => ?_
      simp only [gN, List.set_cons_zero, List.set_cons_succ]
      simp only [dRet, dRetN, dSeq, dPar, dPar3, dCons, dNil, dCaB, dVar, dC, dCmpT, dCmp, dU, dB, dAndV, dOrV, dNotV, dAnd, dOr, dNot, dIf, dTup, dLst, dChain, dChainT, dTest, dIsi, dAsg, dDrop, dIfS, gN, gT, gs0, gs1, dAug, dNext, dRaise, dCall, dYes, topE, List.getElem?_cons_succ, List.getElem?_cons_zero, List.set_cons_zero, List.set_cons_succ, Option.some.injEq, S.val.injEq, exists_eq_left', exists_eq_left, exists_and_left, and_assoc, List.cons.injEq, and_true, true_and, PyData.int.injEq, PyData.bool.injEq, PyData.tuple.injEq, PyData.list.injEq, absD_i, maxD_i, addD_i, subD_i, negD_i, iaddD_i, mulD_e, fdivD_e, ifdivD_e, modD_e, leD_i, ltD_i, gtD_i, geD_i, lenD_t, lenD_l, isNd_n, notNd_n, isBd_b, notBd_b, isNonD_i, isNonD_n, isNonD_t, isNonD_l, eqD_int, neD_int, eqD_bool, neD_bool, eqD_fr, neD_fr, ix_fr0, ix_fr1, kit_int, kit_bool, kit_str, kit_tuple, decide_eq_true_eq, Bool.not_eq_true', decide_eq_false_iff_not, line_nil, line1, line2, if_true, if_false, i1, i2]
      refine h1 _ ?_
      refine ⟨_, neD_S oo oo, ?_⟩
      rw [decide_eq_true rfl]
      refine iteF ?_
      refine h2 _ ?_
      refine ⟨false, ht, ?_⟩
      refine iteF (hk3 [some .scr, some (.drw a b), some (.val (fr p n)), some (.val (.int m)), some (.val (.str (ruS r))), some (.val (.int U)), some (.val (.list [.str (SX.S (wrL U m)), .str (SX.S (frL p n))])), some (.val (.list [fr U m, fr p n])), some (.val (.int z)), t9, t10, t11, t12, t13, t14] ?_)
      clear hk3 k3
      simp only [dRet, dRetN, dSeq, dPar, dPar3, dCons, dNil, dCaB, dVar, dC, dCmpT, dCmp, dU, dB, dAndV, dOrV, dNotV, dAnd, dOr, dNot, dIf, dTup, dLst, dChain, dChainT, dTest, dIsi, dAsg, dDrop, dIfS, gN, gT, gs0, gs1, dAug, dNext, dRaise, dCall, dYes, topE, List.getElem?_cons_succ, List.getElem?_cons_zero, List.set_cons_zero, List.set_cons_succ, Option.some.injEq, S.val.injEq, exists_eq_left', exists_eq_left, exists_and_left, and_assoc, List.cons.injEq, and_true, true_and, PyData.int.injEq, PyData.bool.injEq, PyData.tuple.injEq, PyData.list.injEq, absD_i, maxD_i, addD_i, subD_i, negD_i, iaddD_i, mulD_e, fdivD_e, ifdivD_e, modD_e, leD_i, ltD_i, gtD_i, geD_i, lenD_t, lenD_l, isNd_n, notNd_n, isBd_b, notBd_b, isNonD_i, isNonD_n, isNonD_t, isNonD_l, eqD_int, neD_int, eqD_bool, neD_bool, eqD_fr, neD_fr, ix_fr0, ix_fr1, kit_int, kit_bool, kit_str, kit_tuple, decide_eq_true_eq, Bool.not_eq_true', decide_eq_false_iff_not, line_nil, line1, line2, if_true, if_false, dFor, dRng1]
      refine ⟨by decide, ?_⟩
      refine forW_rng (fun j l => ∃ t9 t10 t11 t12 t13 t14, l = [some .scr, some (.drw a b), some (.val (fr p n)), some (.val (.int m)), some (.val (.str (ruS r))), some (.val (.int U)), some (.val (.list [.str (SX.S (wrL U m)), .str (SX.S (frL p n))])), some (.val (.list [fr U m, fr p n])), some (.val (.int z)), t9, t10, t11, t12, t13, t14]) (fun turn l k2 hi h hk2 => ?_) (fun l h => ?_) _ ⟨_, _, _, _, _, _, rfl⟩
      · obtain ⟨t9, t10, t11, t12, t13, t14, rfl⟩ := h
        clear hk'
        refine seq_mk fun k3 hk3 => ?_
        simp only [gN, List.set_cons_zero, List.set_cons_succ]
        generalize (some (S.val (PyData.int (0 + (turn : Int)))) : Option S) = t9'
        clear t9
        obtain ⟨t9, rfl⟩ : ∃ t9, t9 = t9' := ⟨_, rfl⟩
        simp only [dRet, dRetN, dSeq, dPar, dPar3, dCons, dNil, dCaB, dVar, dC, dCmpT, dCmp, dU, dB, dAndV, dOrV, dNotV, dAnd, dOr, dNot, dIf, dTup, dLst, dChain, dChainT, dTest, dIsi, dAsg, dDrop, dIfS, gN, gT, gs0, gs1, dAug, dNext, dRaise, dCall, dYes, topE, List.getElem?_cons_succ, List.getElem?_cons_zero, List.set_cons_zero, List.set_cons_succ, Option.some.injEq, S.val.injEq, exists_eq_left', exists_eq_left, exists_and_left, and_assoc, List.cons.injEq, and_true, true_and, PyData.int.injEq, PyData.bool.injEq, PyData.tuple.injEq, PyData.list.injEq, absD_i, maxD_i, addD_i, subD_i, negD_i, iaddD_i, mulD_e, fdivD_e, ifdivD_e, modD_e, leD_i, ltD_i, gtD_i, geD_i, lenD_t, lenD_l, isNd_n, notNd_n, isBd_b, notBd_b, isNonD_i, isNonD_n, isNonD_t, isNonD_l, eqD_int, neD_int, eqD_bool, neD_bool, eqD_fr, neD_fr, ix_fr0, ix_fr1, kit_int, kit_bool, kit_str, kit_tuple, decide_eq_true_eq, Bool.not_eq_true', decide_eq_false_iff_not, line_nil, line1, line2, if_true, if_false, i1]
        refine hk3 [some .scr, some (.drw a b), some (.val (fr p n)), some (.val (.int m)), some (.val (.str (ruS r))), some (.val (.int U)), some (.val (.list [.str (SX.S (wrL U m)), .str (SX.S (frL p n))])), some (.val (.list [fr U m, fr p n])), some (.val (.int z)), t9, some (.val (.str (SX.S o))), t11, t12, t13, t14] ?_
        clear hk3 k3
        refine seq_mk fun k3 hk3 => ?_
        simp only [dRet, dRetN, dSeq, dPar, dPar3, dCons, dNil, dCaB, dVar, dC, dCmpT, dCmp, dU, dB, dAndV, dOrV, dNotV, dAnd, dOr, dNot, dIf, dTup, dLst, dChain, dChainT, dTest, dIsi, dAsg, dDrop, dIfS, gN, gT, gs0, gs1, dAug, dNext, dRaise, dCall, dYes, topE, List.getElem?_cons_succ, List.getElem?_cons_zero, List.set_cons_zero, List.set_cons_succ, Option.some.injEq, S.val.injEq, exists_eq_left', exists_eq_left, exists_and_left, and_assoc, List.cons.injEq, and_true, true_and, PyData.int.injEq, PyData.bool.injEq, PyData.tuple.injEq, PyData.list.injEq, absD_i, maxD_i, addD_i, subD_i, negD_i, iaddD_i, mulD_e, fdivD_e, ifdivD_e, modD_e, leD_i, ltD_i, gtD_i, geD_i, lenD_t, lenD_l, isNd_n, notNd_n, isBd_b, notBd_b, isNonD_i, isNonD_n, isNonD_t, isNonD_l, eqD_int, neD_int, eqD_bool, neD_bool, eqD_fr, neD_fr, ix_fr0, ix_fr1, kit_int, kit_bool, kit_str, kit_tuple, decide_eq_true_eq, Bool.not_eq_true', decide_eq_false_iff_not, line_nil, line1, line2, if_true, if_false, dCallW, S.drw.injEq, c__law_draw_e, len_S o (by omega)]
        refine ⟨by omega, by omega, fun at_ at0 at1 => ?_⟩
        refine hk3 [some .scr, some (.drw a b), some (.val (fr p n)), some (.val (.int m)), some (.val (.str (ruS r))), some (.val (.int U)), some (.val (.list [.str (SX.S (wrL U m)), .str (SX.S (frL p n))])), some (.val (.list [fr U m, fr p n])), some (.val (.int z)), t9, some (.val (.str (SX.S o))), some (.val (.int at_)), t12, t13, t14] ?_
        clear hk3 k3
        refine seq_mk fun k3 hk3 => ?_
        simp only [dRet, dRetN, dSeq, dPar, dPar3, dCons, dNil, dCaB, dVar, dC, dCmpT, dCmp, dU, dB, dAndV, dOrV, dNotV, dAnd, dOr, dNot, dIf, dTup, dLst, dChain, dChainT, dTest, dIsi, dAsg, dDrop, dIfS, gN, gT, gs0, gs1, dAug, dNext, dRaise, dCall, dYes, topE, List.getElem?_cons_succ, List.getElem?_cons_zero, List.set_cons_zero, List.set_cons_succ, Option.some.injEq, S.val.injEq, exists_eq_left', exists_eq_left, exists_and_left, and_assoc, List.cons.injEq, and_true, true_and, PyData.int.injEq, PyData.bool.injEq, PyData.tuple.injEq, PyData.list.injEq, absD_i, maxD_i, addD_i, subD_i, negD_i, iaddD_i, mulD_e, fdivD_e, ifdivD_e, modD_e, leD_i, ltD_i, gtD_i, geD_i, lenD_t, lenD_l, isNd_n, notNd_n, isBd_b, notBd_b, isNonD_i, isNonD_n, isNonD_t, isNonD_l, eqD_int, neD_int, eqD_bool, neD_bool, eqD_fr, neD_fr, ix_fr0, ix_fr1, kit_int, kit_bool, kit_str, kit_tuple, decide_eq_true_eq, Bool.not_eq_true', decide_eq_false_iff_not, line_nil, line1, line2, if_true, if_false, dCallW, S.drw.injEq, c__law_pick_e, List.length_cons, List.length_nil, sizeLine_eq, Nat.reduceAdd, Nat.reduceLeDiff, Nat.zero_add]
        refine fun w hw => ?_
        obtain ⟨mk, rfl, mo, ml⟩ := marks_of hw
        refine hk3 [some .scr, some (.drw a b), some (.val (fr p n)), some (.val (.int m)), some (.val (.str (ruS r))), some (.val (.int U)), some (.val (.list [.str (SX.S (wrL U m)), .str (SX.S (frL p n))])), some (.val (.list [fr U m, fr p n])), some (.val (.int z)), t9, some (.val (.str (SX.S o))), some (.val (.int at_)), some (.val (.str (SX.S mk))), t13, t14] ?_
        clear hk3 k3 hw
        obtain ⟨an, rfl⟩ := Int.eq_ofNat_of_zero_le at0
        have tk : okL (o.take an) = true := okL_sub oo fun c hc => List.mem_of_mem_take hc
        have dk : ∀ j, okL (o.drop j) = true := fun j => okL_sub oo fun c hc => List.mem_of_mem_drop hc
        have tl : (o.take an).length ≤ 11 := by rw [List.length_take]; omega
        have dl : ∀ j, (o.drop j).length ≤ 11 := fun j => by rw [List.length_drop]; omega
        have s1 : Txt.slice (SX.S o) none (some (an : Int)) = SX.S (o.take an) := sl_toN o (by omega)
        have s2 : Txt.slice (SX.S o) (some ((an : Int) + 1)) none = SX.S (o.drop (an + 1)) := sl_fromN o (by omega)
        have s3 : Txt.slice (SX.S o) (some (an : Int)) none = SX.S (o.drop an) := sl_fromN o (by omega)
        refine seq_mk fun k3 hk3 => ?_
        simp only [dRet, dRetN, dSeq, dPar, dPar3, dCons, dNil, dCaB, dVar, dC, dCmpT, dCmp, dU, dB, dAndV, dOrV, dNotV, dAnd, dOr, dNot, dIf, dTup, dLst, dChain, dChainT, dTest, dIsi, dAsg, dDrop, dIfS, gN, gT, gs0, gs1, dAug, dNext, dRaise, dCall, dYes, topE, List.getElem?_cons_succ, List.getElem?_cons_zero, List.set_cons_zero, List.set_cons_succ, Option.some.injEq, S.val.injEq, exists_eq_left', exists_eq_left, exists_and_left, and_assoc, List.cons.injEq, and_true, true_and, PyData.int.injEq, PyData.bool.injEq, PyData.tuple.injEq, PyData.list.injEq, absD_i, maxD_i, addD_i, subD_i, negD_i, iaddD_i, mulD_e, fdivD_e, ifdivD_e, modD_e, leD_i, ltD_i, gtD_i, geD_i, lenD_t, lenD_l, isNd_n, notNd_n, isBd_b, notBd_b, isNonD_i, isNonD_n, isNonD_t, isNonD_l, eqD_int, neD_int, eqD_bool, neD_bool, eqD_fr, neD_fr, ix_fr0, ix_fr1, kit_int, kit_bool, kit_str, kit_tuple, decide_eq_true_eq, Bool.not_eq_true', decide_eq_false_iff_not, line_nil, line1, line2, if_true, if_false, dCallW, S.drw.injEq, c__law_pick_e, dSlS, dO0, dO1, PyData.str.injEq, s1, s2, s3, addD_e, List.length_cons, List.length_nil, sizeLine_eq, Nat.reduceAdd, Nat.reduceLeDiff, Nat.zero_add]
        have d1 := dl (an + 1)
        have d2 := dl an
        have oz : (SX.S o).length ≤ 16777216 := by rw [SX.S_len]; omega
        refine ⟨oz, by rw [SX.S_len, SX.S_len]; omega, oz, by rw [SX.S_cat, SX.S_len, SX.S_len, List.length_append]; omega, oz, by rw [SX.S_len, SX.S_len]; omega, oz, by rw [SX.S_cat, SX.S_len, SX.S_len, List.length_append]; omega, fun w hw => ?_⟩
        obtain ⟨ot, rfl, ook, olen⟩ : ∃ ot, w = .str (SX.S ot) ∧ okL ot = true ∧ ot.length ≤ 100 := by
          rw [SX.S_cat, SX.S_cat, SX.S_cat] at hw
          rcases List.mem_cons.mp hw with h | h
          · exact ⟨_, h, by rw [okL_app, okL_app]; exact ⟨⟨tk, mo⟩, dk _⟩, by rw [List.length_append, List.length_append]; omega⟩
          · rw [List.mem_singleton] at h
            exact ⟨_, h, by rw [okL_app, okL_app]; exact ⟨⟨tk, mo⟩, dk _⟩, by rw [List.length_append, List.length_append]; omega⟩
        refine hk3 [some .scr, some (.drw a b), some (.val (fr p n)), some (.val (.int m)), some (.val (.str (ruS r))), some (.val (.int U)), some (.val (.list [.str (SX.S (wrL U m)), .str (SX.S (frL p n))])), some (.val (.list [fr U m, fr p n])), some (.val (.int z)), t9, some (.val (.str (SX.S o))), some (.val (.int (an : Int))), some (.val (.str (SX.S mk))), some (.val (.str (SX.S ot))), t14] ?_
        clear hk3 k3 hw
        refine seq_mk fun k3 hk3 => ?_
        simp only [dRet, dRetN, dSeq, dPar, dPar3, dCons, dNil, dCaB, dVar, dC, dCmpT, dCmp, dU, dB, dAndV, dOrV, dNotV, dAnd, dOr, dNot, dIf, dTup, dLst, dChain, dChainT, dTest, dIsi, dAsg, dDrop, dIfS, gN, gT, gs0, gs1, dAug, dNext, dRaise, dCall, dYes, topE, List.getElem?_cons_succ, List.getElem?_cons_zero, List.set_cons_zero, List.set_cons_succ, Option.some.injEq, S.val.injEq, exists_eq_left', exists_eq_left, exists_and_left, and_assoc, List.cons.injEq, and_true, true_and, PyData.int.injEq, PyData.bool.injEq, PyData.tuple.injEq, PyData.list.injEq, absD_i, maxD_i, addD_i, subD_i, negD_i, iaddD_i, mulD_e, fdivD_e, ifdivD_e, modD_e, leD_i, ltD_i, gtD_i, geD_i, lenD_t, lenD_l, isNd_n, notNd_n, isBd_b, notBd_b, isNonD_i, isNonD_n, isNonD_t, isNonD_l, eqD_int, neD_int, eqD_bool, neD_bool, eqD_fr, neD_fr, ix_fr0, ix_fr1, kit_int, kit_bool, kit_str, kit_tuple, decide_eq_true_eq, Bool.not_eq_true', decide_eq_false_iff_not, line_nil, line1, line2, if_true, if_false]
        have fin : ∀ y, (y = .str "text" ∨ (neD y (.str "text") = some true ∧ ∀ q : Res → Prop, q (.ok (.str (SX.S ot))) → c__law_written [.int z, y] q)) → k3 [some .scr, some (.drw a b), some (.val (fr p n)), some (.val (.int m)), some (.val (.str (ruS r))), some (.val (.int U)), some (.val (.list [.str (SX.S (wrL U m)), .str (SX.S (frL p n))])), some (.val (.list [fr U m, fr p n])), some (.val (.int z)), t9, some (.val (.str (SX.S o))), some (.val (.int (an : Int))), some (.val (.str (SX.S mk))), some (.val (.str (SX.S ot))), some (.val (y))] := fun y hy => hk3 _ (by
          clear hk3 k3
          simp only [dRet, dRetN, dSeq, dPar, dPar3, dCons, dNil, dCaB, dVar, dC, dCmpT, dCmp, dU, dB, dAndV, dOrV, dNotV, dAnd, dOr, dNot, dIf, dTup, dLst, dChain, dChainT, dTest, dIsi, dAsg, dDrop, dIfS, gN, gT, gs0, gs1, dAug, dNext, dRaise, dCall, dYes, topE, List.getElem?_cons_succ, List.getElem?_cons_zero, List.set_cons_zero, List.set_cons_succ, Option.some.injEq, S.val.injEq, exists_eq_left', exists_eq_left, exists_and_left, and_assoc, List.cons.injEq, and_true, true_and, PyData.int.injEq, PyData.bool.injEq, PyData.tuple.injEq, PyData.list.injEq, absD_i, maxD_i, addD_i, subD_i, negD_i, iaddD_i, mulD_e, fdivD_e, ifdivD_e, modD_e, leD_i, ltD_i, gtD_i, geD_i, lenD_t, lenD_l, isNd_n, notNd_n, isBd_b, notBd_b, isNonD_i, isNonD_n, isNonD_t, isNonD_l, eqD_int, neD_int, eqD_bool, neD_bool, eqD_fr, neD_fr, ix_fr0, ix_fr1, kit_int, kit_bool, kit_str, kit_tuple, decide_eq_true_eq, Bool.not_eq_true', decide_eq_false_iff_not, line_nil, line1, line2, if_true, if_false]
          rcases hy with rfl | ⟨e1, e2⟩
          · refine ⟨false, by decide +kernel, ?_⟩
            simp only [dRet, dRetN, dSeq, dPar, dPar3, dCons, dNil, dCaB, dVar, dC, dCmpT, dCmp, dU, dB, dAndV, dOrV, dNotV, dAnd, dOr, dNot, dIf, dTup, dLst, dChain, dChainT, dTest, dIsi, dAsg, dDrop, dIfS, gN, gT, gs0, gs1, dAug, dNext, dRaise, dCall, dYes, topE, List.getElem?_cons_succ, List.getElem?_cons_zero, List.set_cons_zero, List.set_cons_succ, Option.some.injEq, S.val.injEq, exists_eq_left', exists_eq_left, exists_and_left, and_assoc, List.cons.injEq, and_true, true_and, PyData.int.injEq, PyData.bool.injEq, PyData.tuple.injEq, PyData.list.injEq, absD_i, maxD_i, addD_i, subD_i, negD_i, iaddD_i, mulD_e, fdivD_e, ifdivD_e, modD_e, leD_i, ltD_i, gtD_i, geD_i, lenD_t, lenD_l, isNd_n, notNd_n, isBd_b, notBd_b, isNonD_i, isNonD_n, isNonD_t, isNonD_l, eqD_int, neD_int, eqD_bool, neD_bool, eqD_fr, neD_fr, ix_fr0, ix_fr1, kit_int, kit_bool, kit_str, kit_tuple, decide_eq_true_eq, Bool.not_eq_true', decide_eq_false_iff_not, line_nil, line1, line2, if_true, if_false, Bool.false_eq_true]
            exact hk2 _ ⟨_, _, _, _, _, _, rfl⟩
          · refine ⟨true, e1, ?_⟩
            refine iteT ?_
            refine e2 _ ?_
            refine ⟨_, neD_S ook ook, ?_⟩
            rw [decide_eq_true rfl]
            refine iteF ?_
            exact hk2 _ ⟨_, _, _, _, _, _, rfl⟩)
        clear hk3
        exact h3 ot (by omega) ook _ (fin _ (.inl rfl)) fun y e1 e2 => fin _ (.inr ⟨e1, e2⟩)
      · obtain ⟨t9, t10, t11, t12, t13, t14, rfl⟩ := h
        exact hk' _ ⟨_, _, _, _, _, _, _, rfl⟩
    · obtain ⟨t8, t9, t10, t11, t12, t13, t14, rfl⟩ := h
      refine hk [some .scr, some (.drw a b), some (.val (fr p n)), some (.val (.int m)), some (.val (.str (ruS r))), some (.val (.int U)), some (.val (.list [.str (SX.S (wrL U m)), .str (SX.S (frL p n))])), some (.val (.list [fr U m, fr p n])), t8, t9, t10, t11, t12, t13, t14] ?_
      clear hk k
      simp only [dRet, dRetN, dSeq, dPar, dPar3, dCons, dNil, dCaB, dVar, dC, dCmpT, dCmp, dU, dB, dAndV, dOrV, dNotV, dAnd, dOr, dNot, dIf, dTup, dLst, dChain, dChainT, dTest, dIsi, dAsg, dDrop, dIfS, gN, gT, gs0, gs1, dAug, dNext, dRaise, dCall, dYes, topE, List.getElem?_cons_succ, List.getElem?_cons_zero, List.set_cons_zero, List.set_cons_succ, Option.some.injEq, S.val.injEq, exists_eq_left', exists_eq_left, exists_and_left, and_assoc, List.cons.injEq, and_true, true_and, PyData.int.injEq, PyData.bool.injEq, PyData.tuple.injEq, PyData.list.injEq, absD_i, maxD_i, addD_i, subD_i, negD_i, iaddD_i, mulD_e, fdivD_e, ifdivD_e, modD_e, leD_i, ltD_i, gtD_i, geD_i, lenD_t, lenD_l, isNd_n, notNd_n, isBd_b, notBd_b, isNonD_i, isNonD_n, isNonD_t, isNonD_l, eqD_int, neD_int, eqD_bool, neD_bool, eqD_fr, neD_fr, ix_fr0, ix_fr1, kit_int, kit_bool, kit_str, kit_tuple, decide_eq_true_eq, Bool.not_eq_true', decide_eq_false_iff_not, line_nil, line1, line2, if_true, if_false, dCall0, c__law_rejected_e]
      rfl)
  exact fin _ rfl
end

def caOf (a b c d e f : Addr) : Er → Addr
  | .frac => a
  | .rng => b
  | .rul => c
  | .num => d
  | .txt => e
  | .nof => f
theorem d_rules {K : PySem.W.Frag} {a : Addr} {od : Option Addr} {n : Nat} {sl : Array (Option Value)} {t1 t2 t3 t4 t5 t6 t7 : Tok}
    (lk : K.lookup a = some ⟨.type "tuple", od, .seq #[.str "down" t1, .str "up" t2, .str "zero" t3, .str "near-up" t4, .str "near-zero" t5, .str "near-away" t6, .str "near-even" t7] n, sl⟩) (H : Hp) : Dv K H (.ref a) (.tuple rulesD) := by
  have hs : SqT K H a [.str "down", .str "up", .str "zero", .str "near-up", .str "near-zero", .str "near-away", .str "near-even"] :=
    .inr ⟨_, _, _, lk, rfl, rfl, by rw [sizeLine_eq]; exact (by decide : 7 ≤ 16777216), .cons ⟨_, rfl⟩ (.cons ⟨_, rfl⟩ (.cons ⟨_, rfl⟩ (.cons ⟨_, rfl⟩ (.cons ⟨_, rfl⟩ (.cons ⟨_, rfl⟩ (.cons ⟨_, rfl⟩ .nil))))))⟩
  exact Dv.tup' hs (.cons (.str _) (.cons (.str _) (.cons (.str _) (.cons (.str _) (.cons (.str _) (.cons (.str _) (.cons (.str _) .nil)))))))
theorem no_cx {P : Program} {w : World} (H : Hp) (s : Shared) (e : Value) (s' : Shared) (h : L2.CX P w [] H s (fun _ _ _ => False) e s') : False := by
  obtain ⟨_, _, _, _, _, _, _, _, _, _, _, _, z⟩ := h
  exact z.elim

theorem all_mk {l : PySem.W.OpenLaw} {w : World} {K : PySem.W.Frag} {h : Heap} {mg : Str → Option Value} {fa : Addr} (X : K.In h) (G : h.Ns mainGlobals mg) (hfa : mg "law" = some (.ref fa))
    {f__law_start : Addr} {od__law_start an__law_start : Option Addr} {sl__law_start : Array (Option Value)} {oc__law_start kV__law_start dc__law_start pm__law_start cd__law_start ct__law_start : Value}
    (a__law_start : PySem.W.nsIn K mainGlobals "_law_start" = some (some (.ref f__law_start)))
    (l__law_start : K.lookup f__law_start = some ⟨oc__law_start, od__law_start, .func (PySem.W.fnOf "_law_start" "_law_start" (defArgs s__law_start) (defBody s__law_start) (defScope s__law_start) .none kV__law_start dc__law_start pm__law_start an__law_start cd__law_start ct__law_start), sl__law_start⟩)
    (y__law_start : PySem.W.codeIn K cd__law_start "_law_start" = true)
    (k__law_start : PySem.W.keepIn K (.ref f__law_start) = true)
    {f_common : Addr} {od_common an_common : Option Addr} {sl_common : Array (Option Value)} {oc_common kV_common dc_common pm_common cd_common ct_common : Value}
    (a_common : PySem.W.nsIn K mainGlobals "common" = some (some (.ref f_common)))
    (l_common : K.lookup f_common = some ⟨oc_common, od_common, .func (PySem.W.fnOf "common" "common" (defArgs s_common) (defBody s_common) (defScope s_common) .none kV_common dc_common pm_common an_common cd_common ct_common), sl_common⟩)
    (y_common : PySem.W.codeIn K cd_common "common" = true)
    (k_common : PySem.W.keepIn K (.ref f_common) = true)
    {f_is_int : Addr} {od_is_int an_is_int : Option Addr} {sl_is_int : Array (Option Value)} {oc_is_int kV_is_int dc_is_int pm_is_int cd_is_int ct_is_int : Value}
    (a_is_int : PySem.W.nsIn K mainGlobals "is_int" = some (some (.ref f_is_int)))
    (l_is_int : K.lookup f_is_int = some ⟨oc_is_int, od_is_int, .func (PySem.W.fnOf "is_int" "is_int" (defArgs s_is_int) (defBody s_is_int) (defScope s_is_int) .none kV_is_int dc_is_int pm_is_int an_is_int cd_is_int ct_is_int), sl_is_int⟩)
    (y_is_int : PySem.W.codeIn K cd_is_int "is_int" = true)
    (k_is_int : PySem.W.keepIn K (.ref f_is_int) = true)
    {f_is_fraction : Addr} {od_is_fraction an_is_fraction : Option Addr} {sl_is_fraction : Array (Option Value)} {oc_is_fraction kV_is_fraction dc_is_fraction pm_is_fraction cd_is_fraction ct_is_fraction : Value}
    (a_is_fraction : PySem.W.nsIn K mainGlobals "is_fraction" = some (some (.ref f_is_fraction)))
    (l_is_fraction : K.lookup f_is_fraction = some ⟨oc_is_fraction, od_is_fraction, .func (PySem.W.fnOf "is_fraction" "is_fraction" (defArgs s_is_fraction) (defBody s_is_fraction) (defScope s_is_fraction) .none kV_is_fraction dc_is_fraction pm_is_fraction an_is_fraction cd_is_fraction ct_is_fraction), sl_is_fraction⟩)
    (y_is_fraction : PySem.W.codeIn K cd_is_fraction "is_fraction" = true)
    (k_is_fraction : PySem.W.keepIn K (.ref f_is_fraction) = true)
    {f_check_fraction : Addr} {od_check_fraction an_check_fraction : Option Addr} {sl_check_fraction : Array (Option Value)} {oc_check_fraction kV_check_fraction dc_check_fraction pm_check_fraction cd_check_fraction ct_check_fraction : Value}
    (a_check_fraction : PySem.W.nsIn K mainGlobals "check_fraction" = some (some (.ref f_check_fraction)))
    (l_check_fraction : K.lookup f_check_fraction = some ⟨oc_check_fraction, od_check_fraction, .func (PySem.W.fnOf "check_fraction" "check_fraction" (defArgs s_check_fraction) (defBody s_check_fraction) (defScope s_check_fraction) .none kV_check_fraction dc_check_fraction pm_check_fraction an_check_fraction cd_check_fraction ct_check_fraction), sl_check_fraction⟩)
    (y_check_fraction : PySem.W.codeIn K cd_check_fraction "check_fraction" = true)
    (k_check_fraction : PySem.W.keepIn K (.ref f_check_fraction) = true)
    {f_check_digits : Addr} {od_check_digits an_check_digits : Option Addr} {sl_check_digits : Array (Option Value)} {oc_check_digits kV_check_digits dc_check_digits pm_check_digits cd_check_digits ct_check_digits : Value}
    (a_check_digits : PySem.W.nsIn K mainGlobals "check_digits" = some (some (.ref f_check_digits)))
    (l_check_digits : K.lookup f_check_digits = some ⟨oc_check_digits, od_check_digits, .func (PySem.W.fnOf "check_digits" "check_digits" (defArgs s_check_digits) (defBody s_check_digits) (defScope s_check_digits) .none kV_check_digits dc_check_digits pm_check_digits an_check_digits cd_check_digits ct_check_digits), sl_check_digits⟩)
    (y_check_digits : PySem.W.codeIn K cd_check_digits "check_digits" = true)
    (k_check_digits : PySem.W.keepIn K (.ref f_check_digits) = true)
    {f_check_rule : Addr} {od_check_rule an_check_rule : Option Addr} {sl_check_rule : Array (Option Value)} {oc_check_rule kV_check_rule dc_check_rule pm_check_rule cd_check_rule ct_check_rule : Value}
    (a_check_rule : PySem.W.nsIn K mainGlobals "check_rule" = some (some (.ref f_check_rule)))
    (l_check_rule : K.lookup f_check_rule = some ⟨oc_check_rule, od_check_rule, .func (PySem.W.fnOf "check_rule" "check_rule" (defArgs s_check_rule) (defBody s_check_rule) (defScope s_check_rule) .none kV_check_rule dc_check_rule pm_check_rule an_check_rule cd_check_rule ct_check_rule), sl_check_rule⟩)
    (y_check_rule : PySem.W.codeIn K cd_check_rule "check_rule" = true)
    (k_check_rule : PySem.W.keepIn K (.ref f_check_rule) = true)
    {f_power_of : Addr} {od_power_of an_power_of : Option Addr} {sl_power_of : Array (Option Value)} {oc_power_of kV_power_of dc_power_of pm_power_of cd_power_of ct_power_of : Value}
    (a_power_of : PySem.W.nsIn K mainGlobals "power_of" = some (some (.ref f_power_of)))
    (l_power_of : K.lookup f_power_of = some ⟨oc_power_of, od_power_of, .func (PySem.W.fnOf "power_of" "power_of" (defArgs s_power_of) (defBody s_power_of) (defScope s_power_of) .none kV_power_of dc_power_of pm_power_of an_power_of cd_power_of ct_power_of), sl_power_of⟩)
    (y_power_of : PySem.W.codeIn K cd_power_of "power_of" = true)
    (k_power_of : PySem.W.keepIn K (.ref f_power_of) = true)
    {f_units_of : Addr} {od_units_of an_units_of : Option Addr} {sl_units_of : Array (Option Value)} {oc_units_of kV_units_of dc_units_of pm_units_of cd_units_of ct_units_of : Value}
    (a_units_of : PySem.W.nsIn K mainGlobals "units_of" = some (some (.ref f_units_of)))
    (l_units_of : K.lookup f_units_of = some ⟨oc_units_of, od_units_of, .func (PySem.W.fnOf "units_of" "units_of" (defArgs s_units_of) (defBody s_units_of) (defScope s_units_of) .none kV_units_of dc_units_of pm_units_of an_units_of cd_units_of ct_units_of), sl_units_of⟩)
    (y_units_of : PySem.W.codeIn K cd_units_of "units_of" = true)
    (k_units_of : PySem.W.keepIn K (.ref f_units_of) = true)
    {f_rounded : Addr} {od_rounded an_rounded : Option Addr} {sl_rounded : Array (Option Value)} {oc_rounded kV_rounded dc_rounded pm_rounded cd_rounded ct_rounded : Value}
    (a_rounded : PySem.W.nsIn K mainGlobals "rounded" = some (some (.ref f_rounded)))
    (l_rounded : K.lookup f_rounded = some ⟨oc_rounded, od_rounded, .func (PySem.W.fnOf "rounded" "rounded" (defArgs s_rounded) (defBody s_rounded) (defScope s_rounded) .none kV_rounded dc_rounded pm_rounded an_rounded cd_rounded ct_rounded), sl_rounded⟩)
    (y_rounded : PySem.W.codeIn K cd_rounded "rounded" = true)
    (k_rounded : PySem.W.keepIn K (.ref f_rounded) = true)
    {f__law_error : Addr} {od__law_error an__law_error : Option Addr} {sl__law_error : Array (Option Value)} {oc__law_error kV__law_error dc__law_error pm__law_error cd__law_error ct__law_error : Value}
    (a__law_error : PySem.W.nsIn K mainGlobals "_law_error" = some (some (.ref f__law_error)))
    (l__law_error : K.lookup f__law_error = some ⟨oc__law_error, od__law_error, .func (PySem.W.fnOf "_law_error" "_law_error" (defArgs s__law_error) (defBody s__law_error) (defScope s__law_error) .none kV__law_error dc__law_error pm__law_error an__law_error cd__law_error ct__law_error), sl__law_error⟩)
    (y__law_error : PySem.W.codeIn K cd__law_error "_law_error" = true)
    (k__law_error : PySem.W.keepIn K (.ref f__law_error) = true)
    {f_written : Addr} {od_written an_written : Option Addr} {sl_written : Array (Option Value)} {oc_written kV_written dc_written pm_written cd_written ct_written : Value}
    (a_written : PySem.W.nsIn K mainGlobals "written" = some (some (.ref f_written)))
    (l_written : K.lookup f_written = some ⟨oc_written, od_written, .func (PySem.W.fnOf "written" "written" (defArgs s_written) (defBody s_written) (defScope s_written) .none kV_written dc_written pm_written an_written cd_written ct_written), sl_written⟩)
    (y_written : PySem.W.codeIn K cd_written "written" = true)
    (k_written : PySem.W.keepIn K (.ref f_written) = true)
    {f_parse_decimal : Addr} {od_parse_decimal an_parse_decimal : Option Addr} {sl_parse_decimal : Array (Option Value)} {oc_parse_decimal kV_parse_decimal dc_parse_decimal pm_parse_decimal cd_parse_decimal ct_parse_decimal : Value}
    (a_parse_decimal : PySem.W.nsIn K mainGlobals "parse_decimal" = some (some (.ref f_parse_decimal)))
    (l_parse_decimal : K.lookup f_parse_decimal = some ⟨oc_parse_decimal, od_parse_decimal, .func (PySem.W.fnOf "parse_decimal" "parse_decimal" (defArgs s_parse_decimal) (defBody s_parse_decimal) (defScope s_parse_decimal) .none kV_parse_decimal dc_parse_decimal pm_parse_decimal an_parse_decimal cd_parse_decimal ct_parse_decimal), sl_parse_decimal⟩)
    (y_parse_decimal : PySem.W.codeIn K cd_parse_decimal "parse_decimal" = true)
    (k_parse_decimal : PySem.W.keepIn K (.ref f_parse_decimal) = true)
    {f_format_fraction : Addr} {od_format_fraction an_format_fraction : Option Addr} {sl_format_fraction : Array (Option Value)} {oc_format_fraction kV_format_fraction dc_format_fraction pm_format_fraction cd_format_fraction ct_format_fraction : Value}
    (a_format_fraction : PySem.W.nsIn K mainGlobals "format_fraction" = some (some (.ref f_format_fraction)))
    (l_format_fraction : K.lookup f_format_fraction = some ⟨oc_format_fraction, od_format_fraction, .func (PySem.W.fnOf "format_fraction" "format_fraction" (defArgs s_format_fraction) (defBody s_format_fraction) (defScope s_format_fraction) .none kV_format_fraction dc_format_fraction pm_format_fraction an_format_fraction cd_format_fraction ct_format_fraction), sl_format_fraction⟩)
    (y_format_fraction : PySem.W.codeIn K cd_format_fraction "format_fraction" = true)
    (k_format_fraction : PySem.W.keepIn K (.ref f_format_fraction) = true)
    {f_parse_fraction : Addr} {od_parse_fraction an_parse_fraction : Option Addr} {sl_parse_fraction : Array (Option Value)} {oc_parse_fraction kV_parse_fraction dc_parse_fraction pm_parse_fraction cd_parse_fraction ct_parse_fraction : Value}
    (a_parse_fraction : PySem.W.nsIn K mainGlobals "parse_fraction" = some (some (.ref f_parse_fraction)))
    (l_parse_fraction : K.lookup f_parse_fraction = some ⟨oc_parse_fraction, od_parse_fraction, .func (PySem.W.fnOf "parse_fraction" "parse_fraction" (defArgs s_parse_fraction) (defBody s_parse_fraction) (defScope s_parse_fraction) .none kV_parse_fraction dc_parse_fraction pm_parse_fraction an_parse_fraction cd_parse_fraction ct_parse_fraction), sl_parse_fraction⟩)
    (y_parse_fraction : PySem.W.codeIn K cd_parse_fraction "parse_fraction" = true)
    (k_parse_fraction : PySem.W.keepIn K (.ref f_parse_fraction) = true)
    {f__law_parsed : Addr} {od__law_parsed an__law_parsed : Option Addr} {sl__law_parsed : Array (Option Value)} {oc__law_parsed kV__law_parsed dc__law_parsed pm__law_parsed cd__law_parsed ct__law_parsed : Value}
    (a__law_parsed : PySem.W.nsIn K mainGlobals "_law_parsed" = some (some (.ref f__law_parsed)))
    (l__law_parsed : K.lookup f__law_parsed = some ⟨oc__law_parsed, od__law_parsed, .func (PySem.W.fnOf "_law_parsed" "_law_parsed" (defArgs s__law_parsed) (defBody s__law_parsed) (defScope s__law_parsed) .none kV__law_parsed dc__law_parsed pm__law_parsed an__law_parsed cd__law_parsed ct__law_parsed), sl__law_parsed⟩)
    (y__law_parsed : PySem.W.codeIn K cd__law_parsed "_law_parsed" = true)
    (k__law_parsed : PySem.W.keepIn K (.ref f__law_parsed) = true)
    {f__law_rejected : Addr} {od__law_rejected an__law_rejected : Option Addr} {sl__law_rejected : Array (Option Value)} {oc__law_rejected kV__law_rejected dc__law_rejected pm__law_rejected cd__law_rejected ct__law_rejected : Value}
    (a__law_rejected : PySem.W.nsIn K mainGlobals "_law_rejected" = some (some (.ref f__law_rejected)))
    (l__law_rejected : K.lookup f__law_rejected = some ⟨oc__law_rejected, od__law_rejected, .func (PySem.W.fnOf "_law_rejected" "_law_rejected" (defArgs s__law_rejected) (defBody s__law_rejected) (defScope s__law_rejected) .none kV__law_rejected dc__law_rejected pm__law_rejected an__law_rejected cd__law_rejected ct__law_rejected), sl__law_rejected⟩)
    (y__law_rejected : PySem.W.codeIn K cd__law_rejected "_law_rejected" = true)
    (k__law_rejected : PySem.W.keepIn K (.ref f__law_rejected) = true)
    {f__law_draw : Addr} {od__law_draw an__law_draw : Option Addr} {sl__law_draw : Array (Option Value)} {oc__law_draw kV__law_draw dc__law_draw pm__law_draw cd__law_draw ct__law_draw : Value}
    (a__law_draw : PySem.W.nsIn K mainGlobals "_law_draw" = some (some (.ref f__law_draw)))
    (l__law_draw : K.lookup f__law_draw = some ⟨oc__law_draw, od__law_draw, .func (PySem.W.fnOf "_law_draw" "_law_draw" (defArgs s__law_draw) (defBody s__law_draw) (defScope s__law_draw) .none kV__law_draw dc__law_draw pm__law_draw an__law_draw cd__law_draw ct__law_draw), sl__law_draw⟩)
    (y__law_draw : PySem.W.codeIn K cd__law_draw "_law_draw" = true)
    (k__law_draw : PySem.W.keepIn K (.ref f__law_draw) = true)
    {f__law_pick : Addr} {od__law_pick an__law_pick : Option Addr} {sl__law_pick : Array (Option Value)} {oc__law_pick kV__law_pick dc__law_pick pm__law_pick cd__law_pick ct__law_pick : Value}
    (a__law_pick : PySem.W.nsIn K mainGlobals "_law_pick" = some (some (.ref f__law_pick)))
    (l__law_pick : K.lookup f__law_pick = some ⟨oc__law_pick, od__law_pick, .func (PySem.W.fnOf "_law_pick" "_law_pick" (defArgs s__law_pick) (defBody s__law_pick) (defScope s__law_pick) .none kV__law_pick dc__law_pick pm__law_pick an__law_pick cd__law_pick ct__law_pick), sl__law_pick⟩)
    (y__law_pick : PySem.W.codeIn K cd__law_pick "_law_pick" = true)
    (k__law_pick : PySem.W.keepIn K (.ref f__law_pick) = true)
    {f__law_low : Addr} {od__law_low an__law_low : Option Addr} {sl__law_low : Array (Option Value)} {oc__law_low kV__law_low dc__law_low pm__law_low cd__law_low ct__law_low : Value}
    (a__law_low : PySem.W.nsIn K mainGlobals "_law_low" = some (some (.ref f__law_low)))
    (l__law_low : K.lookup f__law_low = some ⟨oc__law_low, od__law_low, .func (PySem.W.fnOf "_law_low" "_law_low" (defArgs s__law_low) (defBody s__law_low) (defScope s__law_low) .none kV__law_low dc__law_low pm__law_low an__law_low cd__law_low ct__law_low), sl__law_low⟩)
    (y__law_low : PySem.W.codeIn K cd__law_low "_law_low" = true)
    (k__law_low : PySem.W.keepIn K (.ref f__law_low) = true)
    {f__law_fraction : Addr} {od__law_fraction an__law_fraction : Option Addr} {sl__law_fraction : Array (Option Value)} {oc__law_fraction kV__law_fraction dc__law_fraction pm__law_fraction cd__law_fraction ct__law_fraction : Value}
    (a__law_fraction : PySem.W.nsIn K mainGlobals "_law_fraction" = some (some (.ref f__law_fraction)))
    (l__law_fraction : K.lookup f__law_fraction = some ⟨oc__law_fraction, od__law_fraction, .func (PySem.W.fnOf "_law_fraction" "_law_fraction" (defArgs s__law_fraction) (defBody s__law_fraction) (defScope s__law_fraction) .none kV__law_fraction dc__law_fraction pm__law_fraction an__law_fraction cd__law_fraction ct__law_fraction), sl__law_fraction⟩)
    (y__law_fraction : PySem.W.codeIn K cd__law_fraction "_law_fraction" = true)
    (k__law_fraction : PySem.W.keepIn K (.ref f__law_fraction) = true)
    {f_check_whole : Addr} {od_check_whole an_check_whole : Option Addr} {sl_check_whole : Array (Option Value)} {oc_check_whole kV_check_whole dc_check_whole pm_check_whole cd_check_whole ct_check_whole : Value}
    (a_check_whole : PySem.W.nsIn K mainGlobals "check_whole" = some (some (.ref f_check_whole)))
    (l_check_whole : K.lookup f_check_whole = some ⟨oc_check_whole, od_check_whole, .func (PySem.W.fnOf "check_whole" "check_whole" (defArgs s_check_whole) (defBody s_check_whole) (defScope s_check_whole) .none kV_check_whole dc_check_whole pm_check_whole an_check_whole cd_check_whole ct_check_whole), sl_check_whole⟩)
    (y_check_whole : PySem.W.codeIn K cd_check_whole "check_whole" = true)
    (k_check_whole : PySem.W.keepIn K (.ref f_check_whole) = true)
    {f_format_decimal : Addr} {od_format_decimal an_format_decimal : Option Addr} {sl_format_decimal : Array (Option Value)} {oc_format_decimal kV_format_decimal dc_format_decimal pm_format_decimal cd_format_decimal ct_format_decimal : Value}
    (a_format_decimal : PySem.W.nsIn K mainGlobals "format_decimal" = some (some (.ref f_format_decimal)))
    (l_format_decimal : K.lookup f_format_decimal = some ⟨oc_format_decimal, od_format_decimal, .func (PySem.W.fnOf "format_decimal" "format_decimal" (defArgs s_format_decimal) (defBody s_format_decimal) (defScope s_format_decimal) .none kV_format_decimal dc_format_decimal pm_format_decimal an_format_decimal cd_format_decimal ct_format_decimal), sl_format_decimal⟩)
    (y_format_decimal : PySem.W.codeIn K cd_format_decimal "format_decimal" = true)
    (k_format_decimal : PySem.W.keepIn K (.ref f_format_decimal) = true)
    {f_format_rounded : Addr} {od_format_rounded an_format_rounded : Option Addr} {sl_format_rounded : Array (Option Value)} {oc_format_rounded kV_format_rounded dc_format_rounded pm_format_rounded cd_format_rounded ct_format_rounded : Value}
    (a_format_rounded : PySem.W.nsIn K mainGlobals "format_rounded" = some (some (.ref f_format_rounded)))
    (l_format_rounded : K.lookup f_format_rounded = some ⟨oc_format_rounded, od_format_rounded, .func (PySem.W.fnOf "format_rounded" "format_rounded" (defArgs s_format_rounded) (defBody s_format_rounded) (defScope s_format_rounded) .none kV_format_rounded dc_format_rounded pm_format_rounded an_format_rounded cd_format_rounded ct_format_rounded), sl_format_rounded⟩)
    (y_format_rounded : PySem.W.codeIn K cd_format_rounded "format_rounded" = true)
    (k_format_rounded : PySem.W.keepIn K (.ref f_format_rounded) = true)
    {f__law_rules : Addr} {od__law_rules an__law_rules : Option Addr} {sl__law_rules : Array (Option Value)} {oc__law_rules kV__law_rules dc__law_rules pm__law_rules cd__law_rules ct__law_rules : Value}
    (a__law_rules : PySem.W.nsIn K mainGlobals "_law_rules" = some (some (.ref f__law_rules)))
    (l__law_rules : K.lookup f__law_rules = some ⟨oc__law_rules, od__law_rules, .func (PySem.W.fnOf "_law_rules" "_law_rules" (defArgs s__law_rules) (defBody s__law_rules) (defScope s__law_rules) .none kV__law_rules dc__law_rules pm__law_rules an__law_rules cd__law_rules ct__law_rules), sl__law_rules⟩)
    (y__law_rules : PySem.W.codeIn K cd__law_rules "_law_rules" = true)
    (k__law_rules : PySem.W.keepIn K (.ref f__law_rules) = true)
    {f__law_ten : Addr} {od__law_ten an__law_ten : Option Addr} {sl__law_ten : Array (Option Value)} {oc__law_ten kV__law_ten dc__law_ten pm__law_ten cd__law_ten ct__law_ten : Value}
    (a__law_ten : PySem.W.nsIn K mainGlobals "_law_ten" = some (some (.ref f__law_ten)))
    (l__law_ten : K.lookup f__law_ten = some ⟨oc__law_ten, od__law_ten, .func (PySem.W.fnOf "_law_ten" "_law_ten" (defArgs s__law_ten) (defBody s__law_ten) (defScope s__law_ten) .none kV__law_ten dc__law_ten pm__law_ten an__law_ten cd__law_ten ct__law_ten), sl__law_ten⟩)
    (y__law_ten : PySem.W.codeIn K cd__law_ten "_law_ten" = true)
    (k__law_ten : PySem.W.keepIn K (.ref f__law_ten) = true)
    {f__law_written : Addr} {od__law_written an__law_written : Option Addr} {sl__law_written : Array (Option Value)} {oc__law_written kV__law_written dc__law_written pm__law_written cd__law_written ct__law_written : Value}
    (a__law_written : PySem.W.nsIn K mainGlobals "_law_written" = some (some (.ref f__law_written)))
    (l__law_written : K.lookup f__law_written = some ⟨oc__law_written, od__law_written, .func (PySem.W.fnOf "_law_written" "_law_written" (defArgs s__law_written) (defBody s__law_written) (defScope s__law_written) .none kV__law_written dc__law_written pm__law_written an__law_written cd__law_written ct__law_written), sl__law_written⟩)
    (y__law_written : PySem.W.codeIn K cd__law_written "_law_written" = true)
    (k__law_written : PySem.W.keepIn K (.ref f__law_written) = true)
    {f_law : Addr} {od_law an_law : Option Addr} {sl_law : Array (Option Value)} {oc_law kV_law dc_law pm_law cd_law ct_law : Value}
    (a_law : PySem.W.nsIn K mainGlobals "law" = some (some (.ref f_law)))
    (l_law : K.lookup f_law = some ⟨oc_law, od_law, .func (PySem.W.fnOf "law" "law" (defArgs s_law) (defBody s_law) (defScope s_law) .none kV_law dc_law pm_law an_law cd_law ct_law), sl_law⟩)
    (y_law : PySem.W.codeIn K cd_law "law" = true)
    (k_law : PySem.W.keepIn K (.ref f_law) = true)
    (z_ValueError : PySem.W.nsIn K mainGlobals "ValueError" = some none)
    (z_abs : PySem.W.nsIn K mainGlobals "abs" = some none)
    (z_all : PySem.W.nsIn K mainGlobals "all" = some none)
    (z_bool : PySem.W.nsIn K mainGlobals "bool" = some none)
    (z_int : PySem.W.nsIn K mainGlobals "int" = some none)
    (z_isinstance : PySem.W.nsIn K mainGlobals "isinstance" = some none)
    (z_len : PySem.W.nsIn K mainGlobals "len" = some none)
    (z_list : PySem.W.nsIn K mainGlobals "list" = some none)
    (z_range : PySem.W.nsIn K mainGlobals "range" = some none)
    (z_str : PySem.W.nsIn K mainGlobals "str" = some none)
    (z_tuple : PySem.W.nsIn K mainGlobals "tuple" = some none)
    {t_MOST_DIGITS : Tok}
    (q_MOST_DIGITS : PySem.W.nsIn K mainGlobals "MOST_DIGITS" = some (some (.int 6 t_MOST_DIGITS)))
    {t_MOST_UNDER : Tok}
    (q_MOST_UNDER : PySem.W.nsIn K mainGlobals "MOST_UNDER" = some (some (.int 60 t_MOST_UNDER)))
    {a_RULES : Addr} {od_RULES : Option Addr} {n_RULES : Nat} {sl_RULES : Array (Option Value)} {t1 t2 t3 t4 t5 t6 t7 : Tok}
    (q_RULES : PySem.W.nsIn K mainGlobals "RULES" = some (some (.ref a_RULES)))
    (w_RULES : K.lookup a_RULES = some ⟨.type "tuple", od_RULES, .seq #[.str "down" t1, .str "up" t2, .str "zero" t3, .str "near-up" t4, .str "near-zero" t5, .str "near-away" t6, .str "near-even" t7] n_RULES, sl_RULES⟩)
    {t_SIGNS : Tok}
    (q_SIGNS : PySem.W.nsIn K mainGlobals "SIGNS" = some (some (.str "0123456789" t_SIGNS)))
    {C_frac : Addr}
    (xa_frac : PySem.W.nsIn K mainGlobals "BadFraction" = some (some (.ref C_frac)))
    (xe_frac : PySem.W.excIn K C_frac [.type "ValueError", .type "Exception", .type "BaseException", .type "object"] "ValueError.__new__" = true)
    (xk_frac : PySem.W.keepIn K (.ref C_frac) = true)
    (xs_frac : PySem.W.subIn K (.ref C_frac) (.type "BaseException") = some true)
    (xt_frac : PySem.W.typeIn K (.ref C_frac) = some (.type "type"))
    {C_nof : Addr}
    (xa_nof : PySem.W.nsIn K mainGlobals "NotFound" = some (some (.ref C_nof)))
    (xe_nof : PySem.W.excIn K C_nof [.type "ValueError", .type "Exception", .type "BaseException", .type "object"] "ValueError.__new__" = true)
    (xk_nof : PySem.W.keepIn K (.ref C_nof) = true)
    (xs_nof : PySem.W.subIn K (.ref C_nof) (.type "BaseException") = some true)
    (xt_nof : PySem.W.typeIn K (.ref C_nof) = some (.type "type"))
    {C_num : Addr}
    (xa_num : PySem.W.nsIn K mainGlobals "BadNumber" = some (some (.ref C_num)))
    (xe_num : PySem.W.excIn K C_num [.type "ValueError", .type "Exception", .type "BaseException", .type "object"] "ValueError.__new__" = true)
    (xk_num : PySem.W.keepIn K (.ref C_num) = true)
    (xs_num : PySem.W.subIn K (.ref C_num) (.type "BaseException") = some true)
    (xt_num : PySem.W.typeIn K (.ref C_num) = some (.type "type"))
    {C_rng : Addr}
    (xa_rng : PySem.W.nsIn K mainGlobals "BadRange" = some (some (.ref C_rng)))
    (xe_rng : PySem.W.excIn K C_rng [.type "ValueError", .type "Exception", .type "BaseException", .type "object"] "ValueError.__new__" = true)
    (xk_rng : PySem.W.keepIn K (.ref C_rng) = true)
    (xs_rng : PySem.W.subIn K (.ref C_rng) (.type "BaseException") = some true)
    (xt_rng : PySem.W.typeIn K (.ref C_rng) = some (.type "type"))
    {C_rul : Addr}
    (xa_rul : PySem.W.nsIn K mainGlobals "BadRule" = some (some (.ref C_rul)))
    (xe_rul : PySem.W.excIn K C_rul [.type "ValueError", .type "Exception", .type "BaseException", .type "object"] "ValueError.__new__" = true)
    (xk_rul : PySem.W.keepIn K (.ref C_rul) = true)
    (xs_rul : PySem.W.subIn K (.ref C_rul) (.type "BaseException") = some true)
    (xt_rul : PySem.W.typeIn K (.ref C_rul) = some (.type "type"))
    {C_txt : Addr}
    (xa_txt : PySem.W.nsIn K mainGlobals "BadText" = some (some (.ref C_txt)))
    (xe_txt : PySem.W.excIn K C_txt [.type "ValueError", .type "Exception", .type "BaseException", .type "object"] "ValueError.__new__" = true)
    (xk_txt : PySem.W.keepIn K (.ref C_txt) = true)
    (xs_txt : PySem.W.subIn K (.ref C_txt) (.type "BaseException") = some true)
    (xt_txt : PySem.W.typeIn K (.ref C_txt) = some (.type "type"))
    {C_D : Addr}
    (ya_D : PySem.W.nsIn K mainGlobals "DecimalError" = some (some (.ref C_D)))
    (ys_D : PySem.W.subIn K (.ref C_D) (.type "BaseException") = some true)
    (yt_D : PySem.W.typeIn K (.ref C_D) = some (.type "type"))
    (yh_D : PySem.W.hasDictIn K C_D = true)
    (yn : PySem.W.specialIn K (.builtin "object.__class__") "__get__" = some (some (.builtin "getset_descriptor.__get__")))
    (yk : PySem.W.takesIn K (.builtin "object.__class__") = some true)
    (ye_frac : PySem.W.subIn K (.ref C_frac) (.ref C_D) = some true)
    (yv_frac : PySem.W.subIn K (.ref C_frac) (.type "ValueError") = some true)
    (yg_frac : PySem.W.findIn K (.ref C_frac) "__getattribute__" = some (some (.builtin "BaseException.__getattribute__")))
    (yf_frac : PySem.W.findIn K (.ref C_frac) "__getattr__" = some none)
    (yh_frac : PySem.W.hasDictIn K C_frac = true)
    (yc_frac : PySem.W.findIn K (.ref C_frac) "__class__" = some (some (.builtin "object.__class__")))
    (ym_frac : PySem.W.mroIn K C_frac (.type "object") = some true)
    (yx_frac_frac : PySem.W.subIn K (.ref C_frac) (.ref C_frac) = some true)
    (yx_frac_rng : PySem.W.subIn K (.ref C_frac) (.ref C_rng) = some false)
    (yx_frac_rul : PySem.W.subIn K (.ref C_frac) (.ref C_rul) = some false)
    (yx_frac_num : PySem.W.subIn K (.ref C_frac) (.ref C_num) = some false)
    (yx_frac_txt : PySem.W.subIn K (.ref C_frac) (.ref C_txt) = some false)
    (yx_frac_nof : PySem.W.subIn K (.ref C_frac) (.ref C_nof) = some false)
    (ye_rng : PySem.W.subIn K (.ref C_rng) (.ref C_D) = some true)
    (yv_rng : PySem.W.subIn K (.ref C_rng) (.type "ValueError") = some true)
    (yg_rng : PySem.W.findIn K (.ref C_rng) "__getattribute__" = some (some (.builtin "BaseException.__getattribute__")))
    (yf_rng : PySem.W.findIn K (.ref C_rng) "__getattr__" = some none)
    (yh_rng : PySem.W.hasDictIn K C_rng = true)
    (yc_rng : PySem.W.findIn K (.ref C_rng) "__class__" = some (some (.builtin "object.__class__")))
    (ym_rng : PySem.W.mroIn K C_rng (.type "object") = some true)
    (yx_rng_frac : PySem.W.subIn K (.ref C_rng) (.ref C_frac) = some false)
    (yx_rng_rng : PySem.W.subIn K (.ref C_rng) (.ref C_rng) = some true)
    (yx_rng_rul : PySem.W.subIn K (.ref C_rng) (.ref C_rul) = some false)
    (yx_rng_num : PySem.W.subIn K (.ref C_rng) (.ref C_num) = some false)
    (yx_rng_txt : PySem.W.subIn K (.ref C_rng) (.ref C_txt) = some false)
    (yx_rng_nof : PySem.W.subIn K (.ref C_rng) (.ref C_nof) = some false)
    (ye_rul : PySem.W.subIn K (.ref C_rul) (.ref C_D) = some true)
    (yv_rul : PySem.W.subIn K (.ref C_rul) (.type "ValueError") = some true)
    (yg_rul : PySem.W.findIn K (.ref C_rul) "__getattribute__" = some (some (.builtin "BaseException.__getattribute__")))
    (yf_rul : PySem.W.findIn K (.ref C_rul) "__getattr__" = some none)
    (yh_rul : PySem.W.hasDictIn K C_rul = true)
    (yc_rul : PySem.W.findIn K (.ref C_rul) "__class__" = some (some (.builtin "object.__class__")))
    (ym_rul : PySem.W.mroIn K C_rul (.type "object") = some true)
    (yx_rul_frac : PySem.W.subIn K (.ref C_rul) (.ref C_frac) = some false)
    (yx_rul_rng : PySem.W.subIn K (.ref C_rul) (.ref C_rng) = some false)
    (yx_rul_rul : PySem.W.subIn K (.ref C_rul) (.ref C_rul) = some true)
    (yx_rul_num : PySem.W.subIn K (.ref C_rul) (.ref C_num) = some false)
    (yx_rul_txt : PySem.W.subIn K (.ref C_rul) (.ref C_txt) = some false)
    (yx_rul_nof : PySem.W.subIn K (.ref C_rul) (.ref C_nof) = some false)
    (ye_num : PySem.W.subIn K (.ref C_num) (.ref C_D) = some true)
    (yv_num : PySem.W.subIn K (.ref C_num) (.type "ValueError") = some true)
    (yg_num : PySem.W.findIn K (.ref C_num) "__getattribute__" = some (some (.builtin "BaseException.__getattribute__")))
    (yf_num : PySem.W.findIn K (.ref C_num) "__getattr__" = some none)
    (yh_num : PySem.W.hasDictIn K C_num = true)
    (yc_num : PySem.W.findIn K (.ref C_num) "__class__" = some (some (.builtin "object.__class__")))
    (ym_num : PySem.W.mroIn K C_num (.type "object") = some true)
    (yx_num_frac : PySem.W.subIn K (.ref C_num) (.ref C_frac) = some false)
    (yx_num_rng : PySem.W.subIn K (.ref C_num) (.ref C_rng) = some false)
    (yx_num_rul : PySem.W.subIn K (.ref C_num) (.ref C_rul) = some false)
    (yx_num_num : PySem.W.subIn K (.ref C_num) (.ref C_num) = some true)
    (yx_num_txt : PySem.W.subIn K (.ref C_num) (.ref C_txt) = some false)
    (yx_num_nof : PySem.W.subIn K (.ref C_num) (.ref C_nof) = some false)
    (ye_txt : PySem.W.subIn K (.ref C_txt) (.ref C_D) = some true)
    (yv_txt : PySem.W.subIn K (.ref C_txt) (.type "ValueError") = some true)
    (yg_txt : PySem.W.findIn K (.ref C_txt) "__getattribute__" = some (some (.builtin "BaseException.__getattribute__")))
    (yf_txt : PySem.W.findIn K (.ref C_txt) "__getattr__" = some none)
    (yh_txt : PySem.W.hasDictIn K C_txt = true)
    (yc_txt : PySem.W.findIn K (.ref C_txt) "__class__" = some (some (.builtin "object.__class__")))
    (ym_txt : PySem.W.mroIn K C_txt (.type "object") = some true)
    (yx_txt_frac : PySem.W.subIn K (.ref C_txt) (.ref C_frac) = some false)
    (yx_txt_rng : PySem.W.subIn K (.ref C_txt) (.ref C_rng) = some false)
    (yx_txt_rul : PySem.W.subIn K (.ref C_txt) (.ref C_rul) = some false)
    (yx_txt_num : PySem.W.subIn K (.ref C_txt) (.ref C_num) = some false)
    (yx_txt_txt : PySem.W.subIn K (.ref C_txt) (.ref C_txt) = some true)
    (yx_txt_nof : PySem.W.subIn K (.ref C_txt) (.ref C_nof) = some false)
    (ye_nof : PySem.W.subIn K (.ref C_nof) (.ref C_D) = some true)
    (yv_nof : PySem.W.subIn K (.ref C_nof) (.type "ValueError") = some true)
    (yg_nof : PySem.W.findIn K (.ref C_nof) "__getattribute__" = some (some (.builtin "BaseException.__getattribute__")))
    (yf_nof : PySem.W.findIn K (.ref C_nof) "__getattr__" = some none)
    (yh_nof : PySem.W.hasDictIn K C_nof = true)
    (yc_nof : PySem.W.findIn K (.ref C_nof) "__class__" = some (some (.builtin "object.__class__")))
    (ym_nof : PySem.W.mroIn K C_nof (.type "object") = some true)
    (yx_nof_frac : PySem.W.subIn K (.ref C_nof) (.ref C_frac) = some false)
    (yx_nof_rng : PySem.W.subIn K (.ref C_nof) (.ref C_rng) = some false)
    (yx_nof_rul : PySem.W.subIn K (.ref C_nof) (.ref C_rul) = some false)
    (yx_nof_num : PySem.W.subIn K (.ref C_nof) (.ref C_num) = some false)
    (yx_nof_txt : PySem.W.subIn K (.ref C_nof) (.ref C_txt) = some false)
    (yx_nof_nof : PySem.W.subIn K (.ref C_nof) (.ref C_nof) = some true)
    : ∃ fd : FuncData, (∀ (s : Shared) (v : Value), BindsTo s fd ⟨[v], []⟩ [("script", v)]) ∧ ∀ base : Heap, K.In base → base.Ns mainGlobals mg → FnOk l.prog w K mg base (L2.CX l.prog w) 8 fa fd ["script"] (DL.spL K) := by
  have e := hfa.symm.trans (PySem.W.mg_of X G a_law)
  cases e
  have m_ValueError := PySem.W.mg_none_of X G z_ValueError
  have m_abs := PySem.W.mg_none_of X G z_abs
  have m_all := PySem.W.mg_none_of X G z_all
  have m_bool := PySem.W.mg_none_of X G z_bool
  have m_int := PySem.W.mg_none_of X G z_int
  have m_isinstance := PySem.W.mg_none_of X G z_isinstance
  have m_len := PySem.W.mg_none_of X G z_len
  have m_list := PySem.W.mg_none_of X G z_list
  have m_range := PySem.W.mg_none_of X G z_range
  have m_str := PySem.W.mg_none_of X G z_str
  have m_tuple := PySem.W.mg_none_of X G z_tuple
  have g_MOST_DIGITS : ∃ t, mg "MOST_DIGITS" = some (.int 6 t) := ⟨_, PySem.W.mg_of X G q_MOST_DIGITS⟩
  have g_MOST_UNDER : ∃ t, mg "MOST_UNDER" = some (.int 60 t) := ⟨_, PySem.W.mg_of X G q_MOST_UNDER⟩
  have g_RULES := PySem.W.mg_of X G q_RULES
  have d_RULES := fun H => d_rules w_RULES H
  have g_SIGNS : ∃ t, mg "SIGNS" = some (.str "0123456789" t) := ⟨_, PySem.W.mg_of X G q_SIGNS⟩
  have X_frac : Xf K mg "BadFraction" ((caOf C_frac C_rng C_rul C_num C_txt C_nof) .frac) := ⟨PySem.W.mg_of X G xa_frac, xe_frac, xk_frac, xs_frac, xt_frac⟩
  have X_nof : Xf K mg "NotFound" ((caOf C_frac C_rng C_rul C_num C_txt C_nof) .nof) := ⟨PySem.W.mg_of X G xa_nof, xe_nof, xk_nof, xs_nof, xt_nof⟩
  have X_num : Xf K mg "BadNumber" ((caOf C_frac C_rng C_rul C_num C_txt C_nof) .num) := ⟨PySem.W.mg_of X G xa_num, xe_num, xk_num, xs_num, xt_num⟩
  have X_rng : Xf K mg "BadRange" ((caOf C_frac C_rng C_rul C_num C_txt C_nof) .rng) := ⟨PySem.W.mg_of X G xa_rng, xe_rng, xk_rng, xs_rng, xt_rng⟩
  have X_rul : Xf K mg "BadRule" ((caOf C_frac C_rng C_rul C_num C_txt C_nof) .rul) := ⟨PySem.W.mg_of X G xa_rul, xe_rul, xk_rul, xs_rul, xt_rul⟩
  have X_txt : Xf K mg "BadText" ((caOf C_frac C_rng C_rul C_num C_txt C_nof) .txt) := ⟨PySem.W.mg_of X G xa_txt, xe_txt, xk_txt, xs_txt, xt_txt⟩
  have XI : XIs K mg (caOf C_frac C_rng C_rul C_num C_txt C_nof) C_D := {
    gD := PySem.W.mg_of X G ya_D
    exm := (fun er => match er with | .frac => PySem.W.exm_ref ys_D yh_D yt_D ye_frac | .rng => PySem.W.exm_ref ys_D yh_D yt_D ye_rng | .rul => PySem.W.exm_ref ys_D yh_D yt_D ye_rul | .num => PySem.W.exm_ref ys_D yh_D yt_D ye_num | .txt => PySem.W.exm_ref ys_D yh_D yt_D ye_txt | .nof => PySem.W.exm_ref ys_D yh_D yt_D ye_nof)
    kD := (fun er => match er with | .frac => kit_ref yh_D yt_D ye_frac yx_frac_frac | .rng => kit_ref yh_D yt_D ye_rng yx_rng_rng | .rul => kit_ref yh_D yt_D ye_rul yx_rul_rul | .num => kit_ref yh_D yt_D ye_num yx_num_num | .txt => kit_ref yh_D yt_D ye_txt yx_txt_txt | .nof => kit_ref yh_D yt_D ye_nof yx_nof_nof)
    kV := (fun er => match er with | .frac => kit_ve yv_frac | .rng => kit_ve yv_rng | .rul => kit_ve yv_rul | .num => kit_ve yv_num | .txt => kit_ve yv_txt | .nof => kit_ve yv_nof)
    ex := (fun er => match er with | .frac => ⟨yg_frac, yf_frac, xs_frac, yh_frac, yc_frac, yn, yk, ym_frac⟩ | .rng => ⟨yg_rng, yf_rng, xs_rng, yh_rng, yc_rng, yn, yk, ym_rng⟩ | .rul => ⟨yg_rul, yf_rul, xs_rul, yh_rul, yc_rul, yn, yk, ym_rul⟩ | .num => ⟨yg_num, yf_num, xs_num, yh_num, yc_num, yn, yk, ym_num⟩ | .txt => ⟨yg_txt, yf_txt, xs_txt, yh_txt, yc_txt, yn, yk, ym_txt⟩ | .nof => ⟨yg_nof, yf_nof, xs_nof, yh_nof, yc_nof, yn, yk, ym_nof⟩)
    kit := fun er er' => match er, er' with | .frac, .frac => kit_ref yh_frac xt_frac yx_frac_frac yx_frac_frac | .frac, .rng => kit_ref yh_rng xt_rng yx_frac_rng yx_frac_frac | .frac, .rul => kit_ref yh_rul xt_rul yx_frac_rul yx_frac_frac | .frac, .num => kit_ref yh_num xt_num yx_frac_num yx_frac_frac | .frac, .txt => kit_ref yh_txt xt_txt yx_frac_txt yx_frac_frac | .frac, .nof => kit_ref yh_nof xt_nof yx_frac_nof yx_frac_frac | .rng, .frac => kit_ref yh_frac xt_frac yx_rng_frac yx_rng_rng | .rng, .rng => kit_ref yh_rng xt_rng yx_rng_rng yx_rng_rng | .rng, .rul => kit_ref yh_rul xt_rul yx_rng_rul yx_rng_rng | .rng, .num => kit_ref yh_num xt_num yx_rng_num yx_rng_rng | .rng, .txt => kit_ref yh_txt xt_txt yx_rng_txt yx_rng_rng | .rng, .nof => kit_ref yh_nof xt_nof yx_rng_nof yx_rng_rng | .rul, .frac => kit_ref yh_frac xt_frac yx_rul_frac yx_rul_rul | .rul, .rng => kit_ref yh_rng xt_rng yx_rul_rng yx_rul_rul | .rul, .rul => kit_ref yh_rul xt_rul yx_rul_rul yx_rul_rul | .rul, .num => kit_ref yh_num xt_num yx_rul_num yx_rul_rul | .rul, .txt => kit_ref yh_txt xt_txt yx_rul_txt yx_rul_rul | .rul, .nof => kit_ref yh_nof xt_nof yx_rul_nof yx_rul_rul | .num, .frac => kit_ref yh_frac xt_frac yx_num_frac yx_num_num | .num, .rng => kit_ref yh_rng xt_rng yx_num_rng yx_num_num | .num, .rul => kit_ref yh_rul xt_rul yx_num_rul yx_num_num | .num, .num => kit_ref yh_num xt_num yx_num_num yx_num_num | .num, .txt => kit_ref yh_txt xt_txt yx_num_txt yx_num_num | .num, .nof => kit_ref yh_nof xt_nof yx_num_nof yx_num_num | .txt, .frac => kit_ref yh_frac xt_frac yx_txt_frac yx_txt_txt | .txt, .rng => kit_ref yh_rng xt_rng yx_txt_rng yx_txt_txt | .txt, .rul => kit_ref yh_rul xt_rul yx_txt_rul yx_txt_txt | .txt, .num => kit_ref yh_num xt_num yx_txt_num yx_txt_txt | .txt, .txt => kit_ref yh_txt xt_txt yx_txt_txt yx_txt_txt | .txt, .nof => kit_ref yh_nof xt_nof yx_txt_nof yx_txt_txt | .nof, .frac => kit_ref yh_frac xt_frac yx_nof_frac yx_nof_nof | .nof, .rng => kit_ref yh_rng xt_rng yx_nof_rng yx_nof_nof | .nof, .rul => kit_ref yh_rul xt_rul yx_nof_rul yx_nof_nof | .nof, .num => kit_ref yh_num xt_num yx_nof_num yx_nof_nof | .nof, .txt => kit_ref yh_txt xt_txt yx_nof_txt yx_nof_nof | .nof, .nof => kit_ref yh_nof xt_nof yx_nof_nof yx_nof_nof
    g0 := PySem.W.mg_of X G xa_frac
    g1 := PySem.W.mg_of X G xa_rng
    g2 := PySem.W.mg_of X G xa_rul
    g3 := PySem.W.mg_of X G xa_num
    g4 := PySem.W.mg_of X G xa_txt
    g5 := PySem.W.mg_of X G xa_nof
    exn := PySem.W.exm_ref xs_nof yh_nof xt_nof yx_nof_nof
  }
  refine ⟨PySem.W.fnOf "law" "law" (defArgs s_law) (defBody s_law) (defScope s_law) .none kV_law dc_law pm_law an_law cd_law ct_law, fun s v => .of_eq rfl, fun base _ _ => ?_⟩
  have U__law_start := fun_mk (st := s__law_start) l__law_start y__law_start k__law_start
  have F__law_start : FdS l.prog w K mg base "_law_start" 1 := ⟨_, _, _, ok__law_start U__law_start m_list, (PySem.W.mg_of X G a__law_start), U__law_start.kp, U__law_start.binds (fun _ _ _ _ _ _ us hl => match us, hl with | [_], _ => rfl)⟩
  have U_common := fun_mk (st := s_common) l_common y_common k_common
  have F_common : Fd l.prog w K mg base (caOf C_frac C_rng C_rul C_num C_txt C_nof) "common" c_common 2 1 := Fd.mk' U_common (PySem.W.mg_of X G a_common) (ok_common U_common m_abs) (fun _ _ _ _ _ _ us hl => match us, hl with | [_, _], _ => rfl)
  have U_is_int := fun_mk (st := s_is_int) l_is_int y_is_int k_is_int
  have F_is_int : Fd l.prog w K mg base (caOf C_frac C_rng C_rul C_num C_txt C_nof) "is_int" c_is_int 3 1 := Fd.mk' U_is_int (PySem.W.mg_of X G a_is_int) (ok_is_int U_is_int m_bool m_int m_isinstance) (fun _ _ _ _ _ _ us hl => match us, hl with | [_, _, _], _ => rfl)
  have U_is_fraction := fun_mk (st := s_is_fraction) l_is_fraction y_is_fraction k_is_fraction
  have F_is_fraction : Fd l.prog w K mg base (caOf C_frac C_rng C_rul C_num C_txt C_nof) "is_fraction" c_is_fraction 1 2 := Fd.mk' U_is_fraction (PySem.W.mg_of X G a_is_fraction) (ok_is_fraction U_is_fraction F_common F_is_int m_isinstance m_len m_tuple g_MOST_UNDER) (fun _ _ _ _ _ _ us hl => match us, hl with | [_], _ => rfl)
  have U_check_fraction := fun_mk (st := s_check_fraction) l_check_fraction y_check_fraction k_check_fraction
  have F_check_fraction : Fd l.prog w K mg base (caOf C_frac C_rng C_rul C_num C_txt C_nof) "check_fraction" c_check_fraction 1 3 := Fd.mk' U_check_fraction (PySem.W.mg_of X G a_check_fraction) (ok_check_fraction U_check_fraction F_is_fraction X_frac) (fun _ _ _ _ _ _ us hl => match us, hl with | [_], _ => rfl)
  have U_check_digits := fun_mk (st := s_check_digits) l_check_digits y_check_digits k_check_digits
  have F_check_digits : Fd l.prog w K mg base (caOf C_frac C_rng C_rul C_num C_txt C_nof) "check_digits" c_check_digits 1 2 := Fd.mk' U_check_digits (PySem.W.mg_of X G a_check_digits) (ok_check_digits U_check_digits F_is_int g_MOST_DIGITS X_num) (fun _ _ _ _ _ _ us hl => match us, hl with | [_], _ => rfl)
  have U_check_rule := fun_mk (st := s_check_rule) l_check_rule y_check_rule k_check_rule
  have F_check_rule : Fd l.prog w K mg base (caOf C_frac C_rng C_rul C_num C_txt C_nof) "check_rule" c_check_rule 1 1 := Fd.mk' U_check_rule (PySem.W.mg_of X G a_check_rule) (ok_check_rule U_check_rule m_isinstance m_str g_RULES d_RULES X_rul) (fun _ _ _ _ _ _ us hl => match us, hl with | [_], _ => rfl)
  have U_power_of := fun_mk (st := s_power_of) l_power_of y_power_of k_power_of
  have F_power_of : Fd l.prog w K mg base (caOf C_frac C_rng C_rul C_num C_txt C_nof) "power_of" c_power_of 1 1 := Fd.mk' U_power_of (PySem.W.mg_of X G a_power_of) (ok_power_of U_power_of m_range) (fun _ _ _ _ _ _ us hl => match us, hl with | [_], _ => rfl)
  have U_units_of := fun_mk (st := s_units_of) l_units_of y_units_of k_units_of
  have F_units_of : Fd l.prog w K mg base (caOf C_frac C_rng C_rul C_num C_txt C_nof) "units_of" c_units_of 3 2 := Fd.mk' U_units_of (PySem.W.mg_of X G a_units_of) (ok_units_of U_units_of F_power_of) (fun _ _ _ _ _ _ us hl => match us, hl with | [_, _, _], _ => rfl)
  have U_rounded := fun_mk (st := s_rounded) l_rounded y_rounded k_rounded
  have F_rounded : Fd l.prog w K mg base (caOf C_frac C_rng C_rul C_num C_txt C_nof) "rounded" c_rounded 3 4 := Fd.mk' U_rounded (PySem.W.mg_of X G a_rounded) (ok_rounded U_rounded F_check_fraction F_check_digits F_check_rule F_units_of) (fun _ _ _ _ _ _ us hl => match us, hl with | [_, _, _], _ => rfl)
  have U__law_error := fun_mk (st := s__law_error) l__law_error y__law_error k__law_error
  have F__law_error : FdX l.prog w K mg base (caOf C_frac C_rng C_rul C_num C_txt C_nof) "_law_error" 1 := ⟨_, _, _, ok__law_error U__law_error m_ValueError m_isinstance XI, (PySem.W.mg_of X G a__law_error), U__law_error.kp, U__law_error.binds (fun _ _ _ _ _ _ us hl => match us, hl with | [_], _ => rfl)⟩
  have U_written := fun_mk (st := s_written) l_written y_written k_written
  have F_written : Fd l.prog w K mg base (caOf C_frac C_rng C_rul C_num C_txt C_nof) "written" c_written 2 2 := Fd.mk' U_written (PySem.W.mg_of X G a_written) (ok_written U_written F_power_of m_abs m_len m_str) (fun _ _ _ _ _ _ us hl => match us, hl with | [_, _], _ => rfl)
  have U_parse_decimal := fun_mk (st := s_parse_decimal) l_parse_decimal y_parse_decimal k_parse_decimal
  have F_parse_decimal : Fd l.prog w K mg base (caOf C_frac C_rng C_rul C_num C_txt C_nof) "parse_decimal" c_parse_decimal 1 3 := Fd.mk' U_parse_decimal (PySem.W.mg_of X G a_parse_decimal) (ok_parse_decimal U_parse_decimal F_written F_power_of m_abs m_all m_int m_isinstance m_len m_str g_MOST_DIGITS g_SIGNS X_txt) (fun _ _ _ _ _ _ us hl => match us, hl with | [_], _ => rfl)
  have U_format_fraction := fun_mk (st := s_format_fraction) l_format_fraction y_format_fraction k_format_fraction
  have F_format_fraction : Fd l.prog w K mg base (caOf C_frac C_rng C_rul C_num C_txt C_nof) "format_fraction" c_format_fraction 1 4 := Fd.mk' U_format_fraction (PySem.W.mg_of X G a_format_fraction) (ok_format_fraction U_format_fraction F_check_fraction m_str) (fun _ _ _ _ _ _ us hl => match us, hl with | [_], _ => rfl)
  have U_parse_fraction := fun_mk (st := s_parse_fraction) l_parse_fraction y_parse_fraction k_parse_fraction
  have F_parse_fraction : Fd l.prog w K mg base (caOf C_frac C_rng C_rul C_num C_txt C_nof) "parse_fraction" c_parse_fraction 1 5 := Fd.mk' U_parse_fraction (PySem.W.mg_of X G a_parse_fraction) (ok_parse_fraction U_parse_fraction F_is_fraction F_format_fraction m_all m_int m_isinstance m_len m_str g_SIGNS X_txt) (fun _ _ _ _ _ _ us hl => match us, hl with | [_], _ => rfl)
  have U__law_parsed := fun_mk (st := s__law_parsed) l__law_parsed y__law_parsed k__law_parsed
  have F__law_parsed : Fd l.prog w K mg base (caOf C_frac C_rng C_rul C_num C_txt C_nof) "_law_parsed" c__law_parsed 2 6 := Fd.mk' U__law_parsed (PySem.W.mg_of X G a__law_parsed) (ok__law_parsed U__law_parsed F__law_error F_parse_decimal F_parse_fraction XI) (fun _ _ _ _ _ _ us hl => match us, hl with | [_, _], _ => rfl)
  have U__law_rejected := fun_mk (st := s__law_rejected) l__law_rejected y__law_rejected k__law_rejected
  have F__law_rejected : Fd l.prog w K mg base (caOf C_frac C_rng C_rul C_num C_txt C_nof) "_law_rejected" c__law_rejected 0 7 := Fd.mk' U__law_rejected (PySem.W.mg_of X G a__law_rejected) (ok__law_rejected U__law_rejected F__law_parsed) (fun _ _ _ _ _ _ us hl => match us, hl with | [], _ => rfl)
  have U__law_draw := fun_mk (st := s__law_draw) l__law_draw y__law_draw k__law_draw
  have F__law_draw : FdW l.prog w K mg base (caOf C_frac C_rng C_rul C_num C_txt C_nof) "_law_draw" c__law_draw 1 1 := FdW.mk' U__law_draw (PySem.W.mg_of X G a__law_draw) (ok__law_draw U__law_draw m_len) (fun _ _ _ _ _ _ us hl => match us, hl with | [_, _], _ => rfl)
  have U__law_pick := fun_mk (st := s__law_pick) l__law_pick y__law_pick k__law_pick
  have F__law_pick : FdW l.prog w K mg base (caOf C_frac C_rng C_rul C_num C_txt C_nof) "_law_pick" c__law_pick 1 2 := FdW.mk' U__law_pick (PySem.W.mg_of X G a__law_pick) (ok__law_pick U__law_pick F__law_draw m_len) (fun _ _ _ _ _ _ us hl => match us, hl with | [_, _], _ => rfl)
  have U__law_low := fun_mk (st := s__law_low) l__law_low y__law_low k__law_low
  have F__law_low : Fd l.prog w K mg base (caOf C_frac C_rng C_rul C_num C_txt C_nof) "_law_low" c__law_low 2 1 := Fd.mk' U__law_low (PySem.W.mg_of X G a__law_low) (ok__law_low U__law_low m_abs) (fun _ _ _ _ _ _ us hl => match us, hl with | [_, _], _ => rfl)
  have U__law_fraction := fun_mk (st := s__law_fraction) l__law_fraction y__law_fraction k__law_fraction
  have F__law_fraction : FdW l.prog w K mg base (caOf C_frac C_rng C_rul C_num C_txt C_nof) "_law_fraction" c__law_fraction 0 3 := FdW.mk' U__law_fraction (PySem.W.mg_of X G a__law_fraction) (ok__law_fraction U__law_fraction F__law_pick F__law_low F__law_draw) (fun _ _ _ _ _ _ us hl => match us, hl with | [_], _ => rfl)
  have U_check_whole := fun_mk (st := s_check_whole) l_check_whole y_check_whole k_check_whole
  have F_check_whole : Fd l.prog w K mg base (caOf C_frac C_rng C_rul C_num C_txt C_nof) "check_whole" c_check_whole 2 2 := Fd.mk' U_check_whole (PySem.W.mg_of X G a_check_whole) (ok_check_whole U_check_whole F_is_int F_power_of X_num) (fun _ _ _ _ _ _ us hl => match us, hl with | [_, _], _ => rfl)
  have U_format_decimal := fun_mk (st := s_format_decimal) l_format_decimal y_format_decimal k_format_decimal
  have F_format_decimal : Fd l.prog w K mg base (caOf C_frac C_rng C_rul C_num C_txt C_nof) "format_decimal" c_format_decimal 2 3 := Fd.mk' U_format_decimal (PySem.W.mg_of X G a_format_decimal) (ok_format_decimal U_format_decimal F_check_digits F_check_whole F_written) (fun _ _ _ _ _ _ us hl => match us, hl with | [_, _], _ => rfl)
  have U_format_rounded := fun_mk (st := s_format_rounded) l_format_rounded y_format_rounded k_format_rounded
  have F_format_rounded : Fd l.prog w K mg base (caOf C_frac C_rng C_rul C_num C_txt C_nof) "format_rounded" c_format_rounded 3 4 := Fd.mk' U_format_rounded (PySem.W.mg_of X G a_format_rounded) (ok_format_rounded U_format_rounded F_check_fraction F_check_digits F_check_rule F_written F_units_of) (fun _ _ _ _ _ _ us hl => match us, hl with | [_, _, _], _ => rfl)
  have U__law_rules := fun_mk (st := s__law_rules) l__law_rules y__law_rules k__law_rules
  have F__law_rules : Fd l.prog w K mg base (caOf C_frac C_rng C_rul C_num C_txt C_nof) "_law_rules" c__law_rules 0 1 := Fd.mk' U__law_rules (PySem.W.mg_of X G a__law_rules) (ok__law_rules U__law_rules ) (fun _ _ _ _ _ _ us hl => match us, hl with | [], _ => rfl)
  have U__law_ten := fun_mk (st := s__law_ten) l__law_ten y__law_ten k__law_ten
  have F__law_ten : Fd l.prog w K mg base (caOf C_frac C_rng C_rul C_num C_txt C_nof) "_law_ten" c__law_ten 1 1 := Fd.mk' U__law_ten (PySem.W.mg_of X G a__law_ten) (ok__law_ten U__law_ten m_int) (fun _ _ _ _ _ _ us hl => match us, hl with | [_], _ => rfl)
  have U__law_written := fun_mk (st := s__law_written) l__law_written y__law_written k__law_written
  have F__law_written : Fd l.prog w K mg base (caOf C_frac C_rng C_rul C_num C_txt C_nof) "_law_written" c__law_written 2 2 := Fd.mk' U__law_written (PySem.W.mg_of X G a__law_written) (ok__law_written U__law_written F__law_ten m_abs m_len m_str) (fun _ _ _ _ _ _ us hl => match us, hl with | [_, _], _ => rfl)
  have U_law := fun_mk (st := s_law) l_law y_law k_law
  exact ok_law (ca := (caOf C_frac C_rng C_rul C_num C_txt C_nof)) U_law F__law_start F_rounded F__law_rejected F__law_fraction F__law_draw F__law_pick F_format_decimal F_format_fraction F_format_rounded F__law_rules F__law_parsed F__law_written m_len m_range
end SD
open PySem PySem.W PyProof.Rows
set_option maxHeartbeats 0 in
theorem PySem.Challenge.cw_shortdecimals_k09_whole_texts_holds : PySem.Challenge.rw_shortdecimals_k09_whole_texts.Holds := by
  w_on; o_law; k_head; (case hw => w_witness2)
  k_fill
  refine L2.walk_of (l := PySem.Challenge.rw_shortdecimals_k09_whole_texts) (n := 63) (k := 8) (x := "script") (CX := fun w => L2.CX PySem.Challenge.rw_shortdecimals_k09_whole_texts.prog w) (sp := fun w => DL.spL _) rfl (by decide) rfl ⟨rfl, by decide, by decide⟩ (fun w h Y => PySem.W.kIn_of Y) ?F (fun _ _ a ns hl _ hS => ⟨a, ns, rfl, hS, hl, fun _ => rfl⟩) (fun _ H s e s' h => SD.no_cx H s e s' h)
  case F =>
    intro w mg fa h KX G hmg
    refine' SD.all_mk KX G hmg ?a__law_start ?l__law_start ?y__law_start ?k__law_start ?a_common ?l_common ?y_common ?k_common ?a_is_int ?l_is_int ?y_is_int ?k_is_int ?a_is_fraction ?l_is_fraction ?y_is_fraction ?k_is_fraction ?a_check_fraction ?l_check_fraction ?y_check_fraction ?k_check_fraction ?a_check_digits ?l_check_digits ?y_check_digits ?k_check_digits ?a_check_rule ?l_check_rule ?y_check_rule ?k_check_rule ?a_power_of ?l_power_of ?y_power_of ?k_power_of ?a_units_of ?l_units_of ?y_units_of ?k_units_of ?a_rounded ?l_rounded ?y_rounded ?k_rounded ?a__law_error ?l__law_error ?y__law_error ?k__law_error ?a_written ?l_written ?y_written ?k_written ?a_parse_decimal ?l_parse_decimal ?y_parse_decimal ?k_parse_decimal ?a_format_fraction ?l_format_fraction ?y_format_fraction ?k_format_fraction ?a_parse_fraction ?l_parse_fraction ?y_parse_fraction ?k_parse_fraction ?a__law_parsed ?l__law_parsed ?y__law_parsed ?k__law_parsed ?a__law_rejected ?l__law_rejected ?y__law_rejected ?k__law_rejected ?a__law_draw ?l__law_draw ?y__law_draw ?k__law_draw ?a__law_pick ?l__law_pick ?y__law_pick ?k__law_pick ?a__law_low ?l__law_low ?y__law_low ?k__law_low ?a__law_fraction ?l__law_fraction ?y__law_fraction ?k__law_fraction ?a_check_whole ?l_check_whole ?y_check_whole ?k_check_whole ?a_format_decimal ?l_format_decimal ?y_format_decimal ?k_format_decimal ?a_format_rounded ?l_format_rounded ?y_format_rounded ?k_format_rounded ?a__law_rules ?l__law_rules ?y__law_rules ?k__law_rules ?a__law_ten ?l__law_ten ?y__law_ten ?k__law_ten ?a__law_written ?l__law_written ?y__law_written ?k__law_written ?a_law ?l_law ?y_law ?k_law ?z_ValueError ?z_abs ?z_all ?z_bool ?z_int ?z_isinstance ?z_len ?z_list ?z_range ?z_str ?z_tuple ?q_MOST_DIGITS ?q_MOST_UNDER ?q_RULES ?w_RULES ?q_SIGNS ?xa_frac ?xe_frac ?xk_frac ?xs_frac ?xt_frac ?xa_nof ?xe_nof ?xk_nof ?xs_nof ?xt_nof ?xa_num ?xe_num ?xk_num ?xs_num ?xt_num ?xa_rng ?xe_rng ?xk_rng ?xs_rng ?xt_rng ?xa_rul ?xe_rul ?xk_rul ?xs_rul ?xt_rul ?xa_txt ?xe_txt ?xk_txt ?xs_txt ?xt_txt ?ya_D ?ys_D ?yt_D ?yh_D ?yn ?yk ?ye_frac ?yv_frac ?yg_frac ?yf_frac ?yh_frac ?yc_frac ?ym_frac ?yx_frac_frac ?yx_frac_rng ?yx_frac_rul ?yx_frac_num ?yx_frac_txt ?yx_frac_nof ?ye_rng ?yv_rng ?yg_rng ?yf_rng ?yh_rng ?yc_rng ?ym_rng ?yx_rng_frac ?yx_rng_rng ?yx_rng_rul ?yx_rng_num ?yx_rng_txt ?yx_rng_nof ?ye_rul ?yv_rul ?yg_rul ?yf_rul ?yh_rul ?yc_rul ?ym_rul ?yx_rul_frac ?yx_rul_rng ?yx_rul_rul ?yx_rul_num ?yx_rul_txt ?yx_rul_nof ?ye_num ?yv_num ?yg_num ?yf_num ?yh_num ?yc_num ?ym_num ?yx_num_frac ?yx_num_rng ?yx_num_rul ?yx_num_num ?yx_num_txt ?yx_num_nof ?ye_txt ?yv_txt ?yg_txt ?yf_txt ?yh_txt ?yc_txt ?ym_txt ?yx_txt_frac ?yx_txt_rng ?yx_txt_rul ?yx_txt_num ?yx_txt_txt ?yx_txt_nof ?ye_nof ?yv_nof ?yg_nof ?yf_nof ?yh_nof ?yc_nof ?ym_nof ?yx_nof_frac ?yx_nof_rng ?yx_nof_rul ?yx_nof_num ?yx_nof_txt ?yx_nof_nof
    (case a__law_start => k_is); (case l__law_start => k_is); (case y__law_start => k_is); (case k__law_start => k_is)
    (case a_common => k_is); (case l_common => k_is); (case y_common => k_is); (case k_common => k_is)
    (case a_is_int => k_is); (case l_is_int => k_is); (case y_is_int => k_is); (case k_is_int => k_is)
    (case a_is_fraction => k_is); (case l_is_fraction => k_is); (case y_is_fraction => k_is); (case k_is_fraction => k_is)
    (case a_check_fraction => k_is); (case l_check_fraction => k_is); (case y_check_fraction => k_is); (case k_check_fraction => k_is)
    (case a_check_digits => k_is); (case l_check_digits => k_is); (case y_check_digits => k_is); (case k_check_digits => k_is)
    (case a_check_rule => k_is); (case l_check_rule => k_is); (case y_check_rule => k_is); (case k_check_rule => k_is)
    (case a_power_of => k_is); (case l_power_of => k_is); (case y_power_of => k_is); (case k_power_of => k_is)
    (case a_units_of => k_is); (case l_units_of => k_is); (case y_units_of => k_is); (case k_units_of => k_is)
    (case a_rounded => k_is); (case l_rounded => k_is); (case y_rounded => k_is); (case k_rounded => k_is)
    (case a__law_error => k_is); (case l__law_error => k_is); (case y__law_error => k_is); (case k__law_error => k_is)
    (case a_written => k_is); (case l_written => k_is); (case y_written => k_is); (case k_written => k_is)
    (case a_parse_decimal => k_is); (case l_parse_decimal => k_is); (case y_parse_decimal => k_is); (case k_parse_decimal => k_is)
    (case a_format_fraction => k_is); (case l_format_fraction => k_is); (case y_format_fraction => k_is); (case k_format_fraction => k_is)
    (case a_parse_fraction => k_is); (case l_parse_fraction => k_is); (case y_parse_fraction => k_is); (case k_parse_fraction => k_is)
    (case a__law_parsed => k_is); (case l__law_parsed => k_is); (case y__law_parsed => k_is); (case k__law_parsed => k_is)
    (case a__law_rejected => k_is); (case l__law_rejected => k_is); (case y__law_rejected => k_is); (case k__law_rejected => k_is)
    (case a__law_draw => k_is); (case l__law_draw => k_is); (case y__law_draw => k_is); (case k__law_draw => k_is)
    (case a__law_pick => k_is); (case l__law_pick => k_is); (case y__law_pick => k_is); (case k__law_pick => k_is)
    (case a__law_low => k_is); (case l__law_low => k_is); (case y__law_low => k_is); (case k__law_low => k_is)
    (case a__law_fraction => k_is); (case l__law_fraction => k_is); (case y__law_fraction => k_is); (case k__law_fraction => k_is)
    (case a_check_whole => k_is); (case l_check_whole => k_is); (case y_check_whole => k_is); (case k_check_whole => k_is)
    (case a_format_decimal => k_is); (case l_format_decimal => k_is); (case y_format_decimal => k_is); (case k_format_decimal => k_is)
    (case a_format_rounded => k_is); (case l_format_rounded => k_is); (case y_format_rounded => k_is); (case k_format_rounded => k_is)
    (case a__law_rules => k_is); (case l__law_rules => k_is); (case y__law_rules => k_is); (case k__law_rules => k_is)
    (case a__law_ten => k_is); (case l__law_ten => k_is); (case y__law_ten => k_is); (case k__law_ten => k_is)
    (case a__law_written => k_is); (case l__law_written => k_is); (case y__law_written => k_is); (case k__law_written => k_is)
    (case a_law => k_is); (case l_law => k_is); (case y_law => k_is); (case k_law => k_is)
    (case z_ValueError => k_is); (case z_abs => k_is); (case z_all => k_is); (case z_bool => k_is)
    (case z_int => k_is); (case z_isinstance => k_is); (case z_len => k_is); (case z_list => k_is)
    (case z_range => k_is); (case z_str => k_is); (case z_tuple => k_is); (case q_MOST_DIGITS => k_is)
    (case q_MOST_UNDER => k_is); (case q_RULES => k_is); (case w_RULES => k_is); (case q_SIGNS => k_is)
    (case xa_frac => k_is); (case xe_frac => k_exc); (case xk_frac => k_is); (case xs_frac => k_is)
    (case xt_frac => k_is); (case xa_nof => k_is); (case xe_nof => k_exc); (case xk_nof => k_is)
    (case xs_nof => k_is); (case xt_nof => k_is); (case xa_num => k_is); (case xe_num => k_exc)
    (case xk_num => k_is); (case xs_num => k_is); (case xt_num => k_is); (case xa_rng => k_is)
    (case xe_rng => k_exc); (case xk_rng => k_is); (case xs_rng => k_is); (case xt_rng => k_is)
    (case xa_rul => k_is); (case xe_rul => k_exc); (case xk_rul => k_is); (case xs_rul => k_is)
    (case xt_rul => k_is); (case xa_txt => k_is); (case xe_txt => k_exc); (case xk_txt => k_is)
    (case xs_txt => k_is); (case xt_txt => k_is); (case ya_D => k_is); (case ys_D => k_is)
    (case yt_D => k_is); (case yh_D => k_is); (case yn => k_is); (case yk => k_is)
    (case ye_frac => k_is); (case yv_frac => k_is); (case yg_frac => k_is); (case yf_frac => k_is)
    (case yh_frac => k_is); (case yc_frac => k_is); (case ym_frac => k_is); (case yx_frac_frac => k_is)
    (case yx_frac_rng => k_is); (case yx_frac_rul => k_is); (case yx_frac_num => k_is); (case yx_frac_txt => k_is)
    (case yx_frac_nof => k_is); (case ye_rng => k_is); (case yv_rng => k_is); (case yg_rng => k_is)
    (case yf_rng => k_is); (case yh_rng => k_is); (case yc_rng => k_is); (case ym_rng => k_is)
    (case yx_rng_frac => k_is); (case yx_rng_rng => k_is); (case yx_rng_rul => k_is); (case yx_rng_num => k_is)
    (case yx_rng_txt => k_is); (case yx_rng_nof => k_is); (case ye_rul => k_is); (case yv_rul => k_is)
    (case yg_rul => k_is); (case yf_rul => k_is); (case yh_rul => k_is); (case yc_rul => k_is)
    (case ym_rul => k_is); (case yx_rul_frac => k_is); (case yx_rul_rng => k_is); (case yx_rul_rul => k_is)
    (case yx_rul_num => k_is); (case yx_rul_txt => k_is); (case yx_rul_nof => k_is); (case ye_num => k_is)
    (case yv_num => k_is); (case yg_num => k_is); (case yf_num => k_is); (case yh_num => k_is)
    (case yc_num => k_is); (case ym_num => k_is); (case yx_num_frac => k_is); (case yx_num_rng => k_is)
    (case yx_num_rul => k_is); (case yx_num_num => k_is); (case yx_num_txt => k_is); (case yx_num_nof => k_is)
    (case ye_txt => k_is); (case yv_txt => k_is); (case yg_txt => k_is); (case yf_txt => k_is)
    (case yh_txt => k_is); (case yc_txt => k_is); (case ym_txt => k_is); (case yx_txt_frac => k_is)
    (case yx_txt_rng => k_is); (case yx_txt_rul => k_is); (case yx_txt_num => k_is); (case yx_txt_txt => k_is)
    (case yx_txt_nof => k_is); (case ye_nof => k_is); (case yv_nof => k_is); (case yg_nof => k_is)
    (case yf_nof => k_is); (case yh_nof => k_is); (case yc_nof => k_is); (case ym_nof => k_is)
    (case yx_nof_frac => k_is); (case yx_nof_rng => k_is); (case yx_nof_rul => k_is); (case yx_nof_num => k_is)
    (case yx_nof_txt => k_is); (case yx_nof_nof => k_is)

