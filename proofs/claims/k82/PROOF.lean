import PyProof.Rows.All
import Wide.All
import OpenK.AllK
import Wide.FinOn
import HandS.ForMost
import HandS.Wide
import HandS.Exc
import HandS.CallSlots
import HandS.Style
import HandS.TupAny
import HandS.TupLe
import HandS.WideBits
import HandS.IsInst
import HandS.SortInts
import HandS.Conv
import HandS.RaiseMore
import HandS.TupMul
import HandS.Rev
import HandS.Zip
import PySem.Challenge.RW_leadterms_k82_whole_digits_and_period
set_option Elab.async false
set_option linter.all false
set_option autoImplicit false
set_option maxRecDepth 100000
/-! MI: a functional layer over HandS. Data, representation, the frame relation. -/
namespace MI
open PySem PySem.Spec L2

abbrev D := PyData

/-! ### keys -/
def keyD : Key → D
  | .inl i => .int i
  | .inr x => .str x
def tkeyD (k : List Key) : D := .tuple (k.map keyD)

/-! ### data over a heap view -/
mutual
inductive Dr (K : PySem.W.Frag) (Y : Hp) : V → D → Prop
  | non : Dr K Y .non .none
  | bl (b : Bool) : Dr K Y (.bl b) (.bool b)
  | int (i : Int) : Dr K Y (.int i) (.int i)
  | str (x : Str) : Dr K Y (.str x) (.str x)
  | lst {a : Addr} {xs : List V} {ds : List D} : Y a = some (.lst xs) → DrAll K Y xs ds → Dr K Y (.ref a) (.list ds)
  /-- a list that is locked (the script) -/
  | lck {a : Addr} {xs : List V} {ds : List D} : SqL K Y a xs → DrAll K Y xs ds → Dr K Y (.ref a) (.dict [(.none, .list ds)])
  | tup {a : Addr} {xs : List V} {ds : List D} : SqT K Y a xs → DrAll K Y xs ds → Dr K Y (.ref a) (.tuple ds)
  | dk {a : Addr} {kvs : List (Key × V)} {ds : List D} : Y a = some (.dK kvs) → DrAll K Y (kvs.map (·.2)) ds → Dr K Y (.ref a) (.dict ((kvs.map fun p => keyD p.1).zip ds))
  | dt {a : Addr} {kvs : List (List Key × V)} {ds : List D} : Y a = some (.dT kvs) → DrAll K Y (kvs.map (·.2)) ds → Dr K Y (.ref a) (.dict ((kvs.map fun p => tkeyD p.1).zip ds))
inductive DrAll (K : PySem.W.Frag) (Y : Hp) : List V → List D → Prop
  | nil : DrAll K Y [] []
  | cons {v : V} {vs : List V} {d : D} {ds : List D} : Dr K Y v d → DrAll K Y vs ds → DrAll K Y (v :: vs) (d :: ds)
end

theorem Same.sqt {K : PySem.W.Frag} {H H' : Hp} {a : Addr} {xs : List V} (e : Same H H') (h : SqT K H a xs) : SqT K H' a xs := by
  rcases h with (h | ⟨o, h⟩) | h
  · exact .inl (.inl (e _ _ h))
  · exact .inl (.inr ⟨o, e _ _ h⟩)
  · exact .inr h

mutual
theorem Dr.mono {K : PySem.W.Frag} {Y Y' : Hp} (e : Same Y Y') : ∀ {v : V} {d : D}, Dr K Y v d → Dr K Y' v d
  | _, _, .non => .non
  | _, _, .bl b => .bl b
  | _, _, .int i => .int i
  | _, _, .str x => .str x
  | _, _, .lst h t => .lst (e _ _ h) (DrAll.mono e t)
  | _, _, .lck h t => .lck (e.seq h) (DrAll.mono e t)
  | _, _, .tup h t => .tup (Same.sqt e h) (DrAll.mono e t)
  | _, _, .dk h t => .dk (e _ _ h) (DrAll.mono e t)
  | _, _, .dt h t => .dt (e _ _ h) (DrAll.mono e t)
theorem DrAll.mono {K : PySem.W.Frag} {Y Y' : Hp} (e : Same Y Y') : ∀ {vs : List V} {ds : List D}, DrAll K Y vs ds → DrAll K Y' vs ds
  | _, _, .nil => .nil
  | _, _, .cons h t => .cons (h.mono e) (t.mono e)
end

theorem DrAll.length {K : PySem.W.Frag} {Y : Hp} : ∀ {vs : List V} {ds : List D}, DrAll K Y vs ds → vs.length = ds.length
  | _, _, .nil => rfl
  | _, _, .cons _ t => by rw [List.length_cons, List.length_cons, t.length]
theorem DrAll.append {K : PySem.W.Frag} {Y : Hp} : ∀ {vs ws : List V} {ds es : List D}, DrAll K Y vs ds → DrAll K Y ws es → DrAll K Y (vs ++ ws) (ds ++ es)
  | _, _, _, _, .nil, h => h
  | _, _, _, _, .cons a t, h => .cons a (t.append h)
theorem DrAll.get {K : PySem.W.Frag} {Y : Hp} : ∀ {vs : List V} {ds : List D} {i : Nat} {d : D}, DrAll K Y vs ds → ds[i]? = some d → ∃ v, vs[i]? = some v ∧ Dr K Y v d
  | _, _, _, _, .nil, e => by simp at e
  | _, _, 0, _, .cons h _, e => by simp at e; subst e; exact ⟨_, rfl, h⟩
  | _, _, i + 1, _, .cons _ t, e => by
    obtain ⟨v, h1, h2⟩ := t.get (i := i) (by simpa using e)
    exact ⟨v, by simpa using h1, h2⟩
theorem DrAll.getV {K : PySem.W.Frag} {Y : Hp} : ∀ {vs : List V} {ds : List D} {i : Nat} {v : V}, DrAll K Y vs ds → vs[i]? = some v → ∃ d, ds[i]? = some d ∧ Dr K Y v d
  | _, _, _, _, .nil, e => by simp at e
  | _, _, 0, _, .cons h _, e => by simp at e; subst e; exact ⟨_, rfl, h⟩
  | _, _, i + 1, _, .cons _ t, e => by
    obtain ⟨v, h1, h2⟩ := t.getV (i := i) (by simpa using e)
    exact ⟨v, by simpa using h1, h2⟩
theorem DrAll.set {K : PySem.W.Frag} {Y : Hp} {v : V} {d : D} (h : Dr K Y v d) : ∀ {vs : List V} {ds : List D} (i : Nat), DrAll K Y vs ds → DrAll K Y (vs.set i v) (ds.set i d)
  | _, _, _, .nil => .nil
  | _, _, 0, .cons _ t => .cons h t
  | _, _, i + 1, .cons a t => .cons a (t.set h i)
theorem DrAll.take {K : PySem.W.Frag} {Y : Hp} : ∀ {vs : List V} {ds : List D} (n : Nat), DrAll K Y vs ds → DrAll K Y (vs.take n) (ds.take n)
  | _, _, 0, _ => .nil
  | _, _, _ + 1, .nil => .nil
  | _, _, n + 1, .cons a t => .cons a (t.take n)
theorem DrAll.drop {K : PySem.W.Frag} {Y : Hp} : ∀ {vs : List V} {ds : List D} (n : Nat), DrAll K Y vs ds → DrAll K Y (vs.drop n) (ds.drop n)
  | _, _, 0, h => h
  | _, _, _ + 1, .nil => .nil
  | _, _, n + 1, .cons _ t => t.drop n
theorem DrAll.dropLast {K : PySem.W.Frag} {Y : Hp} : ∀ {vs : List V} {ds : List D}, DrAll K Y vs ds → DrAll K Y vs.dropLast ds.dropLast := fun {vs ds} h => by
  rw [List.dropLast_eq_take, List.dropLast_eq_take, h.length]
  exact h.take _
theorem DrAll.reverse {K : PySem.W.Frag} {Y : Hp} : ∀ {vs : List V} {ds : List D}, DrAll K Y vs ds → DrAll K Y vs.reverse ds.reverse
  | _, _, .nil => .nil
  | _, _, .cons a t => by
    rw [List.reverse_cons, List.reverse_cons]
    exact t.reverse.append (.cons a .nil)

/-! ### shapes told by the data -/
theorem Dr.int_inv {K : PySem.W.Frag} {Y : Hp} {v : V} {i : Int} (h : Dr K Y v (.int i)) : v = .int i := by cases h; rfl
theorem Dr.bool_inv {K : PySem.W.Frag} {Y : Hp} {v : V} {b : Bool} (h : Dr K Y v (.bool b)) : v = .bl b := by cases h; rfl
theorem Dr.str_inv {K : PySem.W.Frag} {Y : Hp} {v : V} {x : Str} (h : Dr K Y v (.str x)) : v = .str x := by cases h; rfl
theorem Dr.none_inv {K : PySem.W.Frag} {Y : Hp} {v : V} (h : Dr K Y v .none) : v = .non := by cases h; rfl
theorem Dr.list_inv {K : PySem.W.Frag} {Y : Hp} {v : V} {ds : List D} (h : Dr K Y v (.list ds)) : ∃ a xs, v = .ref a ∧ Y a = some (.lst xs) ∧ DrAll K Y xs ds := by
  cases h with | lst a b => exact ⟨_, _, rfl, a, b⟩
theorem Dr.tuple_inv {K : PySem.W.Frag} {Y : Hp} {v : V} {ds : List D} (h : Dr K Y v (.tuple ds)) : ∃ a xs, v = .ref a ∧ SqT K Y a xs ∧ DrAll K Y xs ds := by
  cases h with | tup a b => exact ⟨_, _, rfl, a, b⟩
theorem DrAll.ints {K : PySem.W.Frag} {Y : Hp} : ∀ {vs : List V} {ns : List Int}, DrAll K Y vs (ns.map PyData.int) → vs = ns.map V.int
  | _, [], h => by cases h; rfl
  | _, n :: ns, h => by
    cases h with
    | cons a t => rw [a.int_inv, t.ints]; rfl
theorem DrAll.of_ints {K : PySem.W.Frag} {Y : Hp} : ∀ (ns : List Int), DrAll K Y (ns.map V.int) (ns.map PyData.int)
  | [] => .nil
  | n :: ns => .cons (.int n) (.of_ints ns)

def lockD (ds : List D) : D := .dict [(.none, .list ds)]
theorem Dr.lock_inv {K : PySem.W.Frag} {Y : Hp} {v : V} {ds : List D} (h : Dr K Y v (lockD ds)) : ∃ a xs, v = .ref a ∧ SqL K Y a xs ∧ DrAll K Y xs ds := by
  have key : ∀ (p : Key), keyD p ≠ .none := fun p => by cases p <;> (intro z; cases z)
  unfold lockD at h
  generalize e : PyData.dict [(PyData.none, PyData.list ds)] = d at h
  cases h with
  | lck a b =>
    injection e with e
    injection e with e1 _
    injection e1 with _ e2
    injection e2 with e2
    subst e2
    exact ⟨_, _, rfl, a, b⟩
  | @dk a kvs ds' h1 h2 =>
    injection e with e
    cases kvs with
    | nil => cases e
    | cons q r =>
      cases ds' with
      | nil => cases e
      | cons d ds' =>
        injection e with e1 _
        injection e1 with e1 _
        exact (key _ e1.symm).elim
  | @dt a kvs ds' h1 h2 =>
    injection e with e
    cases kvs with
    | nil => cases e
    | cons q r =>
      cases ds' with
      | nil => cases e
      | cons d ds' =>
        injection e with e1 _
        injection e1 with e1 _
        cases e1
  | _ => cases e

/-! ### data without lists or dicts: it leans on tuples alone -/
mutual
def free : D → Bool
  | .none => true
  | .bool _ => true
  | .int _ => true
  | .str _ => true
  | .list _ => false
  | .dict _ => false
  | .tuple ds => freeAll ds
def freeAll : List D → Bool
  | [] => true
  | d :: ds => free d && freeAll ds
end
theorem freeAll_iff : ∀ {ds : List D}, freeAll ds = true ↔ ∀ d ∈ ds, free d = true
  | [] => by simp [freeAll]
  | d :: ds => by
    rw [freeAll, Bool.and_eq_true, freeAll_iff]
    simp
theorem freeAll_append {xs ys : List D} : freeAll (xs ++ ys) = (freeAll xs && freeAll ys) := by
  rw [Bool.eq_iff_iff, Bool.and_eq_true, freeAll_iff, freeAll_iff, freeAll_iff]
  simp only [List.mem_append]
  exact ⟨fun h => ⟨fun d q => h d (.inl q), fun d q => h d (.inr q)⟩, fun h d q => q.elim (h.1 d) (h.2 d)⟩
theorem freeAll_map {α : Type} {f : α → D} (h : ∀ a, free (f a) = true) (xs : List α) : freeAll (xs.map f) = true := by
  rw [freeAll_iff]
  intro d hd
  obtain ⟨a, _, rfl⟩ := List.mem_map.mp hd
  exact h a

/-! the view without the addresses in G -/
open Classical in
noncomputable def cut (Y : Hp) (G : Addr → Prop) : Hp := fun a => if G a then none else Y a
theorem cut_in {Y : Hp} {G : Addr → Prop} {a : Addr} (h : G a) : cut Y G a = none := by unfold cut; rw [if_pos h]
theorem cut_out {Y : Hp} {G : Addr → Prop} {a : Addr} (h : ¬ G a) : cut Y G a = Y a := by unfold cut; rw [if_neg h]
theorem cut_same {Y : Hp} {G : Addr → Prop} : Same (cut Y G) Y := fun a o h => by
  by_cases g : G a
  · rw [cut_in g] at h; cases h
  · rw [cut_out g] at h; exact h
/-- no tuple stands in G -/
def NoTup (Y : Hp) (G : Addr → Prop) : Prop := ∀ a xs, G a → ¬ Rd Y a (.tup xs)
theorem cut_sqt {K : PySem.W.Frag} {Y : Hp} {G : Addr → Prop} {a : Addr} {xs : List V} (n : NoTup Y G) (h : SqT K Y a xs) : SqT K (cut Y G) a xs := by
  rcases h with h | h
  · have g : ¬ G a := fun g => n a xs g h
    refine .inl ?_
    rcases h with h | ⟨o, h⟩
    · exact .inl (by rw [cut_out g]; exact h)
    · exact .inr ⟨o, by rw [cut_out g]; exact h⟩
  · exact .inr h
mutual
theorem Dr.cut {K : PySem.W.Frag} {Y : Hp} {G : Addr → Prop} (n : NoTup Y G) : ∀ {v : V} {d : D}, Dr K Y v d → free d = true → Dr K (cut Y G) v d
  | _, _, .non, _ => .non
  | _, _, .bl b, _ => .bl b
  | _, _, .int i, _ => .int i
  | _, _, .str x, _ => .str x
  | _, _, .lst _ _, f => by simp [free] at f
  | _, _, .lck _ _, f => by simp [free] at f
  | _, _, .tup h t, f => .tup (cut_sqt n h) (DrAll.cut n t (by simpa [free] using f))
  | _, _, .dk _ _, f => by simp [free] at f
  | _, _, .dt _ _, f => by simp [free] at f
theorem DrAll.cut {K : PySem.W.Frag} {Y : Hp} {G : Addr → Prop} (n : NoTup Y G) : ∀ {vs : List V} {ds : List D}, DrAll K Y vs ds → freeAll ds = true → DrAll K (cut Y G) vs ds
  | _, _, .nil, _ => .nil
  | _, _, .cons h t, f => by
    rw [freeAll, Bool.and_eq_true] at f
    exact .cons (h.cut n f.1) (t.cut n f.2)
end

/-! ### owned values -/
inductive OD where
  | fz (d : D)
  | ol (xs : List D)
  | on (xs : List OD)
  | od (kvs : List (D × D))
mutual
def OD.frz : OD → D
  | .fz d => d
  | .ol xs => .list xs
  | .on xs => .list (frzAll xs)
  | .od kvs => .dict kvs
def frzAll : List OD → List D
  | [] => []
  | o :: os => o.frz :: frzAll os
end
theorem frzAll_length : ∀ {os : List OD}, (frzAll os).length = os.length
  | [] => rfl
  | _ :: os => by rw [frzAll, List.length_cons, List.length_cons, frzAll_length]
theorem frzAll_get : ∀ {os : List OD} {i : Nat}, (frzAll os)[i]? = os[i]?.map OD.frz
  | [], _ => by simp [frzAll]
  | o :: os, 0 => by simp [frzAll]
  | o :: os, i + 1 => by
    rw [frzAll]
    simpa using frzAll_get (os := os) (i := i)
mutual
/-- the leaves are free data -/
def OD.free : OD → Bool
  | .fz d => MI.free d
  | .ol xs => freeAll xs
  | .on xs => ofreeAll xs
  | .od kvs => freeAll (kvs.map (·.1)) && freeAll (kvs.map (·.2))
def ofreeAll : List OD → Bool
  | [] => true
  | o :: os => o.free && ofreeAll os
end
theorem ofreeAll_iff : ∀ {os : List OD}, ofreeAll os = true ↔ ∀ o ∈ os, o.free = true
  | [] => by simp [ofreeAll]
  | o :: os => by
    rw [ofreeAll, Bool.and_eq_true, ofreeAll_iff]
    simp

/-- v is od: its leaves over Y, its own objects (F) at H -/
inductive RO (K : PySem.W.Frag) (Y H : Hp) : V → OD → (Addr → Prop) → Prop
  | fz {v : V} {d : D} : Dr K Y v d → RO K Y H v (.fz d) (fun _ => False)
  | ol {p : Addr} {vs : List V} {ds : List D} : H p = some (.lst vs) → DrAll K Y vs ds → RO K Y H (.ref p) (.ol ds) (fun a => a = p)
  | on {p : Addr} {vs : List V} {os : List OD} (g : Nat → Addr → Prop) : H p = some (.lst vs) → vs.length = os.length →
      (∀ i o v, os[i]? = some o → vs[i]? = some v → RO K Y H v o (g i)) → (∀ i, ¬ g i p) → (∀ i j a, g i a → g j a → i = j) → (∀ i a, g i a → i < os.length) →
      RO K Y H (.ref p) (.on os) (fun a => a = p ∨ ∃ i, g i a)
  | dk {p : Addr} {kvs : List (Key × V)} {ds : List D} : H p = some (.dK kvs) → DrAll K Y (kvs.map (·.2)) ds → RO K Y H (.ref p) (.od ((kvs.map fun q => keyD q.1).zip ds)) (fun a => a = p)
  | dt {p : Addr} {kvs : List (List Key × V)} {ds : List D} : H p = some (.dT kvs) → DrAll K Y (kvs.map (·.2)) ds → RO K Y H (.ref p) (.od ((kvs.map fun q => tkeyD q.1).zip ds)) (fun a => a = p)

/-- an object that may be owned -/
def Ownable : HO → Prop
  | .lst _ => True
  | .dK _ => True
  | .dT _ => True
  | _ => False
theorem RO.ownable {K : PySem.W.Frag} {Y H : Hp} {v : V} {o : OD} {F : Addr → Prop} (r : RO K Y H v o F) : ∀ a, F a → ∃ u, H a = some u ∧ Ownable u := by
  induction r with
  | fz h => intro a f; exact f.elim
  | ol h t => rintro a rfl; exact ⟨_, h, trivial⟩
  | on g h hl hi hp hd hb ih =>
    rintro a (rfl | ⟨i, f⟩)
    · exact ⟨_, h, trivial⟩
    · have hlt := hb i a f
      exact ih i _ _ (List.getElem?_eq_getElem hlt) (List.getElem?_eq_getElem (by omega)) a f
  | dk h t => rintro a rfl; exact ⟨_, h, trivial⟩
  | dt h t => rintro a rfl; exact ⟨_, h, trivial⟩

theorem RO.mono {K : PySem.W.Frag} {Y H Y' H' : Hp} {v : V} {o : OD} {F : Addr → Prop} (r : RO K Y H v o F) (e : Same Y Y') (k : ∀ a, F a → H' a = H a) : RO K Y' H' v o F := by
  induction r with
  | fz h => exact .fz (h.mono e)
  | ol h t => exact .ol ((k _ rfl).trans h) (t.mono e)
  | on g h hl hi hp hd hb ih => exact .on g ((k _ (.inl rfl)).trans h) hl (fun i o v ho hv => ih i o v ho hv fun a f => k a (.inr ⟨i, f⟩)) hp hd hb
  | dk h t => exact .dk ((k _ rfl).trans h) (t.mono e)
  | dt h t => exact .dt ((k _ rfl).trans h) (t.mono e)
theorem RO.toD {K : PySem.W.Frag} {Y H Y' : Hp} {v : V} {o : OD} {F : Addr → Prop} (r : RO K Y H v o F) (e : Same Y Y') (k : ∀ a, F a → Y' a = H a) : Dr K Y' v o.frz := by
  induction r with
  | fz h => exact h.mono e
  | ol h t => exact .lst ((k _ rfl).trans h) (t.mono e)
  | @on p vs os g h hl hi hp hd hb ih =>
    refine .lst ((k _ (.inl rfl)).trans h) ?_
    have all : ∀ (n : Nat) (ws : List V) (ps : List OD), ws = vs.drop n → ps = os.drop n → DrAll K Y' ws (frzAll ps) := by
      intro n ws
      induction ws generalizing n with
      | nil =>
        intro ps e1 e2
        have z : os.length ≤ n := by
          rw [← hl]
          have := congrArg List.length e1
          rw [List.length_nil, List.length_drop] at this
          omega
        rw [e2, List.drop_eq_nil_of_le z]
        exact .nil
      | cons w ws iw =>
        intro ps e1 e2
        have hn : n < vs.length := by
          have := congrArg List.length e1
          rw [List.length_cons, List.length_drop] at this
          omega
        have hn2 : n < os.length := by omega
        rw [List.drop_eq_getElem_cons hn] at e1
        rw [List.drop_eq_getElem_cons hn2] at e2
        injection e1 with a1 a2
        subst e2
        rw [frzAll]
        refine .cons ?_ (iw (n + 1) _ a2 rfl)
        rw [a1]
        exact ih n _ _ (List.getElem?_eq_getElem hn2) (List.getElem?_eq_getElem hn) fun a f => k a (.inr ⟨n, f⟩)
    exact all 0 vs os rfl rfl
  | dk h t => exact .dk ((k _ rfl).trans h) (t.mono e)
  | dt h t => exact .dt ((k _ rfl).trans h) (t.mono e)
theorem freeAll_zip : ∀ {xs ys : List D}, xs.length = ys.length → freeAll ((xs.zip ys).map (·.2)) = freeAll ys
  | [], [], _ => rfl
  | x :: xs, y :: ys, h => by
    rw [List.zip_cons_cons, List.map_cons, freeAll, freeAll, freeAll_zip (by simpa using h)]
  | [], _ :: _, h => by simp at h
  | _ :: _, [], h => by simp at h
theorem RO.cut {K : PySem.W.Frag} {Y H : Hp} {v : V} {o : OD} {F G : Addr → Prop} (r : RO K Y H v o F) (n : NoTup Y G) (f : o.free = true) : RO K (cut Y G) H v o F := by
  induction r with
  | fz h => exact .fz (h.cut n f)
  | ol h t => exact .ol h (t.cut n f)
  | on g h hl hi hp hd hb ih =>
    have fa := ofreeAll_iff.mp (show ofreeAll _ = true from f)
    exact .on g h hl (fun i o v ho hv => ih i o v ho hv (fa o (List.mem_of_getElem? ho))) hp hd hb
  | dk h t =>
    rw [OD.free, Bool.and_eq_true, freeAll_zip (by have := t.length; simp at this; simpa using this)] at f
    exact .dk h (t.cut n f.2)
  | dt h t =>
    rw [OD.free, Bool.and_eq_true, freeAll_zip (by have := t.length; simp at this; simpa using this)] at f
    exact .dt h (t.cut n f.2)

theorem RO.fz_inv {K : PySem.W.Frag} {Y H : Hp} {v : V} {d : D} {F : Addr → Prop} (r : RO K Y H v (.fz d) F) : Dr K Y v d := by
  cases r with
  | fz h => exact h
theorem RO.fz_own {K : PySem.W.Frag} {Y H : Hp} {v : V} {d : D} {F : Addr → Prop} (r : RO K Y H v (.fz d) F) {a : Addr} : ¬ F a := by
  cases r with
  | fz h => exact fun z => z
theorem RO.ol_inv {K : PySem.W.Frag} {Y H : Hp} {v : V} {ds : List D} {F : Addr → Prop} (r : RO K Y H v (.ol ds) F) : ∃ p vs, v = .ref p ∧ H p = some (.lst vs) ∧ DrAll K Y vs ds ∧ ∀ a, F a ↔ a = p := by
  cases r with
  | ol h t => exact ⟨_, _, rfl, h, t, fun _ => Iff.rfl⟩
theorem RO.on_inv {K : PySem.W.Frag} {Y H : Hp} {v : V} {os : List OD} {F : Addr → Prop} (r : RO K Y H v (.on os) F) : ∃ (p : Addr) (vs : List V) (g : Nat → Addr → Prop), v = .ref p ∧ H p = some (.lst vs) ∧ vs.length = os.length ∧
    (∀ i o v, os[i]? = some o → vs[i]? = some v → RO K Y H v o (g i)) ∧ (∀ i, ¬ g i p) ∧ (∀ i j a, g i a → g j a → i = j) ∧ (∀ i a, g i a → i < os.length) ∧ ∀ a, F a ↔ (a = p ∨ ∃ i, g i a) := by
  cases r with
  | on g h a b c d e => exact ⟨_, _, g, rfl, h, a, b, c, d, e, fun _ => Iff.rfl⟩
theorem RO.iff {K : PySem.W.Frag} {Y H : Hp} {v : V} {o : OD} {F G : Addr → Prop} (r : RO K Y H v o F) (e : ∀ a, F a ↔ G a) : RO K Y H v o G := by
  have : F = G := funext fun a => propext (e a)
  exact this ▸ r

/-! ### the frame relation -/
structure Fx where
  K : PySem.W.Frag
  H0 : Hp
  Z0 : Hp
  ma : Addr → Prop
abbrev S := List (Option OD)
abbrev Own := Nat ⊕ Nat → Addr → Prop
structure Rel (ξ : Fx) (Y H : Hp) (σ : St) (s : S) (tv : List V) (ts : List OD) (g : Own) : Prop where
  slot : ∀ i o, s[i]? = some (some o) → ∃ v, σ[i]? = some (some v) ∧ RO ξ.K Y H v o (g (.inl i))
  temp : ∀ j o, ts[j]? = some o → ∃ v, tv[j]? = some v ∧ RO ξ.K Y H v o (g (.inr j))
  own : ∀ i a, g i a → H a ≠ none ∧ Y a = none ∧ (ξ.H0 a = none ∨ ξ.ma a)
  sep : ∀ i j a, g i a → g j a → i = j
structure FS (ξ : Fx) (Y H : Hp) (σ : St) (s : S) (tv : List V) (ts : List OD) : Prop where
  sub : Same Y H
  z0 : Same ξ.Z0 Y
  fresh : ∀ a, Y a ≠ none → ξ.Z0 a ≠ none ∨ ξ.H0 a = none ∨ ξ.ma a
  keep : ∀ a o, ξ.H0 a = some o → ¬ ξ.ma a → H a = some o
  live : ∀ a, ξ.H0 a ≠ none → H a ≠ none
  len : s.length = σ.length
  tlen : ts.length = tv.length
  rel : ∃ g, Rel ξ Y H σ s tv ts g

section
variable {ξ : Fx} {Y H Y' H' : Hp} {σ : St} {s : S} {tv : List V} {ts : List OD} {v : V} {o : OD} {d : D} {p : Addr}
theorem same_none {A B : Hp} (e : Same A B) {a : Addr} (h : B a = none) : A a = none := e.free h
/-- the heap has grown, the view with it -/
theorem FS.grow (F : FS ξ Y H σ s tv ts) (hh : Same H H') (hy : Same Y Y') (hs : Same Y' H') (hf : ∀ a, Y' a ≠ none → Y a ≠ none ∨ H a = none) : FS ξ Y' H' σ s tv ts := by
  obtain ⟨g, R⟩ := F.rel
  refine ⟨hs, F.z0.trans hy, fun a h => ?_, fun a o h m => hh _ _ (F.keep a o h m), fun a h z => F.live a h (hh.free z), F.len, F.tlen, g, ?_⟩
  · rcases hf a h with q | q
    · exact F.fresh a q
    · by_cases m : ξ.H0 a = none
      · exact .inr (.inl m)
      · exact (F.live a m q).elim
  · have kk : ∀ i a, g i a → H' a = H a := fun i a f => by
      obtain ⟨h1, _, _⟩ := R.own i a f
      cases e : H a with
      | none => exact (h1 e).elim
      | some u => exact hh _ _ e
    refine ⟨fun i o h => ?_, fun j o h => ?_, fun i a f => ?_, R.sep⟩
    · obtain ⟨v, e, r⟩ := R.slot i o h
      exact ⟨v, e, r.mono hy fun a f => kk _ a f⟩
    · obtain ⟨v, e, r⟩ := R.temp j o h
      exact ⟨v, e, r.mono hy fun a f => kk _ a f⟩
    · obtain ⟨h1, h2, h3⟩ := R.own i a f
      refine ⟨fun z => h1 (hh.free z), ?_, h3⟩
      cases e : Y' a with
      | none => rfl
      | some u =>
        rcases hf a (by rw [e]; simp) with q | q
        · exact (q h2).elim
        · exact (h1 q).elim
theorem FS.frozen (F : FS ξ Y H σ s tv ts) {i : Nat} (h : s[i]? = some (some (.fz d))) : ∃ v, σ[i]? = some (some v) ∧ Dr ξ.K Y v d := by
  obtain ⟨g, R⟩ := F.rel
  obtain ⟨v, e, r⟩ := R.slot i _ h
  exact ⟨v, e, r.fz_inv⟩
/-- a new tuple -/
theorem same_upd {H : Hp} {p : Addr} {o : HO} (h : H p = none) : Same H (upd H p o) := fun b x e => by
  rw [upd_ne (ne_of_none e h)]
  exact e
theorem upd_mono {A B : Hp} {p : Addr} {o : HO} (e : Same A B) : Same (upd A p o) (upd B p o) := fun b x h => by
  by_cases q : b = p
  · subst q; rw [upd_same] at h ⊢; exact h
  · rw [upd_ne q] at h ⊢; exact e _ _ h
theorem FS.newF (F : FS ξ Y H σ s tv ts) (hp : H p = none) (u : HO) : FS ξ (upd Y p u) (upd H p u) σ s tv ts :=
  F.grow (same_upd hp) (same_upd (F.sub.free hp)) (upd_mono F.sub) fun a h => by
    by_cases q : a = p
    · subst q; exact .inr hp
    · rw [upd_ne q] at h; exact .inl h
/-- a new object that is not looked at any more -/
theorem FS.newJ (F : FS ξ Y H σ s tv ts) (hp : H p = none) (u : HO) : FS ξ Y (upd H p u) σ s tv ts :=
  F.grow (same_upd hp) (Same.refl _) (F.sub.trans (same_upd hp)) fun a h => .inl h

/-! the view Y with what stands in G -/
open Classical in
noncomputable def add (Y H : Hp) (G : Addr → Prop) : Hp := fun a => if G a then H a else Y a
theorem add_in {Y H : Hp} {G : Addr → Prop} {a : Addr} (h : G a) : add Y H G a = H a := by unfold add; rw [if_pos h]
theorem add_out {Y H : Hp} {G : Addr → Prop} {a : Addr} (h : ¬ G a) : add Y H G a = Y a := by unfold add; rw [if_neg h]
theorem add_sub {Y H : Hp} {G : Addr → Prop} (e : Same Y H) : Same (add Y H G) H := fun a o h => by
  by_cases g : G a
  · rw [add_in g] at h; exact h
  · rw [add_out g] at h; exact e _ _ h
theorem add_same {Y H : Hp} {G : Addr → Prop} (e : Same Y H) : Same Y (add Y H G) := fun a o h => by
  by_cases g : G a
  · rw [add_in g]; exact e _ _ h
  · rw [add_out g]; exact h

/-- the same heap, owned otherwise -/
theorem FS.re (F : FS ξ Y H σ s tv ts) {g : Own} (R : Rel ξ Y H σ s tv ts g) {Y' : Hp} {σ' : St} {s' : S} {tv' : List V} {ts' : List OD} (g' : Own) (hy : Same Y Y') (hs : Same Y' H) (hf : ∀ a, Y' a ≠ none → Y a ≠ none ∨ ∃ i, g i a)
    (hg : ∀ i a, g' i a → Y' a = none ∧ ∃ k, g k a) (sep : ∀ i j a, g' i a → g' j a → i = j) (len : s'.length = σ'.length) (tlen : ts'.length = tv'.length)
    (slot : ∀ i o, s'[i]? = some (some o) → ∃ v, σ'[i]? = some (some v) ∧ RO ξ.K Y' H v o (g' (.inl i))) (temp : ∀ j o, ts'[j]? = some o → ∃ v, tv'[j]? = some v ∧ RO ξ.K Y' H v o (g' (.inr j))) :
    FS ξ Y' H σ' s' tv' ts' := by
  refine ⟨hs, F.z0.trans hy, fun a h => ?_, F.keep, F.live, len, tlen, g', slot, temp, fun i a f => ?_, sep⟩
  · rcases hf a h with q | ⟨i, q⟩
    · exact F.fresh a q
    · exact .inr (R.own i a q).2.2
  · obtain ⟨h1, k, h2⟩ := hg i a f
    exact ⟨(R.own k a h2).1, h1, (R.own k a h2).2.2⟩

theorem getElem?_snoc {α : Type} {l : List α} {x : α} {i : Nat} {y : α} (h : (l ++ [x])[i]? = some y) : l[i]? = some y ∨ (i = l.length ∧ y = x) := by
  rw [List.getElem?_append] at h
  split at h
  · exact .inl h
  · rename_i q
    have : i - l.length = 0 := by
      cases e : i - l.length with
      | zero => rfl
      | succ n => rw [e] at h; simp at h
    rw [this] at h
    simp at h
    exact .inr ⟨by omega, h.symm⟩
theorem snoc_old {α : Type} {l : List α} {x y : α} {i : Nat} (h : l[i]? = some y) : (l ++ [x])[i]? = some y := by
  have : i < l.length := by
    rcases Nat.lt_or_ge i l.length with q | q
    · exact q
    · rw [List.getElem?_eq_none q] at h; cases h
  rw [List.getElem?_append_left this]
  exact h
theorem snoc_new {α : Type} {l : List α} {x : α} : (l ++ [x])[l.length]? = some x := by
  rw [List.getElem?_append_right (Nat.le_refl _), Nat.sub_self]; rfl
theorem lt_of_get {α : Type} {l : List α} {i : Nat} {y : α} (h : l[i]? = some y) : i < l.length := by
  rcases Nat.lt_or_ge i l.length with q | q
  · exact q
  · rw [List.getElem?_eq_none q] at h; cases h

/-- the temps' g without index k -/
def without (g : Own) (k : Nat ⊕ Nat) : Own := fun i a => i ≠ k ∧ g i a

/-- frozen data as a temp -/
theorem FS.pushD (F : FS ξ Y H σ s tv ts) (h : Dr ξ.K Y v d) : FS ξ Y H σ s (tv ++ [v]) (ts ++ [.fz d]) := by
  obtain ⟨g, R⟩ := F.rel
  refine F.re R (without g (.inr ts.length)) (Same.refl _) F.sub (fun a q => .inl q) (fun i a f => ⟨(R.own i a f.2).2.1, i, f.2⟩) (fun i j a f f' => R.sep i j a f.2 f'.2) F.len (by simp [F.tlen]) (fun i o e => ?_) fun j o e => ?_
  · obtain ⟨v, e1, r⟩ := R.slot i o e
    exact ⟨v, e1, r.iff fun a => ⟨fun f => ⟨(fun z => nomatch z), f⟩, fun f => f.2⟩⟩
  · rcases getElem?_snoc e with e | ⟨rfl, rfl⟩
    · obtain ⟨v, e1, r⟩ := R.temp j o e
      have hj := lt_of_get e
      exact ⟨v, snoc_old e1, r.iff fun a => ⟨fun f => ⟨fun z => by cases z; omega, f⟩, fun f => f.2⟩⟩
    · refine ⟨v, by rw [F.tlen]; exact snoc_new, (RO.fz h).iff fun a => ⟨fun f => f.elim, fun f => (f.1 rfl).elim⟩⟩
/-- a new owned object as a temp -/
theorem FS.pushN {u : HO} (F : FS ξ Y H σ s tv ts) (hp : H p = none) (h : RO ξ.K Y (upd H p u) v o (fun a => a = p)) : FS ξ Y (upd H p u) σ s (tv ++ [v]) (ts ++ [o]) := by
  have F1 := F.newJ hp u
  obtain ⟨g, R⟩ := F.rel
  have nog : ∀ i, ¬ g i p := fun i f => (R.own i p f).1 hp
  have kk : ∀ i a, g i a → upd H p u a = H a := fun i a f => upd_ne fun z => nog i (z ▸ f)
  refine ⟨F1.sub, F1.z0, F1.fresh, F1.keep, F1.live, F.len, by simp [F.tlen], fun i a => (i = .inr ts.length ∧ a = p) ∨ (i ≠ .inr ts.length ∧ g i a), fun i o e => ?_, fun j o e => ?_, fun i a f => ?_, fun i j a f f' => ?_⟩
  · obtain ⟨v, e1, r⟩ := R.slot i o e
    exact ⟨v, e1, (r.mono (Same.refl _) fun a f => kk _ a f).iff fun a => ⟨fun f => .inr ⟨(fun z => nomatch z), f⟩, fun f => f.elim (fun z => nomatch z.1) fun z => z.2⟩⟩
  · rcases getElem?_snoc e with e | ⟨rfl, rfl⟩
    · obtain ⟨v, e1, r⟩ := R.temp j o e
      have hj := lt_of_get e
      refine ⟨v, snoc_old e1, (r.mono (Same.refl _) fun a f => kk _ a f).iff fun a => ⟨fun f => .inr ⟨fun z => by cases z; omega, f⟩, fun f => f.elim (fun z => ?_) fun z => z.2⟩⟩
      obtain ⟨z, _⟩ := z
      cases z
      omega
    · exact ⟨v, by rw [F.tlen]; exact snoc_new, h.iff fun a => ⟨fun f => .inl ⟨rfl, f⟩, fun f => f.elim (fun z => z.2) fun z => (z.1 rfl).elim⟩⟩
  · rcases f with ⟨rfl, rfl⟩ | ⟨_, f⟩
    · refine ⟨by rw [upd_same]; simp, F.sub.free hp, ?_⟩
      by_cases m : ξ.H0 a = none
      · exact .inl m
      · exact (F.live a m hp).elim
    · have h1 := R.own i a f
      exact ⟨by rw [kk _ _ f]; exact h1.1, h1.2⟩
  · rcases f with ⟨rfl, rfl⟩ | ⟨n, f⟩
    · rcases f' with ⟨rfl, _⟩ | ⟨_, f'⟩
      · rfl
      · exact (nog j f').elim
    · rcases f' with ⟨rfl, rfl⟩ | ⟨_, f'⟩
      · exact (nog i f).elim
      · exact R.sep i j a f f'
theorem FS.pushL {vs : List V} {ds : List D} (F : FS ξ Y H σ s tv ts) (hp : H p = none) (h : DrAll ξ.K Y vs ds) : FS ξ Y (upd H p (.lst vs)) σ s (tv ++ [.ref p]) (ts ++ [.ol ds]) :=
  F.pushN hp (.ol upd_same h)
/-- the last temp is let go -/
theorem FS.freezeT (F : FS ξ Y H σ s (tv ++ [v]) (ts ++ [o])) : ∃ Y', Same Y Y' ∧ FS ξ Y' H σ s tv ts ∧ Dr ξ.K Y' v o.frz := by
  obtain ⟨g, R⟩ := F.rel
  have tl : ts.length = tv.length := by have := F.tlen; simpa using this
  obtain ⟨v', e, r⟩ := R.temp ts.length o snoc_new
  have ev : v' = v := by
    rw [tl, snoc_new] at e
    exact (Option.some.inj e).symm
  subst ev
  have hy : Same Y (add Y H (g (.inr ts.length))) := add_same F.sub
  have no : ∀ i a, i ≠ .inr ts.length → g i a → ¬ g (.inr ts.length) a := fun i a n f z => n (R.sep _ _ _ f z)
  refine ⟨_, hy, F.re R (without g (.inr ts.length)) hy (add_sub F.sub) (fun a q => ?_) (fun i a f => ⟨?_, i, f.2⟩) (fun i j a f f' => R.sep i j a f.2 f'.2) F.len tl (fun i o e => ?_) (fun j o e => ?_), r.toD hy fun a f => add_in f⟩
  · by_cases z : g (.inr ts.length) a
    · exact .inr ⟨_, z⟩
    · rw [add_out z] at q; exact .inl q
  · rw [add_out (no i a f.1 f.2)]; exact (R.own i a f.2).2.1
  · obtain ⟨v, e1, r⟩ := R.slot i o e
    exact ⟨v, e1, (r.mono hy fun a f => rfl).iff fun a => ⟨fun f => ⟨(fun z => nomatch z), f⟩, fun f => f.2⟩⟩
  · obtain ⟨v, e1, r⟩ := R.temp j o (snoc_old e)
    have hj := lt_of_get e
    refine ⟨v, ?_, (r.mono hy fun a f => rfl).iff fun a => ⟨fun f => ⟨fun z => by cases z; omega, f⟩, fun f => f.2⟩⟩
    rw [List.getElem?_append_left (by omega)] at e1
    exact e1
/-- the last temp goes to slot i -/
theorem FS.asgT (F : FS ξ Y H σ s (tv ++ [v]) (ts ++ [o])) (i : Nat) : FS ξ Y H (σ.set i (some v)) (s.set i (some o)) tv ts := by
  obtain ⟨g, R⟩ := F.rel
  have tl : ts.length = tv.length := by have := F.tlen; simpa using this
  obtain ⟨v', e, r⟩ := R.temp ts.length o snoc_new
  have ev : v' = v := by
    rw [tl, snoc_new] at e
    exact (Option.some.inj e).symm
  subst ev
  refine F.re R (fun k a => (k = .inl i ∧ g (.inr ts.length) a) ∨ (k ≠ .inl i ∧ k ≠ .inr ts.length ∧ g k a)) (Same.refl _) F.sub (fun a q => .inl q) (fun k a f => ?_) (fun k j a f f' => ?_) (by simp [F.len]) tl (fun j o e => ?_) (fun j o e => ?_)
  · rcases f with ⟨_, f⟩ | ⟨_, _, f⟩
    · exact ⟨(R.own _ a f).2.1, _, f⟩
    · exact ⟨(R.own _ a f).2.1, _, f⟩
  · rcases f with ⟨rfl, f⟩ | ⟨n1, n2, f⟩
    · rcases f' with ⟨rfl, _⟩ | ⟨_, n2, f'⟩
      · rfl
      · exact (n2 (R.sep _ _ _ f' f)).elim
    · rcases f' with ⟨rfl, f'⟩ | ⟨_, _, f'⟩
      · exact (n2 (R.sep _ _ _ f f')).elim
      · exact R.sep _ _ _ f f'
  · by_cases hj : j = i
    · subst hj
      have hlt : j < s.length := by
        have := lt_of_get e
        simpa using this
      rw [List.getElem?_set_self hlt] at e
      cases e
      refine ⟨v', List.getElem?_set_self (by rw [← F.len]; exact hlt), r.iff fun a => ⟨fun f => .inl ⟨rfl, f⟩, fun f => f.elim (fun z => z.2) fun z => (z.1 rfl).elim⟩⟩
    · rw [List.getElem?_set_ne (Ne.symm hj)] at e
      obtain ⟨v, e1, r⟩ := R.slot j o e
      refine ⟨v, by rw [List.getElem?_set_ne (Ne.symm hj)]; exact e1, r.iff fun a => ⟨fun f => .inr ⟨fun z => hj (Sum.inl.inj z), (fun z => nomatch z), f⟩, fun f => f.elim (fun z => (hj (Sum.inl.inj z.1)).elim) fun z => z.2.2⟩⟩
  · obtain ⟨v, e1, r⟩ := R.temp j o (snoc_old e)
    have hj := lt_of_get e
    refine ⟨v, ?_, r.iff fun a => ⟨fun f => .inr ⟨(fun z => nomatch z), fun z => by cases z; omega, f⟩, fun f => f.elim (fun z => nomatch z.1) fun z => z.2.2⟩⟩
    rw [List.getElem?_append_left (by omega)] at e1
    exact e1
theorem FS.asgD (F : FS ξ Y H σ s tv ts) (h : Dr ξ.K Y v d) (i : Nat) : FS ξ Y H (σ.set i (some v)) (s.set i (some (.fz d))) tv ts := (F.pushD h).asgT i
/-- a slot is let go -/
theorem FS.freezeS (F : FS ξ Y H σ s tv ts) {i : Nat} (h : s[i]? = some (some o)) : ∃ Y', Same Y Y' ∧ FS ξ Y' H σ (s.set i (some (.fz o.frz))) tv ts ∧ ∃ v, σ[i]? = some (some v) ∧ Dr ξ.K Y' v o.frz := by
  obtain ⟨g, R⟩ := F.rel
  obtain ⟨v, e, r⟩ := R.slot i o h
  have hy : Same Y (add Y H (g (.inl i))) := add_same F.sub
  have no : ∀ k a, k ≠ .inl i → g k a → ¬ g (.inl i) a := fun k a n f z => n (R.sep _ _ _ f z)
  have rd := r.toD hy fun a f => add_in f
  refine ⟨_, hy, F.re R (without g (.inl i)) hy (add_sub F.sub) (fun a q => ?_) (fun k a f => ⟨?_, k, f.2⟩) (fun k j a f f' => R.sep k j a f.2 f'.2) (by simp [F.len]) F.tlen (fun j o e => ?_) (fun j o e => ?_), v, e, rd⟩
  · by_cases z : g (.inl i) a
    · exact .inr ⟨_, z⟩
    · rw [add_out z] at q; exact .inl q
  · rw [add_out (no k a f.1 f.2)]; exact (R.own k a f.2).2.1
  · by_cases hj : j = i
    · subst hj
      rw [List.getElem?_set_self (lt_of_get h)] at e
      cases e
      exact ⟨v, ‹_›, (RO.fz rd).iff fun a => ⟨fun f => f.elim, fun f => (f.1 rfl).elim⟩⟩
    · rw [List.getElem?_set_ne (Ne.symm hj)] at e
      obtain ⟨v, e1, r⟩ := R.slot j o e
      exact ⟨v, e1, (r.mono hy fun a f => rfl).iff fun a => ⟨fun f => ⟨fun z => hj (Sum.inl.inj z), f⟩, fun f => f.2⟩⟩
  · obtain ⟨v, e1, r⟩ := R.temp j o e
    exact ⟨v, e1, (r.mono hy fun a f => rfl).iff fun a => ⟨fun f => ⟨(fun z => nomatch z), f⟩, fun f => f.2⟩⟩
/-- slots are forgotten -/
theorem FS.forget (F : FS ξ Y H σ s tv ts) {s' : S} (hl : s'.length = s.length) (h : ∀ (i : Nat) (o : OD), s'[i]? = some (some o) → s[i]? = some (some o)) : FS ξ Y H σ s' tv ts := by
  obtain ⟨g, R⟩ := F.rel
  exact F.re R g (Same.refl _) F.sub (fun a q => .inl q) (fun i a f => ⟨(R.own i a f).2.1, i, f⟩) R.sep (hl.trans F.len) F.tlen (fun i o e => R.slot i o (h i o e)) R.temp
/-- an owned list in slot i: read, and written -/
theorem FS.listS {ds : List D} (F : FS ξ Y H σ s tv ts) {i : Nat} (h : s[i]? = some (some (.ol ds))) : ∃ p vs, σ[i]? = some (some (.ref p)) ∧ H p = some (.lst vs) ∧ DrAll ξ.K Y vs ds ∧
    ∀ vs' ds', DrAll ξ.K Y vs' ds' → FS ξ Y (upd H p (.lst vs')) σ (s.set i (some (.ol ds'))) tv ts := by
  obtain ⟨g, R⟩ := F.rel
  obtain ⟨v, e, r⟩ := R.slot i _ h
  obtain ⟨p, vs, rfl, hp, hd, hF⟩ := r.ol_inv
  refine ⟨p, vs, e, hp, hd, fun vs' ds' h' => ?_⟩
  have gp : g (.inl i) p := (hF p).mpr rfl
  have no : ∀ k a, k ≠ .inl i → g k a → a ≠ p := fun k a n f z => n (R.sep _ _ _ f (z ▸ gp))
  have kk : ∀ k a, k ≠ .inl i → g k a → upd H p (.lst vs') a = H a := fun k a n f => upd_ne (no k a n f)
  obtain ⟨_, yp, op⟩ := R.own _ p gp
  refine ⟨fun a o q => ?_, F.z0, F.fresh, fun a o q m => ?_, fun a q => ?_, by simp [F.len], F.tlen, g, fun j o e => ?_, fun j o e => ?_, fun k a f => ?_, R.sep⟩
  · rw [upd_ne fun z => by rw [z, yp] at q; cases q]
    exact F.sub a o q
  · rw [upd_ne fun z => ?_]
    · exact F.keep a o q m
    · subst z
      rcases op with op | op
      · rw [op] at q; cases q
      · exact m op
  · by_cases z : a = p
    · subst z; rw [upd_same]; simp
    · rw [upd_ne z]; exact F.live a q
  · by_cases hj : j = i
    · subst hj
      rw [List.getElem?_set_self (lt_of_get h)] at e
      cases e
      exact ⟨.ref p, ‹_›, (RO.ol upd_same h').iff fun a => (hF a).symm⟩
    · rw [List.getElem?_set_ne (Ne.symm hj)] at e
      obtain ⟨v, e1, r⟩ := R.slot j o e
      exact ⟨v, e1, r.mono (Same.refl _) fun a f => kk _ a (fun z => hj (Sum.inl.inj z)) f⟩
  · obtain ⟨v, e1, r⟩ := R.temp j o e
    exact ⟨v, e1, r.mono (Same.refl _) fun a f => kk (.inr j) a (fun z => nomatch z) f⟩
  · have h1 := R.own k a f
    by_cases z : a = p
    · subst z; exact ⟨by rw [upd_same]; simp, h1.2⟩
    · exact ⟨by rw [upd_ne z]; exact h1.1, h1.2⟩
end
end MI

set_option Elab.async false
set_option linter.all false
set_option autoImplicit false
set_option maxRecDepth 100000
/-! MI: nested owned lists, lending, the judgements. -/
namespace MI
open PySem PySem.Spec L2
section
variable {ξ : Fx} {Y H Y' H' : Hp} {σ : St} {s : S} {tv : List V} {ts : List OD} {v : V} {o : OD} {d : D} {p : Addr}

/-- an owned object in slot i is written: general -/
theorem FS.writeS (F : FS ξ Y H σ s tv ts) {g : Own} (R : Rel ξ Y H σ s tv ts g) {i : Nat} {o' : OD} {u : HO} (hi : i < s.length) (hv : σ[i]? = some (some v)) (gp : g (.inl i) p)
    (h : RO ξ.K Y (upd H p u) v o' (g (.inl i))) : FS ξ Y (upd H p u) σ (s.set i (some o')) tv ts := by
  have no : ∀ k a, k ≠ .inl i → g k a → a ≠ p := fun k a n f z => n (R.sep _ _ _ f (z ▸ gp))
  have kk : ∀ k a, k ≠ .inl i → g k a → upd H p u a = H a := fun k a n f => upd_ne (no k a n f)
  obtain ⟨_, yp, op⟩ := R.own _ p gp
  refine ⟨fun a o q => ?_, F.z0, F.fresh, fun a o q m => ?_, fun a q => ?_, by simp [F.len], F.tlen, g, fun j o e => ?_, fun j o e => ?_, fun k a f => ?_, R.sep⟩
  · rw [upd_ne fun z => by rw [z, yp] at q; cases q]
    exact F.sub a o q
  · rw [upd_ne fun z => ?_]
    · exact F.keep a o q m
    · subst z
      rcases op with op | op
      · rw [op] at q; cases q
      · exact m op
  · by_cases z : a = p
    · subst z; rw [upd_same]; simp
    · rw [upd_ne z]; exact F.live a q
  · by_cases hj : j = i
    · subst hj
      rw [List.getElem?_set_self hi] at e
      cases e
      exact ⟨v, hv, h⟩
    · rw [List.getElem?_set_ne (Ne.symm hj)] at e
      obtain ⟨v, e1, r⟩ := R.slot j o e
      exact ⟨v, e1, r.mono (Same.refl _) fun a f => kk (.inl j) a (fun z => hj (Sum.inl.inj z)) f⟩
  · obtain ⟨v, e1, r⟩ := R.temp j o e
    exact ⟨v, e1, r.mono (Same.refl _) fun a f => kk (.inr j) a (fun z => nomatch z) f⟩
  · have h1 := R.own k a f
    by_cases z : a = p
    · subst z; exact ⟨by rw [upd_same]; simp, h1.2⟩
    · exact ⟨by rw [upd_ne z]; exact h1.1, h1.2⟩

theorem ro_same_index {K : PySem.W.Frag} {os : List OD} {vs : List V} {k : Nat} {o : OD} {v : V} {g : Nat → Addr → Prop} {P : V → OD → (Addr → Prop) → Prop} (ho : os[k]? = some o) (hv : vs[k]? = some v)
    (h : P v o (g k)) (h2 : ∀ i o v, i ≠ k → os[i]? = some o → vs[i]? = some v → P v o (g i)) : ∀ i o v, os[i]? = some o → vs[i]? = some v → P v o (g i) := fun i o' v' e1 e2 => by
  by_cases q : i = k
  · subst q
    rw [ho] at e1; rw [hv] at e2; cases e1; cases e2
    exact h
  · exact h2 i o' v' q e1 e2

/-- the k-th item of the owned list of owned things in slot i is read (a leaf) -/
theorem FS.nestGet {os : List OD} (F : FS ξ Y H σ s tv ts) {i k : Nat} (h : s[i]? = some (some (.on os))) (hk : os[k]? = some (.fz d)) :
    ∃ p vs v, σ[i]? = some (some (.ref p)) ∧ H p = some (.lst vs) ∧ vs.length = os.length ∧ vs[k]? = some v ∧ Dr ξ.K Y v d := by
  obtain ⟨g, R⟩ := F.rel
  obtain ⟨v, e, r⟩ := R.slot i _ h
  obtain ⟨p, vs, f, rfl, hp, hl, hi, hn, hd, hb, hF⟩ := r.on_inv
  have hkl : k < vs.length := by rw [hl]; exact lt_of_get hk
  exact ⟨p, vs, vs[k], e, hp, hl, List.getElem?_eq_getElem hkl, (hi k _ _ hk (List.getElem?_eq_getElem hkl)).fz_inv⟩
/-- .. is set to a leaf -/
theorem FS.nestSet {os : List OD} (F : FS ξ Y H σ s tv ts) {i k : Nat} (h : s[i]? = some (some (.on os))) (hk : k < os.length) (hd : Dr ξ.K Y v d) :
    ∃ p vs, σ[i]? = some (some (.ref p)) ∧ H p = some (.lst vs) ∧ vs.length = os.length ∧ FS ξ Y (upd H p (.lst (vs.set k v))) σ (s.set i (some (.on (os.set k (.fz d))))) tv ts := by
  obtain ⟨g, R⟩ := F.rel
  obtain ⟨v0, e, r⟩ := R.slot i _ h
  obtain ⟨p, vs, f, rfl, hp, hl, hi, hn, hs, hb, hF⟩ := r.on_inv
  refine ⟨p, vs, e, hp, hl, ?_⟩
  -- the child's own things are let go of (forgotten)
  let f' : Nat → Addr → Prop := fun j a => j ≠ k ∧ f j a
  let g' : Own := fun j a => (j = .inl i ∧ (a = p ∨ ∃ q, f' q a)) ∨ (j ≠ .inl i ∧ g j a)
  have up : ∀ q a, f q a → upd H p (.lst (vs.set k v)) a = H a := fun q a z => upd_ne fun w => hn q (w ▸ z)
  have R' : Rel ξ Y H σ (s.set i none) tv ts g' := by
    refine ⟨fun j o e => ?_, fun j o e => ?_, fun j a z => ?_, fun j l a z z' => ?_⟩
    · by_cases hj : j = i
      · subst hj
        rw [List.getElem?_set_self (lt_of_get h)] at e
        cases e
      · rw [List.getElem?_set_ne (Ne.symm hj)] at e
        obtain ⟨v, e1, r⟩ := R.slot j o e
        exact ⟨v, e1, r.iff fun a => ⟨fun z => .inr ⟨fun w => hj (Sum.inl.inj w), z⟩, fun z => z.elim (fun w => (hj (Sum.inl.inj w.1)).elim) fun w => w.2⟩⟩
    · obtain ⟨v, e1, r⟩ := R.temp j o e
      exact ⟨v, e1, r.iff fun a => ⟨fun z => .inr ⟨(fun w => nomatch w), z⟩, fun z => z.elim (fun w => nomatch w.1) fun w => w.2⟩⟩
    · rcases z with ⟨rfl, z⟩ | ⟨_, z⟩
      · refine R.own (.inl i) a ((hF a).mpr ?_)
        rcases z with z | ⟨q, z⟩
        · exact .inl z
        · exact .inr ⟨q, z.2⟩
      · exact R.own j a z
    · have low : ∀ j a, g' j a → g j a := fun j a z => by
        rcases z with ⟨rfl, z⟩ | ⟨_, z⟩
        · refine (hF a).mpr ?_
          rcases z with z | ⟨q, z⟩
          · exact .inl z
          · exact .inr ⟨q, z.2⟩
        · exact z
      exact R.sep _ _ _ (low _ _ z) (low _ _ z')
  have F2 : FS ξ Y H σ (s.set i none) tv ts := F.forget (by simp) fun j o e => by
    by_cases hj : j = i
    · subst hj
      rw [List.getElem?_set_self (lt_of_get h)] at e
      cases e
    · rw [List.getElem?_set_ne (Ne.symm hj)] at e
      exact e
  have w := F2.writeS (p := p) (u := .lst (vs.set k v)) (o' := .on (os.set k (.fz d))) R' (i := i) (by simpa using lt_of_get h) e (.inl ⟨rfl, .inl rfl⟩) ?_
  · rwa [List.set_set] at w
  · refine (RO.on f' upd_same (by simp [hl]) (fun j o w ho hw => ?_) (fun j z => hn j z.2) (fun j l a z z' => hs j l a z.2 z'.2) (fun j a z => by simpa using hb j a z.2)).iff fun a => ⟨fun z => .inl ⟨rfl, z⟩, fun z => z.elim (fun w => w.2) fun w => (w.1 rfl).elim⟩
    by_cases hj : j = k
    · subst hj
      rw [List.getElem?_set_self hk] at ho
      rw [List.getElem?_set_self (by omega)] at hw
      cases ho; cases hw
      exact (RO.fz hd).iff fun a => ⟨fun z => z.elim, fun z => (z.1 rfl).elim⟩
    · rw [List.getElem?_set_ne (Ne.symm hj)] at ho hw
      exact ((hi j o w ho hw).mono (Same.refl _) fun a z => up j a z).iff fun a => ⟨fun z => ⟨hj, z⟩, fun z => z.2⟩
/-- the k-th item is an owned list: read, and written -/
theorem FS.nestList {os : List OD} {ds : List D} (F : FS ξ Y H σ s tv ts) {i k : Nat} (h : s[i]? = some (some (.on os))) (hk : os[k]? = some (.ol ds)) :
    ∃ p vs q ws, σ[i]? = some (some (.ref p)) ∧ H p = some (.lst vs) ∧ vs.length = os.length ∧ vs[k]? = some (.ref q) ∧ H q = some (.lst ws) ∧ DrAll ξ.K Y ws ds ∧
      ∀ ws' ds', DrAll ξ.K Y ws' ds' → FS ξ Y (upd H q (.lst ws')) σ (s.set i (some (.on (os.set k (.ol ds'))))) tv ts := by
  obtain ⟨g, R⟩ := F.rel
  obtain ⟨v0, e, r⟩ := R.slot i _ h
  obtain ⟨p, vs, f, rfl, hp, hl, hi, hn, hs, hb, hF⟩ := r.on_inv
  have hkl : k < vs.length := by rw [hl]; exact lt_of_get hk
  obtain ⟨q, ws, ev, hq, hd, hf⟩ := (hi k _ _ hk (List.getElem?_eq_getElem hkl)).ol_inv
  have fq : f k q := (hf q).mpr rfl
  refine ⟨p, vs, q, ws, e, hp, hl, by rw [List.getElem?_eq_getElem hkl, ev], hq, hd, fun ws' ds' h' => ?_⟩
  refine F.writeS R (lt_of_get h) e ((hF q).mpr (.inr ⟨k, fq⟩)) ?_
  have np : p ≠ q := fun z => hn k (z ▸ fq)
  refine (RO.on f ((upd_ne np).trans hp) (by simp [hl]) (fun j o w ho hw => ?_) hn hs (fun j a z => by simpa using hb j a z)).iff fun a => (hF a).symm
  by_cases hj : j = k
  · subst hj
    rw [List.getElem?_set_self (lt_of_get hk)] at ho
    cases ho
    rw [List.getElem?_eq_getElem hkl] at hw
    cases hw
    rw [ev]
    exact (RO.ol upd_same h').iff fun a => (hf a).symm
  · rw [List.getElem?_set_ne (Ne.symm hj)] at ho
    exact (hi j o w ho hw).mono (Same.refl _) fun a z => upd_ne fun w => hj (hs _ _ _ z (w ▸ fq))

/-! ### lending: some slots are looked at as frozen, some are hidden -/
inductive Mode where
  | k | f | h
def b1 : Mode → Option OD → Option OD
  | .k, x => x
  | .f, x => x.map fun o => .fz o.frz
  | .h, some (.fz d) => some (.fz d)
  | .h, _ => none
def brw : List Mode → S → S
  | m :: ms, x :: xs => b1 m x :: brw ms xs
  | _, _ => []
def r1 : Mode → Option OD → Option OD → Option (Option OD)
  | .f, x, _ => some x
  | .h, x, _ => some x
  | .k, none, _ => some none
  | .k, some (.fz d), _ => some (some (.fz d))
  | .k, some _, some o => if o.free = true then some (some o) else none
  | .k, some _, none => none
def rst : List Mode → S → S → Option S
  | m :: ms, x :: xs, y :: ys => (r1 m x y).bind fun z => (rst ms xs ys).map fun zs => z :: zs
  | [], [], [] => some []
  | _, _, _ => none
theorem rst_get : ∀ {ms : List Mode} {xs ys zs : S}, rst ms xs ys = some zs → zs.length = xs.length ∧ ys.length = xs.length ∧ ms.length = xs.length ∧ ∀ (i : Nat) (m : Mode) (x : Option OD), ms[i]? = some m → xs[i]? = some x → ∃ y z, ys[i]? = some y ∧ r1 m x y = some z ∧ zs[i]? = some z
  | [], [], [], zs, h => by
    simp only [rst, Option.some.injEq] at h
    subst h
    exact ⟨rfl, rfl, rfl, fun i m x e => by simp at e⟩
  | m :: ms, x :: xs, y :: ys, zs, h => by
    simp only [rst] at h
    cases e1 : r1 m x y with
    | none => rw [e1] at h; simp at h
    | some z =>
      rw [e1] at h
      cases e2 : rst ms xs ys with
      | none => rw [e2] at h; simp at h
      | some zs' =>
        rw [e2] at h
        simp at h
        subst h
        obtain ⟨a, b, c, d⟩ := rst_get e2
        refine ⟨by simp [a], by simp [b], by simp [c], fun i m' x' h1 h2 => ?_⟩
        cases i with
        | zero =>
          simp at h1 h2
          subst h1; subst h2
          exact ⟨y, z, rfl, e1, rfl⟩
        | succ i =>
          simp at h1 h2
          obtain ⟨y', z', q1, q2, q3⟩ := d i m' x' h1 h2
          exact ⟨y', z', by simpa using q1, q2, by simpa using q3⟩
  | [], [], _ :: _, _, h => by simp [rst] at h
  | [], _ :: _, _, _, h => by simp [rst] at h
  | _ :: _, [], _, _, h => by simp [rst] at h
  | _ :: _, _ :: _, [], _, h => by simp [rst] at h
theorem brw_get : ∀ {ms : List Mode} {xs : S} {i : Nat} {y : Option OD}, (brw ms xs)[i]? = some y → ∃ m x, ms[i]? = some m ∧ xs[i]? = some x ∧ y = b1 m x
  | [], _, _, _, h => by simp [brw] at h
  | _ :: _, [], _, _, h => by simp [brw] at h
  | m :: ms, x :: xs, 0, y, h => by
    simp [brw] at h
    exact ⟨m, x, rfl, rfl, h.symm⟩
  | m :: ms, x :: xs, i + 1, y, h => by
    simp only [brw, List.getElem?_cons_succ] at h
    obtain ⟨m', x', a, b, c⟩ := brw_get h
    exact ⟨m', x', by simpa using a, by simpa using b, c⟩
theorem brw_length : ∀ {ms : List Mode} {xs : S}, ms.length = xs.length → (brw ms xs).length = xs.length
  | [], [], _ => rfl
  | [], _ :: _, h => by simp at h
  | _ :: _, [], h => by simp at h
  | m :: ms, x :: xs, h => by
    simp only [brw, List.length_cons]
    rw [brw_length (by simpa using h)]

/-- the frame lent: f's frozen, k's kept, h's hidden; and taken back -/
theorem FS.lend (F : FS ξ Y H σ s tv ts) {ms : List Mode} (hm : ms.length = s.length) : ∃ ξ' Y1, ξ'.K = ξ.K ∧ Same Y Y1 ∧ FS ξ' Y1 H σ (brw ms s) [] [] ∧
    ∀ Y' H' s' r tv' ts', Same Y1 Y' → FS ξ' Y' H' σ s' tv' ts' → rst ms s s' = some r → ofreeAll ts' = true → ∃ Y2, Same Y Y2 ∧ FS ξ Y2 H' σ r (tv ++ tv') (ts ++ ts') ∧ ∀ v d, Dr ξ.K Y' v d → free d = true → Dr ξ.K Y2 v d := by
  obtain ⟨g, R⟩ := F.rel
  let G : Addr → Prop := fun a => ∃ (i : Nat) (o : OD), ms[i]? = some .f ∧ s[i]? = some (some o) ∧ g (.inl i) a
  let M : Addr → Prop := fun a => ∃ (i : Nat) (o : OD), ms[i]? = some .k ∧ s[i]? = some (some o) ∧ g (.inl i) a
  have hGM : ∀ a, G a → ¬ M a := by
    rintro a ⟨i, o, a1, _, a3⟩ ⟨j, u, b1, _, b3⟩
    have e : i = j := Sum.inl.inj (R.sep _ _ _ a3 b3)
    subst e
    rw [a1] at b1
    cases b1
  have own_of : ∀ a, G a ∨ M a → H a ≠ none ∧ Y a = none ∧ (ξ.H0 a = none ∨ ξ.ma a) := by
    rintro a (⟨i, o, _, _, z⟩ | ⟨i, o, _, _, z⟩)
    · exact R.own _ a z
    · exact R.own _ a z
  have hy : Same Y (add Y H G) := add_same F.sub
  refine ⟨⟨ξ.K, H, add Y H G, M⟩, add Y H G, rfl, hy, ⟨add_sub F.sub, Same.refl _, fun a h => .inl h, fun a o h _ => h, fun a h => h, by rw [brw_length hm]; exact F.len, rfl, ?_⟩, ?_⟩
  · refine ⟨fun i a => ∃ (n : Nat) (o : OD), i = .inl n ∧ ms[n]? = some .k ∧ s[n]? = some (some o) ∧ g (.inl n) a, fun i o e => ?_, fun j o e => by simp at e, ?_, ?_⟩
    · obtain ⟨m, x, e1, e2, e3⟩ := brw_get e
      cases x with
      | none => cases m <;> simp [b1] at e3
      | some u =>
        obtain ⟨v, f1, r⟩ := R.slot i u e2
        refine ⟨v, f1, ?_⟩
        cases m with
        | k =>
          simp only [b1, Option.some.injEq] at e3
          subst e3
          exact (r.mono hy fun a _ => rfl).iff fun a => ⟨fun z => ⟨i, o, rfl, e1, e2, z⟩, fun z => by
            obtain ⟨n, o', q1, _, _, q4⟩ := z
            cases q1
            exact q4⟩
        | f =>
          simp only [b1, Option.map_some, Option.some.injEq] at e3
          subst e3
          refine (RO.fz (r.toD hy fun a z => add_in ⟨i, u, e1, e2, z⟩)).iff fun a => ⟨fun z => z.elim, fun z => ?_⟩
          obtain ⟨n, o', q1, q2, _, _⟩ := z
          cases q1
          rw [e1] at q2; cases q2
        | h =>
          cases u with
          | fz d =>
            simp only [b1, Option.some.injEq] at e3
            subst e3
            exact (RO.fz (r.fz_inv.mono hy)).iff fun a => ⟨fun z => z.elim, fun z => by
              obtain ⟨n, o', q1, q2, _, _⟩ := z
              cases q1
              rw [e1] at q2; cases q2⟩
          | ol _ => simp [b1] at e3
          | on _ => simp [b1] at e3
          | od _ => simp [b1] at e3
    · rintro i a ⟨n, o, rfl, q1, q2, q3⟩
      have hM : M a := ⟨n, o, q1, q2, q3⟩
      obtain ⟨h1, h2, h3⟩ := R.own _ a q3
      refine ⟨h1, ?_, .inr hM⟩
      rw [add_out fun z => hGM a z hM]
      exact h2
    · rintro i j a ⟨n, o, rfl, _, _, q3⟩ ⟨n', o', rfl, _, _, q3'⟩
      exact R.sep _ _ _ q3 q3'
  · intro Y' H' s' r tv' ts' hy' F' hr hfr
    have hfr := ofreeAll_iff.mp hfr
    obtain ⟨g', R'⟩ := F'.rel
    obtain ⟨l1, l2, l3, get⟩ := rst_get hr
    have nt : NoTup Y' G := by
      rintro a xs ⟨i, o, q1, q2, q3⟩ rd
      obtain ⟨v, _, r⟩ := R.slot i o q2
      obtain ⟨u, hu, ow⟩ := r.ownable a q3
      have y1 : Y' a = some u := hy' _ _ (by rw [add_in ⟨i, o, q1, q2, q3⟩]; exact hu)
      rcases rd with rd | ⟨ob, rd⟩
      · rw [y1] at rd; cases rd; exact ow
      · rw [y1] at rd; cases rd; exact ow
    have yG : ∀ a, G a → Y' a = H a := fun a z => by
      cases e : H a with
      | none => exact ((own_of a (.inl z)).1 e).elim
      | some u => exact hy' _ _ (by rw [add_in z]; exact e)
    have hG' : ∀ a, G a → H' a = H a := fun a z => by
      cases e : H a with
      | none => exact ((own_of a (.inl z)).1 e).elim
      | some u => exact F'.sub _ _ ((yG a z).trans e)
    -- what is not lent for writing stands
    have kk : ∀ i a, g i a → ¬ M a → H' a = H a := fun i a z nm => by
      cases e : H a with
      | none => exact ((R.own i a z).1 e).elim
      | some u => exact F'.keep a u e nm
    have y2 : Same Y (cut Y' G) := fun a o h => by
      have na : ¬ G a := fun z => by rw [(own_of a (.inl z)).2.1] at h; cases h
      rw [cut_out na]
      exact hy' _ _ (hy _ _ h)
    refine ⟨cut Y' G, y2, ⟨cut_same.trans F'.sub, F.z0.trans y2, fun a h => ?_, fun a o h m => ?_, fun a h => F'.live a (F.live a h), by rw [l1]; exact F.len, by rw [List.length_append, List.length_append, F.tlen, F'.tlen], ?_⟩, fun v d h f => h.cut nt f⟩
    · have na : ¬ G a := fun z => h (cut_in z)
      rw [cut_out na] at h
      rcases F'.fresh a h with q | q | q
      · rw [show (Fx.mk ξ.K H (add Y H G) M).Z0 a = Y a from add_out na] at q
        exact F.fresh a q
      · by_cases m : ξ.H0 a = none
        · exact .inr (.inl m)
        · exact (F.live a m q).elim
      · exact .inr (own_of a (.inr q)).2.2
    · refine F'.keep a o (F.keep a o h m) fun z => ?_
      rcases (own_of a (.inr z)).2.2 with q | q
      · rw [q] at h; cases h
      · exact m q
    · -- which slots are told anew
      let up : Nat ⊕ Nat → Nat ⊕ Nat := fun i => match i with
        | .inl n => .inl n
        | .inr j => .inr (j + ts.length)
      have upi : ∀ i j, up i = up j → i = j := by
        rintro (n | n) (m | m) h
        · exact congrArg Sum.inl (Sum.inl.inj h)
        · cases h
        · cases h
        · have : n + ts.length = m + ts.length := Sum.inr.inj h
          exact congrArg Sum.inr (by omega)
      let A : Nat ⊕ Nat → Prop := fun i => (∃ (n : Nat) (o : OD), i = .inl n ∧ ms[n]? = some .k ∧ s[n]? = some (some o) ∧ ∀ d, o ≠ .fz d) ∨ ∃ j, i = .inr (j + ts.length)
      let g2 : Own := fun i a => (A i ∧ ∃ i', up i' = i ∧ g' i' a) ∨ (¬ A i ∧ g i a)
      have notM : ∀ i a, ¬ A i → g i a → ¬ M a := by
        rintro i a nA z ⟨n, o, q1, q2, q3⟩
        have e := R.sep _ _ _ z q3
        subst e
        refine nA (.inl ⟨n, o, rfl, q1, q2, fun d e => ?_⟩)
        subst e
        obtain ⟨v, _, r⟩ := R.slot n _ q2
        exact r.fz_own q3
      have old : ∀ i a, ¬ A i → g i a → H' a = H a := fun i a nA z => kk i a z (notM i a nA z)
      refine ⟨g2, fun i o e => ?_, fun j o e => ?_, fun i a z => ?_, fun i j a z z' => ?_⟩
      · have hi : i < s.length := by rw [← l1]; exact lt_of_get e
        obtain ⟨y, z, e1, e2, e3⟩ := get i _ _ (List.getElem?_eq_getElem (by omega)) (List.getElem?_eq_getElem hi)
        rw [e] at e3
        cases e3
        generalize hx : s[i] = x at e2
        generalize hmm : ms[i]'(by omega) = m at e2
        have sx : s[i]? = some x := by rw [List.getElem?_eq_getElem hi, hx]
        have mx : ms[i]? = some m := by rw [List.getElem?_eq_getElem (by omega), hmm]
        have usual : ∀ (nA : ¬ A (.inl i)), s[i]? = some (some o) → ∃ v, σ[i]? = some (some v) ∧ RO ξ.K (cut Y' G) H' v o (g2 (.inl i)) := fun nA e => by
          obtain ⟨v, f1, r⟩ := R.slot i o e
          exact ⟨v, f1, (r.mono y2 fun a z => old _ a nA z).iff fun a => ⟨fun z => .inr ⟨nA, z⟩, fun z => z.elim (fun w => (nA w.1).elim) fun w => w.2⟩⟩
        have noA : (∀ o, m = .k → x = some o → ∃ d, o = .fz d) → ¬ A (.inl i) := by
          rintro h (⟨n, o', q1, q2, q3, q4⟩ | ⟨_, q⟩)
          rotate_left
          · cases q
          cases q1
          rw [mx] at q2
          rw [sx] at q3
          cases q2; cases q3
          obtain ⟨d, e⟩ := h o' rfl rfl
          exact q4 d e
        cases m with
        | f =>
          simp only [r1, Option.some.injEq] at e2
          subst e2
          exact usual (noA fun _ z => nomatch z) sx
        | h =>
          simp only [r1, Option.some.injEq] at e2
          subst e2
          exact usual (noA fun _ z => nomatch z) sx
        | k =>
          cases x with
          | none => simp [r1] at e2
          | some u =>
            by_cases hu : ∃ d, u = .fz d
            · obtain ⟨d, rfl⟩ := hu
              simp only [r1, Option.some.injEq] at e2
              subst e2
              exact usual (noA fun o _ z => ⟨d, by cases z; rfl⟩) sx
            · have hA : A (.inl i) := .inl ⟨i, u, rfl, mx, sx, fun d e => hu ⟨d, e⟩⟩
              cases y with
              | none =>
                cases u with
                | fz d => exact (hu ⟨d, rfl⟩).elim
                | ol _ => simp [r1] at e2
                | on _ => simp [r1] at e2
                | od _ => simp [r1] at e2
              | some w =>
                have e4 : w.free = true ∧ o = w := by
                  cases u with
                  | fz d => exact (hu ⟨d, rfl⟩).elim
                  | ol _ =>
                    simp only [r1] at e2
                    split at e2
                    · exact ⟨‹_›, by simpa using e2.symm⟩
                    · cases e2
                  | on _ =>
                    simp only [r1] at e2
                    split at e2
                    · exact ⟨‹_›, by simpa using e2.symm⟩
                    · cases e2
                  | od _ =>
                    simp only [r1] at e2
                    split at e2
                    · exact ⟨‹_›, by simpa using e2.symm⟩
                    · cases e2
                obtain ⟨wf, rfl⟩ := e4
                obtain ⟨v, f1, r⟩ := R'.slot i o e1
                exact ⟨v, f1, (r.cut nt wf).iff fun a => ⟨fun z => .inl ⟨hA, .inl i, rfl, z⟩, fun z => z.elim (fun w => by
                  obtain ⟨_, i', e', w⟩ := w
                  have : i' = .inl i := upi _ _ e'
                  subst this
                  exact w) fun w => (w.1 hA).elim⟩⟩
      · by_cases hj : j < ts.length
        rotate_left
        · rw [List.getElem?_append_right (by omega)] at e
          obtain ⟨v, f1, r⟩ := R'.temp (j - ts.length) o e
          have hA : A (.inr j) := .inr ⟨j - ts.length, by congr 1; omega⟩
          have hu : up (.inr (j - ts.length)) = .inr j := by
            show Sum.inr (j - ts.length + ts.length) = Sum.inr j
            congr 1; omega
          refine ⟨v, by rw [List.getElem?_append_right (by have := F.tlen; omega), ← F.tlen]; exact f1, (r.cut nt (hfr o (List.mem_of_getElem? e))).iff fun a => ⟨fun z => .inl ⟨hA, .inr (j - ts.length), hu, z⟩, fun z => z.elim (fun w => by
            obtain ⟨_, i', e', w⟩ := w
            have : i' = .inr (j - ts.length) := upi _ _ (e'.trans hu.symm)
            subst this
            exact w) fun w => (w.1 hA).elim⟩⟩
        rw [List.getElem?_append_left hj] at e
        obtain ⟨v, f1, r⟩ := R.temp j o e
        have nA : ¬ A (.inr j) := by
          rintro (⟨_, _, q, _⟩ | ⟨l, q⟩)
          · cases q
          · have : j = l + ts.length := Sum.inr.inj q
            omega
        have f1 : (tv ++ tv')[j]? = some v := by rw [List.getElem?_append_left (by have := F.tlen; omega)]; exact f1
        exact ⟨v, f1, (r.mono y2 fun a z => old _ a nA z).iff fun a => ⟨fun z => .inr ⟨nA, z⟩, fun z => z.elim (fun w => (nA w.1).elim) fun w => w.2⟩⟩
      · rcases z with ⟨hA, i', _, z⟩ | ⟨nA, z⟩
        · obtain ⟨h1, h2, h3⟩ := R'.own i' a z
          refine ⟨h1, ?_, ?_⟩
          · by_cases q : G a
            · exact cut_in q
            · rw [cut_out q]; exact h2
          · rcases h3 with h3 | h3
            · by_cases m : ξ.H0 a = none
              · exact .inl m
              · exact (F.live a m h3).elim
            · exact (own_of a (.inr h3)).2.2
        · obtain ⟨h1, h2, h3⟩ := R.own i a z
          refine ⟨by rw [old i a nA z]; exact h1, ?_, h3⟩
          by_cases q : G a
          · exact cut_in q
          · rw [cut_out q]
            cases e : Y' a with
            | none => rfl
            | some u =>
              rcases F'.fresh a (by rw [e]; simp) with w | w | w
              · rw [show (Fx.mk ξ.K H (add Y H G) M).Z0 a = Y a from add_out q] at w
                exact (w h2).elim
              · exact (h1 w).elim
              · exact (notM i a nA z w).elim
      · have mixed : ∀ i j, g' i a → ¬ A j → g j a → False := fun i j z nA z' => by
          rcases (R'.own i a z).2.2 with w | w
          · exact (R.own j a z').1 w
          · exact notM j a nA z' w
        rcases z with ⟨hA, i', e', z⟩ | ⟨nA, z⟩
        · rcases z' with ⟨hA', j', e2', z'⟩ | ⟨nA', z'⟩
          · rw [← e', ← e2', R'.sep _ _ _ z z']
          · exact (mixed _ _ z nA' z').elim
        · rcases z' with ⟨hA', j', e2', z'⟩ | ⟨nA', z'⟩
          · exact (mixed _ _ z' nA z).elim
          · exact R.sep _ _ _ z z'
end
end MI

set_option Elab.async false
set_option linter.all false
set_option autoImplicit false
set_option maxRecDepth 100000
/-! MI: the judgements; expressions. -/
namespace MI
open PySem PySem.Spec L2

/-- an own error: its class's name, its fields -/
structure Exn where
  cls : Str
  fs : List (Str × D)
inductive Res (α : Type) where
  | ok (a : α) (s : S)
  | ex (e : Exn) (s : S)
  | bad
def Res.bind {α β : Type} : Res α → (α → S → Res β) → Res β
  | .ok a s, f => f a s
  | .ex e s, _ => .ex e s
  | .bad, _ => .bad
@[simp] theorem Res.bind_ok {α β : Type} {a : α} {s : S} {f : α → S → Res β} : (Res.ok a s).bind f = f a s := Eq.trans rfl rfl
@[simp] theorem Res.bind_ex {α β : Type} {e : Exn} {s : S} {f : α → S → Res β} : (Res.ex e s).bind f = .ex e s := Eq.trans rfl rfl
@[simp] theorem Res.bind_bad {α β : Type} {f : α → S → Res β} : Res.bad.bind f = .bad := Eq.trans rfl rfl
def ofO {α : Type} (x : Option α) (s : S) : Res α := match x with
  | some a => .ok a s
  | none => .bad
abbrev EF := S → Res D
abbrev OF := S → Res OD
abbrev TF := S → Res Bool
abbrev AF := S → Res (List D)

structure Ct where
  K : PySem.W.Frag
  er : Exn → Value → Option Addr → Hp → Prop
  W : L2.WX

section
variable (c : Ct)
/-- what a result must give: at ok G, at an error the wish -/
def out (ξ : Fx) (Y : Hp) (σ : St) (tv : List V) (ts : List OD) {α : Type} (G : α → S → Prop) : Res α → Prop
  | .ok a s' => G a s'
  | .ex e s' => ∀ Y' H' cl x, Same Y Y' → FS ξ Y' H' σ s' tv ts → c.er e cl x H' → c.W cl x σ H'
  | .bad => False
theorem out.mono {ξ : Fx} {Y Y1 : Hp} {σ : St} {tv : List V} {ts : List OD} {α : Type} {G G' : α → S → Prop} {r : Res α} (h : out c ξ Y σ tv ts G r) (e : Same Y Y1) (g : ∀ a s, G a s → G' a s) : out c ξ Y1 σ tv ts G' r := by
  cases r with
  | ok a s => exact g a s h
  | ex x s => exact fun Y' H' cl q e' F er => h Y' H' cl q (e.trans e') F er
  | bad => exact h
/-- an expression's reading: data -/
def tE (f : EF) : TE := fun σ H Q => ∃ ξ Y s tv ts, ξ.K = c.K ∧ FS ξ Y H σ s tv ts ∧
  out c ξ Y σ tv ts (fun d s' => ∀ Y' H' v, Same Y Y' → FS ξ Y' H' σ s' tv ts → Dr c.K Y' v d → Q v H') (f s)
/-- .. owned -/
def tO (f : OF) : TE := fun σ H Q => ∃ ξ Y s tv ts, ξ.K = c.K ∧ FS ξ Y H σ s tv ts ∧
  out c ξ Y σ tv ts (fun o s' => ∀ Y' H' v, Same Y Y' → FS ξ Y' H' σ s' (tv ++ [v]) (ts ++ [o]) → Q v H') (f s)
def tT (f : TF) : TT := fun σ H Q => ∃ ξ Y s tv ts, ξ.K = c.K ∧ FS ξ Y H σ s tv ts ∧
  out c ξ Y σ tv ts (fun b s' => ∀ Y' H', Same Y Y' → FS ξ Y' H' σ s' tv ts → Q b H') (f s)
def tA (f : AF) : TA := fun σ H Q => ∃ ξ Y s tv ts, ξ.K = c.K ∧ FS ξ Y H σ s tv ts ∧
  out c ξ Y σ tv ts (fun ds s' => ∀ Y' H' vs, Same Y Y' → FS ξ Y' H' σ s' tv ts → DrAll c.K Y' vs ds → Q vs H') (f s)
end

structure ME (X : Cx) (c : Ct) (f : EF) (e : Expr) : Prop where
  run : PE X e (tE c f)
structure MO (X : Cx) (c : Ct) (f : OF) (e : Expr) : Prop where
  run : PE X e (tO c f)
structure MT (X : Cx) (c : Ct) (f : TF) (e : Expr) : Prop where
  run : PT X e (tT c f)
structure MA (X : Cx) (c : Ct) (f : AF) (es : List Expr) : Prop where
  run : PA X es (tA c f)

theorem PE.imp {X : Cx} {e : Expr} {t t' : TE} (h : PE X e t) (i : ∀ σ H Q, t' σ H Q → t σ H Q) : PE X e t' := ⟨fun pins s σ H Q I q => h.run pins s σ H Q I (i σ H Q q)⟩
theorem PT.imp {X : Cx} {e : Expr} {t t' : TT} (h : PT X e t) (i : ∀ σ H Q, t' σ H Q → t σ H Q) : PT X e t' := ⟨fun pins s σ H Q I q => h.run pins s σ H Q I (i σ H Q q)⟩
theorem PA.imp {X : Cx} {e : List Expr} {t t' : TA} (h : PA X e t) (i : ∀ σ H Q, t' σ H Q → t σ H Q) : PA X e t' := ⟨fun pos pins s σ H Q I q => h.run pos pins s σ H Q I (i σ H Q q)⟩

section
variable {X : Cx} {c : Ct} {ξ : Fx} {Y H : Hp} {σ : St} {s : S} {tv : List V} {ts : List OD}

/-- one part, then the rest -/
theorem tE_seq {β : Type} {fa : EF} {k : D → S → Res β} {G : β → S → Prop} {R : VK} (hK : ξ.K = c.K) (F : FS ξ Y H σ s tv ts) (h : out c ξ Y σ tv ts G ((fa s).bind k))
    (hR : ∀ d s1 Y1 H1 v, Same Y Y1 → FS ξ Y1 H1 σ s1 tv ts → Dr c.K Y1 v d → out c ξ Y σ tv ts G (k d s1) → R v H1) : tE c fa σ H R := by
  refine ⟨ξ, Y, s, tv, ts, hK, F, ?_⟩
  cases e : fa s with
  | ok d s1 => rw [e] at h; exact fun Y1 H1 v e1 F1 r1 => hR d s1 Y1 H1 v e1 F1 r1 h
  | ex x s1 => rw [e] at h; exact h
  | bad => rw [e] at h; exact h
theorem tO_seq {β : Type} {fa : OF} {k : OD → S → Res β} {G : β → S → Prop} {R : VK} (hK : ξ.K = c.K) (F : FS ξ Y H σ s tv ts) (h : out c ξ Y σ tv ts G ((fa s).bind k))
    (hR : ∀ o s1 Y1 H1 v, Same Y Y1 → FS ξ Y1 H1 σ s1 (tv ++ [v]) (ts ++ [o]) → out c ξ Y σ tv ts G (k o s1) → R v H1) : tO c fa σ H R := by
  refine ⟨ξ, Y, s, tv, ts, hK, F, ?_⟩
  cases e : fa s with
  | ok d s1 => rw [e] at h; exact fun Y1 H1 v e1 F1 => hR d s1 Y1 H1 v e1 F1 h
  | ex x s1 => rw [e] at h; exact h
  | bad => rw [e] at h; exact h
theorem tT_seq {β : Type} {fa : TF} {k : Bool → S → Res β} {G : β → S → Prop} {R : Bool → Hp → Prop} (hK : ξ.K = c.K) (F : FS ξ Y H σ s tv ts) (h : out c ξ Y σ tv ts G ((fa s).bind k))
    (hR : ∀ b s1 Y1 H1, Same Y Y1 → FS ξ Y1 H1 σ s1 tv ts → out c ξ Y σ tv ts G (k b s1) → R b H1) : tT c fa σ H R := by
  refine ⟨ξ, Y, s, tv, ts, hK, F, ?_⟩
  cases e : fa s with
  | ok d s1 => rw [e] at h; exact fun Y1 H1 e1 F1 => hR d s1 Y1 H1 e1 F1 h
  | ex x s1 => rw [e] at h; exact h
  | bad => rw [e] at h; exact h
theorem tA_seq {β : Type} {fa : AF} {k : List D → S → Res β} {G : β → S → Prop} {R : List V → Hp → Prop} (hK : ξ.K = c.K) (F : FS ξ Y H σ s tv ts) (h : out c ξ Y σ tv ts G ((fa s).bind k))
    (hR : ∀ ds s1 Y1 H1 vs, Same Y Y1 → FS ξ Y1 H1 σ s1 tv ts → DrAll c.K Y1 vs ds → out c ξ Y σ tv ts G (k ds s1) → R vs H1) : tA c fa σ H R := by
  refine ⟨ξ, Y, s, tv, ts, hK, F, ?_⟩
  cases e : fa s with
  | ok d s1 => rw [e] at h; exact fun Y1 H1 v e1 F1 r1 => hR d s1 Y1 H1 v e1 F1 r1 h
  | ex x s1 => rw [e] at h; exact h
  | bad => rw [e] at h; exact h

/-! ### how a value comes -/
inductive Gives (K : PySem.W.Frag) (Y : Hp) : Hp → V → Hp → Hp → OD → Prop
  | old {H : Hp} {v : V} {d : D} : Dr K Y v d → Gives K Y H v Y H (.fz d)
  | tup {H : Hp} {p : Addr} {vs : List V} {ds : List D} : H p = none → DrAll K Y vs ds → Gives K Y H (.ref p) (upd Y p (.tup vs)) (upd H p (.tup vs)) (.fz (.tuple ds))
  | lst {H : Hp} {p : Addr} {vs : List V} {ds : List D} : H p = none → DrAll K Y vs ds → Gives K Y H (.ref p) Y (upd H p (.lst vs)) (.ol ds)
  | junk {H H' Y' : Hp} {p : Addr} {u : HO} {v : V} {o : OD} : H p = none → Gives K Y (upd H p u) v Y' H' o → Gives K Y H v Y' H' o
theorem Gives.fs {K : PySem.W.Frag} {Y H : Hp} {v : V} {Y' H' : Hp} {o : OD} (g : Gives K Y H v Y' H' o) (hK : ξ.K = K) (F : FS ξ Y H σ s tv ts) : Same Y Y' ∧ FS ξ Y' H' σ s (tv ++ [v]) (ts ++ [o]) := by
  subst hK
  induction g with
  | old h => exact ⟨Same.refl _, F.pushD h⟩
  | @tup H p vs ds hp h =>
    have F1 := F.newF hp (.tup vs)
    have e : Same Y (upd Y p (.tup vs)) := same_upd (F.sub.free hp)
    exact ⟨e, F1.pushD (.tup (.inl (.inl upd_same)) (h.mono e))⟩
  | lst hp h => exact ⟨Same.refl _, F.pushL hp h⟩
  | junk hp g ih => exact ih (F.newJ hp _)

/-- an owned value frozen -/
def eFrz (f : OF) : EF := fun s => (f s).bind fun o s => .ok o.frz s
/-- data as an owned value -/
def oFz (f : EF) : OF := fun s => (f s).bind fun d s => .ok (.fz d) s
theorem me_frz {f : OF} {e : Expr} (h : MO X c f e) : ME X c (eFrz f) e := by
  refine ⟨PE.imp h.run fun σ H Q q => ?_⟩
  obtain ⟨ξ, Y, s, tv, ts, hK, F, q⟩ := q
  refine tO_seq hK F q fun o s1 Y1 H1 v e1 F1 q1 => ?_
  obtain ⟨Y2, e2, F2, r2⟩ := F1.freezeT
  exact q1 Y2 H1 v (e1.trans e2) F2 (hK ▸ r2)
theorem mo_fz {f : EF} {e : Expr} (h : ME X c f e) : MO X c (oFz f) e := by
  refine ⟨PE.imp h.run fun σ H Q q => ?_⟩
  obtain ⟨ξ, Y, s, tv, ts, hK, F, q⟩ := q
  refine tE_seq hK F q fun d s1 Y1 H1 v e1 F1 r1 q1 => ?_
  exact q1 Y1 H1 v e1 (F1.pushD (hK ▸ r1))

/-! ### names, constants -/
def eVar (i : Nat) : EF := fun s => match s[i]? with
  | some (some (.fz d)) => .ok d s
  | some (some o) => .ok o.frz (s.set i (some (.fz o.frz)))
  | _ => .bad
theorem me_var {i : Nat} {e : Expr} (h : PE X e (tVar i)) : ME X c (eVar i) e := by
  refine ⟨PE.imp h fun σ H Q q => ?_⟩
  obtain ⟨ξ, Y, s, tv, ts, hK, F, q⟩ := q
  have other : ∀ o, s[i]? = some (some o) → out c ξ Y σ tv ts (fun d s' => ∀ Y' H' v, Same Y Y' → FS ξ Y' H' σ s' tv ts → Dr c.K Y' v d → Q v H') (.ok o.frz (s.set i (some (.fz o.frz)))) → tVar i σ H Q := fun o e q => by
    obtain ⟨Y', e', F', v, hv, r⟩ := F.freezeS e
    exact ⟨v, hv, q Y' H v e' F' (hK ▸ r)⟩
  unfold eVar at q
  split at q
  · rename_i d e
    obtain ⟨v, hv, r⟩ := F.frozen e
    exact ⟨v, hv, q Y H v (Same.refl _) F (hK ▸ r)⟩
  · rename_i o _ e
    exact other o e q
  · exact q.elim
/-- the owned value of a slot goes (the slot is empty then): for return -/
def eC (d : D) : EF := fun s => .ok d s
theorem me_c {d : D} {v : V} {e : Expr} (h : PE X e (tC v)) (r : ∀ Y, Dr c.K Y v d) : ME X c (eC d) e := by
  refine ⟨PE.imp h fun σ H Q q => ?_⟩
  obtain ⟨ξ, Y, s, tv, ts, hK, F, q⟩ := q
  exact q Y H v (Same.refl _) F (r Y)
theorem me_int {i : Int} {j : Nat} {pos : Pos} : ME X c (eC (.int i)) (.Constant (.int i) j pos) := me_c pe_int fun _ => .int i
theorem me_bl {b : Bool} {j : Nat} {pos : Pos} : ME X c (eC (.bool b)) (.Constant (.bool b) j pos) := me_c pe_bl fun _ => .bl b
theorem me_non {j : Nat} {pos : Pos} : ME X c (eC .none) (.Constant .none j pos) := me_c pe_non fun _ => .non
theorem me_str {x : Str} {j : Nat} {pos : Pos} : ME X c (eC (.str x)) (.Constant (.str x) j pos) := me_c pe_str fun _ => .str x

/-! ### operators -/
/-- F says what r asks and gives -/
def OpL (K : PySem.W.Frag) (r : R2) (F : D → D → Option OD) : Prop := ∀ (Y H : Hp) (Q : VK) (x y : V) (a b : D) (o : OD), Same Y H → Dr K Y x a → Dr K Y y b → F a b = some o → (∀ v Y' H', Gives K Y H v Y' H' o → Q v H') → r x y H Q
def oOp2 (F : D → D → Option OD) (fa fb : EF) : OF := fun s => (fa s).bind fun a s => (fb s).bind fun b s => ofO (F a b) s
theorem op2_core {r : R2} {F : D → D → Option OD} (hF : OpL c.K r F) {fa fb : EF} {σ : St} {H : Hp} {Q : VK} (q : tO c (oOp2 F fa fb) σ H Q) : tOp r (tE c fa) (tE c fb) σ H Q := by
  obtain ⟨ξ, Y, s, tv, ts, hK, Fr, q⟩ := q
  refine tE_seq hK Fr q fun a s1 Y1 H1 x e1 F1 r1 q1 => ?_
  refine tE_seq hK F1 (out.mono c q1 e1 (fun _ _ z => z)) fun b s2 Y2 H2 y e2 F2 r2 q2 => ?_
  unfold ofO at q2
  split at q2
  · rename_i o eo
    refine hF Y2 H2 Q x y a b o F2.sub (r1.mono e2) r2 eo fun v Y' H' g => ?_
    obtain ⟨e3, F3⟩ := g.fs hK F2
    exact q2 Y' H' v ((e1.trans e2).trans e3) F3
  · exact q2.elim
theorem mo_op2 {op : Operator} {r : R2} {F : D → D → Option OD} {fa fb : EF} {a b : Expr} {pos : Pos} (ho : OpR X (binaryOp op) r) (hF : OpL c.K r F) (ha : ME X c fa a) (hb : ME X c fb b) : MO X c (oOp2 F fa fb) (.BinOp a op b pos) :=
  ⟨PE.imp (pe_op ho ha.run hb.run) fun _ _ _ q => op2_core hF q⟩
/-- several ways for one operator, by the data -/
def orR (r r' : R2) : R2 := fun x y H Q => r x y H Q ∨ r' x y H Q
theorem OpR.or {f : Value → Value → Sem Value} {r r' : R2} (h : OpR X f r) (h' : OpR X f r') : OpR X f (orR r r') := fun pins s σ H x y v u Q I rx ry q => q.elim (h pins s σ H x y v u Q I rx ry) (h' pins s σ H x y v u Q I rx ry)

def UnL (K : PySem.W.Frag) (r : V → Hp → VK → Prop) (F : D → Option OD) : Prop := ∀ (Y H : Hp) (Q : VK) (x : V) (a : D) (o : OD), Same Y H → Dr K Y x a → F a = some o → (∀ v Y' H', Gives K Y H v Y' H' o → Q v H') → r x H Q
def oOp1 (F : D → Option OD) (fa : EF) : OF := fun s => (fa s).bind fun a s => ofO (F a) s
theorem op1_core {r : V → Hp → VK → Prop} {F : D → Option OD} (hF : UnL c.K r F) {fa : EF} {σ : St} {H : Hp} {Q : VK} (q : tO c (oOp1 F fa) σ H Q) : tUn r (tE c fa) σ H Q := by
  obtain ⟨ξ, Y, s, tv, ts, hK, Fr, q⟩ := q
  refine tE_seq hK Fr q fun a s1 Y1 H1 x e1 F1 r1 q1 => ?_
  unfold ofO at q1
  split at q1
  · rename_i o eo
    refine hF Y1 H1 Q x a o F1.sub r1 eo fun v Y' H' g => ?_
    obtain ⟨e3, F3⟩ := g.fs hK F1
    exact q1 Y' H' v (e1.trans e3) F3
  · exact q1.elim
theorem mo_un {op : UnaryOp} {r : V → Hp → VK → Prop} {F : D → Option OD} {fa : EF} {a : Expr} {pos : Pos} (ho : UnR X (unaryOp op) r) (hF : UnL c.K r F) (ha : ME X c fa a) : MO X c (oOp1 F fa) (.UnaryOp op a pos) :=
  ⟨PE.imp (pe_un ho ha.run) fun _ _ _ q => op1_core hF q⟩

/-! ### comparisons -/
def CmpL (K : PySem.W.Frag) (r : R2) (F : D → D → Option Bool) : Prop := ∀ (Y H : Hp) (Q : VK) (x y : V) (a b : D) (k : Bool), Same Y H → Dr K Y x a → Dr K Y y b → F a b = some k → Q (.bl k) H → r x y H Q
def eCmp (F : D → D → Option Bool) (fa fb : EF) : EF := fun s => (fa s).bind fun a s => (fb s).bind fun b s => (ofO (F a b) s).bind fun k s => .ok (.bool k) s
def kCmp (F : D → D → Option Bool) (fa fb : EF) : TF := fun s => (fa s).bind fun a s => (fb s).bind fun b s => ofO (F a b) s
theorem me_cmp {op : CmpOp} {r : R2} {F : D → D → Option Bool} {fa fb : EF} {a b : Expr} {pos : Pos} (ho : OpR X (compareOp op) r) (hF : CmpL c.K r F) (ha : ME X c fa a) (hb : ME X c fb b) (hm : behindInMarks op b = false) : ME X c (eCmp F fa fb) (.Compare a [op] [b] pos) := by
  refine ⟨PE.imp (pe_cmpR ho ha.run hb.run hm) fun σ H Q q => ?_⟩
  obtain ⟨ξ, Y, s, tv, ts, hK, Fr, q⟩ := q
  refine tE_seq hK Fr q fun a s1 Y1 H1 x e1 F1 r1 q1 => ?_
  refine tE_seq hK F1 (out.mono c q1 e1 (fun _ _ z => z)) fun b s2 Y2 H2 y e2 F2 r2 q2 => ?_
  unfold ofO at q2
  split at q2
  · rename_i o eo
    exact hF Y2 H2 Q x y a b o F2.sub (r1.mono e2) r2 eo (q2 Y2 H2 _ (e1.trans e2) F2 (.bl o))
  · exact q2.elim
theorem mt_cmp {op : CmpOp} {r : R2} {F : D → D → Option Bool} {fa fb : EF} {a b : Expr} {pos : Pos} (ho : OpR X (compareOp op) r) (hF : CmpL c.K r F) (ha : ME X c fa a) (hb : ME X c fb b) (hm : behindInMarks op b = false) : MT X c (kCmp F fa fb) (.Compare a [op] [b] pos) := by
  refine ⟨PT.imp (pt_cmpR ho ha.run hb.run hm) fun σ H Q q => ?_⟩
  obtain ⟨ξ, Y, s, tv, ts, hK, Fr, q⟩ := q
  refine tE_seq hK Fr q fun a s1 Y1 H1 x e1 F1 r1 q1 => ?_
  refine tE_seq hK F1 (out.mono c q1 e1 (fun _ _ z => z)) fun b s2 Y2 H2 y e2 F2 r2 q2 => ?_
  unfold ofO at q2
  split at q2
  · rename_i o eo
    exact hF Y2 H2 _ x y a b o F2.sub (r1.mono e2) r2 eo ⟨o, rfl, q2 Y2 H2 (e1.trans e2) F2⟩
  · exact q2.elim
/-- a op b op' c -/
def eChn (F F' : D → D → Option Bool) (fa fb fc : EF) : EF := fun s => (fa s).bind fun a s => (fb s).bind fun b s => (ofO (F a b) s).bind fun k s => if k = true then (fc s).bind fun z s => (ofO (F' b z) s).bind fun k s => .ok (.bool k) s else .ok (.bool false) s
def kChn (F F' : D → D → Option Bool) (fa fb fc : EF) : TF := fun s => (fa s).bind fun a s => (fb s).bind fun b s => (ofO (F a b) s).bind fun k s => if k = true then (fc s).bind fun z s => ofO (F' b z) s else .ok false s
theorem me_chain {op op' : CmpOp} {r r' : R2} {F F' : D → D → Option Bool} {fa fb fc : EF} {a b z : Expr} {pos : Pos} (ho : OpR X (compareOp op) r) (ho' : OpR X (compareOp op') r') (hF : CmpL c.K r F) (hF' : CmpL c.K r' F')
    (ha : ME X c fa a) (hb : ME X c fb b) (hc : ME X c fc z) (hm : lastMarks [op, op'] [b, z] = false := by with_unfolding_all rfl) : ME X c (eChn F F' fa fb fc) (.Compare a [op, op'] [b, z] pos) := by
  refine ⟨PE.imp (pe_chain ho ho' ha.run hb.run hc.run hm) fun σ H Q q => ?_⟩
  obtain ⟨ξ, Y, s, tv, ts, hK, Fr, q⟩ := q
  refine tE_seq hK Fr q fun a s1 Y1 H1 x e1 F1 r1 q1 => ?_
  refine tE_seq hK F1 (out.mono c q1 e1 (fun _ _ z => z)) fun b s2 Y2 H2 y e2 F2 r2 q2 => ?_
  cases eo : F a b with
  | none => rw [eo] at q2; exact q2.elim
  | some k =>
    rw [eo] at q2
    refine hF Y2 H2 _ x y a b k F2.sub (r1.mono e2) r2 eo ⟨k, rfl, ?_⟩
    cases k with
    | false => exact iteF (q2 Y2 H2 _ (e1.trans e2) F2 (.bl false))
    | true =>
      refine iteT (tE_seq hK F2 (out.mono c q2 e2 (fun _ _ z => z)) fun z s3 Y3 H3 w e3 F3 r3 q3 => ?_)
      cases eo' : F' b z with
      | none => rw [eo'] at q3; exact q3.elim
      | some k => rw [eo'] at q3; exact hF' Y3 H3 Q y w b z k F3.sub (r2.mono e3) r3 eo' (q3 Y3 H3 _ ((e1.trans e2).trans e3) F3 (.bl k))
theorem mt_chain {op op' : CmpOp} {r r' : R2} {F F' : D → D → Option Bool} {fa fb fc : EF} {a b z : Expr} {pos : Pos} (ho : OpR X (compareOp op) r) (ho' : OpR X (compareOp op') r') (hF : CmpL c.K r F) (hF' : CmpL c.K r' F')
    (ha : ME X c fa a) (hb : ME X c fb b) (hc : ME X c fc z) (hm : lastMarks [op, op'] [b, z] = false := by with_unfolding_all rfl) : MT X c (kChn F F' fa fb fc) (.Compare a [op, op'] [b, z] pos) := by
  refine ⟨PT.imp (pt_chain ho ho' ha.run hb.run hc.run hm) fun σ H Q q => ?_⟩
  obtain ⟨ξ, Y, s, tv, ts, hK, Fr, q⟩ := q
  refine tE_seq hK Fr q fun a s1 Y1 H1 x e1 F1 r1 q1 => ?_
  refine tE_seq hK F1 (out.mono c q1 e1 (fun _ _ z => z)) fun b s2 Y2 H2 y e2 F2 r2 q2 => ?_
  cases eo : F a b with
  | none => rw [eo] at q2; exact q2.elim
  | some k =>
    rw [eo] at q2
    refine hF Y2 H2 _ x y a b k F2.sub (r1.mono e2) r2 eo ⟨k, rfl, ?_⟩
    cases k with
    | false => exact iteF ⟨false, rfl, q2 Y2 H2 (e1.trans e2) F2⟩
    | true =>
      refine iteT (tE_seq hK F2 (out.mono c q2 e2 (fun _ _ z => z)) fun z s3 Y3 H3 w e3 F3 r3 q3 => ?_)
      cases eo' : F' b z with
      | none => rw [eo'] at q3; exact q3.elim
      | some k => rw [eo'] at q3; exact hF' Y3 H3 _ y w b z k F3.sub (r2.mono e3) r3 eo' ⟨k, rfl, q3 Y3 H3 ((e1.trans e2).trans e3) F3⟩

/-! ### truth, and, or, not -/
def kVal (f : EF) : TF := fun s => (f s).bind fun d s => match d with
  | .bool b => .ok b s
  | _ => .bad
theorem mt_val {f : EF} {e : Expr} (h : ME X c f e) (he : ∀ whole, isTrue e X.env whole = (do let v ← whole; standAt e.pos; holding [v] (truthy v)) := by intro _; rfl) : MT X c (kVal f) e := by
  refine ⟨PT.imp (pt_val h.run he) fun σ H Q q => ?_⟩
  obtain ⟨ξ, Y, s, tv, ts, hK, F, q⟩ := q
  refine tE_seq hK F q fun d s1 Y1 H1 v e1 F1 r1 q1 => ?_
  cases d with
  | bool b => exact ⟨b, r1.bool_inv, q1 Y1 H1 e1 F1⟩
  | none => exact q1.elim
  | int _ => exact q1.elim
  | str _ => exact q1.elim
  | list _ => exact q1.elim
  | tuple _ => exact q1.elim
  | dict _ => exact q1.elim
def kAnd (f g : TF) : TF := fun s => (f s).bind fun b s => if b = true then g s else .ok false s
def kOr (f g : TF) : TF := fun s => (f s).bind fun b s => if b = true then .ok true s else g s
def kNot (f : TF) : TF := fun s => (f s).bind fun b s => .ok (!b) s
/-- and, or as tests: over several items -/
structure MW (X : Cx) (c : Ct) (f : TF) (e : Expr) : Prop where
  run : PW X e (tT c f)
theorem MW.mt {f : TF} {e : Expr} (h : MW X c f e) : MT X c f e := ⟨h.run.pt⟩
theorem mw_and1 {f : TF} {a : Expr} {pos : Pos} (h : MT X c f a) : MW X c f (.BoolOp .And [a] pos) := ⟨pw_and1 h.run⟩
theorem mw_or1 {f : TF} {a : Expr} {pos : Pos} (h : MT X c f a) : MW X c f (.BoolOp .Or [a] pos) := ⟨pw_or1 h.run⟩
theorem mw_and {f g : TF} {a b : Expr} {rest : List Expr} {pos : Pos} (h : MT X c f a) (h2 : MW X c g (.BoolOp .And (b :: rest) pos)) : MW X c (kAnd f g) (.BoolOp .And (a :: b :: rest) pos) := by
  refine ⟨⟨fun wh pins s σ H Q I q => (pw_and h.run h2.run).run wh pins s σ H Q I ?_⟩⟩
  obtain ⟨ξ, Y, s, tv, ts, hK, F, q⟩ := q
  refine tT_seq hK F q fun b s1 Y1 H1 e1 F1 q1 => ?_
  cases b with
  | false => exact iteF (q1 Y1 H1 e1 F1)
  | true => exact iteT ⟨ξ, Y1, s1, tv, ts, hK, F1, out.mono c (show out c ξ Y σ tv ts _ (g s1) from q1) e1 fun b s z Y' H' e2 F2 => z Y' H' (e1.trans e2) F2⟩
theorem mw_or {f g : TF} {a b : Expr} {rest : List Expr} {pos : Pos} (h : MT X c f a) (h2 : MW X c g (.BoolOp .Or (b :: rest) pos)) : MW X c (kOr f g) (.BoolOp .Or (a :: b :: rest) pos) := by
  refine ⟨⟨fun wh pins s σ H Q I q => (pw_or h.run h2.run).run wh pins s σ H Q I ?_⟩⟩
  obtain ⟨ξ, Y, s, tv, ts, hK, F, q⟩ := q
  refine tT_seq hK F q fun b s1 Y1 H1 e1 F1 q1 => ?_
  cases b with
  | true => exact iteT (q1 Y1 H1 e1 F1)
  | false => exact iteF ⟨ξ, Y1, s1, tv, ts, hK, F1, out.mono c (show out c ξ Y σ tv ts _ (g s1) from q1) e1 fun b s z Y' H' e2 F2 => z Y' H' (e1.trans e2) F2⟩
theorem mt_not {f : TF} {a : Expr} {pos : Pos} (h : MT X c f a) : MT X c (kNot f) (.UnaryOp .Not a pos) := by
  refine ⟨PT.imp (pt_not h.run) fun σ H Q q => ?_⟩
  obtain ⟨ξ, Y, s, tv, ts, hK, F, q⟩ := q
  exact tT_seq hK F q fun b s1 Y1 H1 e1 F1 q1 => q1 Y1 H1 e1 F1
/-- .. as values -/
def eAnd (f g : EF) : EF := fun s => (f s).bind fun d s => match d with
  | .bool true => g s
  | .bool false => .ok (.bool false) s
  | _ => .bad
def eOr (f g : EF) : EF := fun s => (f s).bind fun d s => match d with
  | .bool true => .ok (.bool true) s
  | .bool false => g s
  | _ => .bad
def eNot (f : EF) : EF := fun s => (f s).bind fun d s => match d with
  | .bool b => .ok (.bool !b) s
  | _ => .bad
theorem me_one {op : BoolOp} {f : EF} {a : Expr} {pos : Pos} (h : ME X c f a) : ME X c f (.BoolOp op [a] pos) := ⟨pe_one h.run⟩
theorem me_and {f g : EF} {a b : Expr} {rest : List Expr} {pos : Pos} (h : ME X c f a) (h2 : ME X c g (.BoolOp .And (b :: rest) pos)) : ME X c (eAnd f g) (.BoolOp .And (a :: b :: rest) pos) := by
  refine ⟨PE.imp (pe_and h.run h2.run) fun σ H Q q => ?_⟩
  obtain ⟨ξ, Y, s, tv, ts, hK, F, q⟩ := q
  refine tE_seq hK F q fun d s1 Y1 H1 v e1 F1 r1 q1 => ?_
  cases d with
  | bool b =>
    refine ⟨b, r1.bool_inv, ?_⟩
    cases b with
    | true => exact iteT ⟨ξ, Y1, s1, tv, ts, hK, F1, out.mono c (show out c ξ Y σ tv ts _ (g s1) from q1) e1 fun b s z Y' H' v e2 F2 => z Y' H' v (e1.trans e2) F2⟩
    | false => exact iteF (q1 Y1 H1 _ e1 F1 (.bl false))
  | none => exact q1.elim
  | int _ => exact q1.elim
  | str _ => exact q1.elim
  | list _ => exact q1.elim
  | tuple _ => exact q1.elim
  | dict _ => exact q1.elim
theorem me_or {f g : EF} {a b : Expr} {rest : List Expr} {pos : Pos} (h : ME X c f a) (h2 : ME X c g (.BoolOp .Or (b :: rest) pos)) : ME X c (eOr f g) (.BoolOp .Or (a :: b :: rest) pos) := by
  refine ⟨PE.imp (pe_or h.run h2.run) fun σ H Q q => ?_⟩
  obtain ⟨ξ, Y, s, tv, ts, hK, F, q⟩ := q
  refine tE_seq hK F q fun d s1 Y1 H1 v e1 F1 r1 q1 => ?_
  cases d with
  | bool b =>
    refine ⟨b, r1.bool_inv, ?_⟩
    cases b with
    | false => exact iteF ⟨ξ, Y1, s1, tv, ts, hK, F1, out.mono c (show out c ξ Y σ tv ts _ (g s1) from q1) e1 fun b s z Y' H' v e2 F2 => z Y' H' v (e1.trans e2) F2⟩
    | true => exact iteT (q1 Y1 H1 _ e1 F1 (.bl true))
  | none => exact q1.elim
  | int _ => exact q1.elim
  | str _ => exact q1.elim
  | list _ => exact q1.elim
  | tuple _ => exact q1.elim
  | dict _ => exact q1.elim
theorem me_not {f : EF} {a : Expr} {pos : Pos} (h : ME X c f a) : ME X c (eNot f) (.UnaryOp .Not a pos) := by
  refine ⟨PE.imp (pe_not h.run) fun σ H Q q => ?_⟩
  obtain ⟨ξ, Y, s, tv, ts, hK, F, q⟩ := q
  refine tE_seq hK F q fun d s1 Y1 H1 v e1 F1 r1 q1 => ?_
  cases d with
  | bool b => exact ⟨b, r1.bool_inv, q1 Y1 H1 _ e1 F1 (.bl _)⟩
  | none => exact q1.elim
  | int _ => exact q1.elim
  | str _ => exact q1.elim
  | list _ => exact q1.elim
  | tuple _ => exact q1.elim
  | dict _ => exact q1.elim
def eIf (t : TF) (f g : EF) : EF := fun s => (t s).bind fun b s => if b = true then f s else g s
def oIf (t : TF) (f g : OF) : OF := fun s => (t s).bind fun b s => if b = true then f s else g s
theorem me_if {t : TF} {f g : EF} {x a b : Expr} {pos : Pos} (ht : MT X c t x) (hf : ME X c f a) (hg : ME X c g b) : ME X c (eIf t f g) (.IfExp x a b pos) := by
  refine ⟨PE.imp (pe_ifExp ht.run hf.run hg.run) fun σ H Q q => ?_⟩
  obtain ⟨ξ, Y, s, tv, ts, hK, F, q⟩ := q
  refine tT_seq hK F q fun b s1 Y1 H1 e1 F1 q1 => ?_
  cases b with
  | true => exact iteT ⟨ξ, Y1, s1, tv, ts, hK, F1, out.mono c (show out c ξ Y σ tv ts _ (f s1) from q1) e1 fun b s z Y' H' v e2 F2 => z Y' H' v (e1.trans e2) F2⟩
  | false => exact iteF ⟨ξ, Y1, s1, tv, ts, hK, F1, out.mono c (show out c ξ Y σ tv ts _ (g s1) from q1) e1 fun b s z Y' H' v e2 F2 => z Y' H' v (e1.trans e2) F2⟩
theorem mo_if {t : TF} {f g : OF} {x a b : Expr} {pos : Pos} (ht : MT X c t x) (hf : MO X c f a) (hg : MO X c g b) : MO X c (oIf t f g) (.IfExp x a b pos) := by
  refine ⟨PE.imp (pe_ifExp ht.run hf.run hg.run) fun σ H Q q => ?_⟩
  obtain ⟨ξ, Y, s, tv, ts, hK, F, q⟩ := q
  refine tT_seq hK F q fun b s1 Y1 H1 e1 F1 q1 => ?_
  cases b with
  | true => exact iteT ⟨ξ, Y1, s1, tv, ts, hK, F1, out.mono c (show out c ξ Y σ tv ts _ (f s1) from q1) e1 fun b s z Y' H' v e2 F2 => z Y' H' v (e1.trans e2) F2⟩
  | false => exact iteF ⟨ξ, Y1, s1, tv, ts, hK, F1, out.mono c (show out c ξ Y σ tv ts _ (g s1) from q1) e1 fun b s z Y' H' v e2 F2 => z Y' H' v (e1.trans e2) F2⟩

/-! ### argument lists, displays -/
def aNil : AF := fun s => .ok [] s
def aCons (f : EF) (g : AF) : AF := fun s => (f s).bind fun d s => (g s).bind fun ds s => .ok (d :: ds) s
theorem ma_nil : MA X c aNil [] := by
  refine ⟨PA.imp pa_nil fun σ H Q q => ?_⟩
  obtain ⟨ξ, Y, s, tv, ts, hK, F, q⟩ := q
  exact q Y H [] (Same.refl _) F .nil
theorem ma_cons {f : EF} {g : AF} {e : Expr} {es : List Expr} (h : ME X c f e) (h2 : MA X c g es) (hs : starEach (e :: es) X.env = (false, eval e X.env) :: starEach es X.env := by rfl) : MA X c (aCons f g) (e :: es) := by
  refine ⟨PA.imp (pa_cons h.run h2.run hs) fun σ H Q q => ?_⟩
  obtain ⟨ξ, Y, s, tv, ts, hK, F, q⟩ := q
  refine tE_seq hK F q fun d s1 Y1 H1 v e1 F1 r1 q1 => ?_
  refine tA_seq hK F1 (out.mono c q1 e1 (fun _ _ z => z)) fun ds s2 Y2 H2 vs e2 F2 r2 q2 => ?_
  exact q2 Y2 H2 (v :: vs) (e1.trans e2) F2 (.cons (r1.mono e2) r2)
def eTup (g : AF) : EF := fun s => (g s).bind fun ds s => if ds.length ≤ sizeLine then .ok (.tuple ds) s else .bad
def oLst (g : AF) : OF := fun s => (g s).bind fun ds s => if ds.length ≤ sizeLine then .ok (.ol ds) s else .bad
theorem me_tup {g : AF} {es : List Expr} {k} {pos : Pos} (h : MA X c g es) : ME X c (eTup g) (.Tuple es k pos) := by
  refine ⟨PE.imp (pe_tup h.run) fun σ H Q q => ?_⟩
  obtain ⟨ξ, Y, s, tv, ts, hK, F, q⟩ := q
  refine tA_seq hK F q fun ds s1 Y1 H1 vs e1 F1 r1 q1 => ?_
  split at q1
  · rename_i hl
    refine ⟨by rw [r1.length]; exact hl, fun p hp => ?_⟩
    obtain ⟨e2, F2⟩ := (Gives.tup hp r1).fs hK F1
    obtain ⟨Y3, e3, F3, r3⟩ := F2.freezeT
    exact q1 Y3 _ _ ((e1.trans e2).trans e3) F3 (hK ▸ r3)
  · exact q1.elim
theorem mo_lst {g : AF} {es : List Expr} {pos : Pos} (h : MA X c g es) : MO X c (oLst g) (.List es pos) := by
  refine ⟨PE.imp (pe_lst h.run) fun σ H Q q => ?_⟩
  obtain ⟨ξ, Y, s, tv, ts, hK, F, q⟩ := q
  refine tA_seq hK F q fun ds s1 Y1 H1 vs e1 F1 r1 q1 => ?_
  split at q1
  · rename_i hl
    refine ⟨by rw [r1.length]; exact hl, fun p hp => ?_⟩
    obtain ⟨e2, F2⟩ := (Gives.lst hp r1).fs hK F1
    exact q1 _ _ _ (e1.trans e2) F2
  · exact q1.elim

/-! ### lending -/
def eLend (ms : List Mode) (f : EF) : EF := fun s => if ms.length = s.length then match f (brw ms s) with
    | .ok d s' => match rst ms s s' with
      | some r => if free d = true then .ok d r else .bad
      | none => .bad
    | .ex e s' => match rst ms s s' with
      | some r => .ex e r
      | none => .bad
    | .bad => .bad
  else .bad
def oLend (ms : List Mode) (f : OF) : OF := fun s => if ms.length = s.length then match f (brw ms s) with
    | .ok (.ol ds) s' => match rst ms s s' with
      | some r => if freeAll ds = true then .ok (.ol ds) r else .bad
      | none => .bad
    | .ex e s' => match rst ms s s' with
      | some r => .ex e r
      | none => .bad
    | _ => .bad
  else .bad
theorem me_lend {ms : List Mode} {f : EF} {e : Expr} (h : ME X c f e) : ME X c (eLend ms f) e := by
  refine ⟨PE.imp h.run fun σ H Q q => ?_⟩
  obtain ⟨ξ, Y, s, tv, ts, hK, F, q⟩ := q
  unfold eLend at q
  split at q
  · rename_i hm
    obtain ⟨ξ', Y1, hK', e1, F1, back⟩ := F.lend hm
    refine ⟨ξ', Y1, brw ms s, [], [], hK'.trans hK, F1, ?_⟩
    cases ef : f (brw ms s) with
    | ok d s' =>
      rw [ef] at q
      intro Y' H' v e2 F2 r2
      simp only at q
      split at q
      · rename_i r er
        split at q
        · rename_i hf
          obtain ⟨Y2, e3, F3, r3⟩ := back Y' H' s' r [] [] e2 F2 er rfl
          rw [List.append_nil, List.append_nil] at F3
          exact q Y2 H' v e3 F3 (hK ▸ r3 v d (hK ▸ r2) hf)
        · exact q.elim
      · exact q.elim
    | ex x s' =>
      rw [ef] at q
      intro Y' H' cl y e2 F2 er2
      simp only at q
      split at q
      · rename_i r er
        obtain ⟨Y2, e3, F3, _⟩ := back Y' H' s' r [] [] e2 F2 er rfl
        rw [List.append_nil, List.append_nil] at F3
        exact q Y2 H' cl y e3 F3 er2
      · exact q.elim
    | bad => rw [ef] at q; exact q.elim
  · exact q.elim
theorem mo_lend {ms : List Mode} {f : OF} {e : Expr} (h : MO X c f e) : MO X c (oLend ms f) e := by
  refine ⟨PE.imp h.run fun σ H Q q => ?_⟩
  obtain ⟨ξ, Y, s, tv, ts, hK, F, q⟩ := q
  unfold oLend at q
  split at q
  · rename_i hm
    obtain ⟨ξ', Y1, hK', e1, F1, back⟩ := F.lend hm
    refine ⟨ξ', Y1, brw ms s, [], [], hK'.trans hK, F1, ?_⟩
    cases ef : f (brw ms s) with
    | ok o s' =>
      rw [ef] at q
      cases o with
      | ol ds =>
        intro Y' H' v e2 F2
        simp only at q
        split at q
        · rename_i r er
          split at q
          · rename_i hf
            obtain ⟨Y2, e3, F3, r3⟩ := back Y' H' s' r _ _ e2 F2 er (by simpa [ofreeAll, OD.free] using hf)
            exact q Y2 H' v e3 F3
          · exact q.elim
        · exact q.elim
      | fz _ => exact q.elim
      | on _ => exact q.elim
      | od _ => exact q.elim
    | ex x s' =>
      rw [ef] at q
      intro Y' H' cl y e2 F2 er2
      simp only at q
      split at q
      · rename_i r er
        obtain ⟨Y2, e3, F3, _⟩ := back Y' H' s' r [] [] e2 F2 er rfl
        rw [List.append_nil, List.append_nil] at F3
        exact q Y2 H' cl y e3 F3 er2
      · exact q.elim
    | bad => rw [ef] at q; exact q.elim
  · exact q.elim
end
end MI

set_option Elab.async false
set_option linter.all false
set_option autoImplicit false
set_option maxRecDepth 100000
/-! MI: statements, loops. -/
namespace MI
open PySem PySem.Spec L2

inductive Out where
  | nx (s : S)
  | bk (s : S)
  | ct (s : S)
  | rt (o : OD) (s : S)
  | ex (e : Exn) (s : S)
  | bad
abbrev SF := S → Out
def Res.toS {α : Type} : Res α → (α → S → Out) → Out
  | .ok a s, f => f a s
  | .ex e s, _ => .ex e s
  | .bad, _ => .bad
@[simp] theorem Res.toS_ok {α : Type} {a : α} {s : S} {f : α → S → Out} : (Res.ok a s).toS f = f a s := Eq.trans rfl rfl
@[simp] theorem Res.toS_ex {α : Type} {e : Exn} {s : S} {f : α → S → Out} : (Res.ex e s).toS f = .ex e s := Eq.trans rfl rfl
@[simp] theorem Res.toS_bad {α : Type} {f : α → S → Out} : Res.bad.toS f = .bad := Eq.trans rfl rfl

/-- the slots of parameters that are handed in by their objects stay -/
def Keep (rf : List Bool) (σ σ' : St) : Prop := σ'.length = σ.length ∧ ∀ j : Nat, rf[j]? = some true → σ'[j]? = σ[j]?
theorem Keep.refl (rf : List Bool) (σ : St) : Keep rf σ σ := ⟨rfl, fun _ _ => rfl⟩
theorem Keep.trans {rf : List Bool} {σ σ' σ'' : St} (a : Keep rf σ σ') (b : Keep rf σ' σ'') : Keep rf σ σ'' := ⟨b.1.trans a.1, fun j h => (b.2 j h).trans (a.2 j h)⟩
theorem Keep.set {rf : List Bool} {σ : St} {i : Nat} {v : Option V} (h : rf[i]? ≠ some true) : Keep rf σ (σ.set i v) := ⟨by simp, fun j hj => by
  rw [List.getElem?_set_ne]
  rintro rfl
  exact h hj⟩

section
variable (c : Ct) (rf : List Bool)
def outS (ξ : Fx) (Y : Hp) (σ : St) (D : Ends) : Out → Prop
  | .nx s' => ∀ Y' H' σ', Same Y Y' → Keep rf σ σ' → FS ξ Y' H' σ' s' [] [] → D.nx σ' H'
  | .bk s' => ∀ Y' H' σ', Same Y Y' → Keep rf σ σ' → FS ξ Y' H' σ' s' [] [] → D.bk σ' H'
  | .ct s' => ∀ Y' H' σ', Same Y Y' → Keep rf σ σ' → FS ξ Y' H' σ' s' [] [] → D.ct σ' H'
  | .rt o s' => ∀ Y' H' σ' v, Same Y Y' → Keep rf σ σ' → FS ξ Y' H' σ' s' [v] [o] → D.rt v H'
  | .ex e s' => ∀ Y' H' σ' cl x, Same Y Y' → Keep rf σ σ' → FS ξ Y' H' σ' s' [] [] → c.er e cl x H' → c.W cl x σ' H'
  | .bad => False
theorem outS.mono {ξ : Fx} {Y Y1 : Hp} {σ σ1 : St} {D : Ends} {r : Out} (h : outS c rf ξ Y σ D r) (e : Same Y Y1) (k : Keep rf σ σ1) : outS c rf ξ Y1 σ1 D r := by
  cases r with
  | nx s => exact fun Y' H' σ' e' k' F => h Y' H' σ' (e.trans e') (k.trans k') F
  | bk s => exact fun Y' H' σ' e' k' F => h Y' H' σ' (e.trans e') (k.trans k') F
  | ct s => exact fun Y' H' σ' e' k' F => h Y' H' σ' (e.trans e') (k.trans k') F
  | rt o s => exact fun Y' H' σ' v e' k' F => h Y' H' σ' v (e.trans e') (k.trans k') F
  | ex x s => exact fun Y' H' σ' cl q e' k' F er => h Y' H' σ' cl q (e.trans e') (k.trans k') F er
  | bad => exact h
def tS (f : SF) : TS := fun D σ H => ∃ ξ Y s, ξ.K = c.K ∧ FS ξ Y H σ s [] [] ∧ outS c rf ξ Y σ D (f s)
end
structure MS (X : Cx) (c : Ct) (rf : List Bool) (f : SF) (st : Stmt) : Prop where
  run : PS X st (tS c rf f)
structure MSs (X : Cx) (c : Ct) (rf : List Bool) (f : SF) (st : List Stmt) : Prop where
  run : PSs X st (tS c rf f)
theorem PS.imp {X : Cx} {e : Stmt} {t t' : TS} (h : PS X e t) (i : ∀ D σ H, t' D σ H → t D σ H) : PS X e t' := ⟨fun pins s σ H D I q => h.run pins s σ H D I (i D σ H q)⟩
theorem PSs.imp {X : Cx} {e : List Stmt} {t t' : TS} (h : PSs X e t) (i : ∀ D σ H, t' D σ H → t D σ H) : PSs X e t' := ⟨fun pins s σ H D I q => h.run pins s σ H D I (i D σ H q)⟩

section
variable {X : Cx} {c : Ct} {rf : List Bool} {ξ : Fx} {Y H : Hp} {σ : St} {s : S}

/-- an expression ahead of the rest of a statement -/
theorem sE_seq {fa : EF} {k : D → S → Out} {D : Ends} {R : VK} (hK : ξ.K = c.K) (F : FS ξ Y H σ s [] []) (h : outS c rf ξ Y σ D ((fa s).toS k))
    (hR : ∀ d s1 Y1 H1 v, Same Y Y1 → FS ξ Y1 H1 σ s1 [] [] → Dr c.K Y1 v d → outS c rf ξ Y σ D (k d s1) → R v H1) : tE c fa σ H R := by
  refine ⟨ξ, Y, s, [], [], hK, F, ?_⟩
  cases e : fa s with
  | ok d s1 => rw [e] at h; exact fun Y1 H1 v e1 F1 r1 => hR d s1 Y1 H1 v e1 F1 r1 h
  | ex x s1 => rw [e] at h; exact fun Y' H' cl q e' F' er => h Y' H' σ cl q e' (.refl _ _) F' er
  | bad => rw [e] at h; exact h
theorem sO_seq {fa : OF} {k : OD → S → Out} {D : Ends} {R : VK} (hK : ξ.K = c.K) (F : FS ξ Y H σ s [] []) (h : outS c rf ξ Y σ D ((fa s).toS k))
    (hR : ∀ o s1 Y1 H1 v, Same Y Y1 → FS ξ Y1 H1 σ s1 [v] [o] → outS c rf ξ Y σ D (k o s1) → R v H1) : tO c fa σ H R := by
  refine ⟨ξ, Y, s, [], [], hK, F, ?_⟩
  cases e : fa s with
  | ok d s1 => rw [e] at h; exact fun Y1 H1 v e1 F1 => hR d s1 Y1 H1 v e1 F1 h
  | ex x s1 => rw [e] at h; exact fun Y' H' cl q e' F' er => h Y' H' σ cl q e' (.refl _ _) F' er
  | bad => rw [e] at h; exact h
theorem sT_seq {fa : TF} {k : Bool → S → Out} {D : Ends} {R : Bool → Hp → Prop} (hK : ξ.K = c.K) (F : FS ξ Y H σ s [] []) (h : outS c rf ξ Y σ D ((fa s).toS k))
    (hR : ∀ b s1 Y1 H1, Same Y Y1 → FS ξ Y1 H1 σ s1 [] [] → outS c rf ξ Y σ D (k b s1) → R b H1) : tT c fa σ H R := by
  refine ⟨ξ, Y, s, [], [], hK, F, ?_⟩
  cases e : fa s with
  | ok d s1 => rw [e] at h; exact fun Y1 H1 e1 F1 => hR d s1 Y1 H1 e1 F1 h
  | ex x s1 => rw [e] at h; exact fun Y' H' cl q e' F' er => h Y' H' σ cl q e' (.refl _ _) F' er
  | bad => rw [e] at h; exact h

/-! ### blocks -/
def sNx : SF := fun s => .nx s
def sBk : SF := fun s => .bk s
def sCt : SF := fun s => .ct s
def sSeq (f g : SF) : SF := fun s => match f s with
  | .nx s => g s
  | o => o
theorem mss_nil : MSs X c rf sNx [] := by
  refine ⟨PSs.imp pss_nil fun D σ H q => ?_⟩
  obtain ⟨ξ, Y, s, hK, F, q⟩ := q
  exact q Y H σ (Same.refl _) (.refl _ _) F
theorem mss_one {f : SF} {st : Stmt} (h : MS X c rf f st) : MSs X c rf f [st] := ⟨pss_one h.run⟩
theorem mss_cons {f g : SF} {st : Stmt} {r : List Stmt} (h : MS X c rf f st) (h2 : MSs X c rf g r) : MSs X c rf (sSeq f g) (st :: r) := by
  refine ⟨PSs.imp (pss_cons h.run h2.run) fun D σ H q => ?_⟩
  obtain ⟨ξ, Y, s, hK, F, q⟩ := q
  refine ⟨ξ, Y, s, hK, F, ?_⟩
  unfold sSeq at q
  cases e : f s with
  | nx s1 => rw [e] at q; exact fun Y1 H1 σ1 e1 k1 F1 => ⟨ξ, Y1, s1, hK, F1, outS.mono c rf q e1 k1⟩
  | bk s1 => rw [e] at q; exact q
  | ct s1 => rw [e] at q; exact q
  | rt o s1 => rw [e] at q; exact q
  | ex x s1 => rw [e] at q; exact q
  | bad => rw [e] at q; exact q
theorem ms_pass {pos : Pos} : MS X c rf sNx (.Pass pos) := by
  refine ⟨PS.imp ps_pass fun D σ H q => ?_⟩
  obtain ⟨ξ, Y, s, hK, F, q⟩ := q
  exact q Y H σ (Same.refl _) (.refl _ _) F
theorem ms_break {pos : Pos} : MS X c rf sBk (.Break pos) := by
  refine ⟨PS.imp ps_break fun D σ H q => ?_⟩
  obtain ⟨ξ, Y, s, hK, F, q⟩ := q
  exact q Y H σ (Same.refl _) (.refl _ _) F
theorem ms_continue {pos : Pos} : MS X c rf sCt (.Continue pos) := by
  refine ⟨PS.imp ps_continue fun D σ H q => ?_⟩
  obtain ⟨ξ, Y, s, hK, F, q⟩ := q
  exact q Y H σ (Same.refl _) (.refl _ _) F
/-- code that is never come to -/
def sBad : SF := fun _ => .bad
theorem ms_never {st : Stmt} : MS X c rf sBad st := ⟨PS.imp ps_never fun D σ H q => by
  obtain ⟨ξ, Y, s, hK, F, q⟩ := q
  exact q.elim⟩
def sExp (f : EF) : SF := fun s => (f s).toS fun _ s => .nx s
theorem ms_expr {f : EF} {e : Expr} {pos : Pos} (h : ME X c f e) (hs : swapsWith e none pos.line X.env = pure false := by rfl) : MS X c rf (sExp f) (.Expr e pos) := by
  refine ⟨PS.imp (ps_expr h.run hs) fun D σ H q => ?_⟩
  obtain ⟨ξ, Y, s, hK, F, q⟩ := q
  exact sE_seq hK F q fun d s1 Y1 H1 v e1 F1 r1 q1 => q1 Y1 H1 σ e1 (.refl _ _) F1
def sRet (f : OF) : SF := fun s => (f s).toS fun o s => .rt o s
theorem ms_ret {f : OF} {e : Expr} {pos : Pos} (h : MO X c f e) : MS X c rf (sRet f) (.Return (some e) pos) := by
  refine ⟨PS.imp (ps_ret h.run) fun D σ H q => ?_⟩
  obtain ⟨ξ, Y, s, hK, F, q⟩ := q
  exact sO_seq hK F q fun o s1 Y1 H1 v e1 F1 q1 => q1 Y1 H1 σ v e1 (.refl _ _) F1
def sRetN : SF := fun s => .rt (.fz .none) s
theorem ms_retN {pos : Pos} : MS X c rf sRetN (.Return none pos) := by
  refine ⟨PS.imp ps_retN fun D σ H q => ?_⟩
  obtain ⟨ξ, Y, s, hK, F, q⟩ := q
  exact q Y H σ .non (Same.refl _) (.refl _ _) (F.pushD .non)
def sIf (t : TF) (f g : SF) : SF := fun s => (t s).toS fun b s => if b = true then f s else g s
theorem ms_if {t : TF} {f g : SF} {x : Expr} {a b : List Stmt} {pos : Pos} (ht : MT X c t x) (hf : MSs X c rf f a) (hg : MSs X c rf g b) : MS X c rf (sIf t f g) (.If x a b pos) := by
  refine ⟨PS.imp (ps_if ht.run hf.run hg.run) fun D σ H q => ?_⟩
  obtain ⟨ξ, Y, s, hK, F, q⟩ := q
  refine sT_seq hK F q fun b s1 Y1 H1 e1 F1 q1 => ?_
  cases b with
  | true => exact iteT ⟨ξ, Y1, s1, hK, F1, outS.mono c rf (show outS c rf ξ Y σ D (f s1) from q1) e1 (.refl _ _)⟩
  | false => exact iteF ⟨ξ, Y1, s1, hK, F1, outS.mono c rf (show outS c rf ξ Y σ D (g s1) from q1) e1 (.refl _ _)⟩

/-! ### targets -/
/-- a frozen value to a target -/
abbrev GF := D → S → Option S
def tG (rf : List Bool) (K : PySem.W.Frag) (g : GF) : TG := fun v σ H Q => ∃ ξ Y s d tv ts, ξ.K = K ∧ FS ξ Y H σ s tv ts ∧ Dr K Y v d ∧ ∃ s', g d s = some s' ∧ ∀ Y' H' σ', Same Y Y' → Keep rf σ σ' → FS ξ Y' H' σ' s' tv ts → Q σ' H'
def tGs (rf : List Bool) (K : PySem.W.Frag) (g : List D → S → Option S) : TGs := fun vs σ H Q => ∃ ξ Y s ds tv ts, ξ.K = K ∧ FS ξ Y H σ s tv ts ∧ DrAll K Y vs ds ∧ ∃ s', g ds s = some s' ∧ ∀ Y' H' σ', Same Y Y' → Keep rf σ σ' → FS ξ Y' H' σ' s' tv ts → Q σ' H'
structure MG (X : Cx) (c : Ct) (rf : List Bool) (g : GF) (t : Expr) : Prop where
  run : PG X t (tG rf c.K g)
structure MGs (X : Cx) (c : Ct) (rf : List Bool) (g : List D → S → Option S) (t : List Expr) : Prop where
  run : PGs X t (tGs rf c.K g)
theorem PG.imp {X : Cx} {e : Expr} {t t' : TG} (h : PG X e t) (i : ∀ v σ H Q, t' v σ H Q → t v σ H Q) : PG X e t' := ⟨fun pins s σ H v u Q I r q => h.run pins s σ H v u Q I r (i v σ H Q q)⟩
theorem PGs.imp {X : Cx} {e : List Expr} {t t' : TGs} (h : PGs X e t) (i : ∀ v σ H Q, t' v σ H Q → t v σ H Q) : PGs X e t' := ⟨fun pins s σ H v u Q I r q => h.run pins s σ H v u Q I r (i v σ H Q q)⟩
def gN (i : Nat) : GF := fun d s => some (s.set i (some (.fz d)))
theorem mg_name {i : Nat} {x : Str} {pos : Pos} (hN : X.N.Nodup) (hi : X.N[i]? = some x) (hx : Loc X.env.scope x) (hr : rf[i]? ≠ some true := by decide) (hf : X.fn x = true ∨ X.env.scope.names.lookup x = some .local := by first | exact .inl rfl | exact .inr rfl | assumption) : MG X c rf (gN i) (.Name x pos) := by
  refine ⟨PG.imp (pg_name hN hi hx hf) fun v σ H Q q => ?_⟩
  obtain ⟨ξ, Y, s, d, tv, ts, hK, F, r, s', e, q⟩ := q
  cases e
  exact q Y H _ (Same.refl _) (.set hr) (F.asgD (hK ▸ r) i)
def gsNil : List D → S → Option S := fun ds s => match ds with
  | [] => some s
  | _ => none
def gsCons (g : GF) (gs : List D → S → Option S) : List D → S → Option S := fun ds s => match ds with
  | d :: r => (g d s).bind (gs r)
  | [] => none
theorem mgs_nil : MGs X c rf gsNil [] := by
  refine ⟨PGs.imp pgs_nil fun v σ H Q q => ?_⟩
  obtain ⟨ξ, Y, s, ds, tv, ts, hK, F, r, s', e, q⟩ := q
  cases r with
  | nil => cases e; exact ⟨rfl, q Y H σ (Same.refl _) (.refl _ _) F⟩
  | cons _ _ => cases e
theorem mgs_cons {g : GF} {gs : List D → S → Option S} {e : Expr} {es : List Expr} (h : MG X c rf g e) (h2 : MGs X c rf gs es)
    (hs : (assignEach (e :: es) X.env).map (·.2) = assign e X.env :: (assignEach es X.env).map (·.2) := by rfl) : MGs X c rf (gsCons g gs) (e :: es) := by
  refine ⟨PGs.imp (pgs_cons h.run h2.run hs) fun v σ H Q q => ?_⟩
  obtain ⟨ξ, Y, s, ds, tv, ts, hK, F, r, s', e, q⟩ := q
  cases r with
  | nil => cases e
  | @cons v vs d ds r rr =>
    unfold gsCons at e
    cases e1 : g d s with
    | none => simp only [e1] at e; cases e
    | some s1 =>
      simp only [e1] at e
      refine ⟨v, vs, rfl, ξ, Y, s, d, tv, ts, hK, F, r, s1, e1, fun Y1 H1 σ1 y1 k1 F1 => ?_⟩
      exact ⟨ξ, Y1, s1, ds, tv, ts, hK, F1, rr.mono y1, s', e, fun Y2 H2 σ2 y2 k2 F2 => q Y2 H2 σ2 (y1.trans y2) (k1.trans k2) F2⟩
def gT (n : Nat) (gs : List D → S → Option S) : GF := fun d s => match d with
  | .tuple ds => if ds.length = n then gs ds s else none
  | _ => none
theorem mg_tup {es : List Expr} {k : Nat} {n : Nat} {pos : Pos} {gs : List D → S → Option S} (hc : X.calm = true) (hXK : X.K = c.K) (h : MGs X c rf gs es) (hn : (assignEach es X.env).length = n := by rfl) (hst : (assignEach es X.env).findIdx? (·.1) = none := by rfl) : MG X c rf (gT n gs) (.Tuple es k pos) := by
  refine ⟨PG.imp (pg_tup hc h.run hn hst) fun v σ H Q q => ?_⟩
  obtain ⟨ξ, Y, s, d, tv, ts, hK, F, r, s', e, q⟩ := q
  unfold gT at e
  split at e
  · rename_i ds
    split at e
    · rename_i hl
      obtain ⟨a, xs, rfl, hq, hd⟩ := r.tuple_inv
      refine ⟨a, xs, rfl, hXK ▸ Same.sqt F.sub hq, by rw [hd.length]; exact hl, ?_⟩
      exact ⟨ξ, Y, s, ds, tv, ts, hK, F, hd, s', e, q⟩
    · cases e
  · cases e

/-! ### assignments -/
def sAsg (f : EF) (g : GF) : SF := fun s => (f s).toS fun d s => match g d s with
  | some s => .nx s
  | none => .bad
theorem sAsg_core {f : EF} {g : GF} {D : Ends} {σ : St} {H : Hp} (q : tS c rf (sAsg f g) D σ H) : tAsg (tE c f) (tG rf c.K g) D σ H := by
  obtain ⟨ξ, Y, s, hK, F, q⟩ := q
  refine sE_seq hK F q fun d s1 Y1 H1 v e1 F1 r1 q1 => ?_
  split at q1
  · rename_i s2 eg
    exact ⟨ξ, Y1, s1, d, [], [], hK, F1, r1, s2, eg, fun Y2 H2 σ2 e2 k2 F2 => q1 Y2 H2 σ2 (e1.trans e2) k2 F2⟩
  · exact q1.elim
theorem ms_asg {f : EF} {g : GF} {tg e : Expr} {pos : Pos} (h : ME X c f e) (hg : MG X c rf g tg) (hs : swapsWithSole [tg] e pos.line X.env = pure false := by rfl) (hw : swappedStores [tg] e X.env = pure none := by rfl)
    (h1 : (assignEach [tg] X.env).map (·.2) = [assign tg X.env] := by rfl) : MS X c rf (sAsg f g) (.Assign [tg] e pos) :=
  ⟨PS.imp (ps_asg h.run hg.run hs hw h1) fun D σ H q => sAsg_core q⟩
/-- name = value, owned -/
def sSet (i : Nat) (f : OF) : SF := fun s => (f s).toS fun o s => .nx (s.set i (some o))
theorem sSet_core {i : Nat} {f : OF} {D : Ends} {σ : St} {H : Hp} (hr : rf[i]? ≠ some true) (q : tS c rf (sSet i f) D σ H) : tAsg (tO c f) (gName i) D σ H := by
  obtain ⟨ξ, Y, s, hK, F, q⟩ := q
  refine sO_seq hK F q fun o s1 Y1 H1 v e1 F1 q1 => ?_
  exact q1 Y1 H1 _ e1 (.set hr) (F1.asgT (tv := []) (ts := []) i)
theorem ms_set {i : Nat} {x : Str} {f : OF} {e : Expr} {pos pos' : Pos} (hN : X.N.Nodup) (hi : X.N[i]? = some x) (hx : Loc X.env.scope x) (h : MO X c f e) (hr : rf[i]? ≠ some true := by decide) (hs : swapsWith e (some (.Name x pos')) pos.line X.env = pure false := by rfl) (hf : X.fn x = true ∨ X.env.scope.names.lookup x = some .local := by first | exact .inl rfl | exact .inr rfl | assumption) :
    MS X c rf (sSet i f) (.Assign [.Name x pos'] e pos) := ⟨PS.imp (ps_set hN hi hx h.run hs hf) fun D σ H q => sSet_core hr q⟩

/-- a middle temp to a slot -/
theorem FS.asgF {tv vs : List V} {ts os : List OD} {v : V} {o : OD} (F : FS ξ Y H σ s (tv ++ v :: vs) (ts ++ o :: os)) (hl : ts.length = tv.length) (i : Nat) : FS ξ Y H (σ.set i (some v)) (s.set i (some o)) (tv ++ vs) (ts ++ os) := by
  obtain ⟨g, R⟩ := F.rel
  have tl : os.length = vs.length := by have := F.tlen; simp at this; omega
  obtain ⟨v', e, r⟩ := R.temp ts.length o (by rw [List.getElem?_append_right (Nat.le_refl _), Nat.sub_self]; rfl)
  have ev : v' = v := by
    rw [hl, List.getElem?_append_right (Nat.le_refl _), Nat.sub_self] at e
    exact (Option.some.inj e).symm
  subst ev
  let sh : Nat → Nat := fun j => if j < ts.length then j else j + 1
  have shi : ∀ j k, sh j = sh k → j = k := fun j k h => by
    simp only [sh] at h
    split at h <;> split at h <;> omega
  have shn : ∀ j, sh j ≠ ts.length := fun j h => by
    simp only [sh] at h
    split at h <;> omega
  refine F.re R (fun k a => match k with
    | .inl j => (j = i ∧ g (.inr ts.length) a) ∨ (j ≠ i ∧ g (.inl j) a)
    | .inr j => g (.inr (sh j)) a) (Same.refl _) F.sub (fun a q => .inl q) (fun k a f => ?_) (fun k j a f f' => ?_) (by simp [F.len]) (by simp [hl, tl]) (fun j o e => ?_) (fun j u e => ?_)
  · cases k with
    | inl j =>
      rcases f with ⟨_, f⟩ | ⟨_, f⟩
      · exact ⟨(R.own _ a f).2.1, _, f⟩
      · exact ⟨(R.own _ a f).2.1, _, f⟩
    | inr j => exact ⟨(R.own _ a f).2.1, _, f⟩
  · cases k with
    | inl k =>
      cases j with
      | inl j =>
        rcases f with ⟨rfl, f⟩ | ⟨n1, f⟩
        · rcases f' with ⟨rfl, _⟩ | ⟨_, f'⟩
          · rfl
          · cases R.sep _ _ _ f' f
        · rcases f' with ⟨rfl, f'⟩ | ⟨_, f'⟩
          · cases R.sep _ _ _ f f'
          · exact R.sep _ _ _ f f'
      | inr j =>
        rcases f with ⟨rfl, f⟩ | ⟨n1, f⟩
        · exact (shn j (Sum.inr.inj (R.sep _ _ _ f' f))).elim
        · cases R.sep _ _ _ f f'
    | inr k =>
      cases j with
      | inl j =>
        rcases f' with ⟨rfl, f'⟩ | ⟨_, f'⟩
        · exact (shn k (Sum.inr.inj (R.sep _ _ _ f f'))).elim
        · cases R.sep _ _ _ f f'
      | inr j => exact congrArg Sum.inr (shi _ _ (Sum.inr.inj (R.sep _ _ _ f f')))
  · by_cases hj : j = i
    · subst hj
      have hlt : j < s.length := by
        have := lt_of_get e
        simpa using this
      rw [List.getElem?_set_self hlt] at e
      cases e
      refine ⟨v', List.getElem?_set_self (by rw [← F.len]; exact hlt), r.iff fun a => ⟨fun f => .inl ⟨rfl, f⟩, fun f => f.elim (fun z => z.2) fun z => (z.1 rfl).elim⟩⟩
    · rw [List.getElem?_set_ne (Ne.symm hj)] at e
      obtain ⟨v, e1, r⟩ := R.slot j o e
      exact ⟨v, by rw [List.getElem?_set_ne (Ne.symm hj)]; exact e1, r.iff fun a => ⟨fun f => .inr ⟨hj, f⟩, fun f => f.elim (fun z => (hj z.1).elim) fun z => z.2⟩⟩
  · have e2 : (ts ++ o :: os)[sh j]? = (ts ++ os)[j]? := by
      simp only [sh]
      split
      · rename_i q
        rw [List.getElem?_append_left q, List.getElem?_append_left q]
      · rename_i q
        rw [List.getElem?_append_right (by omega), List.getElem?_append_right (by omega), show j + 1 - ts.length = (j - ts.length) + 1 by omega, List.getElem?_cons_succ]
    have e3 : (tv ++ v' :: vs)[sh j]? = (tv ++ vs)[j]? := by
      simp only [sh, hl]
      split
      · rename_i q
        rw [List.getElem?_append_left q, List.getElem?_append_left q]
      · rename_i q
        rw [List.getElem?_append_right (by omega), List.getElem?_append_right (by omega), show j + 1 - tv.length = (j - tv.length) + 1 by omega, List.getElem?_cons_succ]
    obtain ⟨v, e1, r⟩ := R.temp (sh j) u (e2.trans e)
    exact ⟨v, e3 ▸ e1, r⟩

/-! ### a, b = x, y : owned -/
abbrev AOF := S → Res (List OD)
def tAO (c : Ct) (f : AOF) : TA := fun σ H Q => ∃ ξ Y s tv ts, ξ.K = c.K ∧ FS ξ Y H σ s tv ts ∧
  out c ξ Y σ tv ts (fun os s' => ∀ Y' H' vs, Same Y Y' → FS ξ Y' H' σ s' (tv ++ vs) (ts ++ os) → Q vs H') (f s)
structure MAO (X : Cx) (c : Ct) (f : AOF) (es : List Expr) : Prop where
  run : PA X es (tAO c f)
theorem out.drop {α : Type} {ξ : Fx} {Y Y1 H1 : Hp} {σ : St} {tv vs : List V} {ts os : List OD} {G G' : α → S → Prop} {r : Res α} (h : out c ξ Y σ tv ts G r) (e : Same Y Y1) (hl : ts.length = tv.length) (hd : ∀ Y' H' s', FS ξ Y' H' σ s' (tv ++ vs) (ts ++ os) → FS ξ Y' H' σ s' tv ts) (g : ∀ a s, G a s → G' a s) : out c ξ Y1 σ (tv ++ vs) (ts ++ os) G' r := by
  cases r with
  | ok a s => exact g a s h
  | ex x s => exact fun Y' H' cl q e' F er => h Y' H' cl q (e.trans e') (hd _ _ _ F) er
  | bad => exact h
/-- temps at the end are let go of -/
theorem FS.dropT {tv vs : List V} {ts os : List OD} (F : FS ξ Y H σ s (tv ++ vs) (ts ++ os)) (hl : ts.length = tv.length) : FS ξ Y H σ s tv ts := by
  obtain ⟨g, R⟩ := F.rel
  refine F.re R g (Same.refl _) F.sub (fun a q => .inl q) (fun i a f => ⟨(R.own i a f).2.1, i, f⟩) R.sep F.len hl R.slot (fun j o e => ?_)
  have hj := lt_of_get e
  obtain ⟨v, e1, r⟩ := R.temp j o (by rw [List.getElem?_append_left hj]; exact e)
  exact ⟨v, by rw [List.getElem?_append_left (by omega)] at e1; exact e1, r⟩
def aoNil : AOF := fun s => .ok [] s
def aoCons (f : OF) (g : AOF) : AOF := fun s => (f s).bind fun o s => (g s).bind fun os s => .ok (o :: os) s
theorem mao_nil : MAO X c aoNil [] := by
  refine ⟨PA.imp pa_nil fun σ H Q q => ?_⟩
  obtain ⟨ξ, Y, s, tv, ts, hK, F, q⟩ := q
  exact q Y H [] (Same.refl _) (by rw [List.append_nil, List.append_nil]; exact F)
theorem mao_cons {f : OF} {g : AOF} {e : Expr} {es : List Expr} (h : MO X c f e) (h2 : MAO X c g es) (hs : starEach (e :: es) X.env = (false, eval e X.env) :: starEach es X.env := by rfl) : MAO X c (aoCons f g) (e :: es) := by
  refine ⟨PA.imp (pa_cons h.run h2.run hs) fun σ H Q q => ?_⟩
  obtain ⟨ξ, Y, s, tv, ts, hK, F, q⟩ := q
  refine tO_seq hK F q fun o s1 Y1 H1 v e1 F1 q1 => ?_
  refine ⟨ξ, Y1, s1, tv ++ [v], ts ++ [o], hK, F1, ?_⟩
  cases eg : g s1 with
  | ok os s2 =>
    rw [eg] at q1
    intro Y2 H2 vs e2 F2
    rw [List.append_assoc, List.append_assoc] at F2
    exact q1 Y2 H2 (v :: vs) (e1.trans e2) F2
  | ex x s2 =>
    rw [eg] at q1
    exact fun Y2 H2 cl x2 e2 F2 er => q1 Y2 H2 cl x2 (e1.trans e2) (F2.dropT F.tlen) er
  | bad => rw [eg] at q1; exact q1
def setAll : List Nat → List OD → S → S
  | i :: is, o :: os, s => setAll is os (s.set i (some o))
  | _, _, s => s
def setAllV : List Nat → List V → St → St
  | i :: is, v :: vs, σ => setAllV is vs (σ.set i (some v))
  | _, _, σ => σ
theorem FS.asgAll : ∀ {is : List Nat} {vs : List V} {os : List OD} {σ : St} {s : S}, is.length = os.length → FS ξ Y H σ s vs os → FS ξ Y H (setAllV is vs σ) (setAll is os s) [] []
  | [], [], [], σ, s, _, F => F
  | i :: is, v :: vs, o :: os, σ, s, h, F => by
    show FS ξ Y H (setAllV is vs (σ.set i (some v))) (setAll is os (s.set i (some o))) [] []
    exact FS.asgAll (by simpa using h) (F.asgF (tv := []) (ts := []) rfl i)
  | [], _, _ :: _, _, _, h, _ => by simp at h
  | _ :: _, _, [], _, _, h, _ => by simp at h
  | [], _ :: _, [], _, _, _, F => by have := F.tlen; simp at this
  | _ :: _, [], _ :: _, _, _, _, F => by have := F.tlen; simp at this
theorem Keep.setAllV {rf : List Bool} : ∀ {is : List Nat} {vs : List V} {σ : St}, (∀ i ∈ is, rf[i]? ≠ some true) → Keep rf σ (setAllV is vs σ)
  | [], _, _, _ => .refl _ _
  | _ :: _, [], _, _ => .refl _ _
  | i :: is, v :: vs, σ, h => (Keep.set (h i (by simp))).trans (Keep.setAllV fun j hj => h j (by simp [hj]))
/-- names = a display of as many values -/
def sPar (is : List Nat) (f : AOF) : SF := fun s => (f s).toS fun os s => if os.length = is.length then .nx (setAll is os s) else .bad
theorem sAO_seq {fa : AOF} {k : List OD → S → Out} {D : Ends} {R : List V → Hp → Prop} (hK : ξ.K = c.K) (F : FS ξ Y H σ s [] []) (h : outS c rf ξ Y σ D ((fa s).toS k))
    (hR : ∀ os s1 Y1 H1 vs, Same Y Y1 → FS ξ Y1 H1 σ s1 vs os → outS c rf ξ Y σ D (k os s1) → R vs H1) : tAO c fa σ H R := by
  refine ⟨ξ, Y, s, [], [], hK, F, ?_⟩
  cases e : fa s with
  | ok d s1 => rw [e] at h; exact fun Y1 H1 v e1 F1 => hR d s1 Y1 H1 v e1 F1 h
  | ex x s1 => rw [e] at h; exact fun Y' H' cl q e' F' er => h Y' H' σ cl q e' (.refl _ _) F' er
  | bad => rw [e] at h; exact h
theorem ms_par2 {i j : Nat} {x y : Str} {f : AOF} {a b : Expr} {px py pt pos : Pos} {kt k2 pt2} (hc : X.calm = true) (hN : X.N.Nodup) (hi : X.N[i]? = some x) (hj : X.N[j]? = some y) (hij : i ≠ j)
    (hx : X.env.scope.names.lookup x = some .local) (hy : X.env.scope.names.lookup y = some .local) (ha : MAO X c f [a, b]) (hri : rf[i]? ≠ some true) (hrj : rf[j]? ≠ some true)
    (hw : swappedStores [.Tuple [.Name x px, .Name y py] kt pt] (.Tuple [a, b] k2 pt2) X.env = pure (some [x, y]))
    (hs : swapsWithSole [.Tuple [.Name x px, .Name y py] kt pt] (.Tuple [a, b] k2 pt2) pos.line X.env = pure false := by rfl) :
    MS X c rf (sPar [i, j] f) (.Assign [.Tuple [.Name x px, .Name y py] kt pt] (.Tuple [a, b] k2 pt2) pos) := by
  refine ⟨PS.imp (ps_par hc hN hi hj hij hx hy ha.run hw hs) fun D σ H q => ?_⟩
  obtain ⟨ξ, Y, s, hK, F, q⟩ := q
  refine sAO_seq hK F q fun os s1 Y1 H1 vs e1 F1 q1 => ?_
  split at q1
  · rename_i hl
    have hl2 : vs.length = 2 := F1.tlen.symm.trans hl
    obtain ⟨v, w, rfl⟩ : ∃ v w, vs = [v, w] := by
      match vs, hl2 with
      | [v, w], _ => exact ⟨v, w, rfl⟩
    exact ⟨v, w, rfl, q1 Y1 H1 _ e1 ((Keep.set hri).trans (.set hrj)) (FS.asgAll (is := [i, j]) hl.symm F1)⟩
  · exact q1.elim
/-- the same through a tuple -/
def gSlots (is : List Nat) : TGs := fun vs σ H Q => vs.length = is.length ∧ Q (setAllV is vs σ) H
theorem pgs_slots0 {X : Cx} : PGs X [] (gSlots []) := by
  refine ⟨fun pins s σ H vs us Q I r h => pgs_nil.run pins s σ H vs us Q I r ?_⟩
  obtain ⟨h1, h2⟩ := h
  match vs, h1 with
  | [], _ => exact ⟨rfl, h2⟩
theorem pgs_slots {X : Cx} {i : Nat} {is : List Nat} {e : Expr} {es : List Expr} (h : PG X e (gName i)) (h2 : PGs X es (gSlots is)) (hs : (assignEach (e :: es) X.env).map (·.2) = assign e X.env :: (assignEach es X.env).map (·.2) := by rfl) : PGs X (e :: es) (gSlots (i :: is)) := by
  refine ⟨fun pins s σ H vs us Q I r q => (pgs_cons h h2 hs).run pins s σ H vs us Q I r ?_⟩
  obtain ⟨h1, h2⟩ := q
  match vs, h1 with
  | v :: vs, h1 => exact ⟨v, vs, rfl, by simpa using h1, h2⟩
theorem ms_parT {is : List Nat} {f : AOF} {ns es : List Expr} {kt k2 : Nat} {pt pt2 pos : Pos} {n : Nat} (hc : X.calm = true) (ha : MAO X c f es) (hg : PGs X ns (gSlots is)) (hr : ∀ i ∈ is, rf[i]? ≠ some true) (hsz : is.length ≤ 1000 := by decide)
    (hs : swapsWithSole [.Tuple ns kt pt] (.Tuple es k2 pt2) pos.line X.env = pure false := by rfl) (hw : swappedStores [.Tuple ns kt pt] (.Tuple es k2 pt2) X.env = pure none := by rfl)
    (h1 : (assignEach [.Tuple ns kt pt] X.env).map (·.2) = [assign (.Tuple ns kt pt) X.env] := by rfl) (hn : (assignEach ns X.env).length = is.length := by rfl) (hst : (assignEach ns X.env).findIdx? (·.1) = none := by rfl) :
    MS X c rf (sPar is f) (.Assign [.Tuple ns kt pt] (.Tuple es k2 pt2) pos) := by
  refine ⟨PS.imp (ps_asg (pe_tup ha.run) (pg_tup hc hg hn hst) hs hw h1) fun D σ H q => ?_⟩
  obtain ⟨ξ, Y, s, hK, F, q⟩ := q
  refine sAO_seq hK F q fun os s1 Y1 H1 vs e1 F1 q1 => ?_
  split at q1
  · rename_i hl
    have hl2 : vs.length = is.length := F1.tlen.symm.trans hl
    refine ⟨by rw [hl2]; exact Nat.le_of_lt (small1000 hsz), fun p hp => ?_⟩
    refine ⟨p, vs, rfl, .inl (.inl upd_same), hl2, hl2, ?_⟩
    exact q1 Y1 _ _ e1 (Keep.setAllV hr) (FS.asgAll hl.symm (F1.newJ hp _))
  · exact q1.elim
end
end MI

set_option Elab.async false
set_option linter.all false
set_option autoImplicit false
set_option maxRecDepth 100000
/-! MI: loops, comprehensions. -/
namespace MI
open PySem PySem.Spec L2
section
variable {X : Cx} {c : Ct} {rf : List Bool} {ξ : Fx} {Y H : Hp} {σ : St} {s : S} {tv : List V} {ts : List OD}

/-- the last temp is an owned list: written -/
theorem FS.listT {ds : List D} {v : V} (F : FS ξ Y H σ s (tv ++ [v]) (ts ++ [.ol ds])) (hl : ts.length = tv.length) : ∃ p vs, v = .ref p ∧ H p = some (.lst vs) ∧ DrAll ξ.K Y vs ds ∧
    ∀ vs' ds', DrAll ξ.K Y vs' ds' → FS ξ Y (upd H p (.lst vs')) σ s (tv ++ [v]) (ts ++ [.ol ds']) := by
  obtain ⟨g, R⟩ := F.rel
  obtain ⟨v', e, r⟩ := R.temp ts.length _ snoc_new
  have ev : v' = v := by
    rw [hl, snoc_new] at e
    exact (Option.some.inj e).symm
  subst ev
  obtain ⟨p, vs, rfl, hp, hd, hF⟩ := r.ol_inv
  refine ⟨p, vs, rfl, hp, hd, fun vs' ds' h' => ?_⟩
  have gp : g (.inr ts.length) p := (hF p).mpr rfl
  have no : ∀ k a, k ≠ .inr ts.length → g k a → a ≠ p := fun k a n f z => n (R.sep _ _ _ f (z ▸ gp))
  have kk : ∀ k a, k ≠ .inr ts.length → g k a → upd H p (.lst vs') a = H a := fun k a n f => upd_ne (no k a n f)
  obtain ⟨_, yp, op⟩ := R.own _ p gp
  refine ⟨fun a o q => ?_, F.z0, F.fresh, fun a o q m => ?_, fun a q => ?_, F.len, by simp [hl], g, fun j o e => ?_, fun j o e => ?_, fun k a f => ?_, R.sep⟩
  · rw [upd_ne fun z => by rw [z, yp] at q; cases q]
    exact F.sub a o q
  · rw [upd_ne fun z => ?_]
    · exact F.keep a o q m
    · subst z
      rcases op with op | op
      · rw [op] at q; cases q
      · exact m op
  · by_cases z : a = p
    · subst z; rw [upd_same]; simp
    · rw [upd_ne z]; exact F.live a q
  · obtain ⟨v, e1, r⟩ := R.slot j o e
    exact ⟨v, e1, r.mono (Same.refl _) fun a f => kk (.inl j) a (fun z => nomatch z) f⟩
  · rcases getElem?_snoc e with e' | ⟨rfl, rfl⟩
    · obtain ⟨v, e1, r⟩ := R.temp j o (snoc_old e')
      have hj := lt_of_get e'
      exact ⟨v, e1, r.mono (Same.refl _) fun a f => kk (.inr j) a (fun z => by cases z; omega) f⟩
    · exact ⟨.ref p, by rw [hl]; exact snoc_new, (RO.ol upd_same h').iff fun a => (hF a).symm⟩
  · have h1 := R.own k a f
    by_cases z : a = p
    · subst z; exact ⟨by rw [upd_same]; simp, h1.2⟩
    · exact ⟨by rw [upd_ne z]; exact h1.1, h1.2⟩
/-- other values where nothing is told -/
theorem FS.resig (F : FS ξ Y H σ s tv ts) {σ' : St} (hl : σ'.length = σ.length) (h : ∀ (i : Nat) (o : OD), s[i]? = some (some o) → σ'[i]? = σ[i]?) : FS ξ Y H σ' s tv ts := by
  obtain ⟨g, R⟩ := F.rel
  refine F.re R g (Same.refl _) F.sub (fun a q => .inl q) (fun i a f => ⟨(R.own i a f).2.1, i, f⟩) R.sep (F.len.trans hl.symm) F.tlen (fun i o e => ?_) R.temp
  obtain ⟨v, e1, r⟩ := R.slot i o e
  exact ⟨v, (h i o e).trans e1, r⟩

/-! ### what is walked -/
abbrev IF := S → Res (List D)
/-- J yields ds -/
structure Walks (K : PySem.W.Frag) (Y : Hp) (J : It) (ds : List D) : Prop where
  go : ∀ i H, Same Y H → i < ds.length → J.go i H
  stop : ∀ H, Same Y H → J.stop ds.length H
  yld : ∀ i H x H' d, Same Y H → ds[i]? = some d → J.yld i H x H' → ∀ Y2, Same Y Y2 → Same Y2 H → ∃ Y3, Gives K Y2 H x Y3 H' (.fz d)
theorem Walks.mono {K : PySem.W.Frag} {Y Y' : Hp} {J : It} {ds : List D} (w : Walks K Y J ds) (e : Same Y Y') : Walks K Y' J ds :=
  ⟨fun i H h => w.go i H (e.trans h), fun H h => w.stop H (e.trans h), fun i H x H' d h h1 h2 Y2 h3 h4 => w.yld i H x H' d (e.trans h) h1 h2 Y2 (e.trans h3) h4⟩
def tI (c : Ct) (f : IF) : TI := fun σ H R => ∃ ξ Y s tv ts, ξ.K = c.K ∧ FS ξ Y H σ s tv ts ∧
  out c ξ Y σ tv ts (fun ds s' => ∀ Y' H' J, Same Y Y' → FS ξ Y' H' σ s' tv ts → Walks c.K Y' J ds → R J H') (f s)
structure MI_ (X : Cx) (c : Ct) (f : IF) (tg iter : Expr) : Prop where
  run : PI X tg iter (tI c f)
theorem PI.imp {X : Cx} {tg e : Expr} {t t' : TI} (h : PI X tg e t) (i : ∀ σ H R, t' σ H R → t σ H R) : PI X tg e t' := ⟨fun pins s σ H R I q => h.run pins s σ H R I (i σ H R q)⟩
theorem PI.or {X : Cx} {tg e : Expr} {t t' : TI} (h : PI X tg e t) (h' : PI X tg e t') : PI X tg e (fun σ H R => t σ H R ∨ t' σ H R) := ⟨fun pins s σ H R I q => q.elim (h.run pins s σ H R I) (h'.run pins s σ H R I)⟩
theorem tI_seq {β : Type} {fa : IF} {k : List D → S → Res β} {G : β → S → Prop} {R : It → Hp → Prop} (hK : ξ.K = c.K) (F : FS ξ Y H σ s tv ts) (h : out c ξ Y σ tv ts G ((fa s).bind k))
    (hR : ∀ ds s1 Y1 H1 J, Same Y Y1 → FS ξ Y1 H1 σ s1 tv ts → Walks c.K Y1 J ds → out c ξ Y σ tv ts G (k ds s1) → R J H1) : tI c fa σ H R := by
  refine ⟨ξ, Y, s, tv, ts, hK, F, ?_⟩
  cases e : fa s with
  | ok d s1 => rw [e] at h; exact fun Y1 H1 v e1 F1 r1 => hR d s1 Y1 H1 v e1 F1 r1 h
  | ex x s1 => rw [e] at h; exact h
  | bad => rw [e] at h; exact h
theorem sI_seq {fa : IF} {k : List D → S → Out} {D : Ends} {R : It → Hp → Prop} (hK : ξ.K = c.K) (F : FS ξ Y H σ s [] []) (h : outS c rf ξ Y σ D ((fa s).toS k))
    (hR : ∀ ds s1 Y1 H1 J, Same Y Y1 → FS ξ Y1 H1 σ s1 [] [] → Walks c.K Y1 J ds → outS c rf ξ Y σ D (k ds s1) → R J H1) : tI c fa σ H R := by
  refine ⟨ξ, Y, s, [], [], hK, F, ?_⟩
  cases e : fa s with
  | ok d s1 => rw [e] at h; exact fun Y1 H1 v e1 F1 r1 => hR d s1 Y1 H1 v e1 F1 r1 h
  | ex x s1 => rw [e] at h; exact fun Y' H' cl q e' F' er => h Y' H' σ cl q e' (.refl _ _) F' er
  | bad => rw [e] at h; exact h
theorem walks_list {K : PySem.W.Frag} {Y : Hp} {a : Addr} {xs : List V} {ds : List D} (h : SqL K Y a xs) (r : DrAll K Y xs ds) (uniq : ∀ H xs', Same Y H → SqL K H a xs' → xs' = xs) : Walks K Y (Itl K a) ds where
  go i H e hi := ⟨xs, xs[i]'(by rw [r.length]; exact hi), e.seq h, List.getElem?_eq_getElem _⟩
  stop H e := ⟨xs, e.seq h, by rw [r.length]; exact Nat.le_refl _⟩
  yld i H x H' d e hd hy Y2 e2 e3 := by
    obtain ⟨rfl, hx⟩ := hy
    obtain ⟨v, hv, rv⟩ := r.get hd
    have := hx xs (e.seq h)
    rw [hv] at this
    cases this
    exact ⟨Y2, .old (rv.mono e2)⟩
theorem walks_tup {K : PySem.W.Frag} {Y : Hp} {a : Addr} {xs : List V} {ds : List D} (h : SqT K Y a xs) (r : DrAll K Y xs ds) : Walks K Y (Itt K a) ds where
  go i H e hi := ⟨xs, xs[i]'(by rw [r.length]; exact hi), Same.sqt e h, List.getElem?_eq_getElem _⟩
  stop H e := ⟨xs, Same.sqt e h, by rw [r.length]; exact Nat.le_refl _⟩
  yld i H x H' d e hd hy Y2 e2 e3 := by
    obtain ⟨rfl, hx⟩ := hy
    obtain ⟨v, hv, rv⟩ := r.get hd
    have := hx xs (Same.sqt e h)
    rw [hv] at this
    cases this
    exact ⟨Y2, .old (rv.mono e2)⟩
/-- a list or a tuple -/
def itemsD : D → Option (List D)
  | .list ds => some ds
  | .tuple ds => some ds
  | _ => none
def iSeq (f : EF) : IF := fun s => (f s).bind fun d s => ofO (itemsD d) s
theorem mi_seq {f : EF} {tg e : Expr} (hXK : X.K = c.K) (h : ME X c f e) : MI_ X c (iSeq f) tg e := by
  refine ⟨PI.imp (PI.or (pi_list h.run) (pi_tup h.run)) fun σ H R q => ?_⟩
  obtain ⟨ξ, Y, s, tv, ts, hK, F, q⟩ := q
  unfold iSeq at q
  cases e : f s with
  | bad => rw [e] at q; exact q.elim
  | ex x s1 =>
    rw [e] at q
    exact .inl ⟨ξ, Y, s, tv, ts, hK, F, by rw [e]; exact q⟩
  | ok d s1 =>
    rw [e, Res.bind_ok] at q
    cases d with
    | list ds =>
      refine .inl ⟨ξ, Y, s, tv, ts, hK, F, ?_⟩
      rw [e]
      intro Y1 H1 v e1 F1 r1
      obtain ⟨a, xs, rfl, hq, hd⟩ := r1.list_inv
      have hq : SqL c.K Y1 a xs := .inl (.inl hq)
      refine ⟨a, rfl, ⟨xs, hXK ▸ F1.sub.seq hq⟩, ?_⟩
      rw [hXK]
      exact q Y1 H1 _ e1 F1 ⟨fun i H e hi => ⟨xs, xs[i]'(by rw [hd.length]; exact hi), e.seq hq, List.getElem?_eq_getElem _⟩, fun H e => ⟨xs, e.seq hq, by rw [hd.length]; exact Nat.le_refl _⟩, fun i H x H' d e hd' hy Y2 e2 e3 => by
        obtain ⟨rfl, hx⟩ := hy
        obtain ⟨v, hv, rv⟩ := hd.get hd'
        have := hx xs (e.seq hq)
        rw [hv] at this
        cases this
        exact ⟨Y2, .old (rv.mono e2)⟩⟩
    | tuple ds =>
      refine .inr ⟨ξ, Y, s, tv, ts, hK, F, ?_⟩
      rw [e]
      intro Y1 H1 v e1 F1 r1
      obtain ⟨a, xs, rfl, hq, hd⟩ := r1.tuple_inv
      refine ⟨a, rfl, ⟨xs, hXK ▸ Same.sqt F1.sub hq⟩, ?_⟩
      rw [hXK]
      exact q Y1 H1 _ e1 F1 (walks_tup hq hd)
    | none => exact q.elim
    | bool _ => exact q.elim
    | int _ => exact q.elim
    | str _ => exact q.elim
    | dict _ => exact q.elim
/-- range -/
def upto (lo : Int) (n : Nat) : List D := (List.range n).map fun i : Nat => PyData.int (lo + (i : Int))
theorem walks_range {K : PySem.W.Frag} {Y : Hp} {lo : Int} {n : Nat} : Walks K Y (Itr lo n) (upto lo n) where
  go i H e hi := by
    show i < n
    simpa [upto] using hi
  stop H e := by show n ≤ _; simp [upto]
  yld i H x H' d e hd hy Y2 e2 e3 := by
    obtain ⟨rfl, rfl⟩ := hy
    have hi := lt_of_get hd
    have e4 : d = .int (lo + (i : Int)) := by
      rw [List.getElem?_eq_getElem hi] at hd
      simp [upto] at hd
      exact hd.symm
    subst e4
    exact ⟨Y2, .old (.int _)⟩
def iRange1 (f : EF) : IF := fun s => (f s).bind fun d s => match d with
  | .int n => if -(2 ^ 62) ≤ n ∧ n < 2 ^ 62 then .ok (upto 0 n.toNat) s else .bad
  | _ => .bad
theorem mi_range1 {f : EF} {tg a : Expr} {p pos : Pos} (hg : Gl X "range") (hm : X.mg "range" = none) (h : ME X c f a) (hs : starEach [a] X.env = [(false, eval a X.env)] := by rfl) : MI_ X c (iRange1 f) tg (.Call (.Name "range" p) [a] [] pos) := by
  refine ⟨PI.imp (pi_range1 hg hm (ma_cons h ma_nil hs).run hs) fun σ H R q => ?_⟩
  obtain ⟨ξ, Y, s, tv, ts, hK, F, q⟩ := q
  refine ⟨ξ, Y, s, tv, ts, hK, F, ?_⟩
  unfold iRange1 at q
  unfold aCons aNil
  cases e : f s with
  | bad => rw [e] at q; exact q.elim
  | ex x s1 => rw [e] at q; exact q
  | ok d s1 =>
    rw [e, Res.bind_ok] at q
    rw [Res.bind_ok, Res.bind_ok]
    intro Y1 H1 vs e1 F1 r1
    cases d with
    | int n =>
      simp only at q
      split at q
      · rename_i hn
        cases r1 with
        | cons ra rb =>
          cases rb
          obtain rfl := ra.int_inv
          exact ⟨n, rfl, hn.1, hn.2, q Y1 H1 _ e1 F1 walks_range⟩
      · exact q.elim
    | none => exact q.elim
    | bool _ => exact q.elim
    | str _ => exact q.elim
    | list _ => exact q.elim
    | tuple _ => exact q.elim
    | dict _ => exact q.elim
def iRange2 (f g : EF) : IF := fun s => (f s).bind fun d s => (g s).bind fun e s => match d, e with
  | .int m, .int n => if -(2 ^ 62) ≤ m ∧ m < 2 ^ 62 ∧ -(2 ^ 62) ≤ n ∧ n < 2 ^ 62 then .ok (upto m (n - m).toNat) s else .bad
  | _, _ => .bad
theorem mi_range2 {f g : EF} {tg a b : Expr} {p pos : Pos} (hg : Gl X "range") (hm : X.mg "range" = none) (h : ME X c f a) (h2 : ME X c g b) (hs : starEach [a, b] X.env = [(false, eval a X.env), (false, eval b X.env)] := by rfl) (hs2 : starEach [b] X.env = [(false, eval b X.env)] := by rfl) : MI_ X c (iRange2 f g) tg (.Call (.Name "range" p) [a, b] [] pos) := by
  refine ⟨PI.imp (pi_range2 hg hm (ma_cons h (ma_cons h2 ma_nil hs2) (by rw [hs, hs2])).run hs hs2) fun σ H R q => ?_⟩
  obtain ⟨ξ, Y, s, tv, ts, hK, F, q⟩ := q
  refine ⟨ξ, Y, s, tv, ts, hK, F, ?_⟩
  unfold iRange2 at q
  unfold aCons aNil
  cases e : f s with
  | bad => rw [e] at q; exact q.elim
  | ex x s1 => rw [e] at q; exact q
  | ok d s1 =>
    rw [e, Res.bind_ok] at q
    rw [Res.bind_ok]
    cases e' : g s1 with
    | bad => rw [e'] at q; exact q.elim
    | ex x s1 => rw [e'] at q; exact q
    | ok d' s2 =>
      rw [e', Res.bind_ok] at q
      rw [Res.bind_ok, Res.bind_ok, Res.bind_ok]
      intro Y1 H1 vs e1 F1 r1
      split at q
      · rename_i m n
        split at q
        · rename_i hn
          cases r1 with
          | cons ra rb =>
            cases rb with
            | cons rb rc =>
              cases rc
              obtain rfl := ra.int_inv
              obtain rfl := rb.int_inv
              exact ⟨m, n, rfl, ⟨hn.1, hn.2.1, hn.2.2.1, hn.2.2.2⟩, q Y1 H1 _ e1 F1 walks_range⟩
        · exact q.elim
      · exact q.elim

/-! ### for -/
def forL (g : GF) (body : SF) : List D → S → Out
  | [], s => .nx s
  | d :: ds, s => match g d s with
    | none => .bad
    | some s1 => match body s1 with
      | .nx s2 => forL g body ds s2
      | .ct s2 => forL g body ds s2
      | .bk s2 => .nx s2
      | .rt o s2 => .rt o s2
      | .ex e s2 => .ex e s2
      | .bad => .bad
def sFor (it : IF) (g : GF) (body : SF) : SF := fun s => (it s).toS fun ds s => forL g body ds s
theorem ms_for {it : IF} {g : GF} {f : SF} {tg iter : Expr} {body : List Stmt} {pos : Pos} (hp : PassesOwn (model X.prog X.w) X.A X.env X.xe) (hc : X.calm = true) (hi : MI_ X c it tg iter) (hg : MG X c rf g tg) (hb : MSs X c rf f body)
    (hs : ∀ x, foldedSetIterable iter X.env x = pure x := by intro _; rfl) : MS X c rf (sFor it g f) (.For tg iter body [] pos) := by
  refine ⟨PS.imp (ps_for hp hc hi.run hg.run hb.run hs) fun D σ H q => ?_⟩
  obtain ⟨ξ, Y, s, hK, F, q⟩ := q
  refine sI_seq hK F q fun ds s1 Y1 H1 J e1 F1 w q1 => ?_
  refine ⟨fun i m σ' H' => ∃ Y' s', i ≤ ds.length ∧ m = ds.length - i ∧ Same Y1 Y' ∧ FS ξ Y' H' σ' s' [] [] ∧ outS c rf ξ Y' σ' D (forL g f (ds.drop i) s'),
    ⟨ds.length, Y1, s1, Nat.zero_le _, by omega, Same.refl _, F1, outS.mono c rf q1 e1 (.refl _ _)⟩, ?_⟩
  rintro i m σ' H' ⟨Y', s', hle, rfl, e2, F2, q2⟩
  rcases Nat.lt_or_ge i ds.length with hlt | hge
  · have hd : ds[i]? = some ds[i] := List.getElem?_eq_getElem hlt
    rw [List.drop_eq_getElem_cons hlt] at q2
    refine .inr ⟨w.go i H' (e2.trans F2.sub) hlt, fun σ3 H3 => ∃ Y3 s3, Same Y1 Y3 ∧ FS ξ Y3 H3 σ3 s3 [] [] ∧ outS c rf ξ Y3 σ3 D (forL g f (ds.drop (i + 1)) s3), ?_, ?_⟩
    · rintro σ3 H3 ⟨Y3, s3, e3, F3, q3⟩
      exact ⟨ds.length - (i + 1), by omega, Y3, s3, by omega, rfl, e3, F3, q3⟩
    · intro x H3 hy
      obtain ⟨Y3, gv⟩ := w.yld i H' x H3 _ (e2.trans F2.sub) hd hy Y' e2 F2.sub
      obtain ⟨e3, F3⟩ := gv.fs hK F2
      obtain ⟨Y4, e4, F4, r4⟩ := F3.freezeT
      have e5 : Same Y' Y4 := e3.trans e4
      simp only [forL] at q2
      split at q2
      · exact q2.elim
      · rename_i s5 eg
        refine ⟨ξ, Y4, s', ds[i], [], [], hK, F4, hK ▸ r4, s5, eg, fun Y6 H6 σ6 e6 k6 F6 => ?_⟩
        refine ⟨ξ, Y6, s5, hK, F6, ?_⟩
        have all : Same Y1 Y6 := (e2.trans e5).trans e6
        cases ef : f s5 with
        | nx s7 => rw [ef] at q2; exact fun Y7 H7 σ7 e7 k7 F7 => ⟨Y7, s7, all.trans e7, F7, outS.mono c rf q2 ((e5.trans e6).trans e7) (k6.trans k7)⟩
        | ct s7 => rw [ef] at q2; exact fun Y7 H7 σ7 e7 k7 F7 => ⟨Y7, s7, all.trans e7, F7, outS.mono c rf q2 ((e5.trans e6).trans e7) (k6.trans k7)⟩
        | bk s7 => rw [ef] at q2; exact fun Y7 H7 σ7 e7 k7 F7 => q2 Y7 H7 σ7 ((e5.trans e6).trans e7) (k6.trans k7) F7
        | rt o s7 => rw [ef] at q2; exact fun Y7 H7 σ7 v e7 k7 F7 => q2 Y7 H7 σ7 v ((e5.trans e6).trans e7) (k6.trans k7) F7
        | ex x s7 => rw [ef] at q2; exact fun Y7 H7 σ7 cl z e7 k7 F7 er => q2 Y7 H7 σ7 cl z ((e5.trans e6).trans e7) (k6.trans k7) F7 er
        | bad => rw [ef] at q2; exact q2.elim
  · have hi : i = ds.length := by omega
    subst hi
    rw [List.drop_length] at q2
    exact .inl ⟨w.stop H' (e2.trans F2.sub), q2 Y' H' σ' (Same.refl _) (.refl _ _) F2⟩

/-! ### while -/
def whileL (t : TF) (body : SF) : Nat → S → Out
  | 0, _ => .bad
  | n + 1, s => (t s).toS fun b s1 => if b = true then (match body s1 with
      | .nx s2 => whileL t body n s2
      | .ct s2 => whileL t body n s2
      | .bk s2 => .nx s2
      | .rt o s2 => .rt o s2
      | .ex e s2 => .ex e s2
      | .bad => .bad) else .nx s1
def sWhile (n : Nat) (t : TF) (body : SF) : SF := fun s => whileL t body n s
theorem ms_while {n : Nat} {t : TF} {f : SF} {x : Expr} {body : List Stmt} {pos : Pos} (hp : PassesOwn (model X.prog X.w) X.A X.env X.xe) (ht : MT X c t x) (hb : MSs X c rf f body) : MS X c rf (sWhile n t f) (.While x body [] pos) := by
  refine ⟨PS.imp (ps_while hp ht.run hb.run) fun D σ H q => ?_⟩
  obtain ⟨ξ, Y, s, hK, F, q⟩ := q
  refine ⟨fun m σ' H' => ∃ Y' s', FS ξ Y' H' σ' s' [] [] ∧ outS c rf ξ Y' σ' D (whileL t f m s'), ⟨n, Y, s, F, q⟩, ?_⟩
  rintro m σ' H' ⟨Y', s', F2, q2⟩
  cases m with
  | zero => exact q2.elim
  | succ m =>
    refine sT_seq hK F2 q2 fun b s3 Y3 H3 e3 F3 q3 => ?_
    cases b with
    | false => exact iteF (q3 Y3 H3 σ' e3 (.refl _ _) F3)
    | true =>
      refine iteT ⟨fun σ4 H4 => ∃ Y4 s4, FS ξ Y4 H4 σ4 s4 [] [] ∧ outS c rf ξ Y4 σ4 D (whileL t f m s4), fun σ4 H4 h => ⟨m, Nat.lt_succ_self m, h⟩, ?_⟩
      refine ⟨ξ, Y3, s3, hK, F3, ?_⟩
      rw [if_pos rfl] at q3
      cases ef : f s3 with
      | nx s7 => rw [ef] at q3; exact fun Y7 H7 σ7 e7 k7 F7 => ⟨Y7, s7, F7, outS.mono c rf q3 (e3.trans e7) k7⟩
      | ct s7 => rw [ef] at q3; exact fun Y7 H7 σ7 e7 k7 F7 => ⟨Y7, s7, F7, outS.mono c rf q3 (e3.trans e7) k7⟩
      | bk s7 => rw [ef] at q3; exact fun Y7 H7 σ7 e7 k7 F7 => q3 Y7 H7 σ7 (e3.trans e7) k7 F7
      | rt o s7 => rw [ef] at q3; exact fun Y7 H7 σ7 v e7 k7 F7 => q3 Y7 H7 σ7 v (e3.trans e7) k7 F7
      | ex x s7 => rw [ef] at q3; exact fun Y7 H7 σ7 cl z e7 k7 F7 er => q3 Y7 H7 σ7 cl z (e3.trans e7) k7 F7 er
      | bad => rw [ef] at q3; exact q3.elim

/-! ### list comprehensions -/
def Res.noex {α : Type} : Res α → Res α
  | .ok a s => .ok a s
  | _ => .bad
@[simp] theorem Res.noex_ok {α : Type} {a : α} {s : S} : (Res.ok a s).noex = .ok a s := Eq.trans rfl rfl
/-- the comprehension's own slots (flags) emptied; put back -/
def wipeF : List Bool → S → S
  | b :: bs, x :: xs => (if b = true then none else x) :: wipeF bs xs
  | [], xs => xs
  | _, [] => []
def backF : List Bool → S → S → S
  | b :: bs, x :: xs, y :: ys => (if b = true then (match x with
      | some (.fz d) => some (.fz d)
      | _ => none) else y) :: backF bs xs ys
  | [], _, ys => ys
  | _, _, _ => []
def lcL (ow : List Bool) (g : GF) (t : TF) (e : EF) : List D → List D → S → Res (List D)
  | [], acc, s => .ok acc s
  | d :: ds, acc, s => match g d s with
    | none => .bad
    | some s1 => (t s1).noex.bind fun b s2 => if b = true then (e s2).noex.bind fun y s3 => if acc.length < sizeLine then lcL ow g t e ds (acc ++ [y]) (wipeF ow s3) else .bad
        else lcL ow g t e ds acc (wipeF ow s2)
def oLc (ow : List Bool) (it : IF) (g : GF) (t : TF) (e : EF) : OF := fun s => (it s).bind fun ds s1 => if ow.length = s1.length then (lcL ow g t e ds [] (wipeF ow s1)).bind fun acc s2 => .ok (.ol acc) (backF ow s1 s2) else .bad
def kYes : TF := fun s => .ok true s

theorem wipeF_length : ∀ {ow : List Bool} {s : S}, (wipeF ow s).length = s.length
  | [], _ => by simp [wipeF]
  | _ :: _, [] => by simp [wipeF]
  | b :: bs, x :: xs => by simp [wipeF, wipeF_length (ow := bs) (s := xs)]
theorem wipeF_get : ∀ {ow : List Bool} {s : S} {i : Nat} {o : OD}, (wipeF ow s)[i]? = some (some o) → s[i]? = some (some o) ∧ ow[i]? ≠ some true
  | [], s, i, o, h => by simpa [wipeF] using h
  | _ :: _, [], i, o, h => by simp [wipeF] at h
  | b :: bs, x :: xs, 0, o, h => by
    cases b <;> simp [wipeF] at h ⊢
    exact h
  | b :: bs, x :: xs, i + 1, o, h => by
    simp only [wipeF, List.getElem?_cons_succ] at h ⊢
    exact wipeF_get h
theorem backF_length : ∀ {ow : List Bool} {s s' : S}, s'.length = s.length → (backF ow s s').length = s'.length
  | [], _, _, _ => by simp [backF]
  | _ :: _, [], [], _ => by simp [backF]
  | _ :: _, [], _ :: _, h => by simp at h
  | _ :: _, _ :: _, [], h => by simp at h
  | b :: bs, x :: xs, y :: ys, h => by simp [backF, backF_length (ow := bs) (s := xs) (s' := ys) (by simpa using h)]
theorem backF_get : ∀ {ow : List Bool} {s s' : S} {i : Nat} {o : OD}, (backF ow s s')[i]? = some (some o) → (ow[i]? = some true ∧ ∃ d, o = .fz d ∧ s[i]? = some (some (.fz d))) ∨ (ow[i]? ≠ some true ∧ s'[i]? = some (some o))
  | [], s, s', i, o, h => by
    right
    simpa [backF] using h
  | _ :: _, [], _, i, o, h => by simp [backF] at h
  | _ :: _, _ :: _, [], i, o, h => by simp [backF] at h
  | b :: bs, x :: xs, y :: ys, 0, o, h => by
    cases b with
    | false =>
      right
      simpa [backF] using h
    | true =>
      left
      refine ⟨by simp, ?_⟩
      simp only [backF, List.getElem?_cons_zero, Option.some.injEq, if_true] at h
      split at h
      · rename_i d
        cases h
        exact ⟨d, rfl, by simp⟩
      · cases h
  | b :: bs, x :: xs, y :: ys, i + 1, o, h => by
    simp only [backF, List.getElem?_cons_succ] at h ⊢
    exact backF_get h
theorem wipe_get {σ : St} {j : Nat} : ∀ {vs : List Nat}, j ∉ vs → (wipe σ vs)[j]? = σ[j]?
  | [], _ => rfl
  | v :: vs, h => by
    unfold wipe
    rw [List.getElem?_set_ne fun e => h (by simp [e]), wipe_get fun z => h (by simp [z])]
theorem wipe_in {σ : St} {j : Nat} : ∀ {vs : List Nat}, j ∈ vs → j < σ.length → (wipe σ vs)[j]? = some none
  | [], h, _ => by simp at h
  | v :: vs, h, hj => by
    unfold wipe
    by_cases e : v = j
    · subst e
      rw [List.getElem?_set_self (by rw [wipe_length]; exact hj)]
    · rw [List.getElem?_set_ne e]
      exact wipe_in ((List.mem_cons.mp h).resolve_left (fun z => e z.symm)) hj
/-- the flags are the places -/
def Flags (ow : List Bool) (n : Nat) (vs : List Nat) : Prop := ow = (List.range n).map fun j => decide (j ∈ vs)
theorem Flags.get {ow : List Bool} {n : Nat} {vs : List Nat} (h : Flags ow n vs) {j : Nat} (hj : j < n) : ow[j]? = some (decide (j ∈ vs)) := by
  rw [h, List.getElem?_map, List.getElem?_range hj]
  rfl
theorem Flags.nin {ow : List Bool} {n : Nat} {vs : List Nat} (h : Flags ow n vs) {j : Nat} (hj : j < n) (hn : ow[j]? ≠ some true) : j ∉ vs := fun z => by
  rw [h.get hj] at hn
  simp [z] at hn
theorem wipe_eq {σ σ2 : St} {vs : List Nat} (hl : σ2.length = σ.length) (h : ∀ j, j < σ.length → j ∉ vs → σ2[j]? = (wipe σ vs)[j]?) : wipe σ2 vs = wipe σ vs := by
  apply List.ext_getElem?
  intro j
  by_cases hj : j < σ.length
  · by_cases hm : j ∈ vs
    · rw [wipe_in hm (by omega), wipe_in hm hj]
    · rw [wipe_get hm, h j hj hm]
  · rw [List.getElem?_eq_none (by rw [wipe_length]; omega), List.getElem?_eq_none (by rw [wipe_length]; omega)]
/-- into the block -/
theorem FS.toBlk {ow : List Bool} {n : Nat} {vs : List Nat} (F : FS ξ Y H σ s tv ts) (hf : Flags ow n vs) (hn : s.length = n) {σ2 : St} (hl : σ2.length = σ.length) (h : ∀ j, j < σ.length → j ∉ vs → σ2[j]? = σ[j]?) : FS ξ Y H σ2 (wipeF ow s) tv ts := by
  refine (F.forget wipeF_length fun i o e => (wipeF_get e).1).resig hl fun i o e => ?_
  obtain ⟨h1, h2⟩ := wipeF_get e
  have hi := lt_of_get h1
  exact h i (by rw [← F.len]; exact hi) (hf.nin (by omega) h2)
/-- out of the block -/
theorem FS.ofBlk {ow : List Bool} {n : Nat} {vs : List Nat} {Y1 H1 : Hp} {s1 : S} {tv1 : List V} {ts1 : List OD} (F1 : FS ξ Y1 H1 σ s1 tv1 ts1) (F : FS ξ Y H (wipe σ vs) s tv ts) (e : Same Y1 Y) (hf : Flags ow n vs) (hn : s1.length = n) : FS ξ Y H σ (backF ow s1 s) tv ts := by
  obtain ⟨g, R⟩ := F.rel
  have hl : s.length = s1.length := by rw [F.len, wipe_length, F1.len]
  let g2 : Own := fun i a => match i with
    | .inl j => ow[j]? ≠ some true ∧ g (.inl j) a
    | .inr j => g (.inr j) a
  have low : ∀ i a, g2 i a → g i a := fun i a z => by
    cases i with
    | inl j => exact z.2
    | inr j => exact z
  refine F.re R g2 (Same.refl _) F.sub (fun a q => .inl q) (fun i a z => ⟨(R.own i a (low i a z)).2.1, i, low i a z⟩) (fun i j a z z' => R.sep i j a (low i a z) (low j a z')) (by rw [backF_length hl, hl, F1.len]) F.tlen (fun j o q => ?_) R.temp
  rcases backF_get q with ⟨h1, d, rfl, h2⟩ | ⟨h1, h2⟩
  · obtain ⟨v, hv, r⟩ := F1.frozen h2
    exact ⟨v, hv, (RO.fz (r.mono e)).iff fun a => ⟨fun z => z.elim, fun z => (z.1 h1).elim⟩⟩
  · obtain ⟨v, hv, r⟩ := R.slot j o h2
    have hj := lt_of_get h2
    rw [wipe_get (hf.nin (by omega) h1)] at hv
    exact ⟨v, hv, r.iff fun a => ⟨fun z => ⟨h1, z⟩, fun z => z.2⟩⟩

/-- within a comprehension nothing is raised -/
abbrev Ct.blk (c : Ct) : Ct := { c with W := fun _ _ _ _ => False }
theorem noex_ok {α : Type} {r : Res α} {β : Type} {k : α → S → Res β} {G : β → S → Prop} {ξ : Fx} {Y : Hp} {σ : St} {tv : List V} {ts : List OD} (h : out c ξ Y σ tv ts G (r.noex.bind k)) : ∃ a s', r = .ok a s' ∧ out c ξ Y σ tv ts G (k a s') := by
  cases r with
  | ok a s => exact ⟨a, s, rfl, h⟩
  | ex x s => exact h.elim
  | bad => exact h.elim
theorem lc_reads {ow : List Bool} {it : IF} {g : GF} {t : TF} {f : EF} {own : List (Str × Nat)} {σ : St} {H : Hp} {Q : VK} {N : List Str} (hf : Flags ow N.length (own.map (·.2)))
    (q : tO c (oLc ow it g t f) σ H Q) : tLc (tI c it) (tG (ow.map not) c.K g) (tT c.blk t) (tE c.blk f) (own.map (·.2)) σ H Q := by
  obtain ⟨ξ, Y, s, tv, ts, hK, F, q⟩ := q
  refine tI_seq hK F q fun ds s1 Y1 H1 J e1 F1 w q1 => ?_
  intro L hL
  split at q1
  rotate_left
  · exact q1.elim
  rename_i hlen
  have hn : s1.length = N.length := by rw [← hlen, hf]; simp
  have F2 := (F1.pushL hL (.nil : DrAll ξ.K Y1 [] [])).toBlk hf hn (wipe_length σ (own.map (·.2))) fun j hj hm => wipe_get hm
  refine ⟨fun i m H' => ∃ Y' s' acc, i ≤ ds.length ∧ m = ds.length - i ∧ Same Y1 Y' ∧ s'.length = N.length ∧ FS ξ Y' H' (wipe σ (own.map (·.2))) s' (tv ++ [.ref L]) (ts ++ [.ol acc]) ∧
      out c ξ Y1 σ tv ts (fun o s' => ∀ Y' H' v, Same Y Y' → FS ξ Y' H' σ s' (tv ++ [v]) (ts ++ [o]) → Q v H') ((lcL ow g t f (ds.drop i) acc s').bind fun acc s2 => .ok (.ol acc) (backF ow s1 s2)),
    ⟨ds.length, Y1, wipeF ow s1, [], Nat.zero_le _, by omega, Same.refl _, by rw [wipeF_length, hn], F2, out.mono c q1 e1 fun _ _ z => z⟩, ?_⟩
  rintro i m H' ⟨Y', s', acc, hle, rfl, e2, hn2, F3, q2⟩
  rcases Nat.lt_or_ge i ds.length with hlt | hge
  · have hd : ds[i]? = some ds[i] := List.getElem?_eq_getElem hlt
    rw [List.drop_eq_getElem_cons hlt] at q2
    refine .inr ⟨w.go i H' (e2.trans F3.sub) hlt, fun H3 => ∃ Y3 s3 acc3, Same Y1 Y3 ∧ s3.length = N.length ∧ FS ξ Y3 H3 (wipe σ (own.map (·.2))) s3 (tv ++ [.ref L]) (ts ++ [.ol acc3]) ∧
      out c ξ Y1 σ tv ts (fun o s' => ∀ Y' H' v, Same Y Y' → FS ξ Y' H' σ s' (tv ++ [v]) (ts ++ [o]) → Q v H') ((lcL ow g t f (ds.drop (i + 1)) acc3 s3).bind fun acc s2 => .ok (.ol acc) (backF ow s1 s2)), ?_, ?_⟩
    · rintro H3 ⟨Y3, s3, acc3, e3, n3, F3, q3⟩
      exact ⟨ds.length - (i + 1), by omega, Y3, s3, acc3, by omega, rfl, e3, n3, F3, q3⟩
    · intro x H3 hy
      obtain ⟨Y3, gv⟩ := w.yld i H' x H3 _ (e2.trans F3.sub) hd hy Y' e2 F3.sub
      obtain ⟨e3, F4⟩ := gv.fs hK F3
      obtain ⟨Y4, e4, F5, r5⟩ := F4.freezeT
      have e5 : Same Y' Y4 := e3.trans e4
      simp only [lcL] at q2
      split at q2
      · exact q2.elim
      · rename_i s5 eg
        refine ⟨ξ, Y4, s', ds[i], tv ++ [.ref L], ts ++ [.ol acc], hK, F5, hK ▸ r5, s5, eg, fun Y6 H6 σ6 e6 k6 F6 => ?_⟩
        have l6 : σ6.length = σ.length := by rw [k6.1, wipe_length]
        have c6 : ∀ j, j < σ.length → j ∉ own.map (·.2) → σ6[j]? = (wipe σ (own.map (·.2)))[j]? := fun j hj hm => by
          refine k6.2 j ?_
          rw [List.getElem?_map, hf.get (by rw [← hn, F1.len]; exact hj)]
          simp [hm]
        refine ⟨wipe_eq l6 c6, ?_⟩
        have back : ∀ {Y8 H8 s8 acc8}, FS ξ Y8 H8 σ6 s8 (tv ++ [.ref L]) (ts ++ [.ol acc8]) → s8.length = N.length ∧ FS ξ Y8 H8 (wipe σ (own.map (·.2))) (wipeF ow s8) (tv ++ [.ref L]) (ts ++ [.ol acc8]) := fun {Y8 H8 s8 acc8} F8 => by
          have n8 : s8.length = N.length := by rw [F8.len, l6, ← F1.len, hn]
          exact ⟨n8, F8.toBlk hf n8 (by rw [wipe_length, l6]) fun j hj hm => (c6 j (by omega) hm).symm⟩
        refine ⟨ξ, Y6, s5, _, _, hK, F6, ?_⟩
        rw [show ∀ (a : Res Bool) (k : Bool → S → Res (List D)) (k' : List D → S → Res OD), ((a.noex.bind k).bind k') = a.noex.bind fun b s => (k b s).bind k' from fun a k k' => by cases a <;> rfl] at q2
        obtain ⟨b, s7, et, q3⟩ := noex_ok q2
        rw [et]
        intro Y7 H7 e7 F7
        have all7 : Same Y1 Y7 := ((e2.trans e5).trans e6).trans e7
        cases b with
        | false =>
          rw [if_neg Bool.false_ne_true] at q3
          refine iteF ⟨Y7, wipeF ow s7, acc, all7, ?_, (back F7).2, q3⟩
          rw [wipeF_length]; exact (back F7).1
        | true =>
          rw [if_pos rfl] at q3
          refine iteT ⟨ξ, Y7, s7, _, _, hK, F7, ?_⟩
          rw [show ∀ (a : Res D) (k : D → S → Res (List D)) (k' : List D → S → Res OD), ((a.noex.bind k).bind k') = a.noex.bind fun b s => (k b s).bind k' from fun a k k' => by cases a <;> rfl] at q3
          obtain ⟨y, s8, ee, q4⟩ := noex_ok q3
          rw [ee]
          intro Y8 H8 v8 e8 F8 r8
          obtain ⟨p, vs, ep, hp, hdr, wr⟩ := F8.listT F1.tlen
          cases ep
          split at q4
          · rename_i hsz
            refine ⟨vs, hp, by rw [hdr.length]; exact hsz, Y8, wipeF ow s8, acc ++ [y], all7.trans e8, ?_, ?_, q4⟩
            · rw [wipeF_length]; exact (back F8).1
            · exact (back (wr (vs ++ [v8]) (acc ++ [y]) (hdr.append (.cons (hK ▸ r8) .nil)))).2
          · exact q4.elim
  · have hi : i = ds.length := by omega
    subst hi
    rw [List.drop_length] at q2
    exact .inl ⟨w.stop H' (e2.trans F3.sub), q2 Y' H' _ (e1.trans e2) (F1.ofBlk F3 e2 hf hn)⟩
theorem mo_lc {ow : List Bool} {it : IF} {g : GF} {t : TF} {f : EF} {elt tg iter : Expr} {ifs : List Expr} {scope : Scope} {own : List (Str × Nat)} {pos : Pos} (hc : X.calm = true) (hN : X.N.Nodup) (ok : BlkOk X.N X.env.scope scope own) (hf : Flags ow X.N.length (own.map (·.2)))
    (hi : MI_ X c it tg iter) (hg : ∀ (s : Shared) (H : Hp) (C : Addr) (cl : List (Str × Addr)) (fp : List Addr), MG (X.blk s H scope (compEnvC scope cl C X.env) fp) c.blk (ow.map not) g tg)
    (ht : ∀ (s : Shared) (H : Hp) (C : Addr) (cl : List (Str × Addr)) (fp : List Addr), PTs (X.blk s H scope (compEnvC scope cl C X.env) fp) ifs (tT c.blk t))
    (he : ∀ (s : Shared) (H : Hp) (C : Addr) (cl : List (Str × Addr)) (fp : List Addr), ME (X.blk s H scope (compEnvC scope cl C X.env) fp) c.blk f elt) (hs : ∀ x, foldedSetIterable iter X.env x = pure x := by intro _; rfl) :
    MO X c (oLc ow it g t f) (.ListComp elt [⟨tg, iter, ifs, 0⟩] scope pos) :=
  ⟨PE.imp (pe_lc hc hN hi.run ok (fun s H C cl fp => (hg s H C cl fp).run) ht (fun s H C cl fp => (he s H C cl fp).run) hs) fun σ H Q q => lc_reads hf q⟩
/-- y = [..]: stored while the comprehension's frame stands -/
theorem ms_setLc {rf : List Bool} {ow : List Bool} {it : IF} {g : GF} {t : TF} {f : EF} {elt tg iter : Expr} {ifs : List Expr} {scope : Scope} {own : List (Str × Nat)} {pos spos py : Pos} {i : Nat} {y : Str} (hc : X.calm = true) (hN : X.N.Nodup) (hy : X.N[i]? = some y) (hyl : X.env.scope.names.lookup y = some .local)
    (hsw : swapsWith (.ListComp elt [⟨tg, iter, ifs, 0⟩] scope pos) (some (.Name y py)) spos.line X.env = pure true) (ok : BlkOk X.N X.env.scope scope own) (hf : Flags ow X.N.length (own.map (·.2)))
    (hi : MI_ X c it tg iter) (hg : ∀ (s : Shared) (H : Hp) (C : Addr) (cl : List (Str × Addr)) (fp : List Addr), MG (X.blk s H scope (compEnvC scope cl C X.env) fp) c.blk (ow.map not) g tg)
    (ht : ∀ (s : Shared) (H : Hp) (C : Addr) (cl : List (Str × Addr)) (fp : List Addr), PTs (X.blk s H scope (compEnvC scope cl C X.env) fp) ifs (tT c.blk t))
    (he : ∀ (s : Shared) (H : Hp) (C : Addr) (cl : List (Str × Addr)) (fp : List Addr), ME (X.blk s H scope (compEnvC scope cl C X.env) fp) c.blk f elt) (hr : rf[i]? ≠ some true := by decide) (hs : ∀ x, foldedSetIterable iter X.env x = pure x := by intro _; rfl) :
    MS X c rf (sSet i (oLc ow it g t f)) (.Assign [.Name y py] (.ListComp elt [⟨tg, iter, ifs, 0⟩] scope pos) spos) :=
  ⟨PS.imp (ps_setLc hc hN hy hyl hsw hi.run ok (fun s H C cl fp => (hg s H C cl fp).run) ht (fun s H C cl fp => (he s H C cl fp).run) hs) fun D σ H q => by
    obtain ⟨ξ, Y, s, hK, F, q⟩ := sSet_core hr q
    exact lc_reads hf ⟨ξ, Y, s, hK, F, q⟩⟩
theorem pts_no : PTs X [] (tT c kYes) := ⟨fun pins s σ H Q I q => pts_nil.run pins s σ H Q I (by
  obtain ⟨ξ, Y, s, tv, ts, hK, F, q⟩ := q
  exact q Y H (Same.refl _) F)⟩
theorem pts_if {t : TF} {e : Expr} (h : MT X c t e) : PTs X [e] (tT c t) := pts_one h.run
end
end MI

set_option Elab.async false
set_option linter.all false
set_option autoImplicit false
set_option maxRecDepth 100000
/-! MI: what a def promises; calls. -/
namespace MI
open PySem PySem.Spec L2
/-! ### defs that run where no repr is under way -/
section
variable {P : Program} {w : World} {K : PySem.W.Frag} {mg : Str → Option Value} {base : Heap} {CX : CXT}
structure FnG (P : Program) (w : World) (K : PySem.W.Frag) (mg : Str → Option Value) (base : Heap) (CX : CXT) (k : Nat) (f : Addr) (fd : FuncData) (ps : List Str) (sp : Sp) : Prop where
  len : ∀ vs H Q E, sp vs H Q E → vs.length = ps.length
  run : ∀ (A : Around) (outer : List Env) (s : Shared) (H : Hp) (args : Args) (us : List Value) (vs : List V) (Q : VK) (E : XK), A.guards = some [] → Room k A →
    Env0 P w K mg base A outer s H → BindsTo s fd args (ps.zip us) → Vals vs us → sp vs H Q E → codeAny (model P w) A (.call (.ref f) args) (CR CX outer P w H s Q E) s
theorem FnG.mono {j k : Nat} {f : Addr} {fd : FuncData} {ps : List Str} {sp : Sp} (F : FnG P w K mg base CX j f fd ps sp) (h : j ≤ k) : FnG P w K mg base CX k f fd ps sp :=
  ⟨F.len, fun A outer s H args us vs Q E hG hr => F.run A outer s H args us vs Q E hG (hr.mono h)⟩
open PyProof.Rows in
theorem Fun.okG {x qual : Str} {st : Stmt} {f : Addr} {fd : FuncData} {N ps : List Str} {k : Nat} {sp : Sp} (F : Fun K x qual st f fd) (S : FnScope N ps (defScope st)) (len : ∀ vs H Q E, sp vs H Q E → vs.length = ps.length)
    (hb : ∀ (cdv : Value) (A : Around) (outer : List Env) (s : Shared) (H : Hp) (vs : List V) (Q : VK) (E : XK), A.guards = some [] → Room k (A.deeper (envOfC qual (defScope st) s.heap.objs.size f cdv)) → sp vs H Q E →
      ∃ t, PSs (cxOf CX P w K mg base N qual (defScope st) f cdv A outer s H E) (defBody st) t ∧ t { nx := fun _ H' => Q .non H', rt := Q } (start N vs) H) :
    FnG P w K mg base CX (k + 1) f fd ps sp := by
  obtain ⟨oc, od, kV, doc, pm, an, cdv, ct, osl, rfl, lk, hcd⟩ := F.ex
  refine ⟨len, ?_⟩
  intro A outer s H args us vs Q E hG hr e0 bd rel pr
  have num := len _ _ _ _ pr
  have KX : K.In s.heap := e0.mod.kin.keeps fun b o e => (e0.bs b o e).1
  have unlim : s.heap.NoLimit := e0.mod.nolimit.keeps fun b o e => (e0.bs b o e).1
  refine codeAny_call_function hr.depth (KX _ _ lk) rfl S.co S.gen rfl (PySem.W.codeRec_of KX hcd) (bd _ _ _ _ ?_)
  refine wpAny_newFunctionEnv_cells S.kind ?_ ?_
  · rintro ⟨n, v⟩ hy
    rcases S.par n (List.of_mem_zip hy).1 with q | q
    · exact .inl q
    · exact .inr ⟨q, PySem.W.cellsFrom_some _ _ _ (.inl q)⟩
  · intro env he s1 x
    subst he
    refine ⟨unlim.keeps x.toInCall.keep, codeAny_func ?_⟩
    obtain ⟨t, ht, hq⟩ := hb cdv A outer s H vs Q E hG (hr.deeper _) pr
    have I0 : Inv (cxOf CX P w K mg base N qual (defScope st) f cdv A outer s H E) [] (start N vs) H s1 := inv_start S hr.hd e0 num rel x
    refine wpAny_mono (ht.run [] s1 (start N vs) H _ I0 hq) (fun fl s' ends => ?_) fun e s' hs => hs
    have done : ∀ {σ' : L2.St} {H' : Hp} {v : V} {u : Value}, Inv (cxOf CX P w K mg base N qual (defScope st) f cdv A outer s H E) [] σ' H' s' → RelV v u → Q v H' → CE outer P w H s Q u s' := by
      intro σ' H' v u J rv q
      exact ⟨v, H', J.os, J.bare, J.base, J.hok, rv, q⟩
    cases fl with
    | ret u =>
      obtain ⟨v, σ', H', J, rv, q⟩ := ends
      exact done J rv q
    | next =>
      obtain ⟨σ', H', J, q⟩ := ends
      exact done (v := V.non) (u := Value.none) J rfl q
    | brk => exact ends.elim fun _ z => z.elim fun _ y => y.2.elim
    | cont => exact ends.elim fun _ z => z.elim fun _ y => y.2.elim
end
section
variable {X : Cx} {CX : CXT} {k : Nat} {f : Addr} {fd : FuncData} {ps : List Str} {sp : Sp} {E : L2.St → XK} {x : Str} {p pos : Pos} {e : Expr} {es : List Expr} {t : TA}
theorem run_fnG {pins : List (Addr × Obj)} {σ : L2.St} {H : Hp} {s : Shared} {Q : VK} {args : Args} {us : List Value} {vs : List V} {E : XK} (F : FnG X.prog X.w X.K X.mg X.base CX k f fd ps sp) (hG : X.A.guards = some []) (hr : Room k X.A) (hb : BindsTo s fd args (ps.zip us))
    (hx : PassesAt CX X σ E) (I : Inv X pins σ H s) (r : Vals vs us) (h : sp vs H Q E) : codeAny (model X.prog X.w) X.A (.call (.ref f) args) (fun r s' => match r with
      | .ok (.ret u) => EP X pins σ Q u s'
      | .ok _ => False
      | .error e => X.xe e s') s := by
  refine codeAny_mono (F.run X.A X.stack s H args us vs Q E hG hr I.env0 hb r h) fun res s' got => ?_
  cases res with
  | error e => exact hx pins H s e s' I got
  | ok fl =>
    cases fl with
    | ret u => exact I.after got
    | next => exact got.elim
    | brk => exact got.elim
    | cont => exact got.elim
theorem call_of {pins : List (Addr × Obj)} {σ : L2.St} {s : Shared} {Q : VK} {args : List Value} {kw : List (Str × Value)} (h : codeAny (model X.prog X.w) X.A (.call (.ref f) ⟨args, kw⟩) (fun r s' => match r with
      | .ok (.ret u) => EP X pins σ Q u s'
      | .ok _ => False
      | .error e => X.xe e s') s) : wpAny (model X.prog X.w) X.A (call (.ref f) args kw) (EP X pins σ Q) X.xe s := by
  refine wpAny_call (codeAny_mono h fun res s' got => ?_)
  cases res with
  | error e => exact got
  | ok fl =>
    cases fl with
    | ret u => exact got
    | next => exact got.elim
    | brk => exact got.elim
    | cont => exact got.elim
def tCallG (sp : Sp) (E : L2.St → XK) (t : TA) : TE := fun σ H Q => t σ H fun vs H1 => sp vs H1 Q (E σ)
theorem pe_callG (F : FnG X.prog X.w X.K X.mg X.base CX k f fd ps sp) (hG : X.A.guards = some []) (hr : Room k X.A) (hg : Gl X x) (hm : X.mg x = some (.ref f)) (hk : PySem.W.keepIn X.K (.ref f) = true) (hb : Binds X.K fd ps []) (hx : ∀ σ, PassesAt CX X σ (E σ))
    (ha : PA X (e :: es) t) (hdb : (x == ("__debug__" : Str)) = false := by decide) (he : starEach (e :: es) X.env = (false, eval e X.env) :: starEach es X.env := by rfl) (hpl : (backTo pos (starEach es X.env)).any (·.1) = false := by rfl) :
    PE X (.Call (.Name x p) (e :: es) [] pos) (tCallG sp E t) := by
  constructor
  intro pins s σ H Q I h
  refine wpAny_Call_Name_kw (ld_glob I hg hm ?_ hdb)
  refine PySem.W.callWith_K (h₀ := X.base) I.ok.mod.kin hk (thn (ha.run pos pins s σ H _ I h) ?_) he hpl
  rintro us s1 ⟨vs, H1, I1, rel, pr⟩
  refine ⟨I1.kIn, call_of (run_fnG F hG hr ?_ (hx σ) I1 rel pr)⟩
  have b := hb s1 us I1.kIn (by rw [List.append_nil, ← rel.length]; exact F.len _ _ _ _ pr)
  rwa [List.append_nil] at b
theorem pe_callG0 (F : FnG X.prog X.w X.K X.mg X.base CX k f fd ps sp) (hG : X.A.guards = some []) (hr : Room k X.A) (hg : Gl X x) (hm : X.mg x = some (.ref f)) (hk : PySem.W.keepIn X.K (.ref f) = true) (hb : Binds X.K fd ps []) (hx : ∀ σ, PassesAt CX X σ (E σ))
    (hdb : (x == ("__debug__" : Str)) = false := by decide) : PE X (.Call (.Name x p) [] [] pos) (tCallG sp E tNil) := by
  constructor
  intro pins s σ H Q I h
  refine wpAny_Call_Name_kw (ld_glob I hg hm ?_ hdb)
  refine PySem.W.callWith_K0 I.kIn hk (call_of (run_fnG F hG hr ?_ (hx σ) I .nil h))
  have b := hb s [] I.kIn (by simpa using F.len _ _ _ _ h)
  rwa [List.append_nil] at b
variable {kws : List Keyword} {ks : List Str} {g : List Value → List Value → List Value} {gV : List V → List V → List V} {tk : TA}
def tCallGK (sp : Sp) (gV : List V → List V → List V) (E : L2.St → XK) (t tk : TA) : TE := fun σ H Q => t σ H fun vs H1 => tk σ H1 fun zs H2 => sp (gV vs zs) H2 Q (E σ)
theorem pe_callGK (F : FnG X.prog X.w X.K X.mg X.base CX k f fd ps sp) (hG : X.A.guards = some []) (hr : Room k X.A) (hg : Gl X x) (hm : X.mg x = some (.ref f)) (hk : PySem.W.keepIn X.K (.ref f) = true) (hb : KBinds X.K fd ps ks g gV) (hx : ∀ σ, PassesAt CX X σ (E σ))
    (ha : PA X (e :: es) t) (hkw : PK X kws tk) (hall : (backToKw pos (keywordEach kws X.env)).all (·.1.isSome) = true := by rfl) (hks : (backToKw pos (keywordEach kws X.env)).filterMap (·.1) = ks := by rfl)
    (hdb : (x == ("__debug__" : Str)) = false := by decide) (he : starEach (e :: es) X.env = (false, eval e X.env) :: starEach es X.env := by rfl)
    (hpl : ((backTo pos (starEach (e :: es) X.env)).any (·.1) || (backToKw pos (keywordEach kws X.env)).any (·.1.isNone)) = false := by rfl) :
    PE X (.Call (.Name x p) (e :: es) kws pos) (tCallGK sp gV E t tk) := by
  constructor
  intro pins s σ H Q I h
  refine wpAny_Call_Name_kw (ld_glob I hg hm ?_ hdb)
  refine PySem.W.callWith_KW (h₀ := X.base) I.ok.mod.kin hk hall (thn (ha.run pos pins s σ H _ I h) ?_) hpl he
  rintro us s1 ⟨vs, H1, I1, rel, q⟩
  refine thn (hkw.run pos pins s1 σ H1 _ I1 q) ?_
  rintro ws s2 ⟨zs, H2, I2, rz, pr⟩
  refine ⟨I2.kIn, ?_⟩
  rw [hks]
  exact call_of (run_fnG F hG hr (hb.to s2 us ws I2.kIn (by rw [← (hb.rel rel rz).length]; exact F.len _ _ _ _ pr)) (hx σ) I2 (hb.rel rel rz) pr)
end
section
variable {X : Cx} {c : Ct} {rf : List Bool} {ξ : Fx} {Y H : Hp} {σ : St} {s : S} {tv : List V} {ts : List OD}

/-- a def's promise: its value is F's; xs: it may raise -/
def spF (K : PySem.W.Frag) (er : Exn → Value → Option Addr → Hp → Prop) (xs : Bool) (n : Nat) (F : List OD → Res OD) : Sp := fun vs H Q E => ∃ ξ Y ods, ξ.K = K ∧ ξ.H0 = H ∧ ξ.Z0 = Y ∧ vs.length = n ∧ FS ξ Y H (vs.map some) (ods.map some) [] [] ∧
  match F ods with
  | .ok o s' => ∀ Y' H' v, Same Y Y' → FS ξ Y' H' (vs.map some) s' [v] [o] → Q v H'
  | .ex e s' => xs = true ∧ ∀ Y' H' cl x, Same Y Y' → FS ξ Y' H' (vs.map some) s' [] [] → er e cl x H' → E cl x H'
  | .bad => False
def keepR : List Bool → S → S
  | b :: bs, x :: xs => (if b = true then x else none) :: keepR bs xs
  | _, _ => []
def mkF (N : Nat) (rf : List Bool) (body : SF) (ods : List OD) : Res OD := match body (ods.map some ++ List.replicate (N - ods.length) none) with
  | .rt o s' => .ok o (keepR rf s')
  | .nx s' => .ok (.fz .none) (keepR rf s')
  | .ex e s' => .ex e (keepR rf s')
  | .bk _ => .bad
  | .ct _ => .bad
  | .bad => .bad
theorem keepR_length : ∀ {rf : List Bool} {s : S}, rf.length ≤ s.length → (keepR rf s).length = rf.length
  | [], _, _ => by simp [keepR]
  | _ :: _, [], h => by simp at h
  | b :: bs, x :: xs, h => by simp [keepR, keepR_length (rf := bs) (s := xs) (by simpa using h)]
theorem keepR_get : ∀ {rf : List Bool} {s : S} {i : Nat} {o : OD}, (keepR rf s)[i]? = some (some o) → rf[i]? = some true ∧ s[i]? = some (some o)
  | [], _, _, _, h => by simp [keepR] at h
  | _ :: _, [], _, _, h => by simp [keepR] at h
  | b :: bs, x :: xs, 0, o, h => by
    cases b <;> simp [keepR] at h ⊢
    exact h
  | b :: bs, x :: xs, i + 1, o, h => by
    simp only [keepR, List.getElem?_cons_succ] at h ⊢
    exact keepR_get h
theorem start_eq (N : List Str) (vs : List V) : start N vs = vs.map some ++ List.replicate (N.length - vs.length) none := rfl
theorem start_FS {N : List Str} {vs : List V} {ods : List OD} (F : FS ξ Y H (vs.map some) (ods.map some) [] []) : FS ξ Y H (start N vs) (ods.map some ++ List.replicate (N.length - ods.length) none) [] [] := by
  obtain ⟨g, R⟩ := F.rel
  have hl : ods.length = vs.length := by have := F.len; simpa using this
  have cutg : ∀ i o, (ods.map some ++ List.replicate (N.length - ods.length) (none : Option OD))[i]? = some (some o) → (ods.map some)[i]? = some (some o) := fun i o e => by
    rw [List.getElem?_append] at e
    split at e
    · exact e
    · rw [List.getElem?_replicate] at e
      split at e <;> cases e
  refine F.re R g (Same.refl _) F.sub (fun a q => .inl q) (fun i a f => ⟨(R.own i a f).2.1, i, f⟩) R.sep (by rw [start_eq]; simp [hl]) rfl (fun i o e => ?_) R.temp
  have e1 := cutg i o e
  obtain ⟨v, hv, r⟩ := R.slot i o e1
  refine ⟨v, ?_, r⟩
  rw [start_eq, List.getElem?_append_left (lt_of_get hv)]
  exact hv
theorem end_FS {N : List Str} {vs : List V} {σ' : St} {s' : S} (F : FS ξ Y H σ' s' tv ts) (k : Keep rf (start N vs) σ') (hn : rf.length = vs.length) : FS ξ Y H (vs.map some) (keepR rf s') tv ts := by
  obtain ⟨g, R⟩ := F.rel
  have hl : s'.length = vs.length + (N.length - vs.length) := by rw [F.len, k.1, start_eq]; simp
  refine F.re R g (Same.refl _) F.sub (fun a q => .inl q) (fun i a f => ⟨(R.own i a f).2.1, i, f⟩) R.sep (by rw [keepR_length (by omega)]; simp [hn]) F.tlen (fun i o e => ?_) R.temp
  obtain ⟨h1, h2⟩ := keepR_get e
  obtain ⟨v, hv, r⟩ := R.slot i o h2
  refine ⟨v, ?_, r⟩
  have hi : i < vs.length := by rw [← hn]; exact lt_of_get h1
  rw [k.2 i h1, start_eq, List.getElem?_append_left (by simpa using hi)] at hv
  exact hv
theorem body_reads {K : PySem.W.Frag} {er : Exn → Value → Option Addr → Hp → Prop} {xs : Bool} {W : L2.WX} {N : List Str} {n : Nat} {body : SF} {vs : List V} {H : Hp} {Q : VK} {E : XK} (hn : rf.length = n) (h : spF K er xs n (mkF N.length rf body) vs H Q E)
    (hW : xs = true → ∀ cl x σ H, E cl x H → W cl x σ H) : tS ⟨K, er, W⟩ rf body { nx := fun _ H' => Q .non H', rt := Q } (start N vs) H := by
  obtain ⟨ξ, Y, ods, hK, h0, hz, hl, F, q⟩ := h
  refine ⟨ξ, Y, _, hK, start_FS F, ?_⟩
  unfold mkF at q
  cases e : body (ods.map some ++ List.replicate (N.length - ods.length) none) with
  | nx s' =>
    rw [e] at q
    exact fun Y' H' σ' e1 k F' => q Y' H' .non e1 ((end_FS F' k (by omega)).pushD .non)
  | rt o s' =>
    rw [e] at q
    exact fun Y' H' σ' v e1 k F' => q Y' H' v e1 (end_FS F' k (by omega))
  | ex x s' =>
    rw [e] at q
    exact fun Y' H' σ' cl z e1 k F' er => hW q.1 _ _ _ _ (q.2 Y' H' cl z e1 (end_FS F' k (by omega)) er)
  | bk s' => rw [e] at q; exact q.elim
  | ct s' => rw [e] at q; exact q.elim
  | bad => rw [e] at q; exact q.elim
end
section
variable {P : Program} {w : World} {K : PySem.W.Frag} {mg : Str → Option Value} {base : Heap} {er : Exn → Value → Option Addr → Hp → Prop}
/-- THE RULE for a def that lets nothing out -/
theorem okF {x qual : Str} {st : Stmt} {f : Addr} {fd : FuncData} {N ps : List Str} {k : Nat} {rf : List Bool} {body : SF} (F : Fun K x qual st f fd) (S : FnScope N ps (defScope st)) (hn : rf.length = ps.length)
    (hb : ∀ (cdv : Value) (A : Around) (outer : List Env) (s : Shared) (H : Hp) (E : XK), A.guards = some [] → Room k (A.deeper (PyProof.Rows.envOfC qual (defScope st) s.heap.objs.size f cdv)) →
      MSs (cxOf CX0 P w K mg base N qual (defScope st) f cdv A outer s H E).nox ⟨K, er, fun _ _ _ _ => False⟩ rf body (defBody st)) :
    FnG P w K mg base CX0 (k + 1) f fd ps (spF K er false ps.length (mkF N.length rf body)) := by
  refine Fun.okG F S (fun vs H Q E h => ?_) (fun cdv A outer s H vs Q E hG hr h => ?_)
  · obtain ⟨_, _, _, _, _, _, hl, _⟩ := h
    exact hl
  · exact ⟨_, (hb cdv A outer s H E hG hr).run.nox, body_reads hn h fun z => nomatch z⟩
end

/-! ### calls -/
section
variable {X : Cx} {c : Ct} {ξ : Fx} {Y H : Hp} {σ : St} {s : S} {tv : List V} {ts : List OD}
inductive ArgsR (K : PySem.W.Frag) (Y : Hp) (σ : St) : List (Option Nat) → List V → List D → Prop
  | nil : ArgsR K Y σ [] [] []
  | val {ks : List (Option Nat)} {v : V} {vs : List V} {d : D} {ds : List D} : Dr K Y v d → ArgsR K Y σ ks vs ds → ArgsR K Y σ (none :: ks) (v :: vs) (d :: ds)
  | ref {ks : List (Option Nat)} {v : V} {vs : List V} {ds : List D} {i : Nat} : σ[i]? = some (some v) → ArgsR K Y σ ks vs ds → ArgsR K Y σ (some i :: ks) (v :: vs) (.none :: ds)
theorem ArgsR.mono {K : PySem.W.Frag} {Y Y' : Hp} {σ : St} {ks : List (Option Nat)} {vs : List V} {ds : List D} (r : ArgsR K Y σ ks vs ds) (e : Same Y Y') : ArgsR K Y' σ ks vs ds := by
  induction r with
  | nil => exact .nil
  | val h _ ih => exact .val (h.mono e) ih
  | ref h _ ih => exact .ref h ih
def tR (c : Ct) (ks : List (Option Nat)) (f : AF) : TA := fun σ H Q => ∃ ξ Y s tv ts, ξ.K = c.K ∧ FS ξ Y H σ s tv ts ∧
  out c ξ Y σ tv ts (fun ds s' => ∀ Y' H' vs, Same Y Y' → FS ξ Y' H' σ s' tv ts → ArgsR c.K Y' σ ks vs ds → Q vs H') (f s)
structure MR (X : Cx) (c : Ct) (ks : List (Option Nat)) (f : AF) (es : List Expr) : Prop where
  run : PA X es (tR c ks f)
theorem tR_seq {β : Type} {ks : List (Option Nat)} {fa : AF} {k : List D → S → Res β} {G : β → S → Prop} {R : List V → Hp → Prop} (hK : ξ.K = c.K) (F : FS ξ Y H σ s tv ts) (h : out c ξ Y σ tv ts G ((fa s).bind k))
    (hR : ∀ ds s1 Y1 H1 vs, Same Y Y1 → FS ξ Y1 H1 σ s1 tv ts → ArgsR c.K Y1 σ ks vs ds → out c ξ Y σ tv ts G (k ds s1) → R vs H1) : tR c ks fa σ H R := by
  refine ⟨ξ, Y, s, tv, ts, hK, F, ?_⟩
  cases e : fa s with
  | ok d s1 => rw [e] at h; exact fun Y1 H1 v e1 F1 r1 => hR d s1 Y1 H1 v e1 F1 r1 h
  | ex x s1 => rw [e] at h; exact h
  | bad => rw [e] at h; exact h
theorem mr_nil : MR X c [] aNil [] := by
  refine ⟨PA.imp pa_nil fun σ H Q q => ?_⟩
  obtain ⟨ξ, Y, s, tv, ts, hK, F, q⟩ := q
  exact q Y H [] (Same.refl _) F .nil
theorem mr_val {ks : List (Option Nat)} {f : EF} {g : AF} {e : Expr} {es : List Expr} (h : ME X c f e) (h2 : MR X c ks g es) (hs : starEach (e :: es) X.env = (false, eval e X.env) :: starEach es X.env := by rfl) : MR X c (none :: ks) (aCons f g) (e :: es) := by
  refine ⟨PA.imp (pa_cons h.run h2.run hs) fun σ H Q q => ?_⟩
  obtain ⟨ξ, Y, s, tv, ts, hK, F, q⟩ := q
  refine tE_seq hK F q fun d s1 Y1 H1 v e1 F1 r1 q1 => ?_
  refine tR_seq hK F1 (out.mono c q1 e1 (fun _ _ z => z)) fun ds s2 Y2 H2 vs e2 F2 r2 q2 => ?_
  exact q2 Y2 H2 (v :: vs) (e1.trans e2) F2 (.val (r1.mono e2) r2)
/-- an object of our own is handed in -/
def aRef (i : Nat) (g : AF) : AF := fun s => match s[i]? with
  | some (some _) => (g s).bind fun ds s => .ok (.none :: ds) s
  | _ => .bad
theorem mr_ref {ks : List (Option Nat)} {i : Nat} {g : AF} {e : Expr} {es : List Expr} (h : PE X e (tVar i)) (h2 : MR X c ks g es) (hs : starEach (e :: es) X.env = (false, eval e X.env) :: starEach es X.env := by rfl) : MR X c (some i :: ks) (aRef i g) (e :: es) := by
  refine ⟨PA.imp (pa_cons h h2.run hs) fun σ H Q q => ?_⟩
  obtain ⟨ξ, Y, s, tv, ts, hK, F, q⟩ := q
  unfold aRef at q
  split at q
  · rename_i o eo
    obtain ⟨g0, R⟩ := F.rel
    obtain ⟨v, hv, _⟩ := R.slot i o eo
    refine ⟨v, hv, ?_⟩
    refine tR_seq hK F q fun ds s2 Y2 H2 vs e2 F2 r2 q2 => ?_
    exact q2 Y2 H2 (v :: vs) e2 F2 (.ref hv r2)
  · exact q.elim
def odsOf : List (Option Nat) → List D → S → Option (List OD)
  | [], [], _ => some []
  | none :: ks, d :: ds, s => (odsOf ks ds s).map fun os => .fz d :: os
  | some i :: ks, _ :: ds, s => match s[i]? with
    | some (some o) => (odsOf ks ds s).map fun os => o :: os
    | _ => none
  | _, _, _ => none
def backR : List (Option Nat) → S → S → S
  | some i :: ks, x :: xs, s => backR ks xs (s.set i x)
  | none :: ks, _ :: xs, s => backR ks xs s
  | _, _, s => s
def oCall (ks : List (Option Nat)) (args : AF) (F : List OD → Res OD) : OF := fun s => (args s).bind fun ds s1 => match odsOf ks ds s1 with
  | none => .bad
  | some ods => match F ods with
    | .ok o s2 => .ok o (backR ks s2 s1)
    | .ex e s2 => .ex e (backR ks s2 s1)
    | .bad => .bad
theorem odsOf_get {K : PySem.W.Frag} {Y : Hp} {σ : St} {s : S} : ∀ {ks : List (Option Nat)} {vs : List V} {ds : List D} {ods : List OD}, ArgsR K Y σ ks vs ds → odsOf ks ds s = some ods → ods.length = vs.length ∧ ks.length = vs.length ∧
    ∀ (j : Nat) (o : OD), ods[j]? = some o → ∃ v, vs[j]? = some v ∧ ((ks[j]? = some none ∧ ∃ d : D, o = OD.fz d ∧ Dr K Y v d) ∨ ∃ i : Nat, ks[j]? = some (some i) ∧ s[i]? = some (some o) ∧ σ[i]? = some (some v))
  | _, _, _, ods, .nil, h => by
    simp only [odsOf, Option.some.injEq] at h
    subst h
    exact ⟨rfl, rfl, fun j o e => by simp at e⟩
  | _, _, _, ods, .val (ks := ks) (vs := vs) (ds := ds) (v := v) (d := d) hd r, h => by
    simp only [odsOf, Option.map_eq_some_iff] at h
    obtain ⟨os, h1, rfl⟩ := h
    obtain ⟨a, b, q⟩ := odsOf_get r h1
    refine ⟨by simp [a], by simp [b], fun j o e => ?_⟩
    cases j with
    | zero =>
      simp at e
      exact ⟨v, rfl, .inl ⟨rfl, d, e.symm, hd⟩⟩
    | succ j => simpa using q j o (by simpa using e)
  | _, _, _, ods, .ref (ks := ks) (vs := vs) (ds := ds) (v := v) (i := i) hv r, h => by
    simp only [odsOf] at h
    split at h
    · rename_i o eo
      simp only [Option.map_eq_some_iff] at h
      obtain ⟨os, h1, rfl⟩ := h
      obtain ⟨a, b, q⟩ := odsOf_get r h1
      refine ⟨by simp [a], by simp [b], fun j o' e => ?_⟩
      cases j with
      | zero =>
        simp at e
        subst e
        exact ⟨v, rfl, .inr ⟨i, rfl, eo, hv⟩⟩
      | succ j => simpa using q j o' (by simpa using e)
    · cases h
def RefsOk (ks : List (Option Nat)) : Prop := ∀ (j j' i : Nat), ks[j]? = some (some i) → ks[j']? = some (some i) → j = j'
theorem RefsOk.tail {k : Option Nat} {ks : List (Option Nat)} (h : RefsOk (k :: ks)) : RefsOk ks := fun j j' i a b => by
  have := h (j + 1) (j' + 1) i (by simpa using a) (by simpa using b)
  omega
theorem refsOk_of : ∀ {ks : List (Option Nat)}, (ks.filterMap id).Nodup → RefsOk ks
  | [], _ => fun j j' i a _ => by simp at a
  | none :: ks, h => fun j j' i a b => by
    have ih := refsOk_of (ks := ks) (by simpa using h)
    cases j with
    | zero => simp at a
    | succ j =>
      cases j' with
      | zero => simp at b
      | succ j' => exact congrArg (· + 1) (ih j j' i (by simpa using a) (by simpa using b))
  | some k :: ks, h => fun j j' i a b => by
    have h2 : k ∉ ks.filterMap id ∧ (ks.filterMap id).Nodup := by simpa using h
    have ih := refsOk_of (ks := ks) h2.2
    have nin : ∀ j : Nat, ks[j]? ≠ some (some k) := fun j e => h2.1 (List.mem_filterMap.mpr ⟨some k, List.mem_of_getElem? e, rfl⟩)
    cases j with
    | zero =>
      cases j' with
      | zero => rfl
      | succ j' =>
        simp at a b
        subst a
        exact (nin j' b).elim
    | succ j =>
      cases j' with
      | zero =>
        simp at a b
        subst b
        exact (nin j a).elim
      | succ j' => exact congrArg (· + 1) (ih j j' i (by simpa using a) (by simpa using b))
theorem backR_length : ∀ {ks : List (Option Nat)} {xs s : S}, (backR ks xs s).length = s.length
  | [], _, _ => by simp [backR]
  | none :: ks, [], _ => by simp [backR]
  | some _ :: ks, [], _ => by simp [backR]
  | none :: ks, x :: xs, s => by simp [backR, backR_length (ks := ks) (xs := xs) (s := s)]
  | some i :: ks, x :: xs, s => by simp [backR, backR_length (ks := ks) (xs := xs) (s := s.set i x)]
theorem backR_other {i : Nat} : ∀ {ks : List (Option Nat)} {xs s : S}, (∀ j : Nat, ks[j]? ≠ some (some i)) → (backR ks xs s)[i]? = s[i]?
  | [], _, _, _ => by simp [backR]
  | none :: ks, [], _, _ => by simp [backR]
  | some _ :: ks, [], _, _ => by simp [backR]
  | none :: ks, x :: xs, s, h => by
    simp only [backR]
    exact backR_other fun j e => h (j + 1) (by simpa using e)
  | some k :: ks, x :: xs, s, h => by
    simp only [backR]
    rw [backR_other fun j e => h (j + 1) (by simpa using e), List.getElem?_set_ne fun e => h 0 (by simp [e])]
theorem backR_at {i : Nat} : ∀ {ks : List (Option Nat)} {xs s : S} {j : Nat} {o : OD}, RefsOk ks → ks[j]? = some (some i) → j < xs.length → (backR ks xs s)[i]? = some (some o) → xs[j]? = some (some o)
  | [], _, _, _, _, _, h, _, _ => by simp at h
  | _ :: _, [], _, _, _, _, _, h, _ => by simp at h
  | none :: ks, x :: xs, s, 0, o, r, h, _, _ => by simp at h
  | none :: ks, x :: xs, s, j + 1, o, r, h, hl, q => by
    simp only [backR] at q
    simpa using backR_at r.tail (by simpa using h) (by simpa using hl) q
  | some k :: ks, x :: xs, s, 0, o, r, h, hl, q => by
    simp at h
    subst h
    simp only [backR] at q
    rw [backR_other fun j e => by
      have := r 0 (j + 1) k (by simp) (by simpa using e)
      omega] at q
    have hk := lt_of_get q
    rw [List.getElem?_set_self (by simpa using hk)] at q
    simpa using q
  | some k :: ks, x :: xs, s, j + 1, o, r, h, hl, q => by
    simp only [backR] at q
    simpa using backR_at r.tail (by simpa using h) (by simpa using hl) q

/-- into the callee, and back -/
theorem FS.enter {ks : List (Option Nat)} {vs : List V} {ds : List D} {ods : List OD} (F : FS ξ Y H σ s tv ts) (ar : ArgsR ξ.K Y σ ks vs ds) (ho : odsOf ks ds s = some ods) (hr : RefsOk ks) :
    ∃ ξ', ξ'.K = ξ.K ∧ ξ'.H0 = H ∧ ξ'.Z0 = Y ∧ FS ξ' Y H (vs.map some) (ods.map some) [] [] ∧
      ∀ Y' H' s' tv' ts', Same Y Y' → FS ξ' Y' H' (vs.map some) s' tv' ts' → FS ξ Y' H' σ (backR ks s' s) (tv ++ tv') (ts ++ ts') := by
  obtain ⟨g, R⟩ := F.rel
  obtain ⟨hl1, hl2, get⟩ := odsOf_get ar ho
  let M : Addr → Prop := fun a => ∃ (j i : Nat), ks[j]? = some (some i) ∧ g (.inl i) a
  refine ⟨⟨ξ.K, H, Y, M⟩, rfl, rfl, rfl, ⟨F.sub, Same.refl _, fun a h => .inl h, fun a o h _ => h, fun a h => h, by simp [hl1], rfl, fun k a => ∃ (j i : Nat), k = .inl j ∧ ks[j]? = some (some i) ∧ g (.inl i) a, fun j o e => ?_, fun j o e => by simp at e, ?_, ?_⟩, ?_⟩
  · rw [List.getElem?_map, Option.map_eq_some_iff] at e
    obtain ⟨o', e, e'⟩ := e
    cases e'
    obtain ⟨v, hv, h | ⟨i, h1, h2, h3⟩⟩ := get j o e
    · obtain ⟨h1, d, rfl, h2⟩ := h
      refine ⟨v, by rw [List.getElem?_map, hv]; rfl, (RO.fz h2).iff fun a => ⟨fun z => z.elim, fun z => ?_⟩⟩
      obtain ⟨j', i', z1, z2, _⟩ := z
      cases z1
      rw [h1] at z2; cases z2
    · obtain ⟨v', hv', r⟩ := R.slot i o h2
      rw [h3] at hv'
      cases hv'
      refine ⟨v, by rw [List.getElem?_map, hv]; rfl, r.iff fun a => ⟨fun z => ⟨j, i, rfl, h1, z⟩, fun z => ?_⟩⟩
      obtain ⟨j', i', z1, z2, z3⟩ := z
      cases z1
      rw [h1] at z2; cases z2
      exact z3
  · rintro k a ⟨j, i, rfl, h1, h2⟩
    obtain ⟨q1, q2, _⟩ := R.own _ a h2
    exact ⟨q1, q2, .inr ⟨j, i, h1, h2⟩⟩
  · rintro k l a ⟨j, i, rfl, h1, h2⟩ ⟨j', i', rfl, h1', h2'⟩
    have e : i = i' := Sum.inl.inj (R.sep _ _ _ h2 h2')
    subst e
    rw [hr j j' i h1 h1']
  · intro Y' H' s' tv' ts' hy F'
    obtain ⟨g', R'⟩ := F'.rel
    have hsl : s'.length = vs.length := by rw [F'.len]; simp
    have own_of : ∀ a, M a → H a ≠ none ∧ Y a = none ∧ (ξ.H0 a = none ∨ ξ.ma a) := by
      rintro a ⟨j, i, _, z⟩
      exact R.own _ a z
    have kk : ∀ i a, g i a → ¬ M a → H' a = H a := fun i a z nm => by
      cases e : H a with
      | none => exact ((R.own i a z).1 e).elim
      | some u => exact F'.keep a u e nm
    let up : Nat ⊕ Nat → Nat ⊕ Nat → Prop := fun i' i => match i', i with
      | .inl j, .inl i => ks[j]? = some (some i)
      | .inr j, .inr k => k = j + ts.length
      | _, _ => False
    let A : Nat ⊕ Nat → Prop := fun i => (∃ (j n : Nat), i = .inl n ∧ ks[j]? = some (some n)) ∨ ∃ j, i = .inr (j + ts.length)
    have upI : ∀ i' i'' i, up i' i → up i'' i → i' = i'' := by
      rintro (j | j) (k | k) (i | i) h h'
      · exact congrArg Sum.inl (hr j k i h h')
      all_goals first | exact h.elim | exact h'.elim | skip
      have h : i = j + ts.length := h
      have h' : i = k + ts.length := h'
      exact congrArg Sum.inr (by omega)
    have upO : ∀ i' i i2, up i' i → up i' i2 → i = i2 := by
      rintro (j | j) (k | k) (i | i) h h'
      · have h : ks[j]? = some (some k) := h
        have h' : ks[j]? = some (some i) := h'
        rw [h] at h'; cases h'; rfl
      all_goals first | exact h.elim | exact h'.elim | skip
      have h : k = j + ts.length := h
      have h' : i = j + ts.length := h'
      exact congrArg Sum.inr (by omega)
    let g2 : Own := fun i a => (A i ∧ ∃ i', up i' i ∧ g' i' a) ∨ (¬ A i ∧ g i a)
    have notM : ∀ i a, ¬ A i → g i a → ¬ M a := by
      rintro i a nA z ⟨j, n, q1, q2⟩
      have e := R.sep _ _ _ z q2
      subst e
      exact nA (.inl ⟨j, n, rfl, q1⟩)
    have old : ∀ i a, ¬ A i → g i a → H' a = H a := fun i a nA z => kk i a z (notM i a nA z)
    refine ⟨F'.sub, F.z0.trans hy, fun a h => ?_, fun a o h m => ?_, fun a h => F'.live a (F.live a h), by rw [backR_length, F.len], by rw [List.length_append, List.length_append, F.tlen, F'.tlen], g2, fun i o e => ?_, fun j o e => ?_, fun i a z => ?_, fun i j a z z' => ?_⟩
    · rcases F'.fresh a h with q | q | q
      · exact F.fresh a q
      · by_cases m : ξ.H0 a = none
        · exact .inr (.inl m)
        · exact (F.live a m q).elim
      · exact .inr (own_of a q).2.2
    · refine F'.keep a o (F.keep a o h m) fun z => ?_
      rcases (own_of a z).2.2 with q | q
      · rw [q] at h; cases h
      · exact m q
    · by_cases hA : ∃ j : Nat, ks[j]? = some (some i)
      · obtain ⟨j, hj⟩ := hA
        have e1 := backR_at hr hj (by rw [hsl, ← hl2]; exact lt_of_get hj) e
        obtain ⟨v, hv, r⟩ := R'.slot j o e1
        have hA' : A (.inl i) := .inl ⟨j, i, rfl, hj⟩
        have hvi : σ[i]? = some (some v) := by
          rw [List.getElem?_map, Option.map_eq_some_iff] at hv
          obtain ⟨v', hv, e'⟩ := hv
          cases e'
          have hjo : j < ods.length := by rw [hl1]; exact lt_of_get hv
          obtain ⟨v2, q1, q2 | ⟨i2, q2, _, q3⟩⟩ := get j _ (List.getElem?_eq_getElem hjo)
          · rw [hj] at q2; cases q2.1
          · rw [hj] at q2; cases q2
            rw [hv] at q1; cases q1
            exact q3
        exact ⟨v, hvi, r.iff fun a => ⟨fun z => .inl ⟨hA', .inl j, hj, z⟩, fun z => z.elim (fun w => by
          obtain ⟨_, i', e', w⟩ := w
          have : i' = .inl j := upI _ _ (.inl i) e' hj
          subst this
          exact w) fun w => (w.1 hA').elim⟩⟩
      · have hn : ∀ j : Nat, ks[j]? ≠ some (some i) := fun j e => hA ⟨j, e⟩
        rw [backR_other hn] at e
        obtain ⟨v, hv, r⟩ := R.slot i o e
        have nA : ¬ A (.inl i) := by
          rintro (⟨j, n, q, z⟩ | ⟨j, q⟩)
          · cases q; exact hn j z
          · cases q
        exact ⟨v, hv, (r.mono hy fun a z => old _ a nA z).iff fun a => ⟨fun z => .inr ⟨nA, z⟩, fun z => z.elim (fun w => (nA w.1).elim) fun w => w.2⟩⟩
    · by_cases hj : j < ts.length
      · rw [List.getElem?_append_left hj] at e
        obtain ⟨v, hv, r⟩ := R.temp j o e
        have nA : ¬ A (.inr j) := by
          rintro (⟨_, _, q, _⟩ | ⟨l, q⟩)
          · cases q
          · have : j = l + ts.length := Sum.inr.inj q
            omega
        exact ⟨v, by rw [List.getElem?_append_left (by have := F.tlen; omega)]; exact hv, (r.mono hy fun a z => old _ a nA z).iff fun a => ⟨fun z => .inr ⟨nA, z⟩, fun z => z.elim (fun w => (nA w.1).elim) fun w => w.2⟩⟩
      · rw [List.getElem?_append_right (by omega)] at e
        obtain ⟨v, hv, r⟩ := R'.temp (j - ts.length) o e
        have hA : A (.inr j) := .inr ⟨j - ts.length, by congr 1; omega⟩
        have hu : up (.inr (j - ts.length)) (.inr j) := by
          show j = j - ts.length + ts.length
          omega
        exact ⟨v, by rw [List.getElem?_append_right (by have := F.tlen; omega), ← F.tlen]; exact hv, r.iff fun a => ⟨fun z => .inl ⟨hA, .inr (j - ts.length), hu, z⟩, fun z => z.elim (fun w => by
          obtain ⟨_, i', e', w⟩ := w
          have : i' = .inr (j - ts.length) := upI _ _ _ e' hu
          subst this
          exact w) fun w => (w.1 hA).elim⟩⟩
    · rcases z with ⟨hA, i', _, z⟩ | ⟨nA, z⟩
      · obtain ⟨h1, h2, h3⟩ := R'.own i' a z
        refine ⟨h1, h2, ?_⟩
        rcases h3 with h3 | h3
        · by_cases m : ξ.H0 a = none
          · exact .inl m
          · exact (F.live a m h3).elim
        · exact (own_of a h3).2.2
      · obtain ⟨h1, h2, h3⟩ := R.own i a z
        refine ⟨by rw [old i a nA z]; exact h1, ?_, h3⟩
        cases e : Y' a with
        | none => rfl
        | some u =>
          rcases F'.fresh a (by rw [e]; simp) with w | w | w
          · exact (w h2).elim
          · exact (h1 w).elim
          · exact (notM i a nA z w).elim
    · have mixed : ∀ i j, g' i a → ¬ A j → g j a → False := fun i j z nA z' => by
        rcases (R'.own i a z).2.2 with w | w
        · exact (R.own j a z').1 w
        · exact notM j a nA z' w
      rcases z with ⟨hA, i', e', z⟩ | ⟨nA, z⟩
      · rcases z' with ⟨hA', j', e2', z'⟩ | ⟨nA', z'⟩
        · have : i' = j' := R'.sep _ _ _ z z'
          subst this
          exact upO _ _ _ e' e2'
        · exact (mixed _ _ z nA' z').elim
      · rcases z' with ⟨hA', j', e2', z'⟩ | ⟨nA', z'⟩
        · exact (mixed _ _ z' nA z).elim
        · exact R.sep _ _ _ z z'

theorem call_core {ks : List (Option Nat)} {g : AF} {F : List OD → Res OD} {xs : Bool} {n : Nat} {σ : St} {H : Hp} {Q : VK} (hr : RefsOk ks) (hn : ks.length = n) (q : tO c (oCall ks g F) σ H Q) :
    tR c ks g σ H fun vs H1 => spF c.K c.er true n F vs H1 Q (fun cl x H => c.W cl x σ H) := by
  obtain ⟨ξ, Y, s, tv, ts, hK, Fr, q⟩ := q
  refine tR_seq hK Fr q fun ds s1 Y1 H1 vs e1 F1 r1 q1 => ?_
  cases eo : odsOf ks ds s1 with
  | none => rw [eo] at q1; exact q1.elim
  | some ods =>
    rw [eo] at q1
    obtain ⟨ξ', hK', h0, hz, F2, back⟩ := F1.enter (hK ▸ r1) eo hr
    refine ⟨ξ', Y1, ods, hK'.trans hK, h0, hz, by rw [← (odsOf_get r1 eo).2.1]; exact hn, F2, ?_⟩
    simp only at q1
    cases ef : F ods with
    | ok o s2 =>
      rw [ef] at q1
      exact fun Y3 H3 v e3 F3 => q1 Y3 H3 v (e1.trans e3) (back Y3 H3 s2 [v] [o] e3 F3)
    | ex x s2 =>
      rw [ef] at q1
      refine ⟨rfl, fun Y3 H3 cl z e3 F3 er => ?_⟩
      have F4 := back Y3 H3 s2 [] [] e3 F3
      rw [List.append_nil, List.append_nil] at F4
      exact q1 Y3 H3 cl z (e1.trans e3) F4 er
    | bad => rw [ef] at q1; exact q1.elim
def noexF (F : List OD → Res OD) : List OD → Res OD := fun os => (F os).noex
theorem spF_noex {K : PySem.W.Frag} {er : Exn → Value → Option Addr → Hp → Prop} {n : Nat} {F : List OD → Res OD} {vs : List V} {H : Hp} {Q : VK} {E : XK} (h : spF K er true n (noexF F) vs H Q E) : spF K er false n F vs H Q E := by
  obtain ⟨ξ, Y, ods, a, b, c, d, f, q⟩ := h
  refine ⟨ξ, Y, ods, a, b, c, d, f, ?_⟩
  unfold noexF at q
  cases e : F ods with
  | ok o s => rw [e] at q; exact q
  | ex x s => rw [e] at q; exact q.elim
  | bad => rw [e] at q; exact q.elim
variable {CX : CXT} {k : Nat} {f : Addr} {fd : FuncData} {ps : List Str} {x : Str} {p pos : Pos} {e : Expr} {es : List Expr} {F : List OD → Res OD} {n : Nat} {ks : List (Option Nat)} {g : AF}
theorem tR_imp {σ : St} {H : Hp} {R R' : List V → Hp → Prop} (h : tR c ks g σ H R) (i : ∀ vs H, R vs H → R' vs H) : tR c ks g σ H R' := by
  obtain ⟨ξ, Y, s, tv, ts, hK, Fr, q⟩ := h
  exact ⟨ξ, Y, s, tv, ts, hK, Fr, out.mono c q (Same.refl _) fun ds s z Y' H' vs a b d => i vs H' (z Y' H' vs a b d)⟩
/-- a call of a def that raises nothing -/
theorem mo_call (Fo : FnG X.prog X.w X.K X.mg X.base CX0 k f fd ps (spF c.K c.er false n F)) (hG : X.A.guards = some []) (hr : Room k X.A) (hg : Gl X x) (hm : X.mg x = some (.ref f)) (hk : PySem.W.keepIn X.K (.ref f) = true) (hb : Binds X.K fd ps []) (ha : MR X c ks g (e :: es))
    (hn : ks.length = n := by rfl) (hrf : (ks.filterMap id).Nodup := by decide) (hdb : (x == ("__debug__" : Str)) = false := by decide) (he : starEach (e :: es) X.env = (false, eval e X.env) :: starEach es X.env := by rfl) (hpl : (backTo pos (starEach es X.env)).any (·.1) = false := by rfl) :
    MO X c (oCall ks g (noexF F)) (.Call (.Name x p) (e :: es) [] pos) := by
  refine ⟨PE.imp (pe_callG (E := fun σ cl x H => False) Fo hG hr hg hm hk hb (fun σ => fun _ _ _ _ _ _ z => z.elim) ha.run hdb he hpl) fun σ H Q q => ?_⟩
  refine tR_imp (call_core (xs := true) (refsOk_of hrf) hn q) fun vs H1 h => ?_
  have h2 := spF_noex h
  obtain ⟨ξ, Y, ods, a1, b1, c1, d1, f1, q1⟩ := h2
  refine ⟨ξ, Y, ods, a1, b1, c1, d1, f1, ?_⟩
  cases ef : F ods with
  | ok o s => rw [ef] at q1; exact q1
  | ex x s => rw [ef] at q1; exact (nomatch q1.1)
  | bad => rw [ef] at q1; exact q1
theorem mo_call0 (Fo : FnG X.prog X.w X.K X.mg X.base CX0 k f fd ps (spF c.K c.er false 0 F)) (hG : X.A.guards = some []) (hr : Room k X.A) (hg : Gl X x) (hm : X.mg x = some (.ref f)) (hk : PySem.W.keepIn X.K (.ref f) = true) (hb : Binds X.K fd ps [])
    (hdb : (x == ("__debug__" : Str)) = false := by decide) : MO X c (oCall [] aNil (noexF F)) (.Call (.Name x p) [] [] pos) := by
  refine ⟨PE.imp (pe_callG0 (E := fun σ cl x H => False) Fo hG hr hg hm hk hb (fun σ => fun _ _ _ _ _ _ z => z.elim) hdb) fun σ H Q q => ?_⟩
  have h := call_core (xs := true) (n := 0) (refsOk_of (ks := []) (by decide)) rfl q
  obtain ⟨ξ, Y, s, tv, ts, hK, Fr, q⟩ := h
  have h2 := spF_noex (q Y H [] (Same.refl _) Fr .nil)
  obtain ⟨ξ, Y, ods, a1, b1, c1, d1, f1, q1⟩ := h2
  refine ⟨ξ, Y, ods, a1, b1, c1, d1, f1, ?_⟩
  cases ef : F ods with
  | ok o s => rw [ef] at q1; exact q1
  | ex x s => rw [ef] at q1; exact (nomatch q1.1)
  | bad => rw [ef] at q1; exact q1
/-- a call with keywords: the values handed in are data; perm puts them in the parameters' order -/
def oCallK (g h : AF) (perm : List D → List D → List D) (F : List OD → Res OD) : OF := fun s => (g s).bind fun ds s1 => (h s1).bind fun es s2 => match F ((perm ds es).map .fz) with
  | .ok o _ => .ok o s2
  | _ => .bad
structure MK (X : Cx) (c : Ct) (f : AF) (kws : List Keyword) : Prop where
  run : PK X kws (tA c f)
theorem mk_nil : MK X c aNil [] := by
  refine ⟨⟨fun pos pins s σ H Q I q => pk_nil.run pos pins s σ H Q I ?_⟩⟩
  obtain ⟨ξ, Y, s, tv, ts, hK, F, q⟩ := q
  exact q Y H [] (Same.refl _) F .nil
theorem mk_cons {f : EF} {g : AF} {e : Expr} {nm : Option Str} {kpos : Pos} {kws : List Keyword} (h : ME X c f e) (h2 : MK X c g kws) : MK X c (aCons f g) (⟨nm, e, kpos⟩ :: kws) := by
  refine ⟨⟨fun pos pins s σ H Q I q => (pk_cons h.run h2.run).run pos pins s σ H Q I ?_⟩⟩
  obtain ⟨ξ, Y, s, tv, ts, hK, F, q⟩ := q
  refine tE_seq hK F q fun d s1 Y1 H1 v e1 F1 r1 q1 => ?_
  refine tA_seq hK F1 (out.mono c q1 e1 (fun _ _ z => z)) fun ds s2 Y2 H2 vs e2 F2 r2 q2 => ?_
  exact q2 Y2 H2 (v :: vs) (e1.trans e2) F2 (.cons (r1.mono e2) r2)
theorem FS.enterD {vs : List V} {ds : List D} (F : FS ξ Y H σ s tv ts) (r : DrAll ξ.K Y vs ds) : ∃ ξ', ξ'.K = ξ.K ∧ ξ'.H0 = H ∧ ξ'.Z0 = Y ∧ FS ξ' Y H (vs.map some) ((ds.map OD.fz).map some) [] [] ∧
      ∀ Y' H' s' tv' ts', Same Y Y' → FS ξ' Y' H' (vs.map some) s' tv' ts' → FS ξ Y' H' σ s (tv ++ tv') (ts ++ ts') := by
  have ar : ∀ {vs : List V} {ds : List D}, DrAll ξ.K Y vs ds → ArgsR ξ.K Y σ (ds.map fun _ => none) vs ds ∧ odsOf (ds.map fun _ => none) ds s = some (ds.map OD.fz) := by
    intro vs ds r
    induction ds generalizing vs with
    | nil => cases r; exact ⟨.nil, rfl⟩
    | cons d ds ih =>
      cases r with
      | cons a b => exact ⟨.val a (ih b).1, by simp [odsOf, (ih b).2]⟩
  have none_ : ∀ (ds : List D) (xs s : S), backR (ds.map fun _ => none) xs s = s := by
    intro ds
    induction ds with
    | nil => intro xs s; simp [backR]
    | cons d ds ih =>
      intro xs s
      cases xs with
      | nil => simp [backR]
      | cons x xs => simpa [backR] using ih xs s
  have hr : RefsOk (ds.map fun _ => (none : Option Nat)) := fun j j' i a _ => by
    rw [List.getElem?_map] at a
    cases e : ds[j]? with
    | none => rw [e] at a; cases a
    | some _ => rw [e] at a; cases a
  obtain ⟨ξ', a, b, c, d, e⟩ := F.enter (ar r).1 (ar r).2 hr
  refine ⟨ξ', a, b, c, d, fun Y' H' s' tv' ts' h1 h2 => ?_⟩
  have := e Y' H' s' tv' ts' h1 h2
  rwa [none_] at this
theorem mo_callK {k2 : List Str} {gv : List Value → List Value → List Value} {gV : List V → List V → List V} {perm : List D → List D → List D} {h : AF} {kws : List Keyword} (Fo : FnG X.prog X.w X.K X.mg X.base CX0 k f fd ps (spF c.K c.er false n F)) (hG : X.A.guards = some []) (hr : Room k X.A) (hg : Gl X x) (hm : X.mg x = some (.ref f)) (hk : PySem.W.keepIn X.K (.ref f) = true)
    (hb : KBinds X.K fd ps k2 gv gV) (hperm : ∀ (Y : Hp) vs ds ws es, DrAll c.K Y vs ds → DrAll c.K Y ws es → (gV vs ws).length = n ∧ DrAll c.K Y (gV vs ws) (perm ds es)) (ha : MA X c g (e :: es)) (hkw : MK X c h kws)
    (hall : (backToKw pos (keywordEach kws X.env)).all (·.1.isSome) = true := by rfl) (hks : (backToKw pos (keywordEach kws X.env)).filterMap (·.1) = k2 := by rfl)
    (hdb : (x == ("__debug__" : Str)) = false := by decide) (he : starEach (e :: es) X.env = (false, eval e X.env) :: starEach es X.env := by rfl)
    (hpl : ((backTo pos (starEach (e :: es) X.env)).any (·.1) || (backToKw pos (keywordEach kws X.env)).any (·.1.isNone)) = false := by rfl) :
    MO X c (oCallK g h perm F) (.Call (.Name x p) (e :: es) kws pos) := by
  refine ⟨PE.imp (pe_callGK (E := fun σ cl x H => False) Fo hG hr hg hm hk hb (fun σ => fun _ _ _ _ _ _ z => z.elim) ha.run hkw.run hall hks hdb he hpl) fun σ H Q q => ?_⟩
  obtain ⟨ξ, Y, s, tv, ts, hK, Fr, q⟩ := q
  refine tA_seq hK Fr q fun ds s1 Y1 H1 vs e1 F1 r1 q1 => ?_
  refine tA_seq hK F1 (out.mono c q1 e1 (fun _ _ z => z)) fun es s2 Y2 H2 ws e2 F2 r2 q2 => ?_
  obtain ⟨l1, r3⟩ := hperm Y2 vs ds ws es (r1.mono e2) r2
  obtain ⟨ξ', a1, b1, c1, d1, back⟩ := F2.enterD (hK ▸ r3)
  refine ⟨ξ', Y2, (perm ds es).map OD.fz, a1.trans hK, b1, c1, l1, d1, ?_⟩
  cases ef : F ((perm ds es).map OD.fz) with
  | ok o s3 =>
    rw [ef] at q2
    exact fun Y3 H3 v e3 F3 => q2 Y3 H3 v ((e1.trans e2).trans e3) (back Y3 H3 s3 [v] [o] e3 F3)
  | ex x s3 => rw [ef] at q2; exact q2.elim
  | bad => rw [ef] at q2; exact q2.elim
end
end MI

set_option Elab.async false
set_option linter.all false
set_option autoImplicit false
set_option maxRecDepth 100000
/-! MI: what the operators and built-ins do to data. -/
namespace MI
open PySem PySem.Spec L2
section
variable {X : Cx} {c : Ct} {K : PySem.W.Frag}

/-! ### links -/
theorem OpL.or {r r' : R2} {F F' : D → D → Option OD} (h : OpL K r F) (h' : OpL K r' F') : OpL K (orR r r') (fun a b => (F a b).or (F' a b)) := fun Y H Q x y a b o e ra rb q g => by
  have q : (F a b).or (F' a b) = some o := q
  cases ef : F a b with
  | some z =>
    rw [ef] at q
    cases q
    exact .inl (h Y H Q x y a b o e ra rb ef g)
  | none =>
    rw [ef] at q
    exact .inr (h' Y H Q x y a b o e ra rb (by simpa using q) g)
theorem CmpL.or {r r' : R2} {F F' : D → D → Option Bool} (h : CmpL K r F) (h' : CmpL K r' F') : CmpL K (orR r r') (fun a b => (F a b).or (F' a b)) := fun Y H Q x y a b k e ra rb q g => by
  have q : (F a b).or (F' a b) = some k := q
  cases ef : F a b with
  | some z =>
    rw [ef] at q
    cases q
    exact .inl (h Y H Q x y a b k e ra rb ef g)
  | none =>
    rw [ef] at q
    exact .inr (h' Y H Q x y a b k e ra rb (by simpa using q) g)

/-! ### + -/
def addI : D → D → Option OD
  | .int i, .int j => some (.fz (.int (i + j)))
  | _, _ => none
def addT : D → D → Option OD
  | .tuple xs, .tuple ys => if xs.length + ys.length ≤ sizeLine then some (.fz (.tuple (xs ++ ys))) else none
  | _, _ => none
def addLs : D → D → Option OD
  | .list xs, .list ys => if xs.length + ys.length ≤ sizeLine then some (.ol (xs ++ ys)) else none
  | _, _ => none
def addS : D → D → Option OD
  | .str x, .str y => if x.length + y.length ≤ sizeLine then some (.fz (.str (x ++ y))) else none
  | _, _ => none
theorem addI_ok : OpL K (rI0 fun i j => .int (i + j)) addI := fun Y H Q x y a b o e ra rb q g => by
  unfold addI at q
  split at q
  · cases q
    rw [ra.int_inv, rb.int_inv]
    exact ⟨_, _, rfl, rfl, g _ _ _ (.old (.int _))⟩
  · cases q
theorem addT_ok : OpL K (rCatA K) addT := fun Y H Q x y a b o e ra rb q g => by
  unfold addT at q
  split at q
  · rename_i xs ys
    split at q
    · rename_i hl
      cases q
      obtain ⟨p, us, rfl, h1, d1⟩ := ra.tuple_inv
      obtain ⟨p2, ws, rfl, h2, d2⟩ := rb.tuple_inv
      refine ⟨p, p2, us, ws, rfl, rfl, Same.sqt e h1, Same.sqt e h2, by rw [d1.length, d2.length]; exact hl, fun z => ?_, fun _ z => ?_, fun _ _ n hn => g _ _ _ (.tup hn (d1.append d2))⟩
      · subst z
        cases d1
        exact g _ _ _ (.old rb)
      · subst z
        cases d2
        rw [List.append_nil] at g
        exact g _ _ _ (.old ra)
    · cases q
  · cases q
theorem addL_ok : OpL K rCat addLs := fun Y H Q x y a b o e ra rb q g => by
  unfold addLs at q
  split at q
  · split at q
    · rename_i hl
      cases q
      obtain ⟨p, us, rfl, h1, d1⟩ := ra.list_inv
      obtain ⟨p2, ws, rfl, h2, d2⟩ := rb.list_inv
      exact ⟨p, p2, us, ws, rfl, rfl, e _ _ h1, e _ _ h2, by rw [d1.length, d2.length]; exact hl, fun n hn => g _ _ _ (.lst hn (d1.append d2))⟩
    · cases q
  · cases q
theorem addS_ok : OpL K (fun x y H Q => ∃ i j, x = .str i ∧ y = .str j ∧ i.length + j.length ≤ sizeLine ∧ Q (.str (i ++ j)) H) addS := fun Y H Q x y a b o e ra rb q g => by
  unfold addS at q
  split at q
  · split at q
    · rename_i hl
      cases q
      rw [ra.str_inv, rb.str_inv]
      exact ⟨_, _, rfl, rfl, hl, g _ _ _ (.old (.str _))⟩
    · cases q
  · cases q
def addD (a b : D) : Option OD := (addI a b).or ((addT a b).or ((addLs a b).or (addS a b)))
variable {fa fb : EF} {a b : Expr} {pos : Pos}
theorem mo_add (hXK : X.K = c.K) (ha : ME X c fa a) (hb : ME X c fb b) : MO X c (oOp2 addD fa fb) (.BinOp a .Add b pos) :=
  mo_op2 (OpR.or op_add (OpR.or (hXK ▸ op_catA) (OpR.or op_cat op_add_str))) (addI_ok.or (addT_ok.or (addL_ok.or addS_ok))) ha hb
/-! ### - * % // ** -/
def subD : D → D → Option OD
  | .int i, .int j => some (.fz (.int (i - j)))
  | _, _ => none
theorem mo_sub (ha : ME X c fa a) (hb : ME X c fb b) : MO X c (oOp2 subD fa fb) (.BinOp a .Sub b pos) :=
  mo_op2 op_sub (fun Y H Q x y a b o e ra rb q g => by
    unfold subD at q
    split at q
    · cases q
      rw [ra.int_inv, rb.int_inv]
      exact ⟨_, _, rfl, rfl, g _ _ _ (.old (.int _))⟩
    · cases q) ha hb
def mulI : D → D → Option OD
  | .int i, .int j => if i.natAbs.log2 + j.natAbs.log2 < 1000000 then some (.fz (.int (i * j))) else none
  | _, _ => none
def mulL : D → D → Option OD
  | .list xs, .int k => if -(2 ^ 63) ≤ k ∧ k < 2 ^ 63 ∧ xs.length * k.toNat ≤ sizeLine then some (.ol (List.replicate k.toNat xs).flatten) else none
  | _, _ => none
theorem DrAll.rep {Y : Hp} {vs : List V} {ds : List D} (h : DrAll K Y vs ds) : ∀ n : Nat, DrAll K Y (List.replicate n vs).flatten (List.replicate n ds).flatten
  | 0 => .nil
  | n + 1 => by
    rw [List.replicate_succ, List.replicate_succ, List.flatten_cons, List.flatten_cons]
    exact h.append (h.rep n)
def mulT : D → D → Option OD
  | .tuple xs, .int k => if xs.isEmpty = false ∧ 2 ≤ k ∧ k ≤ 1000 ∧ xs.length ≤ 1000 then some (.fz (.tuple (List.replicate k.toNat xs).flatten)) else none
  | _, _ => none
def mulD (a b : D) : Option OD := (mulI a b).or ((mulL a b).or (mulT a b))
theorem mo_mul (hXK : X.K = c.K) (ha : ME X c fa a) (hb : ME X c fb b) : MO X c (oOp2 mulD fa fb) (.BinOp a .Mult b pos) :=
  mo_op2 (OpR.or op_mulW (OpR.or op_rep (hXK ▸ op_repT))) (OpL.or (fun Y H Q x y a b o e ra rb q g => by
    unfold mulI at q
    split at q
    · split at q
      · rename_i hl
        cases q
        rw [ra.int_inv, rb.int_inv]
        exact ⟨_, _, rfl, rfl, hl, g _ _ _ (.old (.int _))⟩
      · cases q
    · cases q) (OpL.or (fun Y H Q x y a b o e ra rb q g => by
    unfold mulL at q
    split at q
    · split at q
      · rename_i hl
        cases q
        obtain ⟨p, us, rfl, h1, d1⟩ := ra.list_inv
        rw [rb.int_inv]
        exact ⟨p, _, us, rfl, rfl, e _ _ h1, hl.1, hl.2.1, by rw [d1.length]; exact hl.2.2, fun n hn => g _ _ _ (.lst hn (d1.rep _))⟩
      · cases q
    · cases q) (fun Y H Q x y a b o e ra rb q g => by
    unfold mulT at q
    split at q
    · split at q
      · rename_i xs k hl
        cases q
        obtain ⟨p, us, rfl, h1, d1⟩ := ra.tuple_inv
        rw [rb.int_inv]
        refine ⟨p, _, us, rfl, rfl, Same.sqt e h1, ?_, hl.2.1, hl.2.2.1, by rw [d1.length]; exact hl.2.2.2, fun n hn => g _ _ _ (.tup hn (d1.rep _))⟩
        rintro rfl
        cases d1
        simp at hl
      · cases q
    · cases q))) ha hb
def modD : D → D → Option OD
  | .int i, .int j => if 0 < j then some (.fz (.int (i % j))) else none
  | _, _ => none
theorem mo_mod (ha : ME X c fa a) (hb : ME X c fb b) : MO X c (oOp2 modD fa fb) (.BinOp a .Mod b pos) :=
  mo_op2 op_mod (fun Y H Q x y a b o e ra rb q g => by
    unfold modD at q
    split at q
    · split at q
      · rename_i hl
        cases q
        rw [ra.int_inv, rb.int_inv]
        exact ⟨_, _, rfl, rfl, hl, g _ _ _ (.old (.int _))⟩
      · cases q
    · cases q) ha hb
def fdivD : D → D → Option OD
  | .int i, .int j => if 0 < j ∧ j.natAbs.log2 < 9000 then some (.fz (.int (i / j))) else none
  | _, _ => none
theorem mo_fdiv (ha : ME X c fa a) (hb : ME X c fb b) : MO X c (oOp2 fdivD fa fb) (.BinOp a .FloorDiv b pos) :=
  mo_op2 op_fdivW (fun Y H Q x y a b o e ra rb q g => by
    unfold fdivD at q
    split at q
    · split at q
      · rename_i hl
        cases q
        rw [ra.int_inv, rb.int_inv]
        exact ⟨_, _, rfl, rfl, hl, g _ _ _ (.old (.int _))⟩
      · cases q
    · cases q) ha hb
def CPowW (i j : Int) : Prop := 0 ≤ j ∧ (Builtin.Int.intBits i : Int) * j ≤ 2 ^ 27
instance (i j : Int) : Decidable (CPowW i j) := inferInstanceAs (Decidable (_ ∧ _))
theorem op_powW : OpR X (binaryOp .Pow) (rI CPowW fun i j => .int (i ^ j.toNat)) := opI fun _ _ _ _ _ _ _ hc q => PyProof.Rows.pow_int hc.1 hc.2 q
def powD : D → D → Option OD
  | .int i, .int j => if CPowW i j then some (.fz (.int (i ^ j.toNat))) else none
  | _, _ => none
theorem mo_pow (ha : ME X c fa a) (hb : ME X c fb b) : MO X c (oOp2 powD fa fb) (.BinOp a .Pow b pos) :=
  mo_op2 op_powW (fun Y H Q x y a b o e ra rb q g => by
    unfold powD at q
    split at q
    · split at q
      · rename_i hl
        cases q
        rw [ra.int_inv, rb.int_inv]
        exact ⟨_, _, rfl, rfl, hl, g _ _ _ (.old (.int _))⟩
      · cases q
    · cases q) ha hb
def negD : D → Option OD
  | .int i => some (.fz (.int (-i)))
  | _ => none
theorem mo_neg (ha : ME X c fa a) : MO X c (oOp1 negD fa) (.UnaryOp .USub a pos) :=
  mo_un un_neg (fun Y H Q x a o e ra q g => by
    unfold negD at q
    split at q
    · cases q
      rw [ra.int_inv]
      exact ⟨_, rfl, g _ _ _ (.old (.int _))⟩
    · cases q) ha

/-! ### comparisons -/
mutual
/-- no dict in it -/
def plain : D → Bool
  | .none => true
  | .bool _ => true
  | .int _ => true
  | .str _ => true
  | .dict _ => false
  | .list ds => plainAll ds
  | .tuple ds => plainAll ds
def plainAll : List D → Bool
  | [] => true
  | d :: ds => plain d && plainAll ds
end
mutual
theorem Dr.dp {Y H : Hp} (e : Same Y H) : ∀ {v : V} {d : D}, Dr K Y v d → plain d = true → Dp K H v d
  | _, _, .non, _ => .non
  | _, _, .bl b, _ => .bl b
  | _, _, .int i, _ => .int i
  | _, _, .str x, _ => .str x
  | _, _, .lst h t, f => .lst (.inl (.inl (e _ _ h))) (DrAll.dp e t (by simpa [plain] using f))
  | _, _, .lck _ _, f => by simp [plain] at f
  | _, _, .tup h t, f => .tup (Same.sqt e h) (DrAll.dp e t (by simpa [plain] using f))
  | _, _, .dk _ _, f => by simp [plain] at f
  | _, _, .dt _ _, f => by simp [plain] at f
theorem DrAll.dp {Y H : Hp} (e : Same Y H) : ∀ {vs : List V} {ds : List D}, DrAll K Y vs ds → plainAll ds = true → DpAll K H vs ds
  | _, _, .nil, _ => .nil
  | _, _, .cons h t, f => by
    rw [plainAll, Bool.and_eq_true] at f
    exact .cons (h.dp e f.1) (t.dp e f.2)
end
/-- texts are compared whatever they are -/
def eqS : D → D → Option Bool
  | .str x, .str y => some (decide (x = y))
  | _, _ => none
def eqP (a b : D) : Option Bool := if plain a = true ∧ plain b = true ∧ SeqAt.shaped a = true ∧ SeqAt.shaped b = true then some (PyData.eqv a b) else none
def eqD (a b : D) : Option Bool := (eqS a b).or (eqP a b)
def neD (a b : D) : Option Bool := ((eqS a b).map not).or ((eqP a b).map not)
theorem eqS_ok : CmpL K rEq eqS := fun Y H Q x y a b k e ra rb q g => by
  unfold eqS at q
  split at q
  · cases q
    rw [ra.str_inv, rb.str_inv]
    refine ⟨rfl, ?_⟩
    rename_i x y
    rw [show decide (V.str x = V.str y) = decide (x = y) by
      by_cases z : x = y
      · subst z; simp
      · rw [decide_eq_false z, decide_eq_false fun w => z (V.str.inj w)]]
    exact g
  · cases q
theorem eqP_ok : CmpL K (rEqD K) eqP := fun Y H Q x y a b k e ra rb q g => by
  unfold eqP at q
  split at q
  · rename_i h
    cases q
    exact ⟨a, b, ra.dp e h.1, rb.dp e h.2.1, h.2.2.1, h.2.2.2, g⟩
  · cases q
theorem neS_ok : CmpL K rNe fun a b => (eqS a b).map not := fun Y H Q x y a b k e ra rb q g => by
  simp only [Option.map_eq_some_iff] at q
  obtain ⟨k', q, rfl⟩ := q
  have := eqS_ok Y H (fun v H' => Q (match v with
    | .bl z => .bl (!z)
    | v => v) H') x y a b k' e ra rb q g
  exact this
theorem neP_ok : CmpL K (rNeD K) fun a b => (eqP a b).map not := fun Y H Q x y a b k e ra rb q g => by
  simp only [Option.map_eq_some_iff] at q
  obtain ⟨k', q, rfl⟩ := q
  unfold eqP at q
  split at q
  · rename_i h
    cases q
    exact ⟨a, b, ra.dp e h.1, rb.dp e h.2.1, h.2.2.1, h.2.2.2, g⟩
  · cases q
theorem me_eq (hXK : X.K = c.K) (hu : X.A.units + 64 < cLine) (ha : ME X c fa a) (hb : ME X c fb b) (hm : behindInMarks .Eq b = false) : ME X c (eCmp eqD fa fb) (.Compare a [.Eq] [b] pos) :=
  me_cmp (OpR.or op_eq (hXK ▸ op_eqD hu)) (eqS_ok.or eqP_ok) ha hb hm
theorem mt_eq (hXK : X.K = c.K) (hu : X.A.units + 64 < cLine) (ha : ME X c fa a) (hb : ME X c fb b) (hm : behindInMarks .Eq b = false) : MT X c (kCmp eqD fa fb) (.Compare a [.Eq] [b] pos) :=
  mt_cmp (OpR.or op_eq (hXK ▸ op_eqD hu)) (eqS_ok.or eqP_ok) ha hb hm
theorem me_ne (hXK : X.K = c.K) (hu : X.A.units + 64 < cLine) (ha : ME X c fa a) (hb : ME X c fb b) (hm : behindInMarks .NotEq b = false) : ME X c (eCmp neD fa fb) (.Compare a [.NotEq] [b] pos) :=
  me_cmp (OpR.or op_ne (hXK ▸ op_neD hu)) (neS_ok.or neP_ok) ha hb hm
theorem mt_ne (hXK : X.K = c.K) (hu : X.A.units + 64 < cLine) (ha : ME X c fa a) (hb : ME X c fb b) (hm : behindInMarks .NotEq b = false) : MT X c (kCmp neD fa fb) (.Compare a [.NotEq] [b] pos) :=
  mt_cmp (OpR.or op_ne (hXK ▸ op_neD hu)) (neS_ok.or neP_ok) ha hb hm
def ltI : D → D → Option Bool
  | .int i, .int j => some (decide (i < j))
  | _, _ => none
def leI : D → D → Option Bool
  | .int i, .int j => some (decide (i ≤ j))
  | _, _ => none
def gtI : D → D → Option Bool
  | .int i, .int j => some (decide (j < i))
  | _, _ => none
def geI : D → D → Option Bool
  | .int i, .int j => some (decide (j ≤ i))
  | _, _ => none
theorem ltI_ok : CmpL K (rI0 fun i j => .bl (decide (i < j))) ltI := fun Y H Q x y a b k e ra rb q g => by
  unfold ltI at q
  split at q
  · cases q
    rw [ra.int_inv, rb.int_inv]
    exact ⟨_, _, rfl, rfl, g⟩
  · cases q
theorem leI_ok : CmpL K (rI0 fun i j => .bl (decide (i ≤ j))) leI := fun Y H Q x y a b k e ra rb q g => by
  unfold leI at q
  split at q
  · cases q
    rw [ra.int_inv, rb.int_inv]
    exact ⟨_, _, rfl, rfl, g⟩
  · cases q
theorem gtI_ok : CmpL K (rI0 fun i j => .bl (decide (j < i))) gtI := fun Y H Q x y a b k e ra rb q g => by
  unfold gtI at q
  split at q
  · cases q
    rw [ra.int_inv, rb.int_inv]
    exact ⟨_, _, rfl, rfl, g⟩
  · cases q
theorem geI_ok : CmpL K (rI0 fun i j => .bl (decide (j ≤ i))) geI := fun Y H Q x y a b k e ra rb q g => by
  unfold geI at q
  split at q
  · cases q
    rw [ra.int_inv, rb.int_inv]
    exact ⟨_, _, rfl, rfl, g⟩
  · cases q
def isN : D → D → Option Bool
  | a, .none => some (match a with
    | .none => true
    | _ => false)
  | _, _ => none
theorem isN_ok : CmpL K (fun x y H Q => y = .non ∧ Q (.bl (decide (x = .non))) H) isN := fun Y H Q x y a b k e ra rb q g => by
  unfold isN at q
  split at q
  · cases q
    refine ⟨rb.none_inv, ?_⟩
    cases ra <;> exact g
  · cases q
def isntN (a b : D) : Option Bool := (isN a b).map not
theorem isntN_ok : CmpL K (fun x y H Q => y = .non ∧ Q (.bl (!decide (x = .non))) H) isntN := fun Y H Q x y a b k e ra rb q g => by
  unfold isntN at q
  simp only [Option.map_eq_some_iff] at q
  obtain ⟨k', q, rfl⟩ := q
  unfold isN at q
  split at q
  · cases q
    refine ⟨rb.none_inv, ?_⟩
    cases ra <;> exact g
  · cases q
theorem me_isN (ha : ME X c fa a) (hb : ME X c fb b) (hm : behindInMarks .Is b = false) : ME X c (eCmp isN fa fb) (.Compare a [.Is] [b] pos) := me_cmp op_isN isN_ok ha hb hm
theorem mt_isN (ha : ME X c fa a) (hb : ME X c fb b) (hm : behindInMarks .Is b = false) : MT X c (kCmp isN fa fb) (.Compare a [.Is] [b] pos) := mt_cmp op_isN isN_ok ha hb hm
theorem me_isnt (ha : ME X c fa a) (hb : ME X c fb b) (hm : behindInMarks .IsNot b = false) : ME X c (eCmp isntN fa fb) (.Compare a [.IsNot] [b] pos) := me_cmp op_notN isntN_ok ha hb hm
theorem mt_isnt (ha : ME X c fa a) (hb : ME X c fb b) (hm : behindInMarks .IsNot b = false) : MT X c (kCmp isntN fa fb) (.Compare a [.IsNot] [b] pos) := mt_cmp op_notN isntN_ok ha hb hm
/-- x is True, x is not True -/
def isB : D → D → Option Bool
  | .bool a, .bool b => some (decide (a = b))
  | _, _ => none
theorem mt_isntB (ha : ME X c fa a) (hb : ME X c fb b) (hm : behindInMarks .IsNot b = false) : MT X c (kCmp (fun a b => (isB a b).map not) fa fb) (.Compare a [.IsNot] [b] pos) := mt_cmp op_isnot_bl (fun Y H Q x y a b k e ra rb q g => by
  simp only [Option.map_eq_some_iff] at q
  obtain ⟨k', q, rfl⟩ := q
  unfold isB at q
  split at q
  · cases q
    exact ⟨_, _, ra.bool_inv, rb.bool_inv, g⟩
  · cases q) ha hb hm
theorem mt_lt (ha : ME X c fa a) (hb : ME X c fb b) (hm : behindInMarks .Lt b = false) : MT X c (kCmp ltI fa fb) (.Compare a [.Lt] [b] pos) := mt_cmp op_lt ltI_ok ha hb hm
theorem mt_le (ha : ME X c fa a) (hb : ME X c fb b) (hm : behindInMarks .LtE b = false) : MT X c (kCmp leI fa fb) (.Compare a [.LtE] [b] pos) := mt_cmp op_le leI_ok ha hb hm
theorem mt_gt (ha : ME X c fa a) (hb : ME X c fb b) (hm : behindInMarks .Gt b = false) : MT X c (kCmp gtI fa fb) (.Compare a [.Gt] [b] pos) := mt_cmp op_gt gtI_ok ha hb hm
theorem mt_ge (ha : ME X c fa a) (hb : ME X c fb b) (hm : behindInMarks .GtE b = false) : MT X c (kCmp geI fa fb) (.Compare a [.GtE] [b] pos) := mt_cmp op_ge geI_ok ha hb hm
theorem me_lt (ha : ME X c fa a) (hb : ME X c fb b) (hm : behindInMarks .Lt b = false) : ME X c (eCmp ltI fa fb) (.Compare a [.Lt] [b] pos) := me_cmp op_lt ltI_ok ha hb hm
theorem me_le (ha : ME X c fa a) (hb : ME X c fb b) (hm : behindInMarks .LtE b = false) : ME X c (eCmp leI fa fb) (.Compare a [.LtE] [b] pos) := me_cmp op_le leI_ok ha hb hm
theorem me_gt (ha : ME X c fa a) (hb : ME X c fb b) (hm : behindInMarks .Gt b = false) : ME X c (eCmp gtI fa fb) (.Compare a [.Gt] [b] pos) := me_cmp op_gt gtI_ok ha hb hm
theorem me_ge (ha : ME X c fa a) (hb : ME X c fb b) (hm : behindInMarks .GtE b = false) : ME X c (eCmp geI fa fb) (.Compare a [.GtE] [b] pos) := me_cmp op_ge geI_ok ha hb hm
theorem me_chLL {fz : EF} {z : Expr} (ha : ME X c fa a) (hb : ME X c fb b) (hz : ME X c fz z) (hm : lastMarks [.LtE, .LtE] [b, z] = false := by with_unfolding_all rfl) : ME X c (eChn leI leI fa fb fz) (.Compare a [.LtE, .LtE] [b, z] pos) := me_chain op_le op_le leI_ok leI_ok ha hb hz hm
theorem mt_chLL {fz : EF} {z : Expr} (ha : ME X c fa a) (hb : ME X c fb b) (hz : ME X c fz z) (hm : lastMarks [.LtE, .LtE] [b, z] = false := by with_unfolding_all rfl) : MT X c (kChn leI leI fa fb fz) (.Compare a [.LtE, .LtE] [b, z] pos) := mt_chain op_le op_le leI_ok leI_ok ha hb hz hm

/-! ### subscripts, slices -/
def ixL : D → D → Option OD
  | .list xs, .int i => (atI xs i).map .fz
  | _, _ => none
def ixT : D → D → Option OD
  | .tuple xs, .int i => (atI xs i).map .fz
  | _, _ => none
theorem atI_len {α β : Type} {xs : List α} {ys : List β} {i : Int} {y : β} (hl : xs.length = ys.length) (h : atI ys i = some y) : ∃ (j : Nat) (x : α), xs[j]? = some x ∧ ys[j]? = some y ∧ atI xs i = some x := by
  unfold atI at h ⊢
  rw [hl]
  cases e : ixN ys.length i with
  | none => rw [e] at h; cases h
  | some j =>
    rw [e] at h
    have hy : ys[j]? = some y := h
    have hj := lt_of_get hy
    exact ⟨j, xs[j]'(by omega), List.getElem?_eq_getElem _, hy, List.getElem?_eq_getElem _⟩
theorem DrAll.at {Y : Hp} {vs : List V} {ds : List D} {i : Int} {d : D} (r : DrAll K Y vs ds) (h : atI ds i = some d) : ∃ v, atI vs i = some v ∧ Dr K Y v d := by
  obtain ⟨j, v, h1, h2, h3⟩ := atI_len r.length h
  obtain ⟨v', h4, h5⟩ := r.get h2
  rw [h1] at h4
  cases h4
  exact ⟨v, h3, h5⟩
def ixD (a b : D) : Option OD := (ixL a b).or (ixT a b)
theorem me_ix (hXK : X.K = c.K) (ha : ME X c fa a) (hb : ME X c fb b) (hs : PlainIx b) : ME X c (eFrz (oOp2 ixD fa fb)) (.Subscript a b pos) := by
  refine me_frz ⟨PE.imp (pe_ix (IxR.or ix_list ix_tup) ha.run hb.run hs) fun σ H Q q => op2_core (OpL.or (r := rIxL X.K) (r' := rIxT X.K) ?_ ?_) q⟩
  · intro Y H Q x y a b o e ra rb q g
    unfold ixL at q
    split at q
    · simp only [Option.map_eq_some_iff] at q
      obtain ⟨d, q, rfl⟩ := q
      obtain ⟨p, us, rfl, h1, d1⟩ := ra.list_inv
      rw [rb.int_inv]
      obtain ⟨v, hv, r⟩ := d1.at q
      exact ⟨p, us, _, v, rfl, rfl, .inl (.inl (e _ _ h1)), hv, g _ _ _ (.old r)⟩
    · cases q
  · intro Y H Q x y a b o e ra rb q g
    unfold ixT at q
    split at q
    · simp only [Option.map_eq_some_iff] at q
      obtain ⟨d, q, rfl⟩ := q
      obtain ⟨p, us, rfl, h1, d1⟩ := ra.tuple_inv
      rw [rb.int_inv]
      obtain ⟨v, hv, r⟩ := d1.at q
      exact ⟨p, us, _, v, rfl, rfl, hXK ▸ Same.sqt e h1, hv, g _ _ _ (.old r)⟩
    · cases q
end
end MI

set_option Elab.async false
set_option linter.all false
set_option autoImplicit false
set_option maxRecDepth 100000
/-! MI: list(reversed(a list)). -/
namespace MI
open PySem PySem.Spec L2 PySem.AutoSeq1
section
variable {prog : Program} {w : World} {A : Around} {E : Value → Shared → Prop} {s : Shared}
theorem list_of_rev {it l : Addr} {items : Array Value} {Q : Value → Shared → Prop} (hh : A.handled = none) (hit : s.heap.IsRevIter it l ((items.size : Int) - 1)) (hl : s.heap.IsList l items) (hne : l ≠ it) (hn : items.size ≤ sizeLine)
    (hQ : ∀ (h' : Heap) (tk : Nat) (acc : Array Value) (c' : Nat), (∀ b o, b ≠ it → s.heap.get? b = some o → h'.get? b = some o) → h'.get? s.heap.objs.size = some { cls := .type "list", dict := none, data := .seq acc c', slots := #[] } →
      ItemsOf (fun i v => items[items.size - 1 - i]? = some v) acc items.size → Q (.ref s.heap.objs.size) { s with heap := h', toks := tk }) : wpAny (model prog w) A (call (.type "list") [.ref it]) Q E s := by
  obtain ⟨oi, hoi, _⟩ := id hit
  obtain ⟨ol, hol, _⟩ := id hl
  have ni : s.heap.objs.size ≠ it := Nat.ne_of_gt (Heap.lt_size hoi)
  have nl : s.heap.objs.size ≠ l := Nat.ne_of_gt (Heap.lt_size hol)
  have nf : s.heap.objs.size ∉ [it, l] := by
    intro z
    rcases List.mem_cons.mp z with z | z
    · exact ni z
    · exact nl (List.mem_singleton.mp z)
  refine callType_codes (Q₁ := fun o s₁ => o = .ref s.heap.objs.size ∧ s₁ = { s with heap := s.heap.push { cls := .type "list", data := .seq #[] } }) F.called_list (F.typeCall_list_1 _) F.entry_list_init (code_list_new _ ⟨rfl, rfl⟩) ?_
  rintro o s₁ ⟨rfl, rfl⟩
  have at0 : (s.heap.push { cls := .type "list", data := .seq #[] }).get? s.heap.objs.size = some { cls := .type "list", data := .seq #[] } := Heap.get?_push_size _ rfl
  refine ⟨⟨_, at0, rfl⟩, F.args_list_init_2 _ _, ?_⟩
  let h1 := s.heap.push { cls := .type "list", data := .seq #[] }
  let h2 := h1.update s.heap.objs.size (Obj.mapSeq fun _ => (#[] : Array Value))
  show wpAny _ _ (Builtin.List.listItems (.ref s.heap.objs.size) >>= fun old => (Builtin.List.listUpdate (.ref s.heap.objs.size) fun _ => #[]) >>= fun _ => letGo old.toList.reverse >>= fun _ => Builtin.List.listExtendWith (.ref s.heap.objs.size) (.ref it) .none) _ _ _
  refine wpAny_bind ?_
  unfold Builtin.List.listItems
  refine wpAny_bind (wpAny_seqItems at0 rfl (wpAny_pure ?_))
  show wpAny _ _ ((updateSeq s.heap.objs.size fun _ => #[]) >>= fun _ => letGo ([] : List Value) >>= fun _ => Builtin.List.listExtendWith (.ref s.heap.objs.size) (.ref it) .none) _ _ _
  refine wpAny_bind (wpAny_updateSeq at0 rfl (wpAny_bind (wpAny_letGo ?_)))
  have at2 := Heap.get?_update_self (Obj.mapSeq fun _ => (#[] : Array Value)) at0 rfl
  have far : ∀ b o, s.heap.get? b = some o → h2.get? b = some o := fun b o e => (Heap.get?_update_other _ _ (Nat.ne_of_gt (Heap.lt_size e))).trans (Heap.get?_push_of_some _ e)
  have it2 : h2.IsRevIter it l ((items.size : Int) - 1) := hit.at fun o e => far _ _ e
  have l2 : h2.IsList l items := by
    obtain ⟨o, e, r⟩ := hl
    exact ⟨o, far _ _ e, r⟩
  have ty : ({ s with heap := h2 } : Shared).TypeIs (.ref it) "list_reverseiterator" := Heap.IsRevIter.typeIs (s := { s with heap := h2 }) it2
  have ns : Builtin.List.listSameRef (.ref s.heap.objs.size) (.ref it) = false := by simp [Builtin.List.listSameRef, ni]
  have W := (Walks.listRev (prog := prog) (w := w) (A := A.in1.in1) hh it l hne items).toS
  unfold Builtin.List.listExtendWith
  refine wpAny_bind (wpAny_typeOf ty ?_)
  rw [if_neg (by rw [ns]; decide)]
  refine wpAny_bind (wpAny_pyIter_revIter (s := { s with heap := h2 }) it2 (wpAny_bind (wpAny_holding ?_)))
  unfold Builtin.List.listLengthHint
  refine wpAny_bind (wpAny_specialOf ty RT.nolen_lri ?_)
  show wpAny _ _ (specialOf (Value.ref it) (Str.ofString "__length_hint__") >>= _) _ _ _
  refine wpAny_bind (wpAny_specialOf ty RT.hint_lri ?_)
  generalize hq : ("list_reverseiterator.__length_hint__" : String) = nm
  wp_delta
  rw [show splitId nm = some ("list_reverseiterator", "__length_hint__") by subst hq; decide +kernel]
  subst hq
  refine wpAny_bind (wpAny_isInstance (b := true) ty (by rw [isSubtype_type]; kernel_rfl) (wpAny_pure ?_))
  rw [if_neg (by decide)]
  have e0 : ((items.size : Nat) : Int) - 1 - ((0 : Nat) : Int) = (items.size : Int) - 1 := by omega
  refine wpAny_pure ⟨plainId_quiet F.plain_extend_loop _, ?_⟩
  refine codeAny_extend_loopS W hn _ nf _ items.size 0 _ _ _ rfl (Nat.zero_le _) ⟨Nat.zero_le _, by rw [e0]; exact it2, l2⟩ at2 (ItemsOf.nil _) ?_
  intro s' acc' c' hm hS' hacc
  refine ⟨rfl, ?_⟩
  rw [Moved.eq_with hm]
  refine hQ s'.heap s'.toks acc' c' (fun b o hb e => hm.heap b o (fun z => ?_) (far b o e)) hS' hacc
  rcases List.mem_cons.mp z with z | z
  · exact absurd (Heap.lt_size e) (by rw [z]; exact Nat.lt_irrefl _)
  · exact hb (List.mem_singleton.mp z)
end
end MI

set_option Elab.async false
set_option linter.all false
set_option autoImplicit false
set_option maxRecDepth 100000
/-! MI: slices, built-ins, methods, items stored. -/
namespace MI
open PySem PySem.Spec L2
section
variable {X : Cx} {c : Ct} {K : PySem.W.Frag} {ξ : Fx} {Y H : Hp} {σ : St} {s : S} {tv : List V} {ts : List OD}
variable {fa fb : EF} {a b : Expr} {p pos : Pos}

/-! ### slices -/
def cutD (xs : List D) (lo hi : Option Int) : List D := (xs.drop (HT.sIx xs.length 0 lo)).take (HT.sIx xs.length xs.length hi - HT.sIx xs.length 0 lo)
theorem DrAll.cutV {vs : List V} {ds : List D} (h : DrAll K Y vs ds) (lo hi : Option Int) : DrAll K Y (L2.cutV vs lo hi) (cutD ds lo hi) := by
  unfold L2.cutV cutD
  rw [h.length]
  exact (h.drop _).take _
/-- a part of a slice -/
abbrev PF := S → Res (Option Int)
def pNo : PF := fun s => .ok none s
def pSome (f : EF) : PF := fun s => (f s).bind fun d s => match d with
  | .int i => .ok (some i) s
  | _ => .bad
def tP (c : Ct) (f : PF) : TO := fun σ H Q => ∃ ξ Y s tv ts, ξ.K = c.K ∧ FS ξ Y H σ s tv ts ∧
  out c ξ Y σ tv ts (fun o s' => ∀ Y' H', Same Y Y' → FS ξ Y' H' σ s' tv ts → Q o H') (f s)
structure MP (X : Cx) (c : Ct) (f : PF) (e : Option Expr) : Prop where
  run : PO X e (tP c f)
theorem PO.imp {X : Cx} {e : Option Expr} {t t' : TO} (h : PO X e t) (i : ∀ σ H Q, t' σ H Q → t σ H Q) : PO X e t' := ⟨fun pins s σ H Q I q => h.run pins s σ H Q I (i σ H Q q)⟩
theorem mp_no : MP X c pNo none := by
  refine ⟨PO.imp po_none fun σ H Q q => ?_⟩
  obtain ⟨ξ, Y, s, tv, ts, hK, F, q⟩ := q
  exact q Y H (Same.refl _) F
theorem mp_some {f : EF} {e : Expr} (h : ME X c f e) : MP X c (pSome f) (some e) := by
  refine ⟨PO.imp (po_some h.run) fun σ H Q q => ?_⟩
  obtain ⟨ξ, Y, s, tv, ts, hK, F, q⟩ := q
  refine tE_seq hK F q fun d s1 Y1 H1 v e1 F1 r1 q1 => ?_
  cases d with
  | int i => exact ⟨i, r1.int_inv, q1 Y1 H1 e1 F1⟩
  | none => exact q1.elim
  | bool _ => exact q1.elim
  | str _ => exact q1.elim
  | list _ => exact q1.elim
  | tuple _ => exact q1.elim
  | dict _ => exact q1.elim
theorem tP_seq {β : Type} {fa : PF} {k : Option Int → S → Res β} {G : β → S → Prop} {R : Option Int → Hp → Prop} (hK : ξ.K = c.K) (F : FS ξ Y H σ s tv ts) (h : out c ξ Y σ tv ts G ((fa s).bind k))
    (hR : ∀ o s1 Y1 H1, Same Y Y1 → FS ξ Y1 H1 σ s1 tv ts → out c ξ Y σ tv ts G (k o s1) → R o H1) : tP c fa σ H R := by
  refine ⟨ξ, Y, s, tv, ts, hK, F, ?_⟩
  cases e : fa s with
  | ok d s1 => rw [e] at h; exact fun Y1 H1 e1 F1 => hR d s1 Y1 H1 e1 F1 h
  | ex x s1 => rw [e] at h; exact h
  | bad => rw [e] at h; exact h
def sliceD : D → Option Int → Option Int → Option OD
  | .list xs, lo, hi => some (.ol (cutD xs lo hi))
  | .tuple xs, lo, hi => some (.fz (.tuple (cutD xs lo hi)))
  | .dict [(.none, .list xs)], lo, hi => some (.ol (cutD xs lo hi))
  | _, _, _ => none
def oSlice (f : EF) (l h : PF) : OF := fun s => (f s).bind fun d s => (l s).bind fun lo s => (h s).bind fun hi s => ofO (sliceD d lo hi) s
theorem cut_whole {xs : List V} {ds : List D} (r : DrAll K Y xs ds) {lo hi : Option Int} (h : HT.sIx xs.length 0 lo = 0 ∧ HT.sIx xs.length xs.length hi = xs.length) : cutD ds lo hi = ds := by
  unfold cutD
  rw [← r.length, h.1, h.2, r.length]
  simp
theorem mo_slice {f : EF} {l h : PF} {e : Expr} {lo hi : Option Expr} {p2 : Pos} (hXK : X.K = c.K) (he : ME X c f e) (hl : MP X c l lo) (hh : MP X c h hi) : MO X c (oSlice f l h) (.Subscript e (.Slice lo hi none p2) pos) := by
  refine ⟨PE.imp (pe_slice (SlR.or sl_list sl_tupA) he.run hl.run hh.run) fun σ H Q q => ?_⟩
  obtain ⟨ξ, Y, s, tv, ts, hK, F, q⟩ := q
  refine tE_seq hK F q fun d s1 Y1 H1 v e1 F1 r1 q1 => ?_
  refine tP_seq hK F1 (out.mono c q1 e1 (fun _ _ z => z)) fun o s2 Y2 H2 e2 F2 q2 => ?_
  refine tP_seq hK F2 (out.mono c q2 e2 (fun _ _ z => z)) fun u s3 Y3 H3 e3 F3 q3 => ?_
  have r3 := (r1.mono e2).mono e3
  have lst : ∀ {p : Addr} {xs : List V} {ds : List D}, v = .ref p → SqL X.K H3 p xs → DrAll c.K Y3 xs ds → out c ξ Y2 σ tv ts (fun o s' => ∀ Y' H' v, Same Y Y' → FS ξ Y' H' σ s' (tv ++ [v]) (ts ++ [o]) → Q v H') (.ok (.ol (cutD ds o u)) s3) →
      rSlL X.K v o u H3 Q ∨ rSlA X.K v o u H3 Q := fun {p xs ds} ev hq hd q3 => by
    refine .inl ⟨p, xs, ev, hq, fun n hn => ?_⟩
    obtain ⟨e4, F4⟩ := (Gives.lst hn (hd.cutV o u)).fs hK F3
    exact q3 _ _ _ (((e1.trans e2).trans e3).trans e4) F4
  unfold sliceD at q3
  split at q3
  · obtain ⟨p, xs, ev, hq, hd⟩ := r3.list_inv
    exact lst ev (.inl (.inl (F3.sub _ _ hq))) hd q3
  · obtain ⟨p, xs, ev, hq, hd⟩ := r3.tuple_inv
    refine .inr ⟨p, xs, ev, hXK ▸ Same.sqt F3.sub hq, fun hw => ?_, fun hw n hn => ?_⟩
    · rw [cut_whole hd hw] at q3
      obtain ⟨e4, F4⟩ := (Gives.old r3).fs hK F3
      subst ev
      exact q3 _ _ _ (((e1.trans e2).trans e3).trans e4) F4
    · obtain ⟨e4, F4⟩ := (Gives.tup hn (hd.cutV o u)).fs hK F3
      exact q3 _ _ _ (((e1.trans e2).trans e3).trans e4) F4
  · obtain ⟨p, xs, ev, hq, hd⟩ := Dr.lock_inv r3
    exact lst ev (hXK ▸ F3.sub.seq hq) hd q3
  · exact q3.elim

/-! ### built-ins by values -/
def CallL (K : PySem.W.Frag) (r : List V → Hp → VK → Prop) (F : List D → Option OD) : Prop := ∀ (Y H : Hp) (Q : VK) (xs : List V) (ds : List D) (o : OD), Same Y H → DrAll K Y xs ds → F ds = some o → (∀ v Y' H', Gives K Y H v Y' H' o → Q v H') → r xs H Q
def oBlt (F : List D → Option OD) (g : AF) : OF := fun s => (g s).bind fun ds s => ofO (F ds) s
theorem blt_core {r : List V → Hp → VK → Prop} {F : List D → Option OD} (hF : CallL c.K r F) {g : AF} {σ : St} {H : Hp} {Q : VK} (q : tO c (oBlt F g) σ H Q) : tCB r (tA c g) σ H Q := by
  obtain ⟨ξ, Y, s, tv, ts, hK, Fr, q⟩ := q
  refine tA_seq hK Fr q fun ds s1 Y1 H1 vs e1 F1 r1 q1 => ?_
  unfold ofO at q1
  split at q1
  · rename_i o eo
    refine hF Y1 H1 Q vs ds o F1.sub r1 eo fun v Y' H' g => ?_
    obtain ⟨e3, F3⟩ := g.fs hK F1
    exact q1 Y' H' v (e1.trans e3) F3
  · exact q1.elim
section
variable {x : Str} {e : Expr} {es : List Expr} {g : AF} {id T : String} {r : List V → Hp → VK → Prop} {F : List D → Option OD}
theorem mo_blt (hc : CallR X (.builtin id) r) (hF : CallL c.K r F) (hg : Gl X x) (hm : X.mg x = none) (hv : bootBuiltins x = some (.builtin id)) (ha : MA X c g (e :: es)) (hn : x ≠ "__name__" := by decide) (hdb : (x == ("__debug__" : Str)) = false := by decide)
    (he : starEach (e :: es) X.env = (false, eval e X.env) :: starEach es X.env := by rfl) (hpl : (backTo pos (starEach es X.env)).any (·.1) = false := by rfl) : MO X c (oBlt F g) (.Call (.Name x p) (e :: es) [] pos) :=
  ⟨PE.imp (pe_callB hc hg hm hv ha.run hn hdb he hpl) fun _ _ _ q => blt_core hF q⟩
theorem mo_bty (hc : CallR X (.type T) r) (hF : CallL c.K r F) (hg : Gl X x) (hm : X.mg x = none) (hv : bootBuiltins x = some (.type T)) (ha : MA X c g (e :: es)) (hn : x ≠ "__name__" := by decide) (hdb : (x == ("__debug__" : Str)) = false := by decide)
    (he : starEach (e :: es) X.env = (false, eval e X.env) :: starEach es X.env := by rfl) (hpl : (backTo pos (starEach es X.env)).any (·.1) = false := by rfl) : MO X c (oBlt F g) (.Call (.Name x p) (e :: es) [] pos) :=
  ⟨PE.imp (pe_callTy hc hg hm hv ha.run hn hdb he hpl) fun _ _ _ q => blt_core hF q⟩
end
def one (F : D → Option OD) : List D → Option OD
  | [d] => F d
  | _ => none
theorem CallL.one {r : List V → Hp → VK → Prop} {F : D → Option OD} (h : ∀ (Y H : Hp) (Q : VK) (x : V) (d : D) (o : OD), Same Y H → Dr K Y x d → F d = some o → (∀ v Y' H', Gives K Y H v Y' H' o → Q v H') → r [x] H Q) : CallL K r (one F) := fun Y H Q xs ds o e ra q g => by
  cases ra with
  | nil => cases q
  | cons r1 rr =>
    cases rr with
    | nil => exact h Y H Q _ _ o e r1 q g
    | cons _ _ => cases q
def lenD : D → Option OD
  | .list xs => some (.fz (.int xs.length))
  | .tuple xs => some (.fz (.int xs.length))
  | .str x => if x.length ≤ sizeLine then some (.fz (.int x.length)) else none
  | _ => none
theorem lenD_ok (hXK : X.K = c.K) : CallL c.K (fun xs H Q => ∃ x n, xs = [x] ∧ LenV X.K x H n ∧ Q (.int n) H) (one lenD) := CallL.one fun Y H Q x d o e r q g => by
  unfold lenD at q
  split at q
  · cases q
    obtain ⟨p, us, rfl, h1, d1⟩ := r.list_inv
    exact ⟨_, us.length, rfl, .inl ⟨us, .inl (.inl (e _ _ h1)), rfl⟩, by rw [d1.length]; exact g _ _ _ (.old (.int _))⟩
  · cases q
    obtain ⟨p, us, rfl, h1, d1⟩ := r.tuple_inv
    exact ⟨_, us.length, rfl, .inr ⟨us, hXK ▸ Same.sqt e h1, rfl⟩, by rw [d1.length]; exact g _ _ _ (.old (.int _))⟩
  · split at q
    · rename_i hl
      cases q
      rw [r.str_inv]
      exact ⟨_, _, rfl, ⟨hl, rfl⟩, g _ _ _ (.old (.int _))⟩
    · cases q
  · cases q
theorem mo_len (hXK : X.K = c.K) (hg : Gl X "len") (hm : X.mg "len" = none) (ha : ME X c fa a) (he : starEach [a] X.env = (false, eval a X.env) :: starEach [] X.env := by rfl) (hpl : (backTo pos (starEach [] X.env)).any (·.1) = false := by rfl) :
    MO X c (oBlt (one lenD) (aCons fa aNil)) (.Call (.Name "len" p) [a] [] pos) := mo_blt call_len (lenD_ok hXK) hg hm PySem.boot_len (ma_cons ha ma_nil he) (by decide) (by decide) he hpl
def intB : D → Option OD
  | .int i => some (.fz (.int i))
  | .bool b => some (.fz (.int (if b = true then 1 else 0)))
  | _ => none
theorem mo_int (hg : Gl X "int") (hm : X.mg "int" = none) (ha : ME X c fa a) (he : starEach [a] X.env = (false, eval a X.env) :: starEach [] X.env := by rfl) (hpl : (backTo pos (starEach [] X.env)).any (·.1) = false := by rfl) :
    MO X c (oBlt (one intB) (aCons fa aNil)) (.Call (.Name "int" p) [a] [] pos) := mo_bty call_int1 (CallL.one fun Y H Q x d o e r q g => by
  unfold intB at q
  split at q
  · cases q
    rw [r.int_inv]
    exact .inl ⟨_, rfl, g _ _ _ (.old (.int _))⟩
  · cases q
    rw [r.bool_inv]
    exact .inr ⟨_, rfl, g _ _ _ (.old (.int _))⟩
  · cases q) hg hm (by decide +kernel) (ma_cons ha ma_nil he) (by decide) (by decide) he hpl
def absD : D → Option OD
  | .int i => some (.fz (.int (if i < 0 then -i else i)))
  | _ => none
theorem mo_abs (hg : Gl X "abs") (hm : X.mg "abs" = none) (ha : ME X c fa a) (he : starEach [a] X.env = (false, eval a X.env) :: starEach [] X.env := by rfl) (hpl : (backTo pos (starEach [] X.env)).any (·.1) = false := by rfl) :
    MO X c (oBlt (one absD) (aCons fa aNil)) (.Call (.Name "abs" p) [a] [] pos) := mo_blt call_abs (CallL.one fun Y H Q x d o e r q g => by
  unfold absD at q
  split at q
  · cases q
    rw [r.int_inv]
    exact ⟨_, rfl, g _ _ _ (.old (.int _))⟩
  · cases q) hg hm (by decide +kernel) (ma_cons ha ma_nil he) (by decide) (by decide) he hpl
def listD : D → Option OD
  | .list xs => some (.ol xs)
  | .tuple xs => some (.ol xs)
  | _ => none
theorem mo_list (hXK : X.K = c.K) (hg : Gl X "list") (hm : X.mg "list" = none) (ha : ME X c fa a) (he : starEach [a] X.env = (false, eval a X.env) :: starEach [] X.env := by rfl) (hpl : (backTo pos (starEach [] X.env)).any (·.1) = false := by rfl) :
    MO X c (oBlt (one listD) (aCons fa aNil)) (.Call (.Name "list" p) [a] [] pos) := mo_bty call_list_of (CallL.one fun Y H Q x d o e r q g => by
  unfold listD at q
  split at q
  · cases q
    obtain ⟨p, us, rfl, h1, d1⟩ := r.list_inv
    exact ⟨p, us, rfl, .inl (.inl (.inl (e _ _ h1))), fun n hn => g _ _ _ (.lst hn d1)⟩
  · cases q
    obtain ⟨p, us, rfl, h1, d1⟩ := r.tuple_inv
    exact ⟨p, us, rfl, .inr (hXK ▸ Same.sqt e h1), fun n hn => g _ _ _ (.lst hn d1)⟩
  · cases q) hg hm (by decide +kernel) (ma_cons ha ma_nil he) (by decide) (by decide) he hpl
def tupleD : D → Option OD
  | .list xs => some (.fz (.tuple xs))
  | .tuple xs => some (.fz (.tuple xs))
  | _ => none
theorem mo_tuple (hXK : X.K = c.K) (hg : Gl X "tuple") (hm : X.mg "tuple" = none) (ha : ME X c fa a) (he : starEach [a] X.env = (false, eval a X.env) :: starEach [] X.env := by rfl) (hpl : (backTo pos (starEach [] X.env)).any (·.1) = false := by rfl) :
    MO X c (oBlt (one tupleD) (aCons fa aNil)) (.Call (.Name "tuple" p) [a] [] pos) := mo_bty call_tuple_of (CallL.one fun Y H Q x d o e r q g => by
  unfold tupleD at q
  split at q
  · cases q
    obtain ⟨p, us, rfl, h1, d1⟩ := r.list_inv
    exact ⟨p, us, rfl, .inl ⟨.inl (.inl (e _ _ h1)), fun n hn => g _ _ _ (.tup hn d1)⟩⟩
  · cases q
    obtain ⟨p, us, rfl, h1, d1⟩ := r.tuple_inv
    exact ⟨p, us, rfl, .inr ⟨hXK ▸ Same.sqt e h1, g _ _ _ (.old r)⟩⟩
  · cases q) hg hm (by decide +kernel) (ma_cons ha ma_nil he) (by decide) (by decide) he hpl
/-! lists of ints, of bools -/
def asInts : List D → Option (List Int)
  | [] => some []
  | .int i :: r => (asInts r).map fun ns => i :: ns
  | _ => none
def asBools : List D → Option (List Bool)
  | [] => some []
  | .bool b :: r => (asBools r).map fun ns => b :: ns
  | _ => none
theorem asInts_map : ∀ ns : List Int, asInts (ns.map PyData.int) = some ns
  | [] => rfl
  | n :: ns => by rw [List.map_cons, asInts, asInts_map ns]; rfl
theorem asBools_map : ∀ ns : List Bool, asBools (ns.map PyData.bool) = some ns
  | [] => rfl
  | n :: ns => by rw [List.map_cons, asBools, asBools_map ns]; rfl
theorem asInts_vals : ∀ {vs : List V} {ds : List D} {ns : List Int}, DrAll K Y vs ds → asInts ds = some ns → vs = ns.map V.int
  | _, _, _, .nil, h => by cases h; rfl
  | _, _, _, .cons (d := d) a t, h => by
    cases d with
    | int i =>
      simp only [asInts, Option.map_eq_some_iff] at h
      obtain ⟨ms, h, rfl⟩ := h
      rw [a.int_inv, asInts_vals t h]; rfl
    | none => cases h
    | bool _ => cases h
    | str _ => cases h
    | list _ => cases h
    | tuple _ => cases h
    | dict _ => cases h
theorem asBools_vals : ∀ {vs : List V} {ds : List D} {ns : List Bool}, DrAll K Y vs ds → asBools ds = some ns → vs = ns.map V.bl
  | _, _, _, .nil, h => by cases h; rfl
  | _, _, _, .cons (d := d) a t, h => by
    cases d with
    | bool i =>
      simp only [asBools, Option.map_eq_some_iff] at h
      obtain ⟨ms, h, rfl⟩ := h
      rw [a.bool_inv, asBools_vals t h]; rfl
    | none => cases h
    | int _ => cases h
    | str _ => cases h
    | list _ => cases h
    | tuple _ => cases h
    | dict _ => cases h
def sumD : D → Option OD
  | .list xs => (asInts xs).map fun ns => .fz (.int ns.sum)
  | _ => none
theorem mo_sum (hc : X.calm = true) (hg : Gl X "sum") (hm : X.mg "sum" = none) (ha : ME X c fa a) (he : starEach [a] X.env = (false, eval a X.env) :: starEach [] X.env := by rfl) (hpl : (backTo pos (starEach [] X.env)).any (·.1) = false := by rfl) :
    MO X c (oBlt (one sumD) (aCons fa aNil)) (.Call (.Name "sum" p) [a] [] pos) := mo_blt (cr_sum hc) (CallL.one fun Y H Q x d o e r q g => by
  unfold sumD at q
  split at q
  · simp only [Option.map_eq_some_iff] at q
    obtain ⟨ns, q, rfl⟩ := q
    obtain ⟨p, us, rfl, h1, d1⟩ := r.list_inv
    have h2 := e _ _ h1
    rw [asInts_vals d1 q] at h2
    exact ⟨p, ns, rfl, .inl (.inl h2), g _ _ _ (.old (.int _))⟩
  · cases q) hg hm (by decide +kernel) (ma_cons ha ma_nil he) (by decide) (by decide) he hpl
/-- the greatest, the least of some ints -/
def maxI : Int → List Int → Int
  | m, [] => m
  | m, n :: ns => maxI (if m < n then n else m) ns
def minI : Int → List Int → Int
  | m, [] => m
  | m, n :: ns => minI (if n < m then n else m) ns
theorem maxI_ge : ∀ (ns : List Int) (m : Int), m ≤ maxI m ns ∧ ∀ n ∈ ns, n ≤ maxI m ns
  | [], m => ⟨Int.le_refl _, fun n h => by simp at h⟩
  | n :: ns, m => by
    have ih := maxI_ge ns (if m < n then n else m)
    have up : m ≤ (if m < n then n else m) ∧ n ≤ (if m < n then n else m) := by split <;> omega
    rw [maxI]
    refine ⟨Int.le_trans up.1 ih.1, fun k hk => ?_⟩
    rcases List.mem_cons.mp hk with rfl | hk
    · exact Int.le_trans up.2 ih.1
    · exact ih.2 k hk
theorem maxI_mem : ∀ (ns : List Int) (m : Int), maxI m ns = m ∨ maxI m ns ∈ ns
  | [], m => .inl rfl
  | n :: ns, m => by
    rw [maxI]
    rcases maxI_mem ns (if m < n then n else m) with h | h
    · rw [h]
      split
      · exact .inr (by simp)
      · exact .inl rfl
    · exact .inr (by simp [h])
theorem minI_le : ∀ (ns : List Int) (m : Int), minI m ns ≤ m ∧ ∀ n ∈ ns, minI m ns ≤ n
  | [], m => ⟨Int.le_refl _, fun n h => by simp at h⟩
  | n :: ns, m => by
    have ih := minI_le ns (if n < m then n else m)
    have up : (if n < m then n else m) ≤ m ∧ (if n < m then n else m) ≤ n := by split <;> omega
    rw [minI]
    refine ⟨Int.le_trans ih.1 up.1, fun k hk => ?_⟩
    rcases List.mem_cons.mp hk with rfl | hk
    · exact Int.le_trans ih.1 up.2
    · exact ih.2 k hk
theorem minI_mem : ∀ (ns : List Int) (m : Int), minI m ns = m ∨ minI m ns ∈ ns
  | [], m => .inl rfl
  | n :: ns, m => by
    rw [minI]
    rcases minI_mem ns (if n < m then n else m) with h | h
    · rw [h]
      split
      · exact .inr (by simp)
      · exact .inl rfl
    · exact .inr (by simp [h])
def extD (f : Int → List Int → Int) : D → Option OD
  | .list xs => match asInts xs with
    | some (n :: ns) => some (.fz (.int (f n ns)))
    | _ => none
  | _ => none
theorem mo_max (hc : X.calm = true) (hg : Gl X "max") (hm : X.mg "max" = none) (ha : ME X c fa a) (he : starEach [a] X.env = (false, eval a X.env) :: starEach [] X.env := by rfl) (hpl : (backTo pos (starEach [] X.env)).any (·.1) = false := by rfl) :
    MO X c (oBlt (one (extD maxI)) (aCons fa aNil)) (.Call (.Name "max" p) [a] [] pos) := mo_blt (cr_max hc) (CallL.one fun Y H Q x d o e r q g => by
  unfold extD at q
  split at q
  · rename_i xs
    split at q
    · rename_i n ns ei
      cases q
      obtain ⟨p, us, rfl, h1, d1⟩ := r.list_inv
      have h2 := e _ _ h1
      rw [asInts_vals d1 ei] at h2
      refine ⟨p, n :: ns, rfl, .inl (.inl h2), by simp, fun m hm hall => ?_⟩
      have e : m = maxI n ns := by
        have h3 := maxI_ge ns n
        have h4 : maxI n ns ≤ m := by
          rcases maxI_mem ns n with z | z
          · rw [z]; exact hall n (by simp)
          · exact hall _ (by simp [z])
        have h5 : m ≤ maxI n ns := by
          rcases List.mem_cons.mp hm with z | z
          · rw [z]; exact h3.1
          · exact h3.2 m z
        omega
      rw [e]
      exact g _ _ _ (.old (.int _))
    · cases q
  · cases q) hg hm (by decide +kernel) (ma_cons ha ma_nil he) (by decide) (by decide) he hpl
theorem mo_min (hc : X.calm = true) (hg : Gl X "min") (hm : X.mg "min" = none) (ha : ME X c fa a) (he : starEach [a] X.env = (false, eval a X.env) :: starEach [] X.env := by rfl) (hpl : (backTo pos (starEach [] X.env)).any (·.1) = false := by rfl) :
    MO X c (oBlt (one (extD minI)) (aCons fa aNil)) (.Call (.Name "min" p) [a] [] pos) := mo_blt (cr_min hc) (CallL.one fun Y H Q x d o e r q g => by
  unfold extD at q
  split at q
  · rename_i xs
    split at q
    · rename_i n ns ei
      cases q
      obtain ⟨p, us, rfl, h1, d1⟩ := r.list_inv
      have h2 := e _ _ h1
      rw [asInts_vals d1 ei] at h2
      refine ⟨p, n :: ns, rfl, .inl (.inl h2), by simp, fun m hm hall => ?_⟩
      have e : m = minI n ns := by
        have h3 := minI_le ns n
        have h4 : m ≤ minI n ns := by
          rcases minI_mem ns n with z | z
          · rw [z]; exact hall n (by simp)
          · exact hall _ (by simp [z])
        have h5 : minI n ns ≤ m := by
          rcases List.mem_cons.mp hm with z | z
          · rw [z]; exact h3.1
          · exact h3.2 m z
        omega
      rw [e]
      exact g _ _ _ (.old (.int _))
    · cases q
  · cases q) hg hm (by decide +kernel) (ma_cons ha ma_nil he) (by decide) (by decide) he hpl
def two (F : D → D → Option OD) : List D → Option OD
  | [d, e] => F d e
  | _ => none
theorem CallL.two {r : List V → Hp → VK → Prop} {F : D → D → Option OD} (h : ∀ (Y H : Hp) (Q : VK) (x y : V) (d d' : D) (o : OD), Same Y H → Dr K Y x d → Dr K Y y d' → F d d' = some o → (∀ v Y' H', Gives K Y H v Y' H' o → Q v H') → r [x, y] H Q) : CallL K r (two F) := fun Y H Q xs ds o e ra q g => by
  cases ra with
  | nil => cases q
  | cons r1 rr =>
    cases rr with
    | nil => cases q
    | cons r2 rr =>
      cases rr with
      | nil => exact h Y H Q _ _ _ _ o e r1 r2 q g
      | cons _ _ => cases q
def max2D : D → D → Option OD
  | .int i, .int j => some (.fz (.int (if j > i then j else i)))
  | _, _ => none
def min2D : D → D → Option OD
  | .int i, .int j => some (.fz (.int (if j < i then j else i)))
  | _, _ => none
theorem mo_max2 (hc : X.calm = true) (hg : Gl X "max") (hm : X.mg "max" = none) (ha : ME X c fa a) (hb : ME X c fb b) (he : starEach [a, b] X.env = (false, eval a X.env) :: starEach [b] X.env := by rfl) (he2 : starEach [b] X.env = (false, eval b X.env) :: starEach [] X.env := by rfl) (hpl : (backTo pos (starEach [b] X.env)).any (·.1) = false := by rfl) :
    MO X c (oBlt (two max2D) (aCons fa (aCons fb aNil))) (.Call (.Name "max" p) [a, b] [] pos) := mo_blt (call_max2 hc) (CallL.two fun Y H Q x y d d' o e r r' q g => by
  unfold max2D at q
  split at q
  · cases q
    rw [r.int_inv, r'.int_inv]
    exact ⟨_, _, rfl, g _ _ _ (.old (.int _))⟩
  · cases q) hg hm (by decide +kernel) (ma_cons ha (ma_cons hb ma_nil he2) he) (by decide) (by decide) he hpl
theorem mo_min2 (hc : X.calm = true) (hg : Gl X "min") (hm : X.mg "min" = none) (ha : ME X c fa a) (hb : ME X c fb b) (he : starEach [a, b] X.env = (false, eval a X.env) :: starEach [b] X.env := by rfl) (he2 : starEach [b] X.env = (false, eval b X.env) :: starEach [] X.env := by rfl) (hpl : (backTo pos (starEach [b] X.env)).any (·.1) = false := by rfl) :
    MO X c (oBlt (two min2D) (aCons fa (aCons fb aNil))) (.Call (.Name "min" p) [a, b] [] pos) := mo_blt (call_min2 hc) (CallL.two fun Y H Q x y d d' o e r r' q g => by
  unfold min2D at q
  split at q
  · cases q
    rw [r.int_inv, r'.int_inv]
    exact ⟨_, _, rfl, g _ _ _ (.old (.int _))⟩
  · cases q) hg hm (by decide +kernel) (ma_cons ha (ma_cons hb ma_nil he2) he) (by decide) (by decide) he hpl
def boolsD (f : List Bool → Bool) : D → Option OD
  | .list xs => (asBools xs).map fun bs => .fz (.bool (f bs))
  | _ => none
theorem mo_all (hc : X.calm = true) (hg : Gl X "all") (hm : X.mg "all" = none) (ha : ME X c fa a) (he : starEach [a] X.env = (false, eval a X.env) :: starEach [] X.env := by rfl) (hpl : (backTo pos (starEach [] X.env)).any (·.1) = false := by rfl) :
    MO X c (oBlt (one (boolsD fun bs => bs.all id)) (aCons fa aNil)) (.Call (.Name "all" p) [a] [] pos) := mo_blt (cr_all hc) (CallL.one fun Y H Q x d o e r q g => by
  unfold boolsD at q
  split at q
  · simp only [Option.map_eq_some_iff] at q
    obtain ⟨ns, q, rfl⟩ := q
    obtain ⟨p, us, rfl, h1, d1⟩ := r.list_inv
    have h2 := e _ _ h1
    rw [asBools_vals d1 q] at h2
    exact ⟨p, ns, rfl, .inl (.inl h2), g _ _ _ (.old (.bl _))⟩
  · cases q) hg hm (by decide +kernel) (ma_cons ha ma_nil he) (by decide) (by decide) he hpl
theorem mo_any (hc : X.calm = true) (hg : Gl X "any") (hm : X.mg "any" = none) (ha : ME X c fa a) (he : starEach [a] X.env = (false, eval a X.env) :: starEach [] X.env := by rfl) (hpl : (backTo pos (starEach [] X.env)).any (·.1) = false := by rfl) :
    MO X c (oBlt (one (boolsD fun bs => bs.any id)) (aCons fa aNil)) (.Call (.Name "any" p) [a] [] pos) := mo_blt (cr_any hc) (CallL.one fun Y H Q x d o e r q g => by
  unfold boolsD at q
  split at q
  · simp only [Option.map_eq_some_iff] at q
    obtain ⟨ns, q, rfl⟩ := q
    obtain ⟨p, us, rfl, h1, d1⟩ := r.list_inv
    have h2 := e _ _ h1
    rw [asBools_vals d1 q] at h2
    exact ⟨p, ns, rfl, .inl (.inl h2), g _ _ _ (.old (.bl _))⟩
  · cases q) hg hm (by decide +kernel) (ma_cons ha ma_nil he) (by decide) (by decide) he hpl

/-! ### repr -/
mutual
theorem plain_noDict : ∀ d : D, plain d = true → d.hasDict = false
  | .none, _ => by simp [PyData.hasDict]
  | .bool _, _ => by simp [PyData.hasDict]
  | .int _, _ => by simp [PyData.hasDict]
  | .str _, _ => by simp [PyData.hasDict]
  | .list ds, h => by
    simp only [PyData.hasDict]
    exact plainAll_noDict ds (by simpa [plain] using h)
  | .tuple ds, h => by
    simp only [PyData.hasDict]
    exact plainAll_noDict ds (by simpa [plain] using h)
  | .dict _, h => by simp [plain] at h
theorem plainAll_noDict : ∀ ds : List D, plainAll ds = true → PyData.hasDictAll ds = false
  | [], _ => by simp [PyData.hasDictAll]
  | d :: ds, h => by
    rw [plainAll, Bool.and_eq_true] at h
    simp only [PyData.hasDictAll]
    rw [plain_noDict d h.1, plainAll_noDict ds h.2]
    rfl
end
def ReprOk (d : D) : Prop := plain d = true ∧ PyData.showable d = true ∧ d.depth ≤ 60 ∧ d.shown.length ≤ sizeLine
instance (d : D) : Decidable (ReprOk d) := inferInstanceAs (Decidable (_ ∧ _ ∧ _ ∧ _))
theorem call_repr_data (hG : X.A.guards = some []) (hu : X.A.units + 64 < cLine) : CallR X (.builtin "repr") (fun xs H Q => ∃ x d, xs = [x] ∧ Dp X.K H x d ∧ ReprOk d ∧ Q (.str d.shown) H) := by
  intro pins s σ H xs us Q I r h
  obtain ⟨x, d, rfl, hd, ⟨hp, hs, hdp, hz⟩, q⟩ := h
  cases r with
  | cons rx rr =>
    cases rr
    obtain ⟨as, rd⟩ := Dp.reads I d x _ hd rx
    have obj : ∀ a, x = .ref a → wpAny (model X.prog X.w) X.A (call (.builtin "repr") [.ref a]) (EP X pins σ Q) X.xe s := by
      rintro a rfl
      cases rx
      exact repr_of_reads' rd hs (PyData.noDict_hsm (plain_noDict d hp)) hG (by omega) (fun _ _ e => e) (fun h' u tk hk => ⟨.str _, H, I.kept hk, ⟨_, rfl⟩, q⟩) hz
    cases hd with
    | non =>
      cases rx
      exact PySem.P.repr_of_none ⟨.str _, H, I.tok _, ⟨_, rfl⟩, q⟩
    | bl b =>
      cases rx
      exact PySem.P.repr_of_bool ⟨.str _, H, I.tok _, ⟨_, rfl⟩, by
        simp only [PyData.shown] at q
        cases b <;> exact q⟩
    | int i =>
      obtain ⟨t, rfl⟩ := rx
      exact PySem.P.repr_of_int (by simpa [PyData.showable] using hs) ⟨.str _, H, I.tok _, ⟨_, rfl⟩, q⟩
    | str y =>
      obtain ⟨t, rfl⟩ := rx
      exact PySem.P.repr_of_str ⟨.str _, H, I.tok _, ⟨_, rfl⟩, q⟩ hz
    | lst _ _ =>
      cases rx
      exact obj _ rfl
    | tup _ _ =>
      cases rx
      exact obj _ rfl
def reprD (d : D) : Option OD := if ReprOk d then some (.fz (.str d.shown)) else none
theorem mo_repr (hXK : X.K = c.K) (hG : X.A.guards = some []) (hu : X.A.units + 64 < cLine) (hg : Gl X "repr") (hm : X.mg "repr" = none) (ha : ME X c fa a) (he : starEach [a] X.env = (false, eval a X.env) :: starEach [] X.env := by rfl) (hpl : (backTo pos (starEach [] X.env)).any (·.1) = false := by rfl) :
    MO X c (oBlt (one reprD) (aCons fa aNil)) (.Call (.Name "repr" p) [a] [] pos) := mo_blt (call_repr_data hG hu) (CallL.one fun Y H Q x d o e r q g => by
  unfold reprD at q
  split at q
  · rename_i hk
    cases q
    exact ⟨x, d, rfl, hXK ▸ r.dp e hk.1, hk, g _ _ _ (.old (.str _))⟩
  · cases q) hg hm (by decide +kernel) (ma_cons ha ma_nil he) (by decide) (by decide) he hpl

/-! ### isinstance -/
def kindS : D → String
  | .none => "NoneType"
  | .bool _ => "bool"
  | .int _ => "int"
  | .str _ => "str"
  | .list _ => "list"
  | .tuple _ => "tuple"
  | .dict [(.none, .list _)] => "?"
  | .dict _ => "dict"
def isiF (T : String) (d : D) : Option Bool := match d with
  | .dict _ => none
  | d => kitB (kindS d) T
theorem Dr.tyx {v : V} {d : D} {T : String} {b : Bool} (e : Same Y H) (r : Dr K Y v d) (h : isiF T d = some b) : TyX K H v (.type (kindS d)) ∧ kitB (kindS d) T = some b := by
  cases r with
  | non => exact ⟨.base .non, h⟩
  | bl b => exact ⟨.base (.bl b), h⟩
  | int i => exact ⟨.base (.int i), h⟩
  | str x => exact ⟨.base (.str x), h⟩
  | lst h1 _ => exact ⟨.base (.lst (e _ _ h1)), h⟩
  | lck _ _ => cases h
  | tup h1 _ =>
    refine ⟨?_, h⟩
    rcases h1 with (h1 | ⟨o, h1⟩) | ⟨o, its, n, h1, h2, _⟩
    · exact .base (.tup (e _ _ h1))
    · exact .fTuple (e _ _ h1)
    · exact .kTuple h1 h2
  | dk _ _ => cases h
  | dt _ _ => cases h
def eIsi (T : String) (f : EF) : EF := fun s => (f s).bind fun d s => (ofO (isiF T d) s).bind fun b s => .ok (.bool b) s
theorem me_isi {T : String} {x : Str} {p2 : Pos} (hXK : X.K = c.K) (hg : Gl X "isinstance") (hm : X.mg "isinstance" = none) (hg2 : Gl X x) (hm2 : X.mg x = none) (hv : bootBuiltins x = some (.type T)) (hn : x ≠ "__name__") (hdb : (x == ("__debug__" : Str)) = false) (ha : ME X c fa a)
    (he : starEach [a, .Name x p2] X.env = (false, eval a X.env) :: starEach [.Name x p2] X.env := by rfl) (he2 : starEach [.Name x p2] X.env = (false, eval (.Name x p2) X.env) :: starEach [] X.env := by rfl) (hpl : (backTo pos (starEach [.Name x p2] X.env)).any (·.1) = false := by rfl) :
    ME X c (eIsi T fa) (.Call (.Name "isinstance" p) [a, .Name x p2] [] pos) := by
  refine ⟨PE.imp (pe_callB call_isi hg hm (by decide +kernel) (pa_cons ha.run (pa_cons (pe_bltn (v := .ty T) hg2 hm2 hv rfl hn hdb) pa_nil he2) he) (by decide) (by decide) he hpl) fun σ H Q q => ?_⟩
  obtain ⟨ξ, Y, s, tv, ts, hK, F, q⟩ := q
  refine tE_seq hK F q fun d s1 Y1 H1 v e1 F1 r1 q1 => ?_
  cases eb : isiF T d with
  | none => rw [eb] at q1; exact q1.elim
  | some b =>
    rw [eb] at q1
    obtain ⟨t1, t2⟩ := r1.tyx F1.sub eb
    exact ⟨v, .ty T, .type (kindS d), .type T, b, rfl, .ty T, hXK ▸ t1, kit_ty t2, q1 Y1 H1 _ e1 F1 (.bl b)⟩

end
/-! ### list(reversed(x)) -/
section
open PyProof.Rows
theorem get_push_ne {h : Heap} {b : Addr} {o u : Obj} (n : b ≠ h.objs.size) (e : (h.push u).get? b = some o) : h.get? b = some o := by
  obtain ⟨e1, e2⟩ := Heap.get?_some_iff.mp e
  refine Heap.get?_some_iff.mpr ⟨?_, e2⟩
  cases h
  simpa [Heap.push, Array.getElem?_push, n] using e1
theorem pe_listRev {X : Cx} {e : Expr} {te : TE} {p p2 pos pos2 : Pos} (hc : X.calm = true) (hg : Gl X "list") (hm : X.mg "list" = none) (hg2 : Gl X "reversed") (hm2 : X.mg "reversed" = none) (he : PE X e te)
    (hs : starEach [e] X.env = (false, eval e X.env) :: starEach [] X.env := by rfl)
    (hs2 : starEach [.Call (.Name "reversed" p2) [e] [] pos2] X.env = (false, eval (.Call (.Name "reversed" p2) [e] [] pos2) X.env) :: starEach [] X.env := by rfl) :
    PE X (.Call (.Name "list" p) [.Call (.Name "reversed" p2) [e] [] pos2] [] pos) (fun σ H Q => te σ H fun v H1 => ∃ (a : Addr) (xs : List V), v = .ref a ∧ SqL X.K H1 a xs ∧ ∀ q, H1 q = none → Q (.ref q) (upd H1 q (.lst xs.reverse))) := by
  constructor
  intro pins s σ H Q I h
  refine Call_ (ld_blt I hg hm boot_list (callWith_type1 (args_cons (Call_ (ld_blt I hg2 hm2 boot_reversed (callWith_type1 (args_cons (thn (he.run pins s σ H _ I h) ?_) hs) hs rfl))) hs2) hs2 rfl))
  rintro u s1 ⟨v, H1, I1, r1, a, xs, ev, hq, q⟩
  subst ev
  obtain rfl : u = Value.ref a := r1
  obtain ⟨its, rv, p', hz⟩ := I1.list hq
  have isl := p'.isList
  refine args_nil (call_reversed_list isl (args_nil ?_))
  let sp := s1.heap.push (revObj a ((its.toArray.size : Int) - 1))
  have I2 : Inv X pins σ H1 { s1 with heap := sp } := I1.kept (t' := s1.toks) fun b o e => Heap.get?_push_of_some _ e
  obtain ⟨f0, f1, f2, f3, f4, f5⟩ := I1.fpOk (H' := H1) (b := s1.heap.objs.size) (Nat.le_refl _) (I1.hok.fresh (Nat.le_refl _))
  obtain ⟨ol, hol, _⟩ := id isl
  have ne : a ≠ s1.heap.objs.size := Nat.ne_of_lt (Heap.lt_size hol)
  have few : its.toArray.size ≤ sizeLine := by rw [List.size_toArray, ← rv.length]; exact hz
  refine list_of_rev (s := { s1 with heap := sp }) (I1.ok.hd hc) ⟨_, Heap.get?_push_size _ rfl, rfl, rfl⟩ (isl.push _) ne few ?_
  intro h' tk acc c' hk hS hi
  have fr : H1 sp.objs.size = none := I2.hok.fresh (Nat.le_refl _)
  have nS : sp.objs.size ≠ s1.heap.objs.size := by
    show (s1.heap.push _).objs.size ≠ _
    rw [Heap.size_push]; omega
  let o1 : Obj := { cls := .type "list", dict := none, data := .seq acc c', slots := #[] }
  have I4 : Inv X pins σ (upd H1 sp.objs.size (.lst xs.reverse)) { s1 with heap := sp.push o1 } := I2.laid (t' := s1.toks) (fun b o e => Heap.get?_push_of_some _ e) (Nat.le_refl _)
    ⟨by rw [List.length_reverse]; exact hz, acc.toList, c', RT.vals_rev rv hi, by rw [Array.toArray_toList]; exact Heap.get?_push_size _ rfl⟩
  have kept : ∀ b o, b ≠ s1.heap.objs.size → (sp.push o1).get? b = some o → h'.get? b = some o := fun b o hb e => by
    by_cases z : b = sp.objs.size
    · subst z
      rw [Heap.get?_push_size _ rfl] at e
      cases e
      exact hS
    · refine hk b o hb ?_
      show sp.get? b = some o
      exact get_push_ne z e
  have I5 := Inv.turned (s := { s1 with heap := sp.push o1 }) (h' := h') (it := s1.heap.objs.size) (t' := tk) I4 kept (by rw [upd_ne nS.symm]; exact f0) f1 f3 f4 f5
  exact ⟨.ref sp.objs.size, _, I5, rfl, q _ fr⟩
end
section
variable {X : Cx} {c : Ct} {K : PySem.W.Frag} {ξ : Fx} {Y H : Hp} {σ : St} {s : S} {tv : List V} {ts : List OD}
variable {fa fb : EF} {a b : Expr} {p pos : Pos}
def revD : D → Option OD
  | .list xs => some (.ol xs.reverse)
  | _ => none
theorem mo_listRev {p2 pos2 : Pos} (hc : X.calm = true) (hg : Gl X "list") (hm : X.mg "list" = none) (hg2 : Gl X "reversed") (hm2 : X.mg "reversed" = none) (ha : ME X c fa a)
    (hs : starEach [a] X.env = (false, eval a X.env) :: starEach [] X.env := by rfl)
    (hs2 : starEach [.Call (.Name "reversed" p2) [a] [] pos2] X.env = (false, eval (.Call (.Name "reversed" p2) [a] [] pos2) X.env) :: starEach [] X.env := by rfl) :
    MO X c (oOp1 revD fa) (.Call (.Name "list" p) [.Call (.Name "reversed" p2) [a] [] pos2] [] pos) := by
  refine ⟨PE.imp (pe_listRev hc hg hm hg2 hm2 ha.run hs hs2) fun σ H Q q => ?_⟩
  obtain ⟨ξ, Y, s, tv, ts, hK, F, q⟩ := q
  refine tE_seq hK F q fun d s1 Y1 H1 v e1 F1 r1 q1 => ?_
  unfold ofO revD at q1
  cases d with
  | list ds =>
    obtain ⟨p, us, rfl, h1, d1⟩ := r1.list_inv
    refine ⟨p, us, rfl, .inl (.inl (F1.sub _ _ h1)), fun n hn => ?_⟩
    obtain ⟨e4, F4⟩ := (Gives.lst hn d1.reverse).fs hK F1
    exact q1 _ _ _ (e1.trans e4) F4
  | none => exact q1.elim
  | bool _ => exact q1.elim
  | int _ => exact q1.elim
  | str _ => exact q1.elim
  | tuple _ => exact q1.elim
  | dict _ => exact q1.elim
/-! ### list(range(..)) -/
instance (a b : Int) : Decidable (RgOk a b) := inferInstanceAs (Decidable (_ ∧ _ ∧ _ ∧ _ ∧ _))
def oListRg1 (f : EF) : OF := fun s => (f s).bind fun d s => match d with
  | .int n => if RgOk 0 n then .ok (.ol (upto 0 n.toNat)) s else .bad
  | _ => .bad
theorem DrAll.upto {lo : Int} : ∀ (l : List Nat), DrAll K Y (l.map fun i : Nat => V.int (lo + (i : Int))) (l.map fun i : Nat => PyData.int (lo + (i : Int)))
  | [] => .nil
  | i :: l => .cons (.int _) (DrAll.upto l)
theorem mo_listRg1 {p2 pos2 : Pos} (hc : X.calm = true) (hg : Gl X "list") (hm : X.mg "list" = none) (hg2 : Gl X "range") (hm2 : X.mg "range" = none) (ha : ME X c fa a)
    (na : starEach [a] X.env = (false, eval a X.env) :: starEach [] X.env := by rfl) (na2 : starEach [.Call (.Name "range" p2) [a] [] pos2] X.env = (false, eval (.Call (.Name "range" p2) [a] [] pos2) X.env) :: starEach [] X.env := by rfl) :
    MO X c (oListRg1 fa) (.Call (.Name "list" p) [.Call (.Name "range" p2) [a] [] pos2] [] pos) := by
  refine ⟨PE.imp (pe_listRg hc hg hm (prg_1 hg2 hm2 ha.run na) na2) fun σ H Q q => ?_⟩
  obtain ⟨ξ, Y, s, tv, ts, hK, F, q⟩ := q
  refine tE_seq hK F q fun d s1 Y1 H1 v e1 F1 r1 q1 => ?_
  cases d with
  | int n =>
    simp only at q1
    split at q1
    · rename_i hn
      refine ⟨n, r1.int_inv, hn, fun k hk => ?_⟩
      have e2 : rgV 0 n = (List.range n.toNat).map fun i : Nat => V.int (0 + (i : Int)) := by unfold rgV; simp
      rw [e2]
      obtain ⟨e4, F4⟩ := (Gives.lst hk (DrAll.upto (lo := 0) (List.range n.toNat))).fs hK F1
      exact q1 _ _ _ (e1.trans e4) F4
    · exact q1.elim
  | none => exact q1.elim
  | bool _ => exact q1.elim
  | str _ => exact q1.elim
  | list _ => exact q1.elim
  | tuple _ => exact q1.elim
  | dict _ => exact q1.elim

/-! ### methods of owned lists -/
def eAppend (i : Nat) (f : EF) : EF := fun s => match s[i]? with
  | some (some (.ol _)) => (f s).bind fun d s1 => match s1[i]? with
    | some (some (.ol ds)) => if ds.length < sizeLine then .ok .none (s1.set i (some (.ol (ds ++ [d])))) else .bad
    | _ => .bad
  | _ => .bad
theorem me_append {i : Nat} {o : Expr} {apos : Pos} (ho : PE X o (tVar i)) (ha : ME X c fa a)
    (hbase : attributeBase o "append" X.env (eval o X.env) = eval o X.env := by rfl)
    (hfew : ((backTo pos (starEach [a] X.env)).all (fun x => !x.1) && (backToKw pos (keywordEach [] X.env)).all (fun x => x.1.isSome)
      && decide (([a] : List Expr).length + ([] : List Keyword).length + (if ([] : List Keyword).isEmpty then 0 else 1) < 30)) = true := by rfl)
    (hline : (apos.endLine == pos.line) = true := by rfl) (hs : starEach [a] X.env = (false, eval a X.env) :: starEach [] X.env := by rfl) (hplain : (backTo pos (starEach [] X.env)).any (·.1) = false := by rfl) :
    ME X c (eAppend i fa) (.Call (.Attribute o "append" apos) [a] [] pos) := by
  refine ⟨PE.imp (pe_bm PySem.F.plainAttrs_list PySem.F.slot_list_append PySem.F.type_list_append mt_append ho (pa_cons ha.run pa_nil hs) hbase hfew hline hs hplain) fun σ H Q q => ?_⟩
  obtain ⟨ξ, Y, s, tv, ts, hK, F, q⟩ := q
  unfold eAppend at q
  split at q
  rotate_left
  · exact q.elim
  rename_i ds0 e0
  obtain ⟨p, vs, hv, hp, _, _⟩ := F.listS e0
  refine ⟨.ref p, hv, .inl ⟨rfl, vs, .inl (.inl hp)⟩, ?_⟩
  refine tE_seq hK F q fun d s1 Y1 H1 v e1 F1 r1 q1 => ?_
  split at q1
  rotate_left
  · exact q1.elim
  rename_i ds1 e2
  split at q1
  rotate_left
  · exact q1.elim
  rename_i hsz
  obtain ⟨p', vs', hv', hp', hd', wr⟩ := F1.listS e2
  rw [hv] at hv'
  cases hv'
  exact ⟨p, vs', v, rfl, rfl, hp', by rw [hd'.length]; exact hsz, q1 Y1 _ _ e1 (wr _ _ (hd'.append (.cons (hK ▸ r1) .nil))) .non⟩
def eExtend (i : Nat) (f : EF) : EF := fun s => match s[i]? with
  | some (some (.ol _)) => (f s).bind fun d s1 => match d, s1[i]? with
    | .list es, some (some (.ol ds)) => if ds.length + es.length ≤ sizeLine then .ok .none (s1.set i (some (.ol (ds ++ es)))) else .bad
    | _, _ => .bad
  | _ => .bad
theorem me_extend {i : Nat} {o : Expr} {apos : Pos} (ho : PE X o (tVar i)) (ha : ME X c fa a)
    (hbase : attributeBase o "extend" X.env (eval o X.env) = eval o X.env := by rfl)
    (hfew : ((backTo pos (starEach [a] X.env)).all (fun x => !x.1) && (backToKw pos (keywordEach [] X.env)).all (fun x => x.1.isSome)
      && decide (([a] : List Expr).length + ([] : List Keyword).length + (if ([] : List Keyword).isEmpty then 0 else 1) < 30)) = true := by rfl)
    (hline : (apos.endLine == pos.line) = true := by rfl) (hs : starEach [a] X.env = (false, eval a X.env) :: starEach [] X.env := by rfl) (hplain : (backTo pos (starEach [] X.env)).any (·.1) = false := by rfl) :
    ME X c (eExtend i fa) (.Call (.Attribute o "extend" apos) [a] [] pos) := by
  refine ⟨PE.imp (pe_bm PySem.F.plainAttrs_list PySem.F.slot_list_extend PySem.F.type_list_extend mt_extend ho (pa_cons ha.run pa_nil hs) hbase hfew hline hs hplain) fun σ H Q q => ?_⟩
  obtain ⟨ξ, Y, s, tv, ts, hK, F, q⟩ := q
  unfold eExtend at q
  split at q
  rotate_left
  · exact q.elim
  rename_i ds0 e0
  obtain ⟨p, vs, hv, hp, _, _⟩ := F.listS e0
  refine ⟨.ref p, hv, .inl ⟨rfl, vs, .inl (.inl hp)⟩, ?_⟩
  refine tE_seq hK F q fun d s1 Y1 H1 v e1 F1 r1 q1 => ?_
  split at q1
  rotate_left
  · exact q1.elim
  rename_i es ds1 e2
  split at q1
  rotate_left
  · exact q1.elim
  rename_i hsz
  obtain ⟨p', vs', hv', hp', hd', wr⟩ := F1.listS e2
  rw [hv] at hv'
  cases hv'
  obtain ⟨b, zs, rfl, hb, hz⟩ := r1.list_inv
  exact ⟨p, b, vs', zs, rfl, rfl, hp', F1.sub _ _ hb, by rw [hd'.length, hz.length]; exact hsz, q1 Y1 _ _ e1 (wr _ _ (hd'.append (hK ▸ hz))) .non⟩
/-- x.pop() -/
def ePop (i : Nat) : EF := fun s => match s[i]? with
  | some (some (.ol ds)) => match ds[ds.length - 1]? with
    | some d => .ok d (s.set i (some (.ol ds.dropLast)))
    | none => .bad
  | _ => .bad
theorem me_pop {i : Nat} {o : Expr} {apos : Pos} (ho : PE X o (tVar i)) (hbase : attributeBase o "pop" X.env (eval o X.env) = eval o X.env := by rfl) (hline : (apos.endLine == pos.line) = true := by rfl) :
    ME X c (ePop i) (.Call (.Attribute o "pop" apos) [] [] pos) := by
  refine ⟨PE.imp (pe_bm0 PySem.F.plainAttrs_list PySem.F.slot_list_pop PySem.F.type_list_pop mt_pop ho hbase hline) fun σ H Q q => ?_⟩
  obtain ⟨ξ, Y, s, tv, ts, hK, F, q⟩ := q
  unfold ePop at q
  split at q
  rotate_left
  · exact q.elim
  rename_i ds e0
  split at q
  rotate_left
  · exact q.elim
  rename_i d ed
  obtain ⟨p, vs, hv, hp, hd, wr⟩ := F.listS e0
  obtain ⟨v, ev, rv⟩ := hd.get ed
  exact ⟨.ref p, hv, .inl ⟨rfl, vs, .inl (.inl hp)⟩, p, vs, v, rfl, rfl, hp, by rw [hd.length]; exact ev, q Y _ _ (Same.refl _) (wr _ _ hd.dropLast) (hK ▸ rv)⟩
/-! ### items of owned lists of owned things: x[k], k written -/
/-- x[k] as a place -/
theorem pe_place {i : Nat} {k : Int} {o : Expr} {j : Nat} {kp : Pos} (ho : PE X o (tVar i)) : PE X (.Subscript o (.Constant (.int k) j kp) pos) (fun σ H Q => ∃ p vs v, σ[i]? = some (some (.ref p)) ∧ H p = some (.lst vs) ∧ atI vs k = some v ∧ Q v H) :=
  PE.imp (pe_ix ix_list ho pe_int (fun _ _ => rfl)) fun σ H Q ⟨p, vs, v, h1, h2, h3, q⟩ => ⟨.ref p, h1, p, vs, k, v, rfl, rfl, .inl (.inl h2), h3, q⟩
def ePopN (i k : Nat) : EF := fun s => match s[i]? with
  | some (some (.on os)) => match os[k]? with
    | some (.ol ds) => match ds[ds.length - 1]? with
      | some d => .ok d (s.set i (some (.on (os.set k (.ol ds.dropLast)))))
      | none => .bad
    | _ => .bad
  | _ => .bad
theorem me_popN {i k : Nat} {o : Expr} {apos : Pos} (ho : PE X o (fun σ H Q => ∃ p vs v, σ[i]? = some (some (.ref p)) ∧ H p = some (.lst vs) ∧ atI vs (k : Int) = some v ∧ Q v H)) (hbase : attributeBase o "pop" X.env (eval o X.env) = eval o X.env := by rfl) (hline : (apos.endLine == pos.line) = true := by rfl) :
    ME X c (ePopN i k) (.Call (.Attribute o "pop" apos) [] [] pos) := by
  refine ⟨PE.imp (pe_bm0 PySem.F.plainAttrs_list PySem.F.slot_list_pop PySem.F.type_list_pop mt_pop ho hbase hline) fun σ H Q q => ?_⟩
  obtain ⟨ξ, Y, s, tv, ts, hK, F, q⟩ := q
  unfold ePopN at q
  split at q
  rotate_left
  · exact q.elim
  rename_i os e0
  split at q
  rotate_left
  · exact q.elim
  rename_i ds e1
  split at q
  rotate_left
  · exact q.elim
  rename_i d ed
  obtain ⟨p, vs, n, ws, h1, h2, h3, h4, h5, hd, wr⟩ := F.nestList e0 e1
  obtain ⟨v, ev, rv⟩ := hd.get ed
  exact ⟨p, vs, .ref n, h1, h2, atI_nat h4, .inl ⟨rfl, ws, .inl (.inl h5)⟩, n, ws, v, rfl, rfl, h5, by rw [hd.length]; exact ev, q Y _ _ (Same.refl _) (wr _ _ hd.dropLast) (hK ▸ rv)⟩
/-- x[k] of a leaf -/
def eItemN (i k : Nat) : EF := fun s => match s[i]? with
  | some (some (.on os)) => match os[k]? with
    | some (.fz d) => .ok d s
    | _ => .bad
  | _ => .bad
theorem me_itemN {i k : Nat} {o : Expr} (ho : PE X o (fun σ H Q => ∃ p vs v, σ[i]? = some (some (.ref p)) ∧ H p = some (.lst vs) ∧ atI vs (k : Int) = some v ∧ Q v H)) : ME X c (eItemN i k) o := by
  refine ⟨PE.imp ho fun σ H Q q => ?_⟩
  obtain ⟨ξ, Y, s, tv, ts, hK, F, q⟩ := q
  unfold eItemN at q
  split at q
  rotate_left
  · exact q.elim
  rename_i os e0
  split at q
  rotate_left
  · exact q.elim
  rename_i d e1
  obtain ⟨p, vs, v, h1, h2, h3, h4, r⟩ := F.nestGet e0 e1
  exact ⟨p, vs, v, h1, h2, atI_nat h4, q Y H v (Same.refl _) F (hK ▸ r)⟩
/-- x[k] of an owned list, looked at within an operator that keeps nothing of it: its data -/
def eLookN (i k : Nat) : EF := fun s => match s[i]? with
  | some (some (.on os)) => match os[k]? with
    | some (.ol ds) => .ok (.list ds) s
    | _ => .bad
  | _ => .bad
/-- x[k] != [] and x[k] == [] -/
def kEmptyN (neg : Bool) (i k : Nat) : TF := fun s => match s[i]? with
  | some (some (.on os)) => match os[k]? with
    | some (.ol ds) => if plainAll ds = true ∧ SeqAt.shaped (.list ds) = true then .ok (if neg = true then !(PyData.eqv (.list ds) (.list [])) else PyData.eqv (.list ds) (.list [])) s else .bad
    | _ => .bad
  | _ => .bad
theorem mt_emptyN {i k : Nat} {o : Expr} {lp : Pos} (hXK : X.K = c.K) (hu : X.A.units + 64 < cLine) (ho : PE X o (fun σ H Q => ∃ p vs v, σ[i]? = some (some (.ref p)) ∧ H p = some (.lst vs) ∧ atI vs (k : Int) = some v ∧ Q v H)) (hm : behindInMarks .NotEq (.List [] lp) = false := by rfl) :
    MT X c (kEmptyN true i k) (.Compare o [.NotEq] [.List [] lp] pos) := by
  refine ⟨PT.imp (pt_cmpR (op_neD hu) ho (pe_lst pa_nil) hm) fun σ H Q q => ?_⟩
  obtain ⟨ξ, Y, s, tv, ts, hK, F, q⟩ := q
  unfold kEmptyN at q
  split at q
  rotate_left
  · exact q.elim
  rename_i os e0
  split at q
  rotate_left
  · exact q.elim
  rename_i ds e1
  split at q
  rotate_left
  · exact q.elim
  rename_i hds
  obtain ⟨p, vs, n, ws, h1, h2, h3, h4, h5, hd, wr⟩ := F.nestList e0 e1
  refine ⟨p, vs, .ref n, h1, h2, atI_nat h4, Nat.zero_le _, fun w hw => ?_⟩
  have nw : n ≠ w := ne_of_none h5 hw
  have F2 := F.newJ hw (.lst [])
  refine ⟨.list ds, .list [], .lst (.inl (.inl (by rw [upd_ne nw]; exact h5))) (by rw [hXK, ← hK]; exact hd.dp F2.sub hds.1), .lst (.inl (.inl upd_same)) .nil, hds.2, by decide, _, rfl, q Y _ (Same.refl _) F2⟩

/-! ### x[i] = value -/
/-- an int that only looks at frozen slots and written numbers; nothing changes -/
abbrev JF := S → Option Int
def t0 (K : PySem.W.Frag) (f : JF) : TE := fun σ H Q => ∃ ξ Y s tv ts, ξ.K = K ∧ FS ξ Y H σ s tv ts ∧ ∃ n, f s = some n ∧ Q (.int n) H
structure MJ (X : Cx) (c : Ct) (f : JF) (e : Expr) : Prop where
  run : PE X e (t0 c.K f)
def jVar (i : Nat) : JF := fun s => match s[i]? with
  | some (some (.fz (.int n))) => some n
  | _ => none
def jC (n : Int) : JF := fun _ => some n
def jAdd (f g : JF) : JF := fun s => (f s).bind fun a => (g s).map fun b => a + b
def jSub (f g : JF) : JF := fun s => (f s).bind fun a => (g s).map fun b => a - b
def jNeg (f : JF) : JF := fun s => (f s).map fun a => -a
theorem mj_var {i : Nat} {e : Expr} (h : PE X e (tVar i)) : MJ X c (jVar i) e := by
  refine ⟨PE.imp h fun σ H Q q => ?_⟩
  obtain ⟨ξ, Y, s, tv, ts, hK, F, n, en, q⟩ := q
  unfold jVar at en
  split at en
  · rename_i m em
    cases en
    obtain ⟨v, hv, r⟩ := F.frozen em
    rw [r.int_inv] at hv
    exact ⟨_, hv, q⟩
  · cases en
theorem mj_int {i : Int} {j : Nat} : MJ X c (jC i) (.Constant (.int i) j pos) := by
  refine ⟨PE.imp pe_int fun σ H Q q => ?_⟩
  obtain ⟨ξ, Y, s, tv, ts, hK, F, n, en, q⟩ := q
  cases en
  exact q
theorem mj_add {f g : JF} (ha : MJ X c f a) (hb : MJ X c g b) : MJ X c (jAdd f g) (.BinOp a .Add b pos) := by
  refine ⟨PE.imp (pe_op op_add ha.run hb.run) fun σ H Q q => ?_⟩
  obtain ⟨ξ, Y, s, tv, ts, hK, F, n, en, q⟩ := q
  simp only [jAdd, Option.bind_eq_some_iff, Option.map_eq_some_iff] at en
  obtain ⟨x, hx, y, hy, rfl⟩ := en
  exact ⟨ξ, Y, s, tv, ts, hK, F, x, hx, ξ, Y, s, tv, ts, hK, F, y, hy, x, y, rfl, rfl, q⟩
theorem mj_sub {f g : JF} (ha : MJ X c f a) (hb : MJ X c g b) : MJ X c (jSub f g) (.BinOp a .Sub b pos) := by
  refine ⟨PE.imp (pe_op op_sub ha.run hb.run) fun σ H Q q => ?_⟩
  obtain ⟨ξ, Y, s, tv, ts, hK, F, n, en, q⟩ := q
  simp only [jSub, Option.bind_eq_some_iff, Option.map_eq_some_iff] at en
  obtain ⟨x, hx, y, hy, rfl⟩ := en
  exact ⟨ξ, Y, s, tv, ts, hK, F, x, hx, ξ, Y, s, tv, ts, hK, F, y, hy, x, y, rfl, rfl, q⟩
theorem mj_neg {f : JF} (ha : MJ X c f a) : MJ X c (jNeg f) (.UnaryOp .USub a pos) := by
  refine ⟨PE.imp (pe_un un_neg ha.run) fun σ H Q q => ?_⟩
  obtain ⟨ξ, Y, s, tv, ts, hK, F, n, en, q⟩ := q
  simp only [jNeg, Option.map_eq_some_iff] at en
  obtain ⟨x, hx, rfl⟩ := en
  exact ⟨ξ, Y, s, tv, ts, hK, F, x, hx, x, rfl, q⟩
/-- an item of an owned list (slot i) -/
def gItem (i : Nat) (f : EF) : D → S → Res Unit := fun d s => match s[i]? with
  | some (some (.ol _)) => (f s).bind fun k s1 => match k, s1[i]? with
    | .int n, some (some (.ol ds)) => match ixN ds.length n with
      | some j => .ok () (s1.set i (some (.ol (ds.set j d))))
      | none => .bad
    | _, _ => .bad
  | some (some (.on _)) => (f s).bind fun k s1 => match k, s1[i]? with
    | .int n, some (some (.on os)) => match ixN os.length n with
      | some j => .ok () (s1.set i (some (.on (os.set j (.fz d)))))
      | none => .bad
    | _, _ => .bad
  | _ => .bad
def sItem (i : Nat) (idx : EF) (f : EF) : SF := fun s => (f s).toS fun d s => (gItem i idx d s).toS fun _ s => .nx s
theorem item_read (F : FS ξ Y H σ s tv ts) {i : Nat} {o : OD} (h : s[i]? = some (some o)) (ho : (∃ ds, o = .ol ds) ∨ ∃ os, o = .on os) : ∃ p, σ[i]? = some (some (.ref p)) := by
  rcases ho with ⟨ds, rfl⟩ | ⟨os, rfl⟩
  · obtain ⟨p, vs, hv, _⟩ := F.listS h
    exact ⟨p, hv⟩
  · obtain ⟨g, R⟩ := F.rel
    obtain ⟨v, hv, r⟩ := R.slot i _ h
    obtain ⟨p, _, _, rfl, _⟩ := r.on_inv
    exact ⟨p, hv⟩
theorem ms_item {rf : List Bool} {i : Nat} {fi fv : EF} {o ix e : Expr} {tpos : Pos} (h : ME X c fv e) (ho : PE X o (tVar i)) (hi : ME X c fi ix)
    (ha : ∀ v, assign (.Subscript o ix tpos) X.env v = (do
      let ov ← holding [v] (eval o X.env)
      let iv ← holding [v, ov] (eval ix X.env)
      standAt tpos
      holding [v, ov, iv] (setItem ov iv v)
      release [v, ov, iv] []) := by intro _; rfl)
    (hs : swapsWithSole [.Subscript o ix tpos] e pos.line X.env = pure false := by rfl) (hw : swappedStores [.Subscript o ix tpos] e X.env = pure none := by rfl)
    (h1 : (assignEach [.Subscript o ix tpos] X.env).map (·.2) = [assign (.Subscript o ix tpos) X.env] := by rfl) : MS X c rf (sItem i fi fv) (.Assign [.Subscript o ix tpos] e pos) := by
  refine ⟨PS.imp (ps_asg h.run (pg_sub ho hi.run set_list ha) hs hw h1) fun D σ H q => ?_⟩
  obtain ⟨ξ, Y, s, hK, F, q⟩ := q
  refine sE_seq hK F q fun d s1 Y1 H1 v e1 F1 r1 q1 => ?_
  have go : ∀ (hp : ∃ p, σ[i]? = some (some (.ref p))) (k : PyData → S → Res Unit), outS c rf ξ Y σ D ((((fi s1).bind k).toS fun _ s => .nx s)) →
      (∀ p n s2 Y2 H2, σ[i]? = some (some (.ref p)) → Same Y1 Y2 → FS ξ Y2 H2 σ s2 [] [] → outS c rf ξ Y σ D ((k (PyData.int n) s2).toS fun _ s => .nx s) → rSetL (.ref p) (.int n) v H2 (fun H3 => D.nx σ H3)) →
      (∀ d s, (∀ n, d ≠ PyData.int n) → k d s = .bad) → gSub (tVar i) (tE c fi) rSetL v σ H1 D.nx := by
    rintro ⟨p, hp⟩ k q2 fin no
    refine ⟨.ref p, hp, ?_⟩
    refine ⟨ξ, Y1, s1, [], [], hK, F1, ?_⟩
    cases ef : fi s1 with
    | bad => rw [ef] at q2; exact q2.elim
    | ex x s2 => rw [ef] at q2; exact fun Y' H' cl z e' F' er => q2 Y' H' σ cl z (e1.trans e') (.refl _ _) F' er
    | ok d2 s2 =>
      rw [ef, Res.bind_ok] at q2
      intro Y2 H2 v2 e2 F2 r2
      by_cases hn : ∃ n, d2 = .int n
      · obtain ⟨n, rfl⟩ := hn
        rw [r2.int_inv]
        exact fin p n s2 Y2 H2 hp e2 F2 q2
      · rw [no d2 s2 fun n e => hn ⟨n, e⟩] at q2
        exact q2.elim
  unfold gItem at q1
  split at q1
  · rename_i ds0 e0
    refine go (item_read F1 e0 (.inl ⟨_, rfl⟩)) _ q1 (fun p n s2 Y2 H2 hp e2 F2 q2 => ?_) (fun d s hd => ?_)
    · split at q2
      · rename_i n' ds en em
        cases en
        split at q2
        · rename_i j ej
          obtain ⟨p', vs', hv', hp', hd', wr⟩ := F2.listS em
          rw [hp] at hv'
          cases hv'
          refine ⟨p, vs', n, j, rfl, rfl, hp', by rw [hd'.length]; exact ej, ?_⟩
          exact q2 Y2 _ σ (e1.trans e2) (.refl _ _) (wr _ _ (hd'.set (hK ▸ r1.mono e2) j))
        · exact q2.elim
      · exact q2.elim
    · cases d <;> first | rfl | exact (hd _ rfl).elim
  · rename_i os0 e0
    refine go (item_read F1 e0 (.inr ⟨_, rfl⟩)) _ q1 (fun p n s2 Y2 H2 hp e2 F2 q2 => ?_) (fun d s hd => ?_)
    · split at q2
      · rename_i n' os en em
        cases en
        split at q2
        · rename_i j ej
          have hj : j < os.length := by
            have := (ixN_seq ej)
            omega
          obtain ⟨p', vs', hv', hp', hl, F3⟩ := F2.nestSet em hj (hK ▸ r1.mono e2)
          rw [hp] at hv'
          cases hv'
          exact ⟨p, vs', n, j, rfl, rfl, hp', by rw [hl]; exact ej, q2 Y2 _ σ (e1.trans e2) (.refl _ _) F3⟩
        · exact q2.elim
      · exact q2.elim
    · cases d <;> first | rfl | exact (hd _ rfl).elim
  · exact q1.elim
end
end MI

set_option Elab.async false
set_option linter.all false
set_option autoImplicit false
set_option maxRecDepth 100000
/-! MI: the end of a law. -/
namespace MI
open PySem PySem.Spec L2
open PyProof.Rows (AllBare)
/-- the law's call over an abstract heap that tracks the script at most -/
theorem ends_core {P : Program} {w : World} {K : PySem.W.Frag} {mg mb : Str → Option Value} {k : Nat} {fa a : Addr} {fd : FuncData} {x : Str} {sp : Sp} {s : Shared} {vs : List Value} {H : Hp}
    (KX : K.In s.heap) (hns : s.heap.Ns mainGlobals mg) (hb : s.heap.Ns builtinsNs mb) (hbb : ∀ x : Str, x ≠ "__name__" → mb x = bootBuiltins x) (hlim : s.heap.NoLimit) (hg : s.gens = #[])
    (ha : s.heap.get? a = some { cls := .type "list", data := .seq vs.toArray }) (hr : Room k callerA) (F : ∀ base : Heap, K.In base → base.Ns mainGlobals mg → FnG P w K mg base CX0 k fa fd [x] sp)
    (hbind : ∀ (s : Shared) (u : Value), BindsTo s fd ⟨[u], []⟩ [(x, u)]) (hsp : sp [.ref a] H (fun v _ => v = .bl true) fun _ _ _ => False)
    (ok : HOk P w H s.heap) (only : ∀ b, H b = none ∨ (b = a ∧ K.lookup a = none ∧ ∃ o xs, H b = some (.frz o (.lst xs)))) :
    codeAny (model P w) callerA (.call (.ref fa) ⟨[.ref a], []⟩) (fun r s' => r = .ok (.ret (.bool true)) ∧ OldK s.heap s'.heap ∧ s'.os = s.os ∧ AllBare s'.gens) s := by
  have notdict : ∀ {b : Addr} {o : Obj} {es : Array DictEntry} {ep : Nat}, s.heap.get? b = some o → o.data = .dict es ep → H b = none := by
    intro b o es ep e d
    rcases only b with z | ⟨rfl, _, _⟩
    · exact z
    · rw [e] at ha
      cases ha
      cases d
  have ns : ∀ {b : Addr} {m : Str → Option Value}, s.heap.Ns b m → (hidT s.heap H).Ns b m := by
    rintro b m ⟨o, es, ep, e, d, r⟩
    exact ⟨o, es, ep, hidT_get e (notdict e d), d, r⟩
  have inK : K.In (hidT s.heap H) := fun b o e => hidT_get (KX b o e) (by
    rcases only b with z | ⟨rfl, z, _⟩
    · exact z
    · rw [z] at e; cases e)
  obtain ⟨mc, l1, l2⟩ := hlim
  have md : Mod K mg (hidT s.heap H) := ⟨inK, ns hns, ⟨mb, ns hb, hbb⟩, ⟨mc, ns l1, l2⟩⟩
  have e0 : Env0 P w K mg (hidT s.heap H) callerA [] s H := by
    refine ⟨rfl, md, fun b o e => of_hidT e, Nat.le_of_eq (hidT_size _ _), trivial, fun b hb => ?_, ok, .of_eq hg⟩
    cases hb
  refine codeAny_mono ((F _ inK (ns hns)).run callerA [] s H ⟨[.ref a], []⟩ [.ref a] [.ref a] _ _ rfl hr e0 (hbind s (.ref a)) (.cons rfl .nil) hsp) ?_
  intro r s' h
  cases r with
  | error e => exact h.elim
  | ok fl =>
    cases fl with
    | next => exact False.elim h
    | brk => exact False.elim h
    | cont => exact False.elim h
    | ret u =>
      obtain ⟨v, H', os, bare, un, ok', rv, rfl⟩ := h
      obtain rfl : u = Value.bool true := rv
      refine ⟨rfl, OldK.of_keep fun b o e => ?_, os, bare⟩
      rcases only b with z | ⟨_, _, ob, xs, z⟩
      · exact un.keep b o e z (by intro q; cases q) (by intro q; cases q)
      · obtain ⟨e1, _⟩ := ok b _ z
        obtain ⟨e2, _⟩ := ok' b _ (un.frzs b ob _ z)
        rw [e] at e1
        cases e1
        exact e2
theorem ends_of {l : PySem.W.OpenLaw} {n k : Nat} {q : Program} {loose : List Str} {XP : (Str → Option Value) → Heap → Prop} {YP : World → Heap → Prop} {d : DefRec} {K : Params → PySem.W.Frag} {sp : World → Sp} {x : Str}
    (hn : l.most = some n) (hn2 : n ≤ sizeLine) (hdf : d.params.defaults = []) (hr : Room k callerA) (hY : ∀ (w : World) (h : Heap), YP w h → (K w.params).In h)
    (F : ∀ (w : World) (mg : Str → Option Value) (fa : Addr) (h : Heap), (K w.params).In h → h.Ns mainGlobals mg → mg d.name = some (.ref fa) → ∃ fd : FuncData, (∀ (s : Shared) (u : Value), BindsTo s fd ⟨[u], []⟩ [(x, u)]) ∧
      ∀ base : Heap, (K w.params).In base → base.Ns mainGlobals mg → FnG l.prog w (K w.params) mg base CX0 k fa fd [x] (sp w))
    (hsp : ∀ (w : World) (H : Hp) (a : Addr) (ns : List Int), ns.length ≤ n → SqL (K w.params) H a (ns.map V.int) → sp w [.ref a] H (fun v _ => v = .bl true) fun _ _ _ => False) :
    PySem.W.WalkO q loose XP YP l.row.toRowW d [] (fun f vs => PySem.call f vs) := by
  refine Att.attach_call hn hdf ?_
  intro w s₀ s₁ mg mb fa o pm cd doc a vs ns G Y ho hd hcd hmg hobj hints hlen hg
  have KX := hY w _ Y
  obtain ⟨fd, hb, hF⟩ := F w mg fa _ KX G.T.g hmg
  have rv := vals_ints hints
  have lenV := hints.length
  have hsz : ns.length ≤ sizeLine := Nat.le_trans hlen hn2
  cases hk : (K w.params).lookup a with
  | some o =>
    have e := KX a o hk
    rw [hobj] at e
    cases e
    refine ends_core (H := fun _ => none) KX G.T.g G.T.b G.T.builtins G.T.nolimit hg hobj hr hF hb (hsp w _ a ns hlen ?_) (fun b u z => nomatch z) fun _ => .inl rfl
    exact .inr ⟨_, vs.toArray, _, hk, rfl, rfl, rfl, by rw [List.size_toArray, lenV]; exact hsz, by simpa using rv⟩
  | none =>
    let u : HO := .frz { cls := .type "list", data := .seq vs.toArray } (.lst (ns.map V.int))
    refine ends_core (H := upd (fun _ => none) a u) KX G.T.g G.T.b G.T.builtins G.T.nolimit hg hobj hr hF hb (hsp w _ a ns hlen (.inl (.inr ⟨_, upd_same⟩))) (fun b z e => ?_) fun b => ?_
    · by_cases hb : b = a
      · subst hb
        rw [upd_same] at e
        cases e
        exact ⟨hobj, by rw [List.length_map]; exact hsz, vs, _, rv, hobj⟩
      · rw [upd_ne hb] at e
        cases e
    · by_cases hb : b = a
      · exact .inr ⟨hb, hk, _, _, by rw [hb]; exact upd_same⟩
      · exact .inl (upd_ne hb)
/-- the law's promise holds where its function tells True of each script -/
theorem law_true {K : PySem.W.Frag} {er : Exn → Value → Option Addr → Hp → Prop} {F : List OD → Res OD} {H : Hp} {a : Addr} {ns : List Int} (hS : SqL K H a (ns.map V.int)) (hF : ∃ s, F [.fz (lockD (ns.map PyData.int))] = .ok (.fz (.bool true)) s) :
    spF K er false 1 F [.ref a] H (fun v _ => v = .bl true) (fun _ _ _ => False) := by
  obtain ⟨s, e⟩ := hF
  refine ⟨⟨K, H, H, fun _ => False⟩, H, [.fz (lockD (ns.map PyData.int))], rfl, rfl, rfl, rfl, ?_, ?_⟩
  · refine ⟨Same.refl _, Same.refl _, fun a h => .inl h, fun _ _ h _ => h, fun _ h => h, rfl, rfl, fun _ _ => False, fun i o e => ?_, fun j o e => ?_, fun i a f => f.elim, fun _ _ _ f => f.elim⟩
    · cases i with
      | zero =>
        cases e
        exact ⟨.ref a, rfl, .fz (.lck hS (DrAll.of_ints ns))⟩
      | succ i => cases e
    · cases e
  · rw [e]
    intro Y' H' v _ F'
    obtain ⟨g, R⟩ := F'.rel
    obtain ⟨v', e1, r⟩ := R.temp 0 _ rfl
    cases e1
    exact r.fz_inv.bool_inv
end MI

set_option Elab.async false
set_option linter.all false
set_option autoImplicit false
set_option maxRecDepth 100000
/-! MI: written tables, more walks. -/
namespace MI
open PySem PySem.Spec L2
section
variable {X : Cx} {c : Ct} {K : PySem.W.Frag} {ξ : Fx} {Y H : Hp} {σ : St} {s : S} {tv : List V} {ts : List OD}
variable {fa fb : EF} {a b : Expr} {p pos : Pos}
/-- {k: n, ..}[i], all ints written -/
def tabV (kvs : List (Int × Int)) : List (Key × V) := kvs.map fun q => (Sum.inl q.1, V.int q.2)
def eTab (kvs : List (Int × Int)) (f : EF) : EF := fun s => (f s).bind fun d s => match d with
  | .int i => match valV (mergeK [] (tabV kvs)) (Sum.inl i) with
    | some (.int n) => .ok (.int n) s
    | _ => .bad
  | _ => .bad
inductive TabE : List (Int × Int) → List (Option Expr) → List Expr → Prop
  | nil : TabE [] [] []
  | cons {k n : Int} {j j' : Nat} {q q' : Pos} {kvs : List (Int × Int)} {ks : List (Option Expr)} {vs : List Expr} : TabE kvs ks vs → TabE ((k, n) :: kvs) (some (.Constant (.int k) j q) :: ks) (.Constant (.int n) j' q' :: vs)
theorem TabE.pps {kvs : List (Int × Int)} {ks : List (Option Expr)} {vs : List Expr} (t : TabE kvs ks vs) : PPs X pos ks vs (kvs.map fun q => (tC (.int q.1), tC (.int q.2))) := by
  induction t with
  | nil => exact pps_nil
  | cons t ih => exact pps_cons pe_int pe_int ih
theorem tab_pairs {σ : St} {H : Hp} {Q : List (V × V) → Hp → Prop} : ∀ (kvs : List (Int × Int)), Q (kvs.map fun q => (V.int q.1, V.int q.2)) H → tPairs (kvs.map fun q => (tC (.int q.1), tC (.int q.2))) σ H Q
  | [], h => h
  | q :: kvs, h => tab_pairs (Q := fun ps H3 => Q ((V.int q.1, V.int q.2) :: ps) H3) kvs h
theorem me_tab {kvs : List (Int × Int)} {ks : List (Option Expr)} {vs : List Expr} {dp : Pos} (hu : X.A.units + 1 < cLine) (t : TabE kvs ks vs) (ha : ME X c fa a) (hall : ks.all (·.isSome) = true := by rfl) (hl : ks.length = vs.length := by rfl) (h0 : ks ≠ [] := by exact fun z => nomatch z)
    (h15 : ks.length ≤ 15 := by decide) (h15' : kvs.length ≤ 15 := by decide) (hs : NoSl a := by exact fun _ _ => rfl) : ME X c (eTab kvs fa) (.Subscript (.Dict ks vs dp) a pos) := by
  refine ⟨PE.imp (pe_dget hu (pe_disp t.pps hall hl h0 h15) ha.run hs) fun σ H Q q => ?_⟩
  obtain ⟨ξ, Y, s, tv, ts, hK, F, q⟩ := q
  intro n hn
  refine tab_pairs kvs ⟨upd_same, tabV kvs, ?_, by simpa [tabV] using h15', ?_⟩
  · unfold tabV
    rw [List.map_map]
    rfl
  · rw [upd_upd]
    have F1 := F.newF hn (.dK (mergeK [] (tabV kvs)))
    have e0 : Same Y (upd Y n (.dK (mergeK [] (tabV kvs)))) := same_upd (F.sub.free hn)
    refine tE_seq hK F1 (out.mono c q e0 (fun _ _ z => z)) fun d s1 Y1 H1 v e1 F2 r1 q1 => ?_
    split at q1
    · rename_i i
      split at q1
      · rename_i m em
        refine ⟨n, .int m, rfl, ?_, q1 Y1 H1 _ (e0.trans e1) F2 (.int m)⟩
        rw [r1.int_inv, ← em]
        exact .inl ⟨_, Sum.inl i, .inl (F2.sub _ _ (e1 _ _ upd_same)), rfl, rfl⟩
      · exact q1.elim
    · exact q1.elim
/-! ### reversed -/
def iRev (f : EF) : IF := fun s => (f s).bind fun d s => ofO ((itemsD d).map List.reverse) s
theorem mi_rev {tg : Expr} (hXK : X.K = c.K) (hg : Gl X "reversed") (hm : X.mg "reversed" = none) (ha : ME X c fa a) (hs : starEach [a] X.env = (false, eval a X.env) :: starEach [] X.env := by rfl) : MI_ X c (iRev fa) tg (.Call (.Name "reversed" p) [a] [] pos) := by
  refine ⟨PI.imp (RT.pi_revA hg hm ha.run hs) fun σ H R q => ?_⟩
  obtain ⟨ξ, Y, s, tv, ts, hK, F, q⟩ := q
  refine ⟨ξ, Y, s, tv, ts, hK, F, ?_⟩
  unfold iRev at q
  cases e : fa s with
  | bad => rw [e] at q; exact q.elim
  | ex x s1 => rw [e] at q; exact q
  | ok d s1 =>
    rw [e, Res.bind_ok] at q
    intro Y1 H1 v e1 F1 r1
    have item : ∀ {xs : List V} {ds : List D}, DrAll c.K Y1 xs ds → ∀ i d, ds.reverse[i]? = some d → i < xs.length ∧ ∃ v, xs[xs.length - 1 - i]? = some v ∧ Dr c.K Y1 v d := fun {xs ds} h i d hd => by
      have hi := lt_of_get hd
      rw [List.length_reverse] at hi
      rw [List.getElem?_reverse hi] at hd
      obtain ⟨v, h1, h2⟩ := h.get hd
      exact ⟨by rw [h.length]; exact hi, v, by rw [h.length]; exact h1, h2⟩
    cases d with
    | list ds =>
      obtain ⟨a, xs, rfl, hq, hd⟩ := r1.list_inv
      have hq : SqL c.K Y1 a xs := .inl (.inl hq)
      refine ⟨a, xs, rfl, .inl ⟨hXK ▸ F1.sub.seq hq, ?_⟩⟩
      rw [hXK]
      refine q Y1 H1 _ e1 F1 ⟨fun i H e hi => ⟨by rw [hd.length]; simpa using hi, xs, xs[xs.length - 1 - i]'(by have := hd.length; simp at hi; omega), e.seq hq, List.getElem?_eq_getElem _⟩, fun H e => ?_, fun i H x H' d e hd' hy Y2 e2 e3 => ?_⟩
      · show xs.length ≤ _
        rw [List.length_reverse, hd.length]; exact Nat.le_refl _
      · obtain ⟨rfl, hx⟩ := hy
        obtain ⟨_, v, hv, rv⟩ := item hd i d hd'
        have := hx xs (e.seq hq)
        rw [hv] at this
        cases this
        exact ⟨Y2, .old (rv.mono e2)⟩
    | tuple ds =>
      obtain ⟨a, xs, rfl, hq, hd⟩ := r1.tuple_inv
      refine ⟨a, xs, rfl, .inr ⟨hXK ▸ Same.sqt F1.sub hq, ?_⟩⟩
      rw [hXK]
      refine q Y1 H1 _ e1 F1 ⟨fun i H e hi => ⟨by rw [hd.length]; simpa using hi, xs, xs[xs.length - 1 - i]'(by have := hd.length; simp at hi; omega), Same.sqt e hq, List.getElem?_eq_getElem _⟩, fun H e => ?_, fun i H x H' d e hd' hy Y2 e2 e3 => ?_⟩
      · show xs.length ≤ _
        rw [List.length_reverse, hd.length]; exact Nat.le_refl _
      · obtain ⟨rfl, hx⟩ := hy
        obtain ⟨_, v, hv, rv⟩ := item hd i d hd'
        have := hx xs (Same.sqt e hq)
        rw [hv] at this
        cases this
        exact ⟨Y2, .old (rv.mono e2)⟩
    | none => exact q.elim
    | bool _ => exact q.elim
    | int _ => exact q.elim
    | str _ => exact q.elim
    | dict _ => exact q.elim
/-! ### zip, enumerate -/
def pairUp : List D → List D → List D
  | x :: xs, y :: ys => .tuple [x, y] :: pairUp xs ys
  | _, _ => []
theorem pairUp_length : ∀ (xs ys : List D), (pairUp xs ys).length = min xs.length ys.length
  | [], _ => by simp [pairUp]
  | _ :: _, [] => by simp [pairUp]
  | x :: xs, y :: ys => by simp [pairUp, pairUp_length xs ys]
theorem pairUp_get : ∀ {xs ys : List D} {i : Nat} {d : D}, (pairUp xs ys)[i]? = some d → ∃ x y, xs[i]? = some x ∧ ys[i]? = some y ∧ d = .tuple [x, y]
  | [], _, _, _, h => by simp [pairUp] at h
  | _ :: _, [], _, _, h => by simp [pairUp] at h
  | x :: xs, y :: ys, 0, d, h => by simp [pairUp] at h; exact ⟨x, y, rfl, rfl, h.symm⟩
  | x :: xs, y :: ys, i + 1, d, h => by
    simp only [pairUp, List.getElem?_cons_succ] at h
    obtain ⟨x', y', h1, h2, h3⟩ := pairUp_get h
    exact ⟨x', y', by simpa using h1, by simpa using h2, h3⟩
def sameKind : D → D → Option (List D)
  | .list xs, .list ys => some (pairUp xs ys)
  | .tuple xs, .tuple ys => some (pairUp xs ys)
  | _, _ => none
def iZip (f g : EF) : IF := fun s => (f s).bind fun d s => (g s).bind fun e s => ofO (sameKind d e) s
theorem mi_zip {elts : List Expr} {kk : Nat} {tpos : Pos} (hXK : X.K = c.K) (hg : Gl X "zip") (hm : X.mg "zip" = none) (ha : ME X c fa a) (hb : ME X c fb b)
    (hs : starEach [a, b] X.env = (false, eval a X.env) :: starEach [b] X.env := by rfl) (hs2 : starEach [b] X.env = (false, eval b X.env) :: starEach [] X.env := by rfl) (hpl : (backTo pos (starEach [b] X.env)).any (·.1) = false := by rfl) :
    MI_ X c (iZip fa fb) (.Tuple elts kk tpos) (.Call (.Name "zip" p) [a, b] [] pos) := by
  refine ⟨PI.imp (RZ.pi_zipA hg hm (ma_cons ha (ma_cons hb ma_nil hs2) hs).run hs hpl) fun σ H R q => ?_⟩
  obtain ⟨ξ, Y, s, tv, ts, hK, F, q⟩ := q
  refine ⟨ξ, Y, s, tv, ts, hK, F, ?_⟩
  unfold iZip at q
  unfold aCons aNil
  cases e : fa s with
  | bad => rw [e] at q; exact q.elim
  | ex x s1 => rw [e] at q; exact q
  | ok d s1 =>
    rw [e, Res.bind_ok] at q
    rw [Res.bind_ok]
    cases e' : fb s1 with
    | bad => rw [e'] at q; exact q.elim
    | ex x s1 => rw [e'] at q; exact q
    | ok d' s2 =>
      rw [e', Res.bind_ok] at q
      rw [Res.bind_ok, Res.bind_ok, Res.bind_ok]
      intro Y1 H1 vs e1 F1 r1
      cases r1 with
      | cons ra rb =>
        cases rb with
        | cons rb rc =>
          cases rc
          unfold ofO sameKind at q
          split at q
          · rename_i ds eds
            split at eds
            · rename_i xs ys
              cases eds
              obtain ⟨a1, us, rfl, hq, hd⟩ := ra.list_inv
              obtain ⟨a2, ws, rfl, hq2, hd2⟩ := rb.list_inv
              have hq : SqL c.K Y1 a1 us := .inl (.inl hq)
              have hq2 : SqL c.K Y1 a2 ws := .inl (.inl hq2)
              refine ⟨a1, a2, us, ws, rfl, .inl ⟨hXK ▸ F1.sub.seq hq, hXK ▸ F1.sub.seq hq2, ?_⟩⟩
              rw [hXK]
              refine q Y1 H1 _ e1 F1 ⟨fun i H e hi => ?_, fun H e => ?_, fun i H x H' d e hd' hy Y2 e2 e3 => ?_⟩
              · rw [pairUp_length] at hi
                have h1 := hd.length
                have h2 := hd2.length
                exact ⟨us, ws, us[i]'(by omega), ws[i]'(by omega), e.seq hq, e.seq hq2, List.getElem?_eq_getElem _, List.getElem?_eq_getElem _⟩
              · refine ⟨us, ws, e.seq hq, e.seq hq2, ?_⟩
                rw [pairUp_length]
                have h1 := hd.length
                have h2 := hd2.length
                omega
              · obtain ⟨T, x1, x2, rfl, nT, rfl, f1, f2⟩ := hy
                obtain ⟨dx, dy, g1, g2, rfl⟩ := pairUp_get hd'
                obtain ⟨v1, h1, r1⟩ := hd.get g1
                obtain ⟨v2, h2, r2⟩ := hd2.get g2
                have z1 := f1 us (e.seq hq)
                have z2 := f2 ws (e.seq hq2)
                rw [h1] at z1
                rw [h2] at z2
                cases z1; cases z2
                exact ⟨_, .tup nT (.cons (r1.mono e2) (.cons (r2.mono e2) .nil))⟩
            · rename_i xs ys
              cases eds
              obtain ⟨a1, us, rfl, hq, hd⟩ := ra.tuple_inv
              obtain ⟨a2, ws, rfl, hq2, hd2⟩ := rb.tuple_inv
              refine ⟨a1, a2, us, ws, rfl, .inr ⟨hXK ▸ Same.sqt F1.sub hq, hXK ▸ Same.sqt F1.sub hq2, ?_⟩⟩
              rw [hXK]
              refine q Y1 H1 _ e1 F1 ⟨fun i H e hi => ?_, fun H e => ?_, fun i H x H' d e hd' hy Y2 e2 e3 => ?_⟩
              · rw [pairUp_length] at hi
                have h1 := hd.length
                have h2 := hd2.length
                exact ⟨us, ws, us[i]'(by omega), ws[i]'(by omega), Same.sqt e hq, Same.sqt e hq2, List.getElem?_eq_getElem _, List.getElem?_eq_getElem _⟩
              · refine ⟨us, ws, Same.sqt e hq, Same.sqt e hq2, ?_⟩
                rw [pairUp_length]
                have h1 := hd.length
                have h2 := hd2.length
                omega
              · obtain ⟨T, x1, x2, rfl, nT, rfl, f1, f2⟩ := hy
                obtain ⟨dx, dy, g1, g2, rfl⟩ := pairUp_get hd'
                obtain ⟨v1, h1, r1⟩ := hd.get g1
                obtain ⟨v2, h2, r2⟩ := hd2.get g2
                have z1 := f1 us (Same.sqt e hq)
                have z2 := f2 ws (Same.sqt e hq2)
                rw [h1] at z1
                rw [h2] at z2
                cases z1; cases z2
                exact ⟨_, .tup nT (.cons (r1.mono e2) (.cons (r2.mono e2) .nil))⟩
            · cases eds
          · exact q.elim
def numbered : Nat → List D → List D
  | _, [] => []
  | i, x :: xs => .tuple [.int (i : Int), x] :: numbered (i + 1) xs
theorem numbered_length : ∀ (xs : List D) (i : Nat), (numbered i xs).length = xs.length
  | [], _ => rfl
  | x :: xs, i => by simp [numbered, numbered_length xs]
theorem numbered_get : ∀ {xs : List D} {k i : Nat} {d : D}, (numbered k xs)[i]? = some d → ∃ x, xs[i]? = some x ∧ d = .tuple [.int ((k + i : Nat) : Int), x]
  | [], _, _, _, h => by simp [numbered] at h
  | x :: xs, k, 0, d, h => by simp [numbered] at h; exact ⟨x, rfl, h.symm⟩
  | x :: xs, k, i + 1, d, h => by
    simp only [numbered, List.getElem?_cons_succ] at h
    obtain ⟨x', h1, h2⟩ := numbered_get h
    exact ⟨x', by simpa using h1, by rw [h2]; congr 4; omega⟩
def iEnumL (f : EF) : IF := fun s => (f s).bind fun d s => match d with
  | .list xs => .ok (numbered 0 xs) s
  | _ => .bad
theorem mi_enumL {elts : List Expr} {kk : Nat} {tpos : Pos} (hXK : X.K = c.K) (hg : Gl X "enumerate") (hm : X.mg "enumerate" = none) (ha : ME X c fa a) (hs : starEach [a] X.env = [(false, eval a X.env)] := by rfl) (hs2 : starEach [a] X.env = (false, eval a X.env) :: starEach [] X.env := by rfl) :
    MI_ X c (iEnumL fa) (.Tuple elts kk tpos) (.Call (.Name "enumerate" p) [a] [] pos) := by
  refine ⟨PI.imp (pi_enum hg hm (ma_cons ha ma_nil hs2).run hs) fun σ H R q => ?_⟩
  obtain ⟨ξ, Y, s, tv, ts, hK, F, q⟩ := q
  refine ⟨ξ, Y, s, tv, ts, hK, F, ?_⟩
  unfold iEnumL at q
  unfold aCons aNil
  cases e : fa s with
  | bad => rw [e] at q; exact q.elim
  | ex x s1 => rw [e] at q; exact q
  | ok d s1 =>
    rw [e, Res.bind_ok] at q
    rw [Res.bind_ok, Res.bind_ok]
    intro Y1 H1 vs e1 F1 r1
    cases r1 with
    | cons ra rb =>
      cases rb
      cases d with
      | list ds =>
        obtain ⟨a, us, rfl, hq, hd⟩ := ra.list_inv
        have hq : SqL c.K Y1 a us := .inl (.inl hq)
        refine ⟨a, us, rfl, hXK ▸ F1.sub.seq hq, ?_⟩
        rw [hXK]
        refine q Y1 H1 _ e1 F1 ⟨fun i H e hi => ?_, fun H e => ?_, fun i H x H' d e hd' hy Y2 e2 e3 => ?_⟩
        · rw [numbered_length] at hi
          have h1 := hd.length
          exact ⟨us, us[i]'(by omega), e.seq hq, List.getElem?_eq_getElem _⟩
        · refine ⟨us, e.seq hq, ?_⟩
          rw [numbered_length, hd.length]
          exact Nat.le_refl _
        · obtain ⟨T, x1, rfl, nT, rfl, f1⟩ := hy
          obtain ⟨dx, g1, rfl⟩ := numbered_get hd'
          obtain ⟨v1, h1, r1⟩ := hd.get g1
          have z1 := f1 us (e.seq hq)
          rw [h1] at z1
          cases z1
          refine ⟨_, .tup nT (.cons ?_ (.cons (r1.mono e2) .nil))⟩
          rw [Nat.zero_add]
          exact .int _
      | none => exact q.elim
      | bool _ => exact q.elim
      | int _ => exact q.elim
      | str _ => exact q.elim
      | tuple _ => exact q.elim
      | dict _ => exact q.elim
end
end MI

set_option Elab.async false
set_option linter.all false
set_option autoImplicit false
set_option maxRecDepth 100000
/-! MI: owned names handed on, places, more assignments. -/
namespace MI
open PySem PySem.Spec L2
section
variable {X : Cx} {c : Ct} {K : PySem.W.Frag} {ξ : Fx} {Y H : Hp} {σ : St} {s : S} {tv : List V} {ts : List OD}
variable {fa fb : EF} {a b : Expr} {p pos : Pos}
/-- what slot i owns becomes a temp's -/
theorem FS.takeS {o : OD} (F : FS ξ Y H σ s tv ts) {i : Nat} (h : s[i]? = some (some o)) : ∃ v, σ[i]? = some (some v) ∧ FS ξ Y H σ (s.set i none) (tv ++ [v]) (ts ++ [o]) := by
  obtain ⟨g, R⟩ := F.rel
  obtain ⟨v, hv, r⟩ := R.slot i o h
  refine ⟨v, hv, F.re R (fun k a => (k = .inr ts.length ∧ g (.inl i) a) ∨ (k ≠ .inl i ∧ k ≠ .inr ts.length ∧ g k a)) (Same.refl _) F.sub (fun a q => .inl q) (fun k a f => ?_) (fun k j a f f' => ?_) (by simp [F.len]) (by simp [F.tlen]) (fun j o e => ?_) (fun j o e => ?_)⟩
  · rcases f with ⟨_, f⟩ | ⟨_, _, f⟩
    · exact ⟨(R.own _ a f).2.1, _, f⟩
    · exact ⟨(R.own _ a f).2.1, _, f⟩
  · rcases f with ⟨rfl, f⟩ | ⟨n1, n2, f⟩
    · rcases f' with ⟨rfl, _⟩ | ⟨n1, _, f'⟩
      · rfl
      · exact (n1 (R.sep _ _ _ f' f)).elim
    · rcases f' with ⟨rfl, f'⟩ | ⟨_, _, f'⟩
      · exact (n1 (R.sep _ _ _ f f')).elim
      · exact R.sep _ _ _ f f'
  · by_cases hj : j = i
    · subst hj
      rw [List.getElem?_set_self (lt_of_get h)] at e
      cases e
    · rw [List.getElem?_set_ne (Ne.symm hj)] at e
      obtain ⟨v, e1, r⟩ := R.slot j o e
      exact ⟨v, e1, r.iff fun a => ⟨fun f => .inr ⟨fun z => hj (Sum.inl.inj z), (fun z => nomatch z), f⟩, fun f => f.elim (fun z => nomatch z.1) fun z => z.2.2⟩⟩
  · rcases getElem?_snoc e with e | ⟨rfl, rfl⟩
    · obtain ⟨v, e1, r⟩ := R.temp j o e
      have hj := lt_of_get e
      refine ⟨v, snoc_old e1, r.iff fun a => ⟨fun f => .inr ⟨(fun z => nomatch z), (fun z => by cases z; omega), f⟩, fun f => f.elim (fun z => ?_) fun z => z.2.2⟩⟩
      obtain ⟨z, _⟩ := z
      cases z
      omega
    · exact ⟨v, by rw [F.tlen]; exact snoc_new, r.iff fun a => ⟨fun f => .inl ⟨rfl, f⟩, fun f => f.elim (fun z => z.2) fun z => (z.2.1 rfl).elim⟩⟩
/-- a name, with what it owns -/
def oVar (i : Nat) : OF := fun s => match s[i]? with
  | some (some (.fz d)) => .ok (.fz d) s
  | some (some o) => .ok o (s.set i none)
  | _ => .bad
theorem mo_var {i : Nat} {e : Expr} (h : PE X e (tVar i)) : MO X c (oVar i) e := by
  refine ⟨PE.imp h fun σ H Q q => ?_⟩
  obtain ⟨ξ, Y, s, tv, ts, hK, F, q⟩ := q
  unfold oVar at q
  split at q
  · rename_i d e
    obtain ⟨v, hv, r⟩ := F.frozen e
    exact ⟨v, hv, q Y H v (Same.refl _) (F.pushD r)⟩
  · rename_i o _ e
    obtain ⟨v, hv, F2⟩ := F.takeS e
    exact ⟨v, hv, q Y H v (Same.refl _) F2⟩
  · exact q.elim
/-- x[e] for a name x, frozen or owning a list -/
def eAt (i : Nat) (f : EF) : EF := fun s => match s[i]? with
  | some (some (.fz d)) => (f s).bind fun k s1 => match ixD d k with
    | some (.fz d') => .ok d' s1
    | _ => .bad
  | some (some (.ol _)) => (f s).bind fun k s1 => match k, s1[i]? with
    | .int n, some (some (.ol ds)) => match atI ds n with
      | some d => .ok d s1
      | none => .bad
    | _, _ => .bad
  | _ => .bad
theorem me_at {i : Nat} (hXK : X.K = c.K) (ho : PE X a (tVar i)) (hb : ME X c fb b) (hs : PlainIx b) : ME X c (eAt i fb) (.Subscript a b pos) := by
  refine ⟨PE.imp (pe_ix (IxR.or ix_list ix_tup) ho hb.run hs) fun σ H Q q => ?_⟩
  obtain ⟨ξ, Y, s, tv, ts, hK, F, q⟩ := q
  unfold eAt at q
  split at q
  · rename_i d e0
    obtain ⟨x, hx, r0⟩ := F.frozen e0
    refine ⟨x, hx, tE_seq hK F q fun k s1 Y1 H1 v e1 F1 r1 q1 => ?_⟩
    split at q1
    · rename_i d' ed
      have r0 : Dr c.K Y1 x d := hK ▸ r0.mono e1
      unfold ixD at ed
      cases el : ixL d k with
      | some o =>
        rw [el] at ed
        cases ed
        unfold ixL at el
        split at el
        · simp only [Option.map_eq_some_iff] at el
          obtain ⟨d2, el, z⟩ := el
          cases z
          obtain ⟨p, us, rfl, h1, d1⟩ := r0.list_inv
          rw [r1.int_inv]
          obtain ⟨w, hw, r⟩ := d1.at el
          exact .inl ⟨p, us, _, w, rfl, rfl, .inl (.inl (F1.sub _ _ h1)), hw, q1 Y1 H1 _ e1 F1 r⟩
        · cases el
      | none =>
        rw [el] at ed
        have ed : ixT d k = some (.fz d') := by simpa using ed
        unfold ixT at ed
        split at ed
        · simp only [Option.map_eq_some_iff] at ed
          obtain ⟨d2, ed, z⟩ := ed
          cases z
          obtain ⟨p, us, rfl, h1, d1⟩ := r0.tuple_inv
          rw [r1.int_inv]
          obtain ⟨w, hw, r⟩ := d1.at ed
          exact .inr ⟨p, us, _, w, rfl, rfl, hXK ▸ Same.sqt F1.sub h1, hw, q1 Y1 H1 _ e1 F1 r⟩
        · cases ed
    · exact q1.elim
  · rename_i ds0 e0
    obtain ⟨p, vs0, hx, _⟩ := F.listS e0
    refine ⟨.ref p, hx, tE_seq hK F q fun k s1 Y1 H1 v e1 F1 r1 q1 => ?_⟩
    split at q1
    · rename_i n ds en
      split at q1
      · rename_i d ed
        obtain ⟨p', vs, hx', hp, hd, _⟩ := F1.listS en
        rw [hx] at hx'
        cases hx'
        obtain ⟨w, hw, r⟩ := hd.at ed
        rw [r1.int_inv]
        exact .inl ⟨p, vs, n, w, rfl, rfl, .inl (.inl hp), hw, q1 Y1 H1 _ e1 F1 (hK ▸ r)⟩
      · exact q1.elim
    · exact q1.elim
  · exact q.elim
/-- a list display of owned items -/
theorem FS.joinN {vs : List V} {os : List OD} {p : Addr} (F : FS ξ Y H σ s (tv ++ vs) (ts ++ os)) (hl : ts.length = tv.length) (hp : H p = none) : FS ξ Y (upd H p (.lst vs)) σ s (tv ++ [.ref p]) (ts ++ [.on os]) := by
  have F1 := F.newJ hp (.lst vs)
  have tl : os.length = vs.length := by have := F.tlen; simp at this; omega
  obtain ⟨g, R⟩ := F.rel
  have nog : ∀ i, ¬ g i p := fun i f => (R.own i p f).1 hp
  have kk : ∀ i a, g i a → upd H p (.lst vs) a = H a := fun i a f => upd_ne fun z => nog i (z ▸ f)
  let lo : Nat ⊕ Nat → Prop := fun k => match k with
    | .inl _ => True
    | .inr j => j < ts.length
  let gi : Nat → Addr → Prop := fun i a => i < os.length ∧ g (.inr (ts.length + i)) a
  let hi : Addr → Prop := fun a => a = p ∨ ∃ i, gi i a
  have nlo : ¬ lo (.inr ts.length) := Nat.lt_irrefl _
  have nlo2 : ∀ i, ¬ lo (.inr (ts.length + i)) := fun i (z : ts.length + i < ts.length) => by omega
  refine ⟨F1.sub, F1.z0, F1.fresh, F1.keep, F1.live, F.len, by simp [hl], fun k a => (k = .inr ts.length ∧ hi a) ∨ (lo k ∧ g k a), fun i o e => ?_, fun j o e => ?_, fun k a f => ?_, fun k j a f f' => ?_⟩
  · obtain ⟨v, e1, r⟩ := R.slot i o e
    exact ⟨v, e1, (r.mono (Same.refl _) fun a f => kk _ a f).iff fun a => ⟨fun f => .inr ⟨trivial, f⟩, fun f => f.elim (fun z => nomatch z.1) fun z => z.2⟩⟩
  · rcases getElem?_snoc e with e | ⟨rfl, rfl⟩
    · have hj := lt_of_get e
      obtain ⟨v, e1, r⟩ := R.temp j o (by rw [List.getElem?_append_left hj]; exact e)
      rw [List.getElem?_append_left (by omega)] at e1
      refine ⟨v, snoc_old e1, (r.mono (Same.refl _) fun a f => kk _ a f).iff fun a => ⟨fun f => .inr ⟨hj, f⟩, fun f => f.elim (fun z => ?_) fun z => z.2⟩⟩
      obtain ⟨z, _⟩ := z
      cases z
      omega
    · refine ⟨.ref p, by rw [hl]; exact snoc_new, (RO.on gi upd_same tl.symm (fun i o v ho hv => ?_) (fun i z => nog _ z.2) (fun i j a z z' => ?_) fun i a z => z.1).iff fun a => ⟨fun f => .inl ⟨rfl, f⟩, fun f => f.elim (fun z => z.2) fun z => (nlo z.1).elim⟩⟩
      · have hio := lt_of_get ho
        obtain ⟨v', e1, r⟩ := R.temp (ts.length + i) o (by rw [List.getElem?_append_right (by omega), Nat.add_sub_cancel_left]; exact ho)
        rw [hl, List.getElem?_append_right (by omega), Nat.add_sub_cancel_left, hv] at e1
        cases e1
        refine (r.mono (Same.refl _) fun a f => kk _ a (hl ▸ f)).iff fun a => ⟨fun f => ⟨hio, f⟩, fun f => f.2⟩
      · have := R.sep _ _ _ z.2 z'.2
        have := Sum.inr.inj this
        omega
  · rcases f with ⟨rfl, rfl | ⟨i, f⟩⟩ | ⟨_, f⟩
    · refine ⟨by rw [upd_same]; simp, F.sub.free hp, ?_⟩
      by_cases m : ξ.H0 a = none
      · exact .inl m
      · exact (F.live a m hp).elim
    · have h1 := R.own _ a f.2
      exact ⟨by rw [kk _ _ f.2]; exact h1.1, h1.2⟩
    · have h1 := R.own _ a f
      exact ⟨by rw [kk _ _ f]; exact h1.1, h1.2⟩
  · rcases f with ⟨rfl, f⟩ | ⟨l1, f⟩
    · rcases f' with ⟨rfl, _⟩ | ⟨l2, f'⟩
      · rfl
      · rcases f with rfl | ⟨i, f⟩
        · exact (nog _ f').elim
        · have := R.sep _ _ _ f.2 f'
          subst this
          exact (nlo2 _ l2).elim
    · rcases f' with ⟨rfl, f'⟩ | ⟨l2, f'⟩
      · rcases f' with rfl | ⟨i, f'⟩
        · exact (nog _ f).elim
        · have := R.sep _ _ _ f f'.2
          subst this
          exact (nlo2 _ l1).elim
      · exact R.sep _ _ _ f f'
def oNest (g : AOF) : OF := fun s => (g s).bind fun os s => if os.length ≤ sizeLine then .ok (.on os) s else .bad
theorem mo_nest {g : AOF} {es : List Expr} (h : MAO X c g es) : MO X c (oNest g) (.List es pos) := by
  refine ⟨PE.imp (pe_lst h.run) fun σ H Q q => ?_⟩
  obtain ⟨ξ, Y, s, tv, ts, hK, F, q⟩ := q
  refine ⟨ξ, Y, s, tv, ts, hK, F, ?_⟩
  unfold oNest at q
  cases e : g s with
  | bad => rw [e] at q; exact q.elim
  | ex x s1 => rw [e] at q; exact q
  | ok os s1 =>
    rw [e, Res.bind_ok] at q
    split at q
    · rename_i hsz
      intro Y1 H1 vs e1 F1
      have tl : os.length = vs.length := by have h1 := F1.tlen; have h2 := F.tlen; simp at h1; omega
      exact ⟨by rw [← tl]; exact hsz, fun p hp => q Y1 _ _ e1 (F1.joinN F.tlen hp)⟩
    · exact q.elim
/-- three names = three values -/
theorem ms_par3 {rf : List Bool} {i j l : Nat} {x y z : Str} {f : AOF} {a b d : Expr} {px py pz pt pos : Pos} {kt k2 pt2} (hc : X.calm = true) (hN : X.N.Nodup) (hi : X.N[i]? = some x) (hj : X.N[j]? = some y) (hl : X.N[l]? = some z) (hij : i ≠ j) (hil : i ≠ l) (hjl : j ≠ l)
    (hx : X.env.scope.names.lookup x = some .local) (hy : X.env.scope.names.lookup y = some .local) (hz : X.env.scope.names.lookup z = some .local) (ha : MAO X c f [a, b, d]) (hri : rf[i]? ≠ some true) (hrj : rf[j]? ≠ some true) (hrl : rf[l]? ≠ some true)
    (hw : swappedStores [.Tuple [.Name x px, .Name y py, .Name z pz] kt pt] (.Tuple [a, b, d] k2 pt2) X.env = pure (some [x, y, z]))
    (hs : swapsWithSole [.Tuple [.Name x px, .Name y py, .Name z pz] kt pt] (.Tuple [a, b, d] k2 pt2) pos.line X.env = pure false := by rfl) :
    MS X c rf (sPar [i, j, l] f) (.Assign [.Tuple [.Name x px, .Name y py, .Name z pz] kt pt] (.Tuple [a, b, d] k2 pt2) pos) := by
  refine ⟨PS.imp (ps_par3 hc hN hi hj hl hij hil hjl hx hy hz ha.run hw hs) fun D σ H q => ?_⟩
  obtain ⟨ξ, Y, s, hK, F, q⟩ := q
  refine sAO_seq hK F q fun os s1 Y1 H1 vs e1 F1 q1 => ?_
  split at q1
  · rename_i hl
    have hl2 : vs.length = 3 := F1.tlen.symm.trans hl
    obtain ⟨u, v, w, rfl⟩ : ∃ u v w, vs = [u, v, w] := by
      match vs, hl2 with
      | [u, v, w], _ => exact ⟨u, v, w, rfl⟩
    exact ⟨u, v, w, rfl, q1 Y1 H1 _ e1 (((Keep.set hri).trans (.set hrj)).trans (.set hrl)) (FS.asgAll (is := [i, j, l]) hl.symm F1)⟩
  · exact q1.elim
end
end MI

set_option Elab.async false
set_option linter.all false
set_option autoImplicit false
set_option maxRecDepth 100000
/-! MI: calls by names, lending in tests, comprehensions frozen at once. -/
namespace MI
open PySem PySem.Spec L2
def pickL {α : Type} (z : α) (ix : List Nat) (l : List α) : List α := ix.map fun j => l.getD j z
def pickIf {α : Type} (z : α) (m n : Nat) (ix : List Nat) (us ws : List α) : List α := if us.length = m ∧ ws.length = n then pickL z ix (us ++ ws) else []
theorem Vals.append' {xs ys : List V} {us ws : List Value} (r : Vals xs us) (r2 : Vals ys ws) : Vals (xs ++ ys) (us ++ ws) := by
  induction r with
  | nil => exact r2
  | cons a _ ih => exact .cons a ih
theorem Vals.pick {xs : List V} {us : List Value} (r : Vals xs us) : ∀ ix : List Nat, Vals (pickL .non ix xs) (pickL .none ix us)
  | [] => .nil
  | j :: ix => by
    refine .cons ?_ (Vals.pick r ix)
    cases e : xs[j]? with
    | none =>
      have h := r.length
      have : us[j]? = none := by
        rw [List.getElem?_eq_none_iff] at e ⊢
        omega
      simp only [List.getD, e, this, Option.getD_none]
      rfl
    | some x =>
      obtain ⟨u, e2, q⟩ := r.get e
      simp only [List.getD, e, e2, Option.getD_some]
      exact q
theorem DrAll.pick {K : PySem.W.Frag} {Y : Hp} {xs : List V} {ds : List D} (r : DrAll K Y xs ds) : ∀ ix : List Nat, DrAll K Y (pickL .non ix xs) (pickL .none ix ds)
  | [] => .nil
  | j :: ix => by
    refine .cons ?_ (DrAll.pick r ix)
    cases e : xs[j]? with
    | none =>
      have h := r.length
      have : ds[j]? = none := by
        rw [List.getElem?_eq_none_iff] at e ⊢
        omega
      simp only [List.getD, e, this, Option.getD_none]
      exact .non
    | some x =>
      obtain ⟨d, e2, q⟩ := r.getV e
      simp only [List.getD, e, e2, Option.getD_some]
      exact q
theorem kb_of {K : PySem.W.Frag} {x qual : Str} {st : Stmt} {f : Addr} {fd : FuncData} {ps ks : List Str} {m : Nat} {ix : List Nat} (F : Fun K x qual st f fd) (hne : ps ≠ [])
    (h : ∀ (kV doc pm : Value) (an : Option Addr) (cdv ct : Value) (us ws : List Value), us.length = m → ws.length = ks.length →
      bindArgs (PySem.W.fnOf x qual (defArgs st) (defBody st) (defScope st) .none kV doc pm an cdv ct) ⟨us, ks.zip ws⟩ = pure (ps.zip (pickL .none ix (us ++ ws)))) :
    KBinds K fd ps ks (pickIf .none m ks.length ix) (pickIf .non m ks.length ix) := by
  obtain ⟨oc, od, kV, doc, pm, an, cdv, ct, osl, rfl, lk, hcd⟩ := F.ex
  refine ⟨fun s us ws KX hl => ?_, fun {vs us zs ws} r rz => ?_⟩
  · unfold pickIf at hl ⊢
    split at hl
    · rename_i hh
      rw [if_pos hh]
      exact .of_eq (h kV doc pm an cdv ct us ws hh.1 hh.2)
    · exact (hne (List.eq_nil_of_length_eq_zero hl.symm)).elim
  · unfold pickIf
    rw [r.length, rz.length]
    split
    · exact Vals.pick (Vals.append' r rz) ix
    · exact .nil
section
variable {CX : CXT} {X : Cx} {k : Nat} {f : Addr} {fd : FuncData} {ps ks : List Str} {sp : Sp} {E : L2.St → XK} {x : Str} {p pos : Pos} {kws : List Keyword} {g : List Value → List Value → List Value} {gV : List V → List V → List V} {tk : TA}
def tCallGK0 (sp : Sp) (gV : List V → List V → List V) (E : L2.St → XK) (tk : TA) : TE := fun σ H Q => tk σ H fun zs H2 => sp (gV [] zs) H2 Q (E σ)
theorem pe_callGK0 (F : FnG X.prog X.w X.K X.mg X.base CX k f fd ps sp) (hG : X.A.guards = some []) (hr : Room k X.A) (hg : Gl X x) (hm : X.mg x = some (.ref f)) (hk : PySem.W.keepIn X.K (.ref f) = true) (hb : KBinds X.K fd ps ks g gV) (hx : ∀ σ, PassesAt CX X σ (E σ))
    (hkw : PK X kws tk) (hall : (backToKw pos (keywordEach kws X.env)).all (·.1.isSome) = true := by rfl) (hks : (backToKw pos (keywordEach kws X.env)).filterMap (·.1) = ks := by rfl)
    (hdb : (x == ("__debug__" : Str)) = false := by decide)
    (hpl : ((backTo pos (starEach [] X.env)).any (·.1) || (backToKw pos (keywordEach kws X.env)).any (·.1.isNone)) = false := by rfl) :
    PE X (.Call (.Name x p) [] kws pos) (tCallGK0 sp gV E tk) := by
  constructor
  intro pins s σ H Q I h
  refine wpAny_Call_Name_kw (ld_glob I hg hm ?_ hdb)
  refine PySem.W.callWith_KW0 (h₀ := X.base) I.ok.mod.kin hk hall (thn (hkw.run pos pins s σ H _ I h) ?_) hpl
  rintro ws s2 ⟨zs, H2, I2, rz, pr⟩
  refine ⟨I2.kIn, ?_⟩
  rw [hks]
  exact call_of (run_fnG F hG hr (hb.to s2 [] ws I2.kIn (by rw [← (hb.rel .nil rz).length]; exact F.len _ _ _ _ pr)) (hx σ) I2 (hb.rel .nil rz) pr)
end
section
variable {X : Cx} {c : Ct} {K : PySem.W.Frag} {ξ : Fx} {Y H : Hp} {σ : St} {s : S} {tv : List V} {ts : List OD}
variable {k : Nat} {f : Addr} {fd : FuncData} {ps ks : List Str} {x : Str} {p pos : Pos} {e : Expr} {es : List Expr} {F : List OD → Res OD} {n : Nat} {g h : AF} {kws : List Keyword} {m : Nat} {ix : List Nat}
/-- f(.., k = v): ix tells for each parameter its place among the values handed in -/
def oCallP (m n : Nat) (ix : List Nat) (g h : AF) (F : List OD → Res OD) : OF := fun s => (g s).bind fun ds s1 => (h s1).bind fun es s2 => if ds.length = m ∧ es.length = n then (match F ((pickL .none ix (ds ++ es)).map .fz) with
  | .ok o _ => .ok o s2
  | _ => .bad) else .bad
theorem callP_core {vs ws : List V} {ds es : List D} {Q : VK} (hK : ξ.K = c.K) (F2 : FS ξ Y H σ s tv ts) (r1 : DrAll c.K Y vs ds) (r2 : DrAll c.K Y ws es) (hn : ix.length = n)
    (q2 : out c ξ Y σ tv ts (fun o s' => ∀ Y' H' v, Same Y Y' → FS ξ Y' H' σ s' (tv ++ [v]) (ts ++ [o]) → Q v H') (if ds.length = m ∧ es.length = ks.length then (match F ((pickL .none ix (ds ++ es)).map .fz) with
      | .ok o _ => .ok o s
      | _ => .bad) else .bad)) : spF c.K c.er false n F (pickIf .non m ks.length ix vs ws) H Q (fun cl x H => False) := by
  split at q2
  · rename_i hh
    have r3 : DrAll c.K Y (pickL .non ix (vs ++ ws)) (pickL .none ix (ds ++ es)) := (r1.append r2).pick ix
    unfold pickIf
    rw [if_pos ⟨r1.length.trans hh.1, r2.length.trans hh.2⟩]
    obtain ⟨ξ', a1, b1, c1, d1, back⟩ := F2.enterD (hK ▸ r3)
    refine ⟨ξ', Y, (pickL .none ix (ds ++ es)).map OD.fz, a1.trans hK, b1, c1, by simp [pickL, hn], d1, ?_⟩
    cases ef : F ((pickL .none ix (ds ++ es)).map OD.fz) with
    | ok o s3 =>
      rw [ef] at q2
      exact fun Y3 H3 v e3 F3 => q2 Y3 H3 v e3 (back Y3 H3 s3 [v] [o] e3 F3)
    | ex x s3 => rw [ef] at q2; exact q2.elim
    | bad => rw [ef] at q2; exact q2.elim
  · exact q2.elim
theorem mo_callP0 (Fo : FnG X.prog X.w X.K X.mg X.base CX0 k f fd ps (spF c.K c.er false n F)) (hG : X.A.guards = some []) (hr : Room k X.A) (hg : Gl X x) (hm : X.mg x = some (.ref f)) (hk : PySem.W.keepIn X.K (.ref f) = true)
    (hb : KBinds X.K fd ps ks (pickIf .none 0 ks.length ix) (pickIf .non 0 ks.length ix)) (hn : ix.length = n) (hkw : MK X c h kws)
    (hall : (backToKw pos (keywordEach kws X.env)).all (·.1.isSome) = true := by rfl) (hks : (backToKw pos (keywordEach kws X.env)).filterMap (·.1) = ks := by rfl)
    (hdb : (x == ("__debug__" : Str)) = false := by decide)
    (hpl : ((backTo pos (starEach [] X.env)).any (·.1) || (backToKw pos (keywordEach kws X.env)).any (·.1.isNone)) = false := by rfl) :
    MO X c (oCallP 0 ks.length ix aNil h F) (.Call (.Name x p) [] kws pos) := by
  refine ⟨PE.imp (pe_callGK0 (E := fun σ cl x H => False) Fo hG hr hg hm hk hb (fun σ => fun _ _ _ _ _ _ z => z.elim) hkw.run hall hks hdb hpl) fun σ H Q q => ?_⟩
  obtain ⟨ξ, Y, s, tv, ts, hK, Fr, q⟩ := q
  refine tA_seq hK Fr q fun es s2 Y2 H2 ws e2 F2 r2 q2 => ?_
  exact callP_core (vs := []) (ds := []) hK F2 .nil r2 hn (out.mono c q2 e2 fun o s z Y' H' v a b => z Y' H' v (e2.trans a) b)
theorem mo_callP (Fo : FnG X.prog X.w X.K X.mg X.base CX0 k f fd ps (spF c.K c.er false n F)) (hG : X.A.guards = some []) (hr : Room k X.A) (hg : Gl X x) (hm : X.mg x = some (.ref f)) (hk : PySem.W.keepIn X.K (.ref f) = true)
    (hb : KBinds X.K fd ps ks (pickIf .none m ks.length ix) (pickIf .non m ks.length ix)) (hn : ix.length = n) (ha : MA X c g (e :: es)) (hkw : MK X c h kws)
    (hall : (backToKw pos (keywordEach kws X.env)).all (·.1.isSome) = true := by rfl) (hks : (backToKw pos (keywordEach kws X.env)).filterMap (·.1) = ks := by rfl)
    (hdb : (x == ("__debug__" : Str)) = false := by decide) (he : starEach (e :: es) X.env = (false, eval e X.env) :: starEach es X.env := by rfl)
    (hpl : ((backTo pos (starEach (e :: es) X.env)).any (·.1) || (backToKw pos (keywordEach kws X.env)).any (·.1.isNone)) = false := by rfl) :
    MO X c (oCallP m ks.length ix g h F) (.Call (.Name x p) (e :: es) kws pos) := by
  refine ⟨PE.imp (pe_callGK (E := fun σ cl x H => False) Fo hG hr hg hm hk hb (fun σ => fun _ _ _ _ _ _ z => z.elim) ha.run hkw.run hall hks hdb he hpl) fun σ H Q q => ?_⟩
  obtain ⟨ξ, Y, s, tv, ts, hK, Fr, q⟩ := q
  refine tA_seq hK Fr q fun ds s1 Y1 H1 vs e1 F1 r1 q1 => ?_
  refine tA_seq hK F1 (out.mono c q1 e1 (fun _ _ z => z)) fun es s2 Y2 H2 ws e2 F2 r2 q2 => ?_
  exact callP_core hK F2 (r1.mono e2) r2 hn (out.mono c q2 e2 fun o s z Y' H' v a b => z Y' H' v ((e1.trans e2).trans a) b)
/-! ### lending in tests -/
def kLend (ms : List Mode) (f : TF) : TF := fun s => if ms.length = s.length then match f (brw ms s) with
    | .ok d s' => match rst ms s s' with
      | some r => .ok d r
      | none => .bad
    | .ex e s' => match rst ms s s' with
      | some r => .ex e r
      | none => .bad
    | .bad => .bad
  else .bad
theorem mt_lend {ms : List Mode} {f : TF} {e : Expr} (h : MT X c f e) : MT X c (kLend ms f) e := by
  refine ⟨PT.imp h.run fun σ H Q q => ?_⟩
  obtain ⟨ξ, Y, s, tv, ts, hK, F, q⟩ := q
  unfold kLend at q
  split at q
  · rename_i hm
    obtain ⟨ξ', Y1, hK', e1, F1, back⟩ := F.lend hm
    refine ⟨ξ', Y1, brw ms s, [], [], hK'.trans hK, F1, ?_⟩
    cases ef : f (brw ms s) with
    | ok d s' =>
      rw [ef] at q
      intro Y' H' e2 F2
      simp only at q
      split at q
      · rename_i r er
        obtain ⟨Y2, e3, F3, r3⟩ := back Y' H' s' r [] [] e2 F2 er rfl
        rw [List.append_nil, List.append_nil] at F3
        exact q Y2 H' e3 F3
      · exact q.elim
    | ex x s' =>
      rw [ef] at q
      intro Y' H' cl y e2 F2 er2
      simp only at q
      split at q
      · rename_i r er
        obtain ⟨Y2, e3, F3, _⟩ := back Y' H' s' r [] [] e2 F2 er rfl
        rw [List.append_nil, List.append_nil] at F3
        exact q Y2 H' cl y e3 F3 er2
      · exact q.elim
    | bad => rw [ef] at q; exact q.elim
  · exact q.elim
/-! ### y = [..], frozen -/
theorem sAsgFrz_core {rf : List Bool} {i : Nat} {f : OF} {D : Ends} {σ : St} {H : Hp} (hr : rf[i]? ≠ some true) (q : tS c rf (sAsg (eFrz f) (gN i)) D σ H) : tAsg (tO c f) (gName i) D σ H := by
  obtain ⟨ξ, Y, s, hK, F, q⟩ := q
  unfold sAsg eFrz at q
  refine ⟨ξ, Y, s, [], [], hK, F, ?_⟩
  cases e : f s with
  | ok o s1 =>
    rw [e] at q
    intro Y1 H1 v e1 F1
    obtain ⟨Y2, e2, F2, r2⟩ := FS.freezeT (tv := []) (ts := []) F1
    exact q Y2 H1 _ (e1.trans e2) (.set hr) (F2.asgD r2 i)
  | ex x s1 => rw [e] at q; exact fun Y' H' cl y e' F' er => q Y' H' σ cl y e' (.refl _ _) F' er
  | bad => rw [e] at q; exact q
theorem ms_asgLc {rf : List Bool} {ow : List Bool} {it : IF} {g : GF} {t : TF} {f : EF} {elt tg iter : Expr} {ifs : List Expr} {scope : Scope} {own : List (Str × Nat)} {pos spos py : Pos} {i : Nat} {y : Str} (hc : X.calm = true) (hN : X.N.Nodup) (hy : X.N[i]? = some y) (hyl : X.env.scope.names.lookup y = some .local)
    (hsw : swapsWith (.ListComp elt [⟨tg, iter, ifs, 0⟩] scope pos) (some (.Name y py)) spos.line X.env = pure true) (ok : BlkOk X.N X.env.scope scope own) (hf : Flags ow X.N.length (own.map (·.2)))
    (hi : MI_ X c it tg iter) (hg : ∀ (s : Shared) (H : Hp) (C : Addr) (cl : List (Str × Addr)) (fp : List Addr), MG (X.blk s H scope (compEnvC scope cl C X.env) fp) c.blk (ow.map not) g tg)
    (ht : ∀ (s : Shared) (H : Hp) (C : Addr) (cl : List (Str × Addr)) (fp : List Addr), PTs (X.blk s H scope (compEnvC scope cl C X.env) fp) ifs (tT c.blk t))
    (he : ∀ (s : Shared) (H : Hp) (C : Addr) (cl : List (Str × Addr)) (fp : List Addr), ME (X.blk s H scope (compEnvC scope cl C X.env) fp) c.blk f elt) (hr : rf[i]? ≠ some true := by decide) (hs : ∀ x, foldedSetIterable iter X.env x = pure x := by intro _; rfl) :
    MS X c rf (sAsg (eFrz (oLc ow it g t f)) (gN i)) (.Assign [.Name y py] (.ListComp elt [⟨tg, iter, ifs, 0⟩] scope pos) spos) :=
  ⟨PS.imp (ps_setLc hc hN hy hyl hsw hi.run ok (fun s H C cl fp => (hg s H C cl fp).run) ht (fun s H C cl fp => (he s H C cl fp).run) hs) fun D σ H q => by
    obtain ⟨ξ, Y, s, hK, F, q⟩ := sAsgFrz_core hr q
    exact lc_reads hf ⟨ξ, Y, s, hK, F, q⟩⟩
end
/-- nothing is raised -/
def noEr : Exn → Value → Option Addr → Hp → Prop := fun _ _ _ _ => False
/-- turns that a while loop may take -/
def fuel : Nat := 10000000
end MI

set_option Elab.async false
set_option linter.all false
set_option autoImplicit false
set_option maxRecDepth 100000
/-! MI: running a mirror by simp. -/
namespace MI
open PySem PySem.Spec L2
/-! what stands behind is not looked at before its turn -/
theorem Res.bind_congr {α β : Type} {r r' : Res α} {k : α → S → Res β} (h : r = r') : r.bind k = r'.bind k := by rw [h]
theorem Res.toS_congr {α : Type} {r r' : Res α} {k : α → S → Out} (h : r = r') : r.toS k = r'.toS k := by rw [h]
def Out.andThen (o : Out) (h : SF) : Out := match o with
  | .nx s => h s
  | o => o
theorem Out.andThen_congr {o o' : Out} {h : SF} (e : o = o') : o.andThen h = o'.andThen h := by rw [e]
@[simp] theorem Out.then_nx {s : S} {h : SF} : (Out.nx s).andThen h = h s := Eq.trans rfl rfl
@[simp] theorem Out.then_bk {s : S} {h : SF} : (Out.bk s).andThen h = .bk s := Eq.trans rfl rfl
@[simp] theorem Out.then_ct {s : S} {h : SF} : (Out.ct s).andThen h = .ct s := Eq.trans rfl rfl
@[simp] theorem Out.then_rt {s : S} {o : OD} {h : SF} : (Out.rt o s).andThen h = .rt o s := Eq.trans rfl rfl
@[simp] theorem Out.then_ex {s : S} {e : Exn} {h : SF} : (Out.ex e s).andThen h = .ex e s := Eq.trans rfl rfl
@[simp] theorem Out.then_bad {h : SF} : Out.bad.andThen h = .bad := Eq.trans rfl rfl
def Out.loop (o : Out) (h : SF) : Out := match o with
  | .nx s2 => h s2
  | .ct s2 => h s2
  | .bk s2 => .nx s2
  | .rt o s2 => .rt o s2
  | .ex e s2 => .ex e s2
  | .bad => .bad
theorem Out.loop_congr {o o' : Out} {h : SF} (e : o = o') : o.loop h = o'.loop h := by rw [e]
@[simp] theorem Out.loop_nx {s : S} {h : SF} : (Out.nx s).loop h = h s := Eq.trans rfl rfl
@[simp] theorem Out.loop_ct {s : S} {h : SF} : (Out.ct s).loop h = h s := Eq.trans rfl rfl
@[simp] theorem Out.loop_bk {s : S} {h : SF} : (Out.bk s).loop h = .nx s := Eq.trans rfl rfl
@[simp] theorem Out.loop_rt {s : S} {o : OD} {h : SF} : (Out.rt o s).loop h = .rt o s := Eq.trans rfl rfl
@[simp] theorem Out.loop_ex {s : S} {e : Exn} {h : SF} : (Out.ex e s).loop h = .ex e s := Eq.trans rfl rfl
@[simp] theorem Out.loop_bad {h : SF} : Out.bad.loop h = .bad := Eq.trans rfl rfl
def Out.fin (rf : List Bool) : Out → Res OD
  | .rt o s' => .ok o (keepR rf s')
  | .nx s' => .ok (.fz .none) (keepR rf s')
  | .ex e s' => .ex e (keepR rf s')
  | .bk _ => .bad
  | .ct _ => .bad
  | .bad => .bad
@[simp] theorem Out.fin_rt {rf : List Bool} {s : S} {o : OD} : (Out.rt o s).fin rf = .ok o (keepR rf s) := Eq.trans rfl rfl
@[simp] theorem Out.fin_nx {rf : List Bool} {s : S} : (Out.nx s).fin rf = .ok (.fz .none) (keepR rf s) := Eq.trans rfl rfl
@[simp] theorem Out.fin_ex {rf : List Bool} {s : S} {e : Exn} : (Out.ex e s).fin rf = .ex e (keepR rf s) := Eq.trans rfl rfl
/-! continuations by name: simp does not look into them before their turn -/
section
variable {s : S} {b : Bool}
def kFrz (o : OD) : EF := .ok o.frz
@[simp] theorem k_Frz {o : OD} : kFrz o s = .ok o.frz s := Eq.trans rfl rfl
def kFz (d : D) : OF := .ok (.fz d)
@[simp] theorem k_Fz {d : D} : kFz d s = .ok (.fz d) s := Eq.trans rfl rfl
def kOf {α β : Type} (F : α → Option β) (a : α) : S → Res β := ofO (F a)
@[simp] theorem k_Of {α β : Type} {F : α → Option β} {a : α} : kOf F a s = ofO (F a) s := Eq.trans rfl rfl
def kBin {α : Type} (F : D → D → Option α) (fb : EF) (a : D) : S → Res α := fun s => (fb s).bind (kOf (F a))
@[simp] theorem k_Bin {α : Type} {F : D → D → Option α} {fb : EF} {a : D} : kBin F fb a s = (fb s).bind (kOf (F a)) := Eq.trans rfl rfl
def kToB (b : Bool) : EF := .ok (.bool b)
@[simp] theorem k_ToB : kToB b s = .ok (.bool b) s := Eq.trans rfl rfl
def kBinB2 (F : D → D → Option Bool) (a b : D) : EF := fun s => (ofO (F a b) s).bind kToB
@[simp] theorem k_BinB2 {F : D → D → Option Bool} {a b : D} : kBinB2 F a b s = (ofO (F a b) s).bind kToB := Eq.trans rfl rfl
def kBinB (F : D → D → Option Bool) (fb : EF) (a : D) : EF := fun s => (fb s).bind (kBinB2 F a)
@[simp] theorem k_BinB {F : D → D → Option Bool} {fb : EF} {a : D} : kBinB F fb a s = (fb s).bind (kBinB2 F a) := Eq.trans rfl rfl
def kBool (d : D) : TF := fun s => match d with
  | .bool b => .ok b s
  | _ => .bad
@[simp] theorem k_Bool : kBool (.bool b) s = .ok b s := Eq.trans rfl rfl
def kIte {α : Type} (f g : S → Res α) (b : Bool) : S → Res α := fun s => if b = true then f s else g s
@[simp] theorem k_IteT {α : Type} {f g : S → Res α} : kIte f g true s = f s := Eq.trans rfl rfl
@[simp] theorem k_IteF {α : Type} {f g : S → Res α} : kIte f g false s = g s := Eq.trans rfl rfl
@[simp] theorem k_IteD {α : Type} {f g : S → Res α} {p : Prop} [Decidable p] : kIte f g (decide p) s = if p then f s else g s := by
  unfold kIte
  by_cases h : p <;> simp [h]
def kInv (b : Bool) : TF := .ok (!b)
@[simp] theorem k_Inv : kInv b s = .ok (!b) s := Eq.trans rfl rfl
def kAndD (fb : EF) (d : D) : EF := fun s => match d with
  | .bool true => fb s
  | .bool false => .ok (.bool false) s
  | _ => .bad
@[simp] theorem k_AndT {fb : EF} : kAndD fb (.bool true) s = fb s := Eq.trans rfl rfl
@[simp] theorem k_AndF {fb : EF} : kAndD fb (.bool false) s = .ok (.bool false) s := Eq.trans rfl rfl
@[simp] theorem k_AndP {fb : EF} {p : Prop} [Decidable p] : kAndD fb (.bool (decide p)) s = if p then fb s else .ok (.bool false) s := by
  by_cases h : p <;> simp [h]
def kOrD (fb : EF) (d : D) : EF := fun s => match d with
  | .bool true => .ok (.bool true) s
  | .bool false => fb s
  | _ => .bad
@[simp] theorem k_OrT {fb : EF} : kOrD fb (.bool true) s = .ok (.bool true) s := Eq.trans rfl rfl
@[simp] theorem k_OrF {fb : EF} : kOrD fb (.bool false) s = fb s := Eq.trans rfl rfl
@[simp] theorem k_OrP {fb : EF} {p : Prop} [Decidable p] : kOrD fb (.bool (decide p)) s = if p then .ok (.bool true) s else fb s := by
  by_cases h : p <;> simp [h]
def kNotD (d : D) : EF := fun s => match d with
  | .bool b => .ok (.bool !b) s
  | _ => .bad
@[simp] theorem k_NotD : kNotD (.bool b) s = .ok (.bool !b) s := Eq.trans rfl rfl
def kCons2 {α : Type} (a : α) (l : List α) : S → Res (List α) := .ok (a :: l)
@[simp] theorem k_Cons2 {α : Type} {a : α} {l : List α} : kCons2 a l s = .ok (a :: l) s := Eq.trans rfl rfl
def kCons {α : Type} (g : S → Res (List α)) (a : α) : S → Res (List α) := fun s => (g s).bind (kCons2 a)
@[simp] theorem k_Cons {α : Type} {g : S → Res (List α)} {a : α} : kCons g a s = (g s).bind (kCons2 a) := Eq.trans rfl rfl
def kSized {α β : Type} (F : List α → β) (l : List α) : S → Res β := fun s => if l.length ≤ sizeLine then .ok (F l) s else .bad
theorem size_small {n : Nat} (h : n ≤ 1000000) : n ≤ sizeLine := by unfold sizeLine; omega
theorem k_Sized {α β : Type} {F : List α → β} {l : List α} : kSized F l s = if l.length ≤ sizeLine then .ok (F l) s else .bad := rfl
@[simp] theorem k_Sized0 {α β : Type} {F : List α → β} : kSized F [] s = .ok (F []) s := if_pos (show 0 ≤ sizeLine from size_small (by decide))
@[simp] theorem k_Sized1 {α β : Type} {F : List α → β} {x0 : α} : kSized F [x0] s = .ok (F [x0]) s := if_pos (show 1 ≤ sizeLine from size_small (by decide))
@[simp] theorem k_Sized2 {α β : Type} {F : List α → β} {x0 x1 : α} : kSized F [x0, x1] s = .ok (F [x0, x1]) s := if_pos (show 2 ≤ sizeLine from size_small (by decide))
@[simp] theorem k_Sized3 {α β : Type} {F : List α → β} {x0 x1 x2 : α} : kSized F [x0, x1, x2] s = .ok (F [x0, x1, x2]) s := if_pos (show 3 ≤ sizeLine from size_small (by decide))
@[simp] theorem k_Sized4 {α β : Type} {F : List α → β} {x0 x1 x2 x3 : α} : kSized F [x0, x1, x2, x3] s = .ok (F [x0, x1, x2, x3]) s := if_pos (show 4 ≤ sizeLine from size_small (by decide))
@[simp] theorem k_Sized5 {α β : Type} {F : List α → β} {x0 x1 x2 x3 x4 : α} : kSized F [x0, x1, x2, x3, x4] s = .ok (F [x0, x1, x2, x3, x4]) s := if_pos (show 5 ≤ sizeLine from size_small (by decide))
@[simp] theorem k_Sized6 {α β : Type} {F : List α → β} {x0 x1 x2 x3 x4 x5 : α} : kSized F [x0, x1, x2, x3, x4, x5] s = .ok (F [x0, x1, x2, x3, x4, x5]) s := if_pos (show 6 ≤ sizeLine from size_small (by decide))
@[simp] theorem k_Sized7 {α β : Type} {F : List α → β} {x0 x1 x2 x3 x4 x5 x6 : α} : kSized F [x0, x1, x2, x3, x4, x5, x6] s = .ok (F [x0, x1, x2, x3, x4, x5, x6]) s := if_pos (show 7 ≤ sizeLine from size_small (by decide))
@[simp] theorem k_Sized8 {α β : Type} {F : List α → β} {x0 x1 x2 x3 x4 x5 x6 x7 : α} : kSized F [x0, x1, x2, x3, x4, x5, x6, x7] s = .ok (F [x0, x1, x2, x3, x4, x5, x6, x7]) s := if_pos (show 8 ≤ sizeLine from size_small (by decide))
@[simp] theorem k_Sized9 {α β : Type} {F : List α → β} {x0 x1 x2 x3 x4 x5 x6 x7 x8 : α} : kSized F [x0, x1, x2, x3, x4, x5, x6, x7, x8] s = .ok (F [x0, x1, x2, x3, x4, x5, x6, x7, x8]) s := if_pos (show 9 ≤ sizeLine from size_small (by decide))
@[simp] theorem k_Sized10 {α β : Type} {F : List α → β} {x0 x1 x2 x3 x4 x5 x6 x7 x8 x9 : α} : kSized F [x0, x1, x2, x3, x4, x5, x6, x7, x8, x9] s = .ok (F [x0, x1, x2, x3, x4, x5, x6, x7, x8, x9]) s := if_pos (show 10 ≤ sizeLine from size_small (by decide))
@[simp] theorem k_Sized11 {α β : Type} {F : List α → β} {x0 x1 x2 x3 x4 x5 x6 x7 x8 x9 x10 : α} : kSized F [x0, x1, x2, x3, x4, x5, x6, x7, x8, x9, x10] s = .ok (F [x0, x1, x2, x3, x4, x5, x6, x7, x8, x9, x10]) s := if_pos (show 11 ≤ sizeLine from size_small (by decide))
@[simp] theorem k_Sized12 {α β : Type} {F : List α → β} {x0 x1 x2 x3 x4 x5 x6 x7 x8 x9 x10 x11 : α} : kSized F [x0, x1, x2, x3, x4, x5, x6, x7, x8, x9, x10, x11] s = .ok (F [x0, x1, x2, x3, x4, x5, x6, x7, x8, x9, x10, x11]) s := if_pos (show 12 ≤ sizeLine from size_small (by decide))
@[simp] theorem k_Sized13 {α β : Type} {F : List α → β} {x0 x1 x2 x3 x4 x5 x6 x7 x8 x9 x10 x11 x12 : α} : kSized F [x0, x1, x2, x3, x4, x5, x6, x7, x8, x9, x10, x11, x12] s = .ok (F [x0, x1, x2, x3, x4, x5, x6, x7, x8, x9, x10, x11, x12]) s := if_pos (show 13 ≤ sizeLine from size_small (by decide))
@[simp] theorem k_Sized14 {α β : Type} {F : List α → β} {x0 x1 x2 x3 x4 x5 x6 x7 x8 x9 x10 x11 x12 x13 : α} : kSized F [x0, x1, x2, x3, x4, x5, x6, x7, x8, x9, x10, x11, x12, x13] s = .ok (F [x0, x1, x2, x3, x4, x5, x6, x7, x8, x9, x10, x11, x12, x13]) s := if_pos (show 14 ≤ sizeLine from size_small (by decide))
@[simp] theorem k_Sized15 {α β : Type} {F : List α → β} {x0 x1 x2 x3 x4 x5 x6 x7 x8 x9 x10 x11 x12 x13 x14 : α} : kSized F [x0, x1, x2, x3, x4, x5, x6, x7, x8, x9, x10, x11, x12, x13, x14] s = .ok (F [x0, x1, x2, x3, x4, x5, x6, x7, x8, x9, x10, x11, x12, x13, x14]) s := if_pos (show 15 ≤ sizeLine from size_small (by decide))
theorem sized_ok {α β : Type} {F : List α → β} {l : List α} (h : l.length ≤ 1000000) : kSized F l s = .ok (F l) s := if_pos (size_small h)
def kRef (ds : List D) : AF := .ok (.none :: ds)
@[simp] theorem k_Ref {ds : List D} : kRef ds s = .ok (.none :: ds) s := Eq.trans rfl rfl
def kDrop (_ : D) : SF := .nx
@[simp] theorem k_Drop {d : D} : kDrop d s = .nx s := Eq.trans rfl rfl
def kIteS (f g : SF) (b : Bool) : SF := fun s => if b = true then f s else g s
@[simp] theorem k_IteST {f g : SF} : kIteS f g true s = f s := Eq.trans rfl rfl
@[simp] theorem k_IteSF {f g : SF} : kIteS f g false s = g s := Eq.trans rfl rfl
@[simp] theorem k_IteSD {f g : SF} {p : Prop} [Decidable p] : kIteS f g (decide p) s = if p then f s else g s := by
  unfold kIteS
  by_cases h : p <;> simp [h]
def kAsg (f : GF) (d : D) : SF := fun s => match f d s with
  | some s => .nx s
  | none => .bad
@[simp] theorem k_Asg {f : GF} {d : D} : kAsg f d s = match f d s with
  | some s => .nx s
  | none => .bad := Eq.trans rfl rfl
def kSet (i : Nat) (o : OD) : SF := fun s => .nx (s.set i (some o))
@[simp] theorem k_Set {i : Nat} {o : OD} : kSet i o s = .nx (s.set i (some o)) := Eq.trans rfl rfl
def kPar (is : List Nat) (os : List OD) : SF := fun s => if os.length = is.length then .nx (setAll is os s) else .bad
@[simp] theorem k_Par {is : List Nat} {os : List OD} : kPar is os s = if os.length = is.length then .nx (setAll is os s) else .bad := by
  refine Eq.trans ?_ rfl
  rfl
def kRg1 (d : D) : IF := fun s => match d with
  | .int n => if -(2 ^ 62) ≤ n ∧ n < 2 ^ 62 then .ok (upto 0 n.toNat) s else .bad
  | _ => .bad
@[simp] theorem k_Rg1 {n : Int} : kRg1 (.int n) s = if -(2 ^ 62) ≤ n ∧ n < 2 ^ 62 then .ok (upto 0 n.toNat) s else .bad := by
  refine Eq.trans ?_ rfl
  rfl
def kRg2b (d e : D) : IF := fun s => match d, e with
  | .int m, .int n => if -(2 ^ 62) ≤ m ∧ m < 2 ^ 62 ∧ -(2 ^ 62) ≤ n ∧ n < 2 ^ 62 then .ok (upto m (n - m).toNat) s else .bad
  | _, _ => .bad
@[simp] theorem k_Rg2b {m n : Int} : kRg2b (.int m) (.int n) s = if -(2 ^ 62) ≤ m ∧ m < 2 ^ 62 ∧ -(2 ^ 62) ≤ n ∧ n < 2 ^ 62 then .ok (upto m (n - m).toNat) s else .bad := by
  refine Eq.trans ?_ rfl
  rfl
def kRg2 (fb : EF) (d : D) : IF := fun s => (fb s).bind (kRg2b d)
@[simp] theorem k_Rg2 {fb : EF} {d : D} : kRg2 fb d s = (fb s).bind (kRg2b d) := Eq.trans rfl rfl
def kPart (d : D) : PF := fun s => match d with
  | .int i => .ok (some i) s
  | _ => .bad
@[simp] theorem k_Part {n : Int} : kPart (.int n) s = .ok (some n) s := Eq.trans rfl rfl
def kSl3 (d : D) (lo hi : Option Int) : OF := ofO (sliceD d lo hi)
@[simp] theorem k_Sl3 {d : D} {lo hi : Option Int} : kSl3 d lo hi s = ofO (sliceD d lo hi) s := Eq.trans rfl rfl
def kSl2 (h : PF) (d : D) (lo : Option Int) : OF := fun s => (h s).bind (kSl3 d lo)
@[simp] theorem k_Sl2 {h : PF} {d : D} {lo : Option Int} : kSl2 h d lo s = (h s).bind (kSl3 d lo) := Eq.trans rfl rfl
def kSl1 (l h : PF) (d : D) : OF := fun s => (l s).bind (kSl2 h d)
@[simp] theorem k_Sl1 {l h : PF} {d : D} : kSl1 l h d s = (l s).bind (kSl2 h d) := Eq.trans rfl rfl
def Res.backTo {α : Type} (ks : List (Option Nat)) (s1 : S) : Res α → Res α
  | .ok o s2 => .ok o (backR ks s2 s1)
  | .ex e s2 => .ex e (backR ks s2 s1)
  | .bad => .bad
@[simp] theorem Res.backTo_ok {α : Type} {ks : List (Option Nat)} {s1 s2 : S} {o : α} : (Res.ok o s2).backTo ks s1 = .ok o (backR ks s2 s1) := Eq.trans rfl rfl
@[simp] theorem Res.backTo_ex {α : Type} {ks : List (Option Nat)} {s1 s2 : S} {e : Exn} : (Res.ex e s2 : Res α).backTo ks s1 = .ex e (backR ks s2 s1) := Eq.trans rfl rfl
def kCall2 (ks : List (Option Nat)) (F : List OD → Res OD) (s1 : S) : Option (List OD) → Res OD
  | none => .bad
  | some ods => (F ods).backTo ks s1
@[simp] theorem k_Call2 {ks : List (Option Nat)} {F : List OD → Res OD} {ods : List OD} : kCall2 ks F s (some ods) = (F ods).backTo ks s := Eq.trans rfl rfl
def kCall (ks : List (Option Nat)) (F : List OD → Res OD) (ds : List D) : OF := fun s1 => kCall2 ks F s1 (odsOf ks ds s1)
@[simp] theorem k_Call {ks : List (Option Nat)} {F : List OD → Res OD} {ds : List D} : kCall ks F ds s = kCall2 ks F s (odsOf ks ds s) := Eq.trans rfl rfl
def Res.valTo {α : Type} (s1 : S) : Res α → Res α
  | .ok o _ => .ok o s1
  | _ => .bad
@[simp] theorem Res.valTo_ok {α : Type} {s1 s2 : S} {o : α} : (Res.ok o s2).valTo s1 = .ok o s1 := Eq.trans rfl rfl
def kCallP2 (m n : Nat) (ix : List Nat) (F : List OD → Res OD) (ds es : List D) : OF := fun s2 => if ds.length = m ∧ es.length = n then (F ((pickL .none ix (ds ++ es)).map .fz)).valTo s2 else .bad
@[simp] theorem k_CallP2 {m n : Nat} {ix : List Nat} {F : List OD → Res OD} {ds es : List D} : kCallP2 m n ix F ds es s = if ds.length = m ∧ es.length = n then (F ((pickL .none ix (ds ++ es)).map .fz)).valTo s else .bad := Eq.trans rfl rfl
def kCallP1 (m n : Nat) (ix : List Nat) (g : AF) (F : List OD → Res OD) (ds : List D) : OF := fun s1 => (g s1).bind (kCallP2 m n ix F ds)
@[simp] theorem k_CallP1 {m n : Nat} {ix : List Nat} {g : AF} {F : List OD → Res OD} {ds : List D} : kCallP1 m n ix g F ds s = (g s).bind (kCallP2 m n ix F ds) := Eq.trans rfl rfl
def Res.oF (s : S) : Option OD → Res D
  | some (.fz d) => .ok d s
  | _ => .bad
@[simp] theorem Res.oF_fz {d : D} : Res.oF s (some (.fz d)) = .ok d s := Eq.trans rfl rfl
def kAtF (d k : D) : EF := fun s1 => match ixD d k with
  | some (.fz d') => .ok d' s1
  | _ => .bad
@[simp] theorem k_AtF {d k : D} : kAtF d k s = Res.oF s (ixD d k) := by
  unfold kAtF Res.oF
  cases ixD d k with
  | none => rfl
  | some o => cases o <;> rfl
def Res.oD (s : S) : Option D → Res D
  | some d => .ok d s
  | none => .bad
@[simp] theorem Res.oD_some {d : D} : Res.oD s (some d) = .ok d s := Eq.trans rfl rfl
def kAtO (i : Nat) (k : D) : EF := fun s1 => match k, s1[i]? with
    | .int n, some (some (.ol ds)) => match atI ds n with
      | some d => .ok d s1
      | none => .bad
    | _, _ => .bad
@[simp] theorem k_AtO {i : Nat} {n : Int} : kAtO i (.int n) s = match s[i]? with
    | some (some (.ol ds)) => Res.oD s (atI ds n)
    | _ => .bad := by
  unfold kAtO
  split
  · rename_i m ds e1 e2
    rw [e2]
    cases e1
    simp only
    cases atI ds n <;> rfl
  · rename_i h
    split
    · rename_i ds e2
      exact (h _ _ rfl e2).elim
    · rfl
def kApp (i : Nat) (d : D) : EF := fun s1 => match s1[i]? with
    | some (some (.ol ds)) => if ds.length < sizeLine then .ok .none (s1.set i (some (.ol (ds ++ [d])))) else .bad
    | _ => .bad
@[simp] theorem k_App {i : Nat} {d : D} : kApp i d s = match s[i]? with
    | some (some (.ol ds)) => if ds.length < sizeLine then .ok .none (s.set i (some (.ol (ds ++ [d])))) else .bad
    | _ => .bad := by
  refine Eq.trans ?_ rfl
  rfl
def kExt (i : Nat) (d : D) : EF := fun s1 => match d, s1[i]? with
    | .list es, some (some (.ol ds)) => if ds.length + es.length ≤ sizeLine then .ok .none (s1.set i (some (.ol (ds ++ es)))) else .bad
    | _, _ => .bad
@[simp] theorem k_Ext {i : Nat} {d : D} : kExt i d s = match d, s[i]? with
    | .list es, some (some (.ol ds)) => if ds.length + es.length ≤ sizeLine then .ok .none (s.set i (some (.ol (ds ++ es)))) else .bad
    | _, _ => .bad := by
  refine Eq.trans ?_ rfl
  rfl
def kNxU (_ : Unit) : SF := .nx
@[simp] theorem k_NxU {u : Unit} : kNxU u s = .nx s := Eq.trans rfl rfl
def kItem (i : Nat) (fa : EF) (d : D) : SF := fun s => (gItem i fa d s).toS kNxU
@[simp] theorem k_Item {i : Nat} {fa : EF} {d : D} : kItem i fa d s = (gItem i fa d s).toS kNxU := Eq.trans rfl rfl
def kItL (i : Nat) (d k : D) : S → Res Unit := fun s1 => match k, s1[i]? with
    | .int n, some (some (.ol ds)) => match ixN ds.length n with
      | some j => .ok () (s1.set i (some (.ol (ds.set j d))))
      | none => .bad
    | _, _ => .bad
@[simp] theorem k_ItL {i : Nat} {d k : D} : kItL i d k s = match k, s[i]? with
    | .int n, some (some (.ol ds)) => match ixN ds.length n with
      | some j => .ok () (s.set i (some (.ol (ds.set j d))))
      | none => .bad
    | _, _ => .bad := Eq.trans rfl rfl
def kItN (i : Nat) (d k : D) : S → Res Unit := fun s1 => match k, s1[i]? with
    | .int n, some (some (.on os)) => match ixN os.length n with
      | some j => .ok () (s1.set i (some (.on (os.set j (.fz d)))))
      | none => .bad
    | _, _ => .bad
@[simp] theorem k_ItN {i : Nat} {d k : D} : kItN i d k s = match k, s[i]? with
    | .int n, some (some (.on os)) => match ixN os.length n with
      | some j => .ok () (s.set i (some (.on (os.set j (.fz d)))))
      | none => .bad
    | _, _ => .bad := Eq.trans rfl rfl
def kIsi (T : String) (d : D) : EF := fun s => (ofO (isiF T d) s).bind kToB
@[simp] theorem k_Isi {T : String} {d : D} : kIsi T d s = (ofO (isiF T d) s).bind kToB := Eq.trans rfl rfl
def kLc2 (ow : List Bool) (s1 : S) (acc : List D) : OF := fun s2 => .ok (.ol acc) (backF ow s1 s2)
@[simp] theorem k_Lc2 {ow : List Bool} {s1 : S} {acc : List D} : kLc2 ow s1 acc s = .ok (.ol acc) (backF ow s1 s) := Eq.trans rfl rfl
def kLc (ow : List Bool) (f : GF) (ta : TF) (fb : EF) (ds : List D) : OF := fun s1 => if ow.length = s1.length then (lcL ow f ta fb ds [] (wipeF ow s1)).bind (kLc2 ow s1) else .bad
@[simp] theorem k_Lc {ow : List Bool} {f : GF} {ta : TF} {fb : EF} {ds : List D} : kLc ow f ta fb ds s = if ow.length = s.length then (lcL ow f ta fb ds [] (wipeF ow s)).bind (kLc2 ow s) else .bad := by
  refine Eq.trans ?_ rfl
  rfl
def kWh (t : TF) (h : SF) (n : Nat) (b : Bool) : SF := fun s1 => if b = true then (h s1).loop (whileL t h n) else .nx s1
@[simp] theorem k_WhT {t : TF} {h : SF} {n : Nat} : kWh t h n true s = (h s).loop (whileL t h n) := Eq.trans rfl rfl
@[simp] theorem k_WhF {t : TF} {h : SF} {n : Nat} : kWh t h n false s = .nx s := Eq.trans rfl rfl
@[simp] theorem k_WhD {t : TF} {h : SF} {n : Nat} {p : Prop} [Decidable p] : kWh t h n (decide p) s = if p then (h s).loop (whileL t h n) else .nx s := by
  unfold kWh
  by_cases q : p <;> simp [q]
end
section
variable {s : S} {fa fb fc : EF} {a b : D} {oa ob : OF} {ta tb : TF} {g g' : AF} {i j k n : Nat}
@[simp] theorem ev_ofO_some {α : Type} {a : α} : ofO (some a) s = .ok a s := Eq.trans rfl rfl
@[simp] theorem ev_C {d : D} : eC d s = .ok d s := Eq.trans rfl rfl
@[simp] theorem ev_Frz : eFrz oa s = (oa s).bind kFrz := Eq.trans rfl rfl
@[simp] theorem ev_oFz : oFz fa s = (fa s).bind kFz := Eq.trans rfl rfl
@[simp] theorem ev_Var : eVar i s = match s[i]? with
  | some (some (.fz d)) => .ok d s
  | some (some o) => .ok o.frz (s.set i (some (.fz o.frz)))
  | _ => .bad := Eq.trans rfl rfl
@[simp] theorem ev_oVar : oVar i s = match s[i]? with
  | some (some (.fz d)) => .ok (.fz d) s
  | some (some o) => .ok o (s.set i none)
  | _ => .bad := Eq.trans rfl rfl
@[simp] theorem ev_Op2 {F : D → D → Option OD} : oOp2 F fa fb s = (fa s).bind (kBin F fb) := Eq.trans rfl rfl
@[simp] theorem ev_Op1 {F : D → Option OD} : oOp1 F fa s = (fa s).bind (kOf F) := Eq.trans rfl rfl
@[simp] theorem ev_eCmp {F : D → D → Option Bool} : eCmp F fa fb s = (fa s).bind (kBinB F fb) := Eq.trans rfl rfl
@[simp] theorem ev_kCmp {F : D → D → Option Bool} : kCmp F fa fb s = (fa s).bind (kBin F fb) := Eq.trans rfl rfl
@[simp] theorem ev_kVal : kVal fa s = (fa s).bind kBool := Eq.trans rfl rfl
@[simp] theorem ev_kAnd : kAnd ta tb s = (ta s).bind (kIte tb (Res.ok false)) := Eq.trans rfl rfl
@[simp] theorem ev_kOr : kOr ta tb s = (ta s).bind (kIte (Res.ok true) tb) := Eq.trans rfl rfl
@[simp] theorem ev_kNot : kNot ta s = (ta s).bind kInv := Eq.trans rfl rfl
@[simp] theorem ev_eAnd : eAnd fa fb s = (fa s).bind (kAndD fb) := Eq.trans rfl rfl
@[simp] theorem ev_eOr : eOr fa fb s = (fa s).bind (kOrD fb) := Eq.trans rfl rfl
@[simp] theorem ev_eNot : eNot fa s = (fa s).bind kNotD := Eq.trans rfl rfl
@[simp] theorem ev_eIf : eIf ta fa fb s = (ta s).bind (kIte fa fb) := Eq.trans rfl rfl
@[simp] theorem ev_oIf : oIf ta oa ob s = (ta s).bind (kIte oa ob) := Eq.trans rfl rfl
@[simp] theorem ev_aNil : aNil s = .ok [] s := Eq.trans rfl rfl
@[simp] theorem ev_aCons : aCons fa g s = (fa s).bind (kCons g) := Eq.trans rfl rfl
@[simp] theorem ev_aoNil : aoNil s = .ok [] s := Eq.trans rfl rfl
@[simp] theorem ev_aoCons {h : AOF} : aoCons oa h s = (oa s).bind (kCons h) := Eq.trans rfl rfl
@[simp] theorem ev_eTup : eTup g s = (g s).bind (kSized PyData.tuple) := Eq.trans rfl rfl
@[simp] theorem ev_oLst : oLst g s = (g s).bind (kSized OD.ol) := Eq.trans rfl rfl
@[simp] theorem ev_oNest {h : AOF} : oNest h s = (h s).bind (kSized OD.on) := Eq.trans rfl rfl
@[simp] theorem ev_aRef : aRef i g s = match s[i]? with
  | some (some _) => (g s).bind kRef
  | _ => .bad := by unfold aRef; rfl
@[simp] theorem ev_sSeq {f h : SF} : sSeq f h s = (f s).andThen h := Eq.trans rfl rfl
@[simp] theorem ev_sNx : sNx s = .nx s := Eq.trans rfl rfl
@[simp] theorem ev_sBk : sBk s = .bk s := Eq.trans rfl rfl
@[simp] theorem ev_sCt : sCt s = .ct s := Eq.trans rfl rfl
@[simp] theorem ev_sExp : sExp fa s = (fa s).toS kDrop := Eq.trans rfl rfl
@[simp] theorem ev_sRet : sRet oa s = (oa s).toS Out.rt := Eq.trans rfl rfl
@[simp] theorem ev_sRetN : sRetN s = .rt (.fz .none) s := Eq.trans rfl rfl
@[simp] theorem ev_sIf {f h : SF} : sIf ta f h s = (ta s).toS (kIteS f h) := Eq.trans rfl rfl
@[simp] theorem ev_gN {d : D} : gN i d s = some (s.set i (some (.fz d))) := Eq.trans rfl rfl
@[simp] theorem ev_gsNil : gsNil [] s = some s := Eq.trans rfl rfl
@[simp] theorem ev_gsCons {f : GF} {h : List D → S → Option S} {d : D} {ds : List D} : gsCons f h (d :: ds) s = (f d s).bind (h ds) := Eq.trans rfl rfl
@[simp] theorem ev_gT {h : List D → S → Option S} {ds : List D} : gT n h (.tuple ds) s = if ds.length = n then h ds s else none := Eq.trans rfl rfl
@[simp] theorem ev_sAsg {f : GF} : sAsg fa f s = (fa s).toS (kAsg f) := Eq.trans rfl rfl
@[simp] theorem ev_sSet : sSet i oa s = (oa s).toS (kSet i) := Eq.trans rfl rfl
@[simp] theorem ev_setAll_nil : setAll [] [] s = s := Eq.trans rfl rfl
@[simp] theorem ev_setAll {is : List Nat} {os : List OD} {o : OD} : setAll (i :: is) (o :: os) s = setAll is os (s.set i (some o)) := Eq.trans rfl rfl
@[simp] theorem ev_sPar {is : List Nat} {h : AOF} : sPar is h s = (h s).toS (kPar is) := Eq.trans rfl rfl
@[simp] theorem ev_sFor {it : IF} {f : GF} {h : SF} : sFor it f h s = (it s).toS (forL f h) := Eq.trans rfl rfl
@[simp] theorem ev_forL_nil {f : GF} {h : SF} : forL f h [] s = .nx s := Eq.trans rfl rfl
@[simp] theorem ev_sWhile {h : SF} : sWhile n ta h s = whileL ta h n s := Eq.trans rfl rfl
@[simp] theorem ev_iSeq : iSeq fa s = (fa s).bind (kOf itemsD) := Eq.trans rfl rfl
@[simp] theorem ev_itemsL {ds : List D} : itemsD (.list ds) = some ds := Eq.trans rfl rfl
@[simp] theorem ev_itemsT {ds : List D} : itemsD (.tuple ds) = some ds := Eq.trans rfl rfl
@[simp] theorem ev_iRange1 : iRange1 fa s = (fa s).bind kRg1 := by
  refine Eq.trans ?_ rfl
  rfl
@[simp] theorem ev_iRange2 : iRange2 fa fb s = (fa s).bind (kRg2 fb) := by
  refine Eq.trans ?_ rfl
  rfl
@[simp] theorem ev_Blt {F : List D → Option OD} : oBlt F g s = (g s).bind (kOf F) := Eq.trans rfl rfl
@[simp] theorem ev_one {F : D → Option OD} : one F [a] = F a := Eq.trans rfl rfl
@[simp] theorem ev_two {F : D → D → Option OD} : two F [a, b] = F a b := Eq.trans rfl rfl
@[simp] theorem ev_pNo : pNo s = .ok none s := Eq.trans rfl rfl
@[simp] theorem ev_pSome : pSome fa s = (fa s).bind kPart := Eq.trans rfl rfl
@[simp] theorem ev_Slice {l h : PF} : oSlice fa l h s = (fa s).bind (kSl1 l h) := Eq.trans rfl rfl
@[simp] theorem ev_sliceL {xs : List D} {lo hi : Option Int} : sliceD (.list xs) lo hi = some (.ol (cutD xs lo hi)) := Eq.trans rfl rfl
@[simp] theorem ev_sliceT {xs : List D} {lo hi : Option Int} : sliceD (.tuple xs) lo hi = some (.fz (.tuple (cutD xs lo hi))) := Eq.trans rfl rfl
@[simp] theorem ev_sliceK {xs : List D} {lo hi : Option Int} : sliceD (lockD xs) lo hi = some (.ol (cutD xs lo hi)) := Eq.trans rfl rfl
@[simp] theorem ev_Call {ks : List (Option Nat)} {F : List OD → Res OD} : oCall ks g F s = (g s).bind (kCall ks F) := by
  unfold oCall
  congr 1
  funext ds s1
  unfold kCall kCall2 Res.backTo
  cases odsOf ks ds s1 with
  | none => rfl
  | some ods =>
    simp only
    cases F ods <;> rfl
@[simp] theorem ev_CallP {m : Nat} {ix : List Nat} {F : List OD → Res OD} : oCallP m n ix g g' F s = (g s).bind (kCallP1 m n ix g' F) := by
  unfold oCallP
  congr 1
  funext ds s1
  unfold kCallP1
  congr 1
  funext es s2
  unfold kCallP2 Res.valTo
  split
  · split
    · rename_i e; rw [e]
    · rename_i h
      split
      · rename_i o s3 e; exact (h _ _ e).elim
      · rfl
  · rfl
@[simp] theorem ev_pickL {α : Type} {z : α} {ix : List Nat} {l : List α} : pickL z ix l = ix.map fun j => l.getD j z := Eq.trans rfl rfl
@[simp] theorem ev_noexF {F : List OD → Res OD} {os : List OD} : noexF F os = (F os).noex := Eq.trans rfl rfl
@[simp] theorem ev_ods_nil : odsOf [] [] s = some [] := Eq.trans rfl rfl
@[simp] theorem ev_ods_none {ks : List (Option Nat)} {d : D} {ds : List D} : odsOf (none :: ks) (d :: ds) s = (odsOf ks ds s).map fun os => .fz d :: os := Eq.trans rfl rfl
@[simp] theorem ev_ods_some {ks : List (Option Nat)} {d : D} {ds : List D} : odsOf (some i :: ks) (d :: ds) s = match s[i]? with
    | some (some o) => (odsOf ks ds s).map fun os => o :: os
    | _ => none := Eq.trans rfl rfl
@[simp] theorem ev_back_nil {xs : S} : backR [] xs s = s := Eq.trans rfl rfl
@[simp] theorem ev_back_some {ks : List (Option Nat)} {x : Option OD} {xs : S} : backR (some i :: ks) (x :: xs) s = backR ks xs (s.set i x) := Eq.trans rfl rfl
@[simp] theorem ev_back_none {ks : List (Option Nat)} {x : Option OD} {xs : S} : backR (none :: ks) (x :: xs) s = backR ks xs s := Eq.trans rfl rfl
@[simp] theorem ev_keep_nil {xs : S} : keepR [] xs = [] := by cases xs <;> rfl
@[simp] theorem ev_keep_t {bs : List Bool} {x : Option OD} {xs : S} : keepR (true :: bs) (x :: xs) = x :: keepR bs xs := Eq.trans rfl rfl
@[simp] theorem ev_keep_f {bs : List Bool} {x : Option OD} {xs : S} : keepR (false :: bs) (x :: xs) = none :: keepR bs xs := Eq.trans rfl rfl
@[simp] theorem ev_mkF {rf : List Bool} {h : SF} {ods : List OD} : mkF n rf h ods = (h (ods.map some ++ List.replicate (n - ods.length) none)).fin rf := Eq.trans rfl rfl
@[simp] theorem ev_At : eAt i fa s = match s[i]? with
  | some (some (.fz d)) => (fa s).bind (kAtF d)
  | some (some (.ol _)) => (fa s).bind (kAtO i)
  | _ => .bad := Eq.trans rfl rfl
@[simp] theorem ev_Append : eAppend i fa s = match s[i]? with
  | some (some (.ol _)) => (fa s).bind (kApp i)
  | _ => .bad := Eq.trans rfl rfl
@[simp] theorem ev_Extend : eExtend i fa s = match s[i]? with
  | some (some (.ol _)) => (fa s).bind (kExt i)
  | _ => .bad := Eq.trans rfl rfl
@[simp] theorem ev_Pop : ePop i s = match s[i]? with
  | some (some (.ol ds)) => match ds[ds.length - 1]? with
    | some d => .ok d (s.set i (some (.ol ds.dropLast)))
    | none => .bad
  | _ => .bad := Eq.trans rfl rfl
@[simp] theorem ev_PopN : ePopN i k s = match s[i]? with
  | some (some (.on os)) => match os[k]? with
    | some (.ol ds) => match ds[ds.length - 1]? with
      | some d => .ok d (s.set i (some (.on (os.set k (.ol ds.dropLast)))))
      | none => .bad
    | _ => .bad
  | _ => .bad := Eq.trans rfl rfl
@[simp] theorem ev_ItemN : eItemN i k s = match s[i]? with
  | some (some (.on os)) => match os[k]? with
    | some (.fz d) => .ok d s
    | _ => .bad
  | _ => .bad := Eq.trans rfl rfl
@[simp] theorem ev_sItem : sItem i fa fb s = (fb s).toS (kItem i fa) := Eq.trans rfl rfl
@[simp] theorem ev_gItem {d : D} : gItem i fa d s = match s[i]? with
  | some (some (.ol _)) => (fa s).bind (kItL i d)
  | some (some (.on _)) => (fa s).bind (kItN i d)
  | _ => .bad := Eq.trans rfl rfl
@[simp] theorem ev_Isi {T : String} : eIsi T fa s = (fa s).bind (kIsi T) := Eq.trans rfl rfl
@[simp] theorem ev_Lc {ow : List Bool} {it : IF} {f : GF} : oLc ow it f ta fb s = (it s).bind (kLc ow f ta fb) := Eq.trans rfl rfl
@[simp] theorem ev_kYes : kYes s = .ok true s := Eq.trans rfl rfl
@[simp] theorem ev_wipe_nil : wipeF [] s = s := by cases s <;> rfl
@[simp] theorem ev_wipe_t {bs : List Bool} {x : Option OD} {xs : S} : wipeF (true :: bs) (x :: xs) = none :: wipeF bs xs := Eq.trans rfl rfl
@[simp] theorem ev_wipe_f {bs : List Bool} {x : Option OD} {xs : S} : wipeF (false :: bs) (x :: xs) = x :: wipeF bs xs := Eq.trans rfl rfl
@[simp] theorem ev_backF_nil {xs ys : S} : backF [] xs ys = ys := by cases xs <;> cases ys <;> rfl
@[simp] theorem ev_backF_t {bs : List Bool} {x y : Option OD} {xs ys : S} : backF (true :: bs) (x :: xs) (y :: ys) = (match x with
      | some (.fz d) => some (.fz d)
      | _ => none) :: backF bs xs ys := Eq.trans rfl rfl
@[simp] theorem ev_backF_f {bs : List Bool} {x y : Option OD} {xs ys : S} : backF (false :: bs) (x :: xs) (y :: ys) = y :: backF bs xs ys := Eq.trans rfl rfl
@[simp] theorem ev_brw_nil {ms : List Mode} : brw ms [] = [] := by cases ms <;> rfl
@[simp] theorem ev_brw {m : Mode} {ms : List Mode} {x : Option OD} {xs : S} : brw (m :: ms) (x :: xs) = b1 m x :: brw ms xs := Eq.trans rfl rfl
@[simp] theorem ev_rst_nil : rst [] [] [] = some [] := Eq.trans rfl rfl
@[simp] theorem ev_rst {m : Mode} {ms : List Mode} {x y : Option OD} {xs ys : S} : rst (m :: ms) (x :: xs) (y :: ys) = (r1 m x y).bind fun z => (rst ms xs ys).map fun zs => z :: zs := Eq.trans rfl rfl
@[simp] theorem ev_b1k {x : Option OD} : b1 .k x = x := Eq.trans rfl rfl
@[simp] theorem ev_b1f {x : Option OD} : b1 .f x = x.map fun o => .fz o.frz := Eq.trans rfl rfl
@[simp] theorem ev_r1f {x y : Option OD} : r1 .f x y = some x := by cases x <;> rfl
@[simp] theorem ev_r1k0 {y : Option OD} : r1 .k none y = some none := Eq.trans rfl rfl
@[simp] theorem ev_r1kf {d : D} {y : Option OD} : r1 .k (some (.fz d)) y = some (some (.fz d)) := Eq.trans rfl rfl
@[simp] theorem ev_r1kn {os : List OD} {o : OD} : r1 .k (some (.on os)) (some o) = if o.free = true then some (some o) else none := by
  refine Eq.trans ?_ rfl
  rfl
@[simp] theorem ev_r1kl {ds : List D} {o : OD} : r1 .k (some (.ol ds)) (some o) = if o.free = true then some (some o) else none := by
  refine Eq.trans ?_ rfl
  rfl
@[simp] theorem ev_eLend {ms : List Mode} : eLend ms fa s = if ms.length = s.length then match fa (brw ms s) with
    | .ok d s' => match rst ms s s' with
      | some r => if free d = true then .ok d r else .bad
      | none => .bad
    | .ex e s' => match rst ms s s' with
      | some r => .ex e r
      | none => .bad
    | .bad => .bad
  else .bad := Eq.trans rfl rfl
@[simp] theorem ev_kLend {ms : List Mode} : kLend ms ta s = if ms.length = s.length then match ta (brw ms s) with
    | .ok d s' => match rst ms s s' with
      | some r => .ok d r
      | none => .bad
    | .ex e s' => match rst ms s s' with
      | some r => .ex e r
      | none => .bad
    | .bad => .bad
  else .bad := Eq.trans rfl rfl
@[simp] theorem ev_oLend {ms : List Mode} : oLend ms oa s = if ms.length = s.length then match oa (brw ms s) with
    | .ok (.ol ds) s' => match rst ms s s' with
      | some r => if freeAll ds = true then .ok (.ol ds) r else .bad
      | none => .bad
    | .ex e s' => match rst ms s s' with
      | some r => .ex e r
      | none => .bad
    | _ => .bad
  else .bad := Eq.trans rfl rfl
@[simp] theorem ev_frz_fz {d : D} : (OD.fz d).frz = d := Eq.trans rfl rfl
@[simp] theorem ev_frz_ol {ds : List D} : (OD.ol ds).frz = .list ds := Eq.trans rfl rfl
@[simp] theorem free_int {n : Int} : free (.int n) = true := Eq.trans rfl rfl
@[simp] theorem free_bool {x : Bool} : free (.bool x) = true := Eq.trans rfl rfl
@[simp] theorem free_none : free .none = true := Eq.trans rfl rfl
@[simp] theorem free_str {x : Str} : free (.str x) = true := Eq.trans rfl rfl
@[simp] theorem free_tuple {ds : List D} : free (.tuple ds) = freeAll ds := by rw [free]
@[simp] theorem freeAll_nil : freeAll [] = true := Eq.trans rfl rfl
@[simp] theorem freeAll_cons {d : D} {ds : List D} : freeAll (d :: ds) = (free d && freeAll ds) := by rw [freeAll]
@[simp] theorem freeAll_ints {ns : List Int} : freeAll (ns.map PyData.int) = true := freeAll_map (fun _ => rfl) ns
end
/-! ### operators at data -/
section
variable {x y : Int} {xs ys : List D} {a b : D}
@[simp] theorem addD_int : addD (.int x) (.int y) = some (.fz (.int (x + y))) := Eq.trans rfl rfl
@[simp] theorem addD_tup : addD (.tuple xs) (.tuple ys) = if xs.length + ys.length ≤ sizeLine then some (.fz (.tuple (xs ++ ys))) else none := by
  simp only [addD, addI, addT, addLs, addS]
  split <;> rfl
@[simp] theorem addD_lst : addD (.list xs) (.list ys) = if xs.length + ys.length ≤ sizeLine then some (.ol (xs ++ ys)) else none := by
  simp only [addD, addI, addT, addLs, addS]
  split <;> rfl
@[simp] theorem subD_int : subD (.int x) (.int y) = some (.fz (.int (x - y))) := Eq.trans rfl rfl
@[simp] theorem negD_int : negD (.int x) = some (.fz (.int (-x))) := Eq.trans rfl rfl
theorem mulD_int : mulD (.int x) (.int y) = if x.natAbs.log2 + y.natAbs.log2 < 1000000 then some (.fz (.int (x * y))) else none := by
  simp only [mulD, mulI, mulL, mulT]
  split <;> rfl
@[simp] theorem mulD_list : mulD (.list xs) (.int y) = if -(2 ^ 63) ≤ y ∧ y < 2 ^ 63 ∧ xs.length * y.toNat ≤ sizeLine then some (.ol (List.replicate y.toNat xs).flatten) else none := by
  simp only [mulD, mulI, mulL, mulT]
  split <;> rfl
@[simp] theorem mulD_tup : mulD (.tuple xs) (.int y) = if xs.isEmpty = false ∧ 2 ≤ y ∧ y ≤ 1000 ∧ xs.length ≤ 1000 then some (.fz (.tuple (List.replicate y.toNat xs).flatten)) else none := by
  simp only [mulD, mulI, mulL, mulT]
  split <;> rfl
@[simp] theorem modD_int : modD (.int x) (.int y) = if 0 < y then some (.fz (.int (x % y))) else none := by
  refine Eq.trans ?_ rfl
  rfl
@[simp] theorem fdivD_int : fdivD (.int x) (.int y) = if 0 < y ∧ y.natAbs.log2 < 9000 then some (.fz (.int (x / y))) else none := by
  refine Eq.trans ?_ rfl
  rfl
@[simp] theorem powD_int : powD (.int x) (.int y) = if CPowW x y then some (.fz (.int (x ^ y.toNat))) else none := by
  refine Eq.trans ?_ rfl
  rfl
@[simp] theorem ltI_int : ltI (.int x) (.int y) = some (decide (x < y)) := Eq.trans rfl rfl
@[simp] theorem leI_int : leI (.int x) (.int y) = some (decide (x ≤ y)) := Eq.trans rfl rfl
@[simp] theorem gtI_int : gtI (.int x) (.int y) = some (decide (y < x)) := Eq.trans rfl rfl
@[simp] theorem geI_int : geI (.int x) (.int y) = some (decide (y ≤ x)) := Eq.trans rfl rfl
theorem eqP_some (h : plain a = true) (h2 : plain b = true) (h3 : SeqAt.shaped a = true) (h4 : SeqAt.shaped b = true) : eqP a b = some (PyData.eqv a b) := by
  unfold eqP
  rw [if_pos ⟨h, h2, h3, h4⟩]
@[simp] theorem eqD_int : eqD (.int x) (.int y) = some (decide (x = y)) := by
  unfold eqD eqS
  rw [eqP_some rfl rfl rfl rfl]
  simp only [PyData.eqv, Option.none_or, Option.map_none, Option.map_some]
  rw [show (x == y) = decide (x = y) from by rw [Bool.eq_iff_iff, beq_iff_eq, decide_eq_true_iff]]
@[simp] theorem neD_int : neD (.int x) (.int y) = some (!decide (x = y)) := by
  unfold neD eqS
  rw [eqP_some rfl rfl rfl rfl]
  simp only [PyData.eqv, Option.none_or, Option.map_none, Option.map_some]
  rw [show (x == y) = decide (x = y) from by rw [Bool.eq_iff_iff, beq_iff_eq, decide_eq_true_iff]]
@[simp] theorem eqD_str {x y : Str} : eqD (.str x) (.str y) = some (decide (x = y)) := Eq.trans rfl rfl
@[simp] theorem neD_str {x y : Str} : neD (.str x) (.str y) = some (!decide (x = y)) := Eq.trans rfl rfl
@[simp] theorem isN_none : isN .none .none = some true := Eq.trans rfl rfl
@[simp] theorem isN_int : isN (.int x) .none = some false := Eq.trans rfl rfl
@[simp] theorem isN_bool {x : Bool} : isN (.bool x) .none = some false := Eq.trans rfl rfl
@[simp] theorem isN_str {x : Str} : isN (.str x) .none = some false := Eq.trans rfl rfl
@[simp] theorem isN_tup : isN (.tuple xs) .none = some false := Eq.trans rfl rfl
@[simp] theorem isN_lst : isN (.list xs) .none = some false := Eq.trans rfl rfl
@[simp] theorem isntN_def : isntN a b = (isN a b).map not := Eq.trans rfl rfl
@[simp] theorem lenD_lst : lenD (.list xs) = some (.fz (.int xs.length)) := Eq.trans rfl rfl
@[simp] theorem lenD_tup : lenD (.tuple xs) = some (.fz (.int xs.length)) := Eq.trans rfl rfl
@[simp] theorem intB_int : intB (.int x) = some (.fz (.int x)) := Eq.trans rfl rfl
@[simp] theorem absD_int : absD (.int x) = some (.fz (.int (if x < 0 then -x else x))) := Eq.trans rfl rfl
@[simp] theorem listD_lst : listD (.list xs) = some (.ol xs) := Eq.trans rfl rfl
@[simp] theorem listD_tup : listD (.tuple xs) = some (.ol xs) := Eq.trans rfl rfl
@[simp] theorem tupleD_lst : tupleD (.list xs) = some (.fz (.tuple xs)) := Eq.trans rfl rfl
@[simp] theorem tupleD_tup : tupleD (.tuple xs) = some (.fz (.tuple xs)) := Eq.trans rfl rfl
@[simp] theorem revD_lst : revD (.list xs) = some (.ol xs.reverse) := Eq.trans rfl rfl
@[simp] theorem ixD_lst : ixD (.list xs) (.int x) = (atI xs x).map .fz := by
  simp only [ixD, ixL, ixT]
  cases atI xs x <;> rfl
@[simp] theorem ixD_tup : ixD (.tuple xs) (.int x) = (atI xs x).map .fz := Eq.trans rfl rfl
@[simp] theorem isi_int_int : isiF "int" (.int x) = some true := show kitB "int" "int" = some true by decide
@[simp] theorem isi_int_bool : isiF "bool" (.int x) = some false := show kitB "int" "bool" = some false by decide
@[simp] theorem isi_int_tuple : isiF "tuple" (.int x) = some false := show kitB "int" "tuple" = some false by decide
@[simp] theorem isi_int_str : isiF "str" (.int x) = some false := show kitB "int" "str" = some false by decide
theorem reprD_some (h : ReprOk a) : reprD a = some (.fz (.str a.shown)) := by
  unfold reprD
  rw [if_pos h]
end
/-! ### loops -/
theorem forL_cons {g : GF} {h : SF} {d : D} {ds : List D} {s : S} : forL g h (d :: ds) s = match g d s with
    | none => .bad
    | some s1 => (h s1).loop (forL g h ds) := rfl
theorem whileL_succ {t : TF} {h : SF} {n : Nat} {s : S} : whileL t h (n + 1) s = (t s).toS (kWh t h n) := rfl
theorem lcL_cons {ow : List Bool} {g : GF} {t : TF} {e : EF} {d : D} {ds acc : List D} {s : S} : lcL ow g t e (d :: ds) acc s = match g d s with
    | none => .bad
    | some s1 => (t s1).noex.bind fun b s2 => if b = true then (e s2).noex.bind fun y s3 => if acc.length < sizeLine then lcL ow g t e ds (acc ++ [y]) (wipeF ow s3) else .bad
        else lcL ow g t e ds acc (wipeF ow s2) := rfl
@[simp] theorem lcL_nil {ow : List Bool} {g : GF} {t : TF} {e : EF} {acc : List D} {s : S} : lcL ow g t e [] acc s = .ok acc s := Eq.trans rfl rfl
/-- a comprehension that changes nothing: item by item -/
theorem lcL_map {ow : List Bool} {g : GF} {e : EF} {s : S} {α : Type} (f : α → D) (u : α → D) : ∀ (l : List α) (acc : List D), (∀ a ∈ l, ∃ s1 s3, g (u a) s = some s1 ∧ e s1 = .ok (f a) s3 ∧ wipeF ow s3 = s) → acc.length + l.length ≤ sizeLine →
    lcL ow g kYes e (l.map u) acc s = .ok (acc ++ l.map f) s
  | [], acc, _, _ => by simp
  | a :: l, acc, h, hl => by
    obtain ⟨s1, s3, h1, h2, h3⟩ := h a (by simp)
    rw [List.map_cons, lcL_cons, h1]
    simp only [ev_kYes, Res.noex_ok, Res.bind_ok, if_true, h2]
    simp only [List.length_cons] at hl
    rw [if_pos (by omega), h3, lcL_map f u l (acc ++ [f a]) (fun b hb => h b (by simp [hb])) (by simp; omega)]
    simp
/-- every turn of a for loop keeps an invariant -/
theorem forL_inv {g : GF} {h : SF} (I : Nat → S → Prop) : ∀ (ds : List D) (k : Nat) (s : S), I k s → (∀ i d s, ds[i]? = some d → I (k + i) s → ∃ s1 s2, g d s = some s1 ∧ (h s1 = .nx s2 ∨ h s1 = .ct s2) ∧ I (k + i + 1) s2) →
    ∃ s', forL g h ds s = .nx s' ∧ I (k + ds.length) s'
  | [], k, s, h0, _ => ⟨s, rfl, h0⟩
  | d :: ds, k, s, h0, st => by
    obtain ⟨s1, s2, e1, e2, h2⟩ := st 0 d s rfl h0
    obtain ⟨s', e, h3⟩ := forL_inv I ds (k + 1) s2 h2 (fun i d s hd hi => by
      have := st (i + 1) d s (by simpa using hd) (by rw [show k + (i + 1) = k + 1 + i by omega]; exact hi)
      rw [show k + 1 + i + 1 = k + (i + 1) + 1 by omega]
      exact this)
    refine ⟨s', ?_, by rw [List.length_cons, show k + (ds.length + 1) = k + 1 + ds.length by omega]; exact h3⟩
    rw [forL_cons, e1]
    rcases e2 with e2 | e2 <;> simp only [e2, Out.loop_nx, Out.loop_ct] <;> exact e
end MI

set_option Elab.async false
set_option linter.all false
set_option autoImplicit false
set_option maxRecDepth 100000
/-! MI: facts about data for the plain laws. -/
namespace MI
open PySem PySem.Spec L2
theorem eqv_nil (cs : List Int) : PyData.eqv (.list (cs.map .int)) (.list []) = decide (cs = []) := by
  cases cs <;> simp [PyData.eqv, PyData.eqvAll]
theorem plain_ints : ∀ cs : List Int, plainAll (cs.map PyData.int) = true
  | [] => rfl
  | c :: cs => by simp [plainAll, MI.plain, plain_ints cs]
theorem can_ints : ∀ cs : List Int, PyData.canLayAll0 (cs.map PyData.int) = true
  | [] => rfl
  | c :: cs => by simp [PyData.canLayAll0, PyData.canLay0, can_ints cs]
theorem depth_ints : ∀ cs : List Int, PyData.depthAll (cs.map PyData.int) = 0
  | [] => rfl
  | c :: cs => by simp [PyData.depthAll, PyData.depth, depth_ints cs]
theorem shaped_ints (cs : List Int) : SeqAt.shaped (.list (cs.map PyData.int)) = true := by
  simp [SeqAt.shaped, PyData.canLay0, can_ints, PyData.depth, depth_ints]
theorem shaped_intsT (cs : List Int) : SeqAt.shaped (.tuple (cs.map PyData.int)) = true := by
  simp [SeqAt.shaped, PyData.canLay0, can_ints, PyData.depth, depth_ints]
theorem eqvAll_ints : ∀ cs ds : List Int, PyData.eqvAll (cs.map PyData.int) (ds.map PyData.int) = decide (cs = ds)
  | [], [] => by simp [PyData.eqvAll]
  | [], _ :: _ => by simp [PyData.eqvAll]
  | _ :: _, [] => by simp [PyData.eqvAll]
  | c :: cs, d :: ds => by
    simp only [List.map_cons, PyData.eqvAll, PyData.eqv, eqvAll_ints cs ds]
    by_cases h : c = d <;> by_cases h2 : cs = ds <;> simp [h, h2]
theorem eqD_lst (cs ds : List Int) : eqD (.list (cs.map PyData.int)) (.list (ds.map PyData.int)) = some (decide (cs = ds)) := by
  simp only [eqD, eqS, Option.none_or]
  rw [eqP_some (by simp [MI.plain, plain_ints]) (by simp [MI.plain, plain_ints]) (shaped_ints _) (shaped_ints _)]
  simp [PyData.eqv, eqvAll_ints]
theorem neD_lst (cs ds : List Int) : neD (.list (cs.map PyData.int)) (.list (ds.map PyData.int)) = some (!decide (cs = ds)) := by
  simp only [neD, eqS, Option.map_none, Option.none_or]
  rw [eqP_some (by simp [MI.plain, plain_ints]) (by simp [MI.plain, plain_ints]) (shaped_ints _) (shaped_ints _)]
  simp [PyData.eqv, eqvAll_ints]
theorem eqD_tup (cs ds : List Int) : eqD (.tuple (cs.map PyData.int)) (.tuple (ds.map PyData.int)) = some (decide (cs = ds)) := by
  simp only [eqD, eqS, Option.none_or]
  rw [eqP_some (by simp [MI.plain, plain_ints]) (by simp [MI.plain, plain_ints]) (shaped_intsT _) (shaped_intsT _)]
  simp [PyData.eqv, eqvAll_ints]
theorem neD_tup (cs ds : List Int) : neD (.tuple (cs.map PyData.int)) (.tuple (ds.map PyData.int)) = some (!decide (cs = ds)) := by
  simp only [neD, eqS, Option.map_none, Option.none_or]
  rw [eqP_some (by simp [MI.plain, plain_ints]) (by simp [MI.plain, plain_ints]) (shaped_intsT _) (shaped_intsT _)]
  simp [PyData.eqv, eqvAll_ints]
@[simp] theorem cp18 : CPowW 10 18 := by decide
@[simp] theorem cp30 : CPowW 10 30 := by decide
theorem map_last {cs : List Int} (h : cs ≠ []) : (cs.map PyData.int)[cs.length - 1]? = some (.int (cs.getLast h)) := by
  rw [List.getElem?_map, ← List.getLast?_eq_getElem?, List.getLast?_eq_some_getLast h]
  rfl
theorem log_lt {n : Int} {k : Nat} (h : n.natAbs < 2 ^ k) (hk : 0 < k) : n.natAbs.log2 < k := by
  by_cases h0 : n.natAbs = 0
  · rw [h0]; simpa using hk
  · exact (Nat.log2_lt h0).mpr h
/-- a product is told -/
theorem mul_ok {x y : Int} (k l : Nat) (hx : x.natAbs < 2 ^ k) (hy : y.natAbs < 2 ^ l) (hk : 0 < k := by decide) (hl : 0 < l := by decide) (h : k + l < 1000000 := by decide) : mulD (.int x) (.int y) = some (.fz (.int (x * y))) := by
  have h1 := log_lt hx hk
  have h2 := log_lt hy hl
  rw [mulD_int, if_pos (by omega)]
theorem fdiv_ok {x y : Int} (k : Nat) (hy : 0 < y) (h : y.natAbs < 2 ^ k) (hk : 0 < k := by decide) (hl : k ≤ 9000 := by decide) : fdivD (.int x) (.int y) = some (.fz (.int (x / y))) := by
  have h1 := log_lt h hk
  rw [fdivD_int, if_pos ⟨hy, by omega⟩]
theorem cut_map {α : Type} (f : α → D) (l : List α) (lo hi : Option Int) : ∃ a b : Nat, cutD (l.map f) lo hi = ((l.drop a).take b).map f :=
  ⟨HT.sIx (l.map f).length 0 lo, HT.sIx (l.map f).length (l.map f).length hi - HT.sIx (l.map f).length 0 lo, by
    unfold cutD
    rw [List.map_take, List.map_drop]⟩
theorem cut_to {α : Type} (f : α → D) (l : List α) (n : Nat) : cutD (l.map f) none (some (n : Int)) = (l.take n).map f := by
  unfold cutD
  rw [HT.sIx_none, List.drop_zero, Nat.sub_zero, HT.sIx_nat, ← List.map_take]
  congr 1
  rw [List.length_map, List.take_eq_take_iff]
  simp
theorem atI_natD {α : Type} {xs : List α} {i : Nat} {x : α} (h : xs[i]? = some x) : atI xs (i : Int) = some x := atI_nat h
theorem size_ok {n : Nat} (h : n ≤ 1000000) : n ≤ sizeLine := by unfold sizeLine; omega
theorem size_lt {n : Nat} (h : n ≤ 1000000) : n < sizeLine := by unfold sizeLine; omega
theorem upto_map (n : Nat) : upto 0 n = (List.range n).map fun i : Nat => PyData.int (i : Int) := by
  unfold upto
  simp
theorem upto_get {n i : Nat} {d : D} (h : (upto 0 n)[i]? = some d) : i < n ∧ d = .int (i : Int) := by
  rw [upto_map, List.getElem?_map, Option.map_eq_some_iff] at h
  obtain ⟨j, h1, rfl⟩ := h
  have hi := lt_of_get h1
  rw [List.length_range] at hi
  rw [List.getElem?_range hi] at h1
  cases h1
  exact ⟨hi, rfl⟩
@[simp] theorem upto_length (n : Nat) : (upto 0 n).length = n := by
  rw [upto_map]; simp
/-- range(m) for a natural number: used in place of k_Rg1 -/
theorem rg_nat {s : S} {n : Int} (m : Nat) (e : n = (m : Int)) (h : m ≤ 1000000) : kRg1 (.int n) s = .ok (upto 0 m) s := by
  rw [k_Rg1, if_pos (by omega), e, Int.toNat_natCast]
end MI

set_option Elab.async false
set_option linter.all false
set_option autoImplicit false
set_option maxRecDepth 100000
set_option maxHeartbeats 0
namespace G_k82
open PySem PySem.Spec L2 MI
/-! fall_trimmed -/
def t_fall_trimmed_1 : TF := (kAnd (kCmp gtI (eVar 1) (eC (.int 0))) (kCmp eqD (eAt 0 (eFrz (oOp2 subD (eVar 1) (eC (.int 1))))) (eC (.int 0))))
def l_fall_trimmed_1 : SF := (sAsg (eFrz (oOp2 subD (eVar 1) (eC (.int 1)))) (gN 1))
def b_fall_trimmed : SF := (sSeq (sAsg (eFrz (oBlt (one lenD) (aCons (eVar 0) aNil))) (gN 1))
  (sSeq (sWhile fuel t_fall_trimmed_1 l_fall_trimmed_1)
  (sRet (oBlt (one tupleD) (aCons (eFrz (oSlice (eVar 0) pNo (pSome (eVar 1)))) aNil)))))
def m_fall_trimmed : List OD → Res OD := mkF 2 [false] b_fall_trimmed
/-! choices_row -/
def l_choices_row_1 : SF := (sExp (eAppend 2 (eFrz (oOp2 fdivD (eFrz (oOp2 mulD (eAt 2 (eVar 3)) (eFrz (oOp2 subD (eVar 0) (eVar 3))))) (eFrz (oOp2 addD (eVar 3) (eC (.int 1))))))))
def b_choices_row : SF := (sSeq (sSet 2 (oLst (aCons (eC (.int 1)) aNil)))
  (sSeq (sFor (iRange1 (eFrz (oOp2 subD (eVar 1) (eC (.int 1))))) (gN 3) l_choices_row_1)
  (sRet (oVar 2))))
def m_choices_row : List OD → Res OD := mkF 4 [false, false] b_choices_row
/-! choose_modulo -/
def t_choose_modulo_1 : TF := (kOr (kCmp gtI (eVar 1) (eC (.int 0))) (kCmp gtI (eVar 2) (eC (.int 0))))
def l_choose_modulo_1 : SF := (sSeq (sPar [4, 5] (aoCons (oFz (eFrz (oOp2 modD (eVar 1) (eVar 0)))) (aoCons (oFz (eFrz (oOp2 modD (eVar 2) (eVar 0)))) aoNil)))
  (sSeq (sAsg (eFrz (oOp2 modD (eFrz (oOp2 mulD (eVar 3) (eFrz (oOp2 ixD (eFrz (oCall [none, none] (aCons (eVar 4) (aCons (eFrz (oOp2 addD (eVar 5) (eC (.int 1)))) aNil)) (noexF m_choices_row))) (eVar 5))))) (eVar 0))) (gN 3))
  (sPar [1, 2] (aoCons (oFz (eFrz (oOp2 fdivD (eVar 1) (eVar 0)))) (aoCons (oFz (eFrz (oOp2 fdivD (eVar 2) (eVar 0)))) aoNil)))))
def b_choose_modulo : SF := (sSeq (sAsg (eC (.int 1)) (gN 3))
  (sSeq (sWhile fuel t_choose_modulo_1 l_choose_modulo_1)
  (sRet (oVar 3))))
def m_choose_modulo : List OD → Res OD := mkF 6 [false, false, false] b_choose_modulo
/-! fall_period -/
def t_fall_period_1 : TF := (kCmp ltI (eVar 3) (eVar 2))
def l_fall_period_1 : SF := (sAsg (eFrz (oOp2 mulD (eVar 3) (eVar 0))) (gN 3))
def b_fall_period : SF := (sSeq (sPar [2, 3] (aoCons (oFz (eFrz (oBlt (one lenD) (aCons (eFrz (oCall [none] (aCons (eFrz (oLc [false, false, false, false, true] (iSeq (eVar 1)) (gN 4) kYes (eFrz (oOp2 modD (eVar 4) (eVar 0))))) aNil) (noexF m_fall_trimmed))) aNil)))) (aoCons (oFz (eC (.int 1))) aoNil)))
  (sSeq (sWhile fuel t_fall_period_1 l_fall_period_1)
  (sRet (oVar 3))))
def m_fall_period : List OD → Res OD := mkF 5 [false, false] b_fall_period
/-! _law_own_bag -/
def l__law_own_bag_1 : SF := (sAsg (eFrz (oOp2 modD (eFrz (oBlt (one intB) (aCons (eFrz (oOp2 addD (eFrz (oOp2 addD (eFrz (oOp2 mulD (eVar 3) (eC (.int 48271)))) (eFrz (oOp2 modD (eFrz (oBlt (one intB) (aCons (eVar 2) aNil))) (eC (.int 2147483629)))))) (eC (.int 7)))) aNil))) (eC (.int 2147483647)))) (gN 3))
def b__law_own_bag : SF := (sSeq (sAsg (eFrz (oLc [false, false, true, false] (iSeq (eFrz (oSlice (eVar 0) pNo (pSome (eC (.int 63)))))) (gN 2) kYes (eFrz (oBlt (one absD) (aCons (eVar 2) aNil))))) (gN 1))
  (sSeq (sAsg (eFrz (oOp2 addD (eC (.int 8221)) (eFrz (oBlt (one lenD) (aCons (eVar 1) aNil))))) (gN 3))
  (sSeq (sFor (iSeq (eVar 1)) (gN 2) l__law_own_bag_1)
  (sRet (oNest (aoCons (oOp1 revD (eFrz (oBlt (one listD) (aCons (eVar 1) aNil)))) (aoCons (oFz (eC (.int 0))) (aoCons (oFz (eVar 3)) aoNil))))))))
def m__law_own_bag : List OD → Res OD := mkF 4 [false] b__law_own_bag
/-! _law_draw -/
def t__law_draw_1 : TF := (kAnd (kCmp eqD (eItemN 0 1) (eC (.int 0))) (kEmptyN true 0 0))
def l__law_draw_1 : SF := (sSeq (sAsg (ePopN 0 0) (gN 2))
  (sItem 0 (eC (.int 1)) (eIf (kCmp gtI (eVar 2) (eFrz (oOp2 powD (eC (.int 10)) (eC (.int 18))))) (eVar 2) (eC (.int 0)))))
def b__law_draw : SF := (sSeq (sWhile fuel t__law_draw_1 l__law_draw_1)
  (sSeq (sIf (kCmp gtI (eItemN 0 1) (eC (.int 0))) (sSeq (sAsg (eFrz (oOp2 modD (eFrz (oBlt (one intB) (aCons (eItemN 0 1) aNil))) (eVar 1))) (gN 3))
  (sSeq (sItem 0 (eC (.int 1)) (eFrz (oOp2 fdivD (eItemN 0 1) (eVar 1))))
  (sRet (oVar 3)))) sNx)
  (sSeq (sItem 0 (eC (.int 2)) (eFrz (oOp2 modD (eFrz (oBlt (one intB) (aCons (eFrz (oOp2 addD (eFrz (oOp2 mulD (eItemN 0 2) (eC (.int 48271)))) (eC (.int 11)))) aNil))) (eC (.int 2147483647)))))
  (sRet (oOp2 modD (eFrz (oBlt (one intB) (aCons (eFrz (oOp2 fdivD (eFrz (oOp2 modD (eFrz (oBlt (one intB) (aCons (eFrz (oOp2 mulD (eItemN 0 2) (eItemN 0 2))) aNil))) (eC (.int 2147483629)))) (eC (.int 7)))) aNil))) (eVar 1))))))
def m__law_draw : List OD → Res OD := mkF 4 [true, false] b__law_draw
/-! _law_pick -/
def b__law_pick : SF := (sRet (oFz (eAt 1 (eFrz (oCall [some 0, none] (aRef 0 (aCons (eFrz (oBlt (one lenD) (aCons (eVar 1) aNil))) aNil)) (noexF m__law_draw))))))
def m__law_pick : List OD → Res OD := mkF 2 [true, false] b__law_pick
/-! _law_number -/
def l__law_number_1 : SF := (sAsg (eFrz (oOp2 addD (eFrz (oOp2 mulD (eVar 3) (eC (.int 1000000)))) (eFrz (oCall [some 0, none] (aRef 0 (aCons (eC (.int 1000000)) aNil)) (noexF m__law_draw))))) (gN 3))
def b__law_number : SF := (sSeq (sPar [2, 3] (aoCons (oFz (eFrz (oCall [some 0, none] (aRef 0 (aCons (eC (.int 8)) aNil)) (noexF m__law_draw)))) (aoCons (oFz (eFrz (oCall [some 0, none] (aRef 0 (aCons (eC (.int 10)) aNil)) (noexF m__law_draw)))) aoNil)))
  (sSeq (sIf (kCmp gtI (eVar 2) (eC (.int 2))) (sSeq (sAsg (eC (.int 0)) (gN 3))
  (sSeq (sFor (iRange1 (eFrz (oOp2 addD (eC (.int 1)) (eFrz (oCall [some 0, none] (aRef 0 (aCons (eC (.int 6)) aNil)) (noexF m__law_draw)))))) (gN 4) l__law_number_1)
  (sAsg (eFrz (oOp2 modD (eFrz (oBlt (one intB) (aCons (eVar 3) aNil))) (eFrz (oOp2 addD (eVar 1) (eC (.int 1)))))) (gN 3)))) sNx)
  (sSeq (sIf (kCmp gtI (eVar 2) (eC (.int 6))) (sAsg (eFrz (oOp2 subD (eVar 1) (eFrz (oCall [some 0, none] (aRef 0 (aCons (eC (.int 3)) aNil)) (noexF m__law_draw))))) (gN 3)) sNx)
  (sRet (oIf (kCmp eqD (eFrz (oCall [some 0, none] (aRef 0 (aCons (eC (.int 2)) aNil)) (noexF m__law_draw))) (eC (.int 0))) (oVar 3) (oOp1 negD (eVar 3)))))))
def m__law_number : List OD → Res OD := mkF 5 [true, false] b__law_number
/-! _law_is_due -/
def b__law_is_due : SF := (sSeq (sIf (kCmp isN (eVar 1) (eC .none)) (sRet (oFz (eCmp isN (eVar 0) (eC .none)))) sNx)
  (sSeq (sIf (kVal (eIsi "tuple" (eVar 1))) (sRet (oFz (eAnd (eIsi "tuple" (eVar 0)) (eCmp eqD (eFrz (oBlt (one reprD) (aCons (eVar 0) aNil))) (eFrz (oBlt (one reprD) (aCons (eVar 1) aNil))))))) sNx)
  (sSeq (sIf (kVal (eIsi "str" (eVar 1))) (sRet (oFz (eAnd (eIsi "str" (eVar 0)) (eCmp eqD (eFrz (oBlt (one reprD) (aCons (eVar 0) aNil))) (eFrz (oBlt (one reprD) (aCons (eVar 1) aNil))))))) sNx)
  (sRet (oFz (eAnd (eIsi "int" (eVar 0)) (eAnd (eNot (eIsi "bool" (eVar 0))) (eCmp eqD (eFrz (oBlt (one reprD) (aCons (eVar 0) aNil))) (eFrz (oBlt (one reprD) (aCons (eVar 1) aNil)))))))))))
def m__law_is_due : List OD → Res OD := mkF 2 [false, false] b__law_is_due
/-! _law_rows_of_sums -/
def l__law_rows_of_sums_1 : SF := (sSeq (sAsg (eAt 0 (eFrz (oOp1 negD (eC (.int 1))))) (gN 2))
  (sExp (eAppend 0 (eFrz (oOp2 addD (eFrz (oLst (aCons (eC (.int 1)) aNil))) (eFrz (oLc [false, false, false, true] (iRange1 (eC (.int 40))) (gN 3) kYes (eFrz (oOp2 addD (eAt 2 (eVar 3)) (eAt 2 (eFrz (oOp2 addD (eVar 3) (eC (.int 1))))))))))))))
def b__law_rows_of_sums : SF := (sSeq (sSet 0 (oLst (aCons (eFrz (oOp2 addD (eFrz (oLst (aCons (eC (.int 1)) aNil))) (eFrz (oOp2 mulD (eFrz (oLst (aCons (eC (.int 0)) aNil))) (eC (.int 40)))))) aNil)))
  (sSeq (sFor (iRange1 (eC (.int 40))) (gN 1) l__law_rows_of_sums_1)
  (sRet (oVar 0))))
def m__law_rows_of_sums : List OD → Res OD := mkF 4 [] b__law_rows_of_sums
/-! _law_over -/
def l__law_over_1 : SF := (sAsg (eFrz (oOp2 fdivD (eFrz (oOp2 mulD (eVar 2) (eFrz (oOp2 subD (eVar 0) (eVar 3))))) (eFrz (oOp2 addD (eVar 3) (eC (.int 1)))))) (gN 2))
def b__law_over : SF := (sSeq (sAsg (eC (.int 1)) (gN 2))
  (sSeq (sFor (iRange1 (eVar 1)) (gN 3) l__law_over_1)
  (sRet (oVar 2))))
def m__law_over : List OD → Res OD := mkF 4 [false, false] b__law_over
/-! _law_by_digits -/
def l__law_by_digits_1 : SF := (sSeq (sIf (kOr (kCmp eqD (eVar 2) (eC (.int 0))) (kCmp eqD (eVar 4) (eC (.int 0)))) sBk sNx)
  (sPar [4, 1, 2] (aoCons (oFz (eFrz (oOp2 mulD (eVar 4) (eFrz (oOp2 ixD (eAt 3 (eFrz (oOp2 modD (eFrz (oBlt (one intB) (aCons (eVar 1) aNil))) (eVar 0)))) (eFrz (oOp2 modD (eFrz (oBlt (one intB) (aCons (eVar 2) aNil))) (eVar 0)))))))) (aoCons (oFz (eFrz (oOp2 fdivD (eVar 1) (eVar 0)))) (aoCons (oFz (eFrz (oOp2 fdivD (eVar 2) (eVar 0)))) aoNil)))))
def b__law_by_digits : SF := (sSeq (sAsg (eC (.int 1)) (gN 4))
  (sSeq (sFor (iRange1 (eC (.int 110))) (gN 5) l__law_by_digits_1)
  (sRet (oOp2 modD (eFrz (oBlt (one intB) (aCons (eVar 4) aNil))) (eVar 0)))))
def m__law_by_digits : List OD → Res OD := mkF 6 [false, false, false, false] b__law_by_digits
/-! _law_great -/
def b__law_great : SF := (sRet (oBlt (one absD) (aCons (eFrz (oCall [some 0, none] (aRef 0 (aCons (eFrz (oOp2 powD (eC (.int 10)) (eC (.int 30)))) aNil)) (noexF m__law_number))) aNil)))
def m__law_great : List OD → Res OD := mkF 1 [true] b__law_great
/-! _law_digits_below -/
def l__law_digits_below_1 : SF := (sSeq (sIf (kOr (kCmp eqD (eVar 5) (eC (.int 0))) (kAnd (kCmp eqD (eVar 6) (eC (.int 1))) (kCmp gtI (eVar 7) (eC (.int 11))))) sBk sNx)
  (sSeq (sAsg (eFrz (oOp2 addD (eVar 3) (eFrz (oOp2 mulD (eFrz (oCall [some 0, none] (aRef 0 (aCons (eFrz (oOp2 addD (eFrz (oOp2 modD (eFrz (oBlt (one intB) (aCons (eVar 5) aNil))) (eVar 1))) (eC (.int 1)))) aNil)) (noexF m__law_draw))) (eVar 4))))) (gN 3))
  (sPar [4, 5] (aoCons (oFz (eFrz (oOp2 mulD (eVar 4) (eVar 1)))) (aoCons (oFz (eFrz (oOp2 fdivD (eVar 5) (eVar 1)))) aoNil)))))
def b__law_digits_below : SF := (sSeq (sPar [3, 4, 5, 6] (aoCons (oFz (eC (.int 0))) (aoCons (oFz (eC (.int 1))) (aoCons (oFz (eVar 2)) (aoCons (oFz (eFrz (oCall [some 0, none] (aRef 0 (aCons (eC (.int 2)) aNil)) (noexF m__law_draw)))) aoNil)))))
  (sSeq (sFor (iRange1 (eC (.int 110))) (gN 7) l__law_digits_below_1)
  (sRet (oVar 3))))
def m__law_digits_below : List OD → Res OD := mkF 8 [true, false, false] b__law_digits_below
/-! _law_power -/
def l__law_power_1 : SF := (sSeq (sIf (kCmp gtI (eFrz (oOp2 mulD (eVar 2) (eVar 0))) (eFrz (oOp2 powD (eC (.int 10)) (eC (.int 30))))) sBk sNx)
  (sAsg (eFrz (oOp2 mulD (eVar 2) (eVar 0))) (gN 2)))
def b__law_power : SF := (sSeq (sAsg (eC (.int 1)) (gN 2))
  (sSeq (sFor (iRange1 (eVar 1)) (gN 3) l__law_power_1)
  (sRet (oVar 2))))
def m__law_power : List OD → Res OD := mkF 4 [false, false] b__law_power
/-! _law_pairs -/
def b__law_pairs : SF := (sSeq (sPar [2, 3, 4, 5] (aoCons (oFz (eFrz (oCall [some 0] (aRef 0 aNil) (noexF m__law_great)))) (aoCons (oFz (eFrz (oCall [some 0, none] (aRef 0 (aCons (eC (.int 41)) aNil)) (noexF m__law_draw)))) (aoCons (oFz (eFrz (oCall [none, none] (aCons (eVar 1) (aCons (eFrz (oCall [some 0, none] (aRef 0 (aCons (eC (.int 110)) aNil)) (noexF m__law_draw))) aNil)) (noexF m__law_power)))) (aoCons (oFz (eFrz (oCall [none, none] (aCons (eVar 1) (aCons (eC (.int 110)) aNil)) (noexF m__law_power)))) aoNil)))))
  (sSeq (sAsg (eFrz (oCall [some 0, none, none] (aRef 0 (aCons (eVar 1) (aCons (eVar 2) aNil))) (noexF m__law_digits_below))) (gN 6))
  (sSeq (sSet 7 (oLst (aCons (eTup (aCons (eVar 2) (aCons (eVar 6) aNil))) (aCons (eTup (aCons (eVar 2) (aCons (eFrz (oBlt (one (extD minI)) (aCons (eFrz (oLst (aCons (eFrz (oOp2 addD (eVar 6) (eVar 4))) (aCons (eFrz (oOp2 powD (eC (.int 10)) (eC (.int 30)))) aNil)))) aNil))) aNil))) (aCons (eTup (aCons (eVar 2) (aCons (eVar 2) aNil))) (aCons (eTup (aCons (eVar 2) (aCons (eC (.int 0)) aNil))) (aCons (eTup (aCons (eVar 2) (aCons (eFrz (oBlt (one (extD minI)) (aCons (eFrz (oLst (aCons (eFrz (oOp2 addD (eVar 2) (eC (.int 1)))) (aCons (eFrz (oOp2 powD (eC (.int 10)) (eC (.int 30)))) aNil)))) aNil))) aNil))) (aCons (eTup (aCons (eC (.int 0)) (aCons (eVar 2) aNil))) (aCons (eTup (aCons (eC (.int 0)) (aCons (eC (.int 0)) aNil))) aNil)))))))))
  (sSeq (sExp (eExtend 7 (eFrz (oLst (aCons (eTup (aCons (eVar 2) (aCons (eFrz (oCall [some 0, none] (aRef 0 (aCons (eC (.int 20)) aNil)) (noexF m__law_draw))) aNil))) (aCons (eTup (aCons (eFrz (oOp2 powD (eC (.int 10)) (eC (.int 30)))) (aCons (eFrz (oCall [some 0, none, none] (aRef 0 (aCons (eVar 1) (aCons (eFrz (oOp2 powD (eC (.int 10)) (eC (.int 30)))) aNil))) (noexF m__law_digits_below))) aNil))) (aCons (eTup (aCons (eVar 2) (aCons (eFrz (oOp2 subD (eVar 2) (eVar 6))) aNil))) (aCons (eTup (aCons (eVar 2) (aCons (eVar 4) aNil))) aNil))))))))
  (sSeq (sExp (eExtend 7 (eFrz (oLst (aCons (eTup (aCons (eVar 3) (aCons (eFrz (oCall [some 0, none] (aRef 0 (aCons (eFrz (oOp2 addD (eVar 3) (eC (.int 1)))) aNil)) (noexF m__law_draw))) aNil))) (aCons (eTup (aCons (eFrz (oCall [some 0, none] (aRef 0 (aCons (eC (.int 41)) aNil)) (noexF m__law_draw))) (aCons (eFrz (oCall [some 0, none] (aRef 0 (aCons (eC (.int 41)) aNil)) (noexF m__law_draw))) aNil))) (aCons (eTup (aCons (eFrz (oOp2 subD (eVar 5) (eC (.int 1)))) (aCons (eVar 5) aNil))) aNil)))))))
  (sRet (oOp2 addD (eVar 7) (eFrz (oLst (aCons (eTup (aCons (eVar 4) (aCons (eFrz (oOp2 fdivD (eVar 4) (eVar 1))) aNil))) (aCons (eTup (aCons (eFrz (oOp2 subD (eVar 4) (eC (.int 1)))) (aCons (eFrz (oCall [some 0, none] (aRef 0 (aCons (eC (.int 20)) aNil)) (noexF m__law_draw))) aNil))) aNil)))))))))))
def m__law_pairs : List OD → Res OD := mkF 8 [true, false] b__law_pairs
/-! _law_is_choice_right -/
def b__law_is_choice_right : SF := (sSeq (sAsg (eFrz (oCall [none, none, none, none] (aCons (eVar 0) (aCons (eVar 1) (aCons (eVar 2) (aCons (eVar 3) aNil)))) (noexF m__law_by_digits))) (gN 4))
  (sSeq (sIf (kAnd (kCmp leI (eVar 1) (eC (.int 40))) (kAnd (kCmp leI (eVar 2) (eC (.int 40))) (kCmp neD (eFrz (oOp2 modD (eFrz (oBlt (one intB) (aCons (eFrz (oOp2 ixD (eAt 3 (eVar 1)) (eVar 2))) aNil))) (eVar 0))) (eVar 4)))) (sRet (oFz (eC (.bool false)))) sNx)
  (sSeq (sIf (kAnd (kCmp leI (eVar 2) (eC (.int 19))) (kCmp neD (eFrz (oOp2 modD (eFrz (oBlt (one intB) (aCons (eFrz (oCall [none, none] (aCons (eVar 1) (aCons (eVar 2) aNil)) (noexF m__law_over))) aNil))) (eVar 0))) (eVar 4))) (sRet (oFz (eC (.bool false)))) sNx)
  (sRet (oFz (eAnd (eFrz (oCall [none, none] (aCons (eFrz (oCall [none, none, none] (aCons (eVar 0) (aCons (eVar 1) (aCons (eVar 2) aNil))) (noexF m_choose_modulo))) (aCons (eVar 4) aNil)) (noexF m__law_is_due))) (eFrz (oCall [none, none] (aCons (eFrz (oCallP 0 3 [0, 1, 2] aNil (aCons (eVar 0) (aCons (eVar 1) (aCons (eVar 2) aNil))) m_choose_modulo)) (aCons (eVar 4) aNil)) (noexF m__law_is_due)))))))))
def m__law_is_choice_right : List OD → Res OD := mkF 5 [false, false, false, false] b__law_is_choice_right
/-! _law_own_period -/
def l__law_own_period_1 : SF := (sSeq (sExp (eAppend 3 (eAt 2 (eC (.int 0)))))
  (sAsg (eFrz (oOp2 addD (eFrz (oLc [false, false, false, false, false, false, false, true, false] (iRange1 (eFrz (oOp2 subD (eFrz (oBlt (one lenD) (aCons (eVar 2) aNil))) (eC (.int 1))))) (gN 7) kYes (eFrz (oOp2 modD (eFrz (oBlt (one intB) (aCons (eFrz (oOp2 addD (eAt 2 (eVar 7)) (eAt 2 (eFrz (oOp2 addD (eVar 7) (eC (.int 1))))))) aNil))) (eVar 0))))) (eFrz (oLst (aCons (eC (.int 0)) aNil))))) (gN 2)))
def t__law_own_period_2 : TF := (kAnd (kCmp ltI (eVar 8) (eVar 4)) (kCmp neD (eFrz (oSlice (eVar 3) pNo (pSome (eC (.int 20))))) (eFrz (oSlice (eVar 3) (pSome (eVar 8)) (pSome (eFrz (oOp2 addD (eVar 8) (eC (.int 20)))))))))
def l__law_own_period_2 : SF := (sAsg (eFrz (oOp2 addD (eVar 8) (eC (.int 1)))) (gN 8))
def b__law_own_period : SF := (sSeq (sPar [2, 3, 4] (aoCons (oFz (eFrz (oOp2 addD (eFrz (oLc [false, false, false, false, false, true, false, false, false] (iSeq (eVar 1)) (gN 5) kYes (eFrz (oOp2 modD (eFrz (oBlt (one intB) (aCons (eVar 5) aNil))) (eVar 0))))) (eFrz (oLst (aCons (eC (.int 0)) aNil)))))) (aoCons (oLst aNil) (aoCons (oFz (eTab [(2, 32), (3, 27), (5, 25), (7, 49)] (eVar 0))) aoNil))))
  (sSeq (sFor (iRange1 (eFrz (oOp2 addD (eVar 4) (eC (.int 20))))) (gN 6) l__law_own_period_1)
  (sSeq (sAsg (eC (.int 1)) (gN 8))
  (sSeq (sWhile fuel t__law_own_period_2 l__law_own_period_2)
  (sRet (oVar 8))))))
def m__law_own_period : List OD → Res OD := mkF 9 [false, false] b__law_own_period
/-! _law_kept_fall -/
def l__law_kept_fall_1 : SF := (sExp (eAppend 6 (eFrz (oOp2 mulD (eVar 1) (eFrz (oCall [some 0, none] (aRef 0 (aCons (eVar 4) aNil)) (noexF m__law_number)))))))
def b__law_kept_fall : SF := (sSeq (sAsg (eFrz (oCall [some 0, none] (aRef 0 (aCons (eFrz (oLst (aCons (eC (.int 0)) (aCons (eC (.int 1)) (aCons (eVar 1) (aCons (eFrz (oOp2 addD (eVar 1) (eC (.int 1)))) (aCons (eFrz (oOp2 mulD (eVar 1) (eVar 1))) (aCons (eFrz (oOp2 addD (eFrz (oOp2 mulD (eVar 1) (eVar 1))) (eC (.int 1)))) (aCons (eC (.int 16)) (aCons (eC (.int 17)) (aCons (eC (.int 20)) (aCons (eFrz (oCall [some 0, none] (aRef 0 (aCons (eC (.int 21)) aNil)) (noexF m__law_draw))) (aCons (eFrz (oCall [some 0, none] (aRef 0 (aCons (eC (.int 21)) aNil)) (noexF m__law_draw))) aNil))))))))))))) aNil)) (noexF m__law_pick))) (gN 2))
  (sSeq (sAsg (eFrz (oBlt (one (extD minI)) (aCons (eFrz (oLst (aCons (eVar 2) (aCons (eC (.int 20)) aNil)))) aNil))) (gN 2))
  (sSeq (sPar [3, 4] (aoCons (oFz (eFrz (oCall [some 0, none] (aRef 0 (aCons (eFrz (oLst (aCons (eC (.int 0)) (aCons (eC (.int 0)) (aCons (eC (.int 1)) (aCons (eFrz (oCall [some 0, none] (aRef 0 (aCons (eC (.int 21)) aNil)) (noexF m__law_draw))) aNil)))))) aNil)) (noexF m__law_pick)))) (aoCons (oFz (eFrz (oOp2 fdivD (eFrz (oOp2 subD (eFrz (oOp2 powD (eC (.int 10)) (eC (.int 30)))) (eVar 1))) (eVar 1)))) aoNil)))
  (sSeq (sAsg (eCmp eqD (eFrz (oCall [some 0, none] (aRef 0 (aCons (eC (.int 6)) aNil)) (noexF m__law_draw))) (eC (.int 0))) (gN 5))
  (sSeq (sSet 6 (oLc [false, false, false, false, false, false, false, true] (iRange1 (eVar 2)) (gN 7) kYes (eIf (kVal (eVar 5)) (eC (.int 0)) (eFrz (oCall [some 0, none] (aRef 0 (aCons (eFrz (oOp2 powD (eC (.int 10)) (eC (.int 30)))) aNil)) (noexF m__law_number))))))
  (sSeq (sIf (kCmp gtI (eVar 2) (eC (.int 0))) (sItem 6 (eFrz (oOp1 negD (eC (.int 1)))) (eFrz (oOp2 addD (eFrz (oOp2 addD (eFrz (oOp2 mulD (eVar 1) (eFrz (oCall [some 0, none] (aRef 0 (aCons (eVar 4) aNil)) (noexF m__law_number))))) (eC (.int 1)))) (eFrz (oCall [some 0, none] (aRef 0 (aCons (eFrz (oOp2 subD (eVar 1) (eC (.int 1)))) aNil)) (noexF m__law_draw)))))) sNx)
  (sSeq (sFor (iRange1 (eFrz (oBlt (one (extD minI)) (aCons (eFrz (oLst (aCons (eVar 3) (aCons (eFrz (oOp2 subD (eC (.int 20)) (eVar 2))) aNil)))) aNil)))) (gN 7) l__law_kept_fall_1)
  (sSeq (sIf (kAnd (kLend [.f, .f, .f, .f, .f, .f, .f, .f] (kCmp neD (eVar 6) (eFrz (oLst aNil)))) (kCmp eqD (eAt 6 (eFrz (oOp1 negD (eC (.int 1))))) (eC (.int 0)))) (sItem 6 (eFrz (oOp1 negD (eC (.int 1)))) (eVar 1)) sNx)
  (sRet (oFz (eTup (aCons (eFrz (oBlt (one tupleD) (aCons (eVar 6) aNil))) (aCons (eVar 2) aNil)))))))))))))
def m__law_kept_fall : List OD → Res OD := mkF 8 [true, false] b__law_kept_fall
/-! _law_least_power -/
def t__law_least_power_1 : TF := (kCmp ltI (eVar 2) (eVar 1))
def l__law_least_power_1 : SF := (sAsg (eFrz (oOp2 mulD (eVar 2) (eVar 0))) (gN 2))
def b__law_least_power : SF := (sSeq (sAsg (eC (.int 1)) (gN 2))
  (sSeq (sWhile fuel t__law_least_power_1 l__law_least_power_1)
  (sRet (oVar 2))))
def m__law_least_power : List OD → Res OD := mkF 3 [false, false] b__law_least_power
/-! _law_is_period_right -/
def b__law_is_period_right : SF := (sSeq (sAsg (eFrz (oCall [none, none] (aCons (eVar 0) (aCons (eVar 1) aNil)) (noexF m__law_own_period))) (gN 3))
  (sSeq (sIf (kCmp neD (eVar 3) (eFrz (oCall [none, none] (aCons (eVar 0) (aCons (eVar 2) aNil)) (noexF m__law_least_power)))) (sRet (oFz (eC (.bool false)))) sNx)
  (sRet (oFz (eAnd (eFrz (oCall [none, none] (aCons (eFrz (oCall [none, none] (aCons (eVar 0) (aCons (eVar 1) aNil)) (noexF m_fall_period))) (aCons (eVar 3) aNil)) (noexF m__law_is_due))) (eFrz (oCall [none, none] (aCons (eFrz (oCallP 0 2 [0, 1] aNil (aCons (eVar 0) (aCons (eVar 1) aNil)) m_fall_period)) (aCons (eVar 3) aNil)) (noexF m__law_is_due))))))))
def m__law_is_period_right : List OD → Res OD := mkF 4 [false, false, false] b__law_is_period_right
/-! _law_are_periods_right -/
def l__law_are_periods_right_1 : SF := (sSeq (sAsg (eFrz (oCall [some 0, none] (aRef 0 (aCons (eVar 1) aNil)) (noexF m__law_kept_fall))) (gT 2 (gsCons (gN 4) (gsCons (gN 5) gsNil))))
  (sSeq (sIf (kNot (kVal (eFrz (oCall [none, none, none] (aCons (eVar 1) (aCons (eVar 4) (aCons (eVar 5) aNil))) (noexF m__law_is_period_right))))) (sRet (oFz (eC (.bool false)))) sNx)
  (sSeq (sIf (kAnd (kCmp ltI (eFrz (oBlt (one lenD) (aCons (eVar 4) aNil))) (eC (.int 20))) (kOr (kCmp eqD (eVar 4) (eTup aNil)) (kCmp eqD (eFrz (oCall [some 0, none] (aRef 0 (aCons (eC (.int 2)) aNil)) (noexF m__law_draw))) (eC (.int 0))))) (sAsg (eFrz (oOp2 addD (eVar 4) (eTup (aCons (eC (.int 1)) aNil)))) (gN 6)) (sAsg (eFrz (oOp2 addD (eFrz (oSlice (eVar 4) pNo (pSome (eFrz (oOp1 negD (eC (.int 1))))))) (eTup (aCons (eFrz (oOp2 addD (eVar 1) (eC (.int 1)))) aNil)))) (gN 6)))
  (sIf (kNot (kVal (eFrz (oCall [none, none, none] (aCons (eVar 1) (aCons (eVar 6) (aCons (eFrz (oBlt (one lenD) (aCons (eVar 6) aNil))) aNil))) (noexF m__law_is_period_right))))) (sRet (oFz (eC (.bool false)))) sNx))))
def t__law_are_periods_right_2 : TF := (kAnd (kCmp gtI (eVar 7) (eC (.int 0))) (kCmp eqD (eFrz (oOp2 modD (eFrz (oBlt (one intB) (aCons (eAt 2 (eFrz (oOp2 subD (eVar 7) (eC (.int 1))))) aNil))) (eVar 1))) (eC (.int 0))))
def l__law_are_periods_right_2 : SF := (sAsg (eFrz (oOp2 subD (eVar 7) (eC (.int 1)))) (gN 7))
def b__law_are_periods_right : SF := (sSeq (sFor (iRange1 (eC (.int 2))) (gN 3) l__law_are_periods_right_1)
  (sSeq (sAsg (eFrz (oBlt (one lenD) (aCons (eVar 2) aNil))) (gN 7))
  (sSeq (sWhile fuel t__law_are_periods_right_2 l__law_are_periods_right_2)
  (sRet (oFz (eAnd (eFrz (oCall [none, none] (aCons (eFrz (oCall [none, none] (aCons (eVar 1) (aCons (eTup aNil) aNil)) (noexF m_fall_period))) (aCons (eC (.int 1)) aNil)) (noexF m__law_is_due))) (eFrz (oCall [none, none, none] (aCons (eVar 1) (aCons (eVar 2) (aCons (eVar 7) aNil))) (noexF m__law_is_period_right)))))))))
def m__law_are_periods_right : List OD → Res OD := mkF 8 [true, false, false] b__law_are_periods_right
/-! law -/
def l_law_1 : SF := (sIf (kNot (kVal (eFrz (oCall [none, none, none, none] (aCons (eVar 5) (aCons (eVar 7) (aCons (eVar 8) (aCons (eVar 2) aNil)))) (noexF m__law_is_choice_right))))) (sRet (oFz (eC (.bool false)))) sNx)
def l_law_2 : SF := (sSeq (sAsg (eFrz (oCall [some 1, none] (aRef 1 (aCons (eVar 5) aNil)) (noexF m__law_pairs))) (gN 6))
  (sSeq (sFor (iSeq (eFrz (oOp2 addD (eVar 6) (eFrz (oSlice (eVar 6) pNo (pSome (eC (.int 2)))))))) (gT 2 (gsCons (gN 7) (gsCons (gN 8) gsNil))) l_law_1)
  (sIf (kNot (kVal (eFrz (oCall [some 1, none, none] (aRef 1 (aCons (eVar 5) (aCons (eVar 3) aNil))) (noexF m__law_are_periods_right))))) (sRet (oFz (eC (.bool false)))) sNx)))
def b_law : SF := (sSeq (sPar [1, 2] (aoCons (oCall [none] (aCons (eVar 0) aNil) (noexF m__law_own_bag)) (aoCons (oFz (eFrz (oCall [] aNil (noexF m__law_rows_of_sums)))) aoNil)))
  (sSeq (sAsg (eFrz (oBlt (one tupleD) (aCons (eFrz (oLc [false, false, false, false, true, false, false, false, false] (iRange1 (eFrz (oCall [some 1, none] (aRef 1 (aCons (eC (.int 20)) aNil)) (noexF m__law_draw)))) (gN 4) kYes (eFrz (oCall [some 1, none] (aRef 1 (aCons (eFrz (oOp2 powD (eC (.int 10)) (eC (.int 30)))) aNil)) (noexF m__law_number))))) aNil))) (gN 3))
  (sSeq (sAsg (eFrz (oOp2 addD (eVar 3) (eTup (aCons (eFrz (oCall [some 1, none] (aRef 1 (aCons (eFrz (oLst (aCons (eC (.int 1)) (aCons (eC (.int 2)) (aCons (eC (.int 3)) (aCons (eC (.int 5)) (aCons (eC (.int 7)) (aCons (eC (.int 6)) (aCons (eC (.int 210)) (aCons (eFrz (oOp1 negD (eFrz (oOp2 powD (eC (.int 10)) (eC (.int 30)))))) aNil)))))))))) aNil)) (noexF m__law_pick))) aNil)))) (gN 3))
  (sSeq (sFor (iSeq (eFrz (oLst (aCons (eC (.int 2)) (aCons (eC (.int 3)) (aCons (eC (.int 5)) (aCons (eC (.int 7)) aNil))))))) (gN 5) l_law_2)
  (sRet (oFz (eAnd (eFrz (oCall [none, none] (aCons (eFrz (oCall [none, none] (aCons (eC (.int 7)) (aCons (eFrz (oOp2 mulD (eTup (aCons (eC (.int 1)) aNil)) (eC (.int 20)))) aNil)) (noexF m_fall_period))) (aCons (eC (.int 49)) aNil)) (noexF m__law_is_due))) (eFrz (oCall [none, none] (aCons (eFrz (oCall [none, none] (aCons (eC (.int 2)) (aCons (eFrz (oOp2 addD (eFrz (oSlice (eVar 3) pNo (pSome (eFrz (oOp1 negD (eC (.int 1))))))) (eTup (aCons (eC (.int 1)) aNil)))) aNil)) (noexF m_fall_period))) (aCons (eFrz (oCall [none, none] (aCons (eC (.int 2)) (aCons (eFrz (oBlt (one lenD) (aCons (eVar 3) aNil))) aNil)) (noexF m__law_least_power))) aNil)) (noexF m__law_is_due))))))))))
def m_law : List OD → Res OD := mkF 9 [false] b_law
end G_k82

set_option Elab.async false
set_option linter.all false
set_option autoImplicit false
set_option maxRecDepth 100000
set_option maxHeartbeats 0
namespace G_k82
open PySem PySem.Spec L2 MI
/-! ### the text -/
def topS (i : Nat) : Stmt := PySem.Challenge.pw_leadterms_k82_whole_digits_and_period.main.body.getD i (.Pass ⟨0, 0, 0, 0⟩)
abbrev s_fall_trimmed : Stmt := topS 1
abbrev s_choices_row : Stmt := topS 2
abbrev s_choose_modulo : Stmt := topS 4
abbrev s_fall_period : Stmt := topS 5
abbrev s__law_own_bag : Stmt := topS 7
abbrev s__law_draw : Stmt := topS 8
abbrev s__law_pick : Stmt := topS 9
abbrev s__law_number : Stmt := topS 10
abbrev s__law_is_due : Stmt := topS 11
abbrev s__law_rows_of_sums : Stmt := topS 12
abbrev s__law_over : Stmt := topS 13
abbrev s__law_by_digits : Stmt := topS 14
abbrev s__law_great : Stmt := topS 15
abbrev s__law_digits_below : Stmt := topS 16
abbrev s__law_power : Stmt := topS 17
abbrev s__law_pairs : Stmt := topS 18
abbrev s__law_is_choice_right : Stmt := topS 19
abbrev s__law_own_period : Stmt := topS 20
abbrev s__law_kept_fall : Stmt := topS 21
abbrev s__law_least_power : Stmt := topS 22
abbrev s__law_is_period_right : Stmt := topS 23
abbrev s__law_are_periods_right : Stmt := topS 24
abbrev s_law : Stmt := topS 25
theorem sc_fall_trimmed : FnScope ["row", "many"] ["row"] (defScope s_fall_trimmed) := ⟨rfl, rfl, rfl, by decide +kernel, rfl, by decide +kernel, by decide +kernel⟩
theorem sc_choices_row : FnScope ["x", "many", "found", "i"] ["x", "many"] (defScope s_choices_row) := ⟨rfl, rfl, rfl, by decide +kernel, rfl, by decide +kernel, by decide +kernel⟩
theorem sc_choose_modulo : FnScope ["p", "x", "i", "found", "digit", "other"] ["p", "x", "i"] (defScope s_choose_modulo) := ⟨rfl, rfl, rfl, by decide +kernel, rfl, by decide +kernel, by decide +kernel⟩
theorem sc_fall_period : FnScope ["p", "fall", "many", "found", "item"] ["p", "fall"] (defScope s_fall_period) := ⟨rfl, rfl, rfl, by decide +kernel, rfl, by decide +kernel, by decide +kernel⟩
theorem sc__law_own_bag : FnScope ["script", "cells", "cell", "mixed"] ["script"] (defScope s__law_own_bag) := ⟨rfl, rfl, rfl, by decide +kernel, rfl, by decide +kernel, by decide +kernel⟩
theorem sc__law_draw : FnScope ["bag", "below", "cell", "found"] ["bag", "below"] (defScope s__law_draw) := ⟨rfl, rfl, rfl, by decide +kernel, rfl, by decide +kernel, by decide +kernel⟩
theorem sc__law_pick : FnScope ["bag", "some"] ["bag", "some"] (defScope s__law_pick) := ⟨rfl, rfl, rfl, by decide +kernel, rfl, by decide +kernel, by decide +kernel⟩
theorem sc__law_number : FnScope ["bag", "most", "way", "found", "turn"] ["bag", "most"] (defScope s__law_number) := ⟨rfl, rfl, rfl, by decide +kernel, rfl, by decide +kernel, by decide +kernel⟩
theorem sc__law_is_due : FnScope ["told", "due"] ["told", "due"] (defScope s__law_is_due) := ⟨rfl, rfl, rfl, by decide +kernel, rfl, by decide +kernel, by decide +kernel⟩
theorem sc__law_rows_of_sums : FnScope ["rows", "x", "row", "i"] [] (defScope s__law_rows_of_sums) := ⟨rfl, rfl, rfl, by decide +kernel, rfl, by decide +kernel, by decide +kernel⟩
theorem sc__law_over : FnScope ["x", "i", "found", "k"] ["x", "i"] (defScope s__law_over) := ⟨rfl, rfl, rfl, by decide +kernel, rfl, by decide +kernel, by decide +kernel⟩
theorem sc__law_by_digits : FnScope ["p", "x", "i", "rows", "found", "turn"] ["p", "x", "i", "rows"] (defScope s__law_by_digits) := ⟨rfl, rfl, rfl, by decide +kernel, rfl, by decide +kernel, by decide +kernel⟩
theorem sc__law_great : FnScope ["bag"] ["bag"] (defScope s__law_great) := ⟨rfl, rfl, rfl, by decide +kernel, rfl, by decide +kernel, by decide +kernel⟩
theorem sc__law_digits_below : FnScope ["bag", "p", "x", "found", "power", "left", "thin", "turn"] ["bag", "p", "x"] (defScope s__law_digits_below) := ⟨rfl, rfl, rfl, by decide +kernel, rfl, by decide +kernel, by decide +kernel⟩
theorem sc__law_power : FnScope ["p", "many", "found", "turn"] ["p", "many"] (defScope s__law_power) := ⟨rfl, rfl, rfl, by decide +kernel, rfl, by decide +kernel, by decide +kernel⟩
theorem sc__law_pairs : FnScope ["bag", "p", "x", "few", "power", "top", "i", "pairs"] ["bag", "p"] (defScope s__law_pairs) := ⟨rfl, rfl, rfl, by decide +kernel, rfl, by decide +kernel, by decide +kernel⟩
theorem sc__law_is_choice_right : FnScope ["p", "x", "i", "rows", "due"] ["p", "x", "i", "rows"] (defScope s__law_is_choice_right) := ⟨rfl, rfl, rfl, by decide +kernel, rfl, by decide +kernel, by decide +kernel⟩
theorem sc__law_own_period : FnScope ["p", "fall", "state", "row", "most", "item", "x", "k", "d"] ["p", "fall"] (defScope s__law_own_period) := ⟨rfl, rfl, rfl, by decide +kernel, rfl, by decide +kernel, by decide +kernel⟩
theorem sc__law_kept_fall : FnScope ["bag", "p", "ahead", "behind", "bound", "is_lone", "row", "k"] ["bag", "p"] (defScope s__law_kept_fall) := ⟨rfl, rfl, rfl, by decide +kernel, rfl, by decide +kernel, by decide +kernel⟩
theorem sc__law_least_power : FnScope ["p", "many", "found"] ["p", "many"] (defScope s__law_least_power) := ⟨rfl, rfl, rfl, by decide +kernel, rfl, by decide +kernel, by decide +kernel⟩
theorem sc__law_is_period_right : FnScope ["p", "fall", "ahead", "due"] ["p", "fall", "ahead"] (defScope s__law_is_period_right) := ⟨rfl, rfl, rfl, by decide +kernel, rfl, by decide +kernel, by decide +kernel⟩
theorem sc__law_are_periods_right : FnScope ["bag", "p", "shared", "turn", "fall", "ahead", "other", "many"] ["bag", "p", "shared"] (defScope s__law_are_periods_right) := ⟨rfl, rfl, rfl, by decide +kernel, rfl, by decide +kernel, by decide +kernel⟩
theorem sc_law : FnScope ["script", "bag", "rows", "shared", "k", "p", "pairs", "x", "i"] ["script"] (defScope s_law) := ⟨rfl, rfl, rfl, by decide +kernel, rfl, by decide +kernel, by decide +kernel⟩
structure Facts (K : PySem.W.Frag) (mg : Str → Option Value) where
  f_fall_trimmed : Addr
  fd_fall_trimmed : FuncData
  f_choices_row : Addr
  fd_choices_row : FuncData
  f_choose_modulo : Addr
  fd_choose_modulo : FuncData
  f_fall_period : Addr
  fd_fall_period : FuncData
  f__law_own_bag : Addr
  fd__law_own_bag : FuncData
  f__law_draw : Addr
  fd__law_draw : FuncData
  f__law_pick : Addr
  fd__law_pick : FuncData
  f__law_number : Addr
  fd__law_number : FuncData
  f__law_is_due : Addr
  fd__law_is_due : FuncData
  f__law_rows_of_sums : Addr
  fd__law_rows_of_sums : FuncData
  f__law_over : Addr
  fd__law_over : FuncData
  f__law_by_digits : Addr
  fd__law_by_digits : FuncData
  f__law_great : Addr
  fd__law_great : FuncData
  f__law_digits_below : Addr
  fd__law_digits_below : FuncData
  f__law_power : Addr
  fd__law_power : FuncData
  f__law_pairs : Addr
  fd__law_pairs : FuncData
  f__law_is_choice_right : Addr
  fd__law_is_choice_right : FuncData
  f__law_own_period : Addr
  fd__law_own_period : FuncData
  f__law_kept_fall : Addr
  fd__law_kept_fall : FuncData
  f__law_least_power : Addr
  fd__law_least_power : FuncData
  f__law_is_period_right : Addr
  fd__law_is_period_right : FuncData
  f__law_are_periods_right : Addr
  fd__law_are_periods_right : FuncData
  f_law : Addr
  fd_law : FuncData
  F_fall_trimmed : Fun K "fall_trimmed" "fall_trimmed" s_fall_trimmed f_fall_trimmed fd_fall_trimmed
  g_fall_trimmed : mg "fall_trimmed" = some (.ref f_fall_trimmed)
  b_fall_trimmed : Binds K fd_fall_trimmed ["row"] []
  F_choices_row : Fun K "choices_row" "choices_row" s_choices_row f_choices_row fd_choices_row
  g_choices_row : mg "choices_row" = some (.ref f_choices_row)
  b_choices_row : Binds K fd_choices_row ["x", "many"] []
  F_choose_modulo : Fun K "choose_modulo" "choose_modulo" s_choose_modulo f_choose_modulo fd_choose_modulo
  g_choose_modulo : mg "choose_modulo" = some (.ref f_choose_modulo)
  b_choose_modulo : Binds K fd_choose_modulo ["p", "x", "i"] []
  F_fall_period : Fun K "fall_period" "fall_period" s_fall_period f_fall_period fd_fall_period
  g_fall_period : mg "fall_period" = some (.ref f_fall_period)
  b_fall_period : Binds K fd_fall_period ["p", "fall"] []
  F__law_own_bag : Fun K "_law_own_bag" "_law_own_bag" s__law_own_bag f__law_own_bag fd__law_own_bag
  g__law_own_bag : mg "_law_own_bag" = some (.ref f__law_own_bag)
  b__law_own_bag : Binds K fd__law_own_bag ["script"] []
  F__law_draw : Fun K "_law_draw" "_law_draw" s__law_draw f__law_draw fd__law_draw
  g__law_draw : mg "_law_draw" = some (.ref f__law_draw)
  b__law_draw : Binds K fd__law_draw ["bag", "below"] []
  F__law_pick : Fun K "_law_pick" "_law_pick" s__law_pick f__law_pick fd__law_pick
  g__law_pick : mg "_law_pick" = some (.ref f__law_pick)
  b__law_pick : Binds K fd__law_pick ["bag", "some"] []
  F__law_number : Fun K "_law_number" "_law_number" s__law_number f__law_number fd__law_number
  g__law_number : mg "_law_number" = some (.ref f__law_number)
  b__law_number : Binds K fd__law_number ["bag", "most"] []
  F__law_is_due : Fun K "_law_is_due" "_law_is_due" s__law_is_due f__law_is_due fd__law_is_due
  g__law_is_due : mg "_law_is_due" = some (.ref f__law_is_due)
  b__law_is_due : Binds K fd__law_is_due ["told", "due"] []
  F__law_rows_of_sums : Fun K "_law_rows_of_sums" "_law_rows_of_sums" s__law_rows_of_sums f__law_rows_of_sums fd__law_rows_of_sums
  g__law_rows_of_sums : mg "_law_rows_of_sums" = some (.ref f__law_rows_of_sums)
  b__law_rows_of_sums : Binds K fd__law_rows_of_sums [] []
  F__law_over : Fun K "_law_over" "_law_over" s__law_over f__law_over fd__law_over
  g__law_over : mg "_law_over" = some (.ref f__law_over)
  b__law_over : Binds K fd__law_over ["x", "i"] []
  F__law_by_digits : Fun K "_law_by_digits" "_law_by_digits" s__law_by_digits f__law_by_digits fd__law_by_digits
  g__law_by_digits : mg "_law_by_digits" = some (.ref f__law_by_digits)
  b__law_by_digits : Binds K fd__law_by_digits ["p", "x", "i", "rows"] []
  F__law_great : Fun K "_law_great" "_law_great" s__law_great f__law_great fd__law_great
  g__law_great : mg "_law_great" = some (.ref f__law_great)
  b__law_great : Binds K fd__law_great ["bag"] []
  F__law_digits_below : Fun K "_law_digits_below" "_law_digits_below" s__law_digits_below f__law_digits_below fd__law_digits_below
  g__law_digits_below : mg "_law_digits_below" = some (.ref f__law_digits_below)
  b__law_digits_below : Binds K fd__law_digits_below ["bag", "p", "x"] []
  F__law_power : Fun K "_law_power" "_law_power" s__law_power f__law_power fd__law_power
  g__law_power : mg "_law_power" = some (.ref f__law_power)
  b__law_power : Binds K fd__law_power ["p", "many"] []
  F__law_pairs : Fun K "_law_pairs" "_law_pairs" s__law_pairs f__law_pairs fd__law_pairs
  g__law_pairs : mg "_law_pairs" = some (.ref f__law_pairs)
  b__law_pairs : Binds K fd__law_pairs ["bag", "p"] []
  F__law_is_choice_right : Fun K "_law_is_choice_right" "_law_is_choice_right" s__law_is_choice_right f__law_is_choice_right fd__law_is_choice_right
  g__law_is_choice_right : mg "_law_is_choice_right" = some (.ref f__law_is_choice_right)
  b__law_is_choice_right : Binds K fd__law_is_choice_right ["p", "x", "i", "rows"] []
  F__law_own_period : Fun K "_law_own_period" "_law_own_period" s__law_own_period f__law_own_period fd__law_own_period
  g__law_own_period : mg "_law_own_period" = some (.ref f__law_own_period)
  b__law_own_period : Binds K fd__law_own_period ["p", "fall"] []
  F__law_kept_fall : Fun K "_law_kept_fall" "_law_kept_fall" s__law_kept_fall f__law_kept_fall fd__law_kept_fall
  g__law_kept_fall : mg "_law_kept_fall" = some (.ref f__law_kept_fall)
  b__law_kept_fall : Binds K fd__law_kept_fall ["bag", "p"] []
  F__law_least_power : Fun K "_law_least_power" "_law_least_power" s__law_least_power f__law_least_power fd__law_least_power
  g__law_least_power : mg "_law_least_power" = some (.ref f__law_least_power)
  b__law_least_power : Binds K fd__law_least_power ["p", "many"] []
  F__law_is_period_right : Fun K "_law_is_period_right" "_law_is_period_right" s__law_is_period_right f__law_is_period_right fd__law_is_period_right
  g__law_is_period_right : mg "_law_is_period_right" = some (.ref f__law_is_period_right)
  b__law_is_period_right : Binds K fd__law_is_period_right ["p", "fall", "ahead"] []
  F__law_are_periods_right : Fun K "_law_are_periods_right" "_law_are_periods_right" s__law_are_periods_right f__law_are_periods_right fd__law_are_periods_right
  g__law_are_periods_right : mg "_law_are_periods_right" = some (.ref f__law_are_periods_right)
  b__law_are_periods_right : Binds K fd__law_are_periods_right ["bag", "p", "shared"] []
  F_law : Fun K "law" "law" s_law f_law fd_law
  g_law : mg "law" = some (.ref f_law)
  b_law : Binds K fd_law ["script"] []
  z_abs : mg "abs" = none
  z_bool : mg "bool" = none
  z_int : mg "int" = none
  z_isinstance : mg "isinstance" = none
  z_len : mg "len" = none
  z_list : mg "list" = none
  z_min : mg "min" = none
  z_range : mg "range" = none
  z_repr : mg "repr" = none
  z_reversed : mg "reversed" = none
  z_str : mg "str" = none
  z_tuple : mg "tuple" = none
section
variable {P : Program} {w : World} {K : PySem.W.Frag} {mg : Str → Option Value} {base : Heap}
theorem ok_fall_trimmed (J : Facts K mg) : FnG P w K mg base CX0 1 J.f_fall_trimmed J.fd_fall_trimmed ["row"] (spF K noEr false 1 m_fall_trimmed) := okF J.F_fall_trimmed sc_fall_trimmed rfl fun cdv A outer s H XE hG hr =>
    (mss_cons (ms_asg (me_frz (mo_len rfl (by rfl) J.z_len (me_var (pv 0)))) (mg_name sc_fall_trimmed.nd rfl (by first | exact .inl rfl | exact .inr rfl)))
    (mss_cons (ms_while PassesOwn.never (MW.mt (mw_and (mt_gt (me_var (pv 1)) me_int (by first | rfl | exact nomark _)) (mw_and1 (mt_eq rfl (Room.units hr) (me_at rfl (pv 0) (me_frz (mo_sub (me_var (pv 1)) me_int)) (fun _ _ => rfl)) me_int (by first | rfl | exact nomark _))))) (mss_one (ms_asg (me_frz (mo_sub (me_var (pv 1)) me_int)) (mg_name sc_fall_trimmed.nd rfl (by first | exact .inl rfl | exact .inr rfl)))))
    (mss_one (ms_ret (mo_tuple rfl (by rfl) J.z_tuple (me_frz (mo_slice rfl (me_var (pv 0)) mp_no (mp_some (me_var (pv 1))))))))))
theorem ok_choices_row (J : Facts K mg) : FnG P w K mg base CX0 1 J.f_choices_row J.fd_choices_row ["x", "many"] (spF K noEr false 2 m_choices_row) := okF J.F_choices_row sc_choices_row rfl fun cdv A outer s H XE hG hr =>
    (mss_cons (ms_set sc_choices_row.nd rfl (by first | exact .inl rfl | exact .inr rfl) (mo_lst (ma_cons me_int ma_nil)))
    (mss_cons (ms_for PassesOwn.never rfl (mi_range1 (by rfl) J.z_range (me_frz (mo_sub (me_var (pv 1)) me_int))) (mg_name sc_choices_row.nd rfl (by first | exact .inl rfl | exact .inr rfl)) (mss_one (ms_expr (me_append (pv 2) (me_frz (mo_fdiv (me_frz (mo_mul rfl (me_at rfl (pv 2) (me_var (pv 3)) (fun _ _ => rfl)) (me_frz (mo_sub (me_var (pv 0)) (me_var (pv 3)))))) (me_frz (mo_add rfl (me_var (pv 3)) me_int))))))))
    (mss_one (ms_ret (mo_var (pv 2))))))
theorem ok_choose_modulo (J : Facts K mg) : FnG P w K mg base CX0 2 J.f_choose_modulo J.fd_choose_modulo ["p", "x", "i"] (spF K noEr false 3 m_choose_modulo) := okF J.F_choose_modulo sc_choose_modulo rfl fun cdv A outer s H XE hG hr =>
    (mss_cons (ms_asg me_int (mg_name sc_choose_modulo.nd rfl (by first | exact .inl rfl | exact .inr rfl)))
    (mss_cons (ms_while PassesOwn.never (MW.mt (mw_or (mt_gt (me_var (pv 1)) me_int (by first | rfl | exact nomark _)) (mw_or1 (mt_gt (me_var (pv 2)) me_int (by first | rfl | exact nomark _))))) (mss_cons (ms_par2 rfl sc_choose_modulo.nd rfl rfl (by decide) rfl rfl (mao_cons (mo_fz (me_frz (mo_mod (me_var (pv 1)) (me_var (pv 0))))) (mao_cons (mo_fz (me_frz (mo_mod (me_var (pv 2)) (me_var (pv 0))))) mao_nil)) (by decide) (by decide) rfl)
    (mss_cons (ms_asg (me_frz (mo_mod (me_frz (mo_mul rfl (me_var (pv 3)) (me_ix rfl (me_frz (mo_call (ok_choices_row J) hG (hr.mono (by decide)) (by rfl) J.g_choices_row J.F_choices_row.kp J.b_choices_row (mr_val (me_var (pv 4)) (mr_val (me_frz (mo_add rfl (me_var (pv 5)) me_int)) mr_nil)))) (me_var (pv 5)) (fun _ _ => rfl)))) (me_var (pv 0)))) (mg_name sc_choose_modulo.nd rfl (by first | exact .inl rfl | exact .inr rfl)))
    (mss_one (ms_par2 rfl sc_choose_modulo.nd rfl rfl (by decide) rfl rfl (mao_cons (mo_fz (me_frz (mo_fdiv (me_var (pv 1)) (me_var (pv 0))))) (mao_cons (mo_fz (me_frz (mo_fdiv (me_var (pv 2)) (me_var (pv 0))))) mao_nil)) (by decide) (by decide) rfl)))))
    (mss_one (ms_ret (mo_var (pv 3))))))
theorem ok_fall_period (J : Facts K mg) : FnG P w K mg base CX0 2 J.f_fall_period J.fd_fall_period ["p", "fall"] (spF K noEr false 2 m_fall_period) := okF J.F_fall_period sc_fall_period rfl fun cdv A outer s H XE hG hr =>
    (mss_cons (ms_par2 rfl sc_fall_period.nd rfl rfl (by decide) rfl rfl (mao_cons (mo_fz (me_frz (mo_len rfl (by rfl) J.z_len (me_frz (mo_call (ok_fall_trimmed J) hG (hr.mono (by decide)) (by rfl) J.g_fall_trimmed J.F_fall_trimmed.kp J.b_fall_trimmed (mr_val (me_frz (mo_lc (own := [("item", 4)]) (ow := [false, false, false, false, true]) rfl sc_fall_period.nd (blkOk_by (N := ["p", "fall", "many", "found", "item"]) (sc := defScope s_fall_period) (by decide +kernel)) (show Flags [false, false, false, false, true] 5 [4] from by unfold Flags; decide) (mi_seq rfl (me_var (pv 1))) (fun _ _ _ _ _ => (mg_name sc_fall_period.nd rfl (by first | exact .inl rfl | exact .inr rfl))) (fun _ _ _ _ _ => pts_no) (fun _ _ _ _ _ => (me_frz (mo_mod (me_var (pv 4)) (me_var (pv 0))))))) mr_nil)))))) (mao_cons (mo_fz me_int) mao_nil)) (by decide) (by decide) rfl)
    (mss_cons (ms_while PassesOwn.never (mt_lt (me_var (pv 3)) (me_var (pv 2)) (by first | rfl | exact nomark _)) (mss_one (ms_asg (me_frz (mo_mul rfl (me_var (pv 3)) (me_var (pv 0)))) (mg_name sc_fall_period.nd rfl (by first | exact .inl rfl | exact .inr rfl)))))
    (mss_one (ms_ret (mo_var (pv 3))))))
theorem ok__law_own_bag (J : Facts K mg) : FnG P w K mg base CX0 1 J.f__law_own_bag J.fd__law_own_bag ["script"] (spF K noEr false 1 m__law_own_bag) := okF J.F__law_own_bag sc__law_own_bag rfl fun cdv A outer s H XE hG hr =>
    (mss_cons (ms_asgLc (i := 1) (own := [("cell", 2)]) (ow := [false, false, true, false]) rfl sc__law_own_bag.nd rfl rfl (sw_true rfl rfl rfl (by decide +kernel)) (blkOk_by (N := ["script", "cells", "cell", "mixed"]) (sc := defScope s__law_own_bag) (by decide +kernel)) (show Flags [false, false, true, false] 4 [2] from by unfold Flags; decide) (mi_seq rfl (me_frz (mo_slice rfl (me_var (pv 0)) mp_no (mp_some me_int)))) (fun _ _ _ _ _ => (mg_name sc__law_own_bag.nd rfl (by first | exact .inl rfl | exact .inr rfl))) (fun _ _ _ _ _ => pts_no) (fun _ _ _ _ _ => (me_frz (mo_abs (by rfl) J.z_abs (me_var (pv 2))))))
    (mss_cons (ms_asg (me_frz (mo_add rfl me_int (me_frz (mo_len rfl (by rfl) J.z_len (me_var (pv 1)))))) (mg_name sc__law_own_bag.nd rfl (by first | exact .inl rfl | exact .inr rfl)))
    (mss_cons (ms_for PassesOwn.never rfl (mi_seq rfl (me_var (pv 1))) (mg_name sc__law_own_bag.nd rfl (by first | exact .inl rfl | exact .inr rfl)) (mss_one (ms_asg (me_frz (mo_mod (me_frz (mo_int (by rfl) J.z_int (me_frz (mo_add rfl (me_frz (mo_add rfl (me_frz (mo_mul rfl (me_var (pv 3)) me_int)) (me_frz (mo_mod (me_frz (mo_int (by rfl) J.z_int (me_var (pv 2)))) me_int)))) me_int)))) me_int)) (mg_name sc__law_own_bag.nd rfl (by first | exact .inl rfl | exact .inr rfl)))))
    (mss_one (ms_ret (mo_nest (mao_cons (mo_listRev rfl (by rfl) J.z_list (by rfl) J.z_reversed (me_frz (mo_list rfl (by rfl) J.z_list (me_var (pv 1))))) (mao_cons (mo_fz me_int) (mao_cons (mo_fz (me_var (pv 3))) mao_nil)))))))))
theorem ok__law_draw (J : Facts K mg) : FnG P w K mg base CX0 1 J.f__law_draw J.fd__law_draw ["bag", "below"] (spF K noEr false 2 m__law_draw) := okF J.F__law_draw sc__law_draw rfl fun cdv A outer s H XE hG hr =>
    (mss_cons (ms_while PassesOwn.never (MW.mt (mw_and (mt_eq rfl (Room.units hr) (me_itemN (k := 1) (pe_place (pv 0))) me_int (by first | rfl | exact nomark _)) (mw_and1 (mt_emptyN (k := 0) rfl (Room.units hr) (pe_place (pv 0)))))) (mss_cons (ms_asg (me_popN (k := 0) (pe_place (pv 0))) (mg_name sc__law_draw.nd rfl (by first | exact .inl rfl | exact .inr rfl)))
    (mss_one (ms_item (me_if (mt_gt (me_var (pv 2)) (me_frz (mo_pow me_int me_int)) (by first | rfl | exact nomark _)) (me_var (pv 2)) me_int) (pv 0) me_int))))
    (mss_cons (ms_if (mt_gt (me_itemN (k := 1) (pe_place (pv 0))) me_int (by first | rfl | exact nomark _)) (mss_cons (ms_asg (me_frz (mo_mod (me_frz (mo_int (by rfl) J.z_int (me_itemN (k := 1) (pe_place (pv 0))))) (me_var (pv 1)))) (mg_name sc__law_draw.nd rfl (by first | exact .inl rfl | exact .inr rfl)))
    (mss_cons (ms_item (me_frz (mo_fdiv (me_itemN (k := 1) (pe_place (pv 0))) (me_var (pv 1)))) (pv 0) me_int)
    (mss_one (ms_ret (mo_var (pv 3)))))) mss_nil)
    (mss_cons (ms_item (me_frz (mo_mod (me_frz (mo_int (by rfl) J.z_int (me_frz (mo_add rfl (me_frz (mo_mul rfl (me_itemN (k := 2) (pe_place (pv 0))) me_int)) me_int)))) me_int)) (pv 0) me_int)
    (mss_one (ms_ret (mo_mod (me_frz (mo_int (by rfl) J.z_int (me_frz (mo_fdiv (me_frz (mo_mod (me_frz (mo_int (by rfl) J.z_int (me_frz (mo_mul rfl (me_itemN (k := 2) (pe_place (pv 0))) (me_itemN (k := 2) (pe_place (pv 0))))))) me_int)) me_int)))) (me_var (pv 1))))))))
theorem ok__law_pick (J : Facts K mg) : FnG P w K mg base CX0 2 J.f__law_pick J.fd__law_pick ["bag", "some"] (spF K noEr false 2 m__law_pick) := okF J.F__law_pick sc__law_pick rfl fun cdv A outer s H XE hG hr =>
    (mss_one (ms_ret (mo_fz (me_at rfl (pv 1) (me_frz (mo_call (ok__law_draw J) hG (hr.mono (by decide)) (by rfl) J.g__law_draw J.F__law_draw.kp J.b__law_draw (mr_ref (pv 0) (mr_val (me_frz (mo_len rfl (by rfl) J.z_len (me_var (pv 1)))) mr_nil)))) (fun _ _ => rfl)))))
theorem ok__law_number (J : Facts K mg) : FnG P w K mg base CX0 2 J.f__law_number J.fd__law_number ["bag", "most"] (spF K noEr false 2 m__law_number) := okF J.F__law_number sc__law_number rfl fun cdv A outer s H XE hG hr =>
    (mss_cons (ms_par2 rfl sc__law_number.nd rfl rfl (by decide) rfl rfl (mao_cons (mo_fz (me_frz (mo_call (ok__law_draw J) hG (hr.mono (by decide)) (by rfl) J.g__law_draw J.F__law_draw.kp J.b__law_draw (mr_ref (pv 0) (mr_val me_int mr_nil))))) (mao_cons (mo_fz (me_frz (mo_call (ok__law_draw J) hG (hr.mono (by decide)) (by rfl) J.g__law_draw J.F__law_draw.kp J.b__law_draw (mr_ref (pv 0) (mr_val me_int mr_nil))))) mao_nil)) (by decide) (by decide) rfl)
    (mss_cons (ms_if (mt_gt (me_var (pv 2)) me_int (by first | rfl | exact nomark _)) (mss_cons (ms_asg me_int (mg_name sc__law_number.nd rfl (by first | exact .inl rfl | exact .inr rfl)))
    (mss_cons (ms_for PassesOwn.never rfl (mi_range1 (by rfl) J.z_range (me_frz (mo_add rfl me_int (me_frz (mo_call (ok__law_draw J) hG (hr.mono (by decide)) (by rfl) J.g__law_draw J.F__law_draw.kp J.b__law_draw (mr_ref (pv 0) (mr_val me_int mr_nil))))))) (mg_name sc__law_number.nd rfl (by first | exact .inl rfl | exact .inr rfl)) (mss_one (ms_asg (me_frz (mo_add rfl (me_frz (mo_mul rfl (me_var (pv 3)) me_int)) (me_frz (mo_call (ok__law_draw J) hG (hr.mono (by decide)) (by rfl) J.g__law_draw J.F__law_draw.kp J.b__law_draw (mr_ref (pv 0) (mr_val me_int mr_nil)))))) (mg_name sc__law_number.nd rfl (by first | exact .inl rfl | exact .inr rfl)))))
    (mss_one (ms_asg (me_frz (mo_mod (me_frz (mo_int (by rfl) J.z_int (me_var (pv 3)))) (me_frz (mo_add rfl (me_var (pv 1)) me_int)))) (mg_name sc__law_number.nd rfl (by first | exact .inl rfl | exact .inr rfl)))))) mss_nil)
    (mss_cons (ms_if (mt_gt (me_var (pv 2)) me_int (by first | rfl | exact nomark _)) (mss_one (ms_asg (me_frz (mo_sub (me_var (pv 1)) (me_frz (mo_call (ok__law_draw J) hG (hr.mono (by decide)) (by rfl) J.g__law_draw J.F__law_draw.kp J.b__law_draw (mr_ref (pv 0) (mr_val me_int mr_nil)))))) (mg_name sc__law_number.nd rfl (by first | exact .inl rfl | exact .inr rfl)))) mss_nil)
    (mss_one (ms_ret (mo_if (mt_eq rfl (Room.units hr) (me_frz (mo_call (ok__law_draw J) hG (hr.mono (by decide)) (by rfl) J.g__law_draw J.F__law_draw.kp J.b__law_draw (mr_ref (pv 0) (mr_val me_int mr_nil)))) me_int (by first | rfl | exact nomark _)) (mo_var (pv 3)) (mo_neg (me_var (pv 3)))))))))
theorem ok__law_is_due (J : Facts K mg) : FnG P w K mg base CX0 1 J.f__law_is_due J.fd__law_is_due ["told", "due"] (spF K noEr false 2 m__law_is_due) := okF J.F__law_is_due sc__law_is_due rfl fun cdv A outer s H XE hG hr =>
    (mss_cons (ms_if (mt_isN (me_var (pv 1)) me_non (by first | rfl | exact nomark _)) (mss_one (ms_ret (mo_fz (me_isN (me_var (pv 0)) me_non (by first | rfl | exact nomark _))))) mss_nil)
    (mss_cons (ms_if (mt_val (me_isi rfl (by rfl) J.z_isinstance (by rfl) J.z_tuple rfl (by decide) (by decide) (me_var (pv 1)))) (mss_one (ms_ret (mo_fz (me_and (me_isi rfl (by rfl) J.z_isinstance (by rfl) J.z_tuple rfl (by decide) (by decide) (me_var (pv 0))) (me_one (me_eq rfl (Room.units hr) (me_frz (mo_repr rfl hG (Room.units hr) (by rfl) J.z_repr (me_var (pv 0)))) (me_frz (mo_repr rfl hG (Room.units hr) (by rfl) J.z_repr (me_var (pv 1)))) (by first | rfl | exact nomark _))))))) mss_nil)
    (mss_cons (ms_if (mt_val (me_isi rfl (by rfl) J.z_isinstance (by rfl) J.z_str rfl (by decide) (by decide) (me_var (pv 1)))) (mss_one (ms_ret (mo_fz (me_and (me_isi rfl (by rfl) J.z_isinstance (by rfl) J.z_str rfl (by decide) (by decide) (me_var (pv 0))) (me_one (me_eq rfl (Room.units hr) (me_frz (mo_repr rfl hG (Room.units hr) (by rfl) J.z_repr (me_var (pv 0)))) (me_frz (mo_repr rfl hG (Room.units hr) (by rfl) J.z_repr (me_var (pv 1)))) (by first | rfl | exact nomark _))))))) mss_nil)
    (mss_one (ms_ret (mo_fz (me_and (me_isi rfl (by rfl) J.z_isinstance (by rfl) J.z_int rfl (by decide) (by decide) (me_var (pv 0))) (me_and (me_not (me_isi rfl (by rfl) J.z_isinstance (by rfl) J.z_bool rfl (by decide) (by decide) (me_var (pv 0)))) (me_one (me_eq rfl (Room.units hr) (me_frz (mo_repr rfl hG (Room.units hr) (by rfl) J.z_repr (me_var (pv 0)))) (me_frz (mo_repr rfl hG (Room.units hr) (by rfl) J.z_repr (me_var (pv 1)))) (by first | rfl | exact nomark _)))))))))))
theorem ok__law_rows_of_sums (J : Facts K mg) : FnG P w K mg base CX0 1 J.f__law_rows_of_sums J.fd__law_rows_of_sums [] (spF K noEr false 0 m__law_rows_of_sums) := okF J.F__law_rows_of_sums sc__law_rows_of_sums rfl fun cdv A outer s H XE hG hr =>
    (mss_cons (ms_set sc__law_rows_of_sums.nd rfl (by first | exact .inl rfl | exact .inr rfl) (mo_lst (ma_cons (me_frz (mo_add rfl (me_frz (mo_lst (ma_cons me_int ma_nil))) (me_frz (mo_mul rfl (me_frz (mo_lst (ma_cons me_int ma_nil))) me_int)))) ma_nil)))
    (mss_cons (ms_for PassesOwn.never rfl (mi_range1 (by rfl) J.z_range me_int) (mg_name sc__law_rows_of_sums.nd rfl (by first | exact .inl rfl | exact .inr rfl)) (mss_cons (ms_asg (me_at rfl (pv 0) (me_frz (mo_neg me_int)) (fun _ _ => rfl)) (mg_name sc__law_rows_of_sums.nd rfl (by first | exact .inl rfl | exact .inr rfl)))
    (mss_one (ms_expr (me_append (pv 0) (me_frz (mo_add rfl (me_frz (mo_lst (ma_cons me_int ma_nil))) (me_frz (mo_lc (own := [("i", 3)]) (ow := [false, false, false, true]) rfl sc__law_rows_of_sums.nd (blkOk_by (N := ["rows", "x", "row", "i"]) (sc := defScope s__law_rows_of_sums) (by decide +kernel)) (show Flags [false, false, false, true] 4 [3] from by unfold Flags; decide) (mi_range1 (by rfl) J.z_range me_int) (fun _ _ _ _ _ => (mg_name sc__law_rows_of_sums.nd rfl (by first | exact .inl rfl | exact .inr rfl))) (fun _ _ _ _ _ => pts_no) (fun _ _ _ _ _ => (me_frz (mo_add rfl (me_at rfl (pv 2) (me_var (pv 3)) (fun _ _ => rfl)) (me_at rfl (pv 2) (me_frz (mo_add rfl (me_var (pv 3)) me_int)) (fun _ _ => rfl))))))))))))))
    (mss_one (ms_ret (mo_var (pv 0))))))
theorem ok__law_over (J : Facts K mg) : FnG P w K mg base CX0 1 J.f__law_over J.fd__law_over ["x", "i"] (spF K noEr false 2 m__law_over) := okF J.F__law_over sc__law_over rfl fun cdv A outer s H XE hG hr =>
    (mss_cons (ms_asg me_int (mg_name sc__law_over.nd rfl (by first | exact .inl rfl | exact .inr rfl)))
    (mss_cons (ms_for PassesOwn.never rfl (mi_range1 (by rfl) J.z_range (me_var (pv 1))) (mg_name sc__law_over.nd rfl (by first | exact .inl rfl | exact .inr rfl)) (mss_one (ms_asg (me_frz (mo_fdiv (me_frz (mo_mul rfl (me_var (pv 2)) (me_frz (mo_sub (me_var (pv 0)) (me_var (pv 3)))))) (me_frz (mo_add rfl (me_var (pv 3)) me_int)))) (mg_name sc__law_over.nd rfl (by first | exact .inl rfl | exact .inr rfl)))))
    (mss_one (ms_ret (mo_var (pv 2))))))
theorem ok__law_by_digits (J : Facts K mg) : FnG P w K mg base CX0 1 J.f__law_by_digits J.fd__law_by_digits ["p", "x", "i", "rows"] (spF K noEr false 4 m__law_by_digits) := okF J.F__law_by_digits sc__law_by_digits rfl fun cdv A outer s H XE hG hr =>
    (mss_cons (ms_asg me_int (mg_name sc__law_by_digits.nd rfl (by first | exact .inl rfl | exact .inr rfl)))
    (mss_cons (ms_for PassesOwn.never rfl (mi_range1 (by rfl) J.z_range me_int) (mg_name sc__law_by_digits.nd rfl (by first | exact .inl rfl | exact .inr rfl)) (mss_cons (ms_if (MW.mt (mw_or (mt_eq rfl (Room.units hr) (me_var (pv 2)) me_int (by first | rfl | exact nomark _)) (mw_or1 (mt_eq rfl (Room.units hr) (me_var (pv 4)) me_int (by first | rfl | exact nomark _))))) (mss_one ms_break) mss_nil)
    (mss_one (ms_par3 rfl sc__law_by_digits.nd rfl rfl rfl (by decide) (by decide) (by decide) rfl rfl rfl (mao_cons (mo_fz (me_frz (mo_mul rfl (me_var (pv 4)) (me_ix rfl (me_at rfl (pv 3) (me_frz (mo_mod (me_frz (mo_int (by rfl) J.z_int (me_var (pv 1)))) (me_var (pv 0)))) (fun _ _ => rfl)) (me_frz (mo_mod (me_frz (mo_int (by rfl) J.z_int (me_var (pv 2)))) (me_var (pv 0)))) (fun _ _ => rfl))))) (mao_cons (mo_fz (me_frz (mo_fdiv (me_var (pv 1)) (me_var (pv 0))))) (mao_cons (mo_fz (me_frz (mo_fdiv (me_var (pv 2)) (me_var (pv 0))))) mao_nil))) (by decide) (by decide) (by decide) rfl))))
    (mss_one (ms_ret (mo_mod (me_frz (mo_int (by rfl) J.z_int (me_var (pv 4)))) (me_var (pv 0)))))))
theorem ok__law_great (J : Facts K mg) : FnG P w K mg base CX0 3 J.f__law_great J.fd__law_great ["bag"] (spF K noEr false 1 m__law_great) := okF J.F__law_great sc__law_great rfl fun cdv A outer s H XE hG hr =>
    (mss_one (ms_ret (mo_abs (by rfl) J.z_abs (me_frz (mo_call (ok__law_number J) hG (hr.mono (by decide)) (by rfl) J.g__law_number J.F__law_number.kp J.b__law_number (mr_ref (pv 0) (mr_val (me_frz (mo_pow me_int me_int)) mr_nil)))))))
theorem ok__law_digits_below (J : Facts K mg) : FnG P w K mg base CX0 2 J.f__law_digits_below J.fd__law_digits_below ["bag", "p", "x"] (spF K noEr false 3 m__law_digits_below) := okF J.F__law_digits_below sc__law_digits_below rfl fun cdv A outer s H XE hG hr =>
    (mss_cons (ms_parT (n := 0) (is := [3, 4, 5, 6]) rfl (mao_cons (mo_fz me_int) (mao_cons (mo_fz me_int) (mao_cons (mo_fz (me_var (pv 2))) (mao_cons (mo_fz (me_frz (mo_call (ok__law_draw J) hG (hr.mono (by decide)) (by rfl) J.g__law_draw J.F__law_draw.kp J.b__law_draw (mr_ref (pv 0) (mr_val me_int mr_nil))))) mao_nil)))) (pgs_slots (pg_name (i := 3) sc__law_digits_below.nd rfl (by first | exact .inl rfl | exact .inr rfl) (by first | exact .inl rfl | exact .inr rfl)) (pgs_slots (pg_name (i := 4) sc__law_digits_below.nd rfl (by first | exact .inl rfl | exact .inr rfl) (by first | exact .inl rfl | exact .inr rfl)) (pgs_slots (pg_name (i := 5) sc__law_digits_below.nd rfl (by first | exact .inl rfl | exact .inr rfl) (by first | exact .inl rfl | exact .inr rfl)) (pgs_slots (pg_name (i := 6) sc__law_digits_below.nd rfl (by first | exact .inl rfl | exact .inr rfl) (by first | exact .inl rfl | exact .inr rfl)) pgs_slots0)))) (by decide))
    (mss_cons (ms_for PassesOwn.never rfl (mi_range1 (by rfl) J.z_range me_int) (mg_name sc__law_digits_below.nd rfl (by first | exact .inl rfl | exact .inr rfl)) (mss_cons (ms_if (MW.mt (mw_or (mt_eq rfl (Room.units hr) (me_var (pv 5)) me_int (by first | rfl | exact nomark _)) (mw_or1 (MW.mt (mw_and (mt_eq rfl (Room.units hr) (me_var (pv 6)) me_int (by first | rfl | exact nomark _)) (mw_and1 (mt_gt (me_var (pv 7)) me_int (by first | rfl | exact nomark _)))))))) (mss_one ms_break) mss_nil)
    (mss_cons (ms_asg (me_frz (mo_add rfl (me_var (pv 3)) (me_frz (mo_mul rfl (me_frz (mo_call (ok__law_draw J) hG (hr.mono (by decide)) (by rfl) J.g__law_draw J.F__law_draw.kp J.b__law_draw (mr_ref (pv 0) (mr_val (me_frz (mo_add rfl (me_frz (mo_mod (me_frz (mo_int (by rfl) J.z_int (me_var (pv 5)))) (me_var (pv 1)))) me_int)) mr_nil)))) (me_var (pv 4)))))) (mg_name sc__law_digits_below.nd rfl (by first | exact .inl rfl | exact .inr rfl)))
    (mss_one (ms_par2 rfl sc__law_digits_below.nd rfl rfl (by decide) rfl rfl (mao_cons (mo_fz (me_frz (mo_mul rfl (me_var (pv 4)) (me_var (pv 1))))) (mao_cons (mo_fz (me_frz (mo_fdiv (me_var (pv 5)) (me_var (pv 1))))) mao_nil)) (by decide) (by decide) rfl)))))
    (mss_one (ms_ret (mo_var (pv 3))))))
theorem ok__law_power (J : Facts K mg) : FnG P w K mg base CX0 1 J.f__law_power J.fd__law_power ["p", "many"] (spF K noEr false 2 m__law_power) := okF J.F__law_power sc__law_power rfl fun cdv A outer s H XE hG hr =>
    (mss_cons (ms_asg me_int (mg_name sc__law_power.nd rfl (by first | exact .inl rfl | exact .inr rfl)))
    (mss_cons (ms_for PassesOwn.never rfl (mi_range1 (by rfl) J.z_range (me_var (pv 1))) (mg_name sc__law_power.nd rfl (by first | exact .inl rfl | exact .inr rfl)) (mss_cons (ms_if (mt_gt (me_frz (mo_mul rfl (me_var (pv 2)) (me_var (pv 0)))) (me_frz (mo_pow me_int me_int)) (by first | rfl | exact nomark _)) (mss_one ms_break) mss_nil)
    (mss_one (ms_asg (me_frz (mo_mul rfl (me_var (pv 2)) (me_var (pv 0)))) (mg_name sc__law_power.nd rfl (by first | exact .inl rfl | exact .inr rfl))))))
    (mss_one (ms_ret (mo_var (pv 2))))))
theorem ok__law_pairs (J : Facts K mg) : FnG P w K mg base CX0 4 J.f__law_pairs J.fd__law_pairs ["bag", "p"] (spF K noEr false 2 m__law_pairs) := okF J.F__law_pairs sc__law_pairs rfl fun cdv A outer s H XE hG hr =>
    (mss_cons (ms_parT (n := 0) (is := [2, 3, 4, 5]) rfl (mao_cons (mo_fz (me_frz (mo_call (ok__law_great J) hG (hr.mono (by decide)) (by rfl) J.g__law_great J.F__law_great.kp J.b__law_great (mr_ref (pv 0) mr_nil)))) (mao_cons (mo_fz (me_frz (mo_call (ok__law_draw J) hG (hr.mono (by decide)) (by rfl) J.g__law_draw J.F__law_draw.kp J.b__law_draw (mr_ref (pv 0) (mr_val me_int mr_nil))))) (mao_cons (mo_fz (me_frz (mo_call (ok__law_power J) hG (hr.mono (by decide)) (by rfl) J.g__law_power J.F__law_power.kp J.b__law_power (mr_val (me_var (pv 1)) (mr_val (me_frz (mo_call (ok__law_draw J) hG (hr.mono (by decide)) (by rfl) J.g__law_draw J.F__law_draw.kp J.b__law_draw (mr_ref (pv 0) (mr_val me_int mr_nil)))) mr_nil))))) (mao_cons (mo_fz (me_frz (mo_call (ok__law_power J) hG (hr.mono (by decide)) (by rfl) J.g__law_power J.F__law_power.kp J.b__law_power (mr_val (me_var (pv 1)) (mr_val me_int mr_nil))))) mao_nil)))) (pgs_slots (pg_name (i := 2) sc__law_pairs.nd rfl (by first | exact .inl rfl | exact .inr rfl) (by first | exact .inl rfl | exact .inr rfl)) (pgs_slots (pg_name (i := 3) sc__law_pairs.nd rfl (by first | exact .inl rfl | exact .inr rfl) (by first | exact .inl rfl | exact .inr rfl)) (pgs_slots (pg_name (i := 4) sc__law_pairs.nd rfl (by first | exact .inl rfl | exact .inr rfl) (by first | exact .inl rfl | exact .inr rfl)) (pgs_slots (pg_name (i := 5) sc__law_pairs.nd rfl (by first | exact .inl rfl | exact .inr rfl) (by first | exact .inl rfl | exact .inr rfl)) pgs_slots0)))) (by decide))
    (mss_cons (ms_asg (me_frz (mo_call (ok__law_digits_below J) hG (hr.mono (by decide)) (by rfl) J.g__law_digits_below J.F__law_digits_below.kp J.b__law_digits_below (mr_ref (pv 0) (mr_val (me_var (pv 1)) (mr_val (me_var (pv 2)) mr_nil))))) (mg_name sc__law_pairs.nd rfl (by first | exact .inl rfl | exact .inr rfl)))
    (mss_cons (ms_set sc__law_pairs.nd rfl (by first | exact .inl rfl | exact .inr rfl) (mo_lst (ma_cons (me_tup (ma_cons (me_var (pv 2)) (ma_cons (me_var (pv 6)) ma_nil))) (ma_cons (me_tup (ma_cons (me_var (pv 2)) (ma_cons (me_frz (mo_min rfl (by rfl) J.z_min (me_frz (mo_lst (ma_cons (me_frz (mo_add rfl (me_var (pv 6)) (me_var (pv 4)))) (ma_cons (me_frz (mo_pow me_int me_int)) ma_nil)))))) ma_nil))) (ma_cons (me_tup (ma_cons (me_var (pv 2)) (ma_cons (me_var (pv 2)) ma_nil))) (ma_cons (me_tup (ma_cons (me_var (pv 2)) (ma_cons me_int ma_nil))) (ma_cons (me_tup (ma_cons (me_var (pv 2)) (ma_cons (me_frz (mo_min rfl (by rfl) J.z_min (me_frz (mo_lst (ma_cons (me_frz (mo_add rfl (me_var (pv 2)) me_int)) (ma_cons (me_frz (mo_pow me_int me_int)) ma_nil)))))) ma_nil))) (ma_cons (me_tup (ma_cons me_int (ma_cons (me_var (pv 2)) ma_nil))) (ma_cons (me_tup (ma_cons me_int (ma_cons me_int ma_nil))) ma_nil)))))))))
    (mss_cons (ms_expr (me_extend (pv 7) (me_frz (mo_lst (ma_cons (me_tup (ma_cons (me_var (pv 2)) (ma_cons (me_frz (mo_call (ok__law_draw J) hG (hr.mono (by decide)) (by rfl) J.g__law_draw J.F__law_draw.kp J.b__law_draw (mr_ref (pv 0) (mr_val me_int mr_nil)))) ma_nil))) (ma_cons (me_tup (ma_cons (me_frz (mo_pow me_int me_int)) (ma_cons (me_frz (mo_call (ok__law_digits_below J) hG (hr.mono (by decide)) (by rfl) J.g__law_digits_below J.F__law_digits_below.kp J.b__law_digits_below (mr_ref (pv 0) (mr_val (me_var (pv 1)) (mr_val (me_frz (mo_pow me_int me_int)) mr_nil))))) ma_nil))) (ma_cons (me_tup (ma_cons (me_var (pv 2)) (ma_cons (me_frz (mo_sub (me_var (pv 2)) (me_var (pv 6)))) ma_nil))) (ma_cons (me_tup (ma_cons (me_var (pv 2)) (ma_cons (me_var (pv 4)) ma_nil))) ma_nil))))))))
    (mss_cons (ms_expr (me_extend (pv 7) (me_frz (mo_lst (ma_cons (me_tup (ma_cons (me_var (pv 3)) (ma_cons (me_frz (mo_call (ok__law_draw J) hG (hr.mono (by decide)) (by rfl) J.g__law_draw J.F__law_draw.kp J.b__law_draw (mr_ref (pv 0) (mr_val (me_frz (mo_add rfl (me_var (pv 3)) me_int)) mr_nil)))) ma_nil))) (ma_cons (me_tup (ma_cons (me_frz (mo_call (ok__law_draw J) hG (hr.mono (by decide)) (by rfl) J.g__law_draw J.F__law_draw.kp J.b__law_draw (mr_ref (pv 0) (mr_val me_int mr_nil)))) (ma_cons (me_frz (mo_call (ok__law_draw J) hG (hr.mono (by decide)) (by rfl) J.g__law_draw J.F__law_draw.kp J.b__law_draw (mr_ref (pv 0) (mr_val me_int mr_nil)))) ma_nil))) (ma_cons (me_tup (ma_cons (me_frz (mo_sub (me_var (pv 5)) me_int)) (ma_cons (me_var (pv 5)) ma_nil))) ma_nil)))))))
    (mss_one (ms_ret (mo_add rfl (me_var (pv 7)) (me_frz (mo_lst (ma_cons (me_tup (ma_cons (me_var (pv 4)) (ma_cons (me_frz (mo_fdiv (me_var (pv 4)) (me_var (pv 1)))) ma_nil))) (ma_cons (me_tup (ma_cons (me_frz (mo_sub (me_var (pv 4)) me_int)) (ma_cons (me_frz (mo_call (ok__law_draw J) hG (hr.mono (by decide)) (by rfl) J.g__law_draw J.F__law_draw.kp J.b__law_draw (mr_ref (pv 0) (mr_val me_int mr_nil)))) ma_nil))) ma_nil))))))))))))
theorem ok__law_is_choice_right (J : Facts K mg) : FnG P w K mg base CX0 3 J.f__law_is_choice_right J.fd__law_is_choice_right ["p", "x", "i", "rows"] (spF K noEr false 4 m__law_is_choice_right) := okF J.F__law_is_choice_right sc__law_is_choice_right rfl fun cdv A outer s H XE hG hr =>
    (mss_cons (ms_asg (me_frz (mo_call (ok__law_by_digits J) hG (hr.mono (by decide)) (by rfl) J.g__law_by_digits J.F__law_by_digits.kp J.b__law_by_digits (mr_val (me_var (pv 0)) (mr_val (me_var (pv 1)) (mr_val (me_var (pv 2)) (mr_val (me_var (pv 3)) mr_nil)))))) (mg_name sc__law_is_choice_right.nd rfl (by first | exact .inl rfl | exact .inr rfl)))
    (mss_cons (ms_if (MW.mt (mw_and (mt_le (me_var (pv 1)) me_int (by first | rfl | exact nomark _)) (mw_and (mt_le (me_var (pv 2)) me_int (by first | rfl | exact nomark _)) (mw_and1 (mt_ne rfl (Room.units hr) (me_frz (mo_mod (me_frz (mo_int (by rfl) J.z_int (me_ix rfl (me_at rfl (pv 3) (me_var (pv 1)) (fun _ _ => rfl)) (me_var (pv 2)) (fun _ _ => rfl)))) (me_var (pv 0)))) (me_var (pv 4)) (by first | rfl | exact nomark _)))))) (mss_one (ms_ret (mo_fz me_bl))) mss_nil)
    (mss_cons (ms_if (MW.mt (mw_and (mt_le (me_var (pv 2)) me_int (by first | rfl | exact nomark _)) (mw_and1 (mt_ne rfl (Room.units hr) (me_frz (mo_mod (me_frz (mo_int (by rfl) J.z_int (me_frz (mo_call (ok__law_over J) hG (hr.mono (by decide)) (by rfl) J.g__law_over J.F__law_over.kp J.b__law_over (mr_val (me_var (pv 1)) (mr_val (me_var (pv 2)) mr_nil)))))) (me_var (pv 0)))) (me_var (pv 4)) (by first | rfl | exact nomark _))))) (mss_one (ms_ret (mo_fz me_bl))) mss_nil)
    (mss_one (ms_ret (mo_fz (me_and (me_frz (mo_call (ok__law_is_due J) hG (hr.mono (by decide)) (by rfl) J.g__law_is_due J.F__law_is_due.kp J.b__law_is_due (mr_val (me_frz (mo_call (ok_choose_modulo J) hG (hr.mono (by decide)) (by rfl) J.g_choose_modulo J.F_choose_modulo.kp J.b_choose_modulo (mr_val (me_var (pv 0)) (mr_val (me_var (pv 1)) (mr_val (me_var (pv 2)) mr_nil))))) (mr_val (me_var (pv 4)) mr_nil)))) (me_one (me_frz (mo_call (ok__law_is_due J) hG (hr.mono (by decide)) (by rfl) J.g__law_is_due J.F__law_is_due.kp J.b__law_is_due (mr_val (me_frz (mo_callP0 (ks := ["p", "x", "i"]) (ok_choose_modulo J) hG (hr.mono (by decide)) (by rfl) J.g_choose_modulo J.F_choose_modulo.kp (kb_of (m := 0) (ix := [0, 1, 2]) (ks := ["p", "x", "i"]) J.F_choose_modulo (fun q => nomatch q) fun _ _ _ _ _ _ us ws h1 h2 => match us, ws, h1, h2 with | [], [_, _, _], _, _ => rfl) rfl (mk_cons (me_var (pv 0)) (mk_cons (me_var (pv 1)) (mk_cons (me_var (pv 2)) mk_nil))))) (mr_val (me_var (pv 4)) mr_nil))))))))))))
theorem ok__law_own_period (J : Facts K mg) : FnG P w K mg base CX0 1 J.f__law_own_period J.fd__law_own_period ["p", "fall"] (spF K noEr false 2 m__law_own_period) := okF J.F__law_own_period sc__law_own_period rfl fun cdv A outer s H XE hG hr =>
    (mss_cons (ms_parT (n := 0) (is := [2, 3, 4]) rfl (mao_cons (mo_fz (me_frz (mo_add rfl (me_frz (mo_lc (own := [("item", 5)]) (ow := [false, false, false, false, false, true, false, false, false]) rfl sc__law_own_period.nd (blkOk_by (N := ["p", "fall", "state", "row", "most", "item", "x", "k", "d"]) (sc := defScope s__law_own_period) (by decide +kernel)) (show Flags [false, false, false, false, false, true, false, false, false] 9 [5] from by unfold Flags; decide) (mi_seq rfl (me_var (pv 1))) (fun _ _ _ _ _ => (mg_name sc__law_own_period.nd rfl (by first | exact .inl rfl | exact .inr rfl))) (fun _ _ _ _ _ => pts_no) (fun _ _ _ _ _ => (me_frz (mo_mod (me_frz (mo_int (by rfl) J.z_int (me_var (pv 5)))) (me_var (pv 0))))))) (me_frz (mo_lst (ma_cons me_int ma_nil)))))) (mao_cons (mo_lst ma_nil) (mao_cons (mo_fz (me_tab (kvs := [(2, 32), (3, 27), (5, 25), (7, 49)]) (hu_of hr) (.cons (.cons (.cons (.cons .nil)))) (me_var (pv 0)))) mao_nil))) (pgs_slots (pg_name (i := 2) sc__law_own_period.nd rfl (by first | exact .inl rfl | exact .inr rfl) (by first | exact .inl rfl | exact .inr rfl)) (pgs_slots (pg_name (i := 3) sc__law_own_period.nd rfl (by first | exact .inl rfl | exact .inr rfl) (by first | exact .inl rfl | exact .inr rfl)) (pgs_slots (pg_name (i := 4) sc__law_own_period.nd rfl (by first | exact .inl rfl | exact .inr rfl) (by first | exact .inl rfl | exact .inr rfl)) pgs_slots0))) (by decide))
    (mss_cons (ms_for PassesOwn.never rfl (mi_range1 (by rfl) J.z_range (me_frz (mo_add rfl (me_var (pv 4)) me_int))) (mg_name sc__law_own_period.nd rfl (by first | exact .inl rfl | exact .inr rfl)) (mss_cons (ms_expr (me_append (pv 3) (me_at rfl (pv 2) me_int (fun _ _ => rfl))))
    (mss_one (ms_asg (me_frz (mo_add rfl (me_frz (mo_lc (own := [("k", 7)]) (ow := [false, false, false, false, false, false, false, true, false]) rfl sc__law_own_period.nd (blkOk_by (N := ["p", "fall", "state", "row", "most", "item", "x", "k", "d"]) (sc := defScope s__law_own_period) (by decide +kernel)) (show Flags [false, false, false, false, false, false, false, true, false] 9 [7] from by unfold Flags; decide) (mi_range1 (by rfl) J.z_range (me_frz (mo_sub (me_frz (mo_len rfl (by rfl) J.z_len (me_var (pv 2)))) me_int))) (fun _ _ _ _ _ => (mg_name sc__law_own_period.nd rfl (by first | exact .inl rfl | exact .inr rfl))) (fun _ _ _ _ _ => pts_no) (fun _ _ _ _ _ => (me_frz (mo_mod (me_frz (mo_int (by rfl) J.z_int (me_frz (mo_add rfl (me_at rfl (pv 2) (me_var (pv 7)) (fun _ _ => rfl)) (me_at rfl (pv 2) (me_frz (mo_add rfl (me_var (pv 7)) me_int)) (fun _ _ => rfl)))))) (me_var (pv 0))))))) (me_frz (mo_lst (ma_cons me_int ma_nil))))) (mg_name sc__law_own_period.nd rfl (by first | exact .inl rfl | exact .inr rfl))))))
    (mss_cons (ms_asg me_int (mg_name sc__law_own_period.nd rfl (by first | exact .inl rfl | exact .inr rfl)))
    (mss_cons (ms_while PassesOwn.never (MW.mt (mw_and (mt_lt (me_var (pv 8)) (me_var (pv 4)) (by first | rfl | exact nomark _)) (mw_and1 (mt_ne rfl (Room.units hr) (me_frz (mo_slice rfl (me_var (pv 3)) mp_no (mp_some me_int))) (me_frz (mo_slice rfl (me_var (pv 3)) (mp_some (me_var (pv 8))) (mp_some (me_frz (mo_add rfl (me_var (pv 8)) me_int))))) (by first | rfl | exact nomark _))))) (mss_one (ms_asg (me_frz (mo_add rfl (me_var (pv 8)) me_int)) (mg_name sc__law_own_period.nd rfl (by first | exact .inl rfl | exact .inr rfl)))))
    (mss_one (ms_ret (mo_var (pv 8))))))))
theorem ok__law_kept_fall (J : Facts K mg) : FnG P w K mg base CX0 3 J.f__law_kept_fall J.fd__law_kept_fall ["bag", "p"] (spF K noEr false 2 m__law_kept_fall) := okF J.F__law_kept_fall sc__law_kept_fall rfl fun cdv A outer s H XE hG hr =>
    (mss_cons (ms_asg (me_frz (mo_call (ok__law_pick J) hG (hr.mono (by decide)) (by rfl) J.g__law_pick J.F__law_pick.kp J.b__law_pick (mr_ref (pv 0) (mr_val (me_frz (mo_lst (ma_cons me_int (ma_cons me_int (ma_cons (me_var (pv 1)) (ma_cons (me_frz (mo_add rfl (me_var (pv 1)) me_int)) (ma_cons (me_frz (mo_mul rfl (me_var (pv 1)) (me_var (pv 1)))) (ma_cons (me_frz (mo_add rfl (me_frz (mo_mul rfl (me_var (pv 1)) (me_var (pv 1)))) me_int)) (ma_cons me_int (ma_cons me_int (ma_cons me_int (ma_cons (me_frz (mo_call (ok__law_draw J) hG (hr.mono (by decide)) (by rfl) J.g__law_draw J.F__law_draw.kp J.b__law_draw (mr_ref (pv 0) (mr_val me_int mr_nil)))) (ma_cons (me_frz (mo_call (ok__law_draw J) hG (hr.mono (by decide)) (by rfl) J.g__law_draw J.F__law_draw.kp J.b__law_draw (mr_ref (pv 0) (mr_val me_int mr_nil)))) ma_nil))))))))))))) mr_nil)))) (mg_name sc__law_kept_fall.nd rfl (by first | exact .inl rfl | exact .inr rfl)))
    (mss_cons (ms_asg (me_frz (mo_min rfl (by rfl) J.z_min (me_frz (mo_lst (ma_cons (me_var (pv 2)) (ma_cons me_int ma_nil)))))) (mg_name sc__law_kept_fall.nd rfl (by first | exact .inl rfl | exact .inr rfl)))
    (mss_cons (ms_par2 rfl sc__law_kept_fall.nd rfl rfl (by decide) rfl rfl (mao_cons (mo_fz (me_frz (mo_call (ok__law_pick J) hG (hr.mono (by decide)) (by rfl) J.g__law_pick J.F__law_pick.kp J.b__law_pick (mr_ref (pv 0) (mr_val (me_frz (mo_lst (ma_cons me_int (ma_cons me_int (ma_cons me_int (ma_cons (me_frz (mo_call (ok__law_draw J) hG (hr.mono (by decide)) (by rfl) J.g__law_draw J.F__law_draw.kp J.b__law_draw (mr_ref (pv 0) (mr_val me_int mr_nil)))) ma_nil)))))) mr_nil))))) (mao_cons (mo_fz (me_frz (mo_fdiv (me_frz (mo_sub (me_frz (mo_pow me_int me_int)) (me_var (pv 1)))) (me_var (pv 1))))) mao_nil)) (by decide) (by decide) rfl)
    (mss_cons (ms_asg (me_eq rfl (Room.units hr) (me_frz (mo_call (ok__law_draw J) hG (hr.mono (by decide)) (by rfl) J.g__law_draw J.F__law_draw.kp J.b__law_draw (mr_ref (pv 0) (mr_val me_int mr_nil)))) me_int (by first | rfl | exact nomark _)) (mg_name sc__law_kept_fall.nd rfl (by first | exact .inl rfl | exact .inr rfl)))
    (mss_cons (ms_setLc (i := 6) (own := [("k", 7)]) (ow := [false, false, false, false, false, false, false, true]) rfl sc__law_kept_fall.nd rfl rfl (sw_true rfl rfl rfl (by decide +kernel)) (blkOk_by (N := ["bag", "p", "ahead", "behind", "bound", "is_lone", "row", "k"]) (sc := defScope s__law_kept_fall) (by decide +kernel)) (show Flags [false, false, false, false, false, false, false, true] 8 [7] from by unfold Flags; decide) (mi_range1 (by rfl) J.z_range (me_var (pv 2))) (fun _ _ _ _ _ => (mg_name sc__law_kept_fall.nd rfl (by first | exact .inl rfl | exact .inr rfl))) (fun _ _ _ _ _ => pts_no) (fun _ _ _ _ _ => (me_if (mt_val (me_var (pv 5))) me_int (me_frz (mo_call (ok__law_number J) hG (hr.mono (by decide)) (by rfl) J.g__law_number J.F__law_number.kp J.b__law_number (mr_ref (pv 0) (mr_val (me_frz (mo_pow me_int me_int)) mr_nil)))))))
    (mss_cons (ms_if (mt_gt (me_var (pv 2)) me_int (by first | rfl | exact nomark _)) (mss_one (ms_item (me_frz (mo_add rfl (me_frz (mo_add rfl (me_frz (mo_mul rfl (me_var (pv 1)) (me_frz (mo_call (ok__law_number J) hG (hr.mono (by decide)) (by rfl) J.g__law_number J.F__law_number.kp J.b__law_number (mr_ref (pv 0) (mr_val (me_var (pv 4)) mr_nil)))))) me_int)) (me_frz (mo_call (ok__law_draw J) hG (hr.mono (by decide)) (by rfl) J.g__law_draw J.F__law_draw.kp J.b__law_draw (mr_ref (pv 0) (mr_val (me_frz (mo_sub (me_var (pv 1)) me_int)) mr_nil)))))) (pv 6) (me_frz (mo_neg me_int)))) mss_nil)
    (mss_cons (ms_for PassesOwn.never rfl (mi_range1 (by rfl) J.z_range (me_frz (mo_min rfl (by rfl) J.z_min (me_frz (mo_lst (ma_cons (me_var (pv 3)) (ma_cons (me_frz (mo_sub me_int (me_var (pv 2)))) ma_nil))))))) (mg_name sc__law_kept_fall.nd rfl (by first | exact .inl rfl | exact .inr rfl)) (mss_one (ms_expr (me_append (pv 6) (me_frz (mo_mul rfl (me_var (pv 1)) (me_frz (mo_call (ok__law_number J) hG (hr.mono (by decide)) (by rfl) J.g__law_number J.F__law_number.kp J.b__law_number (mr_ref (pv 0) (mr_val (me_var (pv 4)) mr_nil))))))))))
    (mss_cons (ms_if (MW.mt (mw_and (mt_lend (mt_ne rfl (Room.units hr) (me_var (pv 6)) (me_frz (mo_lst ma_nil)) (by first | rfl | exact nomark _))) (mw_and1 (mt_eq rfl (Room.units hr) (me_at rfl (pv 6) (me_frz (mo_neg me_int)) (fun _ _ => rfl)) me_int (by first | rfl | exact nomark _))))) (mss_one (ms_item (me_var (pv 1)) (pv 6) (me_frz (mo_neg me_int)))) mss_nil)
    (mss_one (ms_ret (mo_fz (me_tup (ma_cons (me_frz (mo_tuple rfl (by rfl) J.z_tuple (me_var (pv 6)))) (ma_cons (me_var (pv 2)) ma_nil))))))))))))))
theorem ok__law_least_power (J : Facts K mg) : FnG P w K mg base CX0 1 J.f__law_least_power J.fd__law_least_power ["p", "many"] (spF K noEr false 2 m__law_least_power) := okF J.F__law_least_power sc__law_least_power rfl fun cdv A outer s H XE hG hr =>
    (mss_cons (ms_asg me_int (mg_name sc__law_least_power.nd rfl (by first | exact .inl rfl | exact .inr rfl)))
    (mss_cons (ms_while PassesOwn.never (mt_lt (me_var (pv 2)) (me_var (pv 1)) (by first | rfl | exact nomark _)) (mss_one (ms_asg (me_frz (mo_mul rfl (me_var (pv 2)) (me_var (pv 0)))) (mg_name sc__law_least_power.nd rfl (by first | exact .inl rfl | exact .inr rfl)))))
    (mss_one (ms_ret (mo_var (pv 2))))))
theorem ok__law_is_period_right (J : Facts K mg) : FnG P w K mg base CX0 3 J.f__law_is_period_right J.fd__law_is_period_right ["p", "fall", "ahead"] (spF K noEr false 3 m__law_is_period_right) := okF J.F__law_is_period_right sc__law_is_period_right rfl fun cdv A outer s H XE hG hr =>
    (mss_cons (ms_asg (me_frz (mo_call (ok__law_own_period J) hG (hr.mono (by decide)) (by rfl) J.g__law_own_period J.F__law_own_period.kp J.b__law_own_period (mr_val (me_var (pv 0)) (mr_val (me_var (pv 1)) mr_nil)))) (mg_name sc__law_is_period_right.nd rfl (by first | exact .inl rfl | exact .inr rfl)))
    (mss_cons (ms_if (mt_ne rfl (Room.units hr) (me_var (pv 3)) (me_frz (mo_call (ok__law_least_power J) hG (hr.mono (by decide)) (by rfl) J.g__law_least_power J.F__law_least_power.kp J.b__law_least_power (mr_val (me_var (pv 0)) (mr_val (me_var (pv 2)) mr_nil)))) (by first | rfl | exact nomark _)) (mss_one (ms_ret (mo_fz me_bl))) mss_nil)
    (mss_one (ms_ret (mo_fz (me_and (me_frz (mo_call (ok__law_is_due J) hG (hr.mono (by decide)) (by rfl) J.g__law_is_due J.F__law_is_due.kp J.b__law_is_due (mr_val (me_frz (mo_call (ok_fall_period J) hG (hr.mono (by decide)) (by rfl) J.g_fall_period J.F_fall_period.kp J.b_fall_period (mr_val (me_var (pv 0)) (mr_val (me_var (pv 1)) mr_nil)))) (mr_val (me_var (pv 3)) mr_nil)))) (me_one (me_frz (mo_call (ok__law_is_due J) hG (hr.mono (by decide)) (by rfl) J.g__law_is_due J.F__law_is_due.kp J.b__law_is_due (mr_val (me_frz (mo_callP0 (ks := ["p", "fall"]) (ok_fall_period J) hG (hr.mono (by decide)) (by rfl) J.g_fall_period J.F_fall_period.kp (kb_of (m := 0) (ix := [0, 1]) (ks := ["p", "fall"]) J.F_fall_period (fun q => nomatch q) fun _ _ _ _ _ _ us ws h1 h2 => match us, ws, h1, h2 with | [], [_, _], _, _ => rfl) rfl (mk_cons (me_var (pv 0)) (mk_cons (me_var (pv 1)) mk_nil)))) (mr_val (me_var (pv 3)) mr_nil)))))))))))
theorem ok__law_are_periods_right (J : Facts K mg) : FnG P w K mg base CX0 4 J.f__law_are_periods_right J.fd__law_are_periods_right ["bag", "p", "shared"] (spF K noEr false 3 m__law_are_periods_right) := okF J.F__law_are_periods_right sc__law_are_periods_right rfl fun cdv A outer s H XE hG hr =>
    (mss_cons (ms_for PassesOwn.never rfl (mi_range1 (by rfl) J.z_range me_int) (mg_name sc__law_are_periods_right.nd rfl (by first | exact .inl rfl | exact .inr rfl)) (mss_cons (ms_asg (me_frz (mo_call (ok__law_kept_fall J) hG (hr.mono (by decide)) (by rfl) J.g__law_kept_fall J.F__law_kept_fall.kp J.b__law_kept_fall (mr_ref (pv 0) (mr_val (me_var (pv 1)) mr_nil)))) (mg_tup rfl rfl (mgs_cons (mg_name sc__law_are_periods_right.nd rfl (by first | exact .inl rfl | exact .inr rfl)) (mgs_cons (mg_name sc__law_are_periods_right.nd rfl (by first | exact .inl rfl | exact .inr rfl)) mgs_nil))))
    (mss_cons (ms_if (mt_not (mt_val (me_frz (mo_call (ok__law_is_period_right J) hG (hr.mono (by decide)) (by rfl) J.g__law_is_period_right J.F__law_is_period_right.kp J.b__law_is_period_right (mr_val (me_var (pv 1)) (mr_val (me_var (pv 4)) (mr_val (me_var (pv 5)) mr_nil))))))) (mss_one (ms_ret (mo_fz me_bl))) mss_nil)
    (mss_cons (ms_if (MW.mt (mw_and (mt_lt (me_frz (mo_len rfl (by rfl) J.z_len (me_var (pv 4)))) me_int (by first | rfl | exact nomark _)) (mw_and1 (MW.mt (mw_or (mt_eq rfl (Room.units hr) (me_var (pv 4)) (me_tup ma_nil) (by first | rfl | exact nomark _)) (mw_or1 (mt_eq rfl (Room.units hr) (me_frz (mo_call (ok__law_draw J) hG (hr.mono (by decide)) (by rfl) J.g__law_draw J.F__law_draw.kp J.b__law_draw (mr_ref (pv 0) (mr_val me_int mr_nil)))) me_int (by first | rfl | exact nomark _)))))))) (mss_one (ms_asg (me_frz (mo_add rfl (me_var (pv 4)) (me_tup (ma_cons me_int ma_nil)))) (mg_name sc__law_are_periods_right.nd rfl (by first | exact .inl rfl | exact .inr rfl)))) (mss_one (ms_asg (me_frz (mo_add rfl (me_frz (mo_slice rfl (me_var (pv 4)) mp_no (mp_some (me_frz (mo_neg me_int))))) (me_tup (ma_cons (me_frz (mo_add rfl (me_var (pv 1)) me_int)) ma_nil)))) (mg_name sc__law_are_periods_right.nd rfl (by first | exact .inl rfl | exact .inr rfl)))))
    (mss_one (ms_if (mt_not (mt_val (me_frz (mo_call (ok__law_is_period_right J) hG (hr.mono (by decide)) (by rfl) J.g__law_is_period_right J.F__law_is_period_right.kp J.b__law_is_period_right (mr_val (me_var (pv 1)) (mr_val (me_var (pv 6)) (mr_val (me_frz (mo_len rfl (by rfl) J.z_len (me_var (pv 6)))) mr_nil))))))) (mss_one (ms_ret (mo_fz me_bl))) mss_nil))))))
    (mss_cons (ms_asg (me_frz (mo_len rfl (by rfl) J.z_len (me_var (pv 2)))) (mg_name sc__law_are_periods_right.nd rfl (by first | exact .inl rfl | exact .inr rfl)))
    (mss_cons (ms_while PassesOwn.never (MW.mt (mw_and (mt_gt (me_var (pv 7)) me_int (by first | rfl | exact nomark _)) (mw_and1 (mt_eq rfl (Room.units hr) (me_frz (mo_mod (me_frz (mo_int (by rfl) J.z_int (me_at rfl (pv 2) (me_frz (mo_sub (me_var (pv 7)) me_int)) (fun _ _ => rfl)))) (me_var (pv 1)))) me_int (by first | rfl | exact nomark _))))) (mss_one (ms_asg (me_frz (mo_sub (me_var (pv 7)) me_int)) (mg_name sc__law_are_periods_right.nd rfl (by first | exact .inl rfl | exact .inr rfl)))))
    (mss_one (ms_ret (mo_fz (me_and (me_frz (mo_call (ok__law_is_due J) hG (hr.mono (by decide)) (by rfl) J.g__law_is_due J.F__law_is_due.kp J.b__law_is_due (mr_val (me_frz (mo_call (ok_fall_period J) hG (hr.mono (by decide)) (by rfl) J.g_fall_period J.F_fall_period.kp J.b_fall_period (mr_val (me_var (pv 1)) (mr_val (me_tup ma_nil) mr_nil)))) (mr_val me_int mr_nil)))) (me_one (me_frz (mo_call (ok__law_is_period_right J) hG (hr.mono (by decide)) (by rfl) J.g__law_is_period_right J.F__law_is_period_right.kp J.b__law_is_period_right (mr_val (me_var (pv 1)) (mr_val (me_var (pv 2)) (mr_val (me_var (pv 7)) mr_nil)))))))))))))
theorem ok_law (J : Facts K mg) : FnG P w K mg base CX0 5 J.f_law J.fd_law ["script"] (spF K noEr false 1 m_law) := okF J.F_law sc_law rfl fun cdv A outer s H XE hG hr =>
    (mss_cons (ms_parT (n := 0) (is := [1, 2]) rfl (mao_cons (mo_call (ok__law_own_bag J) hG (hr.mono (by decide)) (by rfl) J.g__law_own_bag J.F__law_own_bag.kp J.b__law_own_bag (mr_val (me_var (pv 0)) mr_nil)) (mao_cons (mo_fz (me_frz (mo_call0 (ok__law_rows_of_sums J) hG (hr.mono (by decide)) (by rfl) J.g__law_rows_of_sums J.F__law_rows_of_sums.kp J.b__law_rows_of_sums))) mao_nil)) (pgs_slots (pg_name (i := 1) sc_law.nd rfl (by first | exact .inl rfl | exact .inr rfl) (by first | exact .inl rfl | exact .inr rfl)) (pgs_slots (pg_name (i := 2) sc_law.nd rfl (by first | exact .inl rfl | exact .inr rfl) (by first | exact .inl rfl | exact .inr rfl)) pgs_slots0)) (by decide))
    (mss_cons (ms_asg (me_frz (mo_tuple rfl (by rfl) J.z_tuple (me_frz (mo_lc (own := [("k", 4)]) (ow := [false, false, false, false, true, false, false, false, false]) rfl sc_law.nd (blkOk_by (N := ["script", "bag", "rows", "shared", "k", "p", "pairs", "x", "i"]) (sc := defScope s_law) (by decide +kernel)) (show Flags [false, false, false, false, true, false, false, false, false] 9 [4] from by unfold Flags; decide) (mi_range1 (by rfl) J.z_range (me_frz (mo_call (ok__law_draw J) hG (hr.mono (by decide)) (by rfl) J.g__law_draw J.F__law_draw.kp J.b__law_draw (mr_ref (pv 1) (mr_val me_int mr_nil))))) (fun _ _ _ _ _ => (mg_name sc_law.nd rfl (by first | exact .inl rfl | exact .inr rfl))) (fun _ _ _ _ _ => pts_no) (fun _ _ _ _ _ => (me_frz (mo_call (ok__law_number J) hG (hr.mono (by decide)) (by rfl) J.g__law_number J.F__law_number.kp J.b__law_number (mr_ref (pv 1) (mr_val (me_frz (mo_pow me_int me_int)) mr_nil))))))))) (mg_name sc_law.nd rfl (by first | exact .inl rfl | exact .inr rfl)))
    (mss_cons (ms_asg (me_frz (mo_add rfl (me_var (pv 3)) (me_tup (ma_cons (me_frz (mo_call (ok__law_pick J) hG (hr.mono (by decide)) (by rfl) J.g__law_pick J.F__law_pick.kp J.b__law_pick (mr_ref (pv 1) (mr_val (me_frz (mo_lst (ma_cons me_int (ma_cons me_int (ma_cons me_int (ma_cons me_int (ma_cons me_int (ma_cons me_int (ma_cons me_int (ma_cons (me_frz (mo_neg (me_frz (mo_pow me_int me_int)))) ma_nil)))))))))) mr_nil)))) ma_nil)))) (mg_name sc_law.nd rfl (by first | exact .inl rfl | exact .inr rfl)))
    (mss_cons (ms_for PassesOwn.never rfl (mi_seq rfl (me_frz (mo_lst (ma_cons me_int (ma_cons me_int (ma_cons me_int (ma_cons me_int ma_nil))))))) (mg_name sc_law.nd rfl (by first | exact .inl rfl | exact .inr rfl)) (mss_cons (ms_asg (me_frz (mo_call (ok__law_pairs J) hG (hr.mono (by decide)) (by rfl) J.g__law_pairs J.F__law_pairs.kp J.b__law_pairs (mr_ref (pv 1) (mr_val (me_var (pv 5)) mr_nil)))) (mg_name sc_law.nd rfl (by first | exact .inl rfl | exact .inr rfl)))
    (mss_cons (ms_for PassesOwn.never rfl (mi_seq rfl (me_frz (mo_add rfl (me_var (pv 6)) (me_frz (mo_slice rfl (me_var (pv 6)) mp_no (mp_some me_int)))))) (mg_tup rfl rfl (mgs_cons (mg_name sc_law.nd rfl (by first | exact .inl rfl | exact .inr rfl)) (mgs_cons (mg_name sc_law.nd rfl (by first | exact .inl rfl | exact .inr rfl)) mgs_nil))) (mss_one (ms_if (mt_not (mt_val (me_frz (mo_call (ok__law_is_choice_right J) hG (hr.mono (by decide)) (by rfl) J.g__law_is_choice_right J.F__law_is_choice_right.kp J.b__law_is_choice_right (mr_val (me_var (pv 5)) (mr_val (me_var (pv 7)) (mr_val (me_var (pv 8)) (mr_val (me_var (pv 2)) mr_nil)))))))) (mss_one (ms_ret (mo_fz me_bl))) mss_nil)))
    (mss_one (ms_if (mt_not (mt_val (me_frz (mo_call (ok__law_are_periods_right J) hG (hr.mono (by decide)) (by rfl) J.g__law_are_periods_right J.F__law_are_periods_right.kp J.b__law_are_periods_right (mr_ref (pv 1) (mr_val (me_var (pv 5)) (mr_val (me_var (pv 3)) mr_nil))))))) (mss_one (ms_ret (mo_fz me_bl))) mss_nil)))))
    (mss_one (ms_ret (mo_fz (me_and (me_frz (mo_call (ok__law_is_due J) hG (hr.mono (by decide)) (by rfl) J.g__law_is_due J.F__law_is_due.kp J.b__law_is_due (mr_val (me_frz (mo_call (ok_fall_period J) hG (hr.mono (by decide)) (by rfl) J.g_fall_period J.F_fall_period.kp J.b_fall_period (mr_val me_int (mr_val (me_frz (mo_mul rfl (me_tup (ma_cons me_int ma_nil)) me_int)) mr_nil)))) (mr_val me_int mr_nil)))) (me_one (me_frz (mo_call (ok__law_is_due J) hG (hr.mono (by decide)) (by rfl) J.g__law_is_due J.F__law_is_due.kp J.b__law_is_due (mr_val (me_frz (mo_call (ok_fall_period J) hG (hr.mono (by decide)) (by rfl) J.g_fall_period J.F_fall_period.kp J.b_fall_period (mr_val me_int (mr_val (me_frz (mo_add rfl (me_frz (mo_slice rfl (me_var (pv 3)) mp_no (mp_some (me_frz (mo_neg me_int))))) (me_tup (ma_cons me_int ma_nil)))) mr_nil)))) (mr_val (me_frz (mo_call (ok__law_least_power J) hG (hr.mono (by decide)) (by rfl) J.g__law_least_power J.F__law_least_power.kp J.b__law_least_power (mr_val me_int (mr_val (me_frz (mo_len rfl (by rfl) J.z_len (me_var (pv 3)))) mr_nil)))) mr_nil)))))))))))))
end
theorem all_mk {l : PySem.W.OpenLaw} {w : World} {K : PySem.W.Frag} {h : Heap} {mg : Str → Option Value} {fa : Addr} (X : K.In h) (G : h.Ns mainGlobals mg) (hfa : mg "law" = some (.ref fa))
    {f0 : Addr} {od0 an0 : Option Addr} {sl0 : Array (Option Value)} {oc0 kV0 dc0 pm0 cd0 ct0 : Value}
    (a0 : PySem.W.nsIn K mainGlobals "fall_trimmed" = some (some (.ref f0))) (l0 : K.lookup f0 = some ⟨oc0, od0, .func (PySem.W.fnOf "fall_trimmed" "fall_trimmed" (defArgs s_fall_trimmed) (defBody s_fall_trimmed) (defScope s_fall_trimmed) .none kV0 dc0 pm0 an0 cd0 ct0), sl0⟩) (c0 : PySem.W.codeIn K cd0 "fall_trimmed" = true) (k0 : PySem.W.keepIn K (.ref f0) = true)
    {f1 : Addr} {od1 an1 : Option Addr} {sl1 : Array (Option Value)} {oc1 kV1 dc1 pm1 cd1 ct1 : Value}
    (a1 : PySem.W.nsIn K mainGlobals "choices_row" = some (some (.ref f1))) (l1 : K.lookup f1 = some ⟨oc1, od1, .func (PySem.W.fnOf "choices_row" "choices_row" (defArgs s_choices_row) (defBody s_choices_row) (defScope s_choices_row) .none kV1 dc1 pm1 an1 cd1 ct1), sl1⟩) (c1 : PySem.W.codeIn K cd1 "choices_row" = true) (k1 : PySem.W.keepIn K (.ref f1) = true)
    {f2 : Addr} {od2 an2 : Option Addr} {sl2 : Array (Option Value)} {oc2 kV2 dc2 pm2 cd2 ct2 : Value}
    (a2 : PySem.W.nsIn K mainGlobals "choose_modulo" = some (some (.ref f2))) (l2 : K.lookup f2 = some ⟨oc2, od2, .func (PySem.W.fnOf "choose_modulo" "choose_modulo" (defArgs s_choose_modulo) (defBody s_choose_modulo) (defScope s_choose_modulo) .none kV2 dc2 pm2 an2 cd2 ct2), sl2⟩) (c2 : PySem.W.codeIn K cd2 "choose_modulo" = true) (k2 : PySem.W.keepIn K (.ref f2) = true)
    {f3 : Addr} {od3 an3 : Option Addr} {sl3 : Array (Option Value)} {oc3 kV3 dc3 pm3 cd3 ct3 : Value}
    (a3 : PySem.W.nsIn K mainGlobals "fall_period" = some (some (.ref f3))) (l3 : K.lookup f3 = some ⟨oc3, od3, .func (PySem.W.fnOf "fall_period" "fall_period" (defArgs s_fall_period) (defBody s_fall_period) (defScope s_fall_period) .none kV3 dc3 pm3 an3 cd3 ct3), sl3⟩) (c3 : PySem.W.codeIn K cd3 "fall_period" = true) (k3 : PySem.W.keepIn K (.ref f3) = true)
    {f4 : Addr} {od4 an4 : Option Addr} {sl4 : Array (Option Value)} {oc4 kV4 dc4 pm4 cd4 ct4 : Value}
    (a4 : PySem.W.nsIn K mainGlobals "_law_own_bag" = some (some (.ref f4))) (l4 : K.lookup f4 = some ⟨oc4, od4, .func (PySem.W.fnOf "_law_own_bag" "_law_own_bag" (defArgs s__law_own_bag) (defBody s__law_own_bag) (defScope s__law_own_bag) .none kV4 dc4 pm4 an4 cd4 ct4), sl4⟩) (c4 : PySem.W.codeIn K cd4 "_law_own_bag" = true) (k4 : PySem.W.keepIn K (.ref f4) = true)
    {f5 : Addr} {od5 an5 : Option Addr} {sl5 : Array (Option Value)} {oc5 kV5 dc5 pm5 cd5 ct5 : Value}
    (a5 : PySem.W.nsIn K mainGlobals "_law_draw" = some (some (.ref f5))) (l5 : K.lookup f5 = some ⟨oc5, od5, .func (PySem.W.fnOf "_law_draw" "_law_draw" (defArgs s__law_draw) (defBody s__law_draw) (defScope s__law_draw) .none kV5 dc5 pm5 an5 cd5 ct5), sl5⟩) (c5 : PySem.W.codeIn K cd5 "_law_draw" = true) (k5 : PySem.W.keepIn K (.ref f5) = true)
    {f6 : Addr} {od6 an6 : Option Addr} {sl6 : Array (Option Value)} {oc6 kV6 dc6 pm6 cd6 ct6 : Value}
    (a6 : PySem.W.nsIn K mainGlobals "_law_pick" = some (some (.ref f6))) (l6 : K.lookup f6 = some ⟨oc6, od6, .func (PySem.W.fnOf "_law_pick" "_law_pick" (defArgs s__law_pick) (defBody s__law_pick) (defScope s__law_pick) .none kV6 dc6 pm6 an6 cd6 ct6), sl6⟩) (c6 : PySem.W.codeIn K cd6 "_law_pick" = true) (k6 : PySem.W.keepIn K (.ref f6) = true)
    {f7 : Addr} {od7 an7 : Option Addr} {sl7 : Array (Option Value)} {oc7 kV7 dc7 pm7 cd7 ct7 : Value}
    (a7 : PySem.W.nsIn K mainGlobals "_law_number" = some (some (.ref f7))) (l7 : K.lookup f7 = some ⟨oc7, od7, .func (PySem.W.fnOf "_law_number" "_law_number" (defArgs s__law_number) (defBody s__law_number) (defScope s__law_number) .none kV7 dc7 pm7 an7 cd7 ct7), sl7⟩) (c7 : PySem.W.codeIn K cd7 "_law_number" = true) (k7 : PySem.W.keepIn K (.ref f7) = true)
    {f8 : Addr} {od8 an8 : Option Addr} {sl8 : Array (Option Value)} {oc8 kV8 dc8 pm8 cd8 ct8 : Value}
    (a8 : PySem.W.nsIn K mainGlobals "_law_is_due" = some (some (.ref f8))) (l8 : K.lookup f8 = some ⟨oc8, od8, .func (PySem.W.fnOf "_law_is_due" "_law_is_due" (defArgs s__law_is_due) (defBody s__law_is_due) (defScope s__law_is_due) .none kV8 dc8 pm8 an8 cd8 ct8), sl8⟩) (c8 : PySem.W.codeIn K cd8 "_law_is_due" = true) (k8 : PySem.W.keepIn K (.ref f8) = true)
    {f9 : Addr} {od9 an9 : Option Addr} {sl9 : Array (Option Value)} {oc9 kV9 dc9 pm9 cd9 ct9 : Value}
    (a9 : PySem.W.nsIn K mainGlobals "_law_rows_of_sums" = some (some (.ref f9))) (l9 : K.lookup f9 = some ⟨oc9, od9, .func (PySem.W.fnOf "_law_rows_of_sums" "_law_rows_of_sums" (defArgs s__law_rows_of_sums) (defBody s__law_rows_of_sums) (defScope s__law_rows_of_sums) .none kV9 dc9 pm9 an9 cd9 ct9), sl9⟩) (c9 : PySem.W.codeIn K cd9 "_law_rows_of_sums" = true) (k9 : PySem.W.keepIn K (.ref f9) = true)
    {f10 : Addr} {od10 an10 : Option Addr} {sl10 : Array (Option Value)} {oc10 kV10 dc10 pm10 cd10 ct10 : Value}
    (a10 : PySem.W.nsIn K mainGlobals "_law_over" = some (some (.ref f10))) (l10 : K.lookup f10 = some ⟨oc10, od10, .func (PySem.W.fnOf "_law_over" "_law_over" (defArgs s__law_over) (defBody s__law_over) (defScope s__law_over) .none kV10 dc10 pm10 an10 cd10 ct10), sl10⟩) (c10 : PySem.W.codeIn K cd10 "_law_over" = true) (k10 : PySem.W.keepIn K (.ref f10) = true)
    {f11 : Addr} {od11 an11 : Option Addr} {sl11 : Array (Option Value)} {oc11 kV11 dc11 pm11 cd11 ct11 : Value}
    (a11 : PySem.W.nsIn K mainGlobals "_law_by_digits" = some (some (.ref f11))) (l11 : K.lookup f11 = some ⟨oc11, od11, .func (PySem.W.fnOf "_law_by_digits" "_law_by_digits" (defArgs s__law_by_digits) (defBody s__law_by_digits) (defScope s__law_by_digits) .none kV11 dc11 pm11 an11 cd11 ct11), sl11⟩) (c11 : PySem.W.codeIn K cd11 "_law_by_digits" = true) (k11 : PySem.W.keepIn K (.ref f11) = true)
    {f12 : Addr} {od12 an12 : Option Addr} {sl12 : Array (Option Value)} {oc12 kV12 dc12 pm12 cd12 ct12 : Value}
    (a12 : PySem.W.nsIn K mainGlobals "_law_great" = some (some (.ref f12))) (l12 : K.lookup f12 = some ⟨oc12, od12, .func (PySem.W.fnOf "_law_great" "_law_great" (defArgs s__law_great) (defBody s__law_great) (defScope s__law_great) .none kV12 dc12 pm12 an12 cd12 ct12), sl12⟩) (c12 : PySem.W.codeIn K cd12 "_law_great" = true) (k12 : PySem.W.keepIn K (.ref f12) = true)
    {f13 : Addr} {od13 an13 : Option Addr} {sl13 : Array (Option Value)} {oc13 kV13 dc13 pm13 cd13 ct13 : Value}
    (a13 : PySem.W.nsIn K mainGlobals "_law_digits_below" = some (some (.ref f13))) (l13 : K.lookup f13 = some ⟨oc13, od13, .func (PySem.W.fnOf "_law_digits_below" "_law_digits_below" (defArgs s__law_digits_below) (defBody s__law_digits_below) (defScope s__law_digits_below) .none kV13 dc13 pm13 an13 cd13 ct13), sl13⟩) (c13 : PySem.W.codeIn K cd13 "_law_digits_below" = true) (k13 : PySem.W.keepIn K (.ref f13) = true)
    {f14 : Addr} {od14 an14 : Option Addr} {sl14 : Array (Option Value)} {oc14 kV14 dc14 pm14 cd14 ct14 : Value}
    (a14 : PySem.W.nsIn K mainGlobals "_law_power" = some (some (.ref f14))) (l14 : K.lookup f14 = some ⟨oc14, od14, .func (PySem.W.fnOf "_law_power" "_law_power" (defArgs s__law_power) (defBody s__law_power) (defScope s__law_power) .none kV14 dc14 pm14 an14 cd14 ct14), sl14⟩) (c14 : PySem.W.codeIn K cd14 "_law_power" = true) (k14 : PySem.W.keepIn K (.ref f14) = true)
    {f15 : Addr} {od15 an15 : Option Addr} {sl15 : Array (Option Value)} {oc15 kV15 dc15 pm15 cd15 ct15 : Value}
    (a15 : PySem.W.nsIn K mainGlobals "_law_pairs" = some (some (.ref f15))) (l15 : K.lookup f15 = some ⟨oc15, od15, .func (PySem.W.fnOf "_law_pairs" "_law_pairs" (defArgs s__law_pairs) (defBody s__law_pairs) (defScope s__law_pairs) .none kV15 dc15 pm15 an15 cd15 ct15), sl15⟩) (c15 : PySem.W.codeIn K cd15 "_law_pairs" = true) (k15 : PySem.W.keepIn K (.ref f15) = true)
    {f16 : Addr} {od16 an16 : Option Addr} {sl16 : Array (Option Value)} {oc16 kV16 dc16 pm16 cd16 ct16 : Value}
    (a16 : PySem.W.nsIn K mainGlobals "_law_is_choice_right" = some (some (.ref f16))) (l16 : K.lookup f16 = some ⟨oc16, od16, .func (PySem.W.fnOf "_law_is_choice_right" "_law_is_choice_right" (defArgs s__law_is_choice_right) (defBody s__law_is_choice_right) (defScope s__law_is_choice_right) .none kV16 dc16 pm16 an16 cd16 ct16), sl16⟩) (c16 : PySem.W.codeIn K cd16 "_law_is_choice_right" = true) (k16 : PySem.W.keepIn K (.ref f16) = true)
    {f17 : Addr} {od17 an17 : Option Addr} {sl17 : Array (Option Value)} {oc17 kV17 dc17 pm17 cd17 ct17 : Value}
    (a17 : PySem.W.nsIn K mainGlobals "_law_own_period" = some (some (.ref f17))) (l17 : K.lookup f17 = some ⟨oc17, od17, .func (PySem.W.fnOf "_law_own_period" "_law_own_period" (defArgs s__law_own_period) (defBody s__law_own_period) (defScope s__law_own_period) .none kV17 dc17 pm17 an17 cd17 ct17), sl17⟩) (c17 : PySem.W.codeIn K cd17 "_law_own_period" = true) (k17 : PySem.W.keepIn K (.ref f17) = true)
    {f18 : Addr} {od18 an18 : Option Addr} {sl18 : Array (Option Value)} {oc18 kV18 dc18 pm18 cd18 ct18 : Value}
    (a18 : PySem.W.nsIn K mainGlobals "_law_kept_fall" = some (some (.ref f18))) (l18 : K.lookup f18 = some ⟨oc18, od18, .func (PySem.W.fnOf "_law_kept_fall" "_law_kept_fall" (defArgs s__law_kept_fall) (defBody s__law_kept_fall) (defScope s__law_kept_fall) .none kV18 dc18 pm18 an18 cd18 ct18), sl18⟩) (c18 : PySem.W.codeIn K cd18 "_law_kept_fall" = true) (k18 : PySem.W.keepIn K (.ref f18) = true)
    {f19 : Addr} {od19 an19 : Option Addr} {sl19 : Array (Option Value)} {oc19 kV19 dc19 pm19 cd19 ct19 : Value}
    (a19 : PySem.W.nsIn K mainGlobals "_law_least_power" = some (some (.ref f19))) (l19 : K.lookup f19 = some ⟨oc19, od19, .func (PySem.W.fnOf "_law_least_power" "_law_least_power" (defArgs s__law_least_power) (defBody s__law_least_power) (defScope s__law_least_power) .none kV19 dc19 pm19 an19 cd19 ct19), sl19⟩) (c19 : PySem.W.codeIn K cd19 "_law_least_power" = true) (k19 : PySem.W.keepIn K (.ref f19) = true)
    {f20 : Addr} {od20 an20 : Option Addr} {sl20 : Array (Option Value)} {oc20 kV20 dc20 pm20 cd20 ct20 : Value}
    (a20 : PySem.W.nsIn K mainGlobals "_law_is_period_right" = some (some (.ref f20))) (l20 : K.lookup f20 = some ⟨oc20, od20, .func (PySem.W.fnOf "_law_is_period_right" "_law_is_period_right" (defArgs s__law_is_period_right) (defBody s__law_is_period_right) (defScope s__law_is_period_right) .none kV20 dc20 pm20 an20 cd20 ct20), sl20⟩) (c20 : PySem.W.codeIn K cd20 "_law_is_period_right" = true) (k20 : PySem.W.keepIn K (.ref f20) = true)
    {f21 : Addr} {od21 an21 : Option Addr} {sl21 : Array (Option Value)} {oc21 kV21 dc21 pm21 cd21 ct21 : Value}
    (a21 : PySem.W.nsIn K mainGlobals "_law_are_periods_right" = some (some (.ref f21))) (l21 : K.lookup f21 = some ⟨oc21, od21, .func (PySem.W.fnOf "_law_are_periods_right" "_law_are_periods_right" (defArgs s__law_are_periods_right) (defBody s__law_are_periods_right) (defScope s__law_are_periods_right) .none kV21 dc21 pm21 an21 cd21 ct21), sl21⟩) (c21 : PySem.W.codeIn K cd21 "_law_are_periods_right" = true) (k21 : PySem.W.keepIn K (.ref f21) = true)
    {f22 : Addr} {od22 an22 : Option Addr} {sl22 : Array (Option Value)} {oc22 kV22 dc22 pm22 cd22 ct22 : Value}
    (a22 : PySem.W.nsIn K mainGlobals "law" = some (some (.ref f22))) (l22 : K.lookup f22 = some ⟨oc22, od22, .func (PySem.W.fnOf "law" "law" (defArgs s_law) (defBody s_law) (defScope s_law) .none kV22 dc22 pm22 an22 cd22 ct22), sl22⟩) (c22 : PySem.W.codeIn K cd22 "law" = true) (k22 : PySem.W.keepIn K (.ref f22) = true)
    (z0 : PySem.W.nsIn K mainGlobals "abs" = some none) (z1 : PySem.W.nsIn K mainGlobals "bool" = some none) (z2 : PySem.W.nsIn K mainGlobals "int" = some none) (z3 : PySem.W.nsIn K mainGlobals "isinstance" = some none) (z4 : PySem.W.nsIn K mainGlobals "len" = some none) (z5 : PySem.W.nsIn K mainGlobals "list" = some none) (z6 : PySem.W.nsIn K mainGlobals "min" = some none) (z7 : PySem.W.nsIn K mainGlobals "range" = some none) (z8 : PySem.W.nsIn K mainGlobals "repr" = some none) (z9 : PySem.W.nsIn K mainGlobals "reversed" = some none) (z10 : PySem.W.nsIn K mainGlobals "str" = some none) (z11 : PySem.W.nsIn K mainGlobals "tuple" = some none) :
    ∃ fd : FuncData, (∀ (s : Shared) (v : Value), BindsTo s fd ⟨[v], []⟩ [("script", v)]) ∧ ∀ base : Heap, K.In base → base.Ns mainGlobals mg → FnG l.prog w K mg base CX0 5 fa fd ["script"] (spF K noEr false 1 m_law) := by
  have e := hfa.symm.trans (PySem.W.mg_of X G a22)
  cases e
  have F0 := fun_mk (st := s_fall_trimmed) l0 c0 k0
  have F1 := fun_mk (st := s_choices_row) l1 c1 k1
  have F2 := fun_mk (st := s_choose_modulo) l2 c2 k2
  have F3 := fun_mk (st := s_fall_period) l3 c3 k3
  have F4 := fun_mk (st := s__law_own_bag) l4 c4 k4
  have F5 := fun_mk (st := s__law_draw) l5 c5 k5
  have F6 := fun_mk (st := s__law_pick) l6 c6 k6
  have F7 := fun_mk (st := s__law_number) l7 c7 k7
  have F8 := fun_mk (st := s__law_is_due) l8 c8 k8
  have F9 := fun_mk (st := s__law_rows_of_sums) l9 c9 k9
  have F10 := fun_mk (st := s__law_over) l10 c10 k10
  have F11 := fun_mk (st := s__law_by_digits) l11 c11 k11
  have F12 := fun_mk (st := s__law_great) l12 c12 k12
  have F13 := fun_mk (st := s__law_digits_below) l13 c13 k13
  have F14 := fun_mk (st := s__law_power) l14 c14 k14
  have F15 := fun_mk (st := s__law_pairs) l15 c15 k15
  have F16 := fun_mk (st := s__law_is_choice_right) l16 c16 k16
  have F17 := fun_mk (st := s__law_own_period) l17 c17 k17
  have F18 := fun_mk (st := s__law_kept_fall) l18 c18 k18
  have F19 := fun_mk (st := s__law_least_power) l19 c19 k19
  have F20 := fun_mk (st := s__law_is_period_right) l20 c20 k20
  have F21 := fun_mk (st := s__law_are_periods_right) l21 c21 k21
  have F22 := fun_mk (st := s_law) l22 c22 k22
  let J : Facts K mg := {
    f_fall_trimmed := f0, fd_fall_trimmed := _, F_fall_trimmed := F0, g_fall_trimmed := PySem.W.mg_of X G a0, b_fall_trimmed := F0.binds fun _ _ _ _ _ _ us hl => match us, hl with | [_], _ => rfl,
    f_choices_row := f1, fd_choices_row := _, F_choices_row := F1, g_choices_row := PySem.W.mg_of X G a1, b_choices_row := F1.binds fun _ _ _ _ _ _ us hl => match us, hl with | [_, _], _ => rfl,
    f_choose_modulo := f2, fd_choose_modulo := _, F_choose_modulo := F2, g_choose_modulo := PySem.W.mg_of X G a2, b_choose_modulo := F2.binds fun _ _ _ _ _ _ us hl => match us, hl with | [_, _, _], _ => rfl,
    f_fall_period := f3, fd_fall_period := _, F_fall_period := F3, g_fall_period := PySem.W.mg_of X G a3, b_fall_period := F3.binds fun _ _ _ _ _ _ us hl => match us, hl with | [_, _], _ => rfl,
    f__law_own_bag := f4, fd__law_own_bag := _, F__law_own_bag := F4, g__law_own_bag := PySem.W.mg_of X G a4, b__law_own_bag := F4.binds fun _ _ _ _ _ _ us hl => match us, hl with | [_], _ => rfl,
    f__law_draw := f5, fd__law_draw := _, F__law_draw := F5, g__law_draw := PySem.W.mg_of X G a5, b__law_draw := F5.binds fun _ _ _ _ _ _ us hl => match us, hl with | [_, _], _ => rfl,
    f__law_pick := f6, fd__law_pick := _, F__law_pick := F6, g__law_pick := PySem.W.mg_of X G a6, b__law_pick := F6.binds fun _ _ _ _ _ _ us hl => match us, hl with | [_, _], _ => rfl,
    f__law_number := f7, fd__law_number := _, F__law_number := F7, g__law_number := PySem.W.mg_of X G a7, b__law_number := F7.binds fun _ _ _ _ _ _ us hl => match us, hl with | [_, _], _ => rfl,
    f__law_is_due := f8, fd__law_is_due := _, F__law_is_due := F8, g__law_is_due := PySem.W.mg_of X G a8, b__law_is_due := F8.binds fun _ _ _ _ _ _ us hl => match us, hl with | [_, _], _ => rfl,
    f__law_rows_of_sums := f9, fd__law_rows_of_sums := _, F__law_rows_of_sums := F9, g__law_rows_of_sums := PySem.W.mg_of X G a9, b__law_rows_of_sums := F9.binds fun _ _ _ _ _ _ us hl => match us, hl with | [], _ => rfl,
    f__law_over := f10, fd__law_over := _, F__law_over := F10, g__law_over := PySem.W.mg_of X G a10, b__law_over := F10.binds fun _ _ _ _ _ _ us hl => match us, hl with | [_, _], _ => rfl,
    f__law_by_digits := f11, fd__law_by_digits := _, F__law_by_digits := F11, g__law_by_digits := PySem.W.mg_of X G a11, b__law_by_digits := F11.binds fun _ _ _ _ _ _ us hl => match us, hl with | [_, _, _, _], _ => rfl,
    f__law_great := f12, fd__law_great := _, F__law_great := F12, g__law_great := PySem.W.mg_of X G a12, b__law_great := F12.binds fun _ _ _ _ _ _ us hl => match us, hl with | [_], _ => rfl,
    f__law_digits_below := f13, fd__law_digits_below := _, F__law_digits_below := F13, g__law_digits_below := PySem.W.mg_of X G a13, b__law_digits_below := F13.binds fun _ _ _ _ _ _ us hl => match us, hl with | [_, _, _], _ => rfl,
    f__law_power := f14, fd__law_power := _, F__law_power := F14, g__law_power := PySem.W.mg_of X G a14, b__law_power := F14.binds fun _ _ _ _ _ _ us hl => match us, hl with | [_, _], _ => rfl,
    f__law_pairs := f15, fd__law_pairs := _, F__law_pairs := F15, g__law_pairs := PySem.W.mg_of X G a15, b__law_pairs := F15.binds fun _ _ _ _ _ _ us hl => match us, hl with | [_, _], _ => rfl,
    f__law_is_choice_right := f16, fd__law_is_choice_right := _, F__law_is_choice_right := F16, g__law_is_choice_right := PySem.W.mg_of X G a16, b__law_is_choice_right := F16.binds fun _ _ _ _ _ _ us hl => match us, hl with | [_, _, _, _], _ => rfl,
    f__law_own_period := f17, fd__law_own_period := _, F__law_own_period := F17, g__law_own_period := PySem.W.mg_of X G a17, b__law_own_period := F17.binds fun _ _ _ _ _ _ us hl => match us, hl with | [_, _], _ => rfl,
    f__law_kept_fall := f18, fd__law_kept_fall := _, F__law_kept_fall := F18, g__law_kept_fall := PySem.W.mg_of X G a18, b__law_kept_fall := F18.binds fun _ _ _ _ _ _ us hl => match us, hl with | [_, _], _ => rfl,
    f__law_least_power := f19, fd__law_least_power := _, F__law_least_power := F19, g__law_least_power := PySem.W.mg_of X G a19, b__law_least_power := F19.binds fun _ _ _ _ _ _ us hl => match us, hl with | [_, _], _ => rfl,
    f__law_is_period_right := f20, fd__law_is_period_right := _, F__law_is_period_right := F20, g__law_is_period_right := PySem.W.mg_of X G a20, b__law_is_period_right := F20.binds fun _ _ _ _ _ _ us hl => match us, hl with | [_, _, _], _ => rfl,
    f__law_are_periods_right := f21, fd__law_are_periods_right := _, F__law_are_periods_right := F21, g__law_are_periods_right := PySem.W.mg_of X G a21, b__law_are_periods_right := F21.binds fun _ _ _ _ _ _ us hl => match us, hl with | [_, _, _], _ => rfl,
    f_law := _, fd_law := _, F_law := F22, g_law := PySem.W.mg_of X G a22, b_law := F22.binds fun _ _ _ _ _ _ us hl => match us, hl with | [_], _ => rfl,
    z_abs := PySem.W.mg_none_of X G z0, z_bool := PySem.W.mg_none_of X G z1, z_int := PySem.W.mg_none_of X G z2, z_isinstance := PySem.W.mg_none_of X G z3, z_len := PySem.W.mg_none_of X G z4, z_list := PySem.W.mg_none_of X G z5, z_min := PySem.W.mg_none_of X G z6, z_range := PySem.W.mg_none_of X G z7, z_repr := PySem.W.mg_none_of X G z8, z_reversed := PySem.W.mg_none_of X G z9, z_str := PySem.W.mg_none_of X G z10, z_tuple := PySem.W.mg_none_of X G z11 }
  exact ⟨PySem.W.fnOf "law" "law" (defArgs s_law) (defBody s_law) (defScope s_law) .none kV22 dc22 pm22 an22 cd22 ct22, fun s v => .of_eq rfl, fun base _ _ => ok_law J⟩
end G_k82

set_option Elab.async false
set_option linter.all false
set_option autoImplicit false
set_option maxRecDepth 100000
namespace G_k82
open PySem PySem.Spec L2 MI
def Bag (o : OD) : Prop := ∃ (cs : List Int) (a b : Int), o = .on [.ol (cs.map .int), .fz (.int a), .fz (.int b)] ∧ cs.length < 1000000 ∧ 0 ≤ a ∧ 0 ≤ b ∧ b < 2147483647
theorem draw_loop : ∀ (n : Nat) (cs : List Int) (a b below : Int) (x y : Option OD), cs.length < n → 0 ≤ a →
    ∃ cs' a' x', whileL t__law_draw_1 l__law_draw_1 n
      [some (.on [.ol (cs.map .int), .fz (.int a), .fz (.int b)]), some (.fz (.int below)), x, y] = .nx [some (.on [.ol (List.map PyData.int cs'), .fz (.int a'), .fz (.int b)]), some (.fz (.int below)), x', y] ∧ cs'.length ≤ cs.length ∧ 0 ≤ a'
  | 0, cs, a, b, below, x, y, h, _ => by omega
  | n + 1, cs, a, b, below, x, y, h, ha => by
    by_cases h0 : a = 0
    · by_cases h1 : cs = []
      · refine ⟨cs, a, x, ?_, Nat.le_refl _, ha⟩
        rw [whileL_succ]
        subst h1
        simp [t__law_draw_1, kEmptyN, plain_ints, shaped_ints, eqv_nil, h0, plainAll, show SeqAt.shaped (.list []) = true by decide, show PyData.eqv (.list []) (.list []) = true by decide]
      · have hl : 0 < cs.length := List.length_pos_iff.mpr h1
        obtain ⟨cs', a', x', e, h2, h3⟩ := draw_loop n cs.dropLast (if 1000000000000000000 < cs.getLast h1 then cs.getLast h1 else 0) b below (some (.fz (.int (cs.getLast h1)))) y (by simp; omega) (by split <;> omega)
        refine ⟨cs', a', x', ?_, by simp at h2; omega, h3⟩
        rw [← e, whileL_succ]
        simp [t__law_draw_1, l__law_draw_1, kEmptyN, plain_ints, shaped_ints, eqv_nil, h0, h1, map_last h1, ixN]
        split <;> simp [ixN, *]
    · refine ⟨cs, a, x, ?_, Nat.le_refl _, ha⟩
      rw [whileL_succ]
      simp [t__law_draw_1, h0]
theorem draw {o : OD} (hb : Bag o) {below : Int} (h1 : 0 < below) (h2 : below.natAbs.log2 < 9000) : ∃ r o', m__law_draw [o, .fz (.int below)] = .ok (.fz (.int r)) [some o', none] ∧ 0 ≤ r ∧ r < below ∧ Bag o' := by
  obtain ⟨cs, a, b, rfl, hl, ha, hb0, hb1⟩ := hb
  obtain ⟨cs', a', x', e, h3, h4⟩ := draw_loop fuel cs a b below none none (by unfold fuel; omega) ha
  unfold m__law_draw b__law_draw
  simp [e, ixN, h1, h2]
  by_cases h0 : 0 < a'
  · simp [h0]
    refine ⟨_, _, ⟨rfl, rfl⟩, Int.emod_nonneg _ (by omega), Int.emod_lt_of_pos _ h1, cs', a' / below, b, rfl, by omega, Int.ediv_nonneg h4 (by omega), hb0, hb1⟩
  · have l1 := mul_ok (x := b) (y := 48271) 64 64 (by omega) (by omega)
    have n1 := Int.emod_nonneg (b * 48271 + 11) (show (2147483647 : Int) ≠ 0 by omega)
    have n2 := Int.emod_lt_of_pos (b * 48271 + 11) (show (0 : Int) < 2147483647 by omega)
    have l2 := mul_ok (x := (b * 48271 + 11) % 2147483647) (y := (b * 48271 + 11) % 2147483647) 64 64 (by omega) (by omega)
    simp [h0, l1, ixN, l2, h1, show (7 : Nat).log2 < 9000 by decide]
    refine ⟨_, _, ⟨rfl, rfl⟩, Int.emod_nonneg _ (by omega), Int.emod_lt_of_pos _ h1, cs', a', _, rfl, by omega, h4, n1, n2⟩
/-- a draw below a small number -/
theorem drawS {o : OD} (hb : Bag o) {below : Int} (h1 : 0 < below) (h2 : below < 2 ^ 200) : ∃ r o', m__law_draw [o, .fz (.int below)] = .ok (.fz (.int r)) [some o', none] ∧ 0 ≤ r ∧ r < below ∧ Bag o' :=
  draw hb h1 (by have := log_lt (k := 200) (n := below) (by omega) (by omega); omega)
theorem own_bag (ns : List Int) (h : ns.length ≤ 63) : ∃ o, m__law_own_bag [.fz (lockD (ns.map PyData.int))] = .ok o [none] ∧ Bag o := by
  obtain ⟨a, b, e⟩ := cut_map PyData.int ns none (some 63)
  have hl : ((ns.drop a).take b).length ≤ 63 := by simp; omega
  have hsz : ((ns.drop a).take b).length ≤ sizeLine := by unfold sizeLine; omega
  generalize (ns.drop a).take b = cs at e hl hsz
  unfold m__law_own_bag b__law_own_bag
  simp [e]
  rw [lcL_map (s := [some (.fz (lockD (ns.map PyData.int))), none, none, none]) (fun c : Int => PyData.int (if c < 0 then -c else c)) PyData.int cs [] (fun c hc => ⟨_, _, rfl, rfl, rfl⟩) (by simpa using hsz)]
  simp
  obtain ⟨s', e', h'⟩ := forL_inv (g := gN 2) (h := l__law_own_bag_1)
    (fun _ s => ∃ x m, s = [some (.fz (lockD (ns.map PyData.int))), some (.fz (.list (cs.map fun c : Int => PyData.int (if c < 0 then -c else c)))), x, some (.fz (.int m))] ∧ 0 ≤ m ∧ m < 2147483647)
    (cs.map fun c : Int => PyData.int (if c < 0 then -c else c)) 0 [some (.fz (lockD (ns.map PyData.int))), some (.fz (.list (cs.map fun c : Int => PyData.int (if c < 0 then -c else c)))), none, some (.fz (.int (8221 + cs.length)))] ⟨_, _, rfl, by omega, by omega⟩ (by
      rintro i d s hd ⟨x, m, rfl, h0, h1⟩
      rw [List.getElem?_map, Option.map_eq_some_iff] at hd
      obtain ⟨c, _, rfl⟩ := hd
      have l1 := mul_ok (x := m) (y := 48271) 64 64 (by omega) (by omega)
      refine ⟨_, [some (.fz (lockD (ns.map PyData.int))), some (.fz (.list (cs.map fun c : Int => PyData.int (if c < 0 then -c else c)))), some (.fz (.int (if c < 0 then -c else c))), some (.fz (.int ((m * 48271 + (if c < 0 then -c else c) % 2147483629 + 7) % 2147483647)))], rfl, .inl ?_, _, _, rfl, Int.emod_nonneg _ (by decide), Int.emod_lt_of_pos _ (by decide)⟩
      simp [l__law_own_bag_1, l1])
  rw [e']
  obtain ⟨x, m, rfl, h0, h1⟩ := h'
  simp
  refine ⟨(cs.map fun c : Int => if c < 0 then -c else c).reverse, 0, m, ?_, ?_, by omega, h0, h1⟩
  · simp [Function.comp_def]
  · simp; omega
/-- a pick from written items -/
theorem pick {o : OD} (hb : Bag o) {ds : List D} (h1 : ds ≠ []) (h2 : ds.length < 1000000) : ∃ d o', m__law_pick [o, .fz (.list ds)] = .ok (.fz d) [some o', none] ∧ d ∈ ds ∧ Bag o' := by
  have hl := List.length_pos_iff.mpr h1
  obtain ⟨r, o', e, h3, h4, h5⟩ := drawS hb (below := (ds.length : Int)) (by omega) (by omega)
  have hr : r.toNat < ds.length := by omega
  refine ⟨ds[r.toNat], o', ?_, List.getElem_mem hr, h5⟩
  unfold m__law_pick b__law_pick
  have ei : atI ds r = some ds[r.toNat] := by
    have := atI_natD (List.getElem?_eq_getElem hr)
    rwa [Int.toNat_of_nonneg h3] at this
  simp [e, ei]
theorem number_loop {o : OD} (hb : Bag o) (most way : Int) (k : Nat) (hk : k ≤ 6) : ∃ f o' x', forL (gN 4) l__law_number_1 (upto 0 k) [some o, some (.fz (.int most)), some (.fz (.int way)), some (.fz (.int 0)), none] = .nx [some o', some (.fz (.int most)), some (.fz (.int way)), some (.fz (.int f)), x'] ∧ Bag o' ∧ 0 ≤ f := by
  obtain ⟨s', e', h'⟩ := forL_inv (g := gN 4) (h := l__law_number_1)
    (fun i s => ∃ o f x, s = [some o, some (.fz (.int most)), some (.fz (.int way)), some (.fz (.int f)), x] ∧ Bag o ∧ 0 ≤ f ∧ f < 1000000 ^ i)
    (upto 0 k) 0 [some o, some (.fz (.int most)), some (.fz (.int way)), some (.fz (.int 0)), none] ⟨o, 0, none, rfl, hb, by omega, by simp⟩ (by
      rintro i d s hd ⟨o, f, x, rfl, hb, h0, h1⟩
      obtain ⟨hi, rfl⟩ := upto_get hd
      obtain ⟨r, o', e, h3, h4, h5⟩ := drawS hb (below := 1000000) (by omega) (by omega)
      have l1 : mulD (.int f) (.int 1000000) = some (.fz (.int (f * 1000000))) := by
        have h2 : (1000000 : Int) ^ (0 + i) ≤ 1000000 ^ 6 := by
          have := Int.ofNat_le.mpr (Nat.pow_le_pow_right (n := 1000000) (i := 0 + i) (j := 6) (by omega) (by omega))
          rw [Int.natCast_pow, Int.natCast_pow] at this
          exact this
        have h3 : (1000000 : Int) ^ 6 < 2 ^ 200 := by decide
        exact mul_ok 200 64 (by omega) (by omega)
      refine ⟨_, [some o', some (.fz (.int most)), some (.fz (.int way)), some (.fz (.int (f * 1000000 + r))), some (.fz (.int (i : Int)))], rfl, .inl ?_, o', f * 1000000 + r, _, rfl, h5, by omega, ?_⟩
      · simp [l__law_number_1, l1, e]
      · rw [Int.pow_succ]
        omega)
  obtain ⟨o', f, x, rfl, hb', h0, h1⟩ := h'
  exact ⟨f, o', x, e', hb', h0⟩
theorem number {o : OD} (hb : Bag o) {most : Int} (h0 : 0 ≤ most) : ∃ r o', m__law_number [o, .fz (.int most)] = .ok (.fz (.int r)) [some o', none] ∧ r.natAbs ≤ most.natAbs + 9 ∧ Bag o' := by
  obtain ⟨w, o1, e1, w0, w1, b1⟩ := drawS hb (below := 8) (by omega) (by omega)
  obtain ⟨f, o2, e2, f0, f1, b2⟩ := drawS b1 (below := 10) (by omega) (by omega)
  have step2 : ∀ (o : OD) (f : Int) (x : Option OD), Bag o → f.natAbs ≤ most.natAbs + 9 → ∃ r o', Out.fin [true, false] ((sSeq (sIf (kCmp gtI (eVar 2) (eC (.int 6))) (sAsg (eFrz (oOp2 subD (eVar 1) (eFrz (oCall [some 0, none] (aRef 0 (aCons (eC (.int 3)) aNil)) (noexF m__law_draw))))) (gN 3)) sNx)
      (sRet (oIf (kCmp eqD (eFrz (oCall [some 0, none] (aRef 0 (aCons (eC (.int 2)) aNil)) (noexF m__law_draw))) (eC (.int 0))) (oVar 3) (oOp1 negD (eVar 3))))) [some o, some (.fz (.int most)), some (.fz (.int w)), some (.fz (.int f)), x]) = .ok (.fz (.int r)) [some o', none] ∧ r.natAbs ≤ most.natAbs + 9 ∧ Bag o' := by
    intro o f x hb hf
    have step3 : ∀ (o : OD) (f : Int), Bag o → f.natAbs ≤ most.natAbs + 9 → ∃ r o', Out.fin [true, false] ((sRet (oIf (kCmp eqD (eFrz (oCall [some 0, none] (aRef 0 (aCons (eC (.int 2)) aNil)) (noexF m__law_draw))) (eC (.int 0))) (oVar 3) (oOp1 negD (eVar 3)))) [some o, some (.fz (.int most)), some (.fz (.int w)), some (.fz (.int f)), x]) = .ok (.fz (.int r)) [some o', none] ∧ r.natAbs ≤ most.natAbs + 9 ∧ Bag o' := by
      intro o f hb hf
      obtain ⟨z, o4, e4, z0, z1, b4⟩ := drawS hb (below := 2) (by omega) (by omega)
      by_cases hz : z = 0
      · exact ⟨f, o4, by simp [e4, hz], hf, b4⟩
      · exact ⟨-f, o4, by simp [e4, hz], by omega, b4⟩
    by_cases h6 : 6 < w
    · obtain ⟨z, o3, e3, z0, z1, b3⟩ := drawS hb (below := 3) (by omega) (by omega)
      obtain ⟨r, o', e, h1, h2⟩ := step3 o3 (most - z) b3 (by omega)
      refine ⟨r, o', ?_, h1, h2⟩
      rw [← e]
      simp [h6, e3]
    · obtain ⟨r, o', e, h1, h2⟩ := step3 o f hb hf
      refine ⟨r, o', ?_, h1, h2⟩
      rw [← e]
      simp [h6]
  unfold m__law_number b__law_number
  by_cases h2 : 2 < w
  · obtain ⟨z, o3, e3, z0, z1, b3⟩ := drawS b2 (below := 6) (by omega) (by omega)
    obtain ⟨g, o4, x', e4, b4, g0⟩ := number_loop b3 most w (1 + z).toNat (by omega)
    have hg0 := Int.emod_nonneg g (show most + 1 ≠ 0 by omega)
    have hg1 := Int.emod_lt_of_pos g (show 0 < most + 1 by omega)
    obtain ⟨r, o', e, q1, q2⟩ := step2 o4 (g % (most + 1)) x' b4 (by omega)
    refine ⟨r, o', ?_, q1, q2⟩
    rw [← e]
    simp [e1, e2, h2, e3, show (-4611686018427387904 ≤ 1 + z ∧ 1 + z < 4611686018427387904) by omega, e4, show 0 < most + 1 by omega]
  · obtain ⟨r, o', e, q1, q2⟩ := step2 o2 f none b2 (by omega)
    refine ⟨r, o', ?_, q1, q2⟩
    rw [← e]
    simp [e1, e2, h2]
theorem is_due {r : Int} (h : ReprOk (.int r)) : m__law_is_due [.fz (.int r), .fz (.int r)] = .ok (.fz (.bool true)) [none, none] := by
  unfold m__law_is_due b__law_is_due
  simp [reprD_some h]
end G_k82

set_option Elab.async false
set_option linter.all false
set_option autoImplicit false
set_option maxRecDepth 100000
/-! plain: binomials modulo small primes -/
namespace Bin
def ch : Nat → Nat → Nat
  | _, 0 => 1
  | 0, _ + 1 => 0
  | n + 1, k + 1 => ch n k + ch n (k + 1)
@[simp] theorem ch_zero (n : Nat) : ch n 0 = 1 := by cases n <;> rfl
@[simp] theorem ch_0s (k : Nat) : ch 0 (k + 1) = 0 := rfl
theorem ch_ss (n k : Nat) : ch (n + 1) (k + 1) = ch n k + ch n (k + 1) := rfl
theorem ch_big : ∀ {n k : Nat}, n < k → ch n k = 0
  | 0, k + 1, _ => rfl
  | n + 1, k + 1, h => by rw [ch_ss, ch_big (by omega), ch_big (by omega)]
theorem ch_pos : ∀ {n k : Nat}, k ≤ n → 0 < ch n k
  | n, 0, _ => by simp
  | n + 1, k + 1, h => by rw [ch_ss]; have := ch_pos (n := n) (k := k) (by omega); omega
/-- the step along a row -/
theorem ch_step : ∀ n k : Nat, ch n (k + 1) * (k + 1) = ch n k * (n - k)
  | 0, k => by simp
  | n + 1, 0 => by
    have h := ch_step n 0
    rw [ch_ss]
    simp at h ⊢
    omega
  | n + 1, k + 1 => by
    have h1 := ch_step n k
    have h2 := ch_step n (k + 1)
    rw [ch_ss, ch_ss n k, Nat.add_mul, h2, Nat.add_sub_add_right]
    have h3 : ch n (k + 1) * (k + 1 + 1) = ch n k * (n - k) + ch n (k + 1) := by rw [Nat.mul_succ, h1]
    rw [h3, Nat.add_mul]
    rcases Nat.lt_or_ge k n with h | h
    · have : n - k = (n - (k + 1)) + 1 := by omega
      rw [this, Nat.mul_succ (ch n (k + 1))]
      omega
    · rw [ch_big (k := k + 1) (by omega)]
      simp
theorem ch_div (n k : Nat) : ch n k * (n - k) / (k + 1) = ch n (k + 1) := by
  rw [← ch_step, Nat.mul_div_cancel _ (by omega)]
/-- p is one of the four -/
def P4 (p : Nat) : Prop := p = 2 ∨ p = 3 ∨ p = 5 ∨ p = 7
/-- (1 + t)^p = 1 + t^p mod p -/
theorem ch_p {p : Nat} (hp : P4 p) (x i : Nat) : ch (x + p) (i + p) % p = (ch x (i + p) + ch x i) % p := by
  rcases hp with rfl | rfl | rfl | rfl
  · simp only [ch_ss, show x + 2 = x + 1 + 1 from rfl, show i + 2 = i + 1 + 1 from rfl]; simp only [Nat.add_assoc, Nat.reduceAdd]; omega
  · simp only [ch_ss, show x + 3 = x + 1 + 1 + 1 from rfl, show i + 3 = i + 1 + 1 + 1 from rfl]; simp only [Nat.add_assoc, Nat.reduceAdd]; omega
  · simp only [ch_ss, show x + 5 = x + 1 + 1 + 1 + 1 + 1 from rfl, show i + 5 = i + 1 + 1 + 1 + 1 + 1 from rfl]; simp only [Nat.add_assoc, Nat.reduceAdd]; omega
  · simp only [ch_ss, show x + 7 = x + 1 + 1 + 1 + 1 + 1 + 1 + 1 from rfl, show i + 7 = i + 1 + 1 + 1 + 1 + 1 + 1 + 1 from rfl]; simp only [Nat.add_assoc, Nat.reduceAdd]; omega
theorem ch_p0 {p : Nat} (hp : P4 p) (x i : Nat) (hi : i < p) : ch (x + p) i % p = ch x i % p := by
  rcases hp with rfl | rfl | rfl | rfl
  · obtain rfl | rfl : i = 0 ∨ i = 1 := by omega
    · simp
    · simp only [ch, show x + 2 = x + 1 + 1 from rfl, ch_zero]; simp only [Nat.zero_add, Nat.reduceAdd]; omega
  · obtain rfl | rfl | rfl : i = 0 ∨ i = 1 ∨ i = 2 := by omega
    · simp
    all_goals simp only [ch, show x + 3 = x + 1 + 1 + 1 from rfl, ch_zero]; simp only [Nat.zero_add, Nat.reduceAdd]; omega
  · obtain rfl | rfl | rfl | rfl | rfl : i = 0 ∨ i = 1 ∨ i = 2 ∨ i = 3 ∨ i = 4 := by omega
    · simp
    all_goals simp only [ch, show x + 5 = x + 1 + 1 + 1 + 1 + 1 from rfl, ch_zero]; simp only [Nat.zero_add, Nat.reduceAdd]; omega
  · obtain rfl | rfl | rfl | rfl | rfl | rfl | rfl : i = 0 ∨ i = 1 ∨ i = 2 ∨ i = 3 ∨ i = 4 ∨ i = 5 ∨ i = 6 := by omega
    · simp
    all_goals simp only [ch, show x + 7 = x + 1 + 1 + 1 + 1 + 1 + 1 + 1 from rfl, ch_zero]; simp only [Nat.zero_add, Nat.reduceAdd]; omega
theorem P4.pos {p : Nat} (hp : P4 p) : 2 ≤ p ∧ p ≤ 7 := by rcases hp with rfl | rfl | rfl | rfl <;> omega
/-- Lucas -/
theorem lucas {p : Nat} (hp : P4 p) {b d : Nat} (hb : b < p) (hd : d < p) : ∀ a c : Nat, ch (p * a + b) (p * c + d) % p = ch a c * ch b d % p
  | 0, 0 => by simp
  | 0, c + 1 => by
    rw [Nat.mul_zero, Nat.zero_add, ch_big (k := p * (c + 1) + d) (by rw [Nat.mul_succ]; omega)]
    simp
  | a + 1, 0 => by
    rw [show p * (a + 1) + b = (p * a + b) + p by rw [Nat.mul_succ]; omega, Nat.mul_zero, Nat.zero_add, ch_p0 hp _ _ hd]
    have := lucas hp hb hd a 0
    simpa using this
  | a + 1, c + 1 => by
    rw [show p * (a + 1) + b = (p * a + b) + p by rw [Nat.mul_succ]; omega, show p * (c + 1) + d = (p * c + d) + p by rw [Nat.mul_succ]; omega, ch_p hp]
    have h1 := lucas hp hb hd a c
    have h2 := lucas hp hb hd a (c + 1)
    rw [show p * c + d + p = p * (c + 1) + d by rw [Nat.mul_succ]; omega, Nat.add_mod, h1, h2, ← Nat.add_mod, ch_ss, Nat.add_mul, Nat.add_comm]
/-- digit by digit -/
def dig (p : Nat) : Nat → Nat → Nat → Nat
  | 0, _, _ => 1
  | n + 1, x, i => ch (x % p) (i % p) * dig p n (x / p) (i / p)
theorem dig_ch {p : Nat} (hp : P4 p) : ∀ (n x i : Nat), x < p ^ n → i < p ^ n → dig p n x i % p = ch x i % p
  | 0, x, i, hx, hi => by
    simp at hx hi
    subst hx; subst hi
    rfl
  | n + 1, x, i, hx, hi => by
    have h0 := hp.pos
    rw [Nat.pow_succ, Nat.mul_comm] at hx hi
    have ih := dig_ch hp n (x / p) (i / p) (Nat.div_lt_of_lt_mul hx) (Nat.div_lt_of_lt_mul hi)
    have hl := lucas hp (Nat.mod_lt x (by omega)) (Nat.mod_lt i (by omega)) (x / p) (i / p)
    rw [Nat.div_add_mod, Nat.div_add_mod] at hl
    rw [dig, Nat.mul_mod, ih, ← Nat.mul_mod, Nat.mul_comm, hl]
theorem dig_i0 {p : Nat} : ∀ (n x : Nat), dig p n x 0 = 1
  | 0, _ => rfl
  | n + 1, x => by rw [dig, Nat.zero_mod, Nat.zero_div, ch_zero, dig_i0 n]
theorem dig_add {p : Nat} : ∀ (m n x i : Nat), dig p (m + n) x i = dig p m x i * dig p n (x / p ^ m) (i / p ^ m)
  | 0, n, x, i => by simp [dig]
  | m + 1, n, x, i => by
    rw [show m + 1 + n = (m + n) + 1 by omega, dig, dig_add m n, dig, Nat.mul_assoc, Nat.div_div_eq_div_mul, Nat.div_div_eq_div_mul, Nat.pow_succ, Nat.mul_comm (p ^ m) p]
theorem ch_le : ∀ n k : Nat, ch n k ≤ 2 ^ n
  | _, 0 => by simpa using Nat.one_le_two_pow
  | 0, _ + 1 => by simp
  | n + 1, k + 1 => by
    rw [ch_ss, Nat.pow_succ]
    have h1 := ch_le n k
    have h2 := ch_le n (k + 1)
    omega
end Bin

set_option Elab.async false
set_option linter.all false
set_option autoImplicit false
set_option maxRecDepth 100000
set_option exponentiation.threshold 10000
namespace G_k82
open PySem PySem.Spec L2 MI Bin
theorem step_int (d i : Nat) : (ch d i : Int) * ((d : Int) - (i : Int)) / ((i : Int) + 1) = (ch d (i + 1) : Int) := by
  rcases Nat.lt_or_ge d i with h | h
  · rw [ch_big h, ch_big (by omega)]
    simp
  · have e : (d : Int) - (i : Int) = ((d - i : Nat) : Int) := by omega
    rw [e, show ((i : Int) + 1) = ((i + 1 : Nat) : Int) by omega, ← Int.natCast_mul, ← Int.natCast_ediv, ch_div]
theorem ch_pow (n : Nat) : ∀ k : Nat, ch n k ≤ n ^ k
  | 0 => by simp
  | k + 1 => by
    have h := ch_step n k
    have h1 : ch n (k + 1) ≤ ch n (k + 1) * (k + 1) := Nat.le_mul_of_pos_right _ (by omega)
    rw [h] at h1
    refine Nat.le_trans h1 ?_
    rw [Nat.pow_succ]
    exact Nat.mul_le_mul (ch_pow n k) (by omega)
def rowD (n x : Nat) : List D := (List.range n).map fun i => .int (ch x i : Int)
theorem rowD_get {n x i : Nat} (h : i < n) : (rowD n x)[i]? = some (.int (ch x i : Int)) := by
  unfold rowD
  rw [List.getElem?_map, List.getElem?_range h]
  rfl
theorem rowD_length {n x : Nat} : (rowD n x).length = n := by simp [rowD]
theorem rowD_succ {n x : Nat} : rowD n x ++ [.int (ch x n : Int)] = rowD (n + 1) x := by
  unfold rowD
  rw [List.range_succ, List.map_append]
  rfl
theorem choices_row {d m : Nat} (hd : d ≤ 10) (hm : m ≤ 10) : m_choices_row [.fz (.int d), .fz (.int ((m : Int) + 1))] = .ok (.ol (rowD (m + 1) d)) [none, none] := by
  obtain ⟨s', e', h'⟩ := forL_inv (g := gN 3) (h := l_choices_row_1)
    (fun i s => ∃ x, s = [some (.fz (.int d)), some (.fz (.int ((m : Int) + 1))), some (.ol (rowD (i + 1) d)), x])
    (upto 0 m) 0 [some (.fz (.int d)), some (.fz (.int ((m : Int) + 1))), some (.ol [.int 1]), none] ⟨none, by simp [rowD]⟩ (by
      rintro i q s hq ⟨x, rfl⟩
      obtain ⟨hi, rfl⟩ := upto_get hq
      have hc : (ch d i) < 2 ^ 20 := Nat.lt_of_le_of_lt (ch_le d i) (Nat.pow_lt_pow_right (by omega) (by omega))
      have l1 := mul_ok (x := (ch d i : Int)) (y := (d : Int) - (i : Int)) 20 20 (by rw [Int.natAbs_natCast]; exact hc) (by omega)
      have hg : atI (rowD (i + 1) d) (i : Int) = some (.int (ch d i : Int)) := atI_natD (rowD_get (by omega))
      have l2 := fdiv_ok (x := (ch d i : Int) * ((d : Int) - (i : Int))) (y := (i : Int) + 1) 20 (by omega) (by omega)
      refine ⟨_, [some (.fz (.int d)), some (.fz (.int ((m : Int) + 1))), some (.ol (rowD (i + 1 + 1) d)), some (.fz (.int (i : Int)))], rfl, .inl ?_, _, by rw [Nat.zero_add]⟩
      rw [Nat.zero_add]
      simp [-fdivD_int, l_choices_row_1, hg, l1, l2, step_int, rowD_length, size_lt (show i + 1 ≤ 1000000 by omega), rowD_succ])
  obtain ⟨x, rfl⟩ := h'
  rw [upto_length] at e'
  unfold m_choices_row b_choices_row
  simp [-k_Rg1, show (1 : Nat) ≤ sizeLine by decide, rg_nat m rfl (by omega), e']
theorem over {x i : Nat} (hx : x < 2 ^ 200) (hi : i ≤ 20) : m__law_over [.fz (.int x), .fz (.int i)] = .ok (.fz (.int (ch x i : Int))) [none, none] := by
  obtain ⟨s', e', h'⟩ := forL_inv (g := gN 3) (h := l__law_over_1)
    (fun k s => ∃ y, s = [some (.fz (.int x)), some (.fz (.int i)), some (.fz (.int (ch x k : Int))), y])
    (upto 0 i) 0 [some (.fz (.int x)), some (.fz (.int i)), some (.fz (.int 1)), none] ⟨none, by simp⟩ (by
      rintro k q s hq ⟨y, rfl⟩
      obtain ⟨hk, rfl⟩ := upto_get hq
      have hc : (ch x k) < 2 ^ 4000 := by
        have h1 := ch_pow x k
        have h2 : x ^ k ≤ (2 ^ 200) ^ k := Nat.pow_le_pow_left (Nat.le_of_lt hx) k
        rw [← Nat.pow_mul] at h2
        have h3 : 2 ^ (200 * k) < 2 ^ 4000 := Nat.pow_lt_pow_right (by omega) (by omega)
        exact Nat.lt_of_le_of_lt (Nat.le_trans h1 h2) h3
      have hx2 : ((x : Int) - (k : Int)).natAbs < 2 ^ 201 := by
        have : (2 : Nat) ^ 201 = 2 ^ 200 * 2 := Nat.pow_succ ..
        have : (20 : Nat) < 2 ^ 200 := Nat.lt_of_lt_of_le (show 20 < 2 ^ 5 by decide) (Nat.pow_le_pow_right (by decide) (by decide))
        omega
      have l1 := mul_ok (x := (ch x k : Int)) (y := (x : Int) - (k : Int)) 4000 201 (by rw [Int.natAbs_natCast]; exact hc) hx2
      have l2 := fdiv_ok (x := (ch x k : Int) * ((x : Int) - (k : Int))) (y := (k : Int) + 1) 20 (by omega) (by omega)
      refine ⟨_, [some (.fz (.int x)), some (.fz (.int i)), some (.fz (.int (ch x (k + 1) : Int))), some (.fz (.int (k : Int)))], rfl, .inl ?_, _, by rw [Nat.zero_add]⟩
      rw [Nat.zero_add]
      simp [-fdivD_int, l__law_over_1, l1, l2, step_int])
  obtain ⟨y, rfl⟩ := h'
  rw [upto_length, Nat.zero_add] at e'
  unfold m__law_over b__law_over
  simp [-k_Rg1, rg_nat i rfl (by omega), e']
def rowsD (n : Nat) : List D := (List.range n).map fun x => .list (rowD 41 x)
theorem rowsD_get {n x : Nat} (h : x < n) : (rowsD n)[x]? = some (.list (rowD 41 x)) := by
  unfold rowsD
  rw [List.getElem?_map, List.getElem?_range h]
  rfl
theorem rowsD_length {n : Nat} : (rowsD n).length = n := by simp [rowsD]
theorem rowsD_succ {n : Nat} : rowsD n ++ [.list (rowD 41 n)] = rowsD (n + 1) := by
  unfold rowsD
  rw [List.range_succ, List.map_append]
  rfl
theorem rowD_next (x n : Nat) : PyData.int 1 :: (List.range n).map (fun i : Nat => PyData.int ((ch x i : Int) + (ch x (i + 1) : Int))) = rowD (n + 1) (x + 1) := by
  unfold rowD
  rw [List.range_succ_eq_map]
  simp [ch_ss]
def z40 : List D := List.replicate 40 (.int 0)
theorem z40_length : z40.length = 40 := rfl
theorem mz : mulD (.list [.int 0]) (.int 40) = some (.ol z40) := rfl
theorem r1 : rowsD 1 = [.list (.int 1 :: z40)] := rfl
theorem rows_of_sums : m__law_rows_of_sums [] = .ok (.ol (rowsD 41)) [] := by
  obtain ⟨s', e', h'⟩ := forL_inv (g := gN 1) (h := l__law_rows_of_sums_1)
    (fun k s => ∃ a b, s = [some (.ol (rowsD (k + 1))), a, b, none])
    (upto 0 40) 0 [some (.ol (rowsD 1)), none, none, none] ⟨none, none, rfl⟩ (by
      rintro k q s hq ⟨a, b, rfl⟩
      obtain ⟨hk, rfl⟩ := upto_get hq
      rw [Nat.zero_add]
      have hg : atI (rowsD (k + 1)) (-1) = some (.list (rowD 41 k)) := by
        unfold atI ixN
        rw [if_neg (by omega), rowsD_length, if_pos (by omega)]
        simp
        rw [show (-1 + ((k : Int) + 1)).toNat = k by omega]
        exact rowsD_get (by omega)
      have hl := lcL_map (ow := [false, false, false, true]) (g := gN 3) (e := eFrz (oOp2 addD (eAt 2 (eVar 3)) (eAt 2 (eFrz (oOp2 addD (eVar 3) (eC (.int 1)))))))
        (s := [some (.ol (rowsD (k + 1))), some (.fz (.int (k : Int))), some (.fz (.list (rowD 41 k))), none]) (fun i : Nat => PyData.int ((ch k i : Int) + (ch k (i + 1) : Int))) (fun i : Nat => PyData.int (i : Int)) (List.range 40) [] (fun i hi => by
          rw [List.mem_range] at hi
          have h1 : atI (rowD 41 k) (i : Int) = some (.int (ch k i : Int)) := atI_natD (rowD_get (by omega))
          have h2 : atI (rowD 41 k) ((i : Int) + 1) = some (.int (ch k (i + 1) : Int)) := by
            have := atI_natD (rowD_get (n := 41) (x := k) (i := i + 1) (by omega))
            simpa using this
          refine ⟨_, [some (.ol (rowsD (k + 1))), some (.fz (.int (k : Int))), some (.fz (.list (rowD 41 k))), some (.fz (.int (i : Int)))], rfl, ?_, rfl⟩
          simp [h1, h2]) (by simp [sizeLine])
      refine ⟨_, [some (.ol (rowsD (k + 1 + 1))), some (.fz (.int (k : Int))), some (.fz (.list (rowD 41 k))), none], rfl, .inl ?_, _, _, rfl⟩
      simp only [← upto_map] at hl
      simp [l__law_rows_of_sums_1, hg, hl, show (1 : Nat) ≤ sizeLine by decide, rowD_next, show (1 : Nat) + 40 ≤ sizeLine by decide, show (40 : Nat) + 1 ≤ sizeLine by decide, rowsD_length, size_lt (show k + 1 ≤ 1000000 by omega), rowsD_succ])
  obtain ⟨a, b, rfl⟩ := h'
  rw [upto_length, Nat.zero_add] at e'
  rw [r1] at e'
  unfold m__law_rows_of_sums b__law_rows_of_sums
  simp [-mulD_list, mz, z40_length, show (1 : Nat) ≤ sizeLine by decide, show (1 : Nat) + 40 ≤ sizeLine by decide, e']
end G_k82

set_option Elab.async false
set_option linter.all false
set_option autoImplicit false
set_option maxRecDepth 100000
set_option exponentiation.threshold 10000
namespace G_k82
open PySem PySem.Spec L2 MI Bin
def RD : D := .list (rowsD 41)
theorem row_at {x : Nat} (h : x < 41) : ixD RD (.int x) = some (.fz (.list (rowD 41 x))) := by
  unfold RD
  rw [ixD_lst, atI_natD (rowsD_get h)]
  rfl
theorem cell_at {n x i : Nat} (h : i < n) : ixD (.list (rowD n x)) (.int i) = some (.fz (.int (ch x i : Int))) := by
  rw [ixD_lst, atI_natD (rowD_get h)]
  rfl
theorem ch_small {x i : Nat} (h : x < 7) : ch x i < 2 ^ 6 := by
  have := ch_le x i
  have h2 : 2 ^ x ≤ 2 ^ 6 := Nat.pow_le_pow_right (by omega) (by omega)
  rcases Nat.lt_or_ge x 6 with h3 | h3
  · have h2 : 2 ^ x ≤ 2 ^ 5 := Nat.pow_le_pow_right (by omega) (by omega)
    omega
  · have : x = 6 := by omega
    subst this
    by_cases h4 : i ≤ 6
    · have : i = 0 ∨ i = 1 ∨ i = 2 ∨ i = 3 ∨ i = 4 ∨ i = 5 ∨ i = 6 := by omega
      rcases this with rfl | rfl | rfl | rfl | rfl | rfl | rfl <;> decide
    · rw [ch_big (by omega)]; decide
theorem pos_of {p : Nat} (hp : P4 p) : (0 : Int) < (p : Int) := by have := hp.pos; omega
theorem fdivP {p : Nat} (hp : P4 p) (x : Int) : fdivD (.int x) (.int p) = some (.fz (.int (x / p))) := by
  have := hp.pos
  exact fdiv_ok 20 (by omega) (by omega)
theorem modP {p : Nat} (hp : P4 p) (x : Int) : modD (.int x) (.int p) = some (.fz (.int (x % p))) := by
  rw [modD_int, if_pos (pos_of hp)]
theorem by_digits_loop {p : Nat} (hp : P4 p) : ∀ (ds : List D) (x i f : Nat) (X I F : Int) (t : Option OD), X = x → I = i → F = f → f < 2 ^ (6 * (111 - ds.length)) → ds.length ≤ 110 →
    ∃ x' i' f' t', forL (gN 5) l__law_by_digits_1 ds [some (.fz (.int p)), some (.fz (.int X)), some (.fz (.int I)), some (.fz RD), some (.fz (.int F)), t] =
      .nx [some (.fz (.int p)), x', i', some (.fz RD), some (.fz (.int (f' : Nat))), t'] ∧ f' % p = f * dig p ds.length x i % p
  | [], x, i, f, _, _, _, t, rfl, rfl, rfl, _, _ => ⟨_, _, f, _, rfl, by simp [dig]⟩
  | d :: ds, x, i, f, _, _, _, t, rfl, rfl, rfl, hf, hl => by
    have h7 := hp.pos
    by_cases h0 : i = 0
    · refine ⟨some (.fz (.int x)), some (.fz (.int i)), f, some (.fz d), ?_, by rw [h0, dig_i0, Nat.mul_one]⟩
      rw [forL_cons]
      simp [l__law_by_digits_1, h0]
    · by_cases h1 : f = 0
      · refine ⟨some (.fz (.int x)), some (.fz (.int i)), f, some (.fz d), ?_, by rw [h1, Nat.zero_mul]⟩
        rw [forL_cons]
        simp [l__law_by_digits_1, h0, h1]
      · simp only [List.length_cons] at hl hf
        have hx := Nat.mod_lt x (show 0 < p by omega)
        have hi := Nat.mod_lt i (show 0 < p by omega)
        have hc := ch_small (x := x % p) (i := i % p) (by omega)
        have hf1 : f * ch (x % p) (i % p) < 2 ^ (6 * (111 - ds.length)) := by
          rw [show 6 * (111 - ds.length) = 6 * (111 - (ds.length + 1)) + 6 by omega, Nat.pow_add]
          exact Nat.mul_lt_mul_of_lt_of_le hf (Nat.le_of_lt hc) (by decide)
        obtain ⟨x', i', f', t', e, h⟩ := by_digits_loop hp ds (x / p) (i / p) (f * ch (x % p) (i % p)) (x / p : Int) (i / p : Int) (f * (ch (x % p) (i % p) : Int)) (some (.fz d)) (by simp) (by simp) (by simp) hf1 (by omega)
        refine ⟨x', i', f', t', ?_, by rw [h, List.length_cons, dig, Nat.mul_assoc]⟩
        have l1 := mul_ok (x := (f : Int)) (y := (ch (x % p) (i % p) : Int)) 1000 6 (by
          rw [Int.natAbs_natCast]
          exact Nat.lt_of_lt_of_le hf (Nat.pow_le_pow_right (by decide) (by omega))) (by rw [Int.natAbs_natCast]; exact hc)
        have r1 := row_at (show x % p < 41 by omega)
        have r2 := cell_at (x := x % p) (show i % p < 41 by omega)
        rw [Int.natCast_emod] at r1 r2
        rw [forL_cons]
        simp [-modD_int, -fdivD_int, -ixD_lst, l__law_by_digits_1, h0, h1, modP hp, fdivP hp, r1, r2, l1]
        exact e
theorem by_digits {p x i : Nat} (hp : P4 p) : m__law_by_digits [.fz (.int p), .fz (.int x), .fz (.int i), .fz RD] = .ok (.fz (.int ((dig p 110 x i % p : Nat) : Int))) [none, none, none, none] := by
  obtain ⟨x', i', f', t', e, h⟩ := by_digits_loop hp (upto 0 110) x i 1 x i 1 none rfl rfl rfl (by rw [upto_length]; decide) (by rw [upto_length]; decide)
  rw [upto_length, Nat.one_mul] at h
  unfold m__law_by_digits b__law_by_digits
  simp [-modD_int, -k_Rg1, rg_nat (n := 110) 110 rfl (by omega), e, modP hp]
  rw [← Int.natCast_emod, h, Int.natCast_emod]
theorem choose_loop {p : Nat} (hp : P4 p) : ∀ (n k x i f : Nat) (X I F : Int) (a b : Option OD), X = x → I = i → F = f → x < p ^ n → i < p ^ n → f < p → n < k →
    ∃ x' i' f' a' b', whileL t_choose_modulo_1 l_choose_modulo_1 k [some (.fz (.int p)), some (.fz (.int X)), some (.fz (.int I)), some (.fz (.int F)), a, b] =
      .nx [some (.fz (.int p)), x', i', some (.fz (.int (f' : Nat))), a', b'] ∧ f' = f * dig p n x i % p
  | n, 0, x, i, f, _, _, _, a, b, _, _, _, _, _, _, h => by omega
  | 0, k + 1, x, i, f, _, _, _, a, b, rfl, rfl, rfl, hx, hi, hf, _ => by
    simp at hx hi
    refine ⟨some (.fz (.int x)), some (.fz (.int i)), f, a, b, ?_, by rw [dig, Nat.mul_one, Nat.mod_eq_of_lt hf]⟩
    rw [whileL_succ]
    simp [t_choose_modulo_1, hx, hi]
  | n + 1, k + 1, x, i, f, _, _, _, a, b, rfl, rfl, rfl, hx, hi, hf, hk => by
    have h7 := hp.pos
    by_cases h0 : x = 0 ∧ i = 0
    · obtain ⟨rfl, rfl⟩ := h0
      refine ⟨some (.fz (.int 0)), some (.fz (.int 0)), f, a, b, ?_, by rw [dig_i0, Nat.mul_one, Nat.mod_eq_of_lt hf]⟩
      rw [whileL_succ]
      simp [t_choose_modulo_1]
    · have hxm := Nat.mod_lt x (show 0 < p by omega)
      have him := Nat.mod_lt i (show 0 < p by omega)
      have hc := ch_small (x := x % p) (i := i % p) (by omega)
      rw [Nat.pow_succ, Nat.mul_comm] at hx hi
      obtain ⟨x', i', f', a', b', e, h⟩ := choose_loop hp n k (x / p) (i / p) (f * ch (x % p) (i % p) % p) (x / p : Int) (i / p : Int) (f * (ch (x % p) (i % p) : Int) % p) (some (.fz (.int (x % p)))) (some (.fz (.int (i % p)))) (by simp) (by simp) (by simp) (Nat.div_lt_of_lt_mul hx) (Nat.div_lt_of_lt_mul hi) (Nat.mod_lt _ (by omega)) (by omega)
      refine ⟨x', i', f', a', b', ?_, by rw [h, dig, ← Nat.mul_assoc, Nat.mod_mul_mod]⟩
      have l1 := mul_ok (x := (f : Int)) (y := (ch (x % p) (i % p) : Int)) 6 6 (by rw [Int.natAbs_natCast]; omega) (by rw [Int.natAbs_natCast]; exact hc)
      have hr := choices_row (d := x % p) (m := i % p) (by omega) (by omega)
      have r2 := cell_at (n := i % p + 1) (x := x % p) (show i % p < i % p + 1 by omega)
      rw [Int.natCast_emod] at hr r2
      rw [Int.natCast_emod] at hr
      have ht : (t_choose_modulo_1 [some (.fz (.int p)), some (.fz (.int (x : Int))), some (.fz (.int (i : Int))), some (.fz (.int (f : Int))), a, b]) = .ok true [some (.fz (.int p)), some (.fz (.int (x : Int))), some (.fz (.int (i : Int))), some (.fz (.int (f : Int))), a, b] := by
        by_cases hx0 : 0 < x
        · simp [t_choose_modulo_1, hx0]
        · have hi0 : 0 < i := by omega
          simp [t_choose_modulo_1, hx0, hi0]
      rw [whileL_succ, ht]
      simp [-modD_int, -fdivD_int, -ixD_lst, l_choose_modulo_1, modP hp, fdivP hp, hr, r2, l1]
      exact e
theorem choose_modulo {p x i : Nat} (hp : P4 p) (hx : x < 2 ^ 110) (hi : i < 2 ^ 110) : m_choose_modulo [.fz (.int p), .fz (.int x), .fz (.int i)] = .ok (.fz (.int ((dig p 110 x i % p : Nat) : Int))) [none, none, none] := by
  have h7 := hp.pos
  have hpow : 2 ^ 110 ≤ p ^ 110 := Nat.pow_le_pow_left (by omega) 110
  obtain ⟨x', i', f', a', b', e, h⟩ := choose_loop hp 110 fuel x i 1 x i 1 none none rfl rfl rfl (Nat.lt_of_lt_of_le hx hpow) (Nat.lt_of_lt_of_le hi hpow) (by omega) (by unfold fuel; omega)
  rw [Nat.one_mul] at h
  unfold m_choose_modulo b_choose_modulo
  simp [e, h]
end G_k82

set_option Elab.async false
set_option linter.all false
set_option autoImplicit false
set_option maxRecDepth 100000
set_option exponentiation.threshold 10000
namespace G_k82
open PySem PySem.Spec L2 MI Bin
theorem repr_small : ∀ r : Nat, r < 100 → ReprOk (.int (r : Int)) := by decide +kernel
theorem is_dueN {r : Nat} (h : r < 100) : m__law_is_due [.fz (.int r), .fz (.int r)] = .ok (.fz (.bool true)) [none, none] := is_due (repr_small r h)
theorem is_choice_right {p x i : Nat} (hp : P4 p) (hx : x < 2 ^ 110) (hi : i < 2 ^ 110) : m__law_is_choice_right [.fz (.int p), .fz (.int x), .fz (.int i), .fz RD] = .ok (.fz (.bool true)) [none, none, none, none] := by
  have h7 := hp.pos
  have hpow : 2 ^ 110 ≤ p ^ 110 := Nat.pow_le_pow_left (by omega) 110
  have hl := dig_ch hp 110 x i (Nat.lt_of_lt_of_le hx hpow) (Nat.lt_of_lt_of_le hi hpow)
  have e1 := by_digits (x := x) (i := i) hp
  have e2 := choose_modulo hp hx hi
  have e3 := is_dueN (r := dig p 110 x i % p) (by have := Nat.mod_lt (dig p 110 x i) (show 0 < p by omega); omega)
  generalize hd : dig p 110 x i % p = d at *
  have hdc : ((ch x i : Int) % (p : Int)) = d := by rw [← Int.natCast_emod, ← hl]
  unfold m__law_is_choice_right b__law_is_choice_right
  have t3 : ∀ s : Option OD, Out.fin [false, false, false, false] ((sRet (oFz (eAnd (eFrz (oCall [none, none] (aCons (eFrz (oCall [none, none, none] (aCons (eVar 0) (aCons (eVar 1) (aCons (eVar 2) aNil))) (noexF m_choose_modulo))) (aCons (eVar 4) aNil)) (noexF m__law_is_due))) (eFrz (oCall [none, none] (aCons (eFrz (oCallP 0 3 [0, 1, 2] aNil (aCons (eVar 0) (aCons (eVar 1) (aCons (eVar 2) aNil))) m_choose_modulo)) (aCons (eVar 4) aNil)) (noexF m__law_is_due))))))
      [some (.fz (.int p)), some (.fz (.int x)), some (.fz (.int i)), some (.fz RD), some (.fz (.int d))]) = .ok (.fz (.bool true)) [none, none, none, none] := fun s => by
    simp [e2, e3]
  have hx' : (x : Int) < 2 ^ 110 := by exact_mod_cast hx
  have t2 : Out.fin [false, false, false, false] ((sSeq (sIf (kAnd (kCmp leI (eVar 2) (eC (.int 19))) (kCmp neD (eFrz (oOp2 modD (eFrz (oBlt (one intB) (aCons (eFrz (oCall [none, none] (aCons (eVar 1) (aCons (eVar 2) aNil)) (noexF m__law_over))) aNil))) (eVar 0))) (eVar 4))) (sRet (oFz (eC (.bool false)))) sNx)
     (sRet (oFz (eAnd (eFrz (oCall [none, none] (aCons (eFrz (oCall [none, none, none] (aCons (eVar 0) (aCons (eVar 1) (aCons (eVar 2) aNil))) (noexF m_choose_modulo))) (aCons (eVar 4) aNil)) (noexF m__law_is_due))) (eFrz (oCall [none, none] (aCons (eFrz (oCallP 0 3 [0, 1, 2] aNil (aCons (eVar 0) (aCons (eVar 1) (aCons (eVar 2) aNil))) m_choose_modulo)) (aCons (eVar 4) aNil)) (noexF m__law_is_due)))))))
      [some (.fz (.int p)), some (.fz (.int x)), some (.fz (.int i)), some (.fz RD), some (.fz (.int d))]) = .ok (.fz (.bool true)) [none, none, none, none] := by
    rw [← t3 none]
    by_cases h19 : i ≤ 19
    · have e4 := over (x := x) (i := i) (Nat.lt_of_lt_of_le hx (Nat.pow_le_pow_right (by decide) (by decide))) (by omega)
      simp [-modD_int, modP hp, show (i : Int) ≤ 19 by omega, e4, hdc]
    · simp [show ¬ (i : Int) ≤ 19 by omega]
  rw [← t2]
  by_cases h40 : x ≤ 40 ∧ i ≤ 40
  · have r1 := row_at (show x < 41 by omega)
    have r2 := cell_at (x := x) (show i < 41 by omega)
    have r1' : eAt 3 (eVar 1) [some (.fz (.int p)), some (.fz (.int x)), some (.fz (.int i)), some (.fz RD), some (.fz (.int d))] = .ok (.list (rowD 41 x)) [some (.fz (.int p)), some (.fz (.int x)), some (.fz (.int i)), some (.fz RD), some (.fz (.int d))] := by
      simp [-ixD_lst, r1]
    simp [-modD_int, -ixD_lst, e1, modP hp, show (x : Int) ≤ 40 by omega, show (i : Int) ≤ 40 by omega, r1, r2, hdc]
  · by_cases hx0 : x ≤ 40
    · simp [e1, show (x : Int) ≤ 40 by omega, show ¬ (i : Int) ≤ 40 by omega]
    · simp [e1, show ¬ (x : Int) ≤ 40 by omega]
end G_k82

set_option Elab.async false
set_option linter.all false
set_option autoImplicit false
set_option maxRecDepth 100000
set_option exponentiation.threshold 10000
namespace G_k82
open PySem PySem.Spec L2 MI Bin
theorem power_loop {p : Nat} (hp : P4 p) (m : Int) : ∀ (ds : List D) (f : Nat) (F : Int) (t : Option OD), F = f → 1 ≤ f → f ≤ 10 ^ 30 →
    ∃ f' t', forL (gN 3) l__law_power_1 ds [some (.fz (.int p)), some (.fz (.int m)), some (.fz (.int F)), t] = .nx [some (.fz (.int p)), some (.fz (.int m)), some (.fz (.int (f' : Nat))), t'] ∧ 1 ≤ f' ∧ f' ≤ 10 ^ 30
  | [], f, _, t, rfl, h1, h2 => ⟨f, t, rfl, h1, h2⟩
  | d :: ds, f, _, t, rfl, h1, h2 => by
    have h7 := hp.pos
    have l1 := mul_ok (x := (f : Int)) (y := (p : Int)) 200 6 (by rw [Int.natAbs_natCast]; omega) (by rw [Int.natAbs_natCast]; omega)
    by_cases h : (10 : Int) ^ 30 < f * p
    · refine ⟨f, some (.fz d), ?_, h1, h2⟩
      rw [forL_cons]
      simp [l__law_power_1, l1, show (1000000000000000000000000000000 : Int) < f * p by simpa using h]
    · have h3 : f * p ≤ 10 ^ 30 := by
        have : ((f * p : Nat) : Int) ≤ 10 ^ 30 := by rw [Int.natCast_mul]; omega
        omega
      have h4 : 1 ≤ f * p := Nat.mul_pos h1 (by omega)
      obtain ⟨f', t', e, q⟩ := power_loop hp m ds (f * p) (f * p : Int) (some (.fz d)) (by simp) h4 h3
      refine ⟨f', t', ?_, q⟩
      rw [forL_cons]
      simp [l__law_power_1, l1, show ¬ (1000000000000000000000000000000 : Int) < f * p by simpa using h]
      exact e
theorem power {p : Nat} (hp : P4 p) {m : Nat} (hm : m ≤ 1000) : ∃ f : Nat, m__law_power [.fz (.int p), .fz (.int m)] = .ok (.fz (.int f)) [none, none] ∧ 1 ≤ f ∧ f ≤ 10 ^ 30 := by
  obtain ⟨f, t, e, h⟩ := power_loop hp m (upto 0 m) 1 1 none rfl (by omega) (by decide)
  refine ⟨f, ?_, h⟩
  unfold m__law_power b__law_power
  simp [-k_Rg1, rg_nat m rfl (by omega), e]
theorem great {o : OD} (hb : Bag o) : ∃ (r : Nat) (o' : OD), m__law_great [o] = .ok (.fz (.int r)) [some o'] ∧ r ≤ 10 ^ 30 + 9 ∧ Bag o' := by
  obtain ⟨r, o', e, h, hb'⟩ := number hb (most := 10 ^ 30) (by decide)
  refine ⟨r.natAbs, o', ?_, by simpa using h, hb'⟩
  unfold m__law_great b__law_great
  have ha : (if r < 0 then -r else r) = (r.natAbs : Int) := by split <;> omega
  simp at e
  simp [e, ha]
theorem digits_loop {p : Nat} (hp : P4 p) (x th : Nat) (hx : x < 2 ^ 110) : ∀ (ds : List D) (o : OD) (f pw l : Nat) (F PW L : Int) (t : Option OD), Bag o → (∀ d ∈ ds, ∃ n : Int, d = .int n) → F = f → PW = pw → L = l → f + l * pw ≤ x → pw < 2 ^ (3 * (111 - ds.length)) → ds.length ≤ 110 →
    ∃ o' f' a b t', forL (gN 7) l__law_digits_below_1 ds [some o, some (.fz (.int p)), some (.fz (.int x)), some (.fz (.int F)), some (.fz (.int PW)), some (.fz (.int L)), some (.fz (.int th)), t] =
      .nx [some o', some (.fz (.int p)), some (.fz (.int x)), some (.fz (.int (f' : Nat))), a, b, some (.fz (.int th)), t'] ∧ Bag o' ∧ f' ≤ x
  | [], o, f, pw, l, _, _, _, t, hb, _, rfl, rfl, rfl, h, _, _ => ⟨o, f, _, _, t, rfl, hb, by omega⟩
  | d :: ds, o, f, pw, l, _, _, _, t, hb, hd, rfl, rfl, rfl, h, hpw, hl => by
    have h7 := hp.pos
    obtain ⟨n, rfl⟩ := hd d (by simp)
    by_cases h0 : l = 0
    · refine ⟨o, f, some (.fz (.int pw)), some (.fz (.int l)), some (.fz (.int n)), ?_, hb, by omega⟩
      rw [forL_cons]
      simp [l__law_digits_below_1, h0]
    · by_cases h1 : th = 1 ∧ 11 < n
      · refine ⟨o, f, some (.fz (.int pw)), some (.fz (.int l)), some (.fz (.int n)), ?_, hb, by omega⟩
        rw [forL_cons]
        simp [l__law_digits_below_1, h0, h1.1, h1.2]
      · simp only [List.length_cons] at hl hpw
        have hlm := Nat.mod_lt l (show 0 < p by omega)
        obtain ⟨r, o1, e1, r0, r1, b1⟩ := drawS hb (below := (l % p : Int) + 1) (by omega) (by omega)
        obtain ⟨rn, rfl⟩ := Int.eq_ofNat_of_zero_le r0
        have hpw1 : pw < 2 ^ 333 := Nat.lt_of_lt_of_le hpw (Nat.pow_le_pow_right (by decide) (by omega))
        have l1 := mul_ok (x := (rn : Int)) (y := (pw : Int)) 20 333 (by rw [Int.natAbs_natCast]; omega) (by rw [Int.natAbs_natCast]; exact hpw1)
        have l2 := mul_ok (x := (pw : Int)) (y := (p : Int)) 333 20 (by rw [Int.natAbs_natCast]; exact hpw1) (by rw [Int.natAbs_natCast]; omega)
        have hrl : rn ≤ l % p := by omega
        have key : f + rn * pw + l / p * (pw * p) ≤ x := by
          refine Nat.le_trans ?_ h
          have h5 : rn * pw ≤ l % p * pw := Nat.mul_le_mul_right _ hrl
          have h6 : l * pw = l % p * pw + l / p * (pw * p) := by
            conv => lhs; rw [← Nat.mod_add_div l p]
            rw [Nat.add_mul, Nat.mul_comm p, Nat.mul_assoc, Nat.mul_comm p pw]
          omega
        have hpw2 : pw * p < 2 ^ (3 * (111 - ds.length)) := by
          rw [show 3 * (111 - ds.length) = 3 * (111 - (ds.length + 1)) + 3 by omega, Nat.pow_add]
          exact Nat.mul_lt_mul_of_lt_of_le hpw (by omega) (by decide)
        obtain ⟨o', f', a, b, t', e, q⟩ := digits_loop hp x th hx ds o1 (f + rn * pw) (pw * p) (l / p) (f + rn * pw : Int) (pw * p : Int) (l / p : Int) (some (.fz (.int n))) b1 (fun d hd' => hd d (by simp [hd'])) (by simp) (by simp) (by simp) key hpw2 (by omega)
        refine ⟨o', f', a, b, t', ?_, q⟩
        have hcond : (sIf (kOr (kCmp eqD (eVar 5) (eC (.int 0))) (kAnd (kCmp eqD (eVar 6) (eC (.int 1))) (kCmp gtI (eVar 7) (eC (.int 11))))) sBk sNx) [some o, some (.fz (.int p)), some (.fz (.int x)), some (.fz (.int f)), some (.fz (.int pw)), some (.fz (.int l)), some (.fz (.int th)), some (.fz (.int n))] = .nx [some o, some (.fz (.int p)), some (.fz (.int x)), some (.fz (.int f)), some (.fz (.int pw)), some (.fz (.int l)), some (.fz (.int th)), some (.fz (.int n))] := by
          by_cases ht : th = 1
          · have : ¬ 11 < n := fun z => h1 ⟨ht, z⟩
            simp [h0, ht, this]
          · simp [h0, show ¬ (th : Int) = 1 by omega]
        rw [forL_cons]
        unfold l__law_digits_below_1
        simp only [ev_gN, List.set_cons_succ, List.set_cons_zero, ev_sSeq, hcond, Out.then_nx]
        simp [-modD_int, -fdivD_int, modP hp, fdivP hp, e1, l1, l2]
        unfold l__law_digits_below_1 at e
        exact e
theorem digits_below {o : OD} (hb : Bag o) {p x : Nat} (hp : P4 p) (hx : x < 2 ^ 110) : ∃ (r : Nat) (o' : OD), m__law_digits_below [o, .fz (.int p), .fz (.int x)] = .ok (.fz (.int r)) [some o', none, none] ∧ r ≤ x ∧ Bag o' := by
  obtain ⟨th, o1, e1, t0, t1, b1⟩ := drawS hb (below := 2) (by omega) (by omega)
  obtain ⟨tn, rfl⟩ := Int.eq_ofNat_of_zero_le t0
  obtain ⟨o', f, a, b, t', e, b2, hf⟩ := digits_loop hp x tn hx (upto 0 110) o1 0 1 x 0 1 x none b1 (fun d hd => by
    obtain ⟨i, hi⟩ := List.getElem?_of_mem hd
    exact ⟨_, (upto_get hi).2⟩) rfl rfl rfl (by omega) (by rw [upto_length]; decide) (by rw [upto_length]; decide)
  refine ⟨f, o', ?_, hf, b2⟩
  unfold m__law_digits_below b__law_digits_below
  simp [-k_Rg1, rg_nat (n := 110) 110 rfl (by omega), e1, e]
end G_k82

set_option Elab.async false
set_option linter.all false
set_option autoImplicit false
set_option maxRecDepth 100000
set_option exponentiation.threshold 10000
namespace G_k82
open PySem PySem.Spec L2 MI Bin
theorem seq_fin {rf : List Bool} {f h : SF} {s s' : S} {r : Res OD} (e : f s = .nx s') (e2 : Out.fin rf (h s') = r) : Out.fin rf (sSeq f h s) = r := by
  rw [ev_sSeq, e]
  exact e2
def pairD (q : Nat × Nat) : D := .tuple [.int q.1, .int q.2]
theorem min2 (a b : Int) : extD minI (.list [.int a, .int b]) = some (.fz (.int (if b < a then b else a))) := rfl
theorem minLem (a b : Int) (B : Nat) (ha : 0 ≤ a) (hb : 0 ≤ b) (h : b < B) : ∃ m : Nat, (if b < a then b else a) = (m : Int) ∧ m < B := by
  refine ⟨(if b < a then b else a).toNat, ?_, ?_⟩
  · split <;> omega
  · split <;> omega
set_option maxHeartbeats 1000000 in
theorem pairs {o : OD} (hb : Bag o) {p : Nat} (hp : P4 p) : ∃ (ps : List (Nat × Nat)) (o' : OD), m__law_pairs [o, .fz (.int p)] = .ok (.ol (ps.map pairD)) [some o', none] ∧ (∀ q ∈ ps, q.1 < 2 ^ 110 ∧ q.2 < 2 ^ 110) ∧ ps.length ≤ 100 ∧ Bag o' := by
  have h7 := hp.pos
  obtain ⟨x, o1, e1, hx, b1⟩ := great hb
  obtain ⟨few, o2, e2, f0, f1, b2⟩ := drawS b1 (below := 41) (by omega) (by omega)
  obtain ⟨fn, rfl⟩ := Int.eq_ofNat_of_zero_le f0
  obtain ⟨k, o3, e3, k0, k1, b3⟩ := drawS b2 (below := 110) (by omega) (by omega)
  obtain ⟨kn, rfl⟩ := Int.eq_ofNat_of_zero_le k0
  obtain ⟨pw, e4, w0, w1⟩ := power hp (m := kn) (by omega)
  obtain ⟨top, e5, t0, t1⟩ := power hp (m := 110) (by omega)
  obtain ⟨i, o4, e6, hi, b4⟩ := digits_below b3 hp (x := x) (by omega)
  obtain ⟨d1, o5, e7, d10, d11, b5⟩ := drawS b4 (below := 20) (by omega) (by omega)
  obtain ⟨d1n, rfl⟩ := Int.eq_ofNat_of_zero_le d10
  obtain ⟨j, o6, e8, hj, b6⟩ := digits_below b5 hp (x := 10 ^ 30) (by decide)
  obtain ⟨d2, o7, e9, d20, d21, b7⟩ := drawS b6 (below := (fn : Int) + 1) (by omega) (by omega)
  obtain ⟨d2n, rfl⟩ := Int.eq_ofNat_of_zero_le d20
  obtain ⟨d3, o8, e10, d30, d31, b8⟩ := drawS b7 (below := 41) (by omega) (by omega)
  obtain ⟨d3n, rfl⟩ := Int.eq_ofNat_of_zero_le d30
  obtain ⟨d4, o9, e11, d40, d41, b9⟩ := drawS b8 (below := 41) (by omega) (by omega)
  obtain ⟨d4n, rfl⟩ := Int.eq_ofNat_of_zero_le d40
  obtain ⟨d5, o10, e12, d50, d51, b10⟩ := drawS b9 (below := 20) (by omega) (by omega)
  obtain ⟨d5n, rfl⟩ := Int.eq_ofNat_of_zero_le d50
  have big30 : (10 : Nat) ^ 30 + 10 < 2 ^ 110 := by decide
  obtain ⟨m1, hm1, hb1⟩ := minLem (i + pw : Int) 1000000000000000000000000000000 (2 ^ 110) (by omega) (by decide) (by decide)
  obtain ⟨m2, hm2, hb2⟩ := minLem (x + 1 : Int) 1000000000000000000000000000000 (2 ^ 110) (by omega) (by decide) (by decide)
  have hs1 : (x : Int) - (i : Int) = ((x - i : Nat) : Int) := by omega
  have hs2 : (top : Int) - 1 = ((top - 1 : Nat) : Int) := by omega
  have hs3 : (pw : Int) - 1 = ((pw - 1 : Nat) : Int) := by omega
  have hs4 : (pw : Int) / (p : Int) = ((pw / p : Nat) : Int) := by rw [Int.natCast_ediv]
  have hdv : pw / p ≤ pw := Nat.div_le_self _ _
  refine ⟨[(x, i), (x, m1), (x, x), (x, 0), (x, m2), (0, x), (0, 0), (x, d1n), (10 ^ 30, j), (x, x - i), (x, pw), (fn, d2n), (d3n, d4n), (top - 1, top), (pw, pw / p), (pw - 1, d5n)], o10, ?_, ?_, by simp, b10⟩
  · unfold m__law_pairs b__law_pairs
    simp at e5 e8
    show Out.fin [true, false] (sSeq _ _ [some o, some (.fz (.int p)), none, none, none, none, none, none]) = _
    refine seq_fin (s' := [some o3, some (.fz (.int p)), some (.fz (.int x)), some (.fz (.int fn)), some (.fz (.int pw)), some (.fz (.int top)), none, none]) (by simp [e1, e2, e3, e4, e5]) ?_
    refine seq_fin (s' := [some o4, some (.fz (.int p)), some (.fz (.int x)), some (.fz (.int fn)), some (.fz (.int pw)), some (.fz (.int top)), some (.fz (.int i)), none]) (by simp [e6]) ?_
    refine seq_fin (s' := [some o4, some (.fz (.int p)), some (.fz (.int x)), some (.fz (.int fn)), some (.fz (.int pw)), some (.fz (.int top)), some (.fz (.int i)), some (.ol ([(x, i), (x, m1), (x, x), (x, 0), (x, m2), (0, x), (0, 0)].map pairD))]) (by simp [min2, hm1, hm2, pairD]) ?_
    refine seq_fin (s' := [some o6, some (.fz (.int p)), some (.fz (.int x)), some (.fz (.int fn)), some (.fz (.int pw)), some (.fz (.int top)), some (.fz (.int i)), some (.ol ([(x, i), (x, m1), (x, x), (x, 0), (x, m2), (0, x), (0, 0), (x, d1n), (10 ^ 30, j), (x, x - i), (x, pw)].map pairD))]) (by simp [e7, e8, hs1, pairD, size_ok]) ?_
    refine seq_fin (s' := [some o9, some (.fz (.int p)), some (.fz (.int x)), some (.fz (.int fn)), some (.fz (.int pw)), some (.fz (.int top)), some (.fz (.int i)), some (.ol ([(x, i), (x, m1), (x, x), (x, 0), (x, m2), (0, x), (0, 0), (x, d1n), (10 ^ 30, j), (x, x - i), (x, pw), (fn, d2n), (d3n, d4n), (top - 1, top)].map pairD))]) (by simp [e9, e10, e11, hs2, pairD, size_ok]) ?_
    simp [-fdivD_int, e12, hs3, fdivP hp, pairD, size_ok]
  · have hx9 : x < 2 ^ 110 := by omega
    have hi9 : i < 2 ^ 110 := by omega
    have hj9 : j < 2 ^ 110 := by omega
    have hp9 : pw < 2 ^ 110 := by omega
    have ht9 : top < 2 ^ 110 := by omega
    have hc9 : 100 < 2 ^ 110 := by decide
    have hd9 : 10 ^ 30 < 2 ^ 110 := by decide
    generalize 2 ^ 110 = B at *
    generalize 10 ^ 30 = T at *
    intro q hq
    simp at hq
    rcases hq with rfl | rfl | rfl | rfl | rfl | rfl | rfl | rfl | rfl | rfl | rfl | rfl | rfl | rfl | rfl | rfl <;> constructor <;> simp only <;> omega
end G_k82

set_option Elab.async false
set_option linter.all false
set_option autoImplicit false
set_option maxRecDepth 100000
namespace G_k82
open PySem PySem.Spec L2 MI Bin
def at0 (ns : List Int) (j : Nat) : Int := ns.getD j 0
def IsTrim (ns : List Int) (m : Nat) : Prop := m ≤ ns.length ∧ (∀ j, m ≤ j → at0 ns j = 0) ∧ (m = 0 ∨ at0 ns (m - 1) ≠ 0)
theorem at0_big {ns : List Int} {j : Nat} (h : ns.length ≤ j) : at0 ns j = 0 := by
  unfold at0
  rw [List.getD, List.getElem?_eq_none h]
  rfl
theorem IsTrim.uniq {ns : List Int} {m m' : Nat} (h : IsTrim ns m) (h' : IsTrim ns m') : m = m' := by
  have key : ∀ {a b : Nat}, IsTrim ns a → IsTrim ns b → a ≤ b := fun {a b} ha hb => by
    rcases ha.2.2 with z | z
    · omega
    · rcases Nat.lt_or_ge b a with q | q
      · exact (z (hb.2.1 (a - 1) (by omega))).elim
      · exact q
  exact Nat.le_antisymm (key h h') (key h' h)
theorem atI_list {ns : List Int} {j : Nat} (h : j < ns.length) : atI (ns.map PyData.int) (j : Int) = some (.int (at0 ns j)) := by
  refine atI_natD ?_
  rw [List.getElem?_map, List.getElem?_eq_getElem h]
  unfold at0
  rw [List.getD, List.getElem?_eq_getElem h]
  rfl
theorem trim_loop (ns : List Int) : ∀ (k m : Nat) (M : Int), M = m → m ≤ ns.length → m < k → (∀ j, m ≤ j → at0 ns j = 0) →
    ∃ m', whileL t_fall_trimmed_1 l_fall_trimmed_1 k [some (.fz (.list (ns.map .int))), some (.fz (.int M))] = .nx [some (.fz (.list (ns.map .int))), some (.fz (.int (m' : Nat)))] ∧ IsTrim ns m'
  | 0, m, _, _, _, h, _ => by omega
  | k + 1, 0, _, rfl, _, _, hz => ⟨0, by rw [whileL_succ]; simp [t_fall_trimmed_1], Nat.zero_le _, hz, .inl rfl⟩
  | k + 1, m + 1, _, rfl, hl, hk, hz => by
    have ha := atI_list (ns := ns) (j := m) (by omega)
    have hs : ((m + 1 : Nat) : Int) - 1 = m := by omega
    by_cases h0 : at0 ns m = 0
    · obtain ⟨m', e, q⟩ := trim_loop ns k m (((m + 1 : Nat) : Int) - 1) hs (by omega) (by omega) (fun j hj => by
        by_cases hj2 : j = m
        · rw [hj2, h0]
        · exact hz j (by omega))
      refine ⟨m', ?_, q⟩
      rw [whileL_succ]
      have ht : t_fall_trimmed_1 [some (.fz (.list (ns.map .int))), some (.fz (.int ((m + 1 : Nat) : Int)))] = .ok true [some (.fz (.list (ns.map .int))), some (.fz (.int ((m + 1 : Nat) : Int)))] := by
        simp [t_fall_trimmed_1, show (0 : Int) < m + 1 by omega, ha, h0]
      rw [ht]
      simp only [Res.toS_ok, k_WhT]
      rw [← e]
      simp [l_fall_trimmed_1]
    · refine ⟨m + 1, ?_, hl, hz, .inr h0⟩
      rw [whileL_succ]
      simp [t_fall_trimmed_1, show (0 : Int) < m + 1 by omega, ha, h0]
theorem fall_trimmed {ns : List Int} (h : ns.length ≤ 1000) : ∃ m, m_fall_trimmed [.fz (.list (ns.map .int))] = .ok (.fz (.tuple ((ns.take m).map .int))) [none] ∧ IsTrim ns m := by
  obtain ⟨m, e, q⟩ := trim_loop ns fuel ns.length ns.length rfl (Nat.le_refl _) (by unfold fuel; omega) (fun j hj => at0_big hj)
  refine ⟨m, ?_, q⟩
  unfold m_fall_trimmed b_fall_trimmed
  simp [e, cut_to, -List.map_take]
/-- the least power -/
def lpL : Nat → Nat → Nat → Nat → Nat
  | 0, _, _, f => f
  | k + 1, p, m, f => if f < m then lpL k p m (f * p) else f
def lp (p m : Nat) : Nat := lpL 6 p m 1
theorem least_loop {p : Nat} (hp : P4 p) (m : Nat) (hm : m ≤ 64) : ∀ (k n f : Nat) (F : Int), F = f → 1 ≤ f → f < 1000 → m ≤ f * 2 ^ n → n < k →
    whileL t__law_least_power_1 l__law_least_power_1 k [some (.fz (.int p)), some (.fz (.int m)), some (.fz (.int F))] = .nx [some (.fz (.int p)), some (.fz (.int m)), some (.fz (.int ((lpL n p m f : Nat) : Int)))]
  | 0, n, f, _, _, _, _, _, h => by omega
  | k + 1, 0, f, _, rfl, h1, h2, hmf, _ => by
    rw [whileL_succ, lpL]
    simp [t__law_least_power_1, show ¬ (f < m) by simpa using hmf]
  | k + 1, n + 1, f, _, rfl, h1, h2, hmf, hk => by
    have h7 := hp.pos
    have l1 := mul_ok (x := (f : Int)) (y := (p : Int)) 64 64 (by rw [Int.natAbs_natCast]; omega) (by rw [Int.natAbs_natCast]; omega)
    by_cases h : f < m
    · have e := least_loop hp m hm k n (f * p) (f * p : Int) (by simp) (Nat.mul_pos h1 (by omega)) (Nat.lt_of_le_of_lt (Nat.mul_le_mul (show f ≤ 64 by omega) h7.2) (by decide)) (by
        refine Nat.le_trans hmf ?_
        rw [Nat.pow_succ, Nat.mul_comm (2 ^ n), ← Nat.mul_assoc]
        exact Nat.mul_le_mul_right _ (Nat.mul_le_mul_left _ h7.1)) (by omega)
      rw [whileL_succ, lpL, if_pos h, ← e]
      simp [t__law_least_power_1, l__law_least_power_1, h, l1]
    · rw [whileL_succ, lpL, if_neg h]
      simp [t__law_least_power_1, h]
theorem least_power {p : Nat} (hp : P4 p) {m : Nat} (hm : m ≤ 64) : m__law_least_power [.fz (.int p), .fz (.int m)] = .ok (.fz (.int (lp p m : Nat))) [none, none] := by
  have e := least_loop hp m hm fuel 6 1 1 rfl (by omega) (by omega) (by omega) (by unfold fuel; omega)
  unfold m__law_least_power b__law_least_power
  simp [e, lp]
theorem period_loop {p : Nat} (hp : P4 p) (fall : D) (it : Option OD) (m : Nat) (hm : m ≤ 64) : ∀ (k n f : Nat) (F : Int), F = f → 1 ≤ f → f < 1000 → m ≤ f * 2 ^ n → n < k →
    whileL t_fall_period_1 l_fall_period_1 k [some (.fz (.int p)), some (.fz fall), some (.fz (.int m)), some (.fz (.int F)), it] = .nx [some (.fz (.int p)), some (.fz fall), some (.fz (.int m)), some (.fz (.int ((lpL n p m f : Nat) : Int))), it]
  | 0, n, f, _, _, _, _, _, h => by omega
  | k + 1, 0, f, _, rfl, h1, h2, hmf, _ => by
    rw [whileL_succ, lpL]
    simp [t_fall_period_1, show ¬ (f < m) by simpa using hmf]
  | k + 1, n + 1, f, _, rfl, h1, h2, hmf, hk => by
    have h7 := hp.pos
    have l1 := mul_ok (x := (f : Int)) (y := (p : Int)) 64 64 (by rw [Int.natAbs_natCast]; omega) (by rw [Int.natAbs_natCast]; omega)
    by_cases h : f < m
    · have e := period_loop hp fall it m hm k n (f * p) (f * p : Int) (by simp) (Nat.mul_pos h1 (by omega)) (Nat.lt_of_le_of_lt (Nat.mul_le_mul (show f ≤ 64 by omega) h7.2) (by decide)) (by
        refine Nat.le_trans hmf ?_
        rw [Nat.pow_succ, Nat.mul_comm (2 ^ n), ← Nat.mul_assoc]
        exact Nat.mul_le_mul_right _ (Nat.mul_le_mul_left _ h7.1)) (by omega)
      rw [whileL_succ, lpL, if_pos h, ← e]
      simp [t_fall_period_1, l_fall_period_1, h, l1]
    · rw [whileL_succ, lpL, if_neg h]
      simp [t_fall_period_1, h]
def mods (p : Nat) (ns : List Int) : List Int := ns.map fun c => c % (p : Int)
theorem fall_period {p : Nat} (hp : P4 p) {ns : List Int} (hl : ns.length ≤ 60) {m : Nat} (ht : IsTrim (mods p ns) m) : m_fall_period [.fz (.int p), .fz (.tuple (ns.map .int))] = .ok (.fz (.int (lp p m : Nat))) [none, none] := by
  have hlc := lcL_map (ow := [false, false, false, false, true]) (g := gN 4) (e := eFrz (oOp2 modD (eVar 4) (eVar 0)))
    (s := [some (.fz (.int p)), some (.fz (.tuple (ns.map .int))), none, none, none]) (fun c : Int => PyData.int (c % (p : Int))) PyData.int ns [] (fun c hc => by
      refine ⟨_, [some (.fz (.int p)), some (.fz (.tuple (ns.map .int))), none, none, some (.fz (.int c))], rfl, ?_, rfl⟩
      simp [-modD_int, modP hp]) (size_ok (by simp; omega))
  have hmm : ns.map (fun c : Int => PyData.int (c % (p : Int))) = (mods p ns).map PyData.int := by simp [mods]
  obtain ⟨m', e1, ht'⟩ := fall_trimmed (ns := mods p ns) (by simp [mods]; omega)
  have := ht.uniq ht'
  subst this
  have hm : m ≤ ns.length := by simpa [mods] using ht.1
  have e := period_loop hp (.tuple (ns.map .int)) none m (by omega) fuel 6 1 1 rfl (by omega) (by omega) (by omega) (by unfold fuel; omega)
  have htk : min m (mods p ns).length = m := Nat.min_eq_left ht.1
  rw [hmm] at hlc
  unfold m_fall_period b_fall_period
  simp [hlc, e1, htk, e, lp]
end G_k82

set_option Elab.async false
set_option linter.all false
set_option autoImplicit false
set_option maxRecDepth 100000
namespace G_k82
open PySem PySem.Spec L2 MI Bin
/-- the law's states: Sq p c x k -/
def Sq (p : Nat) (c : Nat → Int) : Nat → Nat → Int
  | 0, k => c k
  | x + 1, k => (Sq p c x k + Sq p c x (k + 1)) % (p : Int)
def sm (c : Nat → Int) (d k : Nat) : Nat → Int
  | 0 => 0
  | M + 1 => sm c d k M + (ch d M : Int) * c (k + M)
section
variable {p : Nat} {c : Nat → Int}
theorem sm_pascal (d k : Nat) : ∀ M, sm c (d + 1) k (M + 1) = sm c d k (M + 1) + sm c d (k + 1) M
  | 0 => by simp [sm]
  | M + 1 => by
    have h := sm_pascal d k M
    have e1 : sm c (d + 1) k (M + 1 + 1) = sm c (d + 1) k (M + 1) + (ch (d + 1) (M + 1) : Int) * c (k + (M + 1)) := rfl
    have e2 : sm c d k (M + 1 + 1) = sm c d k (M + 1) + (ch d (M + 1) : Int) * c (k + (M + 1)) := rfl
    have e3 : sm c d (k + 1) (M + 1) = sm c d (k + 1) M + (ch d M : Int) * c (k + 1 + M) := rfl
    rw [e1, e2, e3, h, ch_ss, Int.natCast_add, Int.add_mul, show k + 1 + M = k + (M + 1) by omega]
    omega
theorem sm_zero (k : Nat) : ∀ M, sm c 0 k (M + 1) = c k
  | 0 => by simp [sm]
  | M + 1 => by rw [sm, sm_zero k M]; simp
theorem Sq_range (hp : P4 p) (hc : ∀ k, 0 ≤ c k ∧ c k < p) : ∀ x k, 0 ≤ Sq p c x k ∧ Sq p c x k < p
  | 0, k => hc k
  | x + 1, k => by
    have := hp.pos
    exact ⟨Int.emod_nonneg _ (by omega), Int.emod_lt_of_pos _ (by omega)⟩
theorem Sq_big (hz : ∀ k, 20 ≤ k → c k = 0) : ∀ x k, 20 ≤ k → Sq p c x k = 0
  | 0, k, h => hz k h
  | x + 1, k, h => by rw [Sq, Sq_big hz x k h, Sq_big hz x (k + 1) (by omega)]; simp
theorem Sq_sm (hp : P4 p) (hc : ∀ k, 0 ≤ c k ∧ c k < p) (hz : ∀ k, 20 ≤ k → c k = 0) : ∀ d k, Sq p c d k = sm c d k 21 % (p : Int)
  | 0, k => by
    rw [Sq, sm_zero, Int.emod_eq_of_lt (hc k).1 (hc k).2]
  | d + 1, k => by
    rw [Sq, Sq_sm hp hc hz d k, Sq_sm hp hc hz d (k + 1), sm_pascal d k 20, ← Int.add_emod]
    congr 2
    rw [sm, hz (k + 1 + 20) (by omega)]
    simp
theorem mod_cancel (hp : P4 p) {a b b' : Int} (h : (a + b) % (p : Int) = (a + b') % (p : Int)) (h0 : 0 ≤ b) (h1 : b < p) (h0' : 0 ≤ b') (h1' : b' < p) : b = b' := by
  rcases hp with rfl | rfl | rfl | rfl <;> omega
theorem window (hp : P4 p) (hc : ∀ k, 0 ≤ c k ∧ c k < p) (hz : ∀ k, 20 ≤ k → c k = 0) {d : Nat} (h : ∀ x, x < 20 → Sq p c x 0 = Sq p c (d + x) 0) : ∀ k x, x + k < 20 → Sq p c x k = Sq p c (d + x) k
  | 0, x, hx => h x (by omega)
  | k + 1, x, hx => by
    have e1 := window hp hc hz h k (x + 1) (by omega)
    have e2 := window hp hc hz h k x (by omega)
    rw [show d + (x + 1) = (d + x) + 1 by omega, Sq, Sq, ← e2] at e1
    exact mod_cancel hp e1 (Sq_range hp hc _ _).1 (Sq_range hp hc _ _).2 (Sq_range hp hc _ _).1 (Sq_range hp hc _ _).2
theorem window_iff (hp : P4 p) (hc : ∀ k, 0 ≤ c k ∧ c k < p) (hz : ∀ k, 20 ≤ k → c k = 0) {d : Nat} : (∀ x, x < 20 → Sq p c x 0 = Sq p c (d + x) 0) ↔ ∀ k, c k = Sq p c d k := by
  refine ⟨fun h k => ?_, fun h => ?_⟩
  · rcases Nat.lt_or_ge k 20 with hk | hk
    · have := window hp hc hz h k 0 (by omega)
      exact this
    · rw [hz k hk, Sq_big hz _ _ hk]
  · have all : ∀ x k, Sq p c x k = Sq p c (d + x) k := by
      intro x
      induction x with
      | zero => exact h
      | succ x ih =>
        intro k
        rw [show d + (x + 1) = (d + x) + 1 by omega, Sq, Sq, ih, ih]
    exact fun x _ => all x 0
theorem prime4 (hp : P4 p) {a b : Int} (h : a * b % (p : Int) = 0) : a % (p : Int) = 0 ∨ b % (p : Int) = 0 := by
  rw [Int.mul_emod] at h
  rcases hp with rfl | rfl | rfl | rfl
  · have h1 : a % 2 = 0 ∨ a % 2 = 1 := by omega
    have h2 : b % 2 = 0 ∨ b % 2 = 1 := by omega
    rcases h1 with h1 | h1 <;> rcases h2 with h2 | h2 <;> simp [h1, h2] at h ⊢
  · have h1 : a % 3 = 0 ∨ a % 3 = 1 ∨ a % 3 = 2 := by omega
    have h2 : b % 3 = 0 ∨ b % 3 = 1 ∨ b % 3 = 2 := by omega
    rcases h1 with h1 | h1 | h1 <;> rcases h2 with h2 | h2 | h2 <;> simp [h1, h2] at h ⊢
  · have h1 : a % 5 = 0 ∨ a % 5 = 1 ∨ a % 5 = 2 ∨ a % 5 = 3 ∨ a % 5 = 4 := by omega
    have h2 : b % 5 = 0 ∨ b % 5 = 1 ∨ b % 5 = 2 ∨ b % 5 = 3 ∨ b % 5 = 4 := by omega
    rcases h1 with h1 | h1 | h1 | h1 | h1 <;> rcases h2 with h2 | h2 | h2 | h2 | h2 <;> simp [h1, h2] at h ⊢
  · have h1 : a % 7 = 0 ∨ a % 7 = 1 ∨ a % 7 = 2 ∨ a % 7 = 3 ∨ a % 7 = 4 ∨ a % 7 = 5 ∨ a % 7 = 6 := by omega
    have h2 : b % 7 = 0 ∨ b % 7 = 1 ∨ b % 7 = 2 ∨ b % 7 = 3 ∨ b % 7 = 4 ∨ b % 7 = 5 ∨ b % 7 = 6 := by omega
    rcases h1 with h1 | h1 | h1 | h1 | h1 | h1 | h1 <;> rcases h2 with h2 | h2 | h2 | h2 | h2 | h2 | h2 <;> simp [h1, h2] at h ⊢
/-- all terms up to M but the first vanish -/
theorem sm_vanish {d k : Nat} : ∀ M, (∀ j, 1 ≤ j → j ≤ M → ((ch d j : Int) % (p : Int) = 0 ∨ c (k + j) = 0)) → sm c d k (M + 1) % (p : Int) = c k % (p : Int)
  | 0, _ => by simp [sm]
  | M + 1, h => by
    rw [sm, Int.add_emod, sm_vanish M fun j h1 h2 => h j h1 (by omega)]
    have : (ch d (M + 1) : Int) * c (k + (M + 1)) % (p : Int) = 0 := by
      rcases h (M + 1) (by omega) (Nat.le_refl _) with h | h
      · rw [Int.mul_emod, h, Int.zero_mul, Int.zero_emod]
      · rw [h, Int.mul_zero, Int.zero_emod]
    rw [this, Int.add_zero, Int.emod_emod]
theorem sm_add {d k : Nat} (m : Nat) : ∀ M, (∀ j, m ≤ j → c (k + j) = 0) → sm c d k (m + M) = sm c d k m
  | 0, _ => rfl
  | M + 1, h => by
    rw [← Nat.add_assoc, sm, sm_add m M h, h (m + M) (by omega)]
    simp
variable {N : Nat}
theorem good (hp : P4 p) (hc : ∀ k, 0 ≤ c k ∧ c k < p) (hz : ∀ k, 20 ≤ k → c k = 0) (hN : ∀ k, N ≤ k → c k = 0) {d : Nat} (h : ∀ j, 1 ≤ j → j < N → ch d j % p = 0) : ∀ k, c k = Sq p c d k := fun k => by
  rw [Sq_sm hp hc hz, sm_vanish 20 fun j h1 h2 => ?_, Int.emod_eq_of_lt (hc k).1 (hc k).2]
  rcases Nat.lt_or_ge j N with q | q
  · left
    have := h j h1 q
    rw [← Int.natCast_emod, this]
    rfl
  · exact .inr (hN _ (by omega))
theorem bad (hp : P4 p) (hc : ∀ k, 0 ≤ c k ∧ c k < p) (hz : ∀ k, 20 ≤ k → c k = 0) (hN : ∀ k, N ≤ k → c k = 0) (hN0 : c (N - 1) ≠ 0) (hN20 : N ≤ 20) {d j0 : Nat} (h1 : 1 ≤ j0) (h2 : j0 < N) (h3 : ch d j0 % p ≠ 0) (h4 : ∀ j, 1 ≤ j → j < j0 → ch d j % p = 0) : ¬ ∀ k, c k = Sq p c d k := fun h => by
  have e := h (N - 1 - j0)
  obtain ⟨j, rfl⟩ : ∃ j, j0 = j + 1 := ⟨j0 - 1, by omega⟩
  have hs : sm c d (N - 1 - (j + 1)) 21 = sm c d (N - 1 - (j + 1)) (j + 2) := by
    rw [show 21 = (j + 2) + (19 - j) by omega]
    exact sm_add _ _ fun i hi => hN _ (by omega)
  rw [Sq_sm hp hc hz, hs, sm, show N - 1 - (j + 1) + (j + 1) = N - 1 by omega, Int.add_emod] at e
  rw [sm_vanish j fun i q1 q2 => .inl (by
    have := h4 i q1 (by omega)
    rw [← Int.natCast_emod, this]; rfl), ← Int.add_emod] at e
  have hk := hc (N - 1 - (j + 1))
  have h0 : (ch d (j + 1) : Int) * c (N - 1) % (p : Int) = 0 := by
    have e2 : (c (N - 1 - (j + 1)) + 0) % (p : Int) = (c (N - 1 - (j + 1)) + (ch d (j + 1) : Int) * c (N - 1) % (p : Int)) % (p : Int) := by
      rw [Int.add_emod_emod, ← e, Int.add_zero, Int.emod_eq_of_lt hk.1 hk.2]
    have hp0 := hp.pos
    exact (mod_cancel hp e2 (by omega) (by omega) (Int.emod_nonneg _ (by omega)) (Int.emod_lt_of_pos _ (by omega))).symm
  rcases prime4 hp h0 with q | q
  · rw [← Int.natCast_emod] at q
    exact h3 (by omega)
  · rw [Int.emod_eq_of_lt (hc _).1 (hc _).2] at q
    exact hN0 q
end
/-! the finite part -/
def zeroTo (p d N : Nat) : Bool := (List.range N).all fun j => j == 0 || dig p 6 d j % p == 0
def most (p : Nat) : Nat := if p = 2 then 32 else if p = 3 then 27 else if p = 5 then 25 else 49
def chk (p N : Nat) : Bool := 1 ≤ lp p N && lp p N ≤ most p && zeroTo p (lp p N) N && (List.range (lp p N)).all fun d => d == 0 || !zeroTo p d N
theorem chk2 : ∀ N, N < 21 → chk 2 N = true := by decide +kernel
theorem chk3 : ∀ N, N < 21 → chk 3 N = true := by decide +kernel
theorem chk5 : ∀ N, N < 21 → chk 5 N = true := by decide +kernel
theorem chk7 : ∀ N, N < 21 → chk 7 N = true := by decide +kernel
theorem chk_all {p : Nat} (hp : P4 p) {N : Nat} (h : N < 21) : chk p N = true := by
  rcases hp with rfl | rfl | rfl | rfl
  · exact chk2 N h
  · exact chk3 N h
  · exact chk5 N h
  · exact chk7 N h
end G_k82

set_option Elab.async false
set_option linter.all false
set_option autoImplicit false
set_option maxRecDepth 100000
namespace G_k82
open PySem PySem.Spec L2 MI Bin
theorem Sq_bigN {p n : Nat} {c : Nat → Int} (hz : ∀ k, n ≤ k → c k = 0) : ∀ x k, n ≤ k → Sq p c x k = 0
  | 0, k, h => hz k h
  | x + 1, k, h => by rw [Sq, Sq_bigN hz x k h, Sq_bigN hz x (k + 1) (by omega)]; simp
def stD (p : Nat) (c : Nat → Int) (n x : Nat) : List D := (List.range (n + 1)).map fun k => .int (Sq p c x k)
theorem stD_length {p n x : Nat} {c : Nat → Int} : (stD p c n x).length = n + 1 := by simp [stD]
theorem stD_get {p n x k : Nat} {c : Nat → Int} (h : k < n + 1) : atI (stD p c n x) (k : Int) = some (.int (Sq p c x k)) := by
  refine atI_natD ?_
  unfold stD
  rw [List.getElem?_map, List.getElem?_range h]
  rfl
theorem tail0 (L : List Int) : L.map PyData.int ++ [.int 0] = (List.range (L.length + 1)).map fun k => PyData.int (at0 L k) := by
  rw [List.range_succ, List.map_append]
  congr 1
  · refine List.ext_getElem? fun i => ?_
    rw [List.getElem?_map, List.getElem?_map]
    rcases Nat.lt_or_ge i L.length with h | h
    · rw [List.getElem?_range h, List.getElem?_eq_getElem h]
      unfold at0
      rw [Option.map_some, Option.map_some, List.getD, List.getElem?_eq_getElem h]
      rfl
    · rw [List.getElem?_eq_none h, List.getElem?_eq_none (by simpa using h)]
      rfl
  · rw [List.map_singleton, at0_big (Nat.le_refl _)]
theorem st_next {p n x : Nat} {c : Nat → Int} (hz : ∀ k, n ≤ k → c k = 0) : (List.range n).map (fun k => PyData.int ((Sq p c x k + Sq p c x (k + 1)) % (p : Int))) ++ [.int 0] = stD p c n (x + 1) := by
  unfold stD
  rw [List.range_succ, List.map_append, List.map_singleton, Sq_bigN hz (x + 1) n (Nat.le_refl _)]
  rfl
def rowI (p : Nat) (c : Nat → Int) (i : Nat) : List Int := (List.range i).map fun x => Sq p c x 0
theorem rowI_succ {p i : Nat} {c : Nat → Int} : (rowI p c i).map PyData.int ++ [.int (Sq p c i 0)] = (rowI p c (i + 1)).map PyData.int := by
  unfold rowI
  rw [List.range_succ, List.map_append, List.map_append]
  rfl
theorem rowI_length {p i : Nat} {c : Nat → Int} : (rowI p c i).length = i := by simp [rowI]
theorem cut_mid {α : Type} (f : α → D) (l : List α) (a b : Nat) (h : a + b ≤ l.length) : cutD (l.map f) (some (a : Int)) (some ((a : Int) + (b : Int))) = ((l.drop a).take b).map f := by
  unfold cutD
  rw [show (a : Int) + (b : Int) = ((a + b : Nat) : Int) by omega, HT.sIx_nat, HT.sIx_nat, List.length_map, Nat.min_eq_left (by omega), Nat.min_eq_left (by omega), List.map_take, List.map_drop, Nat.add_sub_cancel_left]
theorem row_take {p i : Nat} {c : Nat → Int} (h : 20 ≤ i) : (rowI p c i).take 20 = (List.range 20).map fun x => Sq p c x 0 := by
  unfold rowI
  rw [← List.map_take, List.take_range, Nat.min_eq_left h]
theorem row_mid {p i d : Nat} {c : Nat → Int} (h : d + 20 ≤ i) : ((rowI p c i).drop d).take 20 = (List.range 20).map fun x => Sq p c (d + x) 0 := by
  unfold rowI
  refine List.ext_getElem? fun j => ?_
  rw [List.getElem?_take]
  split
  · rename_i hj
    rw [List.getElem?_drop, List.getElem?_map, List.getElem?_map, List.getElem?_range (by omega), List.getElem?_range hj]
    rfl
  · rename_i hj
    rw [List.getElem?_eq_none (by simp; omega)]
theorem row_same {p i d : Nat} {c : Nat → Int} (h : d + 20 ≤ i) : ((rowI p c i).take 20 = ((rowI p c i).drop d).take 20) ↔ ∀ x, x < 20 → Sq p c x 0 = Sq p c (d + x) 0 := by
  rw [row_take (by omega), row_mid h]
  constructor
  · intro e x hx
    have := congrArg (fun l => l[x]?) e
    simp only [List.getElem?_map, List.getElem?_range hx, Option.map_some, Option.some.injEq] at this
    exact this
  · intro e
    exact List.map_congr_left fun x hx => e x (List.mem_range.mp hx)
theorem tab_most {p : Nat} (hp : P4 p) {s : S} (h : s[0]? = some (some (.fz (.int p)))) : eTab [(2, 32), (3, 27), (5, 25), (7, 49)] (eVar 0) s = .ok (.int (most p)) s := by
  unfold eTab
  rw [ev_Var, h]
  rcases hp with rfl | rfl | rfl | rfl <;> rfl
theorem most_le {p : Nat} : most p ≤ 49 := by unfold most; split <;> (try split) <;> (try split) <;> omega
section
variable {p : Nat} {c : Nat → Int} {fall : D} {n : Nat} {it : Option OD}
theorem row_loop (hp : P4 p) (hn : n ≤ 20) (hz : ∀ k, n ≤ k → c k = 0) (T : Nat) (hT : T ≤ 1000) : ∃ a, forL (gN 6) l__law_own_period_1 (upto 0 T) [some (.fz (.int p)), some (.fz fall), some (.fz (.list (stD p c n 0))), some (.ol []), some (.fz (.int (most p))), none, none, none, none] =
      .nx [some (.fz (.int p)), some (.fz fall), some (.fz (.list (stD p c n T))), some (.ol ((rowI p c T).map .int)), some (.fz (.int (most p))), none, a, none, none] := by
  obtain ⟨s', e', h'⟩ := forL_inv (g := gN 6) (h := l__law_own_period_1)
    (fun i s => ∃ a, s = [some (.fz (.int p)), some (.fz fall), some (.fz (.list (stD p c n i))), some (.ol ((rowI p c i).map .int)), some (.fz (.int (most p))), none, a, none, none])
    (upto 0 T) 0 [some (.fz (.int p)), some (.fz fall), some (.fz (.list (stD p c n 0))), some (.ol []), some (.fz (.int (most p))), none, none, none, none] ⟨none, rfl⟩ (by
      rintro i q s hq ⟨a, rfl⟩
      obtain ⟨hi, rfl⟩ := upto_get hq
      rw [Nat.zero_add]
      have h0 : atI (stD p c n i) 0 = some (.int (Sq p c i 0)) := stD_get (k := 0) (by omega)
      have hl := lcL_map (ow := [false, false, false, false, false, false, false, true, false]) (g := gN 7) (e := eFrz (oOp2 modD (eFrz (oBlt (one intB) (aCons (eFrz (oOp2 addD (eAt 2 (eVar 7)) (eAt 2 (eFrz (oOp2 addD (eVar 7) (eC (.int 1))))))) aNil))) (eVar 0)))
        (s := [some (.fz (.int p)), some (.fz fall), some (.fz (.list (stD p c n i))), some (.ol ((rowI p c (i + 1)).map .int)), some (.fz (.int (most p))), none, some (.fz (.int (i : Int))), none, none]) (fun k : Nat => PyData.int ((Sq p c i k + Sq p c i (k + 1)) % (p : Int))) (fun i : Nat => PyData.int (i : Int)) (List.range n) [] (fun k hk => by
          rw [List.mem_range] at hk
          have h1 := stD_get (p := p) (c := c) (n := n) (x := i) (k := k) (by omega)
          have h2 : atI (stD p c n i) ((k : Int) + 1) = some (.int (Sq p c i (k + 1))) := stD_get (k := k + 1) (by omega)
          refine ⟨_, [some (.fz (.int p)), some (.fz fall), some (.fz (.list (stD p c n i))), some (.ol ((rowI p c (i + 1)).map .int)), some (.fz (.int (most p))), none, some (.fz (.int (i : Int))), some (.fz (.int (k : Int))), none], rfl, ?_, rfl⟩
          simp [-modD_int, modP hp, h1, h2]) (size_ok (by simp; omega))
      simp only [← upto_map] at hl
      refine ⟨_, [some (.fz (.int p)), some (.fz fall), some (.fz (.list (stD p c n (i + 1)))), some (.ol ((rowI p c (i + 1)).map .int)), some (.fz (.int (most p))), none, some (.fz (.int (i : Int))), none, none], rfl, .inl ?_, _, rfl⟩
      have hlen : ((stD p c n i).length : Int) - 1 = (n : Int) := by rw [stD_length]; omega
      simp [-k_Rg1, l__law_own_period_1, h0, rowI_length, size_lt (show i ≤ 1000000 by omega), rowI_succ, hlen, rg_nat n rfl (by omega), hl, size_ok (show n + 1 ≤ 1000000 by omega), st_next hz])
  obtain ⟨a, rfl⟩ := h'
  rw [upto_length, Nat.zero_add] at e'
  exact ⟨a, e'⟩
theorem d_test {st a b : Option OD} {T : Nat} (hT : T = most p + 20) {d : Nat} (hd : d ≤ most p) {b' : Bool} (hb' : b' = true ↔ (d < most p ∧ ¬ ∀ x, x < 20 → Sq p c x 0 = Sq p c (d + x) 0)) {R : OD} (hR : R = .fz (.list ((rowI p c T).map .int)) ∨ (R = .ol ((rowI p c T).map .int) ∧ d < most p)) :
    t__law_own_period_2 [some (.fz (.int p)), some (.fz fall), st, some R, some (.fz (.int (most p))), a, b, none, some (.fz (.int d))] =
      .ok b' [some (.fz (.int p)), some (.fz fall), st, some (.fz (.list ((rowI p c T).map .int))), some (.fz (.int (most p))), a, b, none, some (.fz (.int d))] := by
  by_cases h : d < most p
  · have hs := row_same (p := p) (i := T) (d := d) (c := c) (by omega)
    have c1 := cut_to PyData.int (rowI p c T) 20
    have c2 := cut_mid PyData.int (rowI p c T) d 20 (by rw [rowI_length]; omega)
    have c1' : cutD ((rowI p c T).map PyData.int) none (some 20) = ((rowI p c T).take 20).map PyData.int := c1
    have c2' : cutD ((rowI p c T).map PyData.int) (some (d : Int)) (some ((d : Int) + 20)) = (((rowI p c T).drop d).take 20).map PyData.int := c2
    have hb : (!decide ((rowI p c T).take 20 = ((rowI p c T).drop d).take 20)) = b' := by
      rw [Bool.eq_iff_iff, hb', Bool.not_eq_true', decide_eq_false_iff_not, hs]
      exact ⟨fun w => ⟨h, w⟩, fun w => w.2⟩
    rcases hR with rfl | ⟨rfl, _⟩ <;> simp only [t__law_own_period_2, ev_kAnd, ev_kCmp, ev_Var, List.getElem?_cons_succ, List.getElem?_cons_zero, Res.bind_ok, k_Bin, k_Of, ltI_int, ev_ofO_some, k_IteD, Int.ofNat_lt, h, if_true, ev_Frz, ev_Slice, k_Sl1, ev_pNo, k_Sl2, ev_pSome, ev_C, k_Part, k_Sl3, ev_sliceL, c1', k_Frz, ev_frz_ol, ev_Op2, addD_int, c2', neD_lst, ev_frz_fz, List.set_cons_succ, List.set_cons_zero, hb]
  · rcases hR with rfl | ⟨rfl, q⟩
    · have : b' = false := by
        rw [Bool.eq_false_iff]
        exact fun w => h (hb'.mp w).1
      subst this
      simp [t__law_own_period_2, h]
    · exact (h q).elim
theorem d_loop {st a b : Option OD} {T : Nat} (hT : T = most p + 20) {q : Nat} (hq : q ≤ most p) (hend : q = most p ∨ ∀ x, x < 20 → Sq p c x 0 = Sq p c (q + x) 0) : ∀ (k d : Nat) (R : OD) (X : Int), X = d → 1 ≤ d → d ≤ q → q < d + k → (R = .fz (.list ((rowI p c T).map .int)) ∨ (R = .ol ((rowI p c T).map .int) ∧ d < most p)) → (∀ e, d ≤ e → e < q → ¬ ∀ x, x < 20 → Sq p c x 0 = Sq p c (e + x) 0) →
    whileL t__law_own_period_2 l__law_own_period_2 k [some (.fz (.int p)), some (.fz fall), st, some R, some (.fz (.int (most p))), a, b, none, some (.fz (.int X))] =
      .nx [some (.fz (.int p)), some (.fz fall), st, some (.fz (.list ((rowI p c T).map .int))), some (.fz (.int (most p))), a, b, none, some (.fz (.int q))]
  | 0, d, R, _, _, _, h1, h2, _, _ => by omega
  | k + 1, d, R, _, rfl, h0, h1, h2, hR, hne => by
    by_cases hdq : d = q
    · subst hdq
      rw [whileL_succ, d_test (b' := false) hT (by omega) (by
        refine ⟨fun z => (nomatch z), ?_⟩
        rintro ⟨z1, z2⟩
        rcases hend with z | z
        · omega
        · exact (z2 z).elim) hR]
      rfl
    · rw [whileL_succ, d_test (b' := true) hT (by omega) ⟨fun _ => ⟨by omega, hne d (Nat.le_refl _) (by omega)⟩, fun _ => rfl⟩ hR]
      simp only [Res.toS_ok, k_WhT]
      rw [← d_loop hT hq hend k (d + 1) (.fz (.list ((rowI p c T).map .int))) ((d : Int) + 1) (by omega) (by omega) (by omega) (by omega) (.inl rfl) (fun e he => hne e (by omega))]
      simp [l__law_own_period_2]
end
theorem own_period {p : Nat} (hp : P4 p) {ns : List Int} (hl : ns.length ≤ 20) {m : Nat} (ht : IsTrim (mods p ns) m) : m__law_own_period [.fz (.int p), .fz (.tuple (ns.map .int))] = .ok (.fz (.int (lp p m : Nat))) [none, none] := by
  have h7 := hp.pos
  have hml : (mods p ns).length = ns.length := by simp [mods]
  have hm : m ≤ 20 := Nat.le_trans ht.1 (by omega)
  let c : Nat → Int := at0 (mods p ns)
  have hc : ∀ k, 0 ≤ c k ∧ c k < p := fun k => by
    show 0 ≤ at0 (mods p ns) k ∧ at0 (mods p ns) k < p
    rcases Nat.lt_or_ge k (mods p ns).length with h | h
    · unfold at0 mods
      rw [List.getD, List.getElem?_map, List.getElem?_eq_getElem (by simpa [mods] using h)]
      exact ⟨Int.emod_nonneg _ (by omega), Int.emod_lt_of_pos _ (by omega)⟩
    · rw [at0_big h]; omega
  have hz : ∀ k, ns.length ≤ k → c k = 0 := fun k h => at0_big (by omega)
  have hz20 : ∀ k, 20 ≤ k → c k = 0 := fun k h => hz k (by omega)
  have hk := chk_all hp (N := m) (by omega)
  simp only [chk, Bool.and_eq_true, decide_eq_true_eq] at hk
  obtain ⟨⟨⟨q1, q2⟩, q3⟩, q4⟩ := hk
  have dc : ∀ {d j : Nat}, d ≤ 49 → j < 21 → dig p 6 d j % p = ch d j % p := fun {d j} h1 h2 => by
    have : 2 ^ 6 ≤ p ^ 6 := Nat.pow_le_pow_left (by omega) 6
    exact dig_ch hp 6 d j (by omega) (by omega)
  have hq49 := Nat.le_trans q2 most_le
  have same : ∀ x, x < 20 → Sq p c x 0 = Sq p c (lp p m + x) 0 := (window_iff hp hc hz20).mpr (good hp hc hz20 (fun k h => ht.2.1 k h) fun j h1 h2 => by
    simp only [zeroTo, List.all_eq_true, List.mem_range] at q3
    have := q3 j h2
    simp only [Bool.or_eq_true, beq_iff_eq] at this
    rw [← dc hq49 (by omega)]
    omega)
  have diff : ∀ e, 1 ≤ e → e < lp p m → ¬ ∀ x, x < 20 → Sq p c x 0 = Sq p c (e + x) 0 := fun e h1 h2 h => by
    simp only [List.all_eq_true, List.mem_range] at q4
    have z := q4 e h2
    simp only [Bool.or_eq_true, beq_iff_eq, Bool.not_eq_true'] at z
    rcases z with z | z
    · omega
    · have : ∃ j, 1 ≤ j ∧ j < m ∧ ch e j % p ≠ 0 := by
        simp only [zeroTo, List.all_eq_false, List.mem_range] at z
        obtain ⟨j, hj, hz⟩ := z
        simp only [Bool.or_eq_true, beq_iff_eq] at hz
        refine ⟨j, by omega, hj, ?_⟩
        rw [← dc (by omega) (by omega)]
        omega
      have least : ∀ n, (∃ j, j < n ∧ 1 ≤ j ∧ j < m ∧ ch e j % p ≠ 0) → ∃ j, 1 ≤ j ∧ j < m ∧ ch e j % p ≠ 0 ∧ ∀ i, 1 ≤ i → i < j → ch e i % p = 0 := by
        intro n
        induction n with
        | zero => rintro ⟨j, h, _⟩; omega
        | succ n ih =>
          rintro ⟨j, h1, h2, h3, h4⟩
          by_cases h5 : ∃ i, i < j ∧ 1 ≤ i ∧ i < m ∧ ch e i % p ≠ 0
          · obtain ⟨i, i1, i2, i3, i4⟩ := h5
            exact ih ⟨i, by omega, i2, i3, i4⟩
          · refine ⟨j, h2, h3, h4, fun i i1 i2 => ?_⟩
            by_cases h6 : ch e i % p = 0
            · exact h6
            · exact (h5 ⟨i, i2, i1, by omega, h6⟩).elim
      obtain ⟨j, j1, j2, j3⟩ := this
      obtain ⟨j, j1, j2, j3, j4⟩ := least (j + 1) ⟨j, by omega, j1, j2, j3⟩
      refine bad hp hc hz20 (fun k h => ht.2.1 k h) ?_ hm j1 j2 j3 j4 ((window_iff hp hc hz20).mp h)
      rcases ht.2.2 with w | w
      · omega
      · exact w
  have hlc := lcL_map (ow := [false, false, false, false, false, true, false, false, false]) (g := gN 5) (e := eFrz (oOp2 modD (eFrz (oBlt (one intB) (aCons (eVar 5) aNil))) (eVar 0)))
    (s := [some (.fz (.int p)), some (.fz (.tuple (ns.map .int))), none, none, none, none, none, none, none]) (fun c : Int => PyData.int (c % (p : Int))) PyData.int ns [] (fun c hc => by
      refine ⟨_, [some (.fz (.int p)), some (.fz (.tuple (ns.map .int))), none, none, none, some (.fz (.int c)), none, none, none], rfl, ?_, rfl⟩
      simp [-modD_int, modP hp]) (size_ok (by simp; omega))
  have hmm : ns.map (fun c : Int => PyData.int (c % (p : Int))) = (mods p ns).map PyData.int := by simp [mods]
  have h0 : (mods p ns).map PyData.int ++ [.int 0] = stD p c ns.length 0 := by
    rw [tail0, hml]; rfl
  rw [List.nil_append, hmm] at hlc
  obtain ⟨a, e1⟩ := row_loop (fall := .tuple (ns.map .int)) hp hl hz (most p + 20) (by have := most_le (p := p); omega)
  have hmost : 2 ≤ most p := by unfold most; split <;> (try split) <;> (try split) <;> omega
  have e2 := d_loop (p := p) (c := c) (fall := .tuple (ns.map .int)) (st := some (.fz (.list (stD p c ns.length (most p + 20))))) (a := none) (b := a) (T := most p + 20) rfl q2 (.inr same) fuel 1 (.ol ((rowI p c (most p + 20)).map .int)) 1 rfl (by omega) q1 (by unfold fuel; omega) (.inr ⟨rfl, by omega⟩) (fun e h1 h2 => diff e h1 h2)
  have tm := tab_most hp (s := [some (.fz (.int p)), some (.fz (.tuple (ns.map .int))), none, none, none, none, none, none, none]) rfl
  have hsz : (mods p ns).length + 1 ≤ sizeLine := size_ok (by omega)
  unfold m__law_own_period b__law_own_period
  show Out.fin [false, false] (sSeq _ _ [some (.fz (.int p)), some (.fz (.tuple (ns.map .int))), none, none, none, none, none, none, none]) = _
  refine seq_fin (s' := [some (.fz (.int p)), some (.fz (.tuple (ns.map .int))), some (.fz (.list (stD p c ns.length 0))), some (.ol []), some (.fz (.int (most p))), none, none, none, none]) (by simp [hlc, hsz, h0, tm]) ?_
  refine seq_fin (by
    rw [ev_sFor]
    have : iRange1 (eFrz (oOp2 addD (eVar 4) (eC (.int 20)))) [some (.fz (.int p)), some (.fz (.tuple (ns.map .int))), some (.fz (.list (stD p c ns.length 0))), some (.ol []), some (.fz (.int (most p))), none, none, none, none] = .ok (upto 0 (most p + 20)) [some (.fz (.int p)), some (.fz (.tuple (ns.map .int))), some (.fz (.list (stD p c ns.length 0))), some (.ol []), some (.fz (.int (most p))), none, none, none, none] := by
      simp [-k_Rg1, rg_nat (n := (most p : Int) + 20) (most p + 20) (by omega) (by have := most_le (p := p); omega)]
    rw [this, Res.toS_ok]
    exact e1) ?_
  simp [e2]
end G_k82

set_option Elab.async false
set_option linter.all false
set_option autoImplicit false
set_option maxRecDepth 100000
namespace G_k82
open PySem PySem.Spec L2 MI Bin
theorem lp_le {p : Nat} (hp : P4 p) {m : Nat} (h : m < 21) : lp p m ≤ 49 := by
  have hk := chk_all hp h
  simp only [chk, Bool.and_eq_true, decide_eq_true_eq] at hk
  exact Nat.le_trans hk.1.1.2 most_le
theorem is_period_right {p : Nat} (hp : P4 p) {ns : List Int} (hl : ns.length ≤ 20) {m : Nat} (ht : IsTrim (mods p ns) m) : m__law_is_period_right [.fz (.int p), .fz (.tuple (ns.map .int)), .fz (.int m)] = .ok (.fz (.bool true)) [none, none, none] := by
  have hm : m ≤ 20 := Nat.le_trans ht.1 (by simp [mods]; exact hl)
  have e1 := own_period hp hl ht
  have e2 := least_power hp (m := m) (by omega)
  have e3 := fall_period hp (ns := ns) (by omega) ht
  have e4 := is_dueN (r := lp p m) (by have := lp_le hp (m := m) (by omega); omega)
  unfold m__law_is_period_right b__law_is_period_right
  simp [e1, e2, e3, e4]
/-- a comprehension that keeps an invariant -/
theorem lcL_inv {ow : List Bool} {g : GF} {e : EF} (I : S → Prop) (P : D → Prop) : ∀ (ds acc : List D) (s : S), I s → acc.length + ds.length ≤ sizeLine → (∀ d ∈ ds, ∀ s, I s → ∃ s1 y s3, g d s = some s1 ∧ e s1 = .ok y s3 ∧ P y ∧ I (wipeF ow s3)) →
    ∃ ys s', lcL ow g kYes e ds acc s = .ok (acc ++ ys) s' ∧ I s' ∧ ys.length = ds.length ∧ ∀ y ∈ ys, P y
  | [], acc, s, h, _, _ => ⟨[], s, by simp, h, rfl, by simp⟩
  | d :: ds, acc, s, h, hl, st => by
    obtain ⟨s1, y, s3, h1, h2, h3, h4⟩ := st d (by simp) s h
    simp only [List.length_cons] at hl
    obtain ⟨ys, s', e', i', l', p'⟩ := lcL_inv I P ds (acc ++ [y]) (wipeF ow s3) h4 (by simp; omega) (fun d hd => st d (by simp [hd]))
    refine ⟨y :: ys, s', ?_, i', by simp [l'], by simpa using ⟨h3, p'⟩⟩
    rw [lcL_cons, h1]
    simp only [ev_kYes, Res.noex_ok, Res.bind_ok, if_true, h2]
    rw [if_pos (by omega), e']
    simp
theorem all_ints : ∀ {ds : List D}, (∀ d ∈ ds, ∃ n : Int, d = .int n) → ∃ ns : List Int, ds = ns.map PyData.int
  | [], _ => ⟨[], rfl⟩
  | d :: ds, h => by
    obtain ⟨n, rfl⟩ := h d (by simp)
    obtain ⟨ns, rfl⟩ := all_ints (ds := ds) fun d hd => h d (by simp [hd])
    exact ⟨n :: ns, rfl⟩
theorem at0_left {L M : List Int} {j : Nat} (h : j < L.length) : at0 (L ++ M) j = at0 L j := by
  unfold at0
  rw [List.getD, List.getElem?_append_left h]
  rfl
theorem at0_right {L M : List Int} {j : Nat} (h : L.length ≤ j) : at0 (L ++ M) j = at0 M (j - L.length) := by
  unfold at0
  rw [List.getD, List.getElem?_append_right h]
  rfl
theorem at0_mods {p : Nat} {L : List Int} {j : Nat} : at0 (mods p L) j = at0 L j % (p : Int) := by
  unfold at0 mods
  rw [List.getD, List.getD, List.getElem?_map]
  cases L[j]? <;> simp
theorem at0_mem {L : List Int} {j : Nat} (h : j < L.length) : at0 L j ∈ L := by
  unfold at0
  rw [List.getD, List.getElem?_eq_getElem h]
  exact List.getElem_mem h
/-- what is kept: multiples of p behind the last one that is none -/
theorem trim_of {p : Nat} {L M : List Int} (hM : ∀ x ∈ M, x % (p : Int) = 0) (hL : L = [] ∨ at0 L (L.length - 1) % (p : Int) ≠ 0) : IsTrim (mods p (L ++ M)) L.length := by
  refine ⟨by simp [mods], fun j hj => ?_, ?_⟩
  · rw [at0_mods, at0_right hj]
    rcases Nat.lt_or_ge (j - L.length) M.length with h | h
    · exact hM _ (at0_mem h)
    · rw [at0_big h]; simp
  · rcases hL with rfl | h
    · exact .inl rfl
    · by_cases h0 : L.length = 0
      · exact .inl h0
      · refine .inr ?_
        rw [at0_mods, at0_left (by omega)]
        exact h
theorem neg1 {ns : List Int} (h : ns ≠ []) : atI (ns.map PyData.int) (-1) = some (.int (at0 ns (ns.length - 1))) := by
  have hl := List.length_pos_iff.mpr h
  have e : atI (ns.map PyData.int) (-1) = atI (ns.map PyData.int) ((ns.length - 1 : Nat) : Int) := by
    unfold atI ixN
    rw [List.length_map, if_neg (by omega), if_pos (by omega), if_pos (by omega), if_pos (by omega)]
    simp
    rw [show (-1 + (ns.length : Int)).toNat = ns.length - 1 by omega]
  rw [e]
  exact atI_list (by omega)
theorem ixneg {n : Nat} (h : 0 < n) : ixN n (-1) = some (n - 1) := by
  unfold ixN
  rw [if_neg (by omega), if_pos (by omega)]
  congr 1
  omega
end G_k82

set_option Elab.async false
set_option linter.all false
set_option autoImplicit false
set_option maxRecDepth 100000
namespace G_k82
open PySem PySem.Spec L2 MI Bin
theorem min2N (a b : Nat) : extD minI (.list [.int a, .int b]) = some (.fz (.int ((min a b : Nat) : Int))) := by
  rw [min2]
  congr 3
  split <;> omega
section
variable {p : Nat}
theorem keep_loop (hp : P4 p) (a : D) (b bd l : D) (L : List Int) (B : Nat) (hB : B < 2 ^ 200) (hbd : bd = .int B) : ∀ (ds : List D) (o : OD) (M : List Int) (t : Option OD), Bag o → (∀ x ∈ M, x % (p : Int) = 0) → M.length + ds.length ≤ 100 → L.length ≤ 100 →
    ∃ o' M' t', forL (gN 7) l__law_kept_fall_1 ds [some o, some (.fz (.int p)), some (.fz a), some (.fz b), some (.fz bd), some (.fz l), some (.ol ((L ++ M).map .int)), t] =
      .nx [some o', some (.fz (.int p)), some (.fz a), some (.fz b), some (.fz bd), some (.fz l), some (.ol ((L ++ M').map .int)), t'] ∧ Bag o' ∧ (∀ x ∈ M', x % (p : Int) = 0) ∧ M'.length = M.length + ds.length
  | [], o, M, t, hb, hM, _, _ => ⟨o, M, t, rfl, hb, hM, rfl⟩
  | d :: ds, o, M, t, hb, hM, hl, hL => by
    have h7 := hp.pos
    subst hbd
    obtain ⟨r, o1, e1, r1, b1⟩ := number hb (most := (B : Int)) (by omega)
    simp only [List.length_cons] at hl
    have l1 := mul_ok (x := (p : Int)) (y := r) 6 201 (by rw [Int.natAbs_natCast]; omega) (by
      have : (2 : Nat) ^ 201 = 2 ^ 200 * 2 := Nat.pow_succ ..
      have : (20 : Nat) < 2 ^ 200 := Nat.lt_of_lt_of_le (show 20 < 2 ^ 5 by decide) (Nat.pow_le_pow_right (by decide) (by decide))
      omega)
    obtain ⟨o', M', t', e, b2, m2, l2⟩ := keep_loop hp a b (.int B) l L B hB rfl ds o1 (M ++ [(p : Int) * r]) (some (.fz d)) b1 (by
      intro x hx
      rcases List.mem_append.mp hx with h | h
      · exact hM x h
      · rw [List.mem_singleton.mp h]
        exact Int.mul_emod_right _ _) (by simp; omega) hL
    refine ⟨o', M', t', ?_, b2, m2, by rw [l2]; simp; omega⟩
    rw [forL_cons, ← e]
    have hsz : ((L ++ M).map PyData.int).length < sizeLine := by simp; exact size_lt (by omega)
    rw [List.length_map] at hsz
    simp [l__law_kept_fall_1, e1, l1]
    rw [if_pos (by simpa using hsz)]
    simp
theorem kept_fall {o : OD} (hb : Bag o) (hp : P4 p) : ∃ (ns : List Int) (m : Nat) (o' : OD), m__law_kept_fall [o, .fz (.int p)] = .ok (.fz (.tuple [.tuple (ns.map .int), .int m])) [some o', none] ∧ IsTrim (mods p ns) m ∧ ns.length ≤ 20 ∧ Bag o' := by
  have h7 := hp.pos
  obtain ⟨d1, o1, e1, d10, d11, b1⟩ := drawS hb (below := 21) (by omega) (by omega)
  obtain ⟨d1, rfl⟩ := Int.eq_ofNat_of_zero_le d10
  obtain ⟨d2, o2, e2, d20, d21, b2⟩ := drawS b1 (below := 21) (by omega) (by omega)
  obtain ⟨d2, rfl⟩ := Int.eq_ofNat_of_zero_le d20
  have lpp := mul_ok (x := (p : Int)) (y := (p : Int)) 6 6 (by rw [Int.natAbs_natCast]; omega) (by rw [Int.natAbs_natCast]; omega)
  obtain ⟨k, o3, e3, hk, b3⟩ := pick b2 (ds := [.int 0, .int 1, .int p, .int (p + 1), .int (p * p), .int (p * p + 1), .int 16, .int 17, .int 20, .int d1, .int d2]) (by simp) (by simp)
  obtain ⟨kn, rfl⟩ : ∃ n : Nat, k = .int n := by
    simp at hk
    have hpp : (p : Int) * p = ((p * p : Nat) : Int) := by simp
    rcases hk with rfl | rfl | rfl | rfl | rfl | rfl | rfl | rfl | rfl | rfl | rfl
    · exact ⟨0, rfl⟩
    · exact ⟨1, rfl⟩
    · exact ⟨p, rfl⟩
    · exact ⟨p + 1, rfl⟩
    · exact ⟨p * p, by rw [hpp]⟩
    · exact ⟨p * p + 1, by rw [hpp]; rfl⟩
    · exact ⟨16, rfl⟩
    · exact ⟨17, rfl⟩
    · exact ⟨20, rfl⟩
    · exact ⟨d1, rfl⟩
    · exact ⟨d2, rfl⟩
  obtain ⟨d3, o4, e4, d30, d31, b4⟩ := drawS b3 (below := 21) (by omega) (by omega)
  obtain ⟨d3, rfl⟩ := Int.eq_ofNat_of_zero_le d30
  obtain ⟨k2, o5, e5, hk2, b5⟩ := pick b4 (ds := [.int 0, .int 0, .int 1, .int d3]) (by simp) (by simp)
  obtain ⟨bn, rfl⟩ : ∃ n : Nat, k2 = .int n := by
    simp at hk2
    rcases hk2 with rfl | rfl | rfl
    · exact ⟨0, rfl⟩
    · exact ⟨1, rfl⟩
    · exact ⟨d3, rfl⟩
  obtain ⟨z, o6, e6, z0, z1, b6⟩ := drawS b5 (below := 6) (by omega) (by omega)
  have hA : min kn 20 ≤ 20 := Nat.min_le_right _ _
  generalize hAe : min kn 20 = A at *
  have hbd : ∃ B : Nat, ((1000000000000000000000000000000 : Int) - (p : Int)) / (p : Int) = (B : Int) ∧ B < 2 ^ 200 := by
    rcases hp with rfl | rfl | rfl | rfl
    · exact ⟨499999999999999999999999999999, rfl, by decide⟩
    · exact ⟨333333333333333333333333333332, rfl, by decide⟩
    · exact ⟨199999999999999999999999999999, rfl, by decide⟩
    · exact ⟨142857142857142857142857142856, rfl, by decide⟩
  obtain ⟨B, hB1, hB2⟩ := hbd
  -- the comprehension
  obtain ⟨ys, s', e7, ⟨o7, rfl, b7⟩, ly, py⟩ := lcL_inv (ow := [false, false, false, false, false, false, false, true]) (g := gN 7) (e := eIf (kVal (eVar 5)) (eC (.int 0)) (eFrz (oCall [some 0, none] (aRef 0 (aCons (eFrz (oOp2 powD (eC (.int 10)) (eC (.int 30)))) aNil)) (noexF m__law_number))))
    (fun s => ∃ o, s = [some o, some (.fz (.int p)), some (.fz (.int (A : Nat))), some (.fz (.int bn)), some (.fz (.int B)), some (.fz (.bool (decide (z = 0)))), none, none] ∧ Bag o) (fun d => ∃ n : Int, d = .int n) (upto 0 A) [] [some o6, some (.fz (.int p)), some (.fz (.int (A : Nat))), some (.fz (.int bn)), some (.fz (.int B)), some (.fz (.bool (decide (z = 0)))), none, none] ⟨o6, rfl, b6⟩ (size_ok (by simp; omega)) (by
      rintro d hd s ⟨o, rfl, hb⟩
      by_cases hz : z = 0
      · refine ⟨_, .int 0, [some o, some (.fz (.int p)), some (.fz (.int (A : Nat))), some (.fz (.int bn)), some (.fz (.int B)), some (.fz (.bool (decide (z = 0)))), none, some (.fz d)], rfl, ?_, ⟨0, rfl⟩, o, rfl, hb⟩
        simp [hz]
      · obtain ⟨r, o', e, _, b'⟩ := number hb (most := 10 ^ 30) (by decide)
        simp at e
        refine ⟨_, .int r, [some o', some (.fz (.int p)), some (.fz (.int (A : Nat))), some (.fz (.int bn)), some (.fz (.int B)), some (.fz (.bool (decide (z = 0)))), none, some (.fz d)], rfl, ?_, ⟨r, rfl⟩, o', rfl, b'⟩
        simp [hz, e])
  obtain ⟨L0, rfl⟩ := all_ints py
  rw [upto_length, List.length_map] at ly
  -- the last one of the front
  have front : ∃ (L : List Int) (o8 : OD), (sIf (kCmp gtI (eVar 2) (eC (.int 0))) (sItem 6 (eFrz (oOp1 negD (eC (.int 1)))) (eFrz (oOp2 addD (eFrz (oOp2 addD (eFrz (oOp2 mulD (eVar 1) (eFrz (oCall [some 0, none] (aRef 0 (aCons (eVar 4) aNil)) (noexF m__law_number))))) (eC (.int 1)))) (eFrz (oCall [some 0, none] (aRef 0 (aCons (eFrz (oOp2 subD (eVar 1) (eC (.int 1)))) aNil)) (noexF m__law_draw)))))) sNx)
      [some o7, some (.fz (.int p)), some (.fz (.int (A : Nat))), some (.fz (.int bn)), some (.fz (.int B)), some (.fz (.bool (decide (z = 0)))), some (.ol (L0.map .int)), none] = .nx [some o8, some (.fz (.int p)), some (.fz (.int (A : Nat))), some (.fz (.int bn)), some (.fz (.int B)), some (.fz (.bool (decide (z = 0)))), some (.ol (L.map .int)), none] ∧ Bag o8 ∧ L.length = A ∧ (L = [] ∨ at0 L (L.length - 1) % (p : Int) ≠ 0) := by
    by_cases hA0 : A = 0
    · refine ⟨L0, o7, by simp [hA0], b7, ly, .inl (List.eq_nil_of_length_eq_zero (by omega))⟩
    · obtain ⟨r, o8, e8, r1, b8⟩ := number b7 (most := (B : Int)) (by omega)
      obtain ⟨w, o9, e9, w0, w1, b9⟩ := drawS b8 (below := (p : Int) - 1) (by omega) (by omega)
      have l1 := mul_ok (x := (p : Int)) (y := r) 6 201 (by rw [Int.natAbs_natCast]; omega) (by
        have : (2 : Nat) ^ 201 = 2 ^ 200 * 2 := Nat.pow_succ ..
        have : (20 : Nat) < 2 ^ 200 := Nat.lt_of_lt_of_le (show 20 < 2 ^ 5 by decide) (Nat.pow_le_pow_right (by decide) (by decide))
        omega)
      refine ⟨L0.set (A - 1) ((p : Int) * r + 1 + w), o9, ?_, b9, by simp [ly], .inr ?_⟩
      · have hix : ixN A (-1) = some (A - 1) := ixneg (by omega)
        simp [show 0 < A by omega, e8, e9, l1, ly, hix]
      · have : at0 (L0.set (A - 1) ((p : Int) * r + 1 + w)) ((L0.set (A - 1) ((p : Int) * r + 1 + w)).length - 1) = (p : Int) * r + 1 + w := by
          rw [List.length_set, ly]
          unfold at0
          rw [List.getD, List.getElem?_set_self (by omega)]
          rfl
        rw [this, Int.add_assoc, Int.mul_add_emod_self_left, Int.emod_eq_of_lt (by omega) (by omega)]
        omega
  obtain ⟨L, o8, e8, b8, lL, hL⟩ := front
  -- the multiples behind
  have hS : (20 : Int) - (A : Int) = ((20 - A : Nat) : Int) := by omega
  have hm2 : min bn (20 - A) ≤ 20 - A := Nat.min_le_right _ _
  obtain ⟨o9, M, t9, e9, b9, hM, lM⟩ := keep_loop hp (.int (A : Nat)) (.int bn) (.int B) (.bool (decide (z = 0))) L B hB2 rfl (upto 0 (min bn (20 - A))) o8 [] none b8 (by simp) (by simp; omega) (by omega)
  rw [List.append_nil] at e9
  rw [upto_length, List.length_nil, Nat.zero_add] at lM
  -- the last one is not 0
  have last : ∃ M' : List Int, (sIf (kAnd (kLend [.f, .f, .f, .f, .f, .f, .f, .f] (kCmp neD (eVar 6) (eFrz (oLst aNil)))) (kCmp eqD (eAt 6 (eFrz (oOp1 negD (eC (.int 1))))) (eC (.int 0)))) (sItem 6 (eFrz (oOp1 negD (eC (.int 1)))) (eVar 1)) sNx)
      [some o9, some (.fz (.int p)), some (.fz (.int (A : Nat))), some (.fz (.int bn)), some (.fz (.int B)), some (.fz (.bool (decide (z = 0)))), some (.ol ((L ++ M).map .int)), t9] = .nx [some o9, some (.fz (.int p)), some (.fz (.int (A : Nat))), some (.fz (.int bn)), some (.fz (.int B)), some (.fz (.bool (decide (z = 0)))), some (.ol ((L ++ M').map .int)), t9] ∧ (∀ x ∈ M', x % (p : Int) = 0) ∧ M'.length = M.length := by
    have hne : neD (.list ((L ++ M).map PyData.int)) (.list []) = some (!decide (L ++ M = [])) := neD_lst (L ++ M) []
    by_cases h0 : L ++ M = []
    · refine ⟨M, ?_, hM, rfl⟩
      have hne' : neD (.list []) (.list []) = some false := by
        have := neD_lst [] []
        simpa using this
      simp [h0, hne']
    · have hn1 := neg1 h0
      by_cases hl0 : at0 (L ++ M) ((L ++ M).length - 1) = 0
      · have hlM : 0 < M.length := by
          rcases Nat.eq_zero_or_pos M.length with q | q
          · have : M = [] := List.eq_nil_of_length_eq_zero q
            subst this
            rw [List.append_nil] at hl0 h0
            rcases hL with w | w
            · exact (h0 w).elim
            · rw [hl0] at w; simp at w
          · exact q
        refine ⟨M.set (M.length - 1) p, ?_, ?_, by simp⟩
        · have hix : ixN (L ++ M).length (-1) = some ((L ++ M).length - 1) := ixneg (List.length_pos_iff.mpr h0)
          have hset : ((L ++ M).map PyData.int).set ((L ++ M).length - 1) (.int p) = (L ++ M.set (M.length - 1) p).map PyData.int := by
            rw [← List.map_set]
            congr 1
            rw [List.set_append_right _ _ (by simp; omega)]
            congr 2
            simp; omega
          simp only [ev_sIf, ev_kAnd, ev_kLend]
          simp [-List.map_append, hne, h0, hn1, hl0, hix, hset, -List.length_append]
        · intro x hx
          rcases List.mem_or_eq_of_mem_set hx with h | h
          · exact hM x h
          · rw [h]; exact Int.emod_self
      · refine ⟨M, ?_, hM, rfl⟩
        simp [-List.map_append, hne, h0, hn1, hl0, -List.length_append]
  obtain ⟨M', e10, hM', lM'⟩ := last
  refine ⟨L ++ M', A, o9, ?_, ?_, by simp; omega, b9⟩
  · unfold m__law_kept_fall b__law_kept_fall
    show Out.fin [true, false] (sSeq _ _ [some o, some (.fz (.int p)), none, none, none, none, none, none]) = _
    refine seq_fin (s' := [some o3, some (.fz (.int p)), some (.fz (.int kn)), none, none, none, none, none]) (by simp [e1, e2, lpp, e3]) ?_
    refine seq_fin (s' := [some o3, some (.fz (.int p)), some (.fz (.int (A : Nat))), none, none, none, none, none]) (by
      have := min2N kn 20
      rw [hAe] at this
      simp at this
      simp [this]) ?_
    refine seq_fin (s' := [some o5, some (.fz (.int p)), some (.fz (.int (A : Nat))), some (.fz (.int bn)), some (.fz (.int B)), none, none, none]) (by simp [-fdivD_int, e4, e5, fdivP hp, hB1]) ?_
    refine seq_fin (s' := [some o6, some (.fz (.int p)), some (.fz (.int (A : Nat))), some (.fz (.int bn)), some (.fz (.int B)), some (.fz (.bool (decide (z = 0)))), none, none]) (by simp [e6]) ?_
    refine seq_fin (s' := [some o7, some (.fz (.int p)), some (.fz (.int (A : Nat))), some (.fz (.int bn)), some (.fz (.int B)), some (.fz (.bool (decide (z = 0)))), some (.ol (L0.map .int)), none]) (by
      simp only [ev_sSet, ev_Lc, ev_iRange1, ev_Var, List.getElem?_cons_succ, List.getElem?_cons_zero, Res.bind_ok, rg_nat A rfl (show A ≤ 1000000 by omega)]
      simp [e7]) ?_
    refine seq_fin e8 ?_
    refine seq_fin (s' := [some o9, some (.fz (.int p)), some (.fz (.int (A : Nat))), some (.fz (.int bn)), some (.fz (.int B)), some (.fz (.bool (decide (z = 0)))), some (.ol ((L ++ M).map .int)), t9]) (by
      have hmin : extD minI (.list [.int (bn : Int), .int ((20 : Int) - (A : Int))]) = some (.fz (.int ((min bn (20 - A) : Nat) : Int))) := by rw [hS]; exact min2N bn (20 - A)
      generalize min bn (20 - A) = Q at *
      simp [-k_Rg1, -List.map_append, hmin, rg_nat Q rfl (show Q ≤ 1000000 by omega), e9]) ?_
    refine seq_fin e10 ?_
    simp
  · rw [← lL]
    exact trim_of hM' hL
end
end G_k82

set_option Elab.async false
set_option linter.all false
set_option autoImplicit false
set_option maxRecDepth 100000
namespace G_k82
open PySem PySem.Spec L2 MI Bin
theorem cut_neg1 {α : Type} (f : α → D) (l : List α) : cutD (l.map f) none (some (-1)) = l.dropLast.map f := by
  unfold cutD
  have : HT.sIx (l.map f).length (l.map f).length (some (-1)) = (l.map f).length - 1 := by
    show (if (-1 : Int) < 0 then ((-1 : Int) + ((l.map f).length : Int)).toNat else min (-1 : Int).toNat (l.map f).length) = (l.map f).length - 1
    rw [if_pos (by omega)]
    omega
  rw [this, HT.sIx_none, List.drop_zero, Nat.sub_zero, ← List.dropLast_eq_take, List.map_dropLast]
theorem trim_last {p : Nat} {L : List Int} {x : Int} (h : x % (p : Int) ≠ 0) : IsTrim (mods p (L ++ [x])) (L.length + 1) := by
  have := trim_of (p := p) (L := L ++ [x]) (M := []) (by simp) (.inr (by
    rw [List.length_append, List.length_singleton, Nat.add_sub_cancel, at0_right (Nat.le_refl _), Nat.sub_self]
    exact h))
  simpa using this
theorem one_mod {p : Nat} (hp : P4 p) : (1 : Int) % (p : Int) ≠ 0 := by
  have := hp.pos
  rw [Int.emod_eq_of_lt (by omega) (by omega)]; omega
theorem p1_mod {p : Nat} (hp : P4 p) : ((p : Int) + 1) % (p : Int) ≠ 0 := by
  rw [Int.add_emod, Int.emod_self, Int.zero_add, Int.emod_emod]
  exact one_mod hp
section
variable {p : Nat}
theorem many_loop (hp : P4 p) (ns : List Int) (o a b c d : Option OD) : ∀ (k m : Nat) (M : Int), M = m → m ≤ ns.length → m < k → (∀ j, m ≤ j → at0 (mods p ns) j = 0) →
    ∃ m', whileL t__law_are_periods_right_2 l__law_are_periods_right_2 k [o, some (.fz (.int p)), some (.fz (.tuple (ns.map .int))), a, b, c, d, some (.fz (.int M))] = .nx [o, some (.fz (.int p)), some (.fz (.tuple (ns.map .int))), a, b, c, d, some (.fz (.int (m' : Nat)))] ∧ IsTrim (mods p ns) m'
  | 0, m, _, _, _, h, _ => by omega
  | k + 1, 0, _, rfl, _, _, hz => ⟨0, by rw [whileL_succ]; simp [t__law_are_periods_right_2], Nat.zero_le _, hz, .inl rfl⟩
  | k + 1, m + 1, _, rfl, hl, hk, hz => by
    have ha := atI_list (ns := ns) (j := m) (by omega)
    by_cases h0 : at0 (mods p ns) m = 0
    · obtain ⟨m', e, q⟩ := many_loop hp ns o a b c d k m (((m + 1 : Nat) : Int) - 1) (by omega) (by omega) (by omega) (fun j hj => by
        by_cases hj2 : j = m
        · rw [hj2, h0]
        · exact hz j (by omega))
      refine ⟨m', ?_, q⟩
      rw [at0_mods] at h0
      rw [whileL_succ]
      have ht : t__law_are_periods_right_2 [o, some (.fz (.int p)), some (.fz (.tuple (ns.map .int))), a, b, c, d, some (.fz (.int ((m + 1 : Nat) : Int)))] = .ok true [o, some (.fz (.int p)), some (.fz (.tuple (ns.map .int))), a, b, c, d, some (.fz (.int ((m + 1 : Nat) : Int)))] := by
        simp [-modD_int, t__law_are_periods_right_2, show (0 : Int) < m + 1 by omega, ha, modP hp, h0]
      rw [ht]
      simp only [Res.toS_ok, k_WhT]
      rw [← e]
      simp [l__law_are_periods_right_2]
    · refine ⟨m + 1, ?_, by simpa [mods] using hl, hz, .inr h0⟩
      rw [at0_mods] at h0
      rw [whileL_succ]
      simp [-modD_int, t__law_are_periods_right_2, show (0 : Int) < m + 1 by omega, ha, modP hp, h0]
theorem turn {o : OD} (hb : Bag o) (hp : P4 p) (sh : D) (t f a oth : Option OD) : ∃ o' f' a' oth', l__law_are_periods_right_1 [some o, some (.fz (.int p)), some (.fz sh), t, f, a, oth, none] = .nx [some o', some (.fz (.int p)), some (.fz sh), t, f', a', oth', none] ∧ Bag o' := by
  obtain ⟨ns, m, o1, e1, ht, hl, b1⟩ := kept_fall hb hp
  have e2 := is_period_right hp hl ht
  have stepC : ∀ (o : OD) (M : List Int) (x : Int), x % (p : Int) ≠ 0 → M.length + 1 ≤ 20 → (sIf (kNot (kVal (eFrz (oCall [none, none, none] (aCons (eVar 1) (aCons (eVar 6) (aCons (eFrz (oBlt (one lenD) (aCons (eVar 6) aNil))) aNil))) (noexF m__law_is_period_right))))) (sRet (oFz (eC (.bool false)))) sNx)
      [some o, some (.fz (.int p)), some (.fz sh), t, some (.fz (.tuple (ns.map .int))), some (.fz (.int m)), some (.fz (.tuple ((M ++ [x]).map .int))), none] = .nx [some o, some (.fz (.int p)), some (.fz sh), t, some (.fz (.tuple (ns.map .int))), some (.fz (.int m)), some (.fz (.tuple ((M ++ [x]).map .int))), none] := fun o M x hx hM => by
    have e3 := is_period_right hp (ns := M ++ [x]) (by simpa using hM) (trim_last hx)
    have hlen : (((M ++ [x]).map PyData.int).length : Int) = ((M.length + 1 : Nat) : Int) := by simp
    simp [-List.map_append, -List.length_append, -List.length_map, hlen, -Int.natCast_add, e3]
  have eq0 : eqD (.tuple (ns.map PyData.int)) (.tuple []) = some (decide (ns = [])) := eqD_tup ns []
  have add1 : (ns.map PyData.int) ++ [.int 1] = (ns ++ [1]).map .int := by simp
  have add2 : (ns.dropLast.map PyData.int) ++ [.int ((p : Int) + 1)] = (ns.dropLast ++ [(p : Int) + 1]).map .int := by simp
  have c1 := cut_neg1 PyData.int ns
  have z1 : ns.length + 1 ≤ sizeLine := size_ok (by omega)
  have z2 : ns.length - 1 + 1 ≤ sizeLine := size_ok (by omega)
  unfold l__law_are_periods_right_1
  by_cases h20 : ns.length < 20
  · by_cases h0 : ns = []
    · refine ⟨o1, some (.fz (.tuple (ns.map .int))), some (.fz (.int m)), some (.fz (.tuple ((ns ++ [1]).map .int))), ?_, b1⟩
      have s3 := stepC o1 ns 1 (one_mod hp) (by omega)
      subst h0
      simp only [List.map_nil, List.nil_append, List.map_cons] at e1 e2 eq0 s3 ⊢
      rw [← s3]
      simp [e1, e2, eq0, show (1 : Nat) ≤ sizeLine from size_ok (by omega)]
    · obtain ⟨z, o2, e3, z0, z9, b2⟩ := drawS b1 (below := 2) (by omega) (by omega)
      by_cases hz : z = 0
      · refine ⟨o2, some (.fz (.tuple (ns.map .int))), some (.fz (.int m)), some (.fz (.tuple ((ns ++ [1]).map .int))), ?_, b2⟩
        rw [← stepC o2 ns 1 (one_mod hp) (by omega)]
        have w1 : ((ns.length : Nat) : Int) < 20 := by omega
        simp only [← add1]
        simp [e1, e2, w1, eq0, h0, e3, hz, z1]
      · refine ⟨o2, some (.fz (.tuple (ns.map .int))), some (.fz (.int m)), some (.fz (.tuple ((ns.dropLast ++ [(p : Int) + 1]).map .int))), ?_, b2⟩
        rw [← stepC o2 ns.dropLast ((p : Int) + 1) (p1_mod hp) (by simp; omega)]
        have w1 : ((ns.length : Nat) : Int) < 20 := by omega
        simp only [← add2]
        simp [-List.map_dropLast, e1, e2, w1, eq0, h0, e3, hz, c1, z2]
  · refine ⟨o1, some (.fz (.tuple (ns.map .int))), some (.fz (.int m)), some (.fz (.tuple ((ns.dropLast ++ [(p : Int) + 1]).map .int))), ?_, b1⟩
    rw [← stepC o1 ns.dropLast ((p : Int) + 1) (p1_mod hp) (by simp; omega)]
    have w1 : ¬ ((ns.length : Nat) : Int) < 20 := by omega
    simp only [← add2]
    simp [-List.map_dropLast, e1, e2, w1, c1, z2]
theorem are_periods_right {o : OD} (hb : Bag o) (hp : P4 p) {ns : List Int} (hl : ns.length ≤ 20) : ∃ o', m__law_are_periods_right [o, .fz (.int p), .fz (.tuple (ns.map .int))] = .ok (.fz (.bool true)) [some o', none, none] ∧ Bag o' := by
  obtain ⟨s', e', h'⟩ := forL_inv (g := gN 3) (h := l__law_are_periods_right_1)
    (fun _ s => ∃ o t f a oth, s = [some o, some (.fz (.int p)), some (.fz (.tuple (ns.map .int))), t, f, a, oth, none] ∧ Bag o)
    (upto 0 2) 0 [some o, some (.fz (.int p)), some (.fz (.tuple (ns.map .int))), none, none, none, none, none] ⟨o, none, none, none, none, rfl, hb⟩ (by
      rintro i d s hd ⟨o, t, f, a, oth, rfl, hb⟩
      obtain ⟨o', f', a', oth', e, b'⟩ := turn hb hp (.tuple (ns.map .int)) (some (.fz d)) f a oth
      exact ⟨_, _, rfl, .inl e, o', _, _, _, _, rfl, b'⟩)
  obtain ⟨o1, t, f, a, oth, rfl, b1⟩ := h'
  obtain ⟨m, e2, ht⟩ := many_loop hp ns (some o1) t f a oth fuel ns.length ns.length rfl (Nat.le_refl _) (by unfold fuel; omega) (fun j hj => at0_big (by simpa [mods] using hj))
  have e3 := is_period_right hp hl ht
  have e4 := fall_period hp (ns := []) (by simp) (m := 0) ⟨Nat.zero_le _, fun j _ => at0_big (by simp [mods]), .inl rfl⟩
  have e5 := is_dueN (r := 1) (by omega)
  have lp0 : lp p 0 = 1 := rfl
  refine ⟨o1, ?_, b1⟩
  unfold m__law_are_periods_right b__law_are_periods_right
  rw [lp0] at e4
  simp at e4 e5
  simp [-k_Rg1, rg_nat (n := 2) 2 rfl (by omega), e', e2, e3, e4, e5]
end
end G_k82

set_option Elab.async false
set_option linter.all false
set_option autoImplicit false
set_option maxRecDepth 100000
namespace G_k82
open PySem PySem.Spec L2 MI Bin
theorem choice_loop {p : Nat} (hp : P4 p) (sc sh k pr : Option OD) (o : Option OD) : ∀ (ps : List (Nat × Nat)) (a b : Option OD), (∀ q ∈ ps, q.1 < 2 ^ 110 ∧ q.2 < 2 ^ 110) →
    ∃ a' b', forL (gT 2 (gsCons (gN 7) (gsCons (gN 8) gsNil))) l_law_1 (ps.map pairD) [sc, o, some (.fz RD), sh, k, some (.fz (.int p)), pr, a, b] = .nx [sc, o, some (.fz RD), sh, k, some (.fz (.int p)), pr, a', b']
  | [], a, b, _ => ⟨a, b, rfl⟩
  | q :: ps, a, b, h => by
    obtain ⟨h1, h2⟩ := h q (by simp)
    have e := is_choice_right hp h1 h2
    obtain ⟨a', b', e'⟩ := choice_loop hp sc sh k pr o ps (some (.fz (.int q.1))) (some (.fz (.int q.2))) (fun r hr => h r (by simp [hr]))
    refine ⟨a', b', ?_⟩
    rw [← e', List.map_cons, forL_cons]
    simp [pairD, l_law_1, e]
theorem prime_turn {p : Nat} (hp : P4 p) {o : OD} (hb : Bag o) {ns : List Int} (hl : ns.length ≤ 20) (sc k pr a b : Option OD) : ∃ o' pr' a' b', l_law_2 [sc, some o, some (.fz RD), some (.fz (.tuple (ns.map .int))), k, some (.fz (.int p)), pr, a, b] = .nx [sc, some o', some (.fz RD), some (.fz (.tuple (ns.map .int))), k, some (.fz (.int p)), pr', a', b'] ∧ Bag o' := by
  obtain ⟨ps, o1, e1, hps, hlen, b1⟩ := pairs hb hp
  obtain ⟨a', b', e2⟩ := choice_loop hp sc (some (.fz (.tuple (ns.map .int)))) k (some (.fz (.list (ps.map pairD)))) (some o1) (ps ++ ps.take 2) a b (by
    intro q hq
    rcases List.mem_append.mp hq with h | h
    · exact hps q h
    · exact hps q (List.mem_of_mem_take h))
  obtain ⟨o2, e3, b2⟩ := are_periods_right b1 hp hl
  refine ⟨o2, some (.fz (.list (ps.map pairD))), a', b', ?_, b2⟩
  have ct : cutD (ps.map pairD) none (some 2) = (ps.take 2).map pairD := cut_to pairD ps 2
  have sz : ps.length + min 2 ps.length ≤ sizeLine := size_ok (by omega)
  rw [List.map_append] at e2
  unfold l_law_2
  simp [-List.map_take, e1, ct, sz, e2, e3]
theorem law_holds (ns : List Int) (hl : ns.length ≤ 63) : ∃ s, m_law [.fz (lockD (ns.map PyData.int))] = .ok (.fz (.bool true)) s := by
  obtain ⟨o, e1, hb⟩ := own_bag ns hl
  obtain ⟨r, o1, e2, r0, r1, b1⟩ := drawS hb (below := 20) (by omega) (by omega)
  obtain ⟨r, rfl⟩ := Int.eq_ofNat_of_zero_le r0
  obtain ⟨ys, s', e3, ⟨o2, rfl, b2⟩, ly, py⟩ := lcL_inv (ow := [false, false, false, false, true, false, false, false, false]) (g := gN 4) (e := eFrz (oCall [some 1, none] (aRef 1 (aCons (eFrz (oOp2 powD (eC (.int 10)) (eC (.int 30)))) aNil)) (noexF m__law_number)))
    (fun s => ∃ o, s = [some (.fz (lockD (ns.map PyData.int))), some o, some (.fz RD), none, none, none, none, none, none] ∧ Bag o) (fun d => ∃ n : Int, d = .int n) (upto 0 r) [] [some (.fz (lockD (ns.map PyData.int))), some o1, some (.fz RD), none, none, none, none, none, none] ⟨o1, rfl, b1⟩ (size_ok (by simp; omega)) (by
      rintro d hd s ⟨o, rfl, hb⟩
      obtain ⟨q, o', e, _, b'⟩ := number hb (most := 10 ^ 30) (by decide)
      simp at e
      refine ⟨_, .int q, [some (.fz (lockD (ns.map PyData.int))), some o', some (.fz RD), none, some (.fz d), none, none, none, none], rfl, ?_, ⟨q, rfl⟩, o', rfl, b'⟩
      simp [e])
  obtain ⟨S0, rfl⟩ := all_ints py
  rw [upto_length, List.length_map] at ly
  obtain ⟨d, o3, e4, hd, b3⟩ := pick b2 (ds := [.int 1, .int 2, .int 3, .int 5, .int 7, .int 6, .int 210, .int (-1000000000000000000000000000000)]) (by simp) (by simp)
  obtain ⟨x, rfl⟩ : ∃ n : Int, d = .int n := by
    simp at hd
    rcases hd with rfl | rfl | rfl | rfl | rfl | rfl | rfl | rfl <;> exact ⟨_, rfl⟩
  have hS : (S0 ++ [x]).length ≤ 20 := by simp; omega
  have addS : S0.map PyData.int ++ [.int x] = (S0 ++ [x]).map .int := by simp
  obtain ⟨s', e5, h5⟩ := forL_inv (g := gN 5) (h := l_law_2)
    (fun _ s => ∃ o p pr a b, s = [some (.fz (lockD (ns.map PyData.int))), some o, some (.fz RD), some (.fz (.tuple ((S0 ++ [x]).map .int))), none, p, pr, a, b] ∧ Bag o)
    [.int 2, .int 3, .int 5, .int 7] 0 [some (.fz (lockD (ns.map PyData.int))), some o3, some (.fz RD), some (.fz (.tuple ((S0 ++ [x]).map .int))), none, none, none, none, none] ⟨o3, none, none, none, none, rfl, b3⟩ (by
      rintro i d s hd ⟨o, p, pr, a, b, rfl, hb⟩
      obtain ⟨q, hq, rfl⟩ : ∃ q : Nat, P4 q ∧ d = .int q := by
        have := List.mem_of_getElem? hd
        simp at this
        rcases this with rfl | rfl | rfl | rfl
        · exact ⟨2, .inl rfl, rfl⟩
        · exact ⟨3, .inr (.inl rfl), rfl⟩
        · exact ⟨5, .inr (.inr (.inl rfl)), rfl⟩
        · exact ⟨7, .inr (.inr (.inr rfl)), rfl⟩
      obtain ⟨o', pr', a', b', e, hb'⟩ := prime_turn hq hb hS (some (.fz (lockD (ns.map PyData.int)))) none pr a b
      exact ⟨_, _, rfl, .inl e, o', _, _, _, _, rfl, hb'⟩)
  obtain ⟨o4, p4, pr4, a4, b4', rfl, b4⟩ := h5
  have e6 := fall_period (p := 7) (.inr (.inr (.inr rfl))) (ns := List.replicate 19 1 ++ [1]) (by simp) (trim_last (by decide))
  have e7 := is_dueN (r := 49) (by omega)
  have e8 := fall_period (p := 2) (.inl rfl) (ns := S0 ++ [1]) (by simp; omega) (trim_last (by decide))
  have e9 := least_power (p := 2) (.inl rfl) (m := S0.length + 1) (by omega)
  have e10 := is_dueN (r := lp 2 (S0.length + 1)) (by have := lp_le (p := 2) (.inl rfl) (m := S0.length + 1) (by omega); omega)
  have l49 : lp 7 ((List.replicate 19 (1 : Int)).length + 1) = 49 := by decide
  rw [l49] at e6
  have e6 : m_fall_period [.fz (.int 7), .fz (.tuple ((List.replicate 19 (1 : Int) ++ [1]).map .int))] = .ok (.fz (.int 49)) [none, none] := e6
  have e7 : m__law_is_due [.fz (.int 49), .fz (.int 49)] = .ok (.fz (.bool true)) [none, none] := e7
  have e8 : m_fall_period [.fz (.int 2), .fz (.tuple ((S0 ++ [1]).map .int))] = .ok (.fz (.int (lp 2 (S0.length + 1) : Nat))) [none, none] := e8
  have e9 : m__law_least_power [.fz (.int 2), .fz (.int ((S0.length + 1 : Nat) : Int))] = .ok (.fz (.int (lp 2 (S0.length + 1) : Nat))) [none, none] := e9
  have cn := cut_neg1 PyData.int (S0 ++ [x])
  rw [List.dropLast_concat] at cn
  have sz1 : S0.length + 1 ≤ sizeLine := size_ok (by omega)
  have sz2 : (S0.map PyData.int).length + 1 ≤ sizeLine := by rw [List.length_map]; exact sz1
  have hlen : (((S0 ++ [x]).map PyData.int).length : Int) = ((S0.length + 1 : Nat) : Int) := by simp
  have add1 : S0.map PyData.int ++ [.int 1] = (S0 ++ [1]).map .int := by simp
  have rep : (List.replicate 20 [PyData.int 1]).flatten = (List.replicate 19 (1 : Int) ++ [1]).map .int := rfl
  have mt : mulD (.tuple [.int 1]) (.int 20) = some (.fz (.tuple ((List.replicate 19 (1 : Int) ++ [1]).map .int))) := rfl
  refine ⟨[none], ?_⟩
  unfold m_law b_law
  show Out.fin [false] (sSeq _ _ [some (.fz (lockD (ns.map PyData.int))), none, none, none, none, none, none, none, none]) = _
  refine seq_fin (s' := [some (.fz (lockD (ns.map PyData.int))), some o, some (.fz RD), none, none, none, none, none, none]) (by simp [e1, rows_of_sums, RD]) ?_
  refine seq_fin (s' := [some (.fz (lockD (ns.map PyData.int))), some o2, some (.fz RD), some (.fz (.tuple (S0.map .int))), none, none, none, none, none]) (by simp [-k_Rg1, e2, rg_nat r rfl (show r ≤ 1000000 by omega), e3]) ?_
  refine seq_fin (s' := [some (.fz (lockD (ns.map PyData.int))), some o3, some (.fz RD), some (.fz (.tuple ((S0 ++ [x]).map .int))), none, none, none, none, none]) (by simp only [← addS]; simp [e4, sz1]) ?_
  refine seq_fin (s' := [some (.fz (lockD (ns.map PyData.int))), some o4, some (.fz RD), some (.fz (.tuple ((S0 ++ [x]).map .int))), none, p4, pr4, a4, b4']) (by simp [-List.map_append, e5]) ?_
  generalize (List.replicate 19 (1 : Int) ++ [1]).map PyData.int = Z at e6 mt
  simp [-List.map_append, -List.length_append, -List.length_map, -Int.natCast_add, -mulD_tup, mt, e6, e7, cn, add1, hlen, e8, e9, e10, sz2]
end G_k82

open PySem PySem.W PyProof.Rows
set_option maxHeartbeats 0 in
theorem PySem.Challenge.cw_leadterms_k82_whole_digits_and_period_holds : PySem.Challenge.rw_leadterms_k82_whole_digits_and_period.Holds := by
  w_on; o_law; k_head; (case hw => w_witness2)
  k_fill
  refine MI.ends_of (l := PySem.Challenge.rw_leadterms_k82_whole_digits_and_period) (n := 63) (k := 5) (x := "script") (sp := fun w => MI.spF _ MI.noEr false 1 G_k82.m_law) rfl (by decide) rfl ⟨rfl, by decide, by decide⟩ (fun w h Y => PySem.W.kIn_of Y) ?F (fun w H a ns hl hS => MI.law_true hS (G_k82.law_holds ns hl))
  case F =>
    intro w mg fa h KX G hmg
    refine' G_k82.all_mk KX G hmg ?a0 ?l0 ?c0 ?k0 ?a1 ?l1 ?c1 ?k1 ?a2 ?l2 ?c2 ?k2 ?a3 ?l3 ?c3 ?k3 ?a4 ?l4 ?c4 ?k4 ?a5 ?l5 ?c5 ?k5 ?a6 ?l6 ?c6 ?k6 ?a7 ?l7 ?c7 ?k7 ?a8 ?l8 ?c8 ?k8 ?a9 ?l9 ?c9 ?k9 ?a10 ?l10 ?c10 ?k10 ?a11 ?l11 ?c11 ?k11 ?a12 ?l12 ?c12 ?k12 ?a13 ?l13 ?c13 ?k13 ?a14 ?l14 ?c14 ?k14 ?a15 ?l15 ?c15 ?k15 ?a16 ?l16 ?c16 ?k16 ?a17 ?l17 ?c17 ?k17 ?a18 ?l18 ?c18 ?k18 ?a19 ?l19 ?c19 ?k19 ?a20 ?l20 ?c20 ?k20 ?a21 ?l21 ?c21 ?k21 ?a22 ?l22 ?c22 ?k22 ?z0 ?z1 ?z2 ?z3 ?z4 ?z5 ?z6 ?z7 ?z8 ?z9 ?z10 ?z11
    (case a0 => k_is); (case l0 => k_is); (case c0 => k_is); (case k0 => k_is); (case a1 => k_is); (case l1 => k_is); (case c1 => k_is); (case k1 => k_is); (case a2 => k_is); (case l2 => k_is); (case c2 => k_is); (case k2 => k_is); (case a3 => k_is); (case l3 => k_is); (case c3 => k_is); (case k3 => k_is); (case a4 => k_is); (case l4 => k_is); (case c4 => k_is); (case k4 => k_is); (case a5 => k_is); (case l5 => k_is); (case c5 => k_is); (case k5 => k_is); (case a6 => k_is); (case l6 => k_is); (case c6 => k_is); (case k6 => k_is); (case a7 => k_is); (case l7 => k_is); (case c7 => k_is); (case k7 => k_is); (case a8 => k_is); (case l8 => k_is); (case c8 => k_is); (case k8 => k_is); (case a9 => k_is); (case l9 => k_is); (case c9 => k_is); (case k9 => k_is); (case a10 => k_is); (case l10 => k_is); (case c10 => k_is); (case k10 => k_is); (case a11 => k_is); (case l11 => k_is); (case c11 => k_is); (case k11 => k_is); (case a12 => k_is); (case l12 => k_is); (case c12 => k_is); (case k12 => k_is); (case a13 => k_is); (case l13 => k_is); (case c13 => k_is); (case k13 => k_is); (case a14 => k_is); (case l14 => k_is); (case c14 => k_is); (case k14 => k_is); (case a15 => k_is); (case l15 => k_is); (case c15 => k_is); (case k15 => k_is); (case a16 => k_is); (case l16 => k_is); (case c16 => k_is); (case k16 => k_is); (case a17 => k_is); (case l17 => k_is); (case c17 => k_is); (case k17 => k_is); (case a18 => k_is); (case l18 => k_is); (case c18 => k_is); (case k18 => k_is); (case a19 => k_is); (case l19 => k_is); (case c19 => k_is); (case k19 => k_is); (case a20 => k_is); (case l20 => k_is); (case c20 => k_is); (case k20 => k_is); (case a21 => k_is); (case l21 => k_is); (case c21 => k_is); (case k21 => k_is); (case a22 => k_is); (case l22 => k_is); (case c22 => k_is); (case k22 => k_is); (case z0 => k_is); (case z1 => k_is); (case z2 => k_is); (case z3 => k_is); (case z4 => k_is); (case z5 => k_is); (case z6 => k_is); (case z7 => k_is); (case z8 => k_is); (case z9 => k_is); (case z10 => k_is); (case z11 => k_is)


