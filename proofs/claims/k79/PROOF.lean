import PyProof.Rows.All
import Wide.All
import OpenK.AllK
import Wide.FinOn
import HandS.ForMost
import HandS.Wide
import HandS.Exc
import HandS.CallSlots
import HandS.Style
import HandS.TupAny
import HandS.TupLe
import HandS.WideBits
import HandS.IsInst
import HandS.SortInts
import HandS.Conv
import HandS.RaiseMore
import HandS.TupMul
import HandS.Rev
import HandS.Zip
import HandS.Gcd
import KE.GoesEnum
import KE.GoesMore
import HandS.IterVal
import KE.GoesZip
import PyProof.Rows.Digits
import PyProof.ReprRoads
import HandS.Dict
import PyProof.ReprDict
import PyProof.StrBlock2
import PyProof.ReprBulk
import PySem.Challenge.RW_leadterms_k79_whole_steps_and_values
set_option Elab.async false
set_option linter.all false
set_option autoImplicit false
set_option maxRecDepth 100000
/-! MI: a functional layer over HandS. Data, representation, the frame relation. -/
namespace MI
open PySem PySem.Spec L2

abbrev D := PyData

/-! ### keys -/
def keyD : Key → D
  | .inl i => .int i
  | .inr x => .str x
def tkeyD (k : List Key) : D := .tuple (k.map keyD)

/-! ### data over a heap view -/
mutual
inductive Dr (K : PySem.W.Frag) (Y : Hp) : V → D → Prop
  | non : Dr K Y .non .none
  | bl (b : Bool) : Dr K Y (.bl b) (.bool b)
  | int (i : Int) : Dr K Y (.int i) (.int i)
  | str (x : Str) : Dr K Y (.str x) (.str x)
  | lst {a : Addr} {xs : List V} {ds : List D} : Y a = some (.lst xs) → DrAll K Y xs ds → Dr K Y (.ref a) (.list ds)
  /-- a list that is locked (the script) -/
  | lck {a : Addr} {xs : List V} {ds : List D} : SqL K Y a xs → DrAll K Y xs ds → Dr K Y (.ref a) (.dict [(.none, .list ds)])
  | tup {a : Addr} {xs : List V} {ds : List D} : SqT K Y a xs → DrAll K Y xs ds → Dr K Y (.ref a) (.tuple ds)
  | dk {a : Addr} {kvs : List (Key × V)} {ds : List D} : Y a = some (.dK kvs) → DrAll K Y (kvs.map (·.2)) ds → Dr K Y (.ref a) (.dict ((kvs.map fun p => keyD p.1).zip ds))
  | dt {a : Addr} {kvs : List (List Key × V)} {ds : List D} : Y a = some (.dT kvs) → DrAll K Y (kvs.map (·.2)) ds → Dr K Y (.ref a) (.dict ((kvs.map fun p => tkeyD p.1).zip ds))
inductive DrAll (K : PySem.W.Frag) (Y : Hp) : List V → List D → Prop
  | nil : DrAll K Y [] []
  | cons {v : V} {vs : List V} {d : D} {ds : List D} : Dr K Y v d → DrAll K Y vs ds → DrAll K Y (v :: vs) (d :: ds)
end

theorem Same.sqt {K : PySem.W.Frag} {H H' : Hp} {a : Addr} {xs : List V} (e : Same H H') (h : SqT K H a xs) : SqT K H' a xs := by
  rcases h with (h | ⟨o, h⟩) | h
  · exact .inl (.inl (e _ _ h))
  · exact .inl (.inr ⟨o, e _ _ h⟩)
  · exact .inr h

mutual
theorem Dr.mono {K : PySem.W.Frag} {Y Y' : Hp} (e : Same Y Y') : ∀ {v : V} {d : D}, Dr K Y v d → Dr K Y' v d
  | _, _, .non => .non
  | _, _, .bl b => .bl b
  | _, _, .int i => .int i
  | _, _, .str x => .str x
  | _, _, .lst h t => .lst (e _ _ h) (DrAll.mono e t)
  | _, _, .lck h t => .lck (e.seq h) (DrAll.mono e t)
  | _, _, .tup h t => .tup (Same.sqt e h) (DrAll.mono e t)
  | _, _, .dk h t => .dk (e _ _ h) (DrAll.mono e t)
  | _, _, .dt h t => .dt (e _ _ h) (DrAll.mono e t)
theorem DrAll.mono {K : PySem.W.Frag} {Y Y' : Hp} (e : Same Y Y') : ∀ {vs : List V} {ds : List D}, DrAll K Y vs ds → DrAll K Y' vs ds
  | _, _, .nil => .nil
  | _, _, .cons h t => .cons (h.mono e) (t.mono e)
end

theorem DrAll.length {K : PySem.W.Frag} {Y : Hp} : ∀ {vs : List V} {ds : List D}, DrAll K Y vs ds → vs.length = ds.length
  | _, _, .nil => rfl
  | _, _, .cons _ t => by rw [List.length_cons, List.length_cons, t.length]
theorem DrAll.append {K : PySem.W.Frag} {Y : Hp} : ∀ {vs ws : List V} {ds es : List D}, DrAll K Y vs ds → DrAll K Y ws es → DrAll K Y (vs ++ ws) (ds ++ es)
  | _, _, _, _, .nil, h => h
  | _, _, _, _, .cons a t, h => .cons a (t.append h)
theorem DrAll.get {K : PySem.W.Frag} {Y : Hp} : ∀ {vs : List V} {ds : List D} {i : Nat} {d : D}, DrAll K Y vs ds → ds[i]? = some d → ∃ v, vs[i]? = some v ∧ Dr K Y v d
  | _, _, _, _, .nil, e => by simp at e
  | _, _, 0, _, .cons h _, e => by simp at e; subst e; exact ⟨_, rfl, h⟩
  | _, _, i + 1, _, .cons _ t, e => by
    obtain ⟨v, h1, h2⟩ := t.get (i := i) (by simpa using e)
    exact ⟨v, by simpa using h1, h2⟩
theorem DrAll.getV {K : PySem.W.Frag} {Y : Hp} : ∀ {vs : List V} {ds : List D} {i : Nat} {v : V}, DrAll K Y vs ds → vs[i]? = some v → ∃ d, ds[i]? = some d ∧ Dr K Y v d
  | _, _, _, _, .nil, e => by simp at e
  | _, _, 0, _, .cons h _, e => by simp at e; subst e; exact ⟨_, rfl, h⟩
  | _, _, i + 1, _, .cons _ t, e => by
    obtain ⟨v, h1, h2⟩ := t.getV (i := i) (by simpa using e)
    exact ⟨v, by simpa using h1, h2⟩
theorem DrAll.set {K : PySem.W.Frag} {Y : Hp} {v : V} {d : D} (h : Dr K Y v d) : ∀ {vs : List V} {ds : List D} (i : Nat), DrAll K Y vs ds → DrAll K Y (vs.set i v) (ds.set i d)
  | _, _, _, .nil => .nil
  | _, _, 0, .cons _ t => .cons h t
  | _, _, i + 1, .cons a t => .cons a (t.set h i)
theorem DrAll.take {K : PySem.W.Frag} {Y : Hp} : ∀ {vs : List V} {ds : List D} (n : Nat), DrAll K Y vs ds → DrAll K Y (vs.take n) (ds.take n)
  | _, _, 0, _ => .nil
  | _, _, _ + 1, .nil => .nil
  | _, _, n + 1, .cons a t => .cons a (t.take n)
theorem DrAll.drop {K : PySem.W.Frag} {Y : Hp} : ∀ {vs : List V} {ds : List D} (n : Nat), DrAll K Y vs ds → DrAll K Y (vs.drop n) (ds.drop n)
  | _, _, 0, h => h
  | _, _, _ + 1, .nil => .nil
  | _, _, n + 1, .cons _ t => t.drop n
theorem DrAll.dropLast {K : PySem.W.Frag} {Y : Hp} : ∀ {vs : List V} {ds : List D}, DrAll K Y vs ds → DrAll K Y vs.dropLast ds.dropLast := fun {vs ds} h => by
  rw [List.dropLast_eq_take, List.dropLast_eq_take, h.length]
  exact h.take _
theorem DrAll.reverse {K : PySem.W.Frag} {Y : Hp} : ∀ {vs : List V} {ds : List D}, DrAll K Y vs ds → DrAll K Y vs.reverse ds.reverse
  | _, _, .nil => .nil
  | _, _, .cons a t => by
    rw [List.reverse_cons, List.reverse_cons]
    exact t.reverse.append (.cons a .nil)

/-! ### shapes told by the data -/
theorem Dr.int_inv {K : PySem.W.Frag} {Y : Hp} {v : V} {i : Int} (h : Dr K Y v (.int i)) : v = .int i := by cases h; rfl
theorem Dr.bool_inv {K : PySem.W.Frag} {Y : Hp} {v : V} {b : Bool} (h : Dr K Y v (.bool b)) : v = .bl b := by cases h; rfl
theorem Dr.str_inv {K : PySem.W.Frag} {Y : Hp} {v : V} {x : Str} (h : Dr K Y v (.str x)) : v = .str x := by cases h; rfl
theorem Dr.none_inv {K : PySem.W.Frag} {Y : Hp} {v : V} (h : Dr K Y v .none) : v = .non := by cases h; rfl
theorem Dr.list_inv {K : PySem.W.Frag} {Y : Hp} {v : V} {ds : List D} (h : Dr K Y v (.list ds)) : ∃ a xs, v = .ref a ∧ Y a = some (.lst xs) ∧ DrAll K Y xs ds := by
  cases h with | lst a b => exact ⟨_, _, rfl, a, b⟩
theorem Dr.tuple_inv {K : PySem.W.Frag} {Y : Hp} {v : V} {ds : List D} (h : Dr K Y v (.tuple ds)) : ∃ a xs, v = .ref a ∧ SqT K Y a xs ∧ DrAll K Y xs ds := by
  cases h with | tup a b => exact ⟨_, _, rfl, a, b⟩
theorem DrAll.ints {K : PySem.W.Frag} {Y : Hp} : ∀ {vs : List V} {ns : List Int}, DrAll K Y vs (ns.map PyData.int) → vs = ns.map V.int
  | _, [], h => by cases h; rfl
  | _, n :: ns, h => by
    cases h with
    | cons a t => rw [a.int_inv, t.ints]; rfl
theorem DrAll.of_ints {K : PySem.W.Frag} {Y : Hp} : ∀ (ns : List Int), DrAll K Y (ns.map V.int) (ns.map PyData.int)
  | [] => .nil
  | n :: ns => .cons (.int n) (.of_ints ns)

def lockD (ds : List D) : D := .dict [(.none, .list ds)]
theorem Dr.lock_inv {K : PySem.W.Frag} {Y : Hp} {v : V} {ds : List D} (h : Dr K Y v (lockD ds)) : ∃ a xs, v = .ref a ∧ SqL K Y a xs ∧ DrAll K Y xs ds := by
  have key : ∀ (p : Key), keyD p ≠ .none := fun p => by cases p <;> (intro z; cases z)
  unfold lockD at h
  generalize e : PyData.dict [(PyData.none, PyData.list ds)] = d at h
  cases h with
  | lck a b =>
    injection e with e
    injection e with e1 _
    injection e1 with _ e2
    injection e2 with e2
    subst e2
    exact ⟨_, _, rfl, a, b⟩
  | @dk a kvs ds' h1 h2 =>
    injection e with e
    cases kvs with
    | nil => cases e
    | cons q r =>
      cases ds' with
      | nil => cases e
      | cons d ds' =>
        injection e with e1 _
        injection e1 with e1 _
        exact (key _ e1.symm).elim
  | @dt a kvs ds' h1 h2 =>
    injection e with e
    cases kvs with
    | nil => cases e
    | cons q r =>
      cases ds' with
      | nil => cases e
      | cons d ds' =>
        injection e with e1 _
        injection e1 with e1 _
        cases e1
  | _ => cases e

/-! ### data without lists or dicts: it leans on tuples alone -/
mutual
def free : D → Bool
  | .none => true
  | .bool _ => true
  | .int _ => true
  | .str _ => true
  | .list _ => false
  | .dict _ => false
  | .tuple ds => freeAll ds
def freeAll : List D → Bool
  | [] => true
  | d :: ds => free d && freeAll ds
end
theorem freeAll_iff : ∀ {ds : List D}, freeAll ds = true ↔ ∀ d ∈ ds, free d = true
  | [] => by simp [freeAll]
  | d :: ds => by
    rw [freeAll, Bool.and_eq_true, freeAll_iff]
    simp
theorem freeAll_append {xs ys : List D} : freeAll (xs ++ ys) = (freeAll xs && freeAll ys) := by
  rw [Bool.eq_iff_iff, Bool.and_eq_true, freeAll_iff, freeAll_iff, freeAll_iff]
  simp only [List.mem_append]
  exact ⟨fun h => ⟨fun d q => h d (.inl q), fun d q => h d (.inr q)⟩, fun h d q => q.elim (h.1 d) (h.2 d)⟩
theorem freeAll_map {α : Type} {f : α → D} (h : ∀ a, free (f a) = true) (xs : List α) : freeAll (xs.map f) = true := by
  rw [freeAll_iff]
  intro d hd
  obtain ⟨a, _, rfl⟩ := List.mem_map.mp hd
  exact h a

/-! the view without the addresses in G -/
open Classical in
noncomputable def cut (Y : Hp) (G : Addr → Prop) : Hp := fun a => if G a then none else Y a
theorem cut_in {Y : Hp} {G : Addr → Prop} {a : Addr} (h : G a) : cut Y G a = none := by unfold cut; rw [if_pos h]
theorem cut_out {Y : Hp} {G : Addr → Prop} {a : Addr} (h : ¬ G a) : cut Y G a = Y a := by unfold cut; rw [if_neg h]
theorem cut_same {Y : Hp} {G : Addr → Prop} : Same (cut Y G) Y := fun a o h => by
  by_cases g : G a
  · rw [cut_in g] at h; cases h
  · rw [cut_out g] at h; exact h
/-- no tuple stands in G -/
def NoTup (Y : Hp) (G : Addr → Prop) : Prop := ∀ a xs, G a → ¬ Rd Y a (.tup xs)
theorem cut_sqt {K : PySem.W.Frag} {Y : Hp} {G : Addr → Prop} {a : Addr} {xs : List V} (n : NoTup Y G) (h : SqT K Y a xs) : SqT K (cut Y G) a xs := by
  rcases h with h | h
  · have g : ¬ G a := fun g => n a xs g h
    refine .inl ?_
    rcases h with h | ⟨o, h⟩
    · exact .inl (by rw [cut_out g]; exact h)
    · exact .inr ⟨o, by rw [cut_out g]; exact h⟩
  · exact .inr h
mutual
theorem Dr.cut {K : PySem.W.Frag} {Y : Hp} {G : Addr → Prop} (n : NoTup Y G) : ∀ {v : V} {d : D}, Dr K Y v d → free d = true → Dr K (cut Y G) v d
  | _, _, .non, _ => .non
  | _, _, .bl b, _ => .bl b
  | _, _, .int i, _ => .int i
  | _, _, .str x, _ => .str x
  | _, _, .lst _ _, f => by simp [free] at f
  | _, _, .lck _ _, f => by simp [free] at f
  | _, _, .tup h t, f => .tup (cut_sqt n h) (DrAll.cut n t (by simpa [free] using f))
  | _, _, .dk _ _, f => by simp [free] at f
  | _, _, .dt _ _, f => by simp [free] at f
theorem DrAll.cut {K : PySem.W.Frag} {Y : Hp} {G : Addr → Prop} (n : NoTup Y G) : ∀ {vs : List V} {ds : List D}, DrAll K Y vs ds → freeAll ds = true → DrAll K (cut Y G) vs ds
  | _, _, .nil, _ => .nil
  | _, _, .cons h t, f => by
    rw [freeAll, Bool.and_eq_true] at f
    exact .cons (h.cut n f.1) (t.cut n f.2)
end

/-! ### owned values -/
inductive OD where
  | fz (d : D)
  | ol (xs : List D)
  | on (xs : List OD)
  | od (kvs : List (D × D))
mutual
def OD.frz : OD → D
  | .fz d => d
  | .ol xs => .list xs
  | .on xs => .list (frzAll xs)
  | .od kvs => .dict kvs
def frzAll : List OD → List D
  | [] => []
  | o :: os => o.frz :: frzAll os
end
theorem frzAll_length : ∀ {os : List OD}, (frzAll os).length = os.length
  | [] => rfl
  | _ :: os => by rw [frzAll, List.length_cons, List.length_cons, frzAll_length]
theorem frzAll_get : ∀ {os : List OD} {i : Nat}, (frzAll os)[i]? = os[i]?.map OD.frz
  | [], _ => by simp [frzAll]
  | o :: os, 0 => by simp [frzAll]
  | o :: os, i + 1 => by
    rw [frzAll]
    simpa using frzAll_get (os := os) (i := i)
mutual
/-- the leaves are free data -/
def OD.free : OD → Bool
  | .fz d => MI.free d
  | .ol xs => freeAll xs
  | .on xs => ofreeAll xs
  | .od kvs => freeAll (kvs.map (·.1)) && freeAll (kvs.map (·.2))
def ofreeAll : List OD → Bool
  | [] => true
  | o :: os => o.free && ofreeAll os
end
theorem ofreeAll_iff : ∀ {os : List OD}, ofreeAll os = true ↔ ∀ o ∈ os, o.free = true
  | [] => by simp [ofreeAll]
  | o :: os => by
    rw [ofreeAll, Bool.and_eq_true, ofreeAll_iff]
    simp

/-- v is od: its leaves over Y, its own objects (F) at H -/
inductive RO (K : PySem.W.Frag) (Y H : Hp) : V → OD → (Addr → Prop) → Prop
  | fz {v : V} {d : D} : Dr K Y v d → RO K Y H v (.fz d) (fun _ => False)
  | ol {p : Addr} {vs : List V} {ds : List D} : H p = some (.lst vs) → DrAll K Y vs ds → RO K Y H (.ref p) (.ol ds) (fun a => a = p)
  | on {p : Addr} {vs : List V} {os : List OD} (g : Nat → Addr → Prop) : H p = some (.lst vs) → vs.length = os.length →
      (∀ i o v, os[i]? = some o → vs[i]? = some v → RO K Y H v o (g i)) → (∀ i, ¬ g i p) → (∀ i j a, g i a → g j a → i = j) → (∀ i a, g i a → i < os.length) →
      RO K Y H (.ref p) (.on os) (fun a => a = p ∨ ∃ i, g i a)
  | dk {p : Addr} {kvs : List (Key × V)} {ds : List D} : H p = some (.dK kvs) → DrAll K Y (kvs.map (·.2)) ds → RO K Y H (.ref p) (.od ((kvs.map fun q => keyD q.1).zip ds)) (fun a => a = p)
  | dt {p : Addr} {kvs : List (List Key × V)} {ds : List D} : H p = some (.dT kvs) → DrAll K Y (kvs.map (·.2)) ds → RO K Y H (.ref p) (.od ((kvs.map fun q => tkeyD q.1).zip ds)) (fun a => a = p)

/-- an object that may be owned -/
def Ownable : HO → Prop
  | .lst _ => True
  | .dK _ => True
  | .dT _ => True
  | _ => False
theorem RO.ownable {K : PySem.W.Frag} {Y H : Hp} {v : V} {o : OD} {F : Addr → Prop} (r : RO K Y H v o F) : ∀ a, F a → ∃ u, H a = some u ∧ Ownable u := by
  induction r with
  | fz h => intro a f; exact f.elim
  | ol h t => rintro a rfl; exact ⟨_, h, trivial⟩
  | on g h hl hi hp hd hb ih =>
    rintro a (rfl | ⟨i, f⟩)
    · exact ⟨_, h, trivial⟩
    · have hlt := hb i a f
      exact ih i _ _ (List.getElem?_eq_getElem hlt) (List.getElem?_eq_getElem (by omega)) a f
  | dk h t => rintro a rfl; exact ⟨_, h, trivial⟩
  | dt h t => rintro a rfl; exact ⟨_, h, trivial⟩

theorem RO.mono {K : PySem.W.Frag} {Y H Y' H' : Hp} {v : V} {o : OD} {F : Addr → Prop} (r : RO K Y H v o F) (e : Same Y Y') (k : ∀ a, F a → H' a = H a) : RO K Y' H' v o F := by
  induction r with
  | fz h => exact .fz (h.mono e)
  | ol h t => exact .ol ((k _ rfl).trans h) (t.mono e)
  | on g h hl hi hp hd hb ih => exact .on g ((k _ (.inl rfl)).trans h) hl (fun i o v ho hv => ih i o v ho hv fun a f => k a (.inr ⟨i, f⟩)) hp hd hb
  | dk h t => exact .dk ((k _ rfl).trans h) (t.mono e)
  | dt h t => exact .dt ((k _ rfl).trans h) (t.mono e)
theorem RO.toD {K : PySem.W.Frag} {Y H Y' : Hp} {v : V} {o : OD} {F : Addr → Prop} (r : RO K Y H v o F) (e : Same Y Y') (k : ∀ a, F a → Y' a = H a) : Dr K Y' v o.frz := by
  induction r with
  | fz h => exact h.mono e
  | ol h t => exact .lst ((k _ rfl).trans h) (t.mono e)
  | @on p vs os g h hl hi hp hd hb ih =>
    refine .lst ((k _ (.inl rfl)).trans h) ?_
    have all : ∀ (n : Nat) (ws : List V) (ps : List OD), ws = vs.drop n → ps = os.drop n → DrAll K Y' ws (frzAll ps) := by
      intro n ws
      induction ws generalizing n with
      | nil =>
        intro ps e1 e2
        have z : os.length ≤ n := by
          rw [← hl]
          have := congrArg List.length e1
          rw [List.length_nil, List.length_drop] at this
          omega
        rw [e2, List.drop_eq_nil_of_le z]
        exact .nil
      | cons w ws iw =>
        intro ps e1 e2
        have hn : n < vs.length := by
          have := congrArg List.length e1
          rw [List.length_cons, List.length_drop] at this
          omega
        have hn2 : n < os.length := by omega
        rw [List.drop_eq_getElem_cons hn] at e1
        rw [List.drop_eq_getElem_cons hn2] at e2
        injection e1 with a1 a2
        subst e2
        rw [frzAll]
        refine .cons ?_ (iw (n + 1) _ a2 rfl)
        rw [a1]
        exact ih n _ _ (List.getElem?_eq_getElem hn2) (List.getElem?_eq_getElem hn) fun a f => k a (.inr ⟨n, f⟩)
    exact all 0 vs os rfl rfl
  | dk h t => exact .dk ((k _ rfl).trans h) (t.mono e)
  | dt h t => exact .dt ((k _ rfl).trans h) (t.mono e)
theorem freeAll_zip : ∀ {xs ys : List D}, xs.length = ys.length → freeAll ((xs.zip ys).map (·.2)) = freeAll ys
  | [], [], _ => rfl
  | x :: xs, y :: ys, h => by
    rw [List.zip_cons_cons, List.map_cons, freeAll, freeAll, freeAll_zip (by simpa using h)]
  | [], _ :: _, h => by simp at h
  | _ :: _, [], h => by simp at h
theorem RO.cut {K : PySem.W.Frag} {Y H : Hp} {v : V} {o : OD} {F G : Addr → Prop} (r : RO K Y H v o F) (n : NoTup Y G) (f : o.free = true) : RO K (cut Y G) H v o F := by
  induction r with
  | fz h => exact .fz (h.cut n f)
  | ol h t => exact .ol h (t.cut n f)
  | on g h hl hi hp hd hb ih =>
    have fa := ofreeAll_iff.mp (show ofreeAll _ = true from f)
    exact .on g h hl (fun i o v ho hv => ih i o v ho hv (fa o (List.mem_of_getElem? ho))) hp hd hb
  | dk h t =>
    rw [OD.free, Bool.and_eq_true, freeAll_zip (by have := t.length; simp at this; simpa using this)] at f
    exact .dk h (t.cut n f.2)
  | dt h t =>
    rw [OD.free, Bool.and_eq_true, freeAll_zip (by have := t.length; simp at this; simpa using this)] at f
    exact .dt h (t.cut n f.2)

theorem RO.fz_inv {K : PySem.W.Frag} {Y H : Hp} {v : V} {d : D} {F : Addr → Prop} (r : RO K Y H v (.fz d) F) : Dr K Y v d := by
  cases r with
  | fz h => exact h
theorem RO.fz_own {K : PySem.W.Frag} {Y H : Hp} {v : V} {d : D} {F : Addr → Prop} (r : RO K Y H v (.fz d) F) {a : Addr} : ¬ F a := by
  cases r with
  | fz h => exact fun z => z
theorem RO.ol_inv {K : PySem.W.Frag} {Y H : Hp} {v : V} {ds : List D} {F : Addr → Prop} (r : RO K Y H v (.ol ds) F) : ∃ p vs, v = .ref p ∧ H p = some (.lst vs) ∧ DrAll K Y vs ds ∧ ∀ a, F a ↔ a = p := by
  cases r with
  | ol h t => exact ⟨_, _, rfl, h, t, fun _ => Iff.rfl⟩
theorem RO.on_inv {K : PySem.W.Frag} {Y H : Hp} {v : V} {os : List OD} {F : Addr → Prop} (r : RO K Y H v (.on os) F) : ∃ (p : Addr) (vs : List V) (g : Nat → Addr → Prop), v = .ref p ∧ H p = some (.lst vs) ∧ vs.length = os.length ∧
    (∀ i o v, os[i]? = some o → vs[i]? = some v → RO K Y H v o (g i)) ∧ (∀ i, ¬ g i p) ∧ (∀ i j a, g i a → g j a → i = j) ∧ (∀ i a, g i a → i < os.length) ∧ ∀ a, F a ↔ (a = p ∨ ∃ i, g i a) := by
  cases r with
  | on g h a b c d e => exact ⟨_, _, g, rfl, h, a, b, c, d, e, fun _ => Iff.rfl⟩
theorem RO.iff {K : PySem.W.Frag} {Y H : Hp} {v : V} {o : OD} {F G : Addr → Prop} (r : RO K Y H v o F) (e : ∀ a, F a ↔ G a) : RO K Y H v o G := by
  have : F = G := funext fun a => propext (e a)
  exact this ▸ r

/-! ### the frame relation -/
structure Fx where
  K : PySem.W.Frag
  H0 : Hp
  Z0 : Hp
  ma : Addr → Prop
abbrev S := List (Option OD)
abbrev Own := Nat ⊕ Nat → Addr → Prop
structure Rel (ξ : Fx) (Y H : Hp) (σ : St) (s : S) (tv : List V) (ts : List OD) (g : Own) : Prop where
  slot : ∀ i o, s[i]? = some (some o) → ∃ v, σ[i]? = some (some v) ∧ RO ξ.K Y H v o (g (.inl i))
  temp : ∀ j o, ts[j]? = some o → ∃ v, tv[j]? = some v ∧ RO ξ.K Y H v o (g (.inr j))
  own : ∀ i a, g i a → H a ≠ none ∧ Y a = none ∧ (ξ.H0 a = none ∨ ξ.ma a)
  sep : ∀ i j a, g i a → g j a → i = j
structure FS (ξ : Fx) (Y H : Hp) (σ : St) (s : S) (tv : List V) (ts : List OD) : Prop where
  sub : Same Y H
  z0 : Same ξ.Z0 Y
  fresh : ∀ a, Y a ≠ none → ξ.Z0 a ≠ none ∨ ξ.H0 a = none ∨ ξ.ma a
  keep : ∀ a o, ξ.H0 a = some o → ¬ ξ.ma a → H a = some o
  live : ∀ a, ξ.H0 a ≠ none → H a ≠ none
  len : s.length = σ.length
  tlen : ts.length = tv.length
  rel : ∃ g, Rel ξ Y H σ s tv ts g

section
variable {ξ : Fx} {Y H Y' H' : Hp} {σ : St} {s : S} {tv : List V} {ts : List OD} {v : V} {o : OD} {d : D} {p : Addr}
theorem same_none {A B : Hp} (e : Same A B) {a : Addr} (h : B a = none) : A a = none := e.free h
/-- the heap has grown, the view with it -/
theorem FS.grow (F : FS ξ Y H σ s tv ts) (hh : Same H H') (hy : Same Y Y') (hs : Same Y' H') (hf : ∀ a, Y' a ≠ none → Y a ≠ none ∨ H a = none) : FS ξ Y' H' σ s tv ts := by
  obtain ⟨g, R⟩ := F.rel
  refine ⟨hs, F.z0.trans hy, fun a h => ?_, fun a o h m => hh _ _ (F.keep a o h m), fun a h z => F.live a h (hh.free z), F.len, F.tlen, g, ?_⟩
  · rcases hf a h with q | q
    · exact F.fresh a q
    · by_cases m : ξ.H0 a = none
      · exact .inr (.inl m)
      · exact (F.live a m q).elim
  · have kk : ∀ i a, g i a → H' a = H a := fun i a f => by
      obtain ⟨h1, _, _⟩ := R.own i a f
      cases e : H a with
      | none => exact (h1 e).elim
      | some u => exact hh _ _ e
    refine ⟨fun i o h => ?_, fun j o h => ?_, fun i a f => ?_, R.sep⟩
    · obtain ⟨v, e, r⟩ := R.slot i o h
      exact ⟨v, e, r.mono hy fun a f => kk _ a f⟩
    · obtain ⟨v, e, r⟩ := R.temp j o h
      exact ⟨v, e, r.mono hy fun a f => kk _ a f⟩
    · obtain ⟨h1, h2, h3⟩ := R.own i a f
      refine ⟨fun z => h1 (hh.free z), ?_, h3⟩
      cases e : Y' a with
      | none => rfl
      | some u =>
        rcases hf a (by rw [e]; simp) with q | q
        · exact (q h2).elim
        · exact (h1 q).elim
theorem FS.frozen (F : FS ξ Y H σ s tv ts) {i : Nat} (h : s[i]? = some (some (.fz d))) : ∃ v, σ[i]? = some (some v) ∧ Dr ξ.K Y v d := by
  obtain ⟨g, R⟩ := F.rel
  obtain ⟨v, e, r⟩ := R.slot i _ h
  exact ⟨v, e, r.fz_inv⟩
/-- a new tuple -/
theorem same_upd {H : Hp} {p : Addr} {o : HO} (h : H p = none) : Same H (upd H p o) := fun b x e => by
  rw [upd_ne (ne_of_none e h)]
  exact e
theorem upd_mono {A B : Hp} {p : Addr} {o : HO} (e : Same A B) : Same (upd A p o) (upd B p o) := fun b x h => by
  by_cases q : b = p
  · subst q; rw [upd_same] at h ⊢; exact h
  · rw [upd_ne q] at h ⊢; exact e _ _ h
theorem FS.newF (F : FS ξ Y H σ s tv ts) (hp : H p = none) (u : HO) : FS ξ (upd Y p u) (upd H p u) σ s tv ts :=
  F.grow (same_upd hp) (same_upd (F.sub.free hp)) (upd_mono F.sub) fun a h => by
    by_cases q : a = p
    · subst q; exact .inr hp
    · rw [upd_ne q] at h; exact .inl h
/-- a new object that is not looked at any more -/
theorem FS.newJ (F : FS ξ Y H σ s tv ts) (hp : H p = none) (u : HO) : FS ξ Y (upd H p u) σ s tv ts :=
  F.grow (same_upd hp) (Same.refl _) (F.sub.trans (same_upd hp)) fun a h => .inl h

/-! the view Y with what stands in G -/
open Classical in
noncomputable def add (Y H : Hp) (G : Addr → Prop) : Hp := fun a => if G a then H a else Y a
theorem add_in {Y H : Hp} {G : Addr → Prop} {a : Addr} (h : G a) : add Y H G a = H a := by unfold add; rw [if_pos h]
theorem add_out {Y H : Hp} {G : Addr → Prop} {a : Addr} (h : ¬ G a) : add Y H G a = Y a := by unfold add; rw [if_neg h]
theorem add_sub {Y H : Hp} {G : Addr → Prop} (e : Same Y H) : Same (add Y H G) H := fun a o h => by
  by_cases g : G a
  · rw [add_in g] at h; exact h
  · rw [add_out g] at h; exact e _ _ h
theorem add_same {Y H : Hp} {G : Addr → Prop} (e : Same Y H) : Same Y (add Y H G) := fun a o h => by
  by_cases g : G a
  · rw [add_in g]; exact e _ _ h
  · rw [add_out g]; exact h

/-- the same heap, owned otherwise -/
theorem FS.re (F : FS ξ Y H σ s tv ts) {g : Own} (R : Rel ξ Y H σ s tv ts g) {Y' : Hp} {σ' : St} {s' : S} {tv' : List V} {ts' : List OD} (g' : Own) (hy : Same Y Y') (hs : Same Y' H) (hf : ∀ a, Y' a ≠ none → Y a ≠ none ∨ ∃ i, g i a)
    (hg : ∀ i a, g' i a → Y' a = none ∧ ∃ k, g k a) (sep : ∀ i j a, g' i a → g' j a → i = j) (len : s'.length = σ'.length) (tlen : ts'.length = tv'.length)
    (slot : ∀ i o, s'[i]? = some (some o) → ∃ v, σ'[i]? = some (some v) ∧ RO ξ.K Y' H v o (g' (.inl i))) (temp : ∀ j o, ts'[j]? = some o → ∃ v, tv'[j]? = some v ∧ RO ξ.K Y' H v o (g' (.inr j))) :
    FS ξ Y' H σ' s' tv' ts' := by
  refine ⟨hs, F.z0.trans hy, fun a h => ?_, F.keep, F.live, len, tlen, g', slot, temp, fun i a f => ?_, sep⟩
  · rcases hf a h with q | ⟨i, q⟩
    · exact F.fresh a q
    · exact .inr (R.own i a q).2.2
  · obtain ⟨h1, k, h2⟩ := hg i a f
    exact ⟨(R.own k a h2).1, h1, (R.own k a h2).2.2⟩

theorem getElem?_snoc {α : Type} {l : List α} {x : α} {i : Nat} {y : α} (h : (l ++ [x])[i]? = some y) : l[i]? = some y ∨ (i = l.length ∧ y = x) := by
  rw [List.getElem?_append] at h
  split at h
  · exact .inl h
  · rename_i q
    have : i - l.length = 0 := by
      cases e : i - l.length with
      | zero => rfl
      | succ n => rw [e] at h; simp at h
    rw [this] at h
    simp at h
    exact .inr ⟨by omega, h.symm⟩
theorem snoc_old {α : Type} {l : List α} {x y : α} {i : Nat} (h : l[i]? = some y) : (l ++ [x])[i]? = some y := by
  have : i < l.length := by
    rcases Nat.lt_or_ge i l.length with q | q
    · exact q
    · rw [List.getElem?_eq_none q] at h; cases h
  rw [List.getElem?_append_left this]
  exact h
theorem snoc_new {α : Type} {l : List α} {x : α} : (l ++ [x])[l.length]? = some x := by
  rw [List.getElem?_append_right (Nat.le_refl _), Nat.sub_self]; rfl
theorem lt_of_get {α : Type} {l : List α} {i : Nat} {y : α} (h : l[i]? = some y) : i < l.length := by
  rcases Nat.lt_or_ge i l.length with q | q
  · exact q
  · rw [List.getElem?_eq_none q] at h; cases h

/-- the temps' g without index k -/
def without (g : Own) (k : Nat ⊕ Nat) : Own := fun i a => i ≠ k ∧ g i a

/-- frozen data as a temp -/
theorem FS.pushD (F : FS ξ Y H σ s tv ts) (h : Dr ξ.K Y v d) : FS ξ Y H σ s (tv ++ [v]) (ts ++ [.fz d]) := by
  obtain ⟨g, R⟩ := F.rel
  refine F.re R (without g (.inr ts.length)) (Same.refl _) F.sub (fun a q => .inl q) (fun i a f => ⟨(R.own i a f.2).2.1, i, f.2⟩) (fun i j a f f' => R.sep i j a f.2 f'.2) F.len (by simp [F.tlen]) (fun i o e => ?_) fun j o e => ?_
  · obtain ⟨v, e1, r⟩ := R.slot i o e
    exact ⟨v, e1, r.iff fun a => ⟨fun f => ⟨(fun z => nomatch z), f⟩, fun f => f.2⟩⟩
  · rcases getElem?_snoc e with e | ⟨rfl, rfl⟩
    · obtain ⟨v, e1, r⟩ := R.temp j o e
      have hj := lt_of_get e
      exact ⟨v, snoc_old e1, r.iff fun a => ⟨fun f => ⟨fun z => by cases z; omega, f⟩, fun f => f.2⟩⟩
    · refine ⟨v, by rw [F.tlen]; exact snoc_new, (RO.fz h).iff fun a => ⟨fun f => f.elim, fun f => (f.1 rfl).elim⟩⟩
/-- a new owned object as a temp -/
theorem FS.pushN {u : HO} (F : FS ξ Y H σ s tv ts) (hp : H p = none) (h : RO ξ.K Y (upd H p u) v o (fun a => a = p)) : FS ξ Y (upd H p u) σ s (tv ++ [v]) (ts ++ [o]) := by
  have F1 := F.newJ hp u
  obtain ⟨g, R⟩ := F.rel
  have nog : ∀ i, ¬ g i p := fun i f => (R.own i p f).1 hp
  have kk : ∀ i a, g i a → upd H p u a = H a := fun i a f => upd_ne fun z => nog i (z ▸ f)
  refine ⟨F1.sub, F1.z0, F1.fresh, F1.keep, F1.live, F.len, by simp [F.tlen], fun i a => (i = .inr ts.length ∧ a = p) ∨ (i ≠ .inr ts.length ∧ g i a), fun i o e => ?_, fun j o e => ?_, fun i a f => ?_, fun i j a f f' => ?_⟩
  · obtain ⟨v, e1, r⟩ := R.slot i o e
    exact ⟨v, e1, (r.mono (Same.refl _) fun a f => kk _ a f).iff fun a => ⟨fun f => .inr ⟨(fun z => nomatch z), f⟩, fun f => f.elim (fun z => nomatch z.1) fun z => z.2⟩⟩
  · rcases getElem?_snoc e with e | ⟨rfl, rfl⟩
    · obtain ⟨v, e1, r⟩ := R.temp j o e
      have hj := lt_of_get e
      refine ⟨v, snoc_old e1, (r.mono (Same.refl _) fun a f => kk _ a f).iff fun a => ⟨fun f => .inr ⟨fun z => by cases z; omega, f⟩, fun f => f.elim (fun z => ?_) fun z => z.2⟩⟩
      obtain ⟨z, _⟩ := z
      cases z
      omega
    · exact ⟨v, by rw [F.tlen]; exact snoc_new, h.iff fun a => ⟨fun f => .inl ⟨rfl, f⟩, fun f => f.elim (fun z => z.2) fun z => (z.1 rfl).elim⟩⟩
  · rcases f with ⟨rfl, rfl⟩ | ⟨_, f⟩
    · refine ⟨by rw [upd_same]; simp, F.sub.free hp, ?_⟩
      by_cases m : ξ.H0 a = none
      · exact .inl m
      · exact (F.live a m hp).elim
    · have h1 := R.own i a f
      exact ⟨by rw [kk _ _ f]; exact h1.1, h1.2⟩
  · rcases f with ⟨rfl, rfl⟩ | ⟨n, f⟩
    · rcases f' with ⟨rfl, _⟩ | ⟨_, f'⟩
      · rfl
      · exact (nog j f').elim
    · rcases f' with ⟨rfl, rfl⟩ | ⟨_, f'⟩
      · exact (nog i f).elim
      · exact R.sep i j a f f'
theorem FS.pushL {vs : List V} {ds : List D} (F : FS ξ Y H σ s tv ts) (hp : H p = none) (h : DrAll ξ.K Y vs ds) : FS ξ Y (upd H p (.lst vs)) σ s (tv ++ [.ref p]) (ts ++ [.ol ds]) :=
  F.pushN hp (.ol upd_same h)
/-- the last temp is let go -/
theorem FS.freezeT (F : FS ξ Y H σ s (tv ++ [v]) (ts ++ [o])) : ∃ Y', Same Y Y' ∧ FS ξ Y' H σ s tv ts ∧ Dr ξ.K Y' v o.frz := by
  obtain ⟨g, R⟩ := F.rel
  have tl : ts.length = tv.length := by have := F.tlen; simpa using this
  obtain ⟨v', e, r⟩ := R.temp ts.length o snoc_new
  have ev : v' = v := by
    rw [tl, snoc_new] at e
    exact (Option.some.inj e).symm
  subst ev
  have hy : Same Y (add Y H (g (.inr ts.length))) := add_same F.sub
  have no : ∀ i a, i ≠ .inr ts.length → g i a → ¬ g (.inr ts.length) a := fun i a n f z => n (R.sep _ _ _ f z)
  refine ⟨_, hy, F.re R (without g (.inr ts.length)) hy (add_sub F.sub) (fun a q => ?_) (fun i a f => ⟨?_, i, f.2⟩) (fun i j a f f' => R.sep i j a f.2 f'.2) F.len tl (fun i o e => ?_) (fun j o e => ?_), r.toD hy fun a f => add_in f⟩
  · by_cases z : g (.inr ts.length) a
    · exact .inr ⟨_, z⟩
    · rw [add_out z] at q; exact .inl q
  · rw [add_out (no i a f.1 f.2)]; exact (R.own i a f.2).2.1
  · obtain ⟨v, e1, r⟩ := R.slot i o e
    exact ⟨v, e1, (r.mono hy fun a f => rfl).iff fun a => ⟨fun f => ⟨(fun z => nomatch z), f⟩, fun f => f.2⟩⟩
  · obtain ⟨v, e1, r⟩ := R.temp j o (snoc_old e)
    have hj := lt_of_get e
    refine ⟨v, ?_, (r.mono hy fun a f => rfl).iff fun a => ⟨fun f => ⟨fun z => by cases z; omega, f⟩, fun f => f.2⟩⟩
    rw [List.getElem?_append_left (by omega)] at e1
    exact e1
/-- the last temp goes to slot i -/
theorem FS.asgT (F : FS ξ Y H σ s (tv ++ [v]) (ts ++ [o])) (i : Nat) : FS ξ Y H (σ.set i (some v)) (s.set i (some o)) tv ts := by
  obtain ⟨g, R⟩ := F.rel
  have tl : ts.length = tv.length := by have := F.tlen; simpa using this
  obtain ⟨v', e, r⟩ := R.temp ts.length o snoc_new
  have ev : v' = v := by
    rw [tl, snoc_new] at e
    exact (Option.some.inj e).symm
  subst ev
  refine F.re R (fun k a => (k = .inl i ∧ g (.inr ts.length) a) ∨ (k ≠ .inl i ∧ k ≠ .inr ts.length ∧ g k a)) (Same.refl _) F.sub (fun a q => .inl q) (fun k a f => ?_) (fun k j a f f' => ?_) (by simp [F.len]) tl (fun j o e => ?_) (fun j o e => ?_)
  · rcases f with ⟨_, f⟩ | ⟨_, _, f⟩
    · exact ⟨(R.own _ a f).2.1, _, f⟩
    · exact ⟨(R.own _ a f).2.1, _, f⟩
  · rcases f with ⟨rfl, f⟩ | ⟨n1, n2, f⟩
    · rcases f' with ⟨rfl, _⟩ | ⟨_, n2, f'⟩
      · rfl
      · exact (n2 (R.sep _ _ _ f' f)).elim
    · rcases f' with ⟨rfl, f'⟩ | ⟨_, _, f'⟩
      · exact (n2 (R.sep _ _ _ f f')).elim
      · exact R.sep _ _ _ f f'
  · by_cases hj : j = i
    · subst hj
      have hlt : j < s.length := by
        have := lt_of_get e
        simpa using this
      rw [List.getElem?_set_self hlt] at e
      cases e
      refine ⟨v', List.getElem?_set_self (by rw [← F.len]; exact hlt), r.iff fun a => ⟨fun f => .inl ⟨rfl, f⟩, fun f => f.elim (fun z => z.2) fun z => (z.1 rfl).elim⟩⟩
    · rw [List.getElem?_set_ne (Ne.symm hj)] at e
      obtain ⟨v, e1, r⟩ := R.slot j o e
      refine ⟨v, by rw [List.getElem?_set_ne (Ne.symm hj)]; exact e1, r.iff fun a => ⟨fun f => .inr ⟨fun z => hj (Sum.inl.inj z), (fun z => nomatch z), f⟩, fun f => f.elim (fun z => (hj (Sum.inl.inj z.1)).elim) fun z => z.2.2⟩⟩
  · obtain ⟨v, e1, r⟩ := R.temp j o (snoc_old e)
    have hj := lt_of_get e
    refine ⟨v, ?_, r.iff fun a => ⟨fun f => .inr ⟨(fun z => nomatch z), fun z => by cases z; omega, f⟩, fun f => f.elim (fun z => nomatch z.1) fun z => z.2.2⟩⟩
    rw [List.getElem?_append_left (by omega)] at e1
    exact e1
theorem FS.asgD (F : FS ξ Y H σ s tv ts) (h : Dr ξ.K Y v d) (i : Nat) : FS ξ Y H (σ.set i (some v)) (s.set i (some (.fz d))) tv ts := (F.pushD h).asgT i
/-- a slot is let go -/
theorem FS.freezeS (F : FS ξ Y H σ s tv ts) {i : Nat} (h : s[i]? = some (some o)) : ∃ Y', Same Y Y' ∧ FS ξ Y' H σ (s.set i (some (.fz o.frz))) tv ts ∧ ∃ v, σ[i]? = some (some v) ∧ Dr ξ.K Y' v o.frz := by
  obtain ⟨g, R⟩ := F.rel
  obtain ⟨v, e, r⟩ := R.slot i o h
  have hy : Same Y (add Y H (g (.inl i))) := add_same F.sub
  have no : ∀ k a, k ≠ .inl i → g k a → ¬ g (.inl i) a := fun k a n f z => n (R.sep _ _ _ f z)
  have rd := r.toD hy fun a f => add_in f
  refine ⟨_, hy, F.re R (without g (.inl i)) hy (add_sub F.sub) (fun a q => ?_) (fun k a f => ⟨?_, k, f.2⟩) (fun k j a f f' => R.sep k j a f.2 f'.2) (by simp [F.len]) F.tlen (fun j o e => ?_) (fun j o e => ?_), v, e, rd⟩
  · by_cases z : g (.inl i) a
    · exact .inr ⟨_, z⟩
    · rw [add_out z] at q; exact .inl q
  · rw [add_out (no k a f.1 f.2)]; exact (R.own k a f.2).2.1
  · by_cases hj : j = i
    · subst hj
      rw [List.getElem?_set_self (lt_of_get h)] at e
      cases e
      exact ⟨v, ‹_›, (RO.fz rd).iff fun a => ⟨fun f => f.elim, fun f => (f.1 rfl).elim⟩⟩
    · rw [List.getElem?_set_ne (Ne.symm hj)] at e
      obtain ⟨v, e1, r⟩ := R.slot j o e
      exact ⟨v, e1, (r.mono hy fun a f => rfl).iff fun a => ⟨fun f => ⟨fun z => hj (Sum.inl.inj z), f⟩, fun f => f.2⟩⟩
  · obtain ⟨v, e1, r⟩ := R.temp j o e
    exact ⟨v, e1, (r.mono hy fun a f => rfl).iff fun a => ⟨fun f => ⟨(fun z => nomatch z), f⟩, fun f => f.2⟩⟩
/-- slots are forgotten -/
theorem FS.forget (F : FS ξ Y H σ s tv ts) {s' : S} (hl : s'.length = s.length) (h : ∀ (i : Nat) (o : OD), s'[i]? = some (some o) → s[i]? = some (some o)) : FS ξ Y H σ s' tv ts := by
  obtain ⟨g, R⟩ := F.rel
  exact F.re R g (Same.refl _) F.sub (fun a q => .inl q) (fun i a f => ⟨(R.own i a f).2.1, i, f⟩) R.sep (hl.trans F.len) F.tlen (fun i o e => R.slot i o (h i o e)) R.temp
/-- an owned list in slot i: read, and written -/
theorem FS.listS {ds : List D} (F : FS ξ Y H σ s tv ts) {i : Nat} (h : s[i]? = some (some (.ol ds))) : ∃ p vs, σ[i]? = some (some (.ref p)) ∧ H p = some (.lst vs) ∧ DrAll ξ.K Y vs ds ∧
    ∀ vs' ds', DrAll ξ.K Y vs' ds' → FS ξ Y (upd H p (.lst vs')) σ (s.set i (some (.ol ds'))) tv ts := by
  obtain ⟨g, R⟩ := F.rel
  obtain ⟨v, e, r⟩ := R.slot i _ h
  obtain ⟨p, vs, rfl, hp, hd, hF⟩ := r.ol_inv
  refine ⟨p, vs, e, hp, hd, fun vs' ds' h' => ?_⟩
  have gp : g (.inl i) p := (hF p).mpr rfl
  have no : ∀ k a, k ≠ .inl i → g k a → a ≠ p := fun k a n f z => n (R.sep _ _ _ f (z ▸ gp))
  have kk : ∀ k a, k ≠ .inl i → g k a → upd H p (.lst vs') a = H a := fun k a n f => upd_ne (no k a n f)
  obtain ⟨_, yp, op⟩ := R.own _ p gp
  refine ⟨fun a o q => ?_, F.z0, F.fresh, fun a o q m => ?_, fun a q => ?_, by simp [F.len], F.tlen, g, fun j o e => ?_, fun j o e => ?_, fun k a f => ?_, R.sep⟩
  · rw [upd_ne fun z => by rw [z, yp] at q; cases q]
    exact F.sub a o q
  · rw [upd_ne fun z => ?_]
    · exact F.keep a o q m
    · subst z
      rcases op with op | op
      · rw [op] at q; cases q
      · exact m op
  · by_cases z : a = p
    · subst z; rw [upd_same]; simp
    · rw [upd_ne z]; exact F.live a q
  · by_cases hj : j = i
    · subst hj
      rw [List.getElem?_set_self (lt_of_get h)] at e
      cases e
      exact ⟨.ref p, ‹_›, (RO.ol upd_same h').iff fun a => (hF a).symm⟩
    · rw [List.getElem?_set_ne (Ne.symm hj)] at e
      obtain ⟨v, e1, r⟩ := R.slot j o e
      exact ⟨v, e1, r.mono (Same.refl _) fun a f => kk _ a (fun z => hj (Sum.inl.inj z)) f⟩
  · obtain ⟨v, e1, r⟩ := R.temp j o e
    exact ⟨v, e1, r.mono (Same.refl _) fun a f => kk (.inr j) a (fun z => nomatch z) f⟩
  · have h1 := R.own k a f
    by_cases z : a = p
    · subst z; exact ⟨by rw [upd_same]; simp, h1.2⟩
    · exact ⟨by rw [upd_ne z]; exact h1.1, h1.2⟩
end
end MI

set_option Elab.async false
set_option linter.all false
set_option autoImplicit false
set_option maxRecDepth 100000
/-! MI: nested owned lists, lending, the judgements. -/
namespace MI
open PySem PySem.Spec L2
section
variable {ξ : Fx} {Y H Y' H' : Hp} {σ : St} {s : S} {tv : List V} {ts : List OD} {v : V} {o : OD} {d : D} {p : Addr}

/-- an owned object in slot i is written: general -/
theorem FS.writeS (F : FS ξ Y H σ s tv ts) {g : Own} (R : Rel ξ Y H σ s tv ts g) {i : Nat} {o' : OD} {u : HO} (hi : i < s.length) (hv : σ[i]? = some (some v)) (gp : g (.inl i) p)
    (h : RO ξ.K Y (upd H p u) v o' (g (.inl i))) : FS ξ Y (upd H p u) σ (s.set i (some o')) tv ts := by
  have no : ∀ k a, k ≠ .inl i → g k a → a ≠ p := fun k a n f z => n (R.sep _ _ _ f (z ▸ gp))
  have kk : ∀ k a, k ≠ .inl i → g k a → upd H p u a = H a := fun k a n f => upd_ne (no k a n f)
  obtain ⟨_, yp, op⟩ := R.own _ p gp
  refine ⟨fun a o q => ?_, F.z0, F.fresh, fun a o q m => ?_, fun a q => ?_, by simp [F.len], F.tlen, g, fun j o e => ?_, fun j o e => ?_, fun k a f => ?_, R.sep⟩
  · rw [upd_ne fun z => by rw [z, yp] at q; cases q]
    exact F.sub a o q
  · rw [upd_ne fun z => ?_]
    · exact F.keep a o q m
    · subst z
      rcases op with op | op
      · rw [op] at q; cases q
      · exact m op
  · by_cases z : a = p
    · subst z; rw [upd_same]; simp
    · rw [upd_ne z]; exact F.live a q
  · by_cases hj : j = i
    · subst hj
      rw [List.getElem?_set_self hi] at e
      cases e
      exact ⟨v, hv, h⟩
    · rw [List.getElem?_set_ne (Ne.symm hj)] at e
      obtain ⟨v, e1, r⟩ := R.slot j o e
      exact ⟨v, e1, r.mono (Same.refl _) fun a f => kk (.inl j) a (fun z => hj (Sum.inl.inj z)) f⟩
  · obtain ⟨v, e1, r⟩ := R.temp j o e
    exact ⟨v, e1, r.mono (Same.refl _) fun a f => kk (.inr j) a (fun z => nomatch z) f⟩
  · have h1 := R.own k a f
    by_cases z : a = p
    · subst z; exact ⟨by rw [upd_same]; simp, h1.2⟩
    · exact ⟨by rw [upd_ne z]; exact h1.1, h1.2⟩

theorem ro_same_index {K : PySem.W.Frag} {os : List OD} {vs : List V} {k : Nat} {o : OD} {v : V} {g : Nat → Addr → Prop} {P : V → OD → (Addr → Prop) → Prop} (ho : os[k]? = some o) (hv : vs[k]? = some v)
    (h : P v o (g k)) (h2 : ∀ i o v, i ≠ k → os[i]? = some o → vs[i]? = some v → P v o (g i)) : ∀ i o v, os[i]? = some o → vs[i]? = some v → P v o (g i) := fun i o' v' e1 e2 => by
  by_cases q : i = k
  · subst q
    rw [ho] at e1; rw [hv] at e2; cases e1; cases e2
    exact h
  · exact h2 i o' v' q e1 e2

/-- the k-th item of the owned list of owned things in slot i is read (a leaf) -/
theorem FS.nestGet {os : List OD} (F : FS ξ Y H σ s tv ts) {i k : Nat} (h : s[i]? = some (some (.on os))) (hk : os[k]? = some (.fz d)) :
    ∃ p vs v, σ[i]? = some (some (.ref p)) ∧ H p = some (.lst vs) ∧ vs.length = os.length ∧ vs[k]? = some v ∧ Dr ξ.K Y v d := by
  obtain ⟨g, R⟩ := F.rel
  obtain ⟨v, e, r⟩ := R.slot i _ h
  obtain ⟨p, vs, f, rfl, hp, hl, hi, hn, hd, hb, hF⟩ := r.on_inv
  have hkl : k < vs.length := by rw [hl]; exact lt_of_get hk
  exact ⟨p, vs, vs[k], e, hp, hl, List.getElem?_eq_getElem hkl, (hi k _ _ hk (List.getElem?_eq_getElem hkl)).fz_inv⟩
/-- .. is set to a leaf -/
theorem FS.nestSet {os : List OD} (F : FS ξ Y H σ s tv ts) {i k : Nat} (h : s[i]? = some (some (.on os))) (hk : k < os.length) (hd : Dr ξ.K Y v d) :
    ∃ p vs, σ[i]? = some (some (.ref p)) ∧ H p = some (.lst vs) ∧ vs.length = os.length ∧ FS ξ Y (upd H p (.lst (vs.set k v))) σ (s.set i (some (.on (os.set k (.fz d))))) tv ts := by
  obtain ⟨g, R⟩ := F.rel
  obtain ⟨v0, e, r⟩ := R.slot i _ h
  obtain ⟨p, vs, f, rfl, hp, hl, hi, hn, hs, hb, hF⟩ := r.on_inv
  refine ⟨p, vs, e, hp, hl, ?_⟩
  -- the child's own things are let go of (forgotten)
  let f' : Nat → Addr → Prop := fun j a => j ≠ k ∧ f j a
  let g' : Own := fun j a => (j = .inl i ∧ (a = p ∨ ∃ q, f' q a)) ∨ (j ≠ .inl i ∧ g j a)
  have up : ∀ q a, f q a → upd H p (.lst (vs.set k v)) a = H a := fun q a z => upd_ne fun w => hn q (w ▸ z)
  have R' : Rel ξ Y H σ (s.set i none) tv ts g' := by
    refine ⟨fun j o e => ?_, fun j o e => ?_, fun j a z => ?_, fun j l a z z' => ?_⟩
    · by_cases hj : j = i
      · subst hj
        rw [List.getElem?_set_self (lt_of_get h)] at e
        cases e
      · rw [List.getElem?_set_ne (Ne.symm hj)] at e
        obtain ⟨v, e1, r⟩ := R.slot j o e
        exact ⟨v, e1, r.iff fun a => ⟨fun z => .inr ⟨fun w => hj (Sum.inl.inj w), z⟩, fun z => z.elim (fun w => (hj (Sum.inl.inj w.1)).elim) fun w => w.2⟩⟩
    · obtain ⟨v, e1, r⟩ := R.temp j o e
      exact ⟨v, e1, r.iff fun a => ⟨fun z => .inr ⟨(fun w => nomatch w), z⟩, fun z => z.elim (fun w => nomatch w.1) fun w => w.2⟩⟩
    · rcases z with ⟨rfl, z⟩ | ⟨_, z⟩
      · refine R.own (.inl i) a ((hF a).mpr ?_)
        rcases z with z | ⟨q, z⟩
        · exact .inl z
        · exact .inr ⟨q, z.2⟩
      · exact R.own j a z
    · have low : ∀ j a, g' j a → g j a := fun j a z => by
        rcases z with ⟨rfl, z⟩ | ⟨_, z⟩
        · refine (hF a).mpr ?_
          rcases z with z | ⟨q, z⟩
          · exact .inl z
          · exact .inr ⟨q, z.2⟩
        · exact z
      exact R.sep _ _ _ (low _ _ z) (low _ _ z')
  have F2 : FS ξ Y H σ (s.set i none) tv ts := F.forget (by simp) fun j o e => by
    by_cases hj : j = i
    · subst hj
      rw [List.getElem?_set_self (lt_of_get h)] at e
      cases e
    · rw [List.getElem?_set_ne (Ne.symm hj)] at e
      exact e
  have w := F2.writeS (p := p) (u := .lst (vs.set k v)) (o' := .on (os.set k (.fz d))) R' (i := i) (by simpa using lt_of_get h) e (.inl ⟨rfl, .inl rfl⟩) ?_
  · rwa [List.set_set] at w
  · refine (RO.on f' upd_same (by simp [hl]) (fun j o w ho hw => ?_) (fun j z => hn j z.2) (fun j l a z z' => hs j l a z.2 z'.2) (fun j a z => by simpa using hb j a z.2)).iff fun a => ⟨fun z => .inl ⟨rfl, z⟩, fun z => z.elim (fun w => w.2) fun w => (w.1 rfl).elim⟩
    by_cases hj : j = k
    · subst hj
      rw [List.getElem?_set_self hk] at ho
      rw [List.getElem?_set_self (by omega)] at hw
      cases ho; cases hw
      exact (RO.fz hd).iff fun a => ⟨fun z => z.elim, fun z => (z.1 rfl).elim⟩
    · rw [List.getElem?_set_ne (Ne.symm hj)] at ho hw
      exact ((hi j o w ho hw).mono (Same.refl _) fun a z => up j a z).iff fun a => ⟨fun z => ⟨hj, z⟩, fun z => z.2⟩
/-- the k-th item is an owned list: read, and written -/
theorem FS.nestList {os : List OD} {ds : List D} (F : FS ξ Y H σ s tv ts) {i k : Nat} (h : s[i]? = some (some (.on os))) (hk : os[k]? = some (.ol ds)) :
    ∃ p vs q ws, σ[i]? = some (some (.ref p)) ∧ H p = some (.lst vs) ∧ vs.length = os.length ∧ vs[k]? = some (.ref q) ∧ H q = some (.lst ws) ∧ DrAll ξ.K Y ws ds ∧
      ∀ ws' ds', DrAll ξ.K Y ws' ds' → FS ξ Y (upd H q (.lst ws')) σ (s.set i (some (.on (os.set k (.ol ds'))))) tv ts := by
  obtain ⟨g, R⟩ := F.rel
  obtain ⟨v0, e, r⟩ := R.slot i _ h
  obtain ⟨p, vs, f, rfl, hp, hl, hi, hn, hs, hb, hF⟩ := r.on_inv
  have hkl : k < vs.length := by rw [hl]; exact lt_of_get hk
  obtain ⟨q, ws, ev, hq, hd, hf⟩ := (hi k _ _ hk (List.getElem?_eq_getElem hkl)).ol_inv
  have fq : f k q := (hf q).mpr rfl
  refine ⟨p, vs, q, ws, e, hp, hl, by rw [List.getElem?_eq_getElem hkl, ev], hq, hd, fun ws' ds' h' => ?_⟩
  refine F.writeS R (lt_of_get h) e ((hF q).mpr (.inr ⟨k, fq⟩)) ?_
  have np : p ≠ q := fun z => hn k (z ▸ fq)
  refine (RO.on f ((upd_ne np).trans hp) (by simp [hl]) (fun j o w ho hw => ?_) hn hs (fun j a z => by simpa using hb j a z)).iff fun a => (hF a).symm
  by_cases hj : j = k
  · subst hj
    rw [List.getElem?_set_self (lt_of_get hk)] at ho
    cases ho
    rw [List.getElem?_eq_getElem hkl] at hw
    cases hw
    rw [ev]
    exact (RO.ol upd_same h').iff fun a => (hf a).symm
  · rw [List.getElem?_set_ne (Ne.symm hj)] at ho
    exact (hi j o w ho hw).mono (Same.refl _) fun a z => upd_ne fun w => hj (hs _ _ _ z (w ▸ fq))

/-! ### lending: some slots are looked at as frozen, some are hidden -/
inductive Mode where
  | k | f | h
def b1 : Mode → Option OD → Option OD
  | .k, x => x
  | .f, x => x.map fun o => .fz o.frz
  | .h, some (.fz d) => some (.fz d)
  | .h, _ => none
def brw : List Mode → S → S
  | m :: ms, x :: xs => b1 m x :: brw ms xs
  | _, _ => []
def r1 : Mode → Option OD → Option OD → Option (Option OD)
  | .f, x, _ => some x
  | .h, x, _ => some x
  | .k, none, _ => some none
  | .k, some (.fz d), _ => some (some (.fz d))
  | .k, some _, some o => if o.free = true then some (some o) else none
  | .k, some _, none => none
def rst : List Mode → S → S → Option S
  | m :: ms, x :: xs, y :: ys => (r1 m x y).bind fun z => (rst ms xs ys).map fun zs => z :: zs
  | [], [], [] => some []
  | _, _, _ => none
theorem rst_get : ∀ {ms : List Mode} {xs ys zs : S}, rst ms xs ys = some zs → zs.length = xs.length ∧ ys.length = xs.length ∧ ms.length = xs.length ∧ ∀ (i : Nat) (m : Mode) (x : Option OD), ms[i]? = some m → xs[i]? = some x → ∃ y z, ys[i]? = some y ∧ r1 m x y = some z ∧ zs[i]? = some z
  | [], [], [], zs, h => by
    simp only [rst, Option.some.injEq] at h
    subst h
    exact ⟨rfl, rfl, rfl, fun i m x e => by simp at e⟩
  | m :: ms, x :: xs, y :: ys, zs, h => by
    simp only [rst] at h
    cases e1 : r1 m x y with
    | none => rw [e1] at h; simp at h
    | some z =>
      rw [e1] at h
      cases e2 : rst ms xs ys with
      | none => rw [e2] at h; simp at h
      | some zs' =>
        rw [e2] at h
        simp at h
        subst h
        obtain ⟨a, b, c, d⟩ := rst_get e2
        refine ⟨by simp [a], by simp [b], by simp [c], fun i m' x' h1 h2 => ?_⟩
        cases i with
        | zero =>
          simp at h1 h2
          subst h1; subst h2
          exact ⟨y, z, rfl, e1, rfl⟩
        | succ i =>
          simp at h1 h2
          obtain ⟨y', z', q1, q2, q3⟩ := d i m' x' h1 h2
          exact ⟨y', z', by simpa using q1, q2, by simpa using q3⟩
  | [], [], _ :: _, _, h => by simp [rst] at h
  | [], _ :: _, _, _, h => by simp [rst] at h
  | _ :: _, [], _, _, h => by simp [rst] at h
  | _ :: _, _ :: _, [], _, h => by simp [rst] at h
theorem brw_get : ∀ {ms : List Mode} {xs : S} {i : Nat} {y : Option OD}, (brw ms xs)[i]? = some y → ∃ m x, ms[i]? = some m ∧ xs[i]? = some x ∧ y = b1 m x
  | [], _, _, _, h => by simp [brw] at h
  | _ :: _, [], _, _, h => by simp [brw] at h
  | m :: ms, x :: xs, 0, y, h => by
    simp [brw] at h
    exact ⟨m, x, rfl, rfl, h.symm⟩
  | m :: ms, x :: xs, i + 1, y, h => by
    simp only [brw, List.getElem?_cons_succ] at h
    obtain ⟨m', x', a, b, c⟩ := brw_get h
    exact ⟨m', x', by simpa using a, by simpa using b, c⟩
theorem brw_length : ∀ {ms : List Mode} {xs : S}, ms.length = xs.length → (brw ms xs).length = xs.length
  | [], [], _ => rfl
  | [], _ :: _, h => by simp at h
  | _ :: _, [], h => by simp at h
  | m :: ms, x :: xs, h => by
    simp only [brw, List.length_cons]
    rw [brw_length (by simpa using h)]

/-- the frame lent: f's frozen, k's kept, h's hidden; and taken back -/
theorem FS.lend (F : FS ξ Y H σ s tv ts) {ms : List Mode} (hm : ms.length = s.length) : ∃ ξ' Y1, ξ'.K = ξ.K ∧ Same Y Y1 ∧ FS ξ' Y1 H σ (brw ms s) [] [] ∧
    ∀ Y' H' s' r tv' ts', Same Y1 Y' → FS ξ' Y' H' σ s' tv' ts' → rst ms s s' = some r → ofreeAll ts' = true → ∃ Y2, Same Y Y2 ∧ FS ξ Y2 H' σ r (tv ++ tv') (ts ++ ts') ∧ ∀ v d, Dr ξ.K Y' v d → free d = true → Dr ξ.K Y2 v d := by
  obtain ⟨g, R⟩ := F.rel
  let G : Addr → Prop := fun a => ∃ (i : Nat) (o : OD), ms[i]? = some .f ∧ s[i]? = some (some o) ∧ g (.inl i) a
  let M : Addr → Prop := fun a => ∃ (i : Nat) (o : OD), ms[i]? = some .k ∧ s[i]? = some (some o) ∧ g (.inl i) a
  have hGM : ∀ a, G a → ¬ M a := by
    rintro a ⟨i, o, a1, _, a3⟩ ⟨j, u, b1, _, b3⟩
    have e : i = j := Sum.inl.inj (R.sep _ _ _ a3 b3)
    subst e
    rw [a1] at b1
    cases b1
  have own_of : ∀ a, G a ∨ M a → H a ≠ none ∧ Y a = none ∧ (ξ.H0 a = none ∨ ξ.ma a) := by
    rintro a (⟨i, o, _, _, z⟩ | ⟨i, o, _, _, z⟩)
    · exact R.own _ a z
    · exact R.own _ a z
  have hy : Same Y (add Y H G) := add_same F.sub
  refine ⟨⟨ξ.K, H, add Y H G, M⟩, add Y H G, rfl, hy, ⟨add_sub F.sub, Same.refl _, fun a h => .inl h, fun a o h _ => h, fun a h => h, by rw [brw_length hm]; exact F.len, rfl, ?_⟩, ?_⟩
  · refine ⟨fun i a => ∃ (n : Nat) (o : OD), i = .inl n ∧ ms[n]? = some .k ∧ s[n]? = some (some o) ∧ g (.inl n) a, fun i o e => ?_, fun j o e => by simp at e, ?_, ?_⟩
    · obtain ⟨m, x, e1, e2, e3⟩ := brw_get e
      cases x with
      | none => cases m <;> simp [b1] at e3
      | some u =>
        obtain ⟨v, f1, r⟩ := R.slot i u e2
        refine ⟨v, f1, ?_⟩
        cases m with
        | k =>
          simp only [b1, Option.some.injEq] at e3
          subst e3
          exact (r.mono hy fun a _ => rfl).iff fun a => ⟨fun z => ⟨i, o, rfl, e1, e2, z⟩, fun z => by
            obtain ⟨n, o', q1, _, _, q4⟩ := z
            cases q1
            exact q4⟩
        | f =>
          simp only [b1, Option.map_some, Option.some.injEq] at e3
          subst e3
          refine (RO.fz (r.toD hy fun a z => add_in ⟨i, u, e1, e2, z⟩)).iff fun a => ⟨fun z => z.elim, fun z => ?_⟩
          obtain ⟨n, o', q1, q2, _, _⟩ := z
          cases q1
          rw [e1] at q2; cases q2
        | h =>
          cases u with
          | fz d =>
            simp only [b1, Option.some.injEq] at e3
            subst e3
            exact (RO.fz (r.fz_inv.mono hy)).iff fun a => ⟨fun z => z.elim, fun z => by
              obtain ⟨n, o', q1, q2, _, _⟩ := z
              cases q1
              rw [e1] at q2; cases q2⟩
          | ol _ => simp [b1] at e3
          | on _ => simp [b1] at e3
          | od _ => simp [b1] at e3
    · rintro i a ⟨n, o, rfl, q1, q2, q3⟩
      have hM : M a := ⟨n, o, q1, q2, q3⟩
      obtain ⟨h1, h2, h3⟩ := R.own _ a q3
      refine ⟨h1, ?_, .inr hM⟩
      rw [add_out fun z => hGM a z hM]
      exact h2
    · rintro i j a ⟨n, o, rfl, _, _, q3⟩ ⟨n', o', rfl, _, _, q3'⟩
      exact R.sep _ _ _ q3 q3'
  · intro Y' H' s' r tv' ts' hy' F' hr hfr
    have hfr := ofreeAll_iff.mp hfr
    obtain ⟨g', R'⟩ := F'.rel
    obtain ⟨l1, l2, l3, get⟩ := rst_get hr
    have nt : NoTup Y' G := by
      rintro a xs ⟨i, o, q1, q2, q3⟩ rd
      obtain ⟨v, _, r⟩ := R.slot i o q2
      obtain ⟨u, hu, ow⟩ := r.ownable a q3
      have y1 : Y' a = some u := hy' _ _ (by rw [add_in ⟨i, o, q1, q2, q3⟩]; exact hu)
      rcases rd with rd | ⟨ob, rd⟩
      · rw [y1] at rd; cases rd; exact ow
      · rw [y1] at rd; cases rd; exact ow
    have yG : ∀ a, G a → Y' a = H a := fun a z => by
      cases e : H a with
      | none => exact ((own_of a (.inl z)).1 e).elim
      | some u => exact hy' _ _ (by rw [add_in z]; exact e)
    have hG' : ∀ a, G a → H' a = H a := fun a z => by
      cases e : H a with
      | none => exact ((own_of a (.inl z)).1 e).elim
      | some u => exact F'.sub _ _ ((yG a z).trans e)
    -- what is not lent for writing stands
    have kk : ∀ i a, g i a → ¬ M a → H' a = H a := fun i a z nm => by
      cases e : H a with
      | none => exact ((R.own i a z).1 e).elim
      | some u => exact F'.keep a u e nm
    have y2 : Same Y (cut Y' G) := fun a o h => by
      have na : ¬ G a := fun z => by rw [(own_of a (.inl z)).2.1] at h; cases h
      rw [cut_out na]
      exact hy' _ _ (hy _ _ h)
    refine ⟨cut Y' G, y2, ⟨cut_same.trans F'.sub, F.z0.trans y2, fun a h => ?_, fun a o h m => ?_, fun a h => F'.live a (F.live a h), by rw [l1]; exact F.len, by rw [List.length_append, List.length_append, F.tlen, F'.tlen], ?_⟩, fun v d h f => h.cut nt f⟩
    · have na : ¬ G a := fun z => h (cut_in z)
      rw [cut_out na] at h
      rcases F'.fresh a h with q | q | q
      · rw [show (Fx.mk ξ.K H (add Y H G) M).Z0 a = Y a from add_out na] at q
        exact F.fresh a q
      · by_cases m : ξ.H0 a = none
        · exact .inr (.inl m)
        · exact (F.live a m q).elim
      · exact .inr (own_of a (.inr q)).2.2
    · refine F'.keep a o (F.keep a o h m) fun z => ?_
      rcases (own_of a (.inr z)).2.2 with q | q
      · rw [q] at h; cases h
      · exact m q
    · -- which slots are told anew
      let up : Nat ⊕ Nat → Nat ⊕ Nat := fun i => match i with
        | .inl n => .inl n
        | .inr j => .inr (j + ts.length)
      have upi : ∀ i j, up i = up j → i = j := by
        rintro (n | n) (m | m) h
        · exact congrArg Sum.inl (Sum.inl.inj h)
        · cases h
        · cases h
        · have : n + ts.length = m + ts.length := Sum.inr.inj h
          exact congrArg Sum.inr (by omega)
      let A : Nat ⊕ Nat → Prop := fun i => (∃ (n : Nat) (o : OD), i = .inl n ∧ ms[n]? = some .k ∧ s[n]? = some (some o) ∧ ∀ d, o ≠ .fz d) ∨ ∃ j, i = .inr (j + ts.length)
      let g2 : Own := fun i a => (A i ∧ ∃ i', up i' = i ∧ g' i' a) ∨ (¬ A i ∧ g i a)
      have notM : ∀ i a, ¬ A i → g i a → ¬ M a := by
        rintro i a nA z ⟨n, o, q1, q2, q3⟩
        have e := R.sep _ _ _ z q3
        subst e
        refine nA (.inl ⟨n, o, rfl, q1, q2, fun d e => ?_⟩)
        subst e
        obtain ⟨v, _, r⟩ := R.slot n _ q2
        exact r.fz_own q3
      have old : ∀ i a, ¬ A i → g i a → H' a = H a := fun i a nA z => kk i a z (notM i a nA z)
      refine ⟨g2, fun i o e => ?_, fun j o e => ?_, fun i a z => ?_, fun i j a z z' => ?_⟩
      · have hi : i < s.length := by rw [← l1]; exact lt_of_get e
        obtain ⟨y, z, e1, e2, e3⟩ := get i _ _ (List.getElem?_eq_getElem (by omega)) (List.getElem?_eq_getElem hi)
        rw [e] at e3
        cases e3
        generalize hx : s[i] = x at e2
        generalize hmm : ms[i]'(by omega) = m at e2
        have sx : s[i]? = some x := by rw [List.getElem?_eq_getElem hi, hx]
        have mx : ms[i]? = some m := by rw [List.getElem?_eq_getElem (by omega), hmm]
        have usual : ∀ (nA : ¬ A (.inl i)), s[i]? = some (some o) → ∃ v, σ[i]? = some (some v) ∧ RO ξ.K (cut Y' G) H' v o (g2 (.inl i)) := fun nA e => by
          obtain ⟨v, f1, r⟩ := R.slot i o e
          exact ⟨v, f1, (r.mono y2 fun a z => old _ a nA z).iff fun a => ⟨fun z => .inr ⟨nA, z⟩, fun z => z.elim (fun w => (nA w.1).elim) fun w => w.2⟩⟩
        have noA : (∀ o, m = .k → x = some o → ∃ d, o = .fz d) → ¬ A (.inl i) := by
          rintro h (⟨n, o', q1, q2, q3, q4⟩ | ⟨_, q⟩)
          rotate_left
          · cases q
          cases q1
          rw [mx] at q2
          rw [sx] at q3
          cases q2; cases q3
          obtain ⟨d, e⟩ := h o' rfl rfl
          exact q4 d e
        cases m with
        | f =>
          simp only [r1, Option.some.injEq] at e2
          subst e2
          exact usual (noA fun _ z => nomatch z) sx
        | h =>
          simp only [r1, Option.some.injEq] at e2
          subst e2
          exact usual (noA fun _ z => nomatch z) sx
        | k =>
          cases x with
          | none => simp [r1] at e2
          | some u =>
            by_cases hu : ∃ d, u = .fz d
            · obtain ⟨d, rfl⟩ := hu
              simp only [r1, Option.some.injEq] at e2
              subst e2
              exact usual (noA fun o _ z => ⟨d, by cases z; rfl⟩) sx
            · have hA : A (.inl i) := .inl ⟨i, u, rfl, mx, sx, fun d e => hu ⟨d, e⟩⟩
              cases y with
              | none =>
                cases u with
                | fz d => exact (hu ⟨d, rfl⟩).elim
                | ol _ => simp [r1] at e2
                | on _ => simp [r1] at e2
                | od _ => simp [r1] at e2
              | some w =>
                have e4 : w.free = true ∧ o = w := by
                  cases u with
                  | fz d => exact (hu ⟨d, rfl⟩).elim
                  | ol _ =>
                    simp only [r1] at e2
                    split at e2
                    · exact ⟨‹_›, by simpa using e2.symm⟩
                    · cases e2
                  | on _ =>
                    simp only [r1] at e2
                    split at e2
                    · exact ⟨‹_›, by simpa using e2.symm⟩
                    · cases e2
                  | od _ =>
                    simp only [r1] at e2
                    split at e2
                    · exact ⟨‹_›, by simpa using e2.symm⟩
                    · cases e2
                obtain ⟨wf, rfl⟩ := e4
                obtain ⟨v, f1, r⟩ := R'.slot i o e1
                exact ⟨v, f1, (r.cut nt wf).iff fun a => ⟨fun z => .inl ⟨hA, .inl i, rfl, z⟩, fun z => z.elim (fun w => by
                  obtain ⟨_, i', e', w⟩ := w
                  have : i' = .inl i := upi _ _ e'
                  subst this
                  exact w) fun w => (w.1 hA).elim⟩⟩
      · by_cases hj : j < ts.length
        rotate_left
        · rw [List.getElem?_append_right (by omega)] at e
          obtain ⟨v, f1, r⟩ := R'.temp (j - ts.length) o e
          have hA : A (.inr j) := .inr ⟨j - ts.length, by congr 1; omega⟩
          have hu : up (.inr (j - ts.length)) = .inr j := by
            show Sum.inr (j - ts.length + ts.length) = Sum.inr j
            congr 1; omega
          refine ⟨v, by rw [List.getElem?_append_right (by have := F.tlen; omega), ← F.tlen]; exact f1, (r.cut nt (hfr o (List.mem_of_getElem? e))).iff fun a => ⟨fun z => .inl ⟨hA, .inr (j - ts.length), hu, z⟩, fun z => z.elim (fun w => by
            obtain ⟨_, i', e', w⟩ := w
            have : i' = .inr (j - ts.length) := upi _ _ (e'.trans hu.symm)
            subst this
            exact w) fun w => (w.1 hA).elim⟩⟩
        rw [List.getElem?_append_left hj] at e
        obtain ⟨v, f1, r⟩ := R.temp j o e
        have nA : ¬ A (.inr j) := by
          rintro (⟨_, _, q, _⟩ | ⟨l, q⟩)
          · cases q
          · have : j = l + ts.length := Sum.inr.inj q
            omega
        have f1 : (tv ++ tv')[j]? = some v := by rw [List.getElem?_append_left (by have := F.tlen; omega)]; exact f1
        exact ⟨v, f1, (r.mono y2 fun a z => old _ a nA z).iff fun a => ⟨fun z => .inr ⟨nA, z⟩, fun z => z.elim (fun w => (nA w.1).elim) fun w => w.2⟩⟩
      · rcases z with ⟨hA, i', _, z⟩ | ⟨nA, z⟩
        · obtain ⟨h1, h2, h3⟩ := R'.own i' a z
          refine ⟨h1, ?_, ?_⟩
          · by_cases q : G a
            · exact cut_in q
            · rw [cut_out q]; exact h2
          · rcases h3 with h3 | h3
            · by_cases m : ξ.H0 a = none
              · exact .inl m
              · exact (F.live a m h3).elim
            · exact (own_of a (.inr h3)).2.2
        · obtain ⟨h1, h2, h3⟩ := R.own i a z
          refine ⟨by rw [old i a nA z]; exact h1, ?_, h3⟩
          by_cases q : G a
          · exact cut_in q
          · rw [cut_out q]
            cases e : Y' a with
            | none => rfl
            | some u =>
              rcases F'.fresh a (by rw [e]; simp) with w | w | w
              · rw [show (Fx.mk ξ.K H (add Y H G) M).Z0 a = Y a from add_out q] at w
                exact (w h2).elim
              · exact (h1 w).elim
              · exact (notM i a nA z w).elim
      · have mixed : ∀ i j, g' i a → ¬ A j → g j a → False := fun i j z nA z' => by
          rcases (R'.own i a z).2.2 with w | w
          · exact (R.own j a z').1 w
          · exact notM j a nA z' w
        rcases z with ⟨hA, i', e', z⟩ | ⟨nA, z⟩
        · rcases z' with ⟨hA', j', e2', z'⟩ | ⟨nA', z'⟩
          · rw [← e', ← e2', R'.sep _ _ _ z z']
          · exact (mixed _ _ z nA' z').elim
        · rcases z' with ⟨hA', j', e2', z'⟩ | ⟨nA', z'⟩
          · exact (mixed _ _ z' nA z).elim
          · exact R.sep _ _ _ z z'
end
end MI

set_option Elab.async false
set_option linter.all false
set_option autoImplicit false
set_option maxRecDepth 100000
/-! MI: the judgements; expressions. -/
namespace MI
open PySem PySem.Spec L2

/-- an own error: its class's name, its fields -/
structure Exn where
  cls : Str
  fs : List (Str × D)
inductive Res (α : Type) where
  | ok (a : α) (s : S)
  | ex (e : Exn) (s : S)
  | bad
def Res.bind {α β : Type} : Res α → (α → S → Res β) → Res β
  | .ok a s, f => f a s
  | .ex e s, _ => .ex e s
  | .bad, _ => .bad
@[simp] theorem Res.bind_ok {α β : Type} {a : α} {s : S} {f : α → S → Res β} : (Res.ok a s).bind f = f a s := Eq.trans rfl rfl
@[simp] theorem Res.bind_ex {α β : Type} {e : Exn} {s : S} {f : α → S → Res β} : (Res.ex e s).bind f = .ex e s := Eq.trans rfl rfl
@[simp] theorem Res.bind_bad {α β : Type} {f : α → S → Res β} : Res.bad.bind f = .bad := Eq.trans rfl rfl
def ofO {α : Type} (x : Option α) (s : S) : Res α := match x with
  | some a => .ok a s
  | none => .bad
abbrev EF := S → Res D
abbrev OF := S → Res OD
abbrev TF := S → Res Bool
abbrev AF := S → Res (List D)

structure Ct where
  K : PySem.W.Frag
  er : Exn → Value → Option Addr → Hp → Prop
  W : L2.WX

section
variable (c : Ct)
/-- what a result must give: at ok G, at an error the wish -/
def out (ξ : Fx) (Y : Hp) (σ : St) (tv : List V) (ts : List OD) {α : Type} (G : α → S → Prop) : Res α → Prop
  | .ok a s' => G a s'
  | .ex e s' => ∀ Y' H' cl x, Same Y Y' → FS ξ Y' H' σ s' tv ts → c.er e cl x H' → c.W cl x σ H'
  | .bad => False
theorem out.mono {ξ : Fx} {Y Y1 : Hp} {σ : St} {tv : List V} {ts : List OD} {α : Type} {G G' : α → S → Prop} {r : Res α} (h : out c ξ Y σ tv ts G r) (e : Same Y Y1) (g : ∀ a s, G a s → G' a s) : out c ξ Y1 σ tv ts G' r := by
  cases r with
  | ok a s => exact g a s h
  | ex x s => exact fun Y' H' cl q e' F er => h Y' H' cl q (e.trans e') F er
  | bad => exact h
/-- an expression's reading: data -/
def tE (f : EF) : TE := fun σ H Q => ∃ ξ Y s tv ts, ξ.K = c.K ∧ FS ξ Y H σ s tv ts ∧
  out c ξ Y σ tv ts (fun d s' => ∀ Y' H' v, Same Y Y' → FS ξ Y' H' σ s' tv ts → Dr c.K Y' v d → Q v H') (f s)
/-- .. owned -/
def tO (f : OF) : TE := fun σ H Q => ∃ ξ Y s tv ts, ξ.K = c.K ∧ FS ξ Y H σ s tv ts ∧
  out c ξ Y σ tv ts (fun o s' => ∀ Y' H' v, Same Y Y' → FS ξ Y' H' σ s' (tv ++ [v]) (ts ++ [o]) → Q v H') (f s)
def tT (f : TF) : TT := fun σ H Q => ∃ ξ Y s tv ts, ξ.K = c.K ∧ FS ξ Y H σ s tv ts ∧
  out c ξ Y σ tv ts (fun b s' => ∀ Y' H', Same Y Y' → FS ξ Y' H' σ s' tv ts → Q b H') (f s)
def tA (f : AF) : TA := fun σ H Q => ∃ ξ Y s tv ts, ξ.K = c.K ∧ FS ξ Y H σ s tv ts ∧
  out c ξ Y σ tv ts (fun ds s' => ∀ Y' H' vs, Same Y Y' → FS ξ Y' H' σ s' tv ts → DrAll c.K Y' vs ds → Q vs H') (f s)
end

structure ME (X : Cx) (c : Ct) (f : EF) (e : Expr) : Prop where
  run : PE X e (tE c f)
structure MO (X : Cx) (c : Ct) (f : OF) (e : Expr) : Prop where
  run : PE X e (tO c f)
structure MT (X : Cx) (c : Ct) (f : TF) (e : Expr) : Prop where
  run : PT X e (tT c f)
structure MA (X : Cx) (c : Ct) (f : AF) (es : List Expr) : Prop where
  run : PA X es (tA c f)

theorem PE.imp {X : Cx} {e : Expr} {t t' : TE} (h : PE X e t) (i : ∀ σ H Q, t' σ H Q → t σ H Q) : PE X e t' := ⟨fun pins s σ H Q I q => h.run pins s σ H Q I (i σ H Q q)⟩
theorem PT.imp {X : Cx} {e : Expr} {t t' : TT} (h : PT X e t) (i : ∀ σ H Q, t' σ H Q → t σ H Q) : PT X e t' := ⟨fun pins s σ H Q I q => h.run pins s σ H Q I (i σ H Q q)⟩
theorem PA.imp {X : Cx} {e : List Expr} {t t' : TA} (h : PA X e t) (i : ∀ σ H Q, t' σ H Q → t σ H Q) : PA X e t' := ⟨fun pos pins s σ H Q I q => h.run pos pins s σ H Q I (i σ H Q q)⟩

section
variable {X : Cx} {c : Ct} {ξ : Fx} {Y H : Hp} {σ : St} {s : S} {tv : List V} {ts : List OD}

/-- one part, then the rest -/
theorem tE_seq {β : Type} {fa : EF} {k : D → S → Res β} {G : β → S → Prop} {R : VK} (hK : ξ.K = c.K) (F : FS ξ Y H σ s tv ts) (h : out c ξ Y σ tv ts G ((fa s).bind k))
    (hR : ∀ d s1 Y1 H1 v, Same Y Y1 → FS ξ Y1 H1 σ s1 tv ts → Dr c.K Y1 v d → out c ξ Y σ tv ts G (k d s1) → R v H1) : tE c fa σ H R := by
  refine ⟨ξ, Y, s, tv, ts, hK, F, ?_⟩
  cases e : fa s with
  | ok d s1 => rw [e] at h; exact fun Y1 H1 v e1 F1 r1 => hR d s1 Y1 H1 v e1 F1 r1 h
  | ex x s1 => rw [e] at h; exact h
  | bad => rw [e] at h; exact h
theorem tO_seq {β : Type} {fa : OF} {k : OD → S → Res β} {G : β → S → Prop} {R : VK} (hK : ξ.K = c.K) (F : FS ξ Y H σ s tv ts) (h : out c ξ Y σ tv ts G ((fa s).bind k))
    (hR : ∀ o s1 Y1 H1 v, Same Y Y1 → FS ξ Y1 H1 σ s1 (tv ++ [v]) (ts ++ [o]) → out c ξ Y σ tv ts G (k o s1) → R v H1) : tO c fa σ H R := by
  refine ⟨ξ, Y, s, tv, ts, hK, F, ?_⟩
  cases e : fa s with
  | ok d s1 => rw [e] at h; exact fun Y1 H1 v e1 F1 => hR d s1 Y1 H1 v e1 F1 h
  | ex x s1 => rw [e] at h; exact h
  | bad => rw [e] at h; exact h
theorem tT_seq {β : Type} {fa : TF} {k : Bool → S → Res β} {G : β → S → Prop} {R : Bool → Hp → Prop} (hK : ξ.K = c.K) (F : FS ξ Y H σ s tv ts) (h : out c ξ Y σ tv ts G ((fa s).bind k))
    (hR : ∀ b s1 Y1 H1, Same Y Y1 → FS ξ Y1 H1 σ s1 tv ts → out c ξ Y σ tv ts G (k b s1) → R b H1) : tT c fa σ H R := by
  refine ⟨ξ, Y, s, tv, ts, hK, F, ?_⟩
  cases e : fa s with
  | ok d s1 => rw [e] at h; exact fun Y1 H1 e1 F1 => hR d s1 Y1 H1 e1 F1 h
  | ex x s1 => rw [e] at h; exact h
  | bad => rw [e] at h; exact h
theorem tA_seq {β : Type} {fa : AF} {k : List D → S → Res β} {G : β → S → Prop} {R : List V → Hp → Prop} (hK : ξ.K = c.K) (F : FS ξ Y H σ s tv ts) (h : out c ξ Y σ tv ts G ((fa s).bind k))
    (hR : ∀ ds s1 Y1 H1 vs, Same Y Y1 → FS ξ Y1 H1 σ s1 tv ts → DrAll c.K Y1 vs ds → out c ξ Y σ tv ts G (k ds s1) → R vs H1) : tA c fa σ H R := by
  refine ⟨ξ, Y, s, tv, ts, hK, F, ?_⟩
  cases e : fa s with
  | ok d s1 => rw [e] at h; exact fun Y1 H1 v e1 F1 r1 => hR d s1 Y1 H1 v e1 F1 r1 h
  | ex x s1 => rw [e] at h; exact h
  | bad => rw [e] at h; exact h

/-! ### how a value comes -/
inductive Gives (K : PySem.W.Frag) (Y : Hp) : Hp → V → Hp → Hp → OD → Prop
  | old {H : Hp} {v : V} {d : D} : Dr K Y v d → Gives K Y H v Y H (.fz d)
  | tup {H : Hp} {p : Addr} {vs : List V} {ds : List D} : H p = none → DrAll K Y vs ds → Gives K Y H (.ref p) (upd Y p (.tup vs)) (upd H p (.tup vs)) (.fz (.tuple ds))
  | lst {H : Hp} {p : Addr} {vs : List V} {ds : List D} : H p = none → DrAll K Y vs ds → Gives K Y H (.ref p) Y (upd H p (.lst vs)) (.ol ds)
  | junk {H H' Y' : Hp} {p : Addr} {u : HO} {v : V} {o : OD} : H p = none → Gives K Y (upd H p u) v Y' H' o → Gives K Y H v Y' H' o
theorem Gives.fs {K : PySem.W.Frag} {Y H : Hp} {v : V} {Y' H' : Hp} {o : OD} (g : Gives K Y H v Y' H' o) (hK : ξ.K = K) (F : FS ξ Y H σ s tv ts) : Same Y Y' ∧ FS ξ Y' H' σ s (tv ++ [v]) (ts ++ [o]) := by
  subst hK
  induction g with
  | old h => exact ⟨Same.refl _, F.pushD h⟩
  | @tup H p vs ds hp h =>
    have F1 := F.newF hp (.tup vs)
    have e : Same Y (upd Y p (.tup vs)) := same_upd (F.sub.free hp)
    exact ⟨e, F1.pushD (.tup (.inl (.inl upd_same)) (h.mono e))⟩
  | lst hp h => exact ⟨Same.refl _, F.pushL hp h⟩
  | junk hp g ih => exact ih (F.newJ hp _)

/-- an owned value frozen -/
def eFrz (f : OF) : EF := fun s => (f s).bind fun o s => .ok o.frz s
/-- data as an owned value -/
def oFz (f : EF) : OF := fun s => (f s).bind fun d s => .ok (.fz d) s
theorem me_frz {f : OF} {e : Expr} (h : MO X c f e) : ME X c (eFrz f) e := by
  refine ⟨PE.imp h.run fun σ H Q q => ?_⟩
  obtain ⟨ξ, Y, s, tv, ts, hK, F, q⟩ := q
  refine tO_seq hK F q fun o s1 Y1 H1 v e1 F1 q1 => ?_
  obtain ⟨Y2, e2, F2, r2⟩ := F1.freezeT
  exact q1 Y2 H1 v (e1.trans e2) F2 (hK ▸ r2)
theorem mo_fz {f : EF} {e : Expr} (h : ME X c f e) : MO X c (oFz f) e := by
  refine ⟨PE.imp h.run fun σ H Q q => ?_⟩
  obtain ⟨ξ, Y, s, tv, ts, hK, F, q⟩ := q
  refine tE_seq hK F q fun d s1 Y1 H1 v e1 F1 r1 q1 => ?_
  exact q1 Y1 H1 v e1 (F1.pushD (hK ▸ r1))

/-! ### names, constants -/
def eVar (i : Nat) : EF := fun s => match s[i]? with
  | some (some (.fz d)) => .ok d s
  | some (some o) => .ok o.frz (s.set i (some (.fz o.frz)))
  | _ => .bad
theorem me_var {i : Nat} {e : Expr} (h : PE X e (tVar i)) : ME X c (eVar i) e := by
  refine ⟨PE.imp h fun σ H Q q => ?_⟩
  obtain ⟨ξ, Y, s, tv, ts, hK, F, q⟩ := q
  have other : ∀ o, s[i]? = some (some o) → out c ξ Y σ tv ts (fun d s' => ∀ Y' H' v, Same Y Y' → FS ξ Y' H' σ s' tv ts → Dr c.K Y' v d → Q v H') (.ok o.frz (s.set i (some (.fz o.frz)))) → tVar i σ H Q := fun o e q => by
    obtain ⟨Y', e', F', v, hv, r⟩ := F.freezeS e
    exact ⟨v, hv, q Y' H v e' F' (hK ▸ r)⟩
  unfold eVar at q
  split at q
  · rename_i d e
    obtain ⟨v, hv, r⟩ := F.frozen e
    exact ⟨v, hv, q Y H v (Same.refl _) F (hK ▸ r)⟩
  · rename_i o _ e
    exact other o e q
  · exact q.elim
/-- the owned value of a slot goes (the slot is empty then): for return -/
def eC (d : D) : EF := fun s => .ok d s
theorem me_c {d : D} {v : V} {e : Expr} (h : PE X e (tC v)) (r : ∀ Y, Dr c.K Y v d) : ME X c (eC d) e := by
  refine ⟨PE.imp h fun σ H Q q => ?_⟩
  obtain ⟨ξ, Y, s, tv, ts, hK, F, q⟩ := q
  exact q Y H v (Same.refl _) F (r Y)
theorem me_int {i : Int} {j : Nat} {pos : Pos} : ME X c (eC (.int i)) (.Constant (.int i) j pos) := me_c pe_int fun _ => .int i
theorem me_bl {b : Bool} {j : Nat} {pos : Pos} : ME X c (eC (.bool b)) (.Constant (.bool b) j pos) := me_c pe_bl fun _ => .bl b
theorem me_non {j : Nat} {pos : Pos} : ME X c (eC .none) (.Constant .none j pos) := me_c pe_non fun _ => .non
theorem me_str {x : Str} {j : Nat} {pos : Pos} : ME X c (eC (.str x)) (.Constant (.str x) j pos) := me_c pe_str fun _ => .str x

/-! ### operators -/
/-- F says what r asks and gives -/
def OpL (K : PySem.W.Frag) (r : R2) (F : D → D → Option OD) : Prop := ∀ (Y H : Hp) (Q : VK) (x y : V) (a b : D) (o : OD), Same Y H → Dr K Y x a → Dr K Y y b → F a b = some o → (∀ v Y' H', Gives K Y H v Y' H' o → Q v H') → r x y H Q
def oOp2 (F : D → D → Option OD) (fa fb : EF) : OF := fun s => (fa s).bind fun a s => (fb s).bind fun b s => ofO (F a b) s
theorem op2_core {r : R2} {F : D → D → Option OD} (hF : OpL c.K r F) {fa fb : EF} {σ : St} {H : Hp} {Q : VK} (q : tO c (oOp2 F fa fb) σ H Q) : tOp r (tE c fa) (tE c fb) σ H Q := by
  obtain ⟨ξ, Y, s, tv, ts, hK, Fr, q⟩ := q
  refine tE_seq hK Fr q fun a s1 Y1 H1 x e1 F1 r1 q1 => ?_
  refine tE_seq hK F1 (out.mono c q1 e1 (fun _ _ z => z)) fun b s2 Y2 H2 y e2 F2 r2 q2 => ?_
  unfold ofO at q2
  split at q2
  · rename_i o eo
    refine hF Y2 H2 Q x y a b o F2.sub (r1.mono e2) r2 eo fun v Y' H' g => ?_
    obtain ⟨e3, F3⟩ := g.fs hK F2
    exact q2 Y' H' v ((e1.trans e2).trans e3) F3
  · exact q2.elim
theorem mo_op2 {op : Operator} {r : R2} {F : D → D → Option OD} {fa fb : EF} {a b : Expr} {pos : Pos} (ho : OpR X (binaryOp op) r) (hF : OpL c.K r F) (ha : ME X c fa a) (hb : ME X c fb b) : MO X c (oOp2 F fa fb) (.BinOp a op b pos) :=
  ⟨PE.imp (pe_op ho ha.run hb.run) fun _ _ _ q => op2_core hF q⟩
/-- several ways for one operator, by the data -/
def orR (r r' : R2) : R2 := fun x y H Q => r x y H Q ∨ r' x y H Q
theorem OpR.or {f : Value → Value → Sem Value} {r r' : R2} (h : OpR X f r) (h' : OpR X f r') : OpR X f (orR r r') := fun pins s σ H x y v u Q I rx ry q => q.elim (h pins s σ H x y v u Q I rx ry) (h' pins s σ H x y v u Q I rx ry)

def UnL (K : PySem.W.Frag) (r : V → Hp → VK → Prop) (F : D → Option OD) : Prop := ∀ (Y H : Hp) (Q : VK) (x : V) (a : D) (o : OD), Same Y H → Dr K Y x a → F a = some o → (∀ v Y' H', Gives K Y H v Y' H' o → Q v H') → r x H Q
def oOp1 (F : D → Option OD) (fa : EF) : OF := fun s => (fa s).bind fun a s => ofO (F a) s
theorem op1_core {r : V → Hp → VK → Prop} {F : D → Option OD} (hF : UnL c.K r F) {fa : EF} {σ : St} {H : Hp} {Q : VK} (q : tO c (oOp1 F fa) σ H Q) : tUn r (tE c fa) σ H Q := by
  obtain ⟨ξ, Y, s, tv, ts, hK, Fr, q⟩ := q
  refine tE_seq hK Fr q fun a s1 Y1 H1 x e1 F1 r1 q1 => ?_
  unfold ofO at q1
  split at q1
  · rename_i o eo
    refine hF Y1 H1 Q x a o F1.sub r1 eo fun v Y' H' g => ?_
    obtain ⟨e3, F3⟩ := g.fs hK F1
    exact q1 Y' H' v (e1.trans e3) F3
  · exact q1.elim
theorem mo_un {op : UnaryOp} {r : V → Hp → VK → Prop} {F : D → Option OD} {fa : EF} {a : Expr} {pos : Pos} (ho : UnR X (unaryOp op) r) (hF : UnL c.K r F) (ha : ME X c fa a) : MO X c (oOp1 F fa) (.UnaryOp op a pos) :=
  ⟨PE.imp (pe_un ho ha.run) fun _ _ _ q => op1_core hF q⟩

/-! ### comparisons -/
def CmpL (K : PySem.W.Frag) (r : R2) (F : D → D → Option Bool) : Prop := ∀ (Y H : Hp) (Q : VK) (x y : V) (a b : D) (k : Bool), Same Y H → Dr K Y x a → Dr K Y y b → F a b = some k → Q (.bl k) H → r x y H Q
def eCmp (F : D → D → Option Bool) (fa fb : EF) : EF := fun s => (fa s).bind fun a s => (fb s).bind fun b s => (ofO (F a b) s).bind fun k s => .ok (.bool k) s
def kCmp (F : D → D → Option Bool) (fa fb : EF) : TF := fun s => (fa s).bind fun a s => (fb s).bind fun b s => ofO (F a b) s
theorem me_cmp {op : CmpOp} {r : R2} {F : D → D → Option Bool} {fa fb : EF} {a b : Expr} {pos : Pos} (ho : OpR X (compareOp op) r) (hF : CmpL c.K r F) (ha : ME X c fa a) (hb : ME X c fb b) (hm : behindInMarks op b = false) : ME X c (eCmp F fa fb) (.Compare a [op] [b] pos) := by
  refine ⟨PE.imp (pe_cmpR ho ha.run hb.run hm) fun σ H Q q => ?_⟩
  obtain ⟨ξ, Y, s, tv, ts, hK, Fr, q⟩ := q
  refine tE_seq hK Fr q fun a s1 Y1 H1 x e1 F1 r1 q1 => ?_
  refine tE_seq hK F1 (out.mono c q1 e1 (fun _ _ z => z)) fun b s2 Y2 H2 y e2 F2 r2 q2 => ?_
  unfold ofO at q2
  split at q2
  · rename_i o eo
    exact hF Y2 H2 Q x y a b o F2.sub (r1.mono e2) r2 eo (q2 Y2 H2 _ (e1.trans e2) F2 (.bl o))
  · exact q2.elim
theorem mt_cmp {op : CmpOp} {r : R2} {F : D → D → Option Bool} {fa fb : EF} {a b : Expr} {pos : Pos} (ho : OpR X (compareOp op) r) (hF : CmpL c.K r F) (ha : ME X c fa a) (hb : ME X c fb b) (hm : behindInMarks op b = false) : MT X c (kCmp F fa fb) (.Compare a [op] [b] pos) := by
  refine ⟨PT.imp (pt_cmpR ho ha.run hb.run hm) fun σ H Q q => ?_⟩
  obtain ⟨ξ, Y, s, tv, ts, hK, Fr, q⟩ := q
  refine tE_seq hK Fr q fun a s1 Y1 H1 x e1 F1 r1 q1 => ?_
  refine tE_seq hK F1 (out.mono c q1 e1 (fun _ _ z => z)) fun b s2 Y2 H2 y e2 F2 r2 q2 => ?_
  unfold ofO at q2
  split at q2
  · rename_i o eo
    exact hF Y2 H2 _ x y a b o F2.sub (r1.mono e2) r2 eo ⟨o, rfl, q2 Y2 H2 (e1.trans e2) F2⟩
  · exact q2.elim
/-- a op b op' c -/
def eChn (F F' : D → D → Option Bool) (fa fb fc : EF) : EF := fun s => (fa s).bind fun a s => (fb s).bind fun b s => (ofO (F a b) s).bind fun k s => if k = true then (fc s).bind fun z s => (ofO (F' b z) s).bind fun k s => .ok (.bool k) s else .ok (.bool false) s
def kChn (F F' : D → D → Option Bool) (fa fb fc : EF) : TF := fun s => (fa s).bind fun a s => (fb s).bind fun b s => (ofO (F a b) s).bind fun k s => if k = true then (fc s).bind fun z s => ofO (F' b z) s else .ok false s
theorem me_chain {op op' : CmpOp} {r r' : R2} {F F' : D → D → Option Bool} {fa fb fc : EF} {a b z : Expr} {pos : Pos} (ho : OpR X (compareOp op) r) (ho' : OpR X (compareOp op') r') (hF : CmpL c.K r F) (hF' : CmpL c.K r' F')
    (ha : ME X c fa a) (hb : ME X c fb b) (hc : ME X c fc z) (hm : lastMarks [op, op'] [b, z] = false := by with_unfolding_all rfl) : ME X c (eChn F F' fa fb fc) (.Compare a [op, op'] [b, z] pos) := by
  refine ⟨PE.imp (pe_chain ho ho' ha.run hb.run hc.run hm) fun σ H Q q => ?_⟩
  obtain ⟨ξ, Y, s, tv, ts, hK, Fr, q⟩ := q
  refine tE_seq hK Fr q fun a s1 Y1 H1 x e1 F1 r1 q1 => ?_
  refine tE_seq hK F1 (out.mono c q1 e1 (fun _ _ z => z)) fun b s2 Y2 H2 y e2 F2 r2 q2 => ?_
  cases eo : F a b with
  | none => rw [eo] at q2; exact q2.elim
  | some k =>
    rw [eo] at q2
    refine hF Y2 H2 _ x y a b k F2.sub (r1.mono e2) r2 eo ⟨k, rfl, ?_⟩
    cases k with
    | false => exact iteF (q2 Y2 H2 _ (e1.trans e2) F2 (.bl false))
    | true =>
      refine iteT (tE_seq hK F2 (out.mono c q2 e2 (fun _ _ z => z)) fun z s3 Y3 H3 w e3 F3 r3 q3 => ?_)
      cases eo' : F' b z with
      | none => rw [eo'] at q3; exact q3.elim
      | some k => rw [eo'] at q3; exact hF' Y3 H3 Q y w b z k F3.sub (r2.mono e3) r3 eo' (q3 Y3 H3 _ ((e1.trans e2).trans e3) F3 (.bl k))
theorem mt_chain {op op' : CmpOp} {r r' : R2} {F F' : D → D → Option Bool} {fa fb fc : EF} {a b z : Expr} {pos : Pos} (ho : OpR X (compareOp op) r) (ho' : OpR X (compareOp op') r') (hF : CmpL c.K r F) (hF' : CmpL c.K r' F')
    (ha : ME X c fa a) (hb : ME X c fb b) (hc : ME X c fc z) (hm : lastMarks [op, op'] [b, z] = false := by with_unfolding_all rfl) : MT X c (kChn F F' fa fb fc) (.Compare a [op, op'] [b, z] pos) := by
  refine ⟨PT.imp (pt_chain ho ho' ha.run hb.run hc.run hm) fun σ H Q q => ?_⟩
  obtain ⟨ξ, Y, s, tv, ts, hK, Fr, q⟩ := q
  refine tE_seq hK Fr q fun a s1 Y1 H1 x e1 F1 r1 q1 => ?_
  refine tE_seq hK F1 (out.mono c q1 e1 (fun _ _ z => z)) fun b s2 Y2 H2 y e2 F2 r2 q2 => ?_
  cases eo : F a b with
  | none => rw [eo] at q2; exact q2.elim
  | some k =>
    rw [eo] at q2
    refine hF Y2 H2 _ x y a b k F2.sub (r1.mono e2) r2 eo ⟨k, rfl, ?_⟩
    cases k with
    | false => exact iteF ⟨false, rfl, q2 Y2 H2 (e1.trans e2) F2⟩
    | true =>
      refine iteT (tE_seq hK F2 (out.mono c q2 e2 (fun _ _ z => z)) fun z s3 Y3 H3 w e3 F3 r3 q3 => ?_)
      cases eo' : F' b z with
      | none => rw [eo'] at q3; exact q3.elim
      | some k => rw [eo'] at q3; exact hF' Y3 H3 _ y w b z k F3.sub (r2.mono e3) r3 eo' ⟨k, rfl, q3 Y3 H3 ((e1.trans e2).trans e3) F3⟩

/-! ### truth, and, or, not -/
def kVal (f : EF) : TF := fun s => (f s).bind fun d s => match d with
  | .bool b => .ok b s
  | _ => .bad
theorem mt_val {f : EF} {e : Expr} (h : ME X c f e) (he : ∀ whole, isTrue e X.env whole = (do let v ← whole; standAt e.pos; holding [v] (truthy v)) := by intro _; rfl) : MT X c (kVal f) e := by
  refine ⟨PT.imp (pt_val h.run he) fun σ H Q q => ?_⟩
  obtain ⟨ξ, Y, s, tv, ts, hK, F, q⟩ := q
  refine tE_seq hK F q fun d s1 Y1 H1 v e1 F1 r1 q1 => ?_
  cases d with
  | bool b => exact ⟨b, r1.bool_inv, q1 Y1 H1 e1 F1⟩
  | none => exact q1.elim
  | int _ => exact q1.elim
  | str _ => exact q1.elim
  | list _ => exact q1.elim
  | tuple _ => exact q1.elim
  | dict _ => exact q1.elim
def kAnd (f g : TF) : TF := fun s => (f s).bind fun b s => if b = true then g s else .ok false s
def kOr (f g : TF) : TF := fun s => (f s).bind fun b s => if b = true then .ok true s else g s
def kNot (f : TF) : TF := fun s => (f s).bind fun b s => .ok (!b) s
/-- and, or as tests: over several items -/
structure MW (X : Cx) (c : Ct) (f : TF) (e : Expr) : Prop where
  run : PW X e (tT c f)
theorem MW.mt {f : TF} {e : Expr} (h : MW X c f e) : MT X c f e := ⟨h.run.pt⟩
theorem mw_and1 {f : TF} {a : Expr} {pos : Pos} (h : MT X c f a) : MW X c f (.BoolOp .And [a] pos) := ⟨pw_and1 h.run⟩
theorem mw_or1 {f : TF} {a : Expr} {pos : Pos} (h : MT X c f a) : MW X c f (.BoolOp .Or [a] pos) := ⟨pw_or1 h.run⟩
theorem mw_and {f g : TF} {a b : Expr} {rest : List Expr} {pos : Pos} (h : MT X c f a) (h2 : MW X c g (.BoolOp .And (b :: rest) pos)) : MW X c (kAnd f g) (.BoolOp .And (a :: b :: rest) pos) := by
  refine ⟨⟨fun wh pins s σ H Q I q => (pw_and h.run h2.run).run wh pins s σ H Q I ?_⟩⟩
  obtain ⟨ξ, Y, s, tv, ts, hK, F, q⟩ := q
  refine tT_seq hK F q fun b s1 Y1 H1 e1 F1 q1 => ?_
  cases b with
  | false => exact iteF (q1 Y1 H1 e1 F1)
  | true => exact iteT ⟨ξ, Y1, s1, tv, ts, hK, F1, out.mono c (show out c ξ Y σ tv ts _ (g s1) from q1) e1 fun b s z Y' H' e2 F2 => z Y' H' (e1.trans e2) F2⟩
theorem mw_or {f g : TF} {a b : Expr} {rest : List Expr} {pos : Pos} (h : MT X c f a) (h2 : MW X c g (.BoolOp .Or (b :: rest) pos)) : MW X c (kOr f g) (.BoolOp .Or (a :: b :: rest) pos) := by
  refine ⟨⟨fun wh pins s σ H Q I q => (pw_or h.run h2.run).run wh pins s σ H Q I ?_⟩⟩
  obtain ⟨ξ, Y, s, tv, ts, hK, F, q⟩ := q
  refine tT_seq hK F q fun b s1 Y1 H1 e1 F1 q1 => ?_
  cases b with
  | true => exact iteT (q1 Y1 H1 e1 F1)
  | false => exact iteF ⟨ξ, Y1, s1, tv, ts, hK, F1, out.mono c (show out c ξ Y σ tv ts _ (g s1) from q1) e1 fun b s z Y' H' e2 F2 => z Y' H' (e1.trans e2) F2⟩
theorem mt_not {f : TF} {a : Expr} {pos : Pos} (h : MT X c f a) : MT X c (kNot f) (.UnaryOp .Not a pos) := by
  refine ⟨PT.imp (pt_not h.run) fun σ H Q q => ?_⟩
  obtain ⟨ξ, Y, s, tv, ts, hK, F, q⟩ := q
  exact tT_seq hK F q fun b s1 Y1 H1 e1 F1 q1 => q1 Y1 H1 e1 F1
/-- .. as values -/
def eAnd (f g : EF) : EF := fun s => (f s).bind fun d s => match d with
  | .bool true => g s
  | .bool false => .ok (.bool false) s
  | _ => .bad
def eOr (f g : EF) : EF := fun s => (f s).bind fun d s => match d with
  | .bool true => .ok (.bool true) s
  | .bool false => g s
  | _ => .bad
def eNot (f : EF) : EF := fun s => (f s).bind fun d s => match d with
  | .bool b => .ok (.bool !b) s
  | _ => .bad
theorem me_one {op : BoolOp} {f : EF} {a : Expr} {pos : Pos} (h : ME X c f a) : ME X c f (.BoolOp op [a] pos) := ⟨pe_one h.run⟩
theorem me_and {f g : EF} {a b : Expr} {rest : List Expr} {pos : Pos} (h : ME X c f a) (h2 : ME X c g (.BoolOp .And (b :: rest) pos)) : ME X c (eAnd f g) (.BoolOp .And (a :: b :: rest) pos) := by
  refine ⟨PE.imp (pe_and h.run h2.run) fun σ H Q q => ?_⟩
  obtain ⟨ξ, Y, s, tv, ts, hK, F, q⟩ := q
  refine tE_seq hK F q fun d s1 Y1 H1 v e1 F1 r1 q1 => ?_
  cases d with
  | bool b =>
    refine ⟨b, r1.bool_inv, ?_⟩
    cases b with
    | true => exact iteT ⟨ξ, Y1, s1, tv, ts, hK, F1, out.mono c (show out c ξ Y σ tv ts _ (g s1) from q1) e1 fun b s z Y' H' v e2 F2 => z Y' H' v (e1.trans e2) F2⟩
    | false => exact iteF (q1 Y1 H1 _ e1 F1 (.bl false))
  | none => exact q1.elim
  | int _ => exact q1.elim
  | str _ => exact q1.elim
  | list _ => exact q1.elim
  | tuple _ => exact q1.elim
  | dict _ => exact q1.elim
theorem me_or {f g : EF} {a b : Expr} {rest : List Expr} {pos : Pos} (h : ME X c f a) (h2 : ME X c g (.BoolOp .Or (b :: rest) pos)) : ME X c (eOr f g) (.BoolOp .Or (a :: b :: rest) pos) := by
  refine ⟨PE.imp (pe_or h.run h2.run) fun σ H Q q => ?_⟩
  obtain ⟨ξ, Y, s, tv, ts, hK, F, q⟩ := q
  refine tE_seq hK F q fun d s1 Y1 H1 v e1 F1 r1 q1 => ?_
  cases d with
  | bool b =>
    refine ⟨b, r1.bool_inv, ?_⟩
    cases b with
    | false => exact iteF ⟨ξ, Y1, s1, tv, ts, hK, F1, out.mono c (show out c ξ Y σ tv ts _ (g s1) from q1) e1 fun b s z Y' H' v e2 F2 => z Y' H' v (e1.trans e2) F2⟩
    | true => exact iteT (q1 Y1 H1 _ e1 F1 (.bl true))
  | none => exact q1.elim
  | int _ => exact q1.elim
  | str _ => exact q1.elim
  | list _ => exact q1.elim
  | tuple _ => exact q1.elim
  | dict _ => exact q1.elim
theorem me_not {f : EF} {a : Expr} {pos : Pos} (h : ME X c f a) : ME X c (eNot f) (.UnaryOp .Not a pos) := by
  refine ⟨PE.imp (pe_not h.run) fun σ H Q q => ?_⟩
  obtain ⟨ξ, Y, s, tv, ts, hK, F, q⟩ := q
  refine tE_seq hK F q fun d s1 Y1 H1 v e1 F1 r1 q1 => ?_
  cases d with
  | bool b => exact ⟨b, r1.bool_inv, q1 Y1 H1 _ e1 F1 (.bl _)⟩
  | none => exact q1.elim
  | int _ => exact q1.elim
  | str _ => exact q1.elim
  | list _ => exact q1.elim
  | tuple _ => exact q1.elim
  | dict _ => exact q1.elim
def eIf (t : TF) (f g : EF) : EF := fun s => (t s).bind fun b s => if b = true then f s else g s
def oIf (t : TF) (f g : OF) : OF := fun s => (t s).bind fun b s => if b = true then f s else g s
theorem me_if {t : TF} {f g : EF} {x a b : Expr} {pos : Pos} (ht : MT X c t x) (hf : ME X c f a) (hg : ME X c g b) : ME X c (eIf t f g) (.IfExp x a b pos) := by
  refine ⟨PE.imp (pe_ifExp ht.run hf.run hg.run) fun σ H Q q => ?_⟩
  obtain ⟨ξ, Y, s, tv, ts, hK, F, q⟩ := q
  refine tT_seq hK F q fun b s1 Y1 H1 e1 F1 q1 => ?_
  cases b with
  | true => exact iteT ⟨ξ, Y1, s1, tv, ts, hK, F1, out.mono c (show out c ξ Y σ tv ts _ (f s1) from q1) e1 fun b s z Y' H' v e2 F2 => z Y' H' v (e1.trans e2) F2⟩
  | false => exact iteF ⟨ξ, Y1, s1, tv, ts, hK, F1, out.mono c (show out c ξ Y σ tv ts _ (g s1) from q1) e1 fun b s z Y' H' v e2 F2 => z Y' H' v (e1.trans e2) F2⟩
theorem mo_if {t : TF} {f g : OF} {x a b : Expr} {pos : Pos} (ht : MT X c t x) (hf : MO X c f a) (hg : MO X c g b) : MO X c (oIf t f g) (.IfExp x a b pos) := by
  refine ⟨PE.imp (pe_ifExp ht.run hf.run hg.run) fun σ H Q q => ?_⟩
  obtain ⟨ξ, Y, s, tv, ts, hK, F, q⟩ := q
  refine tT_seq hK F q fun b s1 Y1 H1 e1 F1 q1 => ?_
  cases b with
  | true => exact iteT ⟨ξ, Y1, s1, tv, ts, hK, F1, out.mono c (show out c ξ Y σ tv ts _ (f s1) from q1) e1 fun b s z Y' H' v e2 F2 => z Y' H' v (e1.trans e2) F2⟩
  | false => exact iteF ⟨ξ, Y1, s1, tv, ts, hK, F1, out.mono c (show out c ξ Y σ tv ts _ (g s1) from q1) e1 fun b s z Y' H' v e2 F2 => z Y' H' v (e1.trans e2) F2⟩

/-! ### argument lists, displays -/
def aNil : AF := fun s => .ok [] s
def aCons (f : EF) (g : AF) : AF := fun s => (f s).bind fun d s => (g s).bind fun ds s => .ok (d :: ds) s
theorem ma_nil : MA X c aNil [] := by
  refine ⟨PA.imp pa_nil fun σ H Q q => ?_⟩
  obtain ⟨ξ, Y, s, tv, ts, hK, F, q⟩ := q
  exact q Y H [] (Same.refl _) F .nil
theorem ma_cons {f : EF} {g : AF} {e : Expr} {es : List Expr} (h : ME X c f e) (h2 : MA X c g es) (hs : starEach (e :: es) X.env = (false, eval e X.env) :: starEach es X.env := by rfl) : MA X c (aCons f g) (e :: es) := by
  refine ⟨PA.imp (pa_cons h.run h2.run hs) fun σ H Q q => ?_⟩
  obtain ⟨ξ, Y, s, tv, ts, hK, F, q⟩ := q
  refine tE_seq hK F q fun d s1 Y1 H1 v e1 F1 r1 q1 => ?_
  refine tA_seq hK F1 (out.mono c q1 e1 (fun _ _ z => z)) fun ds s2 Y2 H2 vs e2 F2 r2 q2 => ?_
  exact q2 Y2 H2 (v :: vs) (e1.trans e2) F2 (.cons (r1.mono e2) r2)
def eTup (g : AF) : EF := fun s => (g s).bind fun ds s => if ds.length ≤ sizeLine then .ok (.tuple ds) s else .bad
def oLst (g : AF) : OF := fun s => (g s).bind fun ds s => if ds.length ≤ sizeLine then .ok (.ol ds) s else .bad
theorem me_tup {g : AF} {es : List Expr} {k} {pos : Pos} (h : MA X c g es) : ME X c (eTup g) (.Tuple es k pos) := by
  refine ⟨PE.imp (pe_tup h.run) fun σ H Q q => ?_⟩
  obtain ⟨ξ, Y, s, tv, ts, hK, F, q⟩ := q
  refine tA_seq hK F q fun ds s1 Y1 H1 vs e1 F1 r1 q1 => ?_
  split at q1
  · rename_i hl
    refine ⟨by rw [r1.length]; exact hl, fun p hp => ?_⟩
    obtain ⟨e2, F2⟩ := (Gives.tup hp r1).fs hK F1
    obtain ⟨Y3, e3, F3, r3⟩ := F2.freezeT
    exact q1 Y3 _ _ ((e1.trans e2).trans e3) F3 (hK ▸ r3)
  · exact q1.elim
theorem mo_lst {g : AF} {es : List Expr} {pos : Pos} (h : MA X c g es) : MO X c (oLst g) (.List es pos) := by
  refine ⟨PE.imp (pe_lst h.run) fun σ H Q q => ?_⟩
  obtain ⟨ξ, Y, s, tv, ts, hK, F, q⟩ := q
  refine tA_seq hK F q fun ds s1 Y1 H1 vs e1 F1 r1 q1 => ?_
  split at q1
  · rename_i hl
    refine ⟨by rw [r1.length]; exact hl, fun p hp => ?_⟩
    obtain ⟨e2, F2⟩ := (Gives.lst hp r1).fs hK F1
    exact q1 _ _ _ (e1.trans e2) F2
  · exact q1.elim

/-! ### lending -/
def eLend (ms : List Mode) (f : EF) : EF := fun s => if ms.length = s.length then match f (brw ms s) with
    | .ok d s' => match rst ms s s' with
      | some r => if free d = true then .ok d r else .bad
      | none => .bad
    | .ex e s' => match rst ms s s' with
      | some r => .ex e r
      | none => .bad
    | .bad => .bad
  else .bad
def oLend (ms : List Mode) (f : OF) : OF := fun s => if ms.length = s.length then match f (brw ms s) with
    | .ok (.ol ds) s' => match rst ms s s' with
      | some r => if freeAll ds = true then .ok (.ol ds) r else .bad
      | none => .bad
    | .ex e s' => match rst ms s s' with
      | some r => .ex e r
      | none => .bad
    | _ => .bad
  else .bad
theorem me_lend {ms : List Mode} {f : EF} {e : Expr} (h : ME X c f e) : ME X c (eLend ms f) e := by
  refine ⟨PE.imp h.run fun σ H Q q => ?_⟩
  obtain ⟨ξ, Y, s, tv, ts, hK, F, q⟩ := q
  unfold eLend at q
  split at q
  · rename_i hm
    obtain ⟨ξ', Y1, hK', e1, F1, back⟩ := F.lend hm
    refine ⟨ξ', Y1, brw ms s, [], [], hK'.trans hK, F1, ?_⟩
    cases ef : f (brw ms s) with
    | ok d s' =>
      rw [ef] at q
      intro Y' H' v e2 F2 r2
      simp only at q
      split at q
      · rename_i r er
        split at q
        · rename_i hf
          obtain ⟨Y2, e3, F3, r3⟩ := back Y' H' s' r [] [] e2 F2 er rfl
          rw [List.append_nil, List.append_nil] at F3
          exact q Y2 H' v e3 F3 (hK ▸ r3 v d (hK ▸ r2) hf)
        · exact q.elim
      · exact q.elim
    | ex x s' =>
      rw [ef] at q
      intro Y' H' cl y e2 F2 er2
      simp only at q
      split at q
      · rename_i r er
        obtain ⟨Y2, e3, F3, _⟩ := back Y' H' s' r [] [] e2 F2 er rfl
        rw [List.append_nil, List.append_nil] at F3
        exact q Y2 H' cl y e3 F3 er2
      · exact q.elim
    | bad => rw [ef] at q; exact q.elim
  · exact q.elim
theorem mo_lend {ms : List Mode} {f : OF} {e : Expr} (h : MO X c f e) : MO X c (oLend ms f) e := by
  refine ⟨PE.imp h.run fun σ H Q q => ?_⟩
  obtain ⟨ξ, Y, s, tv, ts, hK, F, q⟩ := q
  unfold oLend at q
  split at q
  · rename_i hm
    obtain ⟨ξ', Y1, hK', e1, F1, back⟩ := F.lend hm
    refine ⟨ξ', Y1, brw ms s, [], [], hK'.trans hK, F1, ?_⟩
    cases ef : f (brw ms s) with
    | ok o s' =>
      rw [ef] at q
      cases o with
      | ol ds =>
        intro Y' H' v e2 F2
        simp only at q
        split at q
        · rename_i r er
          split at q
          · rename_i hf
            obtain ⟨Y2, e3, F3, r3⟩ := back Y' H' s' r _ _ e2 F2 er (by simpa [ofreeAll, OD.free] using hf)
            exact q Y2 H' v e3 F3
          · exact q.elim
        · exact q.elim
      | fz _ => exact q.elim
      | on _ => exact q.elim
      | od _ => exact q.elim
    | ex x s' =>
      rw [ef] at q
      intro Y' H' cl y e2 F2 er2
      simp only at q
      split at q
      · rename_i r er
        obtain ⟨Y2, e3, F3, _⟩ := back Y' H' s' r [] [] e2 F2 er rfl
        rw [List.append_nil, List.append_nil] at F3
        exact q Y2 H' cl y e3 F3 er2
      · exact q.elim
    | bad => rw [ef] at q; exact q.elim
  · exact q.elim
end
end MI

set_option Elab.async false
set_option linter.all false
set_option autoImplicit false
set_option maxRecDepth 100000
/-! MI: statements, loops. -/
namespace MI
open PySem PySem.Spec L2

inductive Out where
  | nx (s : S)
  | bk (s : S)
  | ct (s : S)
  | rt (o : OD) (s : S)
  | ex (e : Exn) (s : S)
  | bad
abbrev SF := S → Out
def Res.toS {α : Type} : Res α → (α → S → Out) → Out
  | .ok a s, f => f a s
  | .ex e s, _ => .ex e s
  | .bad, _ => .bad
@[simp] theorem Res.toS_ok {α : Type} {a : α} {s : S} {f : α → S → Out} : (Res.ok a s).toS f = f a s := Eq.trans rfl rfl
@[simp] theorem Res.toS_ex {α : Type} {e : Exn} {s : S} {f : α → S → Out} : (Res.ex e s).toS f = .ex e s := Eq.trans rfl rfl
@[simp] theorem Res.toS_bad {α : Type} {f : α → S → Out} : Res.bad.toS f = .bad := Eq.trans rfl rfl

/-- the slots of parameters that are handed in by their objects stay -/
def Keep (rf : List Bool) (σ σ' : St) : Prop := σ'.length = σ.length ∧ ∀ j : Nat, rf[j]? = some true → σ'[j]? = σ[j]?
theorem Keep.refl (rf : List Bool) (σ : St) : Keep rf σ σ := ⟨rfl, fun _ _ => rfl⟩
theorem Keep.trans {rf : List Bool} {σ σ' σ'' : St} (a : Keep rf σ σ') (b : Keep rf σ' σ'') : Keep rf σ σ'' := ⟨b.1.trans a.1, fun j h => (b.2 j h).trans (a.2 j h)⟩
theorem Keep.set {rf : List Bool} {σ : St} {i : Nat} {v : Option V} (h : rf[i]? ≠ some true) : Keep rf σ (σ.set i v) := ⟨by simp, fun j hj => by
  rw [List.getElem?_set_ne]
  rintro rfl
  exact h hj⟩

section
variable (c : Ct) (rf : List Bool)
def outS (ξ : Fx) (Y : Hp) (σ : St) (D : Ends) : Out → Prop
  | .nx s' => ∀ Y' H' σ', Same Y Y' → Keep rf σ σ' → FS ξ Y' H' σ' s' [] [] → D.nx σ' H'
  | .bk s' => ∀ Y' H' σ', Same Y Y' → Keep rf σ σ' → FS ξ Y' H' σ' s' [] [] → D.bk σ' H'
  | .ct s' => ∀ Y' H' σ', Same Y Y' → Keep rf σ σ' → FS ξ Y' H' σ' s' [] [] → D.ct σ' H'
  | .rt o s' => ∀ Y' H' σ' v, Same Y Y' → Keep rf σ σ' → FS ξ Y' H' σ' s' [v] [o] → D.rt v H'
  | .ex e s' => ∀ Y' H' σ' cl x, Same Y Y' → Keep rf σ σ' → FS ξ Y' H' σ' s' [] [] → c.er e cl x H' → c.W cl x σ' H'
  | .bad => False
theorem outS.mono {ξ : Fx} {Y Y1 : Hp} {σ σ1 : St} {D : Ends} {r : Out} (h : outS c rf ξ Y σ D r) (e : Same Y Y1) (k : Keep rf σ σ1) : outS c rf ξ Y1 σ1 D r := by
  cases r with
  | nx s => exact fun Y' H' σ' e' k' F => h Y' H' σ' (e.trans e') (k.trans k') F
  | bk s => exact fun Y' H' σ' e' k' F => h Y' H' σ' (e.trans e') (k.trans k') F
  | ct s => exact fun Y' H' σ' e' k' F => h Y' H' σ' (e.trans e') (k.trans k') F
  | rt o s => exact fun Y' H' σ' v e' k' F => h Y' H' σ' v (e.trans e') (k.trans k') F
  | ex x s => exact fun Y' H' σ' cl q e' k' F er => h Y' H' σ' cl q (e.trans e') (k.trans k') F er
  | bad => exact h
def tS (f : SF) : TS := fun D σ H => ∃ ξ Y s, ξ.K = c.K ∧ FS ξ Y H σ s [] [] ∧ outS c rf ξ Y σ D (f s)
end
structure MS (X : Cx) (c : Ct) (rf : List Bool) (f : SF) (st : Stmt) : Prop where
  run : PS X st (tS c rf f)
structure MSs (X : Cx) (c : Ct) (rf : List Bool) (f : SF) (st : List Stmt) : Prop where
  run : PSs X st (tS c rf f)
theorem PS.imp {X : Cx} {e : Stmt} {t t' : TS} (h : PS X e t) (i : ∀ D σ H, t' D σ H → t D σ H) : PS X e t' := ⟨fun pins s σ H D I q => h.run pins s σ H D I (i D σ H q)⟩
theorem PSs.imp {X : Cx} {e : List Stmt} {t t' : TS} (h : PSs X e t) (i : ∀ D σ H, t' D σ H → t D σ H) : PSs X e t' := ⟨fun pins s σ H D I q => h.run pins s σ H D I (i D σ H q)⟩

section
variable {X : Cx} {c : Ct} {rf : List Bool} {ξ : Fx} {Y H : Hp} {σ : St} {s : S}

/-- an expression ahead of the rest of a statement -/
theorem sE_seq {fa : EF} {k : D → S → Out} {D : Ends} {R : VK} (hK : ξ.K = c.K) (F : FS ξ Y H σ s [] []) (h : outS c rf ξ Y σ D ((fa s).toS k))
    (hR : ∀ d s1 Y1 H1 v, Same Y Y1 → FS ξ Y1 H1 σ s1 [] [] → Dr c.K Y1 v d → outS c rf ξ Y σ D (k d s1) → R v H1) : tE c fa σ H R := by
  refine ⟨ξ, Y, s, [], [], hK, F, ?_⟩
  cases e : fa s with
  | ok d s1 => rw [e] at h; exact fun Y1 H1 v e1 F1 r1 => hR d s1 Y1 H1 v e1 F1 r1 h
  | ex x s1 => rw [e] at h; exact fun Y' H' cl q e' F' er => h Y' H' σ cl q e' (.refl _ _) F' er
  | bad => rw [e] at h; exact h
theorem sO_seq {fa : OF} {k : OD → S → Out} {D : Ends} {R : VK} (hK : ξ.K = c.K) (F : FS ξ Y H σ s [] []) (h : outS c rf ξ Y σ D ((fa s).toS k))
    (hR : ∀ o s1 Y1 H1 v, Same Y Y1 → FS ξ Y1 H1 σ s1 [v] [o] → outS c rf ξ Y σ D (k o s1) → R v H1) : tO c fa σ H R := by
  refine ⟨ξ, Y, s, [], [], hK, F, ?_⟩
  cases e : fa s with
  | ok d s1 => rw [e] at h; exact fun Y1 H1 v e1 F1 => hR d s1 Y1 H1 v e1 F1 h
  | ex x s1 => rw [e] at h; exact fun Y' H' cl q e' F' er => h Y' H' σ cl q e' (.refl _ _) F' er
  | bad => rw [e] at h; exact h
theorem sT_seq {fa : TF} {k : Bool → S → Out} {D : Ends} {R : Bool → Hp → Prop} (hK : ξ.K = c.K) (F : FS ξ Y H σ s [] []) (h : outS c rf ξ Y σ D ((fa s).toS k))
    (hR : ∀ b s1 Y1 H1, Same Y Y1 → FS ξ Y1 H1 σ s1 [] [] → outS c rf ξ Y σ D (k b s1) → R b H1) : tT c fa σ H R := by
  refine ⟨ξ, Y, s, [], [], hK, F, ?_⟩
  cases e : fa s with
  | ok d s1 => rw [e] at h; exact fun Y1 H1 e1 F1 => hR d s1 Y1 H1 e1 F1 h
  | ex x s1 => rw [e] at h; exact fun Y' H' cl q e' F' er => h Y' H' σ cl q e' (.refl _ _) F' er
  | bad => rw [e] at h; exact h

/-! ### blocks -/
def sNx : SF := fun s => .nx s
def sBk : SF := fun s => .bk s
def sCt : SF := fun s => .ct s
def sSeq (f g : SF) : SF := fun s => match f s with
  | .nx s => g s
  | o => o
theorem mss_nil : MSs X c rf sNx [] := by
  refine ⟨PSs.imp pss_nil fun D σ H q => ?_⟩
  obtain ⟨ξ, Y, s, hK, F, q⟩ := q
  exact q Y H σ (Same.refl _) (.refl _ _) F
theorem mss_one {f : SF} {st : Stmt} (h : MS X c rf f st) : MSs X c rf f [st] := ⟨pss_one h.run⟩
theorem mss_cons {f g : SF} {st : Stmt} {r : List Stmt} (h : MS X c rf f st) (h2 : MSs X c rf g r) : MSs X c rf (sSeq f g) (st :: r) := by
  refine ⟨PSs.imp (pss_cons h.run h2.run) fun D σ H q => ?_⟩
  obtain ⟨ξ, Y, s, hK, F, q⟩ := q
  refine ⟨ξ, Y, s, hK, F, ?_⟩
  unfold sSeq at q
  cases e : f s with
  | nx s1 => rw [e] at q; exact fun Y1 H1 σ1 e1 k1 F1 => ⟨ξ, Y1, s1, hK, F1, outS.mono c rf q e1 k1⟩
  | bk s1 => rw [e] at q; exact q
  | ct s1 => rw [e] at q; exact q
  | rt o s1 => rw [e] at q; exact q
  | ex x s1 => rw [e] at q; exact q
  | bad => rw [e] at q; exact q
theorem ms_pass {pos : Pos} : MS X c rf sNx (.Pass pos) := by
  refine ⟨PS.imp ps_pass fun D σ H q => ?_⟩
  obtain ⟨ξ, Y, s, hK, F, q⟩ := q
  exact q Y H σ (Same.refl _) (.refl _ _) F
theorem ms_break {pos : Pos} : MS X c rf sBk (.Break pos) := by
  refine ⟨PS.imp ps_break fun D σ H q => ?_⟩
  obtain ⟨ξ, Y, s, hK, F, q⟩ := q
  exact q Y H σ (Same.refl _) (.refl _ _) F
theorem ms_continue {pos : Pos} : MS X c rf sCt (.Continue pos) := by
  refine ⟨PS.imp ps_continue fun D σ H q => ?_⟩
  obtain ⟨ξ, Y, s, hK, F, q⟩ := q
  exact q Y H σ (Same.refl _) (.refl _ _) F
/-- code that is never come to -/
def sBad : SF := fun _ => .bad
theorem ms_never {st : Stmt} : MS X c rf sBad st := ⟨PS.imp ps_never fun D σ H q => by
  obtain ⟨ξ, Y, s, hK, F, q⟩ := q
  exact q.elim⟩
def sExp (f : EF) : SF := fun s => (f s).toS fun _ s => .nx s
theorem ms_expr {f : EF} {e : Expr} {pos : Pos} (h : ME X c f e) (hs : swapsWith e none pos.line X.env = pure false := by rfl) : MS X c rf (sExp f) (.Expr e pos) := by
  refine ⟨PS.imp (ps_expr h.run hs) fun D σ H q => ?_⟩
  obtain ⟨ξ, Y, s, hK, F, q⟩ := q
  exact sE_seq hK F q fun d s1 Y1 H1 v e1 F1 r1 q1 => q1 Y1 H1 σ e1 (.refl _ _) F1
def sRet (f : OF) : SF := fun s => (f s).toS fun o s => .rt o s
theorem ms_ret {f : OF} {e : Expr} {pos : Pos} (h : MO X c f e) : MS X c rf (sRet f) (.Return (some e) pos) := by
  refine ⟨PS.imp (ps_ret h.run) fun D σ H q => ?_⟩
  obtain ⟨ξ, Y, s, hK, F, q⟩ := q
  exact sO_seq hK F q fun o s1 Y1 H1 v e1 F1 q1 => q1 Y1 H1 σ v e1 (.refl _ _) F1
def sRetN : SF := fun s => .rt (.fz .none) s
theorem ms_retN {pos : Pos} : MS X c rf sRetN (.Return none pos) := by
  refine ⟨PS.imp ps_retN fun D σ H q => ?_⟩
  obtain ⟨ξ, Y, s, hK, F, q⟩ := q
  exact q Y H σ .non (Same.refl _) (.refl _ _) (F.pushD .non)
def sIf (t : TF) (f g : SF) : SF := fun s => (t s).toS fun b s => if b = true then f s else g s
theorem ms_if {t : TF} {f g : SF} {x : Expr} {a b : List Stmt} {pos : Pos} (ht : MT X c t x) (hf : MSs X c rf f a) (hg : MSs X c rf g b) : MS X c rf (sIf t f g) (.If x a b pos) := by
  refine ⟨PS.imp (ps_if ht.run hf.run hg.run) fun D σ H q => ?_⟩
  obtain ⟨ξ, Y, s, hK, F, q⟩ := q
  refine sT_seq hK F q fun b s1 Y1 H1 e1 F1 q1 => ?_
  cases b with
  | true => exact iteT ⟨ξ, Y1, s1, hK, F1, outS.mono c rf (show outS c rf ξ Y σ D (f s1) from q1) e1 (.refl _ _)⟩
  | false => exact iteF ⟨ξ, Y1, s1, hK, F1, outS.mono c rf (show outS c rf ξ Y σ D (g s1) from q1) e1 (.refl _ _)⟩

/-! ### targets -/
/-- a frozen value to a target -/
abbrev GF := D → S → Option S
def tG (rf : List Bool) (K : PySem.W.Frag) (g : GF) : TG := fun v σ H Q => ∃ ξ Y s d tv ts, ξ.K = K ∧ FS ξ Y H σ s tv ts ∧ Dr K Y v d ∧ ∃ s', g d s = some s' ∧ ∀ Y' H' σ', Same Y Y' → Keep rf σ σ' → FS ξ Y' H' σ' s' tv ts → Q σ' H'
def tGs (rf : List Bool) (K : PySem.W.Frag) (g : List D → S → Option S) : TGs := fun vs σ H Q => ∃ ξ Y s ds tv ts, ξ.K = K ∧ FS ξ Y H σ s tv ts ∧ DrAll K Y vs ds ∧ ∃ s', g ds s = some s' ∧ ∀ Y' H' σ', Same Y Y' → Keep rf σ σ' → FS ξ Y' H' σ' s' tv ts → Q σ' H'
structure MG (X : Cx) (c : Ct) (rf : List Bool) (g : GF) (t : Expr) : Prop where
  run : PG X t (tG rf c.K g)
structure MGs (X : Cx) (c : Ct) (rf : List Bool) (g : List D → S → Option S) (t : List Expr) : Prop where
  run : PGs X t (tGs rf c.K g)
theorem PG.imp {X : Cx} {e : Expr} {t t' : TG} (h : PG X e t) (i : ∀ v σ H Q, t' v σ H Q → t v σ H Q) : PG X e t' := ⟨fun pins s σ H v u Q I r q => h.run pins s σ H v u Q I r (i v σ H Q q)⟩
theorem PGs.imp {X : Cx} {e : List Expr} {t t' : TGs} (h : PGs X e t) (i : ∀ v σ H Q, t' v σ H Q → t v σ H Q) : PGs X e t' := ⟨fun pins s σ H v u Q I r q => h.run pins s σ H v u Q I r (i v σ H Q q)⟩
def gN (i : Nat) : GF := fun d s => some (s.set i (some (.fz d)))
theorem mg_name {i : Nat} {x : Str} {pos : Pos} (hN : X.N.Nodup) (hi : X.N[i]? = some x) (hx : Loc X.env.scope x) (hr : rf[i]? ≠ some true := by decide) (hf : X.fn x = true ∨ X.env.scope.names.lookup x = some .local := by first | exact .inl rfl | exact .inr rfl | assumption) : MG X c rf (gN i) (.Name x pos) := by
  refine ⟨PG.imp (pg_name hN hi hx hf) fun v σ H Q q => ?_⟩
  obtain ⟨ξ, Y, s, d, tv, ts, hK, F, r, s', e, q⟩ := q
  cases e
  exact q Y H _ (Same.refl _) (.set hr) (F.asgD (hK ▸ r) i)
def gsNil : List D → S → Option S := fun ds s => match ds with
  | [] => some s
  | _ => none
def gsCons (g : GF) (gs : List D → S → Option S) : List D → S → Option S := fun ds s => match ds with
  | d :: r => (g d s).bind (gs r)
  | [] => none
theorem mgs_nil : MGs X c rf gsNil [] := by
  refine ⟨PGs.imp pgs_nil fun v σ H Q q => ?_⟩
  obtain ⟨ξ, Y, s, ds, tv, ts, hK, F, r, s', e, q⟩ := q
  cases r with
  | nil => cases e; exact ⟨rfl, q Y H σ (Same.refl _) (.refl _ _) F⟩
  | cons _ _ => cases e
theorem mgs_cons {g : GF} {gs : List D → S → Option S} {e : Expr} {es : List Expr} (h : MG X c rf g e) (h2 : MGs X c rf gs es)
    (hs : (assignEach (e :: es) X.env).map (·.2) = assign e X.env :: (assignEach es X.env).map (·.2) := by rfl) : MGs X c rf (gsCons g gs) (e :: es) := by
  refine ⟨PGs.imp (pgs_cons h.run h2.run hs) fun v σ H Q q => ?_⟩
  obtain ⟨ξ, Y, s, ds, tv, ts, hK, F, r, s', e, q⟩ := q
  cases r with
  | nil => cases e
  | @cons v vs d ds r rr =>
    unfold gsCons at e
    cases e1 : g d s with
    | none => simp only [e1] at e; cases e
    | some s1 =>
      simp only [e1] at e
      refine ⟨v, vs, rfl, ξ, Y, s, d, tv, ts, hK, F, r, s1, e1, fun Y1 H1 σ1 y1 k1 F1 => ?_⟩
      exact ⟨ξ, Y1, s1, ds, tv, ts, hK, F1, rr.mono y1, s', e, fun Y2 H2 σ2 y2 k2 F2 => q Y2 H2 σ2 (y1.trans y2) (k1.trans k2) F2⟩
def gT (n : Nat) (gs : List D → S → Option S) : GF := fun d s => match d with
  | .tuple ds => if ds.length = n then gs ds s else none
  | _ => none
theorem mg_tup {es : List Expr} {k : Nat} {n : Nat} {pos : Pos} {gs : List D → S → Option S} (hc : X.calm = true) (hXK : X.K = c.K) (h : MGs X c rf gs es) (hn : (assignEach es X.env).length = n := by rfl) (hst : (assignEach es X.env).findIdx? (·.1) = none := by rfl) : MG X c rf (gT n gs) (.Tuple es k pos) := by
  refine ⟨PG.imp (pg_tup hc h.run hn hst) fun v σ H Q q => ?_⟩
  obtain ⟨ξ, Y, s, d, tv, ts, hK, F, r, s', e, q⟩ := q
  unfold gT at e
  split at e
  · rename_i ds
    split at e
    · rename_i hl
      obtain ⟨a, xs, rfl, hq, hd⟩ := r.tuple_inv
      refine ⟨a, xs, rfl, hXK ▸ Same.sqt F.sub hq, by rw [hd.length]; exact hl, ?_⟩
      exact ⟨ξ, Y, s, ds, tv, ts, hK, F, hd, s', e, q⟩
    · cases e
  · cases e

/-! ### assignments -/
def sAsg (f : EF) (g : GF) : SF := fun s => (f s).toS fun d s => match g d s with
  | some s => .nx s
  | none => .bad
theorem sAsg_core {f : EF} {g : GF} {D : Ends} {σ : St} {H : Hp} (q : tS c rf (sAsg f g) D σ H) : tAsg (tE c f) (tG rf c.K g) D σ H := by
  obtain ⟨ξ, Y, s, hK, F, q⟩ := q
  refine sE_seq hK F q fun d s1 Y1 H1 v e1 F1 r1 q1 => ?_
  split at q1
  · rename_i s2 eg
    exact ⟨ξ, Y1, s1, d, [], [], hK, F1, r1, s2, eg, fun Y2 H2 σ2 e2 k2 F2 => q1 Y2 H2 σ2 (e1.trans e2) k2 F2⟩
  · exact q1.elim
theorem ms_asg {f : EF} {g : GF} {tg e : Expr} {pos : Pos} (h : ME X c f e) (hg : MG X c rf g tg) (hs : swapsWithSole [tg] e pos.line X.env = pure false := by rfl) (hw : swappedStores [tg] e X.env = pure none := by rfl)
    (h1 : (assignEach [tg] X.env).map (·.2) = [assign tg X.env] := by rfl) : MS X c rf (sAsg f g) (.Assign [tg] e pos) :=
  ⟨PS.imp (ps_asg h.run hg.run hs hw h1) fun D σ H q => sAsg_core q⟩
/-- name = value, owned -/
def sSet (i : Nat) (f : OF) : SF := fun s => (f s).toS fun o s => .nx (s.set i (some o))
theorem sSet_core {i : Nat} {f : OF} {D : Ends} {σ : St} {H : Hp} (hr : rf[i]? ≠ some true) (q : tS c rf (sSet i f) D σ H) : tAsg (tO c f) (gName i) D σ H := by
  obtain ⟨ξ, Y, s, hK, F, q⟩ := q
  refine sO_seq hK F q fun o s1 Y1 H1 v e1 F1 q1 => ?_
  exact q1 Y1 H1 _ e1 (.set hr) (F1.asgT (tv := []) (ts := []) i)
theorem ms_set {i : Nat} {x : Str} {f : OF} {e : Expr} {pos pos' : Pos} (hN : X.N.Nodup) (hi : X.N[i]? = some x) (hx : Loc X.env.scope x) (h : MO X c f e) (hr : rf[i]? ≠ some true := by decide) (hs : swapsWith e (some (.Name x pos')) pos.line X.env = pure false := by rfl) (hf : X.fn x = true ∨ X.env.scope.names.lookup x = some .local := by first | exact .inl rfl | exact .inr rfl | assumption) :
    MS X c rf (sSet i f) (.Assign [.Name x pos'] e pos) := ⟨PS.imp (ps_set hN hi hx h.run hs hf) fun D σ H q => sSet_core hr q⟩

/-- a middle temp to a slot -/
theorem FS.asgF {tv vs : List V} {ts os : List OD} {v : V} {o : OD} (F : FS ξ Y H σ s (tv ++ v :: vs) (ts ++ o :: os)) (hl : ts.length = tv.length) (i : Nat) : FS ξ Y H (σ.set i (some v)) (s.set i (some o)) (tv ++ vs) (ts ++ os) := by
  obtain ⟨g, R⟩ := F.rel
  have tl : os.length = vs.length := by have := F.tlen; simp at this; omega
  obtain ⟨v', e, r⟩ := R.temp ts.length o (by rw [List.getElem?_append_right (Nat.le_refl _), Nat.sub_self]; rfl)
  have ev : v' = v := by
    rw [hl, List.getElem?_append_right (Nat.le_refl _), Nat.sub_self] at e
    exact (Option.some.inj e).symm
  subst ev
  let sh : Nat → Nat := fun j => if j < ts.length then j else j + 1
  have shi : ∀ j k, sh j = sh k → j = k := fun j k h => by
    simp only [sh] at h
    split at h <;> split at h <;> omega
  have shn : ∀ j, sh j ≠ ts.length := fun j h => by
    simp only [sh] at h
    split at h <;> omega
  refine F.re R (fun k a => match k with
    | .inl j => (j = i ∧ g (.inr ts.length) a) ∨ (j ≠ i ∧ g (.inl j) a)
    | .inr j => g (.inr (sh j)) a) (Same.refl _) F.sub (fun a q => .inl q) (fun k a f => ?_) (fun k j a f f' => ?_) (by simp [F.len]) (by simp [hl, tl]) (fun j o e => ?_) (fun j u e => ?_)
  · cases k with
    | inl j =>
      rcases f with ⟨_, f⟩ | ⟨_, f⟩
      · exact ⟨(R.own _ a f).2.1, _, f⟩
      · exact ⟨(R.own _ a f).2.1, _, f⟩
    | inr j => exact ⟨(R.own _ a f).2.1, _, f⟩
  · cases k with
    | inl k =>
      cases j with
      | inl j =>
        rcases f with ⟨rfl, f⟩ | ⟨n1, f⟩
        · rcases f' with ⟨rfl, _⟩ | ⟨_, f'⟩
          · rfl
          · cases R.sep _ _ _ f' f
        · rcases f' with ⟨rfl, f'⟩ | ⟨_, f'⟩
          · cases R.sep _ _ _ f f'
          · exact R.sep _ _ _ f f'
      | inr j =>
        rcases f with ⟨rfl, f⟩ | ⟨n1, f⟩
        · exact (shn j (Sum.inr.inj (R.sep _ _ _ f' f))).elim
        · cases R.sep _ _ _ f f'
    | inr k =>
      cases j with
      | inl j =>
        rcases f' with ⟨rfl, f'⟩ | ⟨_, f'⟩
        · exact (shn k (Sum.inr.inj (R.sep _ _ _ f f'))).elim
        · cases R.sep _ _ _ f f'
      | inr j => exact congrArg Sum.inr (shi _ _ (Sum.inr.inj (R.sep _ _ _ f f')))
  · by_cases hj : j = i
    · subst hj
      have hlt : j < s.length := by
        have := lt_of_get e
        simpa using this
      rw [List.getElem?_set_self hlt] at e
      cases e
      refine ⟨v', List.getElem?_set_self (by rw [← F.len]; exact hlt), r.iff fun a => ⟨fun f => .inl ⟨rfl, f⟩, fun f => f.elim (fun z => z.2) fun z => (z.1 rfl).elim⟩⟩
    · rw [List.getElem?_set_ne (Ne.symm hj)] at e
      obtain ⟨v, e1, r⟩ := R.slot j o e
      exact ⟨v, by rw [List.getElem?_set_ne (Ne.symm hj)]; exact e1, r.iff fun a => ⟨fun f => .inr ⟨hj, f⟩, fun f => f.elim (fun z => (hj z.1).elim) fun z => z.2⟩⟩
  · have e2 : (ts ++ o :: os)[sh j]? = (ts ++ os)[j]? := by
      simp only [sh]
      split
      · rename_i q
        rw [List.getElem?_append_left q, List.getElem?_append_left q]
      · rename_i q
        rw [List.getElem?_append_right (by omega), List.getElem?_append_right (by omega), show j + 1 - ts.length = (j - ts.length) + 1 by omega, List.getElem?_cons_succ]
    have e3 : (tv ++ v' :: vs)[sh j]? = (tv ++ vs)[j]? := by
      simp only [sh, hl]
      split
      · rename_i q
        rw [List.getElem?_append_left q, List.getElem?_append_left q]
      · rename_i q
        rw [List.getElem?_append_right (by omega), List.getElem?_append_right (by omega), show j + 1 - tv.length = (j - tv.length) + 1 by omega, List.getElem?_cons_succ]
    obtain ⟨v, e1, r⟩ := R.temp (sh j) u (e2.trans e)
    exact ⟨v, e3 ▸ e1, r⟩

/-! ### a, b = x, y : owned -/
abbrev AOF := S → Res (List OD)
def tAO (c : Ct) (f : AOF) : TA := fun σ H Q => ∃ ξ Y s tv ts, ξ.K = c.K ∧ FS ξ Y H σ s tv ts ∧
  out c ξ Y σ tv ts (fun os s' => ∀ Y' H' vs, Same Y Y' → FS ξ Y' H' σ s' (tv ++ vs) (ts ++ os) → Q vs H') (f s)
structure MAO (X : Cx) (c : Ct) (f : AOF) (es : List Expr) : Prop where
  run : PA X es (tAO c f)
theorem out.drop {α : Type} {ξ : Fx} {Y Y1 H1 : Hp} {σ : St} {tv vs : List V} {ts os : List OD} {G G' : α → S → Prop} {r : Res α} (h : out c ξ Y σ tv ts G r) (e : Same Y Y1) (hl : ts.length = tv.length) (hd : ∀ Y' H' s', FS ξ Y' H' σ s' (tv ++ vs) (ts ++ os) → FS ξ Y' H' σ s' tv ts) (g : ∀ a s, G a s → G' a s) : out c ξ Y1 σ (tv ++ vs) (ts ++ os) G' r := by
  cases r with
  | ok a s => exact g a s h
  | ex x s => exact fun Y' H' cl q e' F er => h Y' H' cl q (e.trans e') (hd _ _ _ F) er
  | bad => exact h
/-- temps at the end are let go of -/
theorem FS.dropT {tv vs : List V} {ts os : List OD} (F : FS ξ Y H σ s (tv ++ vs) (ts ++ os)) (hl : ts.length = tv.length) : FS ξ Y H σ s tv ts := by
  obtain ⟨g, R⟩ := F.rel
  refine F.re R g (Same.refl _) F.sub (fun a q => .inl q) (fun i a f => ⟨(R.own i a f).2.1, i, f⟩) R.sep F.len hl R.slot (fun j o e => ?_)
  have hj := lt_of_get e
  obtain ⟨v, e1, r⟩ := R.temp j o (by rw [List.getElem?_append_left hj]; exact e)
  exact ⟨v, by rw [List.getElem?_append_left (by omega)] at e1; exact e1, r⟩
def aoNil : AOF := fun s => .ok [] s
def aoCons (f : OF) (g : AOF) : AOF := fun s => (f s).bind fun o s => (g s).bind fun os s => .ok (o :: os) s
theorem mao_nil : MAO X c aoNil [] := by
  refine ⟨PA.imp pa_nil fun σ H Q q => ?_⟩
  obtain ⟨ξ, Y, s, tv, ts, hK, F, q⟩ := q
  exact q Y H [] (Same.refl _) (by rw [List.append_nil, List.append_nil]; exact F)
theorem mao_cons {f : OF} {g : AOF} {e : Expr} {es : List Expr} (h : MO X c f e) (h2 : MAO X c g es) (hs : starEach (e :: es) X.env = (false, eval e X.env) :: starEach es X.env := by rfl) : MAO X c (aoCons f g) (e :: es) := by
  refine ⟨PA.imp (pa_cons h.run h2.run hs) fun σ H Q q => ?_⟩
  obtain ⟨ξ, Y, s, tv, ts, hK, F, q⟩ := q
  refine tO_seq hK F q fun o s1 Y1 H1 v e1 F1 q1 => ?_
  refine ⟨ξ, Y1, s1, tv ++ [v], ts ++ [o], hK, F1, ?_⟩
  cases eg : g s1 with
  | ok os s2 =>
    rw [eg] at q1
    intro Y2 H2 vs e2 F2
    rw [List.append_assoc, List.append_assoc] at F2
    exact q1 Y2 H2 (v :: vs) (e1.trans e2) F2
  | ex x s2 =>
    rw [eg] at q1
    exact fun Y2 H2 cl x2 e2 F2 er => q1 Y2 H2 cl x2 (e1.trans e2) (F2.dropT F.tlen) er
  | bad => rw [eg] at q1; exact q1
def setAll : List Nat → List OD → S → S
  | i :: is, o :: os, s => setAll is os (s.set i (some o))
  | _, _, s => s
def setAllV : List Nat → List V → St → St
  | i :: is, v :: vs, σ => setAllV is vs (σ.set i (some v))
  | _, _, σ => σ
theorem FS.asgAll : ∀ {is : List Nat} {vs : List V} {os : List OD} {σ : St} {s : S}, is.length = os.length → FS ξ Y H σ s vs os → FS ξ Y H (setAllV is vs σ) (setAll is os s) [] []
  | [], [], [], σ, s, _, F => F
  | i :: is, v :: vs, o :: os, σ, s, h, F => by
    show FS ξ Y H (setAllV is vs (σ.set i (some v))) (setAll is os (s.set i (some o))) [] []
    exact FS.asgAll (by simpa using h) (F.asgF (tv := []) (ts := []) rfl i)
  | [], _, _ :: _, _, _, h, _ => by simp at h
  | _ :: _, _, [], _, _, h, _ => by simp at h
  | [], _ :: _, [], _, _, _, F => by have := F.tlen; simp at this
  | _ :: _, [], _ :: _, _, _, _, F => by have := F.tlen; simp at this
theorem Keep.setAllV {rf : List Bool} : ∀ {is : List Nat} {vs : List V} {σ : St}, (∀ i ∈ is, rf[i]? ≠ some true) → Keep rf σ (setAllV is vs σ)
  | [], _, _, _ => .refl _ _
  | _ :: _, [], _, _ => .refl _ _
  | i :: is, v :: vs, σ, h => (Keep.set (h i (by simp))).trans (Keep.setAllV fun j hj => h j (by simp [hj]))
/-- names = a display of as many values -/
def sPar (is : List Nat) (f : AOF) : SF := fun s => (f s).toS fun os s => if os.length = is.length then .nx (setAll is os s) else .bad
theorem sAO_seq {fa : AOF} {k : List OD → S → Out} {D : Ends} {R : List V → Hp → Prop} (hK : ξ.K = c.K) (F : FS ξ Y H σ s [] []) (h : outS c rf ξ Y σ D ((fa s).toS k))
    (hR : ∀ os s1 Y1 H1 vs, Same Y Y1 → FS ξ Y1 H1 σ s1 vs os → outS c rf ξ Y σ D (k os s1) → R vs H1) : tAO c fa σ H R := by
  refine ⟨ξ, Y, s, [], [], hK, F, ?_⟩
  cases e : fa s with
  | ok d s1 => rw [e] at h; exact fun Y1 H1 v e1 F1 => hR d s1 Y1 H1 v e1 F1 h
  | ex x s1 => rw [e] at h; exact fun Y' H' cl q e' F' er => h Y' H' σ cl q e' (.refl _ _) F' er
  | bad => rw [e] at h; exact h
theorem ms_par2 {i j : Nat} {x y : Str} {f : AOF} {a b : Expr} {px py pt pos : Pos} {kt k2 pt2} (hc : X.calm = true) (hN : X.N.Nodup) (hi : X.N[i]? = some x) (hj : X.N[j]? = some y) (hij : i ≠ j)
    (hx : X.env.scope.names.lookup x = some .local) (hy : X.env.scope.names.lookup y = some .local) (ha : MAO X c f [a, b]) (hri : rf[i]? ≠ some true) (hrj : rf[j]? ≠ some true)
    (hw : swappedStores [.Tuple [.Name x px, .Name y py] kt pt] (.Tuple [a, b] k2 pt2) X.env = pure (some [x, y]))
    (hs : swapsWithSole [.Tuple [.Name x px, .Name y py] kt pt] (.Tuple [a, b] k2 pt2) pos.line X.env = pure false := by rfl) :
    MS X c rf (sPar [i, j] f) (.Assign [.Tuple [.Name x px, .Name y py] kt pt] (.Tuple [a, b] k2 pt2) pos) := by
  refine ⟨PS.imp (ps_par hc hN hi hj hij hx hy ha.run hw hs) fun D σ H q => ?_⟩
  obtain ⟨ξ, Y, s, hK, F, q⟩ := q
  refine sAO_seq hK F q fun os s1 Y1 H1 vs e1 F1 q1 => ?_
  split at q1
  · rename_i hl
    have hl2 : vs.length = 2 := F1.tlen.symm.trans hl
    obtain ⟨v, w, rfl⟩ : ∃ v w, vs = [v, w] := by
      match vs, hl2 with
      | [v, w], _ => exact ⟨v, w, rfl⟩
    exact ⟨v, w, rfl, q1 Y1 H1 _ e1 ((Keep.set hri).trans (.set hrj)) (FS.asgAll (is := [i, j]) hl.symm F1)⟩
  · exact q1.elim
/-- the same through a tuple -/
def gSlots (is : List Nat) : TGs := fun vs σ H Q => vs.length = is.length ∧ Q (setAllV is vs σ) H
theorem pgs_slots0 {X : Cx} : PGs X [] (gSlots []) := by
  refine ⟨fun pins s σ H vs us Q I r h => pgs_nil.run pins s σ H vs us Q I r ?_⟩
  obtain ⟨h1, h2⟩ := h
  match vs, h1 with
  | [], _ => exact ⟨rfl, h2⟩
theorem pgs_slots {X : Cx} {i : Nat} {is : List Nat} {e : Expr} {es : List Expr} (h : PG X e (gName i)) (h2 : PGs X es (gSlots is)) (hs : (assignEach (e :: es) X.env).map (·.2) = assign e X.env :: (assignEach es X.env).map (·.2) := by rfl) : PGs X (e :: es) (gSlots (i :: is)) := by
  refine ⟨fun pins s σ H vs us Q I r q => (pgs_cons h h2 hs).run pins s σ H vs us Q I r ?_⟩
  obtain ⟨h1, h2⟩ := q
  match vs, h1 with
  | v :: vs, h1 => exact ⟨v, vs, rfl, by simpa using h1, h2⟩
theorem ms_parT {is : List Nat} {f : AOF} {ns es : List Expr} {kt k2 : Nat} {pt pt2 pos : Pos} {n : Nat} (hc : X.calm = true) (ha : MAO X c f es) (hg : PGs X ns (gSlots is)) (hr : ∀ i ∈ is, rf[i]? ≠ some true) (hsz : is.length ≤ 1000 := by decide)
    (hs : swapsWithSole [.Tuple ns kt pt] (.Tuple es k2 pt2) pos.line X.env = pure false := by rfl) (hw : swappedStores [.Tuple ns kt pt] (.Tuple es k2 pt2) X.env = pure none := by rfl)
    (h1 : (assignEach [.Tuple ns kt pt] X.env).map (·.2) = [assign (.Tuple ns kt pt) X.env] := by rfl) (hn : (assignEach ns X.env).length = is.length := by rfl) (hst : (assignEach ns X.env).findIdx? (·.1) = none := by rfl) :
    MS X c rf (sPar is f) (.Assign [.Tuple ns kt pt] (.Tuple es k2 pt2) pos) := by
  refine ⟨PS.imp (ps_asg (pe_tup ha.run) (pg_tup hc hg hn hst) hs hw h1) fun D σ H q => ?_⟩
  obtain ⟨ξ, Y, s, hK, F, q⟩ := q
  refine sAO_seq hK F q fun os s1 Y1 H1 vs e1 F1 q1 => ?_
  split at q1
  · rename_i hl
    have hl2 : vs.length = is.length := F1.tlen.symm.trans hl
    refine ⟨by rw [hl2]; exact Nat.le_of_lt (small1000 hsz), fun p hp => ?_⟩
    refine ⟨p, vs, rfl, .inl (.inl upd_same), hl2, hl2, ?_⟩
    exact q1 Y1 _ _ e1 (Keep.setAllV hr) (FS.asgAll hl.symm (F1.newJ hp _))
  · exact q1.elim
end
end MI

set_option Elab.async false
set_option linter.all false
set_option autoImplicit false
set_option maxRecDepth 100000
/-! MI: loops, comprehensions. -/
namespace MI
open PySem PySem.Spec L2
section
variable {X : Cx} {c : Ct} {rf : List Bool} {ξ : Fx} {Y H : Hp} {σ : St} {s : S} {tv : List V} {ts : List OD}

/-- the last temp is an owned list: written -/
theorem FS.listT {ds : List D} {v : V} (F : FS ξ Y H σ s (tv ++ [v]) (ts ++ [.ol ds])) (hl : ts.length = tv.length) : ∃ p vs, v = .ref p ∧ H p = some (.lst vs) ∧ DrAll ξ.K Y vs ds ∧
    ∀ vs' ds', DrAll ξ.K Y vs' ds' → FS ξ Y (upd H p (.lst vs')) σ s (tv ++ [v]) (ts ++ [.ol ds']) := by
  obtain ⟨g, R⟩ := F.rel
  obtain ⟨v', e, r⟩ := R.temp ts.length _ snoc_new
  have ev : v' = v := by
    rw [hl, snoc_new] at e
    exact (Option.some.inj e).symm
  subst ev
  obtain ⟨p, vs, rfl, hp, hd, hF⟩ := r.ol_inv
  refine ⟨p, vs, rfl, hp, hd, fun vs' ds' h' => ?_⟩
  have gp : g (.inr ts.length) p := (hF p).mpr rfl
  have no : ∀ k a, k ≠ .inr ts.length → g k a → a ≠ p := fun k a n f z => n (R.sep _ _ _ f (z ▸ gp))
  have kk : ∀ k a, k ≠ .inr ts.length → g k a → upd H p (.lst vs') a = H a := fun k a n f => upd_ne (no k a n f)
  obtain ⟨_, yp, op⟩ := R.own _ p gp
  refine ⟨fun a o q => ?_, F.z0, F.fresh, fun a o q m => ?_, fun a q => ?_, F.len, by simp [hl], g, fun j o e => ?_, fun j o e => ?_, fun k a f => ?_, R.sep⟩
  · rw [upd_ne fun z => by rw [z, yp] at q; cases q]
    exact F.sub a o q
  · rw [upd_ne fun z => ?_]
    · exact F.keep a o q m
    · subst z
      rcases op with op | op
      · rw [op] at q; cases q
      · exact m op
  · by_cases z : a = p
    · subst z; rw [upd_same]; simp
    · rw [upd_ne z]; exact F.live a q
  · obtain ⟨v, e1, r⟩ := R.slot j o e
    exact ⟨v, e1, r.mono (Same.refl _) fun a f => kk (.inl j) a (fun z => nomatch z) f⟩
  · rcases getElem?_snoc e with e' | ⟨rfl, rfl⟩
    · obtain ⟨v, e1, r⟩ := R.temp j o (snoc_old e')
      have hj := lt_of_get e'
      exact ⟨v, e1, r.mono (Same.refl _) fun a f => kk (.inr j) a (fun z => by cases z; omega) f⟩
    · exact ⟨.ref p, by rw [hl]; exact snoc_new, (RO.ol upd_same h').iff fun a => (hF a).symm⟩
  · have h1 := R.own k a f
    by_cases z : a = p
    · subst z; exact ⟨by rw [upd_same]; simp, h1.2⟩
    · exact ⟨by rw [upd_ne z]; exact h1.1, h1.2⟩
/-- other values where nothing is told -/
theorem FS.resig (F : FS ξ Y H σ s tv ts) {σ' : St} (hl : σ'.length = σ.length) (h : ∀ (i : Nat) (o : OD), s[i]? = some (some o) → σ'[i]? = σ[i]?) : FS ξ Y H σ' s tv ts := by
  obtain ⟨g, R⟩ := F.rel
  refine F.re R g (Same.refl _) F.sub (fun a q => .inl q) (fun i a f => ⟨(R.own i a f).2.1, i, f⟩) R.sep (F.len.trans hl.symm) F.tlen (fun i o e => ?_) R.temp
  obtain ⟨v, e1, r⟩ := R.slot i o e
  exact ⟨v, (h i o e).trans e1, r⟩

/-! ### what is walked -/
abbrev IF := S → Res (List D)
/-- J yields ds -/
structure Walks (K : PySem.W.Frag) (Y : Hp) (J : It) (ds : List D) : Prop where
  go : ∀ i H, Same Y H → i < ds.length → J.go i H
  stop : ∀ H, Same Y H → J.stop ds.length H
  yld : ∀ i H x H' d, Same Y H → ds[i]? = some d → J.yld i H x H' → ∀ Y2, Same Y Y2 → Same Y2 H → ∃ Y3, Gives K Y2 H x Y3 H' (.fz d)
theorem Walks.mono {K : PySem.W.Frag} {Y Y' : Hp} {J : It} {ds : List D} (w : Walks K Y J ds) (e : Same Y Y') : Walks K Y' J ds :=
  ⟨fun i H h => w.go i H (e.trans h), fun H h => w.stop H (e.trans h), fun i H x H' d h h1 h2 Y2 h3 h4 => w.yld i H x H' d (e.trans h) h1 h2 Y2 (e.trans h3) h4⟩
def tI (c : Ct) (f : IF) : TI := fun σ H R => ∃ ξ Y s tv ts, ξ.K = c.K ∧ FS ξ Y H σ s tv ts ∧
  out c ξ Y σ tv ts (fun ds s' => ∀ Y' H' J, Same Y Y' → FS ξ Y' H' σ s' tv ts → Walks c.K Y' J ds → R J H') (f s)
structure MI_ (X : Cx) (c : Ct) (f : IF) (tg iter : Expr) : Prop where
  run : PI X tg iter (tI c f)
theorem PI.imp {X : Cx} {tg e : Expr} {t t' : TI} (h : PI X tg e t) (i : ∀ σ H R, t' σ H R → t σ H R) : PI X tg e t' := ⟨fun pins s σ H R I q => h.run pins s σ H R I (i σ H R q)⟩
theorem PI.or {X : Cx} {tg e : Expr} {t t' : TI} (h : PI X tg e t) (h' : PI X tg e t') : PI X tg e (fun σ H R => t σ H R ∨ t' σ H R) := ⟨fun pins s σ H R I q => q.elim (h.run pins s σ H R I) (h'.run pins s σ H R I)⟩
theorem tI_seq {β : Type} {fa : IF} {k : List D → S → Res β} {G : β → S → Prop} {R : It → Hp → Prop} (hK : ξ.K = c.K) (F : FS ξ Y H σ s tv ts) (h : out c ξ Y σ tv ts G ((fa s).bind k))
    (hR : ∀ ds s1 Y1 H1 J, Same Y Y1 → FS ξ Y1 H1 σ s1 tv ts → Walks c.K Y1 J ds → out c ξ Y σ tv ts G (k ds s1) → R J H1) : tI c fa σ H R := by
  refine ⟨ξ, Y, s, tv, ts, hK, F, ?_⟩
  cases e : fa s with
  | ok d s1 => rw [e] at h; exact fun Y1 H1 v e1 F1 r1 => hR d s1 Y1 H1 v e1 F1 r1 h
  | ex x s1 => rw [e] at h; exact h
  | bad => rw [e] at h; exact h
theorem sI_seq {fa : IF} {k : List D → S → Out} {D : Ends} {R : It → Hp → Prop} (hK : ξ.K = c.K) (F : FS ξ Y H σ s [] []) (h : outS c rf ξ Y σ D ((fa s).toS k))
    (hR : ∀ ds s1 Y1 H1 J, Same Y Y1 → FS ξ Y1 H1 σ s1 [] [] → Walks c.K Y1 J ds → outS c rf ξ Y σ D (k ds s1) → R J H1) : tI c fa σ H R := by
  refine ⟨ξ, Y, s, [], [], hK, F, ?_⟩
  cases e : fa s with
  | ok d s1 => rw [e] at h; exact fun Y1 H1 v e1 F1 r1 => hR d s1 Y1 H1 v e1 F1 r1 h
  | ex x s1 => rw [e] at h; exact fun Y' H' cl q e' F' er => h Y' H' σ cl q e' (.refl _ _) F' er
  | bad => rw [e] at h; exact h
theorem walks_list {K : PySem.W.Frag} {Y : Hp} {a : Addr} {xs : List V} {ds : List D} (h : SqL K Y a xs) (r : DrAll K Y xs ds) (uniq : ∀ H xs', Same Y H → SqL K H a xs' → xs' = xs) : Walks K Y (Itl K a) ds where
  go i H e hi := ⟨xs, xs[i]'(by rw [r.length]; exact hi), e.seq h, List.getElem?_eq_getElem _⟩
  stop H e := ⟨xs, e.seq h, by rw [r.length]; exact Nat.le_refl _⟩
  yld i H x H' d e hd hy Y2 e2 e3 := by
    obtain ⟨rfl, hx⟩ := hy
    obtain ⟨v, hv, rv⟩ := r.get hd
    have := hx xs (e.seq h)
    rw [hv] at this
    cases this
    exact ⟨Y2, .old (rv.mono e2)⟩
theorem walks_tup {K : PySem.W.Frag} {Y : Hp} {a : Addr} {xs : List V} {ds : List D} (h : SqT K Y a xs) (r : DrAll K Y xs ds) : Walks K Y (Itt K a) ds where
  go i H e hi := ⟨xs, xs[i]'(by rw [r.length]; exact hi), Same.sqt e h, List.getElem?_eq_getElem _⟩
  stop H e := ⟨xs, Same.sqt e h, by rw [r.length]; exact Nat.le_refl _⟩
  yld i H x H' d e hd hy Y2 e2 e3 := by
    obtain ⟨rfl, hx⟩ := hy
    obtain ⟨v, hv, rv⟩ := r.get hd
    have := hx xs (Same.sqt e h)
    rw [hv] at this
    cases this
    exact ⟨Y2, .old (rv.mono e2)⟩
/-- a list or a tuple -/
def itemsD : D → Option (List D)
  | .list ds => some ds
  | .tuple ds => some ds
  | _ => none
def iSeq (f : EF) : IF := fun s => (f s).bind fun d s => ofO (itemsD d) s
theorem mi_seq {f : EF} {tg e : Expr} (hXK : X.K = c.K) (h : ME X c f e) : MI_ X c (iSeq f) tg e := by
  refine ⟨PI.imp (PI.or (pi_list h.run) (pi_tup h.run)) fun σ H R q => ?_⟩
  obtain ⟨ξ, Y, s, tv, ts, hK, F, q⟩ := q
  unfold iSeq at q
  cases e : f s with
  | bad => rw [e] at q; exact q.elim
  | ex x s1 =>
    rw [e] at q
    exact .inl ⟨ξ, Y, s, tv, ts, hK, F, by rw [e]; exact q⟩
  | ok d s1 =>
    rw [e, Res.bind_ok] at q
    cases d with
    | list ds =>
      refine .inl ⟨ξ, Y, s, tv, ts, hK, F, ?_⟩
      rw [e]
      intro Y1 H1 v e1 F1 r1
      obtain ⟨a, xs, rfl, hq, hd⟩ := r1.list_inv
      have hq : SqL c.K Y1 a xs := .inl (.inl hq)
      refine ⟨a, rfl, ⟨xs, hXK ▸ F1.sub.seq hq⟩, ?_⟩
      rw [hXK]
      exact q Y1 H1 _ e1 F1 ⟨fun i H e hi => ⟨xs, xs[i]'(by rw [hd.length]; exact hi), e.seq hq, List.getElem?_eq_getElem _⟩, fun H e => ⟨xs, e.seq hq, by rw [hd.length]; exact Nat.le_refl _⟩, fun i H x H' d e hd' hy Y2 e2 e3 => by
        obtain ⟨rfl, hx⟩ := hy
        obtain ⟨v, hv, rv⟩ := hd.get hd'
        have := hx xs (e.seq hq)
        rw [hv] at this
        cases this
        exact ⟨Y2, .old (rv.mono e2)⟩⟩
    | tuple ds =>
      refine .inr ⟨ξ, Y, s, tv, ts, hK, F, ?_⟩
      rw [e]
      intro Y1 H1 v e1 F1 r1
      obtain ⟨a, xs, rfl, hq, hd⟩ := r1.tuple_inv
      refine ⟨a, rfl, ⟨xs, hXK ▸ Same.sqt F1.sub hq⟩, ?_⟩
      rw [hXK]
      exact q Y1 H1 _ e1 F1 (walks_tup hq hd)
    | none => exact q.elim
    | bool _ => exact q.elim
    | int _ => exact q.elim
    | str _ => exact q.elim
    | dict _ => exact q.elim
/-- range -/
def upto (lo : Int) (n : Nat) : List D := (List.range n).map fun i : Nat => PyData.int (lo + (i : Int))
theorem walks_range {K : PySem.W.Frag} {Y : Hp} {lo : Int} {n : Nat} : Walks K Y (Itr lo n) (upto lo n) where
  go i H e hi := by
    show i < n
    simpa [upto] using hi
  stop H e := by show n ≤ _; simp [upto]
  yld i H x H' d e hd hy Y2 e2 e3 := by
    obtain ⟨rfl, rfl⟩ := hy
    have hi := lt_of_get hd
    have e4 : d = .int (lo + (i : Int)) := by
      rw [List.getElem?_eq_getElem hi] at hd
      simp [upto] at hd
      exact hd.symm
    subst e4
    exact ⟨Y2, .old (.int _)⟩
def iRange1 (f : EF) : IF := fun s => (f s).bind fun d s => match d with
  | .int n => if -(2 ^ 62) ≤ n ∧ n < 2 ^ 62 then .ok (upto 0 n.toNat) s else .bad
  | _ => .bad
theorem mi_range1 {f : EF} {tg a : Expr} {p pos : Pos} (hg : Gl X "range") (hm : X.mg "range" = none) (h : ME X c f a) (hs : starEach [a] X.env = [(false, eval a X.env)] := by rfl) : MI_ X c (iRange1 f) tg (.Call (.Name "range" p) [a] [] pos) := by
  refine ⟨PI.imp (pi_range1 hg hm (ma_cons h ma_nil hs).run hs) fun σ H R q => ?_⟩
  obtain ⟨ξ, Y, s, tv, ts, hK, F, q⟩ := q
  refine ⟨ξ, Y, s, tv, ts, hK, F, ?_⟩
  unfold iRange1 at q
  unfold aCons aNil
  cases e : f s with
  | bad => rw [e] at q; exact q.elim
  | ex x s1 => rw [e] at q; exact q
  | ok d s1 =>
    rw [e, Res.bind_ok] at q
    rw [Res.bind_ok, Res.bind_ok]
    intro Y1 H1 vs e1 F1 r1
    cases d with
    | int n =>
      simp only at q
      split at q
      · rename_i hn
        cases r1 with
        | cons ra rb =>
          cases rb
          obtain rfl := ra.int_inv
          exact ⟨n, rfl, hn.1, hn.2, q Y1 H1 _ e1 F1 walks_range⟩
      · exact q.elim
    | none => exact q.elim
    | bool _ => exact q.elim
    | str _ => exact q.elim
    | list _ => exact q.elim
    | tuple _ => exact q.elim
    | dict _ => exact q.elim
def iRange2 (f g : EF) : IF := fun s => (f s).bind fun d s => (g s).bind fun e s => match d, e with
  | .int m, .int n => if -(2 ^ 62) ≤ m ∧ m < 2 ^ 62 ∧ -(2 ^ 62) ≤ n ∧ n < 2 ^ 62 then .ok (upto m (n - m).toNat) s else .bad
  | _, _ => .bad
theorem mi_range2 {f g : EF} {tg a b : Expr} {p pos : Pos} (hg : Gl X "range") (hm : X.mg "range" = none) (h : ME X c f a) (h2 : ME X c g b) (hs : starEach [a, b] X.env = [(false, eval a X.env), (false, eval b X.env)] := by rfl) (hs2 : starEach [b] X.env = [(false, eval b X.env)] := by rfl) : MI_ X c (iRange2 f g) tg (.Call (.Name "range" p) [a, b] [] pos) := by
  refine ⟨PI.imp (pi_range2 hg hm (ma_cons h (ma_cons h2 ma_nil hs2) (by rw [hs, hs2])).run hs hs2) fun σ H R q => ?_⟩
  obtain ⟨ξ, Y, s, tv, ts, hK, F, q⟩ := q
  refine ⟨ξ, Y, s, tv, ts, hK, F, ?_⟩
  unfold iRange2 at q
  unfold aCons aNil
  cases e : f s with
  | bad => rw [e] at q; exact q.elim
  | ex x s1 => rw [e] at q; exact q
  | ok d s1 =>
    rw [e, Res.bind_ok] at q
    rw [Res.bind_ok]
    cases e' : g s1 with
    | bad => rw [e'] at q; exact q.elim
    | ex x s1 => rw [e'] at q; exact q
    | ok d' s2 =>
      rw [e', Res.bind_ok] at q
      rw [Res.bind_ok, Res.bind_ok, Res.bind_ok]
      intro Y1 H1 vs e1 F1 r1
      split at q
      · rename_i m n
        split at q
        · rename_i hn
          cases r1 with
          | cons ra rb =>
            cases rb with
            | cons rb rc =>
              cases rc
              obtain rfl := ra.int_inv
              obtain rfl := rb.int_inv
              exact ⟨m, n, rfl, ⟨hn.1, hn.2.1, hn.2.2.1, hn.2.2.2⟩, q Y1 H1 _ e1 F1 walks_range⟩
        · exact q.elim
      · exact q.elim

/-! ### for -/
def forL (g : GF) (body : SF) : List D → S → Out
  | [], s => .nx s
  | d :: ds, s => match g d s with
    | none => .bad
    | some s1 => match body s1 with
      | .nx s2 => forL g body ds s2
      | .ct s2 => forL g body ds s2
      | .bk s2 => .nx s2
      | .rt o s2 => .rt o s2
      | .ex e s2 => .ex e s2
      | .bad => .bad
def sFor (it : IF) (g : GF) (body : SF) : SF := fun s => (it s).toS fun ds s => forL g body ds s
theorem ms_for {it : IF} {g : GF} {f : SF} {tg iter : Expr} {body : List Stmt} {pos : Pos} (hp : PassesOwn (model X.prog X.w) X.A X.env X.xe) (hc : X.calm = true) (hi : MI_ X c it tg iter) (hg : MG X c rf g tg) (hb : MSs X c rf f body)
    (hs : ∀ x, foldedSetIterable iter X.env x = pure x := by intro _; rfl) : MS X c rf (sFor it g f) (.For tg iter body [] pos) := by
  refine ⟨PS.imp (ps_for hp hc hi.run hg.run hb.run hs) fun D σ H q => ?_⟩
  obtain ⟨ξ, Y, s, hK, F, q⟩ := q
  refine sI_seq hK F q fun ds s1 Y1 H1 J e1 F1 w q1 => ?_
  refine ⟨fun i m σ' H' => ∃ Y' s', i ≤ ds.length ∧ m = ds.length - i ∧ Same Y1 Y' ∧ FS ξ Y' H' σ' s' [] [] ∧ outS c rf ξ Y' σ' D (forL g f (ds.drop i) s'),
    ⟨ds.length, Y1, s1, Nat.zero_le _, by omega, Same.refl _, F1, outS.mono c rf q1 e1 (.refl _ _)⟩, ?_⟩
  rintro i m σ' H' ⟨Y', s', hle, rfl, e2, F2, q2⟩
  rcases Nat.lt_or_ge i ds.length with hlt | hge
  · have hd : ds[i]? = some ds[i] := List.getElem?_eq_getElem hlt
    rw [List.drop_eq_getElem_cons hlt] at q2
    refine .inr ⟨w.go i H' (e2.trans F2.sub) hlt, fun σ3 H3 => ∃ Y3 s3, Same Y1 Y3 ∧ FS ξ Y3 H3 σ3 s3 [] [] ∧ outS c rf ξ Y3 σ3 D (forL g f (ds.drop (i + 1)) s3), ?_, ?_⟩
    · rintro σ3 H3 ⟨Y3, s3, e3, F3, q3⟩
      exact ⟨ds.length - (i + 1), by omega, Y3, s3, by omega, rfl, e3, F3, q3⟩
    · intro x H3 hy
      obtain ⟨Y3, gv⟩ := w.yld i H' x H3 _ (e2.trans F2.sub) hd hy Y' e2 F2.sub
      obtain ⟨e3, F3⟩ := gv.fs hK F2
      obtain ⟨Y4, e4, F4, r4⟩ := F3.freezeT
      have e5 : Same Y' Y4 := e3.trans e4
      simp only [forL] at q2
      split at q2
      · exact q2.elim
      · rename_i s5 eg
        refine ⟨ξ, Y4, s', ds[i], [], [], hK, F4, hK ▸ r4, s5, eg, fun Y6 H6 σ6 e6 k6 F6 => ?_⟩
        refine ⟨ξ, Y6, s5, hK, F6, ?_⟩
        have all : Same Y1 Y6 := (e2.trans e5).trans e6
        cases ef : f s5 with
        | nx s7 => rw [ef] at q2; exact fun Y7 H7 σ7 e7 k7 F7 => ⟨Y7, s7, all.trans e7, F7, outS.mono c rf q2 ((e5.trans e6).trans e7) (k6.trans k7)⟩
        | ct s7 => rw [ef] at q2; exact fun Y7 H7 σ7 e7 k7 F7 => ⟨Y7, s7, all.trans e7, F7, outS.mono c rf q2 ((e5.trans e6).trans e7) (k6.trans k7)⟩
        | bk s7 => rw [ef] at q2; exact fun Y7 H7 σ7 e7 k7 F7 => q2 Y7 H7 σ7 ((e5.trans e6).trans e7) (k6.trans k7) F7
        | rt o s7 => rw [ef] at q2; exact fun Y7 H7 σ7 v e7 k7 F7 => q2 Y7 H7 σ7 v ((e5.trans e6).trans e7) (k6.trans k7) F7
        | ex x s7 => rw [ef] at q2; exact fun Y7 H7 σ7 cl z e7 k7 F7 er => q2 Y7 H7 σ7 cl z ((e5.trans e6).trans e7) (k6.trans k7) F7 er
        | bad => rw [ef] at q2; exact q2.elim
  · have hi : i = ds.length := by omega
    subst hi
    rw [List.drop_length] at q2
    exact .inl ⟨w.stop H' (e2.trans F2.sub), q2 Y' H' σ' (Same.refl _) (.refl _ _) F2⟩

/-! ### while -/
def whileL (t : TF) (body : SF) : Nat → S → Out
  | 0, _ => .bad
  | n + 1, s => (t s).toS fun b s1 => if b = true then (match body s1 with
      | .nx s2 => whileL t body n s2
      | .ct s2 => whileL t body n s2
      | .bk s2 => .nx s2
      | .rt o s2 => .rt o s2
      | .ex e s2 => .ex e s2
      | .bad => .bad) else .nx s1
def sWhile (n : Nat) (t : TF) (body : SF) : SF := fun s => whileL t body n s
theorem ms_while {n : Nat} {t : TF} {f : SF} {x : Expr} {body : List Stmt} {pos : Pos} (hp : PassesOwn (model X.prog X.w) X.A X.env X.xe) (ht : MT X c t x) (hb : MSs X c rf f body) : MS X c rf (sWhile n t f) (.While x body [] pos) := by
  refine ⟨PS.imp (ps_while hp ht.run hb.run) fun D σ H q => ?_⟩
  obtain ⟨ξ, Y, s, hK, F, q⟩ := q
  refine ⟨fun m σ' H' => ∃ Y' s', FS ξ Y' H' σ' s' [] [] ∧ outS c rf ξ Y' σ' D (whileL t f m s'), ⟨n, Y, s, F, q⟩, ?_⟩
  rintro m σ' H' ⟨Y', s', F2, q2⟩
  cases m with
  | zero => exact q2.elim
  | succ m =>
    refine sT_seq hK F2 q2 fun b s3 Y3 H3 e3 F3 q3 => ?_
    cases b with
    | false => exact iteF (q3 Y3 H3 σ' e3 (.refl _ _) F3)
    | true =>
      refine iteT ⟨fun σ4 H4 => ∃ Y4 s4, FS ξ Y4 H4 σ4 s4 [] [] ∧ outS c rf ξ Y4 σ4 D (whileL t f m s4), fun σ4 H4 h => ⟨m, Nat.lt_succ_self m, h⟩, ?_⟩
      refine ⟨ξ, Y3, s3, hK, F3, ?_⟩
      rw [if_pos rfl] at q3
      cases ef : f s3 with
      | nx s7 => rw [ef] at q3; exact fun Y7 H7 σ7 e7 k7 F7 => ⟨Y7, s7, F7, outS.mono c rf q3 (e3.trans e7) k7⟩
      | ct s7 => rw [ef] at q3; exact fun Y7 H7 σ7 e7 k7 F7 => ⟨Y7, s7, F7, outS.mono c rf q3 (e3.trans e7) k7⟩
      | bk s7 => rw [ef] at q3; exact fun Y7 H7 σ7 e7 k7 F7 => q3 Y7 H7 σ7 (e3.trans e7) k7 F7
      | rt o s7 => rw [ef] at q3; exact fun Y7 H7 σ7 v e7 k7 F7 => q3 Y7 H7 σ7 v (e3.trans e7) k7 F7
      | ex x s7 => rw [ef] at q3; exact fun Y7 H7 σ7 cl z e7 k7 F7 er => q3 Y7 H7 σ7 cl z (e3.trans e7) k7 F7 er
      | bad => rw [ef] at q3; exact q3.elim

/-! ### list comprehensions -/
def Res.noex {α : Type} : Res α → Res α
  | .ok a s => .ok a s
  | _ => .bad
@[simp] theorem Res.noex_ok {α : Type} {a : α} {s : S} : (Res.ok a s).noex = .ok a s := Eq.trans rfl rfl
/-- the comprehension's own slots (flags) emptied; put back -/
def wipeF : List Bool → S → S
  | b :: bs, x :: xs => (if b = true then none else x) :: wipeF bs xs
  | [], xs => xs
  | _, [] => []
def backF : List Bool → S → S → S
  | b :: bs, x :: xs, y :: ys => (if b = true then (match x with
      | some (.fz d) => some (.fz d)
      | _ => none) else y) :: backF bs xs ys
  | [], _, ys => ys
  | _, _, _ => []
def lcL (ow : List Bool) (g : GF) (t : TF) (e : EF) : List D → List D → S → Res (List D)
  | [], acc, s => .ok acc s
  | d :: ds, acc, s => match g d s with
    | none => .bad
    | some s1 => (t s1).noex.bind fun b s2 => if b = true then (e s2).noex.bind fun y s3 => if acc.length < sizeLine then lcL ow g t e ds (acc ++ [y]) (wipeF ow s3) else .bad
        else lcL ow g t e ds acc (wipeF ow s2)
def oLc (ow : List Bool) (it : IF) (g : GF) (t : TF) (e : EF) : OF := fun s => (it s).bind fun ds s1 => if ow.length = s1.length then (lcL ow g t e ds [] (wipeF ow s1)).bind fun acc s2 => .ok (.ol acc) (backF ow s1 s2) else .bad
def kYes : TF := fun s => .ok true s

theorem wipeF_length : ∀ {ow : List Bool} {s : S}, (wipeF ow s).length = s.length
  | [], _ => by simp [wipeF]
  | _ :: _, [] => by simp [wipeF]
  | b :: bs, x :: xs => by simp [wipeF, wipeF_length (ow := bs) (s := xs)]
theorem wipeF_get : ∀ {ow : List Bool} {s : S} {i : Nat} {o : OD}, (wipeF ow s)[i]? = some (some o) → s[i]? = some (some o) ∧ ow[i]? ≠ some true
  | [], s, i, o, h => by simpa [wipeF] using h
  | _ :: _, [], i, o, h => by simp [wipeF] at h
  | b :: bs, x :: xs, 0, o, h => by
    cases b <;> simp [wipeF] at h ⊢
    exact h
  | b :: bs, x :: xs, i + 1, o, h => by
    simp only [wipeF, List.getElem?_cons_succ] at h ⊢
    exact wipeF_get h
theorem backF_length : ∀ {ow : List Bool} {s s' : S}, s'.length = s.length → (backF ow s s').length = s'.length
  | [], _, _, _ => by simp [backF]
  | _ :: _, [], [], _ => by simp [backF]
  | _ :: _, [], _ :: _, h => by simp at h
  | _ :: _, _ :: _, [], h => by simp at h
  | b :: bs, x :: xs, y :: ys, h => by simp [backF, backF_length (ow := bs) (s := xs) (s' := ys) (by simpa using h)]
theorem backF_get : ∀ {ow : List Bool} {s s' : S} {i : Nat} {o : OD}, (backF ow s s')[i]? = some (some o) → (ow[i]? = some true ∧ ∃ d, o = .fz d ∧ s[i]? = some (some (.fz d))) ∨ (ow[i]? ≠ some true ∧ s'[i]? = some (some o))
  | [], s, s', i, o, h => by
    right
    simpa [backF] using h
  | _ :: _, [], _, i, o, h => by simp [backF] at h
  | _ :: _, _ :: _, [], i, o, h => by simp [backF] at h
  | b :: bs, x :: xs, y :: ys, 0, o, h => by
    cases b with
    | false =>
      right
      simpa [backF] using h
    | true =>
      left
      refine ⟨by simp, ?_⟩
      simp only [backF, List.getElem?_cons_zero, Option.some.injEq, if_true] at h
      split at h
      · rename_i d
        cases h
        exact ⟨d, rfl, by simp⟩
      · cases h
  | b :: bs, x :: xs, y :: ys, i + 1, o, h => by
    simp only [backF, List.getElem?_cons_succ] at h ⊢
    exact backF_get h
theorem wipe_get {σ : St} {j : Nat} : ∀ {vs : List Nat}, j ∉ vs → (wipe σ vs)[j]? = σ[j]?
  | [], _ => rfl
  | v :: vs, h => by
    unfold wipe
    rw [List.getElem?_set_ne fun e => h (by simp [e]), wipe_get fun z => h (by simp [z])]
theorem wipe_in {σ : St} {j : Nat} : ∀ {vs : List Nat}, j ∈ vs → j < σ.length → (wipe σ vs)[j]? = some none
  | [], h, _ => by simp at h
  | v :: vs, h, hj => by
    unfold wipe
    by_cases e : v = j
    · subst e
      rw [List.getElem?_set_self (by rw [wipe_length]; exact hj)]
    · rw [List.getElem?_set_ne e]
      exact wipe_in ((List.mem_cons.mp h).resolve_left (fun z => e z.symm)) hj
/-- the flags are the places -/
def Flags (ow : List Bool) (n : Nat) (vs : List Nat) : Prop := ow = (List.range n).map fun j => decide (j ∈ vs)
theorem Flags.get {ow : List Bool} {n : Nat} {vs : List Nat} (h : Flags ow n vs) {j : Nat} (hj : j < n) : ow[j]? = some (decide (j ∈ vs)) := by
  rw [h, List.getElem?_map, List.getElem?_range hj]
  rfl
theorem Flags.nin {ow : List Bool} {n : Nat} {vs : List Nat} (h : Flags ow n vs) {j : Nat} (hj : j < n) (hn : ow[j]? ≠ some true) : j ∉ vs := fun z => by
  rw [h.get hj] at hn
  simp [z] at hn
theorem wipe_eq {σ σ2 : St} {vs : List Nat} (hl : σ2.length = σ.length) (h : ∀ j, j < σ.length → j ∉ vs → σ2[j]? = (wipe σ vs)[j]?) : wipe σ2 vs = wipe σ vs := by
  apply List.ext_getElem?
  intro j
  by_cases hj : j < σ.length
  · by_cases hm : j ∈ vs
    · rw [wipe_in hm (by omega), wipe_in hm hj]
    · rw [wipe_get hm, h j hj hm]
  · rw [List.getElem?_eq_none (by rw [wipe_length]; omega), List.getElem?_eq_none (by rw [wipe_length]; omega)]
/-- into the block -/
theorem FS.toBlk {ow : List Bool} {n : Nat} {vs : List Nat} (F : FS ξ Y H σ s tv ts) (hf : Flags ow n vs) (hn : s.length = n) {σ2 : St} (hl : σ2.length = σ.length) (h : ∀ j, j < σ.length → j ∉ vs → σ2[j]? = σ[j]?) : FS ξ Y H σ2 (wipeF ow s) tv ts := by
  refine (F.forget wipeF_length fun i o e => (wipeF_get e).1).resig hl fun i o e => ?_
  obtain ⟨h1, h2⟩ := wipeF_get e
  have hi := lt_of_get h1
  exact h i (by rw [← F.len]; exact hi) (hf.nin (by omega) h2)
/-- out of the block -/
theorem FS.ofBlk {ow : List Bool} {n : Nat} {vs : List Nat} {Y1 H1 : Hp} {s1 : S} {tv1 : List V} {ts1 : List OD} (F1 : FS ξ Y1 H1 σ s1 tv1 ts1) (F : FS ξ Y H (wipe σ vs) s tv ts) (e : Same Y1 Y) (hf : Flags ow n vs) (hn : s1.length = n) : FS ξ Y H σ (backF ow s1 s) tv ts := by
  obtain ⟨g, R⟩ := F.rel
  have hl : s.length = s1.length := by rw [F.len, wipe_length, F1.len]
  let g2 : Own := fun i a => match i with
    | .inl j => ow[j]? ≠ some true ∧ g (.inl j) a
    | .inr j => g (.inr j) a
  have low : ∀ i a, g2 i a → g i a := fun i a z => by
    cases i with
    | inl j => exact z.2
    | inr j => exact z
  refine F.re R g2 (Same.refl _) F.sub (fun a q => .inl q) (fun i a z => ⟨(R.own i a (low i a z)).2.1, i, low i a z⟩) (fun i j a z z' => R.sep i j a (low i a z) (low j a z')) (by rw [backF_length hl, hl, F1.len]) F.tlen (fun j o q => ?_) R.temp
  rcases backF_get q with ⟨h1, d, rfl, h2⟩ | ⟨h1, h2⟩
  · obtain ⟨v, hv, r⟩ := F1.frozen h2
    exact ⟨v, hv, (RO.fz (r.mono e)).iff fun a => ⟨fun z => z.elim, fun z => (z.1 h1).elim⟩⟩
  · obtain ⟨v, hv, r⟩ := R.slot j o h2
    have hj := lt_of_get h2
    rw [wipe_get (hf.nin (by omega) h1)] at hv
    exact ⟨v, hv, r.iff fun a => ⟨fun z => ⟨h1, z⟩, fun z => z.2⟩⟩

/-- within a comprehension nothing is raised -/
abbrev Ct.blk (c : Ct) : Ct := { c with W := fun _ _ _ _ => False }
theorem noex_ok {α : Type} {r : Res α} {β : Type} {k : α → S → Res β} {G : β → S → Prop} {ξ : Fx} {Y : Hp} {σ : St} {tv : List V} {ts : List OD} (h : out c ξ Y σ tv ts G (r.noex.bind k)) : ∃ a s', r = .ok a s' ∧ out c ξ Y σ tv ts G (k a s') := by
  cases r with
  | ok a s => exact ⟨a, s, rfl, h⟩
  | ex x s => exact h.elim
  | bad => exact h.elim
theorem lc_reads {ow : List Bool} {it : IF} {g : GF} {t : TF} {f : EF} {own : List (Str × Nat)} {σ : St} {H : Hp} {Q : VK} {N : List Str} (hf : Flags ow N.length (own.map (·.2)))
    (q : tO c (oLc ow it g t f) σ H Q) : tLc (tI c it) (tG (ow.map not) c.K g) (tT c.blk t) (tE c.blk f) (own.map (·.2)) σ H Q := by
  obtain ⟨ξ, Y, s, tv, ts, hK, F, q⟩ := q
  refine tI_seq hK F q fun ds s1 Y1 H1 J e1 F1 w q1 => ?_
  intro L hL
  split at q1
  rotate_left
  · exact q1.elim
  rename_i hlen
  have hn : s1.length = N.length := by rw [← hlen, hf]; simp
  have F2 := (F1.pushL hL (.nil : DrAll ξ.K Y1 [] [])).toBlk hf hn (wipe_length σ (own.map (·.2))) fun j hj hm => wipe_get hm
  refine ⟨fun i m H' => ∃ Y' s' acc, i ≤ ds.length ∧ m = ds.length - i ∧ Same Y1 Y' ∧ s'.length = N.length ∧ FS ξ Y' H' (wipe σ (own.map (·.2))) s' (tv ++ [.ref L]) (ts ++ [.ol acc]) ∧
      out c ξ Y1 σ tv ts (fun o s' => ∀ Y' H' v, Same Y Y' → FS ξ Y' H' σ s' (tv ++ [v]) (ts ++ [o]) → Q v H') ((lcL ow g t f (ds.drop i) acc s').bind fun acc s2 => .ok (.ol acc) (backF ow s1 s2)),
    ⟨ds.length, Y1, wipeF ow s1, [], Nat.zero_le _, by omega, Same.refl _, by rw [wipeF_length, hn], F2, out.mono c q1 e1 fun _ _ z => z⟩, ?_⟩
  rintro i m H' ⟨Y', s', acc, hle, rfl, e2, hn2, F3, q2⟩
  rcases Nat.lt_or_ge i ds.length with hlt | hge
  · have hd : ds[i]? = some ds[i] := List.getElem?_eq_getElem hlt
    rw [List.drop_eq_getElem_cons hlt] at q2
    refine .inr ⟨w.go i H' (e2.trans F3.sub) hlt, fun H3 => ∃ Y3 s3 acc3, Same Y1 Y3 ∧ s3.length = N.length ∧ FS ξ Y3 H3 (wipe σ (own.map (·.2))) s3 (tv ++ [.ref L]) (ts ++ [.ol acc3]) ∧
      out c ξ Y1 σ tv ts (fun o s' => ∀ Y' H' v, Same Y Y' → FS ξ Y' H' σ s' (tv ++ [v]) (ts ++ [o]) → Q v H') ((lcL ow g t f (ds.drop (i + 1)) acc3 s3).bind fun acc s2 => .ok (.ol acc) (backF ow s1 s2)), ?_, ?_⟩
    · rintro H3 ⟨Y3, s3, acc3, e3, n3, F3, q3⟩
      exact ⟨ds.length - (i + 1), by omega, Y3, s3, acc3, by omega, rfl, e3, n3, F3, q3⟩
    · intro x H3 hy
      obtain ⟨Y3, gv⟩ := w.yld i H' x H3 _ (e2.trans F3.sub) hd hy Y' e2 F3.sub
      obtain ⟨e3, F4⟩ := gv.fs hK F3
      obtain ⟨Y4, e4, F5, r5⟩ := F4.freezeT
      have e5 : Same Y' Y4 := e3.trans e4
      simp only [lcL] at q2
      split at q2
      · exact q2.elim
      · rename_i s5 eg
        refine ⟨ξ, Y4, s', ds[i], tv ++ [.ref L], ts ++ [.ol acc], hK, F5, hK ▸ r5, s5, eg, fun Y6 H6 σ6 e6 k6 F6 => ?_⟩
        have l6 : σ6.length = σ.length := by rw [k6.1, wipe_length]
        have c6 : ∀ j, j < σ.length → j ∉ own.map (·.2) → σ6[j]? = (wipe σ (own.map (·.2)))[j]? := fun j hj hm => by
          refine k6.2 j ?_
          rw [List.getElem?_map, hf.get (by rw [← hn, F1.len]; exact hj)]
          simp [hm]
        refine ⟨wipe_eq l6 c6, ?_⟩
        have back : ∀ {Y8 H8 s8 acc8}, FS ξ Y8 H8 σ6 s8 (tv ++ [.ref L]) (ts ++ [.ol acc8]) → s8.length = N.length ∧ FS ξ Y8 H8 (wipe σ (own.map (·.2))) (wipeF ow s8) (tv ++ [.ref L]) (ts ++ [.ol acc8]) := fun {Y8 H8 s8 acc8} F8 => by
          have n8 : s8.length = N.length := by rw [F8.len, l6, ← F1.len, hn]
          exact ⟨n8, F8.toBlk hf n8 (by rw [wipe_length, l6]) fun j hj hm => (c6 j (by omega) hm).symm⟩
        refine ⟨ξ, Y6, s5, _, _, hK, F6, ?_⟩
        rw [show ∀ (a : Res Bool) (k : Bool → S → Res (List D)) (k' : List D → S → Res OD), ((a.noex.bind k).bind k') = a.noex.bind fun b s => (k b s).bind k' from fun a k k' => by cases a <;> rfl] at q2
        obtain ⟨b, s7, et, q3⟩ := noex_ok q2
        rw [et]
        intro Y7 H7 e7 F7
        have all7 : Same Y1 Y7 := ((e2.trans e5).trans e6).trans e7
        cases b with
        | false =>
          rw [if_neg Bool.false_ne_true] at q3
          refine iteF ⟨Y7, wipeF ow s7, acc, all7, ?_, (back F7).2, q3⟩
          rw [wipeF_length]; exact (back F7).1
        | true =>
          rw [if_pos rfl] at q3
          refine iteT ⟨ξ, Y7, s7, _, _, hK, F7, ?_⟩
          rw [show ∀ (a : Res D) (k : D → S → Res (List D)) (k' : List D → S → Res OD), ((a.noex.bind k).bind k') = a.noex.bind fun b s => (k b s).bind k' from fun a k k' => by cases a <;> rfl] at q3
          obtain ⟨y, s8, ee, q4⟩ := noex_ok q3
          rw [ee]
          intro Y8 H8 v8 e8 F8 r8
          obtain ⟨p, vs, ep, hp, hdr, wr⟩ := F8.listT F1.tlen
          cases ep
          split at q4
          · rename_i hsz
            refine ⟨vs, hp, by rw [hdr.length]; exact hsz, Y8, wipeF ow s8, acc ++ [y], all7.trans e8, ?_, ?_, q4⟩
            · rw [wipeF_length]; exact (back F8).1
            · exact (back (wr (vs ++ [v8]) (acc ++ [y]) (hdr.append (.cons (hK ▸ r8) .nil)))).2
          · exact q4.elim
  · have hi : i = ds.length := by omega
    subst hi
    rw [List.drop_length] at q2
    exact .inl ⟨w.stop H' (e2.trans F3.sub), q2 Y' H' _ (e1.trans e2) (F1.ofBlk F3 e2 hf hn)⟩
theorem mo_lc {ow : List Bool} {it : IF} {g : GF} {t : TF} {f : EF} {elt tg iter : Expr} {ifs : List Expr} {scope : Scope} {own : List (Str × Nat)} {pos : Pos} (hc : X.calm = true) (hN : X.N.Nodup) (ok : BlkOk X.N X.env.scope scope own) (hf : Flags ow X.N.length (own.map (·.2)))
    (hi : MI_ X c it tg iter) (hg : ∀ (s : Shared) (H : Hp) (C : Addr) (cl : List (Str × Addr)) (fp : List Addr), MG (X.blk s H scope (compEnvC scope cl C X.env) fp) c.blk (ow.map not) g tg)
    (ht : ∀ (s : Shared) (H : Hp) (C : Addr) (cl : List (Str × Addr)) (fp : List Addr), PTs (X.blk s H scope (compEnvC scope cl C X.env) fp) ifs (tT c.blk t))
    (he : ∀ (s : Shared) (H : Hp) (C : Addr) (cl : List (Str × Addr)) (fp : List Addr), ME (X.blk s H scope (compEnvC scope cl C X.env) fp) c.blk f elt) (hs : ∀ x, foldedSetIterable iter X.env x = pure x := by intro _; rfl) :
    MO X c (oLc ow it g t f) (.ListComp elt [⟨tg, iter, ifs, 0⟩] scope pos) :=
  ⟨PE.imp (pe_lc hc hN hi.run ok (fun s H C cl fp => (hg s H C cl fp).run) ht (fun s H C cl fp => (he s H C cl fp).run) hs) fun σ H Q q => lc_reads hf q⟩
/-- y = [..]: stored while the comprehension's frame stands -/
theorem ms_setLc {rf : List Bool} {ow : List Bool} {it : IF} {g : GF} {t : TF} {f : EF} {elt tg iter : Expr} {ifs : List Expr} {scope : Scope} {own : List (Str × Nat)} {pos spos py : Pos} {i : Nat} {y : Str} (hc : X.calm = true) (hN : X.N.Nodup) (hy : X.N[i]? = some y) (hyl : X.env.scope.names.lookup y = some .local)
    (hsw : swapsWith (.ListComp elt [⟨tg, iter, ifs, 0⟩] scope pos) (some (.Name y py)) spos.line X.env = pure true) (ok : BlkOk X.N X.env.scope scope own) (hf : Flags ow X.N.length (own.map (·.2)))
    (hi : MI_ X c it tg iter) (hg : ∀ (s : Shared) (H : Hp) (C : Addr) (cl : List (Str × Addr)) (fp : List Addr), MG (X.blk s H scope (compEnvC scope cl C X.env) fp) c.blk (ow.map not) g tg)
    (ht : ∀ (s : Shared) (H : Hp) (C : Addr) (cl : List (Str × Addr)) (fp : List Addr), PTs (X.blk s H scope (compEnvC scope cl C X.env) fp) ifs (tT c.blk t))
    (he : ∀ (s : Shared) (H : Hp) (C : Addr) (cl : List (Str × Addr)) (fp : List Addr), ME (X.blk s H scope (compEnvC scope cl C X.env) fp) c.blk f elt) (hr : rf[i]? ≠ some true := by decide) (hs : ∀ x, foldedSetIterable iter X.env x = pure x := by intro _; rfl) :
    MS X c rf (sSet i (oLc ow it g t f)) (.Assign [.Name y py] (.ListComp elt [⟨tg, iter, ifs, 0⟩] scope pos) spos) :=
  ⟨PS.imp (ps_setLc hc hN hy hyl hsw hi.run ok (fun s H C cl fp => (hg s H C cl fp).run) ht (fun s H C cl fp => (he s H C cl fp).run) hs) fun D σ H q => by
    obtain ⟨ξ, Y, s, hK, F, q⟩ := sSet_core hr q
    exact lc_reads hf ⟨ξ, Y, s, hK, F, q⟩⟩
theorem pts_no : PTs X [] (tT c kYes) := ⟨fun pins s σ H Q I q => pts_nil.run pins s σ H Q I (by
  obtain ⟨ξ, Y, s, tv, ts, hK, F, q⟩ := q
  exact q Y H (Same.refl _) F)⟩
theorem pts_if {t : TF} {e : Expr} (h : MT X c t e) : PTs X [e] (tT c t) := pts_one h.run
end
end MI

set_option Elab.async false
set_option linter.all false
set_option autoImplicit false
set_option maxRecDepth 100000
/-! MI: what a def promises; calls. -/
namespace MI
open PySem PySem.Spec L2
/-! ### defs that run where no repr is under way -/
section
variable {P : Program} {w : World} {K : PySem.W.Frag} {mg : Str → Option Value} {base : Heap} {CX : CXT}
structure FnG (P : Program) (w : World) (K : PySem.W.Frag) (mg : Str → Option Value) (base : Heap) (CX : CXT) (k : Nat) (f : Addr) (fd : FuncData) (ps : List Str) (sp : Sp) : Prop where
  len : ∀ vs H Q E, sp vs H Q E → vs.length = ps.length
  run : ∀ (A : Around) (outer : List Env) (s : Shared) (H : Hp) (args : Args) (us : List Value) (vs : List V) (Q : VK) (E : XK), A.guards = some [] → Room k A →
    Env0 P w K mg base A outer s H → BindsTo s fd args (ps.zip us) → Vals vs us → sp vs H Q E → codeAny (model P w) A (.call (.ref f) args) (CR CX outer P w H s Q E) s
theorem FnG.mono {j k : Nat} {f : Addr} {fd : FuncData} {ps : List Str} {sp : Sp} (F : FnG P w K mg base CX j f fd ps sp) (h : j ≤ k) : FnG P w K mg base CX k f fd ps sp :=
  ⟨F.len, fun A outer s H args us vs Q E hG hr => F.run A outer s H args us vs Q E hG (hr.mono h)⟩
open PyProof.Rows in
theorem Fun.okG {x qual : Str} {st : Stmt} {f : Addr} {fd : FuncData} {N ps : List Str} {k : Nat} {sp : Sp} (F : Fun K x qual st f fd) (S : FnScope N ps (defScope st)) (len : ∀ vs H Q E, sp vs H Q E → vs.length = ps.length)
    (hb : ∀ (cdv : Value) (A : Around) (outer : List Env) (s : Shared) (H : Hp) (vs : List V) (Q : VK) (E : XK), A.guards = some [] → Room k (A.deeper (envOfC qual (defScope st) s.heap.objs.size f cdv)) → sp vs H Q E →
      ∃ t, PSs (cxOf CX P w K mg base N qual (defScope st) f cdv A outer s H E) (defBody st) t ∧ t { nx := fun _ H' => Q .non H', rt := Q } (start N vs) H) :
    FnG P w K mg base CX (k + 1) f fd ps sp := by
  obtain ⟨oc, od, kV, doc, pm, an, cdv, ct, osl, rfl, lk, hcd⟩ := F.ex
  refine ⟨len, ?_⟩
  intro A outer s H args us vs Q E hG hr e0 bd rel pr
  have num := len _ _ _ _ pr
  have KX : K.In s.heap := e0.mod.kin.keeps fun b o e => (e0.bs b o e).1
  have unlim : s.heap.NoLimit := e0.mod.nolimit.keeps fun b o e => (e0.bs b o e).1
  refine codeAny_call_function hr.depth (KX _ _ lk) rfl S.co S.gen rfl (PySem.W.codeRec_of KX hcd) (bd _ _ _ _ ?_)
  refine wpAny_newFunctionEnv_cells S.kind ?_ ?_
  · rintro ⟨n, v⟩ hy
    rcases S.par n (List.of_mem_zip hy).1 with q | q
    · exact .inl q
    · exact .inr ⟨q, PySem.W.cellsFrom_some _ _ _ (.inl q)⟩
  · intro env he s1 x
    subst he
    refine ⟨unlim.keeps x.toInCall.keep, codeAny_func ?_⟩
    obtain ⟨t, ht, hq⟩ := hb cdv A outer s H vs Q E hG (hr.deeper _) pr
    have I0 : Inv (cxOf CX P w K mg base N qual (defScope st) f cdv A outer s H E) [] (start N vs) H s1 := inv_start S hr.hd e0 num rel x
    refine wpAny_mono (ht.run [] s1 (start N vs) H _ I0 hq) (fun fl s' ends => ?_) fun e s' hs => hs
    have done : ∀ {σ' : L2.St} {H' : Hp} {v : V} {u : Value}, Inv (cxOf CX P w K mg base N qual (defScope st) f cdv A outer s H E) [] σ' H' s' → RelV v u → Q v H' → CE outer P w H s Q u s' := by
      intro σ' H' v u J rv q
      exact ⟨v, H', J.os, J.bare, J.base, J.hok, rv, q⟩
    cases fl with
    | ret u =>
      obtain ⟨v, σ', H', J, rv, q⟩ := ends
      exact done J rv q
    | next =>
      obtain ⟨σ', H', J, q⟩ := ends
      exact done (v := V.non) (u := Value.none) J rfl q
    | brk => exact ends.elim fun _ z => z.elim fun _ y => y.2.elim
    | cont => exact ends.elim fun _ z => z.elim fun _ y => y.2.elim
end
section
variable {X : Cx} {CX : CXT} {k : Nat} {f : Addr} {fd : FuncData} {ps : List Str} {sp : Sp} {E : L2.St → XK} {x : Str} {p pos : Pos} {e : Expr} {es : List Expr} {t : TA}
theorem run_fnG {pins : List (Addr × Obj)} {σ : L2.St} {H : Hp} {s : Shared} {Q : VK} {args : Args} {us : List Value} {vs : List V} {E : XK} (F : FnG X.prog X.w X.K X.mg X.base CX k f fd ps sp) (hG : X.A.guards = some []) (hr : Room k X.A) (hb : BindsTo s fd args (ps.zip us))
    (hx : PassesAt CX X σ E) (I : Inv X pins σ H s) (r : Vals vs us) (h : sp vs H Q E) : codeAny (model X.prog X.w) X.A (.call (.ref f) args) (fun r s' => match r with
      | .ok (.ret u) => EP X pins σ Q u s'
      | .ok _ => False
      | .error e => X.xe e s') s := by
  refine codeAny_mono (F.run X.A X.stack s H args us vs Q E hG hr I.env0 hb r h) fun res s' got => ?_
  cases res with
  | error e => exact hx pins H s e s' I got
  | ok fl =>
    cases fl with
    | ret u => exact I.after got
    | next => exact got.elim
    | brk => exact got.elim
    | cont => exact got.elim
theorem call_of {pins : List (Addr × Obj)} {σ : L2.St} {s : Shared} {Q : VK} {args : List Value} {kw : List (Str × Value)} (h : codeAny (model X.prog X.w) X.A (.call (.ref f) ⟨args, kw⟩) (fun r s' => match r with
      | .ok (.ret u) => EP X pins σ Q u s'
      | .ok _ => False
      | .error e => X.xe e s') s) : wpAny (model X.prog X.w) X.A (call (.ref f) args kw) (EP X pins σ Q) X.xe s := by
  refine wpAny_call (codeAny_mono h fun res s' got => ?_)
  cases res with
  | error e => exact got
  | ok fl =>
    cases fl with
    | ret u => exact got
    | next => exact got.elim
    | brk => exact got.elim
    | cont => exact got.elim
def tCallG (sp : Sp) (E : L2.St → XK) (t : TA) : TE := fun σ H Q => t σ H fun vs H1 => sp vs H1 Q (E σ)
theorem pe_callG (F : FnG X.prog X.w X.K X.mg X.base CX k f fd ps sp) (hG : X.A.guards = some []) (hr : Room k X.A) (hg : Gl X x) (hm : X.mg x = some (.ref f)) (hk : PySem.W.keepIn X.K (.ref f) = true) (hb : Binds X.K fd ps []) (hx : ∀ σ, PassesAt CX X σ (E σ))
    (ha : PA X (e :: es) t) (hdb : (x == ("__debug__" : Str)) = false := by decide) (he : starEach (e :: es) X.env = (false, eval e X.env) :: starEach es X.env := by rfl) (hpl : (backTo pos (starEach es X.env)).any (·.1) = false := by rfl) :
    PE X (.Call (.Name x p) (e :: es) [] pos) (tCallG sp E t) := by
  constructor
  intro pins s σ H Q I h
  refine wpAny_Call_Name_kw (ld_glob I hg hm ?_ hdb)
  refine PySem.W.callWith_K (h₀ := X.base) I.ok.mod.kin hk (thn (ha.run pos pins s σ H _ I h) ?_) he hpl
  rintro us s1 ⟨vs, H1, I1, rel, pr⟩
  refine ⟨I1.kIn, call_of (run_fnG F hG hr ?_ (hx σ) I1 rel pr)⟩
  have b := hb s1 us I1.kIn (by rw [List.append_nil, ← rel.length]; exact F.len _ _ _ _ pr)
  rwa [List.append_nil] at b
theorem pe_callG0 (F : FnG X.prog X.w X.K X.mg X.base CX k f fd ps sp) (hG : X.A.guards = some []) (hr : Room k X.A) (hg : Gl X x) (hm : X.mg x = some (.ref f)) (hk : PySem.W.keepIn X.K (.ref f) = true) (hb : Binds X.K fd ps []) (hx : ∀ σ, PassesAt CX X σ (E σ))
    (hdb : (x == ("__debug__" : Str)) = false := by decide) : PE X (.Call (.Name x p) [] [] pos) (tCallG sp E tNil) := by
  constructor
  intro pins s σ H Q I h
  refine wpAny_Call_Name_kw (ld_glob I hg hm ?_ hdb)
  refine PySem.W.callWith_K0 I.kIn hk (call_of (run_fnG F hG hr ?_ (hx σ) I .nil h))
  have b := hb s [] I.kIn (by simpa using F.len _ _ _ _ h)
  rwa [List.append_nil] at b
variable {kws : List Keyword} {ks : List Str} {g : List Value → List Value → List Value} {gV : List V → List V → List V} {tk : TA}
def tCallGK (sp : Sp) (gV : List V → List V → List V) (E : L2.St → XK) (t tk : TA) : TE := fun σ H Q => t σ H fun vs H1 => tk σ H1 fun zs H2 => sp (gV vs zs) H2 Q (E σ)
theorem pe_callGK (F : FnG X.prog X.w X.K X.mg X.base CX k f fd ps sp) (hG : X.A.guards = some []) (hr : Room k X.A) (hg : Gl X x) (hm : X.mg x = some (.ref f)) (hk : PySem.W.keepIn X.K (.ref f) = true) (hb : KBinds X.K fd ps ks g gV) (hx : ∀ σ, PassesAt CX X σ (E σ))
    (ha : PA X (e :: es) t) (hkw : PK X kws tk) (hall : (backToKw pos (keywordEach kws X.env)).all (·.1.isSome) = true := by rfl) (hks : (backToKw pos (keywordEach kws X.env)).filterMap (·.1) = ks := by rfl)
    (hdb : (x == ("__debug__" : Str)) = false := by decide) (he : starEach (e :: es) X.env = (false, eval e X.env) :: starEach es X.env := by rfl)
    (hpl : ((backTo pos (starEach (e :: es) X.env)).any (·.1) || (backToKw pos (keywordEach kws X.env)).any (·.1.isNone)) = false := by rfl) :
    PE X (.Call (.Name x p) (e :: es) kws pos) (tCallGK sp gV E t tk) := by
  constructor
  intro pins s σ H Q I h
  refine wpAny_Call_Name_kw (ld_glob I hg hm ?_ hdb)
  refine PySem.W.callWith_KW (h₀ := X.base) I.ok.mod.kin hk hall (thn (ha.run pos pins s σ H _ I h) ?_) hpl he
  rintro us s1 ⟨vs, H1, I1, rel, q⟩
  refine thn (hkw.run pos pins s1 σ H1 _ I1 q) ?_
  rintro ws s2 ⟨zs, H2, I2, rz, pr⟩
  refine ⟨I2.kIn, ?_⟩
  rw [hks]
  exact call_of (run_fnG F hG hr (hb.to s2 us ws I2.kIn (by rw [← (hb.rel rel rz).length]; exact F.len _ _ _ _ pr)) (hx σ) I2 (hb.rel rel rz) pr)
end
section
variable {X : Cx} {c : Ct} {rf : List Bool} {ξ : Fx} {Y H : Hp} {σ : St} {s : S} {tv : List V} {ts : List OD}

/-- a def's promise: its value is F's; xs: it may raise -/
def spF (K : PySem.W.Frag) (er : Exn → Value → Option Addr → Hp → Prop) (xs : Bool) (n : Nat) (F : List OD → Res OD) : Sp := fun vs H Q E => ∃ ξ Y ods, ξ.K = K ∧ ξ.H0 = H ∧ ξ.Z0 = Y ∧ vs.length = n ∧ FS ξ Y H (vs.map some) (ods.map some) [] [] ∧
  match F ods with
  | .ok o s' => ∀ Y' H' v, Same Y Y' → FS ξ Y' H' (vs.map some) s' [v] [o] → Q v H'
  | .ex e s' => xs = true ∧ ∀ Y' H' cl x, Same Y Y' → FS ξ Y' H' (vs.map some) s' [] [] → er e cl x H' → E cl x H'
  | .bad => False
def keepR : List Bool → S → S
  | b :: bs, x :: xs => (if b = true then x else none) :: keepR bs xs
  | _, _ => []
def mkF (N : Nat) (rf : List Bool) (body : SF) (ods : List OD) : Res OD := match body (ods.map some ++ List.replicate (N - ods.length) none) with
  | .rt o s' => .ok o (keepR rf s')
  | .nx s' => .ok (.fz .none) (keepR rf s')
  | .ex e s' => .ex e (keepR rf s')
  | .bk _ => .bad
  | .ct _ => .bad
  | .bad => .bad
theorem keepR_length : ∀ {rf : List Bool} {s : S}, rf.length ≤ s.length → (keepR rf s).length = rf.length
  | [], _, _ => by simp [keepR]
  | _ :: _, [], h => by simp at h
  | b :: bs, x :: xs, h => by simp [keepR, keepR_length (rf := bs) (s := xs) (by simpa using h)]
theorem keepR_get : ∀ {rf : List Bool} {s : S} {i : Nat} {o : OD}, (keepR rf s)[i]? = some (some o) → rf[i]? = some true ∧ s[i]? = some (some o)
  | [], _, _, _, h => by simp [keepR] at h
  | _ :: _, [], _, _, h => by simp [keepR] at h
  | b :: bs, x :: xs, 0, o, h => by
    cases b <;> simp [keepR] at h ⊢
    exact h
  | b :: bs, x :: xs, i + 1, o, h => by
    simp only [keepR, List.getElem?_cons_succ] at h ⊢
    exact keepR_get h
theorem start_eq (N : List Str) (vs : List V) : start N vs = vs.map some ++ List.replicate (N.length - vs.length) none := rfl
theorem start_FS {N : List Str} {vs : List V} {ods : List OD} (F : FS ξ Y H (vs.map some) (ods.map some) [] []) : FS ξ Y H (start N vs) (ods.map some ++ List.replicate (N.length - ods.length) none) [] [] := by
  obtain ⟨g, R⟩ := F.rel
  have hl : ods.length = vs.length := by have := F.len; simpa using this
  have cutg : ∀ i o, (ods.map some ++ List.replicate (N.length - ods.length) (none : Option OD))[i]? = some (some o) → (ods.map some)[i]? = some (some o) := fun i o e => by
    rw [List.getElem?_append] at e
    split at e
    · exact e
    · rw [List.getElem?_replicate] at e
      split at e <;> cases e
  refine F.re R g (Same.refl _) F.sub (fun a q => .inl q) (fun i a f => ⟨(R.own i a f).2.1, i, f⟩) R.sep (by rw [start_eq]; simp [hl]) rfl (fun i o e => ?_) R.temp
  have e1 := cutg i o e
  obtain ⟨v, hv, r⟩ := R.slot i o e1
  refine ⟨v, ?_, r⟩
  rw [start_eq, List.getElem?_append_left (lt_of_get hv)]
  exact hv
theorem end_FS {N : List Str} {vs : List V} {σ' : St} {s' : S} (F : FS ξ Y H σ' s' tv ts) (k : Keep rf (start N vs) σ') (hn : rf.length = vs.length) : FS ξ Y H (vs.map some) (keepR rf s') tv ts := by
  obtain ⟨g, R⟩ := F.rel
  have hl : s'.length = vs.length + (N.length - vs.length) := by rw [F.len, k.1, start_eq]; simp
  refine F.re R g (Same.refl _) F.sub (fun a q => .inl q) (fun i a f => ⟨(R.own i a f).2.1, i, f⟩) R.sep (by rw [keepR_length (by omega)]; simp [hn]) F.tlen (fun i o e => ?_) R.temp
  obtain ⟨h1, h2⟩ := keepR_get e
  obtain ⟨v, hv, r⟩ := R.slot i o h2
  refine ⟨v, ?_, r⟩
  have hi : i < vs.length := by rw [← hn]; exact lt_of_get h1
  rw [k.2 i h1, start_eq, List.getElem?_append_left (by simpa using hi)] at hv
  exact hv
theorem body_reads {K : PySem.W.Frag} {er : Exn → Value → Option Addr → Hp → Prop} {xs : Bool} {W : L2.WX} {N : List Str} {n : Nat} {body : SF} {vs : List V} {H : Hp} {Q : VK} {E : XK} (hn : rf.length = n) (h : spF K er xs n (mkF N.length rf body) vs H Q E)
    (hW : xs = true → ∀ cl x σ H, E cl x H → W cl x σ H) : tS ⟨K, er, W⟩ rf body { nx := fun _ H' => Q .non H', rt := Q } (start N vs) H := by
  obtain ⟨ξ, Y, ods, hK, h0, hz, hl, F, q⟩ := h
  refine ⟨ξ, Y, _, hK, start_FS F, ?_⟩
  unfold mkF at q
  cases e : body (ods.map some ++ List.replicate (N.length - ods.length) none) with
  | nx s' =>
    rw [e] at q
    exact fun Y' H' σ' e1 k F' => q Y' H' .non e1 ((end_FS F' k (by omega)).pushD .non)
  | rt o s' =>
    rw [e] at q
    exact fun Y' H' σ' v e1 k F' => q Y' H' v e1 (end_FS F' k (by omega))
  | ex x s' =>
    rw [e] at q
    exact fun Y' H' σ' cl z e1 k F' er => hW q.1 _ _ _ _ (q.2 Y' H' cl z e1 (end_FS F' k (by omega)) er)
  | bk s' => rw [e] at q; exact q.elim
  | ct s' => rw [e] at q; exact q.elim
  | bad => rw [e] at q; exact q.elim
end
section
variable {P : Program} {w : World} {K : PySem.W.Frag} {mg : Str → Option Value} {base : Heap} {er : Exn → Value → Option Addr → Hp → Prop}
/-- THE RULE for a def that lets nothing out -/
theorem okF {x qual : Str} {st : Stmt} {f : Addr} {fd : FuncData} {N ps : List Str} {k : Nat} {rf : List Bool} {body : SF} (F : Fun K x qual st f fd) (S : FnScope N ps (defScope st)) (hn : rf.length = ps.length)
    (hb : ∀ (cdv : Value) (A : Around) (outer : List Env) (s : Shared) (H : Hp) (E : XK), A.guards = some [] → Room k (A.deeper (PyProof.Rows.envOfC qual (defScope st) s.heap.objs.size f cdv)) →
      MSs (cxOf CX0 P w K mg base N qual (defScope st) f cdv A outer s H E).nox ⟨K, er, fun _ _ _ _ => False⟩ rf body (defBody st)) :
    FnG P w K mg base CX0 (k + 1) f fd ps (spF K er false ps.length (mkF N.length rf body)) := by
  refine Fun.okG F S (fun vs H Q E h => ?_) (fun cdv A outer s H vs Q E hG hr h => ?_)
  · obtain ⟨_, _, _, _, _, _, hl, _⟩ := h
    exact hl
  · exact ⟨_, (hb cdv A outer s H E hG hr).run.nox, body_reads hn h fun z => nomatch z⟩
end

/-! ### calls -/
section
variable {X : Cx} {c : Ct} {ξ : Fx} {Y H : Hp} {σ : St} {s : S} {tv : List V} {ts : List OD}
inductive ArgsR (K : PySem.W.Frag) (Y : Hp) (σ : St) : List (Option Nat) → List V → List D → Prop
  | nil : ArgsR K Y σ [] [] []
  | val {ks : List (Option Nat)} {v : V} {vs : List V} {d : D} {ds : List D} : Dr K Y v d → ArgsR K Y σ ks vs ds → ArgsR K Y σ (none :: ks) (v :: vs) (d :: ds)
  | ref {ks : List (Option Nat)} {v : V} {vs : List V} {ds : List D} {i : Nat} : σ[i]? = some (some v) → ArgsR K Y σ ks vs ds → ArgsR K Y σ (some i :: ks) (v :: vs) (.none :: ds)
theorem ArgsR.mono {K : PySem.W.Frag} {Y Y' : Hp} {σ : St} {ks : List (Option Nat)} {vs : List V} {ds : List D} (r : ArgsR K Y σ ks vs ds) (e : Same Y Y') : ArgsR K Y' σ ks vs ds := by
  induction r with
  | nil => exact .nil
  | val h _ ih => exact .val (h.mono e) ih
  | ref h _ ih => exact .ref h ih
def tR (c : Ct) (ks : List (Option Nat)) (f : AF) : TA := fun σ H Q => ∃ ξ Y s tv ts, ξ.K = c.K ∧ FS ξ Y H σ s tv ts ∧
  out c ξ Y σ tv ts (fun ds s' => ∀ Y' H' vs, Same Y Y' → FS ξ Y' H' σ s' tv ts → ArgsR c.K Y' σ ks vs ds → Q vs H') (f s)
structure MR (X : Cx) (c : Ct) (ks : List (Option Nat)) (f : AF) (es : List Expr) : Prop where
  run : PA X es (tR c ks f)
theorem tR_seq {β : Type} {ks : List (Option Nat)} {fa : AF} {k : List D → S → Res β} {G : β → S → Prop} {R : List V → Hp → Prop} (hK : ξ.K = c.K) (F : FS ξ Y H σ s tv ts) (h : out c ξ Y σ tv ts G ((fa s).bind k))
    (hR : ∀ ds s1 Y1 H1 vs, Same Y Y1 → FS ξ Y1 H1 σ s1 tv ts → ArgsR c.K Y1 σ ks vs ds → out c ξ Y σ tv ts G (k ds s1) → R vs H1) : tR c ks fa σ H R := by
  refine ⟨ξ, Y, s, tv, ts, hK, F, ?_⟩
  cases e : fa s with
  | ok d s1 => rw [e] at h; exact fun Y1 H1 v e1 F1 r1 => hR d s1 Y1 H1 v e1 F1 r1 h
  | ex x s1 => rw [e] at h; exact h
  | bad => rw [e] at h; exact h
theorem mr_nil : MR X c [] aNil [] := by
  refine ⟨PA.imp pa_nil fun σ H Q q => ?_⟩
  obtain ⟨ξ, Y, s, tv, ts, hK, F, q⟩ := q
  exact q Y H [] (Same.refl _) F .nil
theorem mr_val {ks : List (Option Nat)} {f : EF} {g : AF} {e : Expr} {es : List Expr} (h : ME X c f e) (h2 : MR X c ks g es) (hs : starEach (e :: es) X.env = (false, eval e X.env) :: starEach es X.env := by rfl) : MR X c (none :: ks) (aCons f g) (e :: es) := by
  refine ⟨PA.imp (pa_cons h.run h2.run hs) fun σ H Q q => ?_⟩
  obtain ⟨ξ, Y, s, tv, ts, hK, F, q⟩ := q
  refine tE_seq hK F q fun d s1 Y1 H1 v e1 F1 r1 q1 => ?_
  refine tR_seq hK F1 (out.mono c q1 e1 (fun _ _ z => z)) fun ds s2 Y2 H2 vs e2 F2 r2 q2 => ?_
  exact q2 Y2 H2 (v :: vs) (e1.trans e2) F2 (.val (r1.mono e2) r2)
/-- an object of our own is handed in -/
def aRef (i : Nat) (g : AF) : AF := fun s => match s[i]? with
  | some (some _) => (g s).bind fun ds s => .ok (.none :: ds) s
  | _ => .bad
theorem mr_ref {ks : List (Option Nat)} {i : Nat} {g : AF} {e : Expr} {es : List Expr} (h : PE X e (tVar i)) (h2 : MR X c ks g es) (hs : starEach (e :: es) X.env = (false, eval e X.env) :: starEach es X.env := by rfl) : MR X c (some i :: ks) (aRef i g) (e :: es) := by
  refine ⟨PA.imp (pa_cons h h2.run hs) fun σ H Q q => ?_⟩
  obtain ⟨ξ, Y, s, tv, ts, hK, F, q⟩ := q
  unfold aRef at q
  split at q
  · rename_i o eo
    obtain ⟨g0, R⟩ := F.rel
    obtain ⟨v, hv, _⟩ := R.slot i o eo
    refine ⟨v, hv, ?_⟩
    refine tR_seq hK F q fun ds s2 Y2 H2 vs e2 F2 r2 q2 => ?_
    exact q2 Y2 H2 (v :: vs) e2 F2 (.ref hv r2)
  · exact q.elim
def odsOf : List (Option Nat) → List D → S → Option (List OD)
  | [], [], _ => some []
  | none :: ks, d :: ds, s => (odsOf ks ds s).map fun os => .fz d :: os
  | some i :: ks, _ :: ds, s => match s[i]? with
    | some (some o) => (odsOf ks ds s).map fun os => o :: os
    | _ => none
  | _, _, _ => none
def backR : List (Option Nat) → S → S → S
  | some i :: ks, x :: xs, s => backR ks xs (s.set i x)
  | none :: ks, _ :: xs, s => backR ks xs s
  | _, _, s => s
def oCall (ks : List (Option Nat)) (args : AF) (F : List OD → Res OD) : OF := fun s => (args s).bind fun ds s1 => match odsOf ks ds s1 with
  | none => .bad
  | some ods => match F ods with
    | .ok o s2 => .ok o (backR ks s2 s1)
    | .ex e s2 => .ex e (backR ks s2 s1)
    | .bad => .bad
theorem odsOf_get {K : PySem.W.Frag} {Y : Hp} {σ : St} {s : S} : ∀ {ks : List (Option Nat)} {vs : List V} {ds : List D} {ods : List OD}, ArgsR K Y σ ks vs ds → odsOf ks ds s = some ods → ods.length = vs.length ∧ ks.length = vs.length ∧
    ∀ (j : Nat) (o : OD), ods[j]? = some o → ∃ v, vs[j]? = some v ∧ ((ks[j]? = some none ∧ ∃ d : D, o = OD.fz d ∧ Dr K Y v d) ∨ ∃ i : Nat, ks[j]? = some (some i) ∧ s[i]? = some (some o) ∧ σ[i]? = some (some v))
  | _, _, _, ods, .nil, h => by
    simp only [odsOf, Option.some.injEq] at h
    subst h
    exact ⟨rfl, rfl, fun j o e => by simp at e⟩
  | _, _, _, ods, .val (ks := ks) (vs := vs) (ds := ds) (v := v) (d := d) hd r, h => by
    simp only [odsOf, Option.map_eq_some_iff] at h
    obtain ⟨os, h1, rfl⟩ := h
    obtain ⟨a, b, q⟩ := odsOf_get r h1
    refine ⟨by simp [a], by simp [b], fun j o e => ?_⟩
    cases j with
    | zero =>
      simp at e
      exact ⟨v, rfl, .inl ⟨rfl, d, e.symm, hd⟩⟩
    | succ j => simpa using q j o (by simpa using e)
  | _, _, _, ods, .ref (ks := ks) (vs := vs) (ds := ds) (v := v) (i := i) hv r, h => by
    simp only [odsOf] at h
    split at h
    · rename_i o eo
      simp only [Option.map_eq_some_iff] at h
      obtain ⟨os, h1, rfl⟩ := h
      obtain ⟨a, b, q⟩ := odsOf_get r h1
      refine ⟨by simp [a], by simp [b], fun j o' e => ?_⟩
      cases j with
      | zero =>
        simp at e
        subst e
        exact ⟨v, rfl, .inr ⟨i, rfl, eo, hv⟩⟩
      | succ j => simpa using q j o' (by simpa using e)
    · cases h
def RefsOk (ks : List (Option Nat)) : Prop := ∀ (j j' i : Nat), ks[j]? = some (some i) → ks[j']? = some (some i) → j = j'
theorem RefsOk.tail {k : Option Nat} {ks : List (Option Nat)} (h : RefsOk (k :: ks)) : RefsOk ks := fun j j' i a b => by
  have := h (j + 1) (j' + 1) i (by simpa using a) (by simpa using b)
  omega
theorem refsOk_of : ∀ {ks : List (Option Nat)}, (ks.filterMap id).Nodup → RefsOk ks
  | [], _ => fun j j' i a _ => by simp at a
  | none :: ks, h => fun j j' i a b => by
    have ih := refsOk_of (ks := ks) (by simpa using h)
    cases j with
    | zero => simp at a
    | succ j =>
      cases j' with
      | zero => simp at b
      | succ j' => exact congrArg (· + 1) (ih j j' i (by simpa using a) (by simpa using b))
  | some k :: ks, h => fun j j' i a b => by
    have h2 : k ∉ ks.filterMap id ∧ (ks.filterMap id).Nodup := by simpa using h
    have ih := refsOk_of (ks := ks) h2.2
    have nin : ∀ j : Nat, ks[j]? ≠ some (some k) := fun j e => h2.1 (List.mem_filterMap.mpr ⟨some k, List.mem_of_getElem? e, rfl⟩)
    cases j with
    | zero =>
      cases j' with
      | zero => rfl
      | succ j' =>
        simp at a b
        subst a
        exact (nin j' b).elim
    | succ j =>
      cases j' with
      | zero =>
        simp at a b
        subst b
        exact (nin j a).elim
      | succ j' => exact congrArg (· + 1) (ih j j' i (by simpa using a) (by simpa using b))
theorem backR_length : ∀ {ks : List (Option Nat)} {xs s : S}, (backR ks xs s).length = s.length
  | [], _, _ => by simp [backR]
  | none :: ks, [], _ => by simp [backR]
  | some _ :: ks, [], _ => by simp [backR]
  | none :: ks, x :: xs, s => by simp [backR, backR_length (ks := ks) (xs := xs) (s := s)]
  | some i :: ks, x :: xs, s => by simp [backR, backR_length (ks := ks) (xs := xs) (s := s.set i x)]
theorem backR_other {i : Nat} : ∀ {ks : List (Option Nat)} {xs s : S}, (∀ j : Nat, ks[j]? ≠ some (some i)) → (backR ks xs s)[i]? = s[i]?
  | [], _, _, _ => by simp [backR]
  | none :: ks, [], _, _ => by simp [backR]
  | some _ :: ks, [], _, _ => by simp [backR]
  | none :: ks, x :: xs, s, h => by
    simp only [backR]
    exact backR_other fun j e => h (j + 1) (by simpa using e)
  | some k :: ks, x :: xs, s, h => by
    simp only [backR]
    rw [backR_other fun j e => h (j + 1) (by simpa using e), List.getElem?_set_ne fun e => h 0 (by simp [e])]
theorem backR_at {i : Nat} : ∀ {ks : List (Option Nat)} {xs s : S} {j : Nat} {o : OD}, RefsOk ks → ks[j]? = some (some i) → j < xs.length → (backR ks xs s)[i]? = some (some o) → xs[j]? = some (some o)
  | [], _, _, _, _, _, h, _, _ => by simp at h
  | _ :: _, [], _, _, _, _, _, h, _ => by simp at h
  | none :: ks, x :: xs, s, 0, o, r, h, _, _ => by simp at h
  | none :: ks, x :: xs, s, j + 1, o, r, h, hl, q => by
    simp only [backR] at q
    simpa using backR_at r.tail (by simpa using h) (by simpa using hl) q
  | some k :: ks, x :: xs, s, 0, o, r, h, hl, q => by
    simp at h
    subst h
    simp only [backR] at q
    rw [backR_other fun j e => by
      have := r 0 (j + 1) k (by simp) (by simpa using e)
      omega] at q
    have hk := lt_of_get q
    rw [List.getElem?_set_self (by simpa using hk)] at q
    simpa using q
  | some k :: ks, x :: xs, s, j + 1, o, r, h, hl, q => by
    simp only [backR] at q
    simpa using backR_at r.tail (by simpa using h) (by simpa using hl) q

/-- into the callee, and back -/
theorem FS.enter {ks : List (Option Nat)} {vs : List V} {ds : List D} {ods : List OD} (F : FS ξ Y H σ s tv ts) (ar : ArgsR ξ.K Y σ ks vs ds) (ho : odsOf ks ds s = some ods) (hr : RefsOk ks) :
    ∃ ξ', ξ'.K = ξ.K ∧ ξ'.H0 = H ∧ ξ'.Z0 = Y ∧ FS ξ' Y H (vs.map some) (ods.map some) [] [] ∧
      ∀ Y' H' s' tv' ts', Same Y Y' → FS ξ' Y' H' (vs.map some) s' tv' ts' → FS ξ Y' H' σ (backR ks s' s) (tv ++ tv') (ts ++ ts') := by
  obtain ⟨g, R⟩ := F.rel
  obtain ⟨hl1, hl2, get⟩ := odsOf_get ar ho
  let M : Addr → Prop := fun a => ∃ (j i : Nat), ks[j]? = some (some i) ∧ g (.inl i) a
  refine ⟨⟨ξ.K, H, Y, M⟩, rfl, rfl, rfl, ⟨F.sub, Same.refl _, fun a h => .inl h, fun a o h _ => h, fun a h => h, by simp [hl1], rfl, fun k a => ∃ (j i : Nat), k = .inl j ∧ ks[j]? = some (some i) ∧ g (.inl i) a, fun j o e => ?_, fun j o e => by simp at e, ?_, ?_⟩, ?_⟩
  · rw [List.getElem?_map, Option.map_eq_some_iff] at e
    obtain ⟨o', e, e'⟩ := e
    cases e'
    obtain ⟨v, hv, h | ⟨i, h1, h2, h3⟩⟩ := get j o e
    · obtain ⟨h1, d, rfl, h2⟩ := h
      refine ⟨v, by rw [List.getElem?_map, hv]; rfl, (RO.fz h2).iff fun a => ⟨fun z => z.elim, fun z => ?_⟩⟩
      obtain ⟨j', i', z1, z2, _⟩ := z
      cases z1
      rw [h1] at z2; cases z2
    · obtain ⟨v', hv', r⟩ := R.slot i o h2
      rw [h3] at hv'
      cases hv'
      refine ⟨v, by rw [List.getElem?_map, hv]; rfl, r.iff fun a => ⟨fun z => ⟨j, i, rfl, h1, z⟩, fun z => ?_⟩⟩
      obtain ⟨j', i', z1, z2, z3⟩ := z
      cases z1
      rw [h1] at z2; cases z2
      exact z3
  · rintro k a ⟨j, i, rfl, h1, h2⟩
    obtain ⟨q1, q2, _⟩ := R.own _ a h2
    exact ⟨q1, q2, .inr ⟨j, i, h1, h2⟩⟩
  · rintro k l a ⟨j, i, rfl, h1, h2⟩ ⟨j', i', rfl, h1', h2'⟩
    have e : i = i' := Sum.inl.inj (R.sep _ _ _ h2 h2')
    subst e
    rw [hr j j' i h1 h1']
  · intro Y' H' s' tv' ts' hy F'
    obtain ⟨g', R'⟩ := F'.rel
    have hsl : s'.length = vs.length := by rw [F'.len]; simp
    have own_of : ∀ a, M a → H a ≠ none ∧ Y a = none ∧ (ξ.H0 a = none ∨ ξ.ma a) := by
      rintro a ⟨j, i, _, z⟩
      exact R.own _ a z
    have kk : ∀ i a, g i a → ¬ M a → H' a = H a := fun i a z nm => by
      cases e : H a with
      | none => exact ((R.own i a z).1 e).elim
      | some u => exact F'.keep a u e nm
    let up : Nat ⊕ Nat → Nat ⊕ Nat → Prop := fun i' i => match i', i with
      | .inl j, .inl i => ks[j]? = some (some i)
      | .inr j, .inr k => k = j + ts.length
      | _, _ => False
    let A : Nat ⊕ Nat → Prop := fun i => (∃ (j n : Nat), i = .inl n ∧ ks[j]? = some (some n)) ∨ ∃ j, i = .inr (j + ts.length)
    have upI : ∀ i' i'' i, up i' i → up i'' i → i' = i'' := by
      rintro (j | j) (k | k) (i | i) h h'
      · exact congrArg Sum.inl (hr j k i h h')
      all_goals first | exact h.elim | exact h'.elim | skip
      have h : i = j + ts.length := h
      have h' : i = k + ts.length := h'
      exact congrArg Sum.inr (by omega)
    have upO : ∀ i' i i2, up i' i → up i' i2 → i = i2 := by
      rintro (j | j) (k | k) (i | i) h h'
      · have h : ks[j]? = some (some k) := h
        have h' : ks[j]? = some (some i) := h'
        rw [h] at h'; cases h'; rfl
      all_goals first | exact h.elim | exact h'.elim | skip
      have h : k = j + ts.length := h
      have h' : i = j + ts.length := h'
      exact congrArg Sum.inr (by omega)
    let g2 : Own := fun i a => (A i ∧ ∃ i', up i' i ∧ g' i' a) ∨ (¬ A i ∧ g i a)
    have notM : ∀ i a, ¬ A i → g i a → ¬ M a := by
      rintro i a nA z ⟨j, n, q1, q2⟩
      have e := R.sep _ _ _ z q2
      subst e
      exact nA (.inl ⟨j, n, rfl, q1⟩)
    have old : ∀ i a, ¬ A i → g i a → H' a = H a := fun i a nA z => kk i a z (notM i a nA z)
    refine ⟨F'.sub, F.z0.trans hy, fun a h => ?_, fun a o h m => ?_, fun a h => F'.live a (F.live a h), by rw [backR_length, F.len], by rw [List.length_append, List.length_append, F.tlen, F'.tlen], g2, fun i o e => ?_, fun j o e => ?_, fun i a z => ?_, fun i j a z z' => ?_⟩
    · rcases F'.fresh a h with q | q | q
      · exact F.fresh a q
      · by_cases m : ξ.H0 a = none
        · exact .inr (.inl m)
        · exact (F.live a m q).elim
      · exact .inr (own_of a q).2.2
    · refine F'.keep a o (F.keep a o h m) fun z => ?_
      rcases (own_of a z).2.2 with q | q
      · rw [q] at h; cases h
      · exact m q
    · by_cases hA : ∃ j : Nat, ks[j]? = some (some i)
      · obtain ⟨j, hj⟩ := hA
        have e1 := backR_at hr hj (by rw [hsl, ← hl2]; exact lt_of_get hj) e
        obtain ⟨v, hv, r⟩ := R'.slot j o e1
        have hA' : A (.inl i) := .inl ⟨j, i, rfl, hj⟩
        have hvi : σ[i]? = some (some v) := by
          rw [List.getElem?_map, Option.map_eq_some_iff] at hv
          obtain ⟨v', hv, e'⟩ := hv
          cases e'
          have hjo : j < ods.length := by rw [hl1]; exact lt_of_get hv
          obtain ⟨v2, q1, q2 | ⟨i2, q2, _, q3⟩⟩ := get j _ (List.getElem?_eq_getElem hjo)
          · rw [hj] at q2; cases q2.1
          · rw [hj] at q2; cases q2
            rw [hv] at q1; cases q1
            exact q3
        exact ⟨v, hvi, r.iff fun a => ⟨fun z => .inl ⟨hA', .inl j, hj, z⟩, fun z => z.elim (fun w => by
          obtain ⟨_, i', e', w⟩ := w
          have : i' = .inl j := upI _ _ (.inl i) e' hj
          subst this
          exact w) fun w => (w.1 hA').elim⟩⟩
      · have hn : ∀ j : Nat, ks[j]? ≠ some (some i) := fun j e => hA ⟨j, e⟩
        rw [backR_other hn] at e
        obtain ⟨v, hv, r⟩ := R.slot i o e
        have nA : ¬ A (.inl i) := by
          rintro (⟨j, n, q, z⟩ | ⟨j, q⟩)
          · cases q; exact hn j z
          · cases q
        exact ⟨v, hv, (r.mono hy fun a z => old _ a nA z).iff fun a => ⟨fun z => .inr ⟨nA, z⟩, fun z => z.elim (fun w => (nA w.1).elim) fun w => w.2⟩⟩
    · by_cases hj : j < ts.length
      · rw [List.getElem?_append_left hj] at e
        obtain ⟨v, hv, r⟩ := R.temp j o e
        have nA : ¬ A (.inr j) := by
          rintro (⟨_, _, q, _⟩ | ⟨l, q⟩)
          · cases q
          · have : j = l + ts.length := Sum.inr.inj q
            omega
        exact ⟨v, by rw [List.getElem?_append_left (by have := F.tlen; omega)]; exact hv, (r.mono hy fun a z => old _ a nA z).iff fun a => ⟨fun z => .inr ⟨nA, z⟩, fun z => z.elim (fun w => (nA w.1).elim) fun w => w.2⟩⟩
      · rw [List.getElem?_append_right (by omega)] at e
        obtain ⟨v, hv, r⟩ := R'.temp (j - ts.length) o e
        have hA : A (.inr j) := .inr ⟨j - ts.length, by congr 1; omega⟩
        have hu : up (.inr (j - ts.length)) (.inr j) := by
          show j = j - ts.length + ts.length
          omega
        exact ⟨v, by rw [List.getElem?_append_right (by have := F.tlen; omega), ← F.tlen]; exact hv, r.iff fun a => ⟨fun z => .inl ⟨hA, .inr (j - ts.length), hu, z⟩, fun z => z.elim (fun w => by
          obtain ⟨_, i', e', w⟩ := w
          have : i' = .inr (j - ts.length) := upI _ _ _ e' hu
          subst this
          exact w) fun w => (w.1 hA).elim⟩⟩
    · rcases z with ⟨hA, i', _, z⟩ | ⟨nA, z⟩
      · obtain ⟨h1, h2, h3⟩ := R'.own i' a z
        refine ⟨h1, h2, ?_⟩
        rcases h3 with h3 | h3
        · by_cases m : ξ.H0 a = none
          · exact .inl m
          · exact (F.live a m h3).elim
        · exact (own_of a h3).2.2
      · obtain ⟨h1, h2, h3⟩ := R.own i a z
        refine ⟨by rw [old i a nA z]; exact h1, ?_, h3⟩
        cases e : Y' a with
        | none => rfl
        | some u =>
          rcases F'.fresh a (by rw [e]; simp) with w | w | w
          · exact (w h2).elim
          · exact (h1 w).elim
          · exact (notM i a nA z w).elim
    · have mixed : ∀ i j, g' i a → ¬ A j → g j a → False := fun i j z nA z' => by
        rcases (R'.own i a z).2.2 with w | w
        · exact (R.own j a z').1 w
        · exact notM j a nA z' w
      rcases z with ⟨hA, i', e', z⟩ | ⟨nA, z⟩
      · rcases z' with ⟨hA', j', e2', z'⟩ | ⟨nA', z'⟩
        · have : i' = j' := R'.sep _ _ _ z z'
          subst this
          exact upO _ _ _ e' e2'
        · exact (mixed _ _ z nA' z').elim
      · rcases z' with ⟨hA', j', e2', z'⟩ | ⟨nA', z'⟩
        · exact (mixed _ _ z' nA z).elim
        · exact R.sep _ _ _ z z'

theorem call_core {ks : List (Option Nat)} {g : AF} {F : List OD → Res OD} {xs : Bool} {n : Nat} {σ : St} {H : Hp} {Q : VK} (hr : RefsOk ks) (hn : ks.length = n) (q : tO c (oCall ks g F) σ H Q) :
    tR c ks g σ H fun vs H1 => spF c.K c.er true n F vs H1 Q (fun cl x H => c.W cl x σ H) := by
  obtain ⟨ξ, Y, s, tv, ts, hK, Fr, q⟩ := q
  refine tR_seq hK Fr q fun ds s1 Y1 H1 vs e1 F1 r1 q1 => ?_
  cases eo : odsOf ks ds s1 with
  | none => rw [eo] at q1; exact q1.elim
  | some ods =>
    rw [eo] at q1
    obtain ⟨ξ', hK', h0, hz, F2, back⟩ := F1.enter (hK ▸ r1) eo hr
    refine ⟨ξ', Y1, ods, hK'.trans hK, h0, hz, by rw [← (odsOf_get r1 eo).2.1]; exact hn, F2, ?_⟩
    simp only at q1
    cases ef : F ods with
    | ok o s2 =>
      rw [ef] at q1
      exact fun Y3 H3 v e3 F3 => q1 Y3 H3 v (e1.trans e3) (back Y3 H3 s2 [v] [o] e3 F3)
    | ex x s2 =>
      rw [ef] at q1
      refine ⟨rfl, fun Y3 H3 cl z e3 F3 er => ?_⟩
      have F4 := back Y3 H3 s2 [] [] e3 F3
      rw [List.append_nil, List.append_nil] at F4
      exact q1 Y3 H3 cl z (e1.trans e3) F4 er
    | bad => rw [ef] at q1; exact q1.elim
def noexF (F : List OD → Res OD) : List OD → Res OD := fun os => (F os).noex
theorem spF_noex {K : PySem.W.Frag} {er : Exn → Value → Option Addr → Hp → Prop} {n : Nat} {F : List OD → Res OD} {vs : List V} {H : Hp} {Q : VK} {E : XK} (h : spF K er true n (noexF F) vs H Q E) : spF K er false n F vs H Q E := by
  obtain ⟨ξ, Y, ods, a, b, c, d, f, q⟩ := h
  refine ⟨ξ, Y, ods, a, b, c, d, f, ?_⟩
  unfold noexF at q
  cases e : F ods with
  | ok o s => rw [e] at q; exact q
  | ex x s => rw [e] at q; exact q.elim
  | bad => rw [e] at q; exact q.elim
variable {CX : CXT} {k : Nat} {f : Addr} {fd : FuncData} {ps : List Str} {x : Str} {p pos : Pos} {e : Expr} {es : List Expr} {F : List OD → Res OD} {n : Nat} {ks : List (Option Nat)} {g : AF}
theorem tR_imp {σ : St} {H : Hp} {R R' : List V → Hp → Prop} (h : tR c ks g σ H R) (i : ∀ vs H, R vs H → R' vs H) : tR c ks g σ H R' := by
  obtain ⟨ξ, Y, s, tv, ts, hK, Fr, q⟩ := h
  exact ⟨ξ, Y, s, tv, ts, hK, Fr, out.mono c q (Same.refl _) fun ds s z Y' H' vs a b d => i vs H' (z Y' H' vs a b d)⟩
/-- a call of a def that raises nothing -/
theorem mo_call (Fo : FnG X.prog X.w X.K X.mg X.base CX0 k f fd ps (spF c.K c.er false n F)) (hG : X.A.guards = some []) (hr : Room k X.A) (hg : Gl X x) (hm : X.mg x = some (.ref f)) (hk : PySem.W.keepIn X.K (.ref f) = true) (hb : Binds X.K fd ps []) (ha : MR X c ks g (e :: es))
    (hn : ks.length = n := by rfl) (hrf : (ks.filterMap id).Nodup := by decide) (hdb : (x == ("__debug__" : Str)) = false := by decide) (he : starEach (e :: es) X.env = (false, eval e X.env) :: starEach es X.env := by rfl) (hpl : (backTo pos (starEach es X.env)).any (·.1) = false := by rfl) :
    MO X c (oCall ks g (noexF F)) (.Call (.Name x p) (e :: es) [] pos) := by
  refine ⟨PE.imp (pe_callG (E := fun σ cl x H => False) Fo hG hr hg hm hk hb (fun σ => fun _ _ _ _ _ _ z => z.elim) ha.run hdb he hpl) fun σ H Q q => ?_⟩
  refine tR_imp (call_core (xs := true) (refsOk_of hrf) hn q) fun vs H1 h => ?_
  have h2 := spF_noex h
  obtain ⟨ξ, Y, ods, a1, b1, c1, d1, f1, q1⟩ := h2
  refine ⟨ξ, Y, ods, a1, b1, c1, d1, f1, ?_⟩
  cases ef : F ods with
  | ok o s => rw [ef] at q1; exact q1
  | ex x s => rw [ef] at q1; exact (nomatch q1.1)
  | bad => rw [ef] at q1; exact q1
theorem mo_call0 (Fo : FnG X.prog X.w X.K X.mg X.base CX0 k f fd ps (spF c.K c.er false 0 F)) (hG : X.A.guards = some []) (hr : Room k X.A) (hg : Gl X x) (hm : X.mg x = some (.ref f)) (hk : PySem.W.keepIn X.K (.ref f) = true) (hb : Binds X.K fd ps [])
    (hdb : (x == ("__debug__" : Str)) = false := by decide) : MO X c (oCall [] aNil (noexF F)) (.Call (.Name x p) [] [] pos) := by
  refine ⟨PE.imp (pe_callG0 (E := fun σ cl x H => False) Fo hG hr hg hm hk hb (fun σ => fun _ _ _ _ _ _ z => z.elim) hdb) fun σ H Q q => ?_⟩
  have h := call_core (xs := true) (n := 0) (refsOk_of (ks := []) (by decide)) rfl q
  obtain ⟨ξ, Y, s, tv, ts, hK, Fr, q⟩ := h
  have h2 := spF_noex (q Y H [] (Same.refl _) Fr .nil)
  obtain ⟨ξ, Y, ods, a1, b1, c1, d1, f1, q1⟩ := h2
  refine ⟨ξ, Y, ods, a1, b1, c1, d1, f1, ?_⟩
  cases ef : F ods with
  | ok o s => rw [ef] at q1; exact q1
  | ex x s => rw [ef] at q1; exact (nomatch q1.1)
  | bad => rw [ef] at q1; exact q1
/-- a call with keywords: the values handed in are data; perm puts them in the parameters' order -/
def oCallK (g h : AF) (perm : List D → List D → List D) (F : List OD → Res OD) : OF := fun s => (g s).bind fun ds s1 => (h s1).bind fun es s2 => match F ((perm ds es).map .fz) with
  | .ok o _ => .ok o s2
  | _ => .bad
structure MK (X : Cx) (c : Ct) (f : AF) (kws : List Keyword) : Prop where
  run : PK X kws (tA c f)
theorem mk_nil : MK X c aNil [] := by
  refine ⟨⟨fun pos pins s σ H Q I q => pk_nil.run pos pins s σ H Q I ?_⟩⟩
  obtain ⟨ξ, Y, s, tv, ts, hK, F, q⟩ := q
  exact q Y H [] (Same.refl _) F .nil
theorem mk_cons {f : EF} {g : AF} {e : Expr} {nm : Option Str} {kpos : Pos} {kws : List Keyword} (h : ME X c f e) (h2 : MK X c g kws) : MK X c (aCons f g) (⟨nm, e, kpos⟩ :: kws) := by
  refine ⟨⟨fun pos pins s σ H Q I q => (pk_cons h.run h2.run).run pos pins s σ H Q I ?_⟩⟩
  obtain ⟨ξ, Y, s, tv, ts, hK, F, q⟩ := q
  refine tE_seq hK F q fun d s1 Y1 H1 v e1 F1 r1 q1 => ?_
  refine tA_seq hK F1 (out.mono c q1 e1 (fun _ _ z => z)) fun ds s2 Y2 H2 vs e2 F2 r2 q2 => ?_
  exact q2 Y2 H2 (v :: vs) (e1.trans e2) F2 (.cons (r1.mono e2) r2)
theorem FS.enterD {vs : List V} {ds : List D} (F : FS ξ Y H σ s tv ts) (r : DrAll ξ.K Y vs ds) : ∃ ξ', ξ'.K = ξ.K ∧ ξ'.H0 = H ∧ ξ'.Z0 = Y ∧ FS ξ' Y H (vs.map some) ((ds.map OD.fz).map some) [] [] ∧
      ∀ Y' H' s' tv' ts', Same Y Y' → FS ξ' Y' H' (vs.map some) s' tv' ts' → FS ξ Y' H' σ s (tv ++ tv') (ts ++ ts') := by
  have ar : ∀ {vs : List V} {ds : List D}, DrAll ξ.K Y vs ds → ArgsR ξ.K Y σ (ds.map fun _ => none) vs ds ∧ odsOf (ds.map fun _ => none) ds s = some (ds.map OD.fz) := by
    intro vs ds r
    induction ds generalizing vs with
    | nil => cases r; exact ⟨.nil, rfl⟩
    | cons d ds ih =>
      cases r with
      | cons a b => exact ⟨.val a (ih b).1, by simp [odsOf, (ih b).2]⟩
  have none_ : ∀ (ds : List D) (xs s : S), backR (ds.map fun _ => none) xs s = s := by
    intro ds
    induction ds with
    | nil => intro xs s; simp [backR]
    | cons d ds ih =>
      intro xs s
      cases xs with
      | nil => simp [backR]
      | cons x xs => simpa [backR] using ih xs s
  have hr : RefsOk (ds.map fun _ => (none : Option Nat)) := fun j j' i a _ => by
    rw [List.getElem?_map] at a
    cases e : ds[j]? with
    | none => rw [e] at a; cases a
    | some _ => rw [e] at a; cases a
  obtain ⟨ξ', a, b, c, d, e⟩ := F.enter (ar r).1 (ar r).2 hr
  refine ⟨ξ', a, b, c, d, fun Y' H' s' tv' ts' h1 h2 => ?_⟩
  have := e Y' H' s' tv' ts' h1 h2
  rwa [none_] at this
theorem mo_callK {k2 : List Str} {gv : List Value → List Value → List Value} {gV : List V → List V → List V} {perm : List D → List D → List D} {h : AF} {kws : List Keyword} (Fo : FnG X.prog X.w X.K X.mg X.base CX0 k f fd ps (spF c.K c.er false n F)) (hG : X.A.guards = some []) (hr : Room k X.A) (hg : Gl X x) (hm : X.mg x = some (.ref f)) (hk : PySem.W.keepIn X.K (.ref f) = true)
    (hb : KBinds X.K fd ps k2 gv gV) (hperm : ∀ (Y : Hp) vs ds ws es, DrAll c.K Y vs ds → DrAll c.K Y ws es → (gV vs ws).length = n ∧ DrAll c.K Y (gV vs ws) (perm ds es)) (ha : MA X c g (e :: es)) (hkw : MK X c h kws)
    (hall : (backToKw pos (keywordEach kws X.env)).all (·.1.isSome) = true := by rfl) (hks : (backToKw pos (keywordEach kws X.env)).filterMap (·.1) = k2 := by rfl)
    (hdb : (x == ("__debug__" : Str)) = false := by decide) (he : starEach (e :: es) X.env = (false, eval e X.env) :: starEach es X.env := by rfl)
    (hpl : ((backTo pos (starEach (e :: es) X.env)).any (·.1) || (backToKw pos (keywordEach kws X.env)).any (·.1.isNone)) = false := by rfl) :
    MO X c (oCallK g h perm F) (.Call (.Name x p) (e :: es) kws pos) := by
  refine ⟨PE.imp (pe_callGK (E := fun σ cl x H => False) Fo hG hr hg hm hk hb (fun σ => fun _ _ _ _ _ _ z => z.elim) ha.run hkw.run hall hks hdb he hpl) fun σ H Q q => ?_⟩
  obtain ⟨ξ, Y, s, tv, ts, hK, Fr, q⟩ := q
  refine tA_seq hK Fr q fun ds s1 Y1 H1 vs e1 F1 r1 q1 => ?_
  refine tA_seq hK F1 (out.mono c q1 e1 (fun _ _ z => z)) fun es s2 Y2 H2 ws e2 F2 r2 q2 => ?_
  obtain ⟨l1, r3⟩ := hperm Y2 vs ds ws es (r1.mono e2) r2
  obtain ⟨ξ', a1, b1, c1, d1, back⟩ := F2.enterD (hK ▸ r3)
  refine ⟨ξ', Y2, (perm ds es).map OD.fz, a1.trans hK, b1, c1, l1, d1, ?_⟩
  cases ef : F ((perm ds es).map OD.fz) with
  | ok o s3 =>
    rw [ef] at q2
    exact fun Y3 H3 v e3 F3 => q2 Y3 H3 v ((e1.trans e2).trans e3) (back Y3 H3 s3 [v] [o] e3 F3)
  | ex x s3 => rw [ef] at q2; exact q2.elim
  | bad => rw [ef] at q2; exact q2.elim
end
end MI

set_option Elab.async false
set_option linter.all false
set_option autoImplicit false
set_option maxRecDepth 100000
/-! MI: what the operators and built-ins do to data. -/
namespace MI
open PySem PySem.Spec L2
section
variable {X : Cx} {c : Ct} {K : PySem.W.Frag}

/-! ### links -/
theorem OpL.or {r r' : R2} {F F' : D → D → Option OD} (h : OpL K r F) (h' : OpL K r' F') : OpL K (orR r r') (fun a b => (F a b).or (F' a b)) := fun Y H Q x y a b o e ra rb q g => by
  have q : (F a b).or (F' a b) = some o := q
  cases ef : F a b with
  | some z =>
    rw [ef] at q
    cases q
    exact .inl (h Y H Q x y a b o e ra rb ef g)
  | none =>
    rw [ef] at q
    exact .inr (h' Y H Q x y a b o e ra rb (by simpa using q) g)
theorem CmpL.or {r r' : R2} {F F' : D → D → Option Bool} (h : CmpL K r F) (h' : CmpL K r' F') : CmpL K (orR r r') (fun a b => (F a b).or (F' a b)) := fun Y H Q x y a b k e ra rb q g => by
  have q : (F a b).or (F' a b) = some k := q
  cases ef : F a b with
  | some z =>
    rw [ef] at q
    cases q
    exact .inl (h Y H Q x y a b k e ra rb ef g)
  | none =>
    rw [ef] at q
    exact .inr (h' Y H Q x y a b k e ra rb (by simpa using q) g)

/-! ### + -/
def addI : D → D → Option OD
  | .int i, .int j => some (.fz (.int (i + j)))
  | _, _ => none
def addT : D → D → Option OD
  | .tuple xs, .tuple ys => if xs.length + ys.length ≤ sizeLine then some (.fz (.tuple (xs ++ ys))) else none
  | _, _ => none
def addLs : D → D → Option OD
  | .list xs, .list ys => if xs.length + ys.length ≤ sizeLine then some (.ol (xs ++ ys)) else none
  | _, _ => none
def addS : D → D → Option OD
  | .str x, .str y => if x.length + y.length ≤ sizeLine then some (.fz (.str (x ++ y))) else none
  | _, _ => none
theorem addI_ok : OpL K (rI0 fun i j => .int (i + j)) addI := fun Y H Q x y a b o e ra rb q g => by
  unfold addI at q
  split at q
  · cases q
    rw [ra.int_inv, rb.int_inv]
    exact ⟨_, _, rfl, rfl, g _ _ _ (.old (.int _))⟩
  · cases q
theorem addT_ok : OpL K (rCatA K) addT := fun Y H Q x y a b o e ra rb q g => by
  unfold addT at q
  split at q
  · rename_i xs ys
    split at q
    · rename_i hl
      cases q
      obtain ⟨p, us, rfl, h1, d1⟩ := ra.tuple_inv
      obtain ⟨p2, ws, rfl, h2, d2⟩ := rb.tuple_inv
      refine ⟨p, p2, us, ws, rfl, rfl, Same.sqt e h1, Same.sqt e h2, by rw [d1.length, d2.length]; exact hl, fun z => ?_, fun _ z => ?_, fun _ _ n hn => g _ _ _ (.tup hn (d1.append d2))⟩
      · subst z
        cases d1
        exact g _ _ _ (.old rb)
      · subst z
        cases d2
        rw [List.append_nil] at g
        exact g _ _ _ (.old ra)
    · cases q
  · cases q
theorem addL_ok : OpL K rCat addLs := fun Y H Q x y a b o e ra rb q g => by
  unfold addLs at q
  split at q
  · split at q
    · rename_i hl
      cases q
      obtain ⟨p, us, rfl, h1, d1⟩ := ra.list_inv
      obtain ⟨p2, ws, rfl, h2, d2⟩ := rb.list_inv
      exact ⟨p, p2, us, ws, rfl, rfl, e _ _ h1, e _ _ h2, by rw [d1.length, d2.length]; exact hl, fun n hn => g _ _ _ (.lst hn (d1.append d2))⟩
    · cases q
  · cases q
theorem addS_ok : OpL K (fun x y H Q => ∃ i j, x = .str i ∧ y = .str j ∧ i.length + j.length ≤ sizeLine ∧ Q (.str (i ++ j)) H) addS := fun Y H Q x y a b o e ra rb q g => by
  unfold addS at q
  split at q
  · split at q
    · rename_i hl
      cases q
      rw [ra.str_inv, rb.str_inv]
      exact ⟨_, _, rfl, rfl, hl, g _ _ _ (.old (.str _))⟩
    · cases q
  · cases q
def addD (a b : D) : Option OD := (addI a b).or ((addT a b).or ((addLs a b).or (addS a b)))
variable {fa fb : EF} {a b : Expr} {pos : Pos}
theorem mo_add (hXK : X.K = c.K) (ha : ME X c fa a) (hb : ME X c fb b) : MO X c (oOp2 addD fa fb) (.BinOp a .Add b pos) :=
  mo_op2 (OpR.or op_add (OpR.or (hXK ▸ op_catA) (OpR.or op_cat op_add_str))) (addI_ok.or (addT_ok.or (addL_ok.or addS_ok))) ha hb
/-! ### - * % // ** -/
def subD : D → D → Option OD
  | .int i, .int j => some (.fz (.int (i - j)))
  | _, _ => none
theorem mo_sub (ha : ME X c fa a) (hb : ME X c fb b) : MO X c (oOp2 subD fa fb) (.BinOp a .Sub b pos) :=
  mo_op2 op_sub (fun Y H Q x y a b o e ra rb q g => by
    unfold subD at q
    split at q
    · cases q
      rw [ra.int_inv, rb.int_inv]
      exact ⟨_, _, rfl, rfl, g _ _ _ (.old (.int _))⟩
    · cases q) ha hb
def mulI : D → D → Option OD
  | .int i, .int j => if i.natAbs.log2 + j.natAbs.log2 < 1000000 then some (.fz (.int (i * j))) else none
  | _, _ => none
def mulL : D → D → Option OD
  | .list xs, .int k => if -(2 ^ 63) ≤ k ∧ k < 2 ^ 63 ∧ xs.length * k.toNat ≤ sizeLine then some (.ol (List.replicate k.toNat xs).flatten) else none
  | _, _ => none
theorem DrAll.rep {Y : Hp} {vs : List V} {ds : List D} (h : DrAll K Y vs ds) : ∀ n : Nat, DrAll K Y (List.replicate n vs).flatten (List.replicate n ds).flatten
  | 0 => .nil
  | n + 1 => by
    rw [List.replicate_succ, List.replicate_succ, List.flatten_cons, List.flatten_cons]
    exact h.append (h.rep n)
def mulT : D → D → Option OD
  | .tuple xs, .int k => if xs.isEmpty = false ∧ 2 ≤ k ∧ k ≤ 1000 ∧ xs.length ≤ 1000 then some (.fz (.tuple (List.replicate k.toNat xs).flatten)) else none
  | _, _ => none
def mulD (a b : D) : Option OD := (mulI a b).or ((mulL a b).or (mulT a b))
theorem mo_mul (hXK : X.K = c.K) (ha : ME X c fa a) (hb : ME X c fb b) : MO X c (oOp2 mulD fa fb) (.BinOp a .Mult b pos) :=
  mo_op2 (OpR.or op_mulW (OpR.or op_rep (hXK ▸ op_repT))) (OpL.or (fun Y H Q x y a b o e ra rb q g => by
    unfold mulI at q
    split at q
    · split at q
      · rename_i hl
        cases q
        rw [ra.int_inv, rb.int_inv]
        exact ⟨_, _, rfl, rfl, hl, g _ _ _ (.old (.int _))⟩
      · cases q
    · cases q) (OpL.or (fun Y H Q x y a b o e ra rb q g => by
    unfold mulL at q
    split at q
    · split at q
      · rename_i hl
        cases q
        obtain ⟨p, us, rfl, h1, d1⟩ := ra.list_inv
        rw [rb.int_inv]
        exact ⟨p, _, us, rfl, rfl, e _ _ h1, hl.1, hl.2.1, by rw [d1.length]; exact hl.2.2, fun n hn => g _ _ _ (.lst hn (d1.rep _))⟩
      · cases q
    · cases q) (fun Y H Q x y a b o e ra rb q g => by
    unfold mulT at q
    split at q
    · split at q
      · rename_i xs k hl
        cases q
        obtain ⟨p, us, rfl, h1, d1⟩ := ra.tuple_inv
        rw [rb.int_inv]
        refine ⟨p, _, us, rfl, rfl, Same.sqt e h1, ?_, hl.2.1, hl.2.2.1, by rw [d1.length]; exact hl.2.2.2, fun n hn => g _ _ _ (.tup hn (d1.rep _))⟩
        rintro rfl
        cases d1
        simp at hl
      · cases q
    · cases q))) ha hb
def modD : D → D → Option OD
  | .int i, .int j => if 0 < j then some (.fz (.int (i % j))) else none
  | _, _ => none
theorem mo_mod (ha : ME X c fa a) (hb : ME X c fb b) : MO X c (oOp2 modD fa fb) (.BinOp a .Mod b pos) :=
  mo_op2 op_mod (fun Y H Q x y a b o e ra rb q g => by
    unfold modD at q
    split at q
    · split at q
      · rename_i hl
        cases q
        rw [ra.int_inv, rb.int_inv]
        exact ⟨_, _, rfl, rfl, hl, g _ _ _ (.old (.int _))⟩
      · cases q
    · cases q) ha hb
def fdivD : D → D → Option OD
  | .int i, .int j => if 0 < j ∧ j.natAbs.log2 < 9000 then some (.fz (.int (i / j))) else none
  | _, _ => none
theorem mo_fdiv (ha : ME X c fa a) (hb : ME X c fb b) : MO X c (oOp2 fdivD fa fb) (.BinOp a .FloorDiv b pos) :=
  mo_op2 op_fdivW (fun Y H Q x y a b o e ra rb q g => by
    unfold fdivD at q
    split at q
    · split at q
      · rename_i hl
        cases q
        rw [ra.int_inv, rb.int_inv]
        exact ⟨_, _, rfl, rfl, hl, g _ _ _ (.old (.int _))⟩
      · cases q
    · cases q) ha hb
def CPowW (i j : Int) : Prop := 0 ≤ j ∧ (Builtin.Int.intBits i : Int) * j ≤ 2 ^ 27
instance (i j : Int) : Decidable (CPowW i j) := inferInstanceAs (Decidable (_ ∧ _))
theorem op_powW : OpR X (binaryOp .Pow) (rI CPowW fun i j => .int (i ^ j.toNat)) := opI fun _ _ _ _ _ _ _ hc q => PyProof.Rows.pow_int hc.1 hc.2 q
def powD : D → D → Option OD
  | .int i, .int j => if CPowW i j then some (.fz (.int (i ^ j.toNat))) else none
  | _, _ => none
theorem mo_pow (ha : ME X c fa a) (hb : ME X c fb b) : MO X c (oOp2 powD fa fb) (.BinOp a .Pow b pos) :=
  mo_op2 op_powW (fun Y H Q x y a b o e ra rb q g => by
    unfold powD at q
    split at q
    · split at q
      · rename_i hl
        cases q
        rw [ra.int_inv, rb.int_inv]
        exact ⟨_, _, rfl, rfl, hl, g _ _ _ (.old (.int _))⟩
      · cases q
    · cases q) ha hb
def negD : D → Option OD
  | .int i => some (.fz (.int (-i)))
  | _ => none
theorem mo_neg (ha : ME X c fa a) : MO X c (oOp1 negD fa) (.UnaryOp .USub a pos) :=
  mo_un un_neg (fun Y H Q x a o e ra q g => by
    unfold negD at q
    split at q
    · cases q
      rw [ra.int_inv]
      exact ⟨_, rfl, g _ _ _ (.old (.int _))⟩
    · cases q) ha

/-! ### comparisons -/
mutual
/-- no dict in it -/
def plain : D → Bool
  | .none => true
  | .bool _ => true
  | .int _ => true
  | .str _ => true
  | .dict _ => false
  | .list ds => plainAll ds
  | .tuple ds => plainAll ds
def plainAll : List D → Bool
  | [] => true
  | d :: ds => plain d && plainAll ds
end
mutual
theorem Dr.dp {Y H : Hp} (e : Same Y H) : ∀ {v : V} {d : D}, Dr K Y v d → plain d = true → Dp K H v d
  | _, _, .non, _ => .non
  | _, _, .bl b, _ => .bl b
  | _, _, .int i, _ => .int i
  | _, _, .str x, _ => .str x
  | _, _, .lst h t, f => .lst (.inl (.inl (e _ _ h))) (DrAll.dp e t (by simpa [plain] using f))
  | _, _, .lck _ _, f => by simp [plain] at f
  | _, _, .tup h t, f => .tup (Same.sqt e h) (DrAll.dp e t (by simpa [plain] using f))
  | _, _, .dk _ _, f => by simp [plain] at f
  | _, _, .dt _ _, f => by simp [plain] at f
theorem DrAll.dp {Y H : Hp} (e : Same Y H) : ∀ {vs : List V} {ds : List D}, DrAll K Y vs ds → plainAll ds = true → DpAll K H vs ds
  | _, _, .nil, _ => .nil
  | _, _, .cons h t, f => by
    rw [plainAll, Bool.and_eq_true] at f
    exact .cons (h.dp e f.1) (t.dp e f.2)
end
/-- texts are compared whatever they are -/
def eqS : D → D → Option Bool
  | .str x, .str y => some (decide (x = y))
  | _, _ => none
def eqP (a b : D) : Option Bool := if plain a = true ∧ plain b = true ∧ SeqAt.shaped a = true ∧ SeqAt.shaped b = true then some (PyData.eqv a b) else none
def eqD (a b : D) : Option Bool := (eqS a b).or (eqP a b)
def neD (a b : D) : Option Bool := ((eqS a b).map not).or ((eqP a b).map not)
theorem eqS_ok : CmpL K rEq eqS := fun Y H Q x y a b k e ra rb q g => by
  unfold eqS at q
  split at q
  · cases q
    rw [ra.str_inv, rb.str_inv]
    refine ⟨rfl, ?_⟩
    rename_i x y
    rw [show decide (V.str x = V.str y) = decide (x = y) by
      by_cases z : x = y
      · subst z; simp
      · rw [decide_eq_false z, decide_eq_false fun w => z (V.str.inj w)]]
    exact g
  · cases q
theorem eqP_ok : CmpL K (rEqD K) eqP := fun Y H Q x y a b k e ra rb q g => by
  unfold eqP at q
  split at q
  · rename_i h
    cases q
    exact ⟨a, b, ra.dp e h.1, rb.dp e h.2.1, h.2.2.1, h.2.2.2, g⟩
  · cases q
theorem neS_ok : CmpL K rNe fun a b => (eqS a b).map not := fun Y H Q x y a b k e ra rb q g => by
  simp only [Option.map_eq_some_iff] at q
  obtain ⟨k', q, rfl⟩ := q
  have := eqS_ok Y H (fun v H' => Q (match v with
    | .bl z => .bl (!z)
    | v => v) H') x y a b k' e ra rb q g
  exact this
theorem neP_ok : CmpL K (rNeD K) fun a b => (eqP a b).map not := fun Y H Q x y a b k e ra rb q g => by
  simp only [Option.map_eq_some_iff] at q
  obtain ⟨k', q, rfl⟩ := q
  unfold eqP at q
  split at q
  · rename_i h
    cases q
    exact ⟨a, b, ra.dp e h.1, rb.dp e h.2.1, h.2.2.1, h.2.2.2, g⟩
  · cases q
theorem me_eq (hXK : X.K = c.K) (hu : X.A.units + 64 < cLine) (ha : ME X c fa a) (hb : ME X c fb b) (hm : behindInMarks .Eq b = false) : ME X c (eCmp eqD fa fb) (.Compare a [.Eq] [b] pos) :=
  me_cmp (OpR.or op_eq (hXK ▸ op_eqD hu)) (eqS_ok.or eqP_ok) ha hb hm
theorem mt_eq (hXK : X.K = c.K) (hu : X.A.units + 64 < cLine) (ha : ME X c fa a) (hb : ME X c fb b) (hm : behindInMarks .Eq b = false) : MT X c (kCmp eqD fa fb) (.Compare a [.Eq] [b] pos) :=
  mt_cmp (OpR.or op_eq (hXK ▸ op_eqD hu)) (eqS_ok.or eqP_ok) ha hb hm
theorem me_ne (hXK : X.K = c.K) (hu : X.A.units + 64 < cLine) (ha : ME X c fa a) (hb : ME X c fb b) (hm : behindInMarks .NotEq b = false) : ME X c (eCmp neD fa fb) (.Compare a [.NotEq] [b] pos) :=
  me_cmp (OpR.or op_ne (hXK ▸ op_neD hu)) (neS_ok.or neP_ok) ha hb hm
theorem mt_ne (hXK : X.K = c.K) (hu : X.A.units + 64 < cLine) (ha : ME X c fa a) (hb : ME X c fb b) (hm : behindInMarks .NotEq b = false) : MT X c (kCmp neD fa fb) (.Compare a [.NotEq] [b] pos) :=
  mt_cmp (OpR.or op_ne (hXK ▸ op_neD hu)) (neS_ok.or neP_ok) ha hb hm
def ltI : D → D → Option Bool
  | .int i, .int j => some (decide (i < j))
  | _, _ => none
def leI : D → D → Option Bool
  | .int i, .int j => some (decide (i ≤ j))
  | _, _ => none
def gtI : D → D → Option Bool
  | .int i, .int j => some (decide (j < i))
  | _, _ => none
def geI : D → D → Option Bool
  | .int i, .int j => some (decide (j ≤ i))
  | _, _ => none
theorem ltI_ok : CmpL K (rI0 fun i j => .bl (decide (i < j))) ltI := fun Y H Q x y a b k e ra rb q g => by
  unfold ltI at q
  split at q
  · cases q
    rw [ra.int_inv, rb.int_inv]
    exact ⟨_, _, rfl, rfl, g⟩
  · cases q
theorem leI_ok : CmpL K (rI0 fun i j => .bl (decide (i ≤ j))) leI := fun Y H Q x y a b k e ra rb q g => by
  unfold leI at q
  split at q
  · cases q
    rw [ra.int_inv, rb.int_inv]
    exact ⟨_, _, rfl, rfl, g⟩
  · cases q
theorem gtI_ok : CmpL K (rI0 fun i j => .bl (decide (j < i))) gtI := fun Y H Q x y a b k e ra rb q g => by
  unfold gtI at q
  split at q
  · cases q
    rw [ra.int_inv, rb.int_inv]
    exact ⟨_, _, rfl, rfl, g⟩
  · cases q
theorem geI_ok : CmpL K (rI0 fun i j => .bl (decide (j ≤ i))) geI := fun Y H Q x y a b k e ra rb q g => by
  unfold geI at q
  split at q
  · cases q
    rw [ra.int_inv, rb.int_inv]
    exact ⟨_, _, rfl, rfl, g⟩
  · cases q
def isN : D → D → Option Bool
  | a, .none => some (match a with
    | .none => true
    | _ => false)
  | _, _ => none
theorem isN_ok : CmpL K (fun x y H Q => y = .non ∧ Q (.bl (decide (x = .non))) H) isN := fun Y H Q x y a b k e ra rb q g => by
  unfold isN at q
  split at q
  · cases q
    refine ⟨rb.none_inv, ?_⟩
    cases ra <;> exact g
  · cases q
def isntN (a b : D) : Option Bool := (isN a b).map not
theorem isntN_ok : CmpL K (fun x y H Q => y = .non ∧ Q (.bl (!decide (x = .non))) H) isntN := fun Y H Q x y a b k e ra rb q g => by
  unfold isntN at q
  simp only [Option.map_eq_some_iff] at q
  obtain ⟨k', q, rfl⟩ := q
  unfold isN at q
  split at q
  · cases q
    refine ⟨rb.none_inv, ?_⟩
    cases ra <;> exact g
  · cases q
theorem me_isN (ha : ME X c fa a) (hb : ME X c fb b) (hm : behindInMarks .Is b = false) : ME X c (eCmp isN fa fb) (.Compare a [.Is] [b] pos) := me_cmp op_isN isN_ok ha hb hm
theorem mt_isN (ha : ME X c fa a) (hb : ME X c fb b) (hm : behindInMarks .Is b = false) : MT X c (kCmp isN fa fb) (.Compare a [.Is] [b] pos) := mt_cmp op_isN isN_ok ha hb hm
theorem me_isnt (ha : ME X c fa a) (hb : ME X c fb b) (hm : behindInMarks .IsNot b = false) : ME X c (eCmp isntN fa fb) (.Compare a [.IsNot] [b] pos) := me_cmp op_notN isntN_ok ha hb hm
theorem mt_isnt (ha : ME X c fa a) (hb : ME X c fb b) (hm : behindInMarks .IsNot b = false) : MT X c (kCmp isntN fa fb) (.Compare a [.IsNot] [b] pos) := mt_cmp op_notN isntN_ok ha hb hm
/-- x is True, x is not True -/
def isB : D → D → Option Bool
  | .bool a, .bool b => some (decide (a = b))
  | _, _ => none
theorem mt_isntB (ha : ME X c fa a) (hb : ME X c fb b) (hm : behindInMarks .IsNot b = false) : MT X c (kCmp (fun a b => (isB a b).map not) fa fb) (.Compare a [.IsNot] [b] pos) := mt_cmp op_isnot_bl (fun Y H Q x y a b k e ra rb q g => by
  simp only [Option.map_eq_some_iff] at q
  obtain ⟨k', q, rfl⟩ := q
  unfold isB at q
  split at q
  · cases q
    exact ⟨_, _, ra.bool_inv, rb.bool_inv, g⟩
  · cases q) ha hb hm
theorem mt_lt (ha : ME X c fa a) (hb : ME X c fb b) (hm : behindInMarks .Lt b = false) : MT X c (kCmp ltI fa fb) (.Compare a [.Lt] [b] pos) := mt_cmp op_lt ltI_ok ha hb hm
theorem mt_le (ha : ME X c fa a) (hb : ME X c fb b) (hm : behindInMarks .LtE b = false) : MT X c (kCmp leI fa fb) (.Compare a [.LtE] [b] pos) := mt_cmp op_le leI_ok ha hb hm
theorem mt_gt (ha : ME X c fa a) (hb : ME X c fb b) (hm : behindInMarks .Gt b = false) : MT X c (kCmp gtI fa fb) (.Compare a [.Gt] [b] pos) := mt_cmp op_gt gtI_ok ha hb hm
theorem mt_ge (ha : ME X c fa a) (hb : ME X c fb b) (hm : behindInMarks .GtE b = false) : MT X c (kCmp geI fa fb) (.Compare a [.GtE] [b] pos) := mt_cmp op_ge geI_ok ha hb hm
theorem me_lt (ha : ME X c fa a) (hb : ME X c fb b) (hm : behindInMarks .Lt b = false) : ME X c (eCmp ltI fa fb) (.Compare a [.Lt] [b] pos) := me_cmp op_lt ltI_ok ha hb hm
theorem me_le (ha : ME X c fa a) (hb : ME X c fb b) (hm : behindInMarks .LtE b = false) : ME X c (eCmp leI fa fb) (.Compare a [.LtE] [b] pos) := me_cmp op_le leI_ok ha hb hm
theorem me_gt (ha : ME X c fa a) (hb : ME X c fb b) (hm : behindInMarks .Gt b = false) : ME X c (eCmp gtI fa fb) (.Compare a [.Gt] [b] pos) := me_cmp op_gt gtI_ok ha hb hm
theorem me_ge (ha : ME X c fa a) (hb : ME X c fb b) (hm : behindInMarks .GtE b = false) : ME X c (eCmp geI fa fb) (.Compare a [.GtE] [b] pos) := me_cmp op_ge geI_ok ha hb hm
theorem me_chLL {fz : EF} {z : Expr} (ha : ME X c fa a) (hb : ME X c fb b) (hz : ME X c fz z) (hm : lastMarks [.LtE, .LtE] [b, z] = false := by with_unfolding_all rfl) : ME X c (eChn leI leI fa fb fz) (.Compare a [.LtE, .LtE] [b, z] pos) := me_chain op_le op_le leI_ok leI_ok ha hb hz hm
theorem mt_chLL {fz : EF} {z : Expr} (ha : ME X c fa a) (hb : ME X c fb b) (hz : ME X c fz z) (hm : lastMarks [.LtE, .LtE] [b, z] = false := by with_unfolding_all rfl) : MT X c (kChn leI leI fa fb fz) (.Compare a [.LtE, .LtE] [b, z] pos) := mt_chain op_le op_le leI_ok leI_ok ha hb hz hm

/-! ### subscripts, slices -/
def ixL : D → D → Option OD
  | .list xs, .int i => (atI xs i).map .fz
  | _, _ => none
def ixT : D → D → Option OD
  | .tuple xs, .int i => (atI xs i).map .fz
  | _, _ => none
theorem atI_len {α β : Type} {xs : List α} {ys : List β} {i : Int} {y : β} (hl : xs.length = ys.length) (h : atI ys i = some y) : ∃ (j : Nat) (x : α), xs[j]? = some x ∧ ys[j]? = some y ∧ atI xs i = some x := by
  unfold atI at h ⊢
  rw [hl]
  cases e : ixN ys.length i with
  | none => rw [e] at h; cases h
  | some j =>
    rw [e] at h
    have hy : ys[j]? = some y := h
    have hj := lt_of_get hy
    exact ⟨j, xs[j]'(by omega), List.getElem?_eq_getElem _, hy, List.getElem?_eq_getElem _⟩
theorem DrAll.at {Y : Hp} {vs : List V} {ds : List D} {i : Int} {d : D} (r : DrAll K Y vs ds) (h : atI ds i = some d) : ∃ v, atI vs i = some v ∧ Dr K Y v d := by
  obtain ⟨j, v, h1, h2, h3⟩ := atI_len r.length h
  obtain ⟨v', h4, h5⟩ := r.get h2
  rw [h1] at h4
  cases h4
  exact ⟨v, h3, h5⟩
def ixD (a b : D) : Option OD := (ixL a b).or (ixT a b)
theorem me_ix (hXK : X.K = c.K) (ha : ME X c fa a) (hb : ME X c fb b) (hs : PlainIx b) : ME X c (eFrz (oOp2 ixD fa fb)) (.Subscript a b pos) := by
  refine me_frz ⟨PE.imp (pe_ix (IxR.or ix_list ix_tup) ha.run hb.run hs) fun σ H Q q => op2_core (OpL.or (r := rIxL X.K) (r' := rIxT X.K) ?_ ?_) q⟩
  · intro Y H Q x y a b o e ra rb q g
    unfold ixL at q
    split at q
    · simp only [Option.map_eq_some_iff] at q
      obtain ⟨d, q, rfl⟩ := q
      obtain ⟨p, us, rfl, h1, d1⟩ := ra.list_inv
      rw [rb.int_inv]
      obtain ⟨v, hv, r⟩ := d1.at q
      exact ⟨p, us, _, v, rfl, rfl, .inl (.inl (e _ _ h1)), hv, g _ _ _ (.old r)⟩
    · cases q
  · intro Y H Q x y a b o e ra rb q g
    unfold ixT at q
    split at q
    · simp only [Option.map_eq_some_iff] at q
      obtain ⟨d, q, rfl⟩ := q
      obtain ⟨p, us, rfl, h1, d1⟩ := ra.tuple_inv
      rw [rb.int_inv]
      obtain ⟨v, hv, r⟩ := d1.at q
      exact ⟨p, us, _, v, rfl, rfl, hXK ▸ Same.sqt e h1, hv, g _ _ _ (.old r)⟩
    · cases q
end
end MI

set_option Elab.async false
set_option linter.all false
set_option autoImplicit false
set_option maxRecDepth 100000
/-! MI: list(reversed(a list)). -/
namespace MI
open PySem PySem.Spec L2 PySem.AutoSeq1
section
variable {prog : Program} {w : World} {A : Around} {E : Value → Shared → Prop} {s : Shared}
theorem list_of_rev {it l : Addr} {items : Array Value} {Q : Value → Shared → Prop} (hh : A.handled = none) (hit : s.heap.IsRevIter it l ((items.size : Int) - 1)) (hl : s.heap.IsList l items) (hne : l ≠ it) (hn : items.size ≤ sizeLine)
    (hQ : ∀ (h' : Heap) (tk : Nat) (acc : Array Value) (c' : Nat), (∀ b o, b ≠ it → s.heap.get? b = some o → h'.get? b = some o) → h'.get? s.heap.objs.size = some { cls := .type "list", dict := none, data := .seq acc c', slots := #[] } →
      ItemsOf (fun i v => items[items.size - 1 - i]? = some v) acc items.size → Q (.ref s.heap.objs.size) { s with heap := h', toks := tk }) : wpAny (model prog w) A (call (.type "list") [.ref it]) Q E s := by
  obtain ⟨oi, hoi, _⟩ := id hit
  obtain ⟨ol, hol, _⟩ := id hl
  have ni : s.heap.objs.size ≠ it := Nat.ne_of_gt (Heap.lt_size hoi)
  have nl : s.heap.objs.size ≠ l := Nat.ne_of_gt (Heap.lt_size hol)
  have nf : s.heap.objs.size ∉ [it, l] := by
    intro z
    rcases List.mem_cons.mp z with z | z
    · exact ni z
    · exact nl (List.mem_singleton.mp z)
  refine callType_codes (Q₁ := fun o s₁ => o = .ref s.heap.objs.size ∧ s₁ = { s with heap := s.heap.push { cls := .type "list", data := .seq #[] } }) F.called_list (F.typeCall_list_1 _) F.entry_list_init (code_list_new _ ⟨rfl, rfl⟩) ?_
  rintro o s₁ ⟨rfl, rfl⟩
  have at0 : (s.heap.push { cls := .type "list", data := .seq #[] }).get? s.heap.objs.size = some { cls := .type "list", data := .seq #[] } := Heap.get?_push_size _ rfl
  refine ⟨⟨_, at0, rfl⟩, F.args_list_init_2 _ _, ?_⟩
  let h1 := s.heap.push { cls := .type "list", data := .seq #[] }
  let h2 := h1.update s.heap.objs.size (Obj.mapSeq fun _ => (#[] : Array Value))
  show wpAny _ _ (Builtin.List.listItems (.ref s.heap.objs.size) >>= fun old => (Builtin.List.listUpdate (.ref s.heap.objs.size) fun _ => #[]) >>= fun _ => letGo old.toList.reverse >>= fun _ => Builtin.List.listExtendWith (.ref s.heap.objs.size) (.ref it) .none) _ _ _
  refine wpAny_bind ?_
  unfold Builtin.List.listItems
  refine wpAny_bind (wpAny_seqItems at0 rfl (wpAny_pure ?_))
  show wpAny _ _ ((updateSeq s.heap.objs.size fun _ => #[]) >>= fun _ => letGo ([] : List Value) >>= fun _ => Builtin.List.listExtendWith (.ref s.heap.objs.size) (.ref it) .none) _ _ _
  refine wpAny_bind (wpAny_updateSeq at0 rfl (wpAny_bind (wpAny_letGo ?_)))
  have at2 := Heap.get?_update_self (Obj.mapSeq fun _ => (#[] : Array Value)) at0 rfl
  have far : ∀ b o, s.heap.get? b = some o → h2.get? b = some o := fun b o e => (Heap.get?_update_other _ _ (Nat.ne_of_gt (Heap.lt_size e))).trans (Heap.get?_push_of_some _ e)
  have it2 : h2.IsRevIter it l ((items.size : Int) - 1) := hit.at fun o e => far _ _ e
  have l2 : h2.IsList l items := by
    obtain ⟨o, e, r⟩ := hl
    exact ⟨o, far _ _ e, r⟩
  have ty : ({ s with heap := h2 } : Shared).TypeIs (.ref it) "list_reverseiterator" := Heap.IsRevIter.typeIs (s := { s with heap := h2 }) it2
  have ns : Builtin.List.listSameRef (.ref s.heap.objs.size) (.ref it) = false := by simp [Builtin.List.listSameRef, ni]
  have W := (Walks.listRev (prog := prog) (w := w) (A := A.in1.in1) hh it l hne items).toS
  unfold Builtin.List.listExtendWith
  refine wpAny_bind (wpAny_typeOf ty ?_)
  rw [if_neg (by rw [ns]; decide)]
  refine wpAny_bind (wpAny_pyIter_revIter (s := { s with heap := h2 }) it2 (wpAny_bind (wpAny_holding ?_)))
  unfold Builtin.List.listLengthHint
  refine wpAny_bind (wpAny_specialOf ty RT.nolen_lri ?_)
  show wpAny _ _ (specialOf (Value.ref it) (Str.ofString "__length_hint__") >>= _) _ _ _
  refine wpAny_bind (wpAny_specialOf ty RT.hint_lri ?_)
  generalize hq : ("list_reverseiterator.__length_hint__" : String) = nm
  wp_delta
  rw [show splitId nm = some ("list_reverseiterator", "__length_hint__") by subst hq; decide +kernel]
  subst hq
  refine wpAny_bind (wpAny_isInstance (b := true) ty (by rw [isSubtype_type]; kernel_rfl) (wpAny_pure ?_))
  rw [if_neg (by decide)]
  have e0 : ((items.size : Nat) : Int) - 1 - ((0 : Nat) : Int) = (items.size : Int) - 1 := by omega
  refine wpAny_pure ⟨plainId_quiet F.plain_extend_loop _, ?_⟩
  refine codeAny_extend_loopS W hn _ nf _ items.size 0 _ _ _ rfl (Nat.zero_le _) ⟨Nat.zero_le _, by rw [e0]; exact it2, l2⟩ at2 (ItemsOf.nil _) ?_
  intro s' acc' c' hm hS' hacc
  refine ⟨rfl, ?_⟩
  rw [Moved.eq_with hm]
  refine hQ s'.heap s'.toks acc' c' (fun b o hb e => hm.heap b o (fun z => ?_) (far b o e)) hS' hacc
  rcases List.mem_cons.mp z with z | z
  · exact absurd (Heap.lt_size e) (by rw [z]; exact Nat.lt_irrefl _)
  · exact hb (List.mem_singleton.mp z)
end
end MI

set_option Elab.async false
set_option linter.all false
set_option autoImplicit false
set_option maxRecDepth 100000
/-! MI: slices, built-ins, methods, items stored. -/
namespace MI
open PySem PySem.Spec L2
section
variable {X : Cx} {c : Ct} {K : PySem.W.Frag} {ξ : Fx} {Y H : Hp} {σ : St} {s : S} {tv : List V} {ts : List OD}
variable {fa fb : EF} {a b : Expr} {p pos : Pos}

/-! ### slices -/
def cutD (xs : List D) (lo hi : Option Int) : List D := (xs.drop (HT.sIx xs.length 0 lo)).take (HT.sIx xs.length xs.length hi - HT.sIx xs.length 0 lo)
theorem DrAll.cutV {vs : List V} {ds : List D} (h : DrAll K Y vs ds) (lo hi : Option Int) : DrAll K Y (L2.cutV vs lo hi) (cutD ds lo hi) := by
  unfold L2.cutV cutD
  rw [h.length]
  exact (h.drop _).take _
/-- a part of a slice -/
abbrev PF := S → Res (Option Int)
def pNo : PF := fun s => .ok none s
def pSome (f : EF) : PF := fun s => (f s).bind fun d s => match d with
  | .int i => .ok (some i) s
  | _ => .bad
def tP (c : Ct) (f : PF) : TO := fun σ H Q => ∃ ξ Y s tv ts, ξ.K = c.K ∧ FS ξ Y H σ s tv ts ∧
  out c ξ Y σ tv ts (fun o s' => ∀ Y' H', Same Y Y' → FS ξ Y' H' σ s' tv ts → Q o H') (f s)
structure MP (X : Cx) (c : Ct) (f : PF) (e : Option Expr) : Prop where
  run : PO X e (tP c f)
theorem PO.imp {X : Cx} {e : Option Expr} {t t' : TO} (h : PO X e t) (i : ∀ σ H Q, t' σ H Q → t σ H Q) : PO X e t' := ⟨fun pins s σ H Q I q => h.run pins s σ H Q I (i σ H Q q)⟩
theorem mp_no : MP X c pNo none := by
  refine ⟨PO.imp po_none fun σ H Q q => ?_⟩
  obtain ⟨ξ, Y, s, tv, ts, hK, F, q⟩ := q
  exact q Y H (Same.refl _) F
theorem mp_some {f : EF} {e : Expr} (h : ME X c f e) : MP X c (pSome f) (some e) := by
  refine ⟨PO.imp (po_some h.run) fun σ H Q q => ?_⟩
  obtain ⟨ξ, Y, s, tv, ts, hK, F, q⟩ := q
  refine tE_seq hK F q fun d s1 Y1 H1 v e1 F1 r1 q1 => ?_
  cases d with
  | int i => exact ⟨i, r1.int_inv, q1 Y1 H1 e1 F1⟩
  | none => exact q1.elim
  | bool _ => exact q1.elim
  | str _ => exact q1.elim
  | list _ => exact q1.elim
  | tuple _ => exact q1.elim
  | dict _ => exact q1.elim
theorem tP_seq {β : Type} {fa : PF} {k : Option Int → S → Res β} {G : β → S → Prop} {R : Option Int → Hp → Prop} (hK : ξ.K = c.K) (F : FS ξ Y H σ s tv ts) (h : out c ξ Y σ tv ts G ((fa s).bind k))
    (hR : ∀ o s1 Y1 H1, Same Y Y1 → FS ξ Y1 H1 σ s1 tv ts → out c ξ Y σ tv ts G (k o s1) → R o H1) : tP c fa σ H R := by
  refine ⟨ξ, Y, s, tv, ts, hK, F, ?_⟩
  cases e : fa s with
  | ok d s1 => rw [e] at h; exact fun Y1 H1 e1 F1 => hR d s1 Y1 H1 e1 F1 h
  | ex x s1 => rw [e] at h; exact h
  | bad => rw [e] at h; exact h
def sliceD : D → Option Int → Option Int → Option OD
  | .list xs, lo, hi => some (.ol (cutD xs lo hi))
  | .tuple xs, lo, hi => some (.fz (.tuple (cutD xs lo hi)))
  | .dict [(.none, .list xs)], lo, hi => some (.ol (cutD xs lo hi))
  | _, _, _ => none
def oSlice (f : EF) (l h : PF) : OF := fun s => (f s).bind fun d s => (l s).bind fun lo s => (h s).bind fun hi s => ofO (sliceD d lo hi) s
theorem cut_whole {xs : List V} {ds : List D} (r : DrAll K Y xs ds) {lo hi : Option Int} (h : HT.sIx xs.length 0 lo = 0 ∧ HT.sIx xs.length xs.length hi = xs.length) : cutD ds lo hi = ds := by
  unfold cutD
  rw [← r.length, h.1, h.2, r.length]
  simp
theorem mo_slice {f : EF} {l h : PF} {e : Expr} {lo hi : Option Expr} {p2 : Pos} (hXK : X.K = c.K) (he : ME X c f e) (hl : MP X c l lo) (hh : MP X c h hi) : MO X c (oSlice f l h) (.Subscript e (.Slice lo hi none p2) pos) := by
  refine ⟨PE.imp (pe_slice (SlR.or sl_list sl_tupA) he.run hl.run hh.run) fun σ H Q q => ?_⟩
  obtain ⟨ξ, Y, s, tv, ts, hK, F, q⟩ := q
  refine tE_seq hK F q fun d s1 Y1 H1 v e1 F1 r1 q1 => ?_
  refine tP_seq hK F1 (out.mono c q1 e1 (fun _ _ z => z)) fun o s2 Y2 H2 e2 F2 q2 => ?_
  refine tP_seq hK F2 (out.mono c q2 e2 (fun _ _ z => z)) fun u s3 Y3 H3 e3 F3 q3 => ?_
  have r3 := (r1.mono e2).mono e3
  have lst : ∀ {p : Addr} {xs : List V} {ds : List D}, v = .ref p → SqL X.K H3 p xs → DrAll c.K Y3 xs ds → out c ξ Y2 σ tv ts (fun o s' => ∀ Y' H' v, Same Y Y' → FS ξ Y' H' σ s' (tv ++ [v]) (ts ++ [o]) → Q v H') (.ok (.ol (cutD ds o u)) s3) →
      rSlL X.K v o u H3 Q ∨ rSlA X.K v o u H3 Q := fun {p xs ds} ev hq hd q3 => by
    refine .inl ⟨p, xs, ev, hq, fun n hn => ?_⟩
    obtain ⟨e4, F4⟩ := (Gives.lst hn (hd.cutV o u)).fs hK F3
    exact q3 _ _ _ (((e1.trans e2).trans e3).trans e4) F4
  unfold sliceD at q3
  split at q3
  · obtain ⟨p, xs, ev, hq, hd⟩ := r3.list_inv
    exact lst ev (.inl (.inl (F3.sub _ _ hq))) hd q3
  · obtain ⟨p, xs, ev, hq, hd⟩ := r3.tuple_inv
    refine .inr ⟨p, xs, ev, hXK ▸ Same.sqt F3.sub hq, fun hw => ?_, fun hw n hn => ?_⟩
    · rw [cut_whole hd hw] at q3
      obtain ⟨e4, F4⟩ := (Gives.old r3).fs hK F3
      subst ev
      exact q3 _ _ _ (((e1.trans e2).trans e3).trans e4) F4
    · obtain ⟨e4, F4⟩ := (Gives.tup hn (hd.cutV o u)).fs hK F3
      exact q3 _ _ _ (((e1.trans e2).trans e3).trans e4) F4
  · obtain ⟨p, xs, ev, hq, hd⟩ := Dr.lock_inv r3
    exact lst ev (hXK ▸ F3.sub.seq hq) hd q3
  · exact q3.elim

/-! ### built-ins by values -/
def CallL (K : PySem.W.Frag) (r : List V → Hp → VK → Prop) (F : List D → Option OD) : Prop := ∀ (Y H : Hp) (Q : VK) (xs : List V) (ds : List D) (o : OD), Same Y H → DrAll K Y xs ds → F ds = some o → (∀ v Y' H', Gives K Y H v Y' H' o → Q v H') → r xs H Q
def oBlt (F : List D → Option OD) (g : AF) : OF := fun s => (g s).bind fun ds s => ofO (F ds) s
theorem blt_core {r : List V → Hp → VK → Prop} {F : List D → Option OD} (hF : CallL c.K r F) {g : AF} {σ : St} {H : Hp} {Q : VK} (q : tO c (oBlt F g) σ H Q) : tCB r (tA c g) σ H Q := by
  obtain ⟨ξ, Y, s, tv, ts, hK, Fr, q⟩ := q
  refine tA_seq hK Fr q fun ds s1 Y1 H1 vs e1 F1 r1 q1 => ?_
  unfold ofO at q1
  split at q1
  · rename_i o eo
    refine hF Y1 H1 Q vs ds o F1.sub r1 eo fun v Y' H' g => ?_
    obtain ⟨e3, F3⟩ := g.fs hK F1
    exact q1 Y' H' v (e1.trans e3) F3
  · exact q1.elim
section
variable {x : Str} {e : Expr} {es : List Expr} {g : AF} {id T : String} {r : List V → Hp → VK → Prop} {F : List D → Option OD}
theorem mo_blt (hc : CallR X (.builtin id) r) (hF : CallL c.K r F) (hg : Gl X x) (hm : X.mg x = none) (hv : bootBuiltins x = some (.builtin id)) (ha : MA X c g (e :: es)) (hn : x ≠ "__name__" := by decide) (hdb : (x == ("__debug__" : Str)) = false := by decide)
    (he : starEach (e :: es) X.env = (false, eval e X.env) :: starEach es X.env := by rfl) (hpl : (backTo pos (starEach es X.env)).any (·.1) = false := by rfl) : MO X c (oBlt F g) (.Call (.Name x p) (e :: es) [] pos) :=
  ⟨PE.imp (pe_callB hc hg hm hv ha.run hn hdb he hpl) fun _ _ _ q => blt_core hF q⟩
theorem mo_bty (hc : CallR X (.type T) r) (hF : CallL c.K r F) (hg : Gl X x) (hm : X.mg x = none) (hv : bootBuiltins x = some (.type T)) (ha : MA X c g (e :: es)) (hn : x ≠ "__name__" := by decide) (hdb : (x == ("__debug__" : Str)) = false := by decide)
    (he : starEach (e :: es) X.env = (false, eval e X.env) :: starEach es X.env := by rfl) (hpl : (backTo pos (starEach es X.env)).any (·.1) = false := by rfl) : MO X c (oBlt F g) (.Call (.Name x p) (e :: es) [] pos) :=
  ⟨PE.imp (pe_callTy hc hg hm hv ha.run hn hdb he hpl) fun _ _ _ q => blt_core hF q⟩
end
def one (F : D → Option OD) : List D → Option OD
  | [d] => F d
  | _ => none
theorem CallL.one {r : List V → Hp → VK → Prop} {F : D → Option OD} (h : ∀ (Y H : Hp) (Q : VK) (x : V) (d : D) (o : OD), Same Y H → Dr K Y x d → F d = some o → (∀ v Y' H', Gives K Y H v Y' H' o → Q v H') → r [x] H Q) : CallL K r (one F) := fun Y H Q xs ds o e ra q g => by
  cases ra with
  | nil => cases q
  | cons r1 rr =>
    cases rr with
    | nil => exact h Y H Q _ _ o e r1 q g
    | cons _ _ => cases q
def lenD : D → Option OD
  | .list xs => some (.fz (.int xs.length))
  | .tuple xs => some (.fz (.int xs.length))
  | .str x => if x.length ≤ sizeLine then some (.fz (.int x.length)) else none
  | _ => none
theorem lenD_ok (hXK : X.K = c.K) : CallL c.K (fun xs H Q => ∃ x n, xs = [x] ∧ LenV X.K x H n ∧ Q (.int n) H) (one lenD) := CallL.one fun Y H Q x d o e r q g => by
  unfold lenD at q
  split at q
  · cases q
    obtain ⟨p, us, rfl, h1, d1⟩ := r.list_inv
    exact ⟨_, us.length, rfl, .inl ⟨us, .inl (.inl (e _ _ h1)), rfl⟩, by rw [d1.length]; exact g _ _ _ (.old (.int _))⟩
  · cases q
    obtain ⟨p, us, rfl, h1, d1⟩ := r.tuple_inv
    exact ⟨_, us.length, rfl, .inr ⟨us, hXK ▸ Same.sqt e h1, rfl⟩, by rw [d1.length]; exact g _ _ _ (.old (.int _))⟩
  · split at q
    · rename_i hl
      cases q
      rw [r.str_inv]
      exact ⟨_, _, rfl, ⟨hl, rfl⟩, g _ _ _ (.old (.int _))⟩
    · cases q
  · cases q
theorem mo_len (hXK : X.K = c.K) (hg : Gl X "len") (hm : X.mg "len" = none) (ha : ME X c fa a) (he : starEach [a] X.env = (false, eval a X.env) :: starEach [] X.env := by rfl) (hpl : (backTo pos (starEach [] X.env)).any (·.1) = false := by rfl) :
    MO X c (oBlt (one lenD) (aCons fa aNil)) (.Call (.Name "len" p) [a] [] pos) := mo_blt call_len (lenD_ok hXK) hg hm PySem.boot_len (ma_cons ha ma_nil he) (by decide) (by decide) he hpl
def intB : D → Option OD
  | .int i => some (.fz (.int i))
  | .bool b => some (.fz (.int (if b = true then 1 else 0)))
  | _ => none
theorem mo_int (hg : Gl X "int") (hm : X.mg "int" = none) (ha : ME X c fa a) (he : starEach [a] X.env = (false, eval a X.env) :: starEach [] X.env := by rfl) (hpl : (backTo pos (starEach [] X.env)).any (·.1) = false := by rfl) :
    MO X c (oBlt (one intB) (aCons fa aNil)) (.Call (.Name "int" p) [a] [] pos) := mo_bty call_int1 (CallL.one fun Y H Q x d o e r q g => by
  unfold intB at q
  split at q
  · cases q
    rw [r.int_inv]
    exact .inl ⟨_, rfl, g _ _ _ (.old (.int _))⟩
  · cases q
    rw [r.bool_inv]
    exact .inr ⟨_, rfl, g _ _ _ (.old (.int _))⟩
  · cases q) hg hm (by decide +kernel) (ma_cons ha ma_nil he) (by decide) (by decide) he hpl
def absD : D → Option OD
  | .int i => some (.fz (.int (if i < 0 then -i else i)))
  | _ => none
theorem mo_abs (hg : Gl X "abs") (hm : X.mg "abs" = none) (ha : ME X c fa a) (he : starEach [a] X.env = (false, eval a X.env) :: starEach [] X.env := by rfl) (hpl : (backTo pos (starEach [] X.env)).any (·.1) = false := by rfl) :
    MO X c (oBlt (one absD) (aCons fa aNil)) (.Call (.Name "abs" p) [a] [] pos) := mo_blt call_abs (CallL.one fun Y H Q x d o e r q g => by
  unfold absD at q
  split at q
  · cases q
    rw [r.int_inv]
    exact ⟨_, rfl, g _ _ _ (.old (.int _))⟩
  · cases q) hg hm (by decide +kernel) (ma_cons ha ma_nil he) (by decide) (by decide) he hpl
def listD : D → Option OD
  | .list xs => some (.ol xs)
  | .tuple xs => some (.ol xs)
  | _ => none
theorem mo_list (hXK : X.K = c.K) (hg : Gl X "list") (hm : X.mg "list" = none) (ha : ME X c fa a) (he : starEach [a] X.env = (false, eval a X.env) :: starEach [] X.env := by rfl) (hpl : (backTo pos (starEach [] X.env)).any (·.1) = false := by rfl) :
    MO X c (oBlt (one listD) (aCons fa aNil)) (.Call (.Name "list" p) [a] [] pos) := mo_bty call_list_of (CallL.one fun Y H Q x d o e r q g => by
  unfold listD at q
  split at q
  · cases q
    obtain ⟨p, us, rfl, h1, d1⟩ := r.list_inv
    exact ⟨p, us, rfl, .inl (.inl (.inl (e _ _ h1))), fun n hn => g _ _ _ (.lst hn d1)⟩
  · cases q
    obtain ⟨p, us, rfl, h1, d1⟩ := r.tuple_inv
    exact ⟨p, us, rfl, .inr (hXK ▸ Same.sqt e h1), fun n hn => g _ _ _ (.lst hn d1)⟩
  · cases q) hg hm (by decide +kernel) (ma_cons ha ma_nil he) (by decide) (by decide) he hpl
def tupleD : D → Option OD
  | .list xs => some (.fz (.tuple xs))
  | .tuple xs => some (.fz (.tuple xs))
  | _ => none
theorem mo_tuple (hXK : X.K = c.K) (hg : Gl X "tuple") (hm : X.mg "tuple" = none) (ha : ME X c fa a) (he : starEach [a] X.env = (false, eval a X.env) :: starEach [] X.env := by rfl) (hpl : (backTo pos (starEach [] X.env)).any (·.1) = false := by rfl) :
    MO X c (oBlt (one tupleD) (aCons fa aNil)) (.Call (.Name "tuple" p) [a] [] pos) := mo_bty call_tuple_of (CallL.one fun Y H Q x d o e r q g => by
  unfold tupleD at q
  split at q
  · cases q
    obtain ⟨p, us, rfl, h1, d1⟩ := r.list_inv
    exact ⟨p, us, rfl, .inl ⟨.inl (.inl (e _ _ h1)), fun n hn => g _ _ _ (.tup hn d1)⟩⟩
  · cases q
    obtain ⟨p, us, rfl, h1, d1⟩ := r.tuple_inv
    exact ⟨p, us, rfl, .inr ⟨hXK ▸ Same.sqt e h1, g _ _ _ (.old r)⟩⟩
  · cases q) hg hm (by decide +kernel) (ma_cons ha ma_nil he) (by decide) (by decide) he hpl
/-! lists of ints, of bools -/
def asInts : List D → Option (List Int)
  | [] => some []
  | .int i :: r => (asInts r).map fun ns => i :: ns
  | _ => none
def asBools : List D → Option (List Bool)
  | [] => some []
  | .bool b :: r => (asBools r).map fun ns => b :: ns
  | _ => none
theorem asInts_map : ∀ ns : List Int, asInts (ns.map PyData.int) = some ns
  | [] => rfl
  | n :: ns => by rw [List.map_cons, asInts, asInts_map ns]; rfl
theorem asBools_map : ∀ ns : List Bool, asBools (ns.map PyData.bool) = some ns
  | [] => rfl
  | n :: ns => by rw [List.map_cons, asBools, asBools_map ns]; rfl
theorem asInts_vals : ∀ {vs : List V} {ds : List D} {ns : List Int}, DrAll K Y vs ds → asInts ds = some ns → vs = ns.map V.int
  | _, _, _, .nil, h => by cases h; rfl
  | _, _, _, .cons (d := d) a t, h => by
    cases d with
    | int i =>
      simp only [asInts, Option.map_eq_some_iff] at h
      obtain ⟨ms, h, rfl⟩ := h
      rw [a.int_inv, asInts_vals t h]; rfl
    | none => cases h
    | bool _ => cases h
    | str _ => cases h
    | list _ => cases h
    | tuple _ => cases h
    | dict _ => cases h
theorem asBools_vals : ∀ {vs : List V} {ds : List D} {ns : List Bool}, DrAll K Y vs ds → asBools ds = some ns → vs = ns.map V.bl
  | _, _, _, .nil, h => by cases h; rfl
  | _, _, _, .cons (d := d) a t, h => by
    cases d with
    | bool i =>
      simp only [asBools, Option.map_eq_some_iff] at h
      obtain ⟨ms, h, rfl⟩ := h
      rw [a.bool_inv, asBools_vals t h]; rfl
    | none => cases h
    | int _ => cases h
    | str _ => cases h
    | list _ => cases h
    | tuple _ => cases h
    | dict _ => cases h
def sumD : D → Option OD
  | .list xs => (asInts xs).map fun ns => .fz (.int ns.sum)
  | _ => none
theorem mo_sum (hc : X.calm = true) (hg : Gl X "sum") (hm : X.mg "sum" = none) (ha : ME X c fa a) (he : starEach [a] X.env = (false, eval a X.env) :: starEach [] X.env := by rfl) (hpl : (backTo pos (starEach [] X.env)).any (·.1) = false := by rfl) :
    MO X c (oBlt (one sumD) (aCons fa aNil)) (.Call (.Name "sum" p) [a] [] pos) := mo_blt (cr_sum hc) (CallL.one fun Y H Q x d o e r q g => by
  unfold sumD at q
  split at q
  · simp only [Option.map_eq_some_iff] at q
    obtain ⟨ns, q, rfl⟩ := q
    obtain ⟨p, us, rfl, h1, d1⟩ := r.list_inv
    have h2 := e _ _ h1
    rw [asInts_vals d1 q] at h2
    exact ⟨p, ns, rfl, .inl (.inl h2), g _ _ _ (.old (.int _))⟩
  · cases q) hg hm (by decide +kernel) (ma_cons ha ma_nil he) (by decide) (by decide) he hpl
/-- the greatest, the least of some ints -/
def maxI : Int → List Int → Int
  | m, [] => m
  | m, n :: ns => maxI (if m < n then n else m) ns
def minI : Int → List Int → Int
  | m, [] => m
  | m, n :: ns => minI (if n < m then n else m) ns
theorem maxI_ge : ∀ (ns : List Int) (m : Int), m ≤ maxI m ns ∧ ∀ n ∈ ns, n ≤ maxI m ns
  | [], m => ⟨Int.le_refl _, fun n h => by simp at h⟩
  | n :: ns, m => by
    have ih := maxI_ge ns (if m < n then n else m)
    have up : m ≤ (if m < n then n else m) ∧ n ≤ (if m < n then n else m) := by split <;> omega
    rw [maxI]
    refine ⟨Int.le_trans up.1 ih.1, fun k hk => ?_⟩
    rcases List.mem_cons.mp hk with rfl | hk
    · exact Int.le_trans up.2 ih.1
    · exact ih.2 k hk
theorem maxI_mem : ∀ (ns : List Int) (m : Int), maxI m ns = m ∨ maxI m ns ∈ ns
  | [], m => .inl rfl
  | n :: ns, m => by
    rw [maxI]
    rcases maxI_mem ns (if m < n then n else m) with h | h
    · rw [h]
      split
      · exact .inr (by simp)
      · exact .inl rfl
    · exact .inr (by simp [h])
theorem minI_le : ∀ (ns : List Int) (m : Int), minI m ns ≤ m ∧ ∀ n ∈ ns, minI m ns ≤ n
  | [], m => ⟨Int.le_refl _, fun n h => by simp at h⟩
  | n :: ns, m => by
    have ih := minI_le ns (if n < m then n else m)
    have up : (if n < m then n else m) ≤ m ∧ (if n < m then n else m) ≤ n := by split <;> omega
    rw [minI]
    refine ⟨Int.le_trans ih.1 up.1, fun k hk => ?_⟩
    rcases List.mem_cons.mp hk with rfl | hk
    · exact Int.le_trans ih.1 up.2
    · exact ih.2 k hk
theorem minI_mem : ∀ (ns : List Int) (m : Int), minI m ns = m ∨ minI m ns ∈ ns
  | [], m => .inl rfl
  | n :: ns, m => by
    rw [minI]
    rcases minI_mem ns (if n < m then n else m) with h | h
    · rw [h]
      split
      · exact .inr (by simp)
      · exact .inl rfl
    · exact .inr (by simp [h])
def extD (f : Int → List Int → Int) : D → Option OD
  | .list xs => match asInts xs with
    | some (n :: ns) => some (.fz (.int (f n ns)))
    | _ => none
  | _ => none
theorem mo_max (hc : X.calm = true) (hg : Gl X "max") (hm : X.mg "max" = none) (ha : ME X c fa a) (he : starEach [a] X.env = (false, eval a X.env) :: starEach [] X.env := by rfl) (hpl : (backTo pos (starEach [] X.env)).any (·.1) = false := by rfl) :
    MO X c (oBlt (one (extD maxI)) (aCons fa aNil)) (.Call (.Name "max" p) [a] [] pos) := mo_blt (cr_max hc) (CallL.one fun Y H Q x d o e r q g => by
  unfold extD at q
  split at q
  · rename_i xs
    split at q
    · rename_i n ns ei
      cases q
      obtain ⟨p, us, rfl, h1, d1⟩ := r.list_inv
      have h2 := e _ _ h1
      rw [asInts_vals d1 ei] at h2
      refine ⟨p, n :: ns, rfl, .inl (.inl h2), by simp, fun m hm hall => ?_⟩
      have e : m = maxI n ns := by
        have h3 := maxI_ge ns n
        have h4 : maxI n ns ≤ m := by
          rcases maxI_mem ns n with z | z
          · rw [z]; exact hall n (by simp)
          · exact hall _ (by simp [z])
        have h5 : m ≤ maxI n ns := by
          rcases List.mem_cons.mp hm with z | z
          · rw [z]; exact h3.1
          · exact h3.2 m z
        omega
      rw [e]
      exact g _ _ _ (.old (.int _))
    · cases q
  · cases q) hg hm (by decide +kernel) (ma_cons ha ma_nil he) (by decide) (by decide) he hpl
theorem mo_min (hc : X.calm = true) (hg : Gl X "min") (hm : X.mg "min" = none) (ha : ME X c fa a) (he : starEach [a] X.env = (false, eval a X.env) :: starEach [] X.env := by rfl) (hpl : (backTo pos (starEach [] X.env)).any (·.1) = false := by rfl) :
    MO X c (oBlt (one (extD minI)) (aCons fa aNil)) (.Call (.Name "min" p) [a] [] pos) := mo_blt (cr_min hc) (CallL.one fun Y H Q x d o e r q g => by
  unfold extD at q
  split at q
  · rename_i xs
    split at q
    · rename_i n ns ei
      cases q
      obtain ⟨p, us, rfl, h1, d1⟩ := r.list_inv
      have h2 := e _ _ h1
      rw [asInts_vals d1 ei] at h2
      refine ⟨p, n :: ns, rfl, .inl (.inl h2), by simp, fun m hm hall => ?_⟩
      have e : m = minI n ns := by
        have h3 := minI_le ns n
        have h4 : m ≤ minI n ns := by
          rcases minI_mem ns n with z | z
          · rw [z]; exact hall n (by simp)
          · exact hall _ (by simp [z])
        have h5 : minI n ns ≤ m := by
          rcases List.mem_cons.mp hm with z | z
          · rw [z]; exact h3.1
          · exact h3.2 m z
        omega
      rw [e]
      exact g _ _ _ (.old (.int _))
    · cases q
  · cases q) hg hm (by decide +kernel) (ma_cons ha ma_nil he) (by decide) (by decide) he hpl
def two (F : D → D → Option OD) : List D → Option OD
  | [d, e] => F d e
  | _ => none
theorem CallL.two {r : List V → Hp → VK → Prop} {F : D → D → Option OD} (h : ∀ (Y H : Hp) (Q : VK) (x y : V) (d d' : D) (o : OD), Same Y H → Dr K Y x d → Dr K Y y d' → F d d' = some o → (∀ v Y' H', Gives K Y H v Y' H' o → Q v H') → r [x, y] H Q) : CallL K r (two F) := fun Y H Q xs ds o e ra q g => by
  cases ra with
  | nil => cases q
  | cons r1 rr =>
    cases rr with
    | nil => cases q
    | cons r2 rr =>
      cases rr with
      | nil => exact h Y H Q _ _ _ _ o e r1 r2 q g
      | cons _ _ => cases q
def max2D : D → D → Option OD
  | .int i, .int j => some (.fz (.int (if j > i then j else i)))
  | _, _ => none
def min2D : D → D → Option OD
  | .int i, .int j => some (.fz (.int (if j < i then j else i)))
  | _, _ => none
theorem mo_max2 (hc : X.calm = true) (hg : Gl X "max") (hm : X.mg "max" = none) (ha : ME X c fa a) (hb : ME X c fb b) (he : starEach [a, b] X.env = (false, eval a X.env) :: starEach [b] X.env := by rfl) (he2 : starEach [b] X.env = (false, eval b X.env) :: starEach [] X.env := by rfl) (hpl : (backTo pos (starEach [b] X.env)).any (·.1) = false := by rfl) :
    MO X c (oBlt (two max2D) (aCons fa (aCons fb aNil))) (.Call (.Name "max" p) [a, b] [] pos) := mo_blt (call_max2 hc) (CallL.two fun Y H Q x y d d' o e r r' q g => by
  unfold max2D at q
  split at q
  · cases q
    rw [r.int_inv, r'.int_inv]
    exact ⟨_, _, rfl, g _ _ _ (.old (.int _))⟩
  · cases q) hg hm (by decide +kernel) (ma_cons ha (ma_cons hb ma_nil he2) he) (by decide) (by decide) he hpl
theorem mo_min2 (hc : X.calm = true) (hg : Gl X "min") (hm : X.mg "min" = none) (ha : ME X c fa a) (hb : ME X c fb b) (he : starEach [a, b] X.env = (false, eval a X.env) :: starEach [b] X.env := by rfl) (he2 : starEach [b] X.env = (false, eval b X.env) :: starEach [] X.env := by rfl) (hpl : (backTo pos (starEach [b] X.env)).any (·.1) = false := by rfl) :
    MO X c (oBlt (two min2D) (aCons fa (aCons fb aNil))) (.Call (.Name "min" p) [a, b] [] pos) := mo_blt (call_min2 hc) (CallL.two fun Y H Q x y d d' o e r r' q g => by
  unfold min2D at q
  split at q
  · cases q
    rw [r.int_inv, r'.int_inv]
    exact ⟨_, _, rfl, g _ _ _ (.old (.int _))⟩
  · cases q) hg hm (by decide +kernel) (ma_cons ha (ma_cons hb ma_nil he2) he) (by decide) (by decide) he hpl
def boolsD (f : List Bool → Bool) : D → Option OD
  | .list xs => (asBools xs).map fun bs => .fz (.bool (f bs))
  | _ => none
theorem mo_all (hc : X.calm = true) (hg : Gl X "all") (hm : X.mg "all" = none) (ha : ME X c fa a) (he : starEach [a] X.env = (false, eval a X.env) :: starEach [] X.env := by rfl) (hpl : (backTo pos (starEach [] X.env)).any (·.1) = false := by rfl) :
    MO X c (oBlt (one (boolsD fun bs => bs.all id)) (aCons fa aNil)) (.Call (.Name "all" p) [a] [] pos) := mo_blt (cr_all hc) (CallL.one fun Y H Q x d o e r q g => by
  unfold boolsD at q
  split at q
  · simp only [Option.map_eq_some_iff] at q
    obtain ⟨ns, q, rfl⟩ := q
    obtain ⟨p, us, rfl, h1, d1⟩ := r.list_inv
    have h2 := e _ _ h1
    rw [asBools_vals d1 q] at h2
    exact ⟨p, ns, rfl, .inl (.inl h2), g _ _ _ (.old (.bl _))⟩
  · cases q) hg hm (by decide +kernel) (ma_cons ha ma_nil he) (by decide) (by decide) he hpl
theorem mo_any (hc : X.calm = true) (hg : Gl X "any") (hm : X.mg "any" = none) (ha : ME X c fa a) (he : starEach [a] X.env = (false, eval a X.env) :: starEach [] X.env := by rfl) (hpl : (backTo pos (starEach [] X.env)).any (·.1) = false := by rfl) :
    MO X c (oBlt (one (boolsD fun bs => bs.any id)) (aCons fa aNil)) (.Call (.Name "any" p) [a] [] pos) := mo_blt (cr_any hc) (CallL.one fun Y H Q x d o e r q g => by
  unfold boolsD at q
  split at q
  · simp only [Option.map_eq_some_iff] at q
    obtain ⟨ns, q, rfl⟩ := q
    obtain ⟨p, us, rfl, h1, d1⟩ := r.list_inv
    have h2 := e _ _ h1
    rw [asBools_vals d1 q] at h2
    exact ⟨p, ns, rfl, .inl (.inl h2), g _ _ _ (.old (.bl _))⟩
  · cases q) hg hm (by decide +kernel) (ma_cons ha ma_nil he) (by decide) (by decide) he hpl

/-! ### repr -/
mutual
theorem plain_noDict : ∀ d : D, plain d = true → d.hasDict = false
  | .none, _ => by simp [PyData.hasDict]
  | .bool _, _ => by simp [PyData.hasDict]
  | .int _, _ => by simp [PyData.hasDict]
  | .str _, _ => by simp [PyData.hasDict]
  | .list ds, h => by
    simp only [PyData.hasDict]
    exact plainAll_noDict ds (by simpa [plain] using h)
  | .tuple ds, h => by
    simp only [PyData.hasDict]
    exact plainAll_noDict ds (by simpa [plain] using h)
  | .dict _, h => by simp [plain] at h
theorem plainAll_noDict : ∀ ds : List D, plainAll ds = true → PyData.hasDictAll ds = false
  | [], _ => by simp [PyData.hasDictAll]
  | d :: ds, h => by
    rw [plainAll, Bool.and_eq_true] at h
    simp only [PyData.hasDictAll]
    rw [plain_noDict d h.1, plainAll_noDict ds h.2]
    rfl
end
def ReprOk (d : D) : Prop := plain d = true ∧ PyData.showable d = true ∧ d.depth ≤ 60 ∧ d.shown.length ≤ sizeLine
instance (d : D) : Decidable (ReprOk d) := inferInstanceAs (Decidable (_ ∧ _ ∧ _ ∧ _))
theorem call_repr_data (hG : X.A.guards = some []) (hu : X.A.units + 64 < cLine) : CallR X (.builtin "repr") (fun xs H Q => ∃ x d, xs = [x] ∧ Dp X.K H x d ∧ ReprOk d ∧ Q (.str d.shown) H) := by
  intro pins s σ H xs us Q I r h
  obtain ⟨x, d, rfl, hd, ⟨hp, hs, hdp, hz⟩, q⟩ := h
  cases r with
  | cons rx rr =>
    cases rr
    obtain ⟨as, rd⟩ := Dp.reads I d x _ hd rx
    have obj : ∀ a, x = .ref a → wpAny (model X.prog X.w) X.A (call (.builtin "repr") [.ref a]) (EP X pins σ Q) X.xe s := by
      rintro a rfl
      cases rx
      exact repr_of_reads' rd hs (PyData.noDict_hsm (plain_noDict d hp)) hG (by omega) (fun _ _ e => e) (fun h' u tk hk => ⟨.str _, H, I.kept hk, ⟨_, rfl⟩, q⟩) hz
    cases hd with
    | non =>
      cases rx
      exact PySem.P.repr_of_none ⟨.str _, H, I.tok _, ⟨_, rfl⟩, q⟩
    | bl b =>
      cases rx
      exact PySem.P.repr_of_bool ⟨.str _, H, I.tok _, ⟨_, rfl⟩, by
        simp only [PyData.shown] at q
        cases b <;> exact q⟩
    | int i =>
      obtain ⟨t, rfl⟩ := rx
      exact PySem.P.repr_of_int (by simpa [PyData.showable] using hs) ⟨.str _, H, I.tok _, ⟨_, rfl⟩, q⟩
    | str y =>
      obtain ⟨t, rfl⟩ := rx
      exact PySem.P.repr_of_str ⟨.str _, H, I.tok _, ⟨_, rfl⟩, q⟩ hz
    | lst _ _ =>
      cases rx
      exact obj _ rfl
    | tup _ _ =>
      cases rx
      exact obj _ rfl
def reprD (d : D) : Option OD := if ReprOk d then some (.fz (.str d.shown)) else none
theorem mo_repr (hXK : X.K = c.K) (hG : X.A.guards = some []) (hu : X.A.units + 64 < cLine) (hg : Gl X "repr") (hm : X.mg "repr" = none) (ha : ME X c fa a) (he : starEach [a] X.env = (false, eval a X.env) :: starEach [] X.env := by rfl) (hpl : (backTo pos (starEach [] X.env)).any (·.1) = false := by rfl) :
    MO X c (oBlt (one reprD) (aCons fa aNil)) (.Call (.Name "repr" p) [a] [] pos) := mo_blt (call_repr_data hG hu) (CallL.one fun Y H Q x d o e r q g => by
  unfold reprD at q
  split at q
  · rename_i hk
    cases q
    exact ⟨x, d, rfl, hXK ▸ r.dp e hk.1, hk, g _ _ _ (.old (.str _))⟩
  · cases q) hg hm (by decide +kernel) (ma_cons ha ma_nil he) (by decide) (by decide) he hpl

/-! ### isinstance -/
def kindS : D → String
  | .none => "NoneType"
  | .bool _ => "bool"
  | .int _ => "int"
  | .str _ => "str"
  | .list _ => "list"
  | .tuple _ => "tuple"
  | .dict [(.none, .list _)] => "?"
  | .dict _ => "dict"
def isiF (T : String) (d : D) : Option Bool := match d with
  | .dict _ => none
  | d => kitB (kindS d) T
theorem Dr.tyx {v : V} {d : D} {T : String} {b : Bool} (e : Same Y H) (r : Dr K Y v d) (h : isiF T d = some b) : TyX K H v (.type (kindS d)) ∧ kitB (kindS d) T = some b := by
  cases r with
  | non => exact ⟨.base .non, h⟩
  | bl b => exact ⟨.base (.bl b), h⟩
  | int i => exact ⟨.base (.int i), h⟩
  | str x => exact ⟨.base (.str x), h⟩
  | lst h1 _ => exact ⟨.base (.lst (e _ _ h1)), h⟩
  | lck _ _ => cases h
  | tup h1 _ =>
    refine ⟨?_, h⟩
    rcases h1 with (h1 | ⟨o, h1⟩) | ⟨o, its, n, h1, h2, _⟩
    · exact .base (.tup (e _ _ h1))
    · exact .fTuple (e _ _ h1)
    · exact .kTuple h1 h2
  | dk _ _ => cases h
  | dt _ _ => cases h
def eIsi (T : String) (f : EF) : EF := fun s => (f s).bind fun d s => (ofO (isiF T d) s).bind fun b s => .ok (.bool b) s
theorem me_isi {T : String} {x : Str} {p2 : Pos} (hXK : X.K = c.K) (hg : Gl X "isinstance") (hm : X.mg "isinstance" = none) (hg2 : Gl X x) (hm2 : X.mg x = none) (hv : bootBuiltins x = some (.type T)) (hn : x ≠ "__name__") (hdb : (x == ("__debug__" : Str)) = false) (ha : ME X c fa a)
    (he : starEach [a, .Name x p2] X.env = (false, eval a X.env) :: starEach [.Name x p2] X.env := by rfl) (he2 : starEach [.Name x p2] X.env = (false, eval (.Name x p2) X.env) :: starEach [] X.env := by rfl) (hpl : (backTo pos (starEach [.Name x p2] X.env)).any (·.1) = false := by rfl) :
    ME X c (eIsi T fa) (.Call (.Name "isinstance" p) [a, .Name x p2] [] pos) := by
  refine ⟨PE.imp (pe_callB call_isi hg hm (by decide +kernel) (pa_cons ha.run (pa_cons (pe_bltn (v := .ty T) hg2 hm2 hv rfl hn hdb) pa_nil he2) he) (by decide) (by decide) he hpl) fun σ H Q q => ?_⟩
  obtain ⟨ξ, Y, s, tv, ts, hK, F, q⟩ := q
  refine tE_seq hK F q fun d s1 Y1 H1 v e1 F1 r1 q1 => ?_
  cases eb : isiF T d with
  | none => rw [eb] at q1; exact q1.elim
  | some b =>
    rw [eb] at q1
    obtain ⟨t1, t2⟩ := r1.tyx F1.sub eb
    exact ⟨v, .ty T, .type (kindS d), .type T, b, rfl, .ty T, hXK ▸ t1, kit_ty t2, q1 Y1 H1 _ e1 F1 (.bl b)⟩

end
/-! ### list(reversed(x)) -/
section
open PyProof.Rows
theorem get_push_ne {h : Heap} {b : Addr} {o u : Obj} (n : b ≠ h.objs.size) (e : (h.push u).get? b = some o) : h.get? b = some o := by
  obtain ⟨e1, e2⟩ := Heap.get?_some_iff.mp e
  refine Heap.get?_some_iff.mpr ⟨?_, e2⟩
  cases h
  simpa [Heap.push, Array.getElem?_push, n] using e1
theorem pe_listRev {X : Cx} {e : Expr} {te : TE} {p p2 pos pos2 : Pos} (hc : X.calm = true) (hg : Gl X "list") (hm : X.mg "list" = none) (hg2 : Gl X "reversed") (hm2 : X.mg "reversed" = none) (he : PE X e te)
    (hs : starEach [e] X.env = (false, eval e X.env) :: starEach [] X.env := by rfl)
    (hs2 : starEach [.Call (.Name "reversed" p2) [e] [] pos2] X.env = (false, eval (.Call (.Name "reversed" p2) [e] [] pos2) X.env) :: starEach [] X.env := by rfl) :
    PE X (.Call (.Name "list" p) [.Call (.Name "reversed" p2) [e] [] pos2] [] pos) (fun σ H Q => te σ H fun v H1 => ∃ (a : Addr) (xs : List V), v = .ref a ∧ SqL X.K H1 a xs ∧ ∀ q, H1 q = none → Q (.ref q) (upd H1 q (.lst xs.reverse))) := by
  constructor
  intro pins s σ H Q I h
  refine Call_ (ld_blt I hg hm boot_list (callWith_type1 (args_cons (Call_ (ld_blt I hg2 hm2 boot_reversed (callWith_type1 (args_cons (thn (he.run pins s σ H _ I h) ?_) hs) hs rfl))) hs2) hs2 rfl))
  rintro u s1 ⟨v, H1, I1, r1, a, xs, ev, hq, q⟩
  subst ev
  obtain rfl : u = Value.ref a := r1
  obtain ⟨its, rv, p', hz⟩ := I1.list hq
  have isl := p'.isList
  refine args_nil (call_reversed_list isl (args_nil ?_))
  let sp := s1.heap.push (revObj a ((its.toArray.size : Int) - 1))
  have I2 : Inv X pins σ H1 { s1 with heap := sp } := I1.kept (t' := s1.toks) fun b o e => Heap.get?_push_of_some _ e
  obtain ⟨f0, f1, f2, f3, f4, f5⟩ := I1.fpOk (H' := H1) (b := s1.heap.objs.size) (Nat.le_refl _) (I1.hok.fresh (Nat.le_refl _))
  obtain ⟨ol, hol, _⟩ := id isl
  have ne : a ≠ s1.heap.objs.size := Nat.ne_of_lt (Heap.lt_size hol)
  have few : its.toArray.size ≤ sizeLine := by rw [List.size_toArray, ← rv.length]; exact hz
  refine list_of_rev (s := { s1 with heap := sp }) (I1.ok.hd hc) ⟨_, Heap.get?_push_size _ rfl, rfl, rfl⟩ (isl.push _) ne few ?_
  intro h' tk acc c' hk hS hi
  have fr : H1 sp.objs.size = none := I2.hok.fresh (Nat.le_refl _)
  have nS : sp.objs.size ≠ s1.heap.objs.size := by
    show (s1.heap.push _).objs.size ≠ _
    rw [Heap.size_push]; omega
  let o1 : Obj := { cls := .type "list", dict := none, data := .seq acc c', slots := #[] }
  have I4 : Inv X pins σ (upd H1 sp.objs.size (.lst xs.reverse)) { s1 with heap := sp.push o1 } := I2.laid (t' := s1.toks) (fun b o e => Heap.get?_push_of_some _ e) (Nat.le_refl _)
    ⟨by rw [List.length_reverse]; exact hz, acc.toList, c', RT.vals_rev rv hi, by rw [Array.toArray_toList]; exact Heap.get?_push_size _ rfl⟩
  have kept : ∀ b o, b ≠ s1.heap.objs.size → (sp.push o1).get? b = some o → h'.get? b = some o := fun b o hb e => by
    by_cases z : b = sp.objs.size
    · subst z
      rw [Heap.get?_push_size _ rfl] at e
      cases e
      exact hS
    · refine hk b o hb ?_
      show sp.get? b = some o
      exact get_push_ne z e
  have I5 := Inv.turned (s := { s1 with heap := sp.push o1 }) (h' := h') (it := s1.heap.objs.size) (t' := tk) I4 kept (by rw [upd_ne nS.symm]; exact f0) f1 f3 f4 f5
  exact ⟨.ref sp.objs.size, _, I5, rfl, q _ fr⟩
end
section
variable {X : Cx} {c : Ct} {K : PySem.W.Frag} {ξ : Fx} {Y H : Hp} {σ : St} {s : S} {tv : List V} {ts : List OD}
variable {fa fb : EF} {a b : Expr} {p pos : Pos}
def revD : D → Option OD
  | .list xs => some (.ol xs.reverse)
  | _ => none
theorem mo_listRev {p2 pos2 : Pos} (hc : X.calm = true) (hg : Gl X "list") (hm : X.mg "list" = none) (hg2 : Gl X "reversed") (hm2 : X.mg "reversed" = none) (ha : ME X c fa a)
    (hs : starEach [a] X.env = (false, eval a X.env) :: starEach [] X.env := by rfl)
    (hs2 : starEach [.Call (.Name "reversed" p2) [a] [] pos2] X.env = (false, eval (.Call (.Name "reversed" p2) [a] [] pos2) X.env) :: starEach [] X.env := by rfl) :
    MO X c (oOp1 revD fa) (.Call (.Name "list" p) [.Call (.Name "reversed" p2) [a] [] pos2] [] pos) := by
  refine ⟨PE.imp (pe_listRev hc hg hm hg2 hm2 ha.run hs hs2) fun σ H Q q => ?_⟩
  obtain ⟨ξ, Y, s, tv, ts, hK, F, q⟩ := q
  refine tE_seq hK F q fun d s1 Y1 H1 v e1 F1 r1 q1 => ?_
  unfold ofO revD at q1
  cases d with
  | list ds =>
    obtain ⟨p, us, rfl, h1, d1⟩ := r1.list_inv
    refine ⟨p, us, rfl, .inl (.inl (F1.sub _ _ h1)), fun n hn => ?_⟩
    obtain ⟨e4, F4⟩ := (Gives.lst hn d1.reverse).fs hK F1
    exact q1 _ _ _ (e1.trans e4) F4
  | none => exact q1.elim
  | bool _ => exact q1.elim
  | int _ => exact q1.elim
  | str _ => exact q1.elim
  | tuple _ => exact q1.elim
  | dict _ => exact q1.elim
/-! ### list(range(..)) -/
instance (a b : Int) : Decidable (RgOk a b) := inferInstanceAs (Decidable (_ ∧ _ ∧ _ ∧ _ ∧ _))
def oListRg1 (f : EF) : OF := fun s => (f s).bind fun d s => match d with
  | .int n => if RgOk 0 n then .ok (.ol (upto 0 n.toNat)) s else .bad
  | _ => .bad
theorem DrAll.upto {lo : Int} : ∀ (l : List Nat), DrAll K Y (l.map fun i : Nat => V.int (lo + (i : Int))) (l.map fun i : Nat => PyData.int (lo + (i : Int)))
  | [] => .nil
  | i :: l => .cons (.int _) (DrAll.upto l)
theorem mo_listRg1 {p2 pos2 : Pos} (hc : X.calm = true) (hg : Gl X "list") (hm : X.mg "list" = none) (hg2 : Gl X "range") (hm2 : X.mg "range" = none) (ha : ME X c fa a)
    (na : starEach [a] X.env = (false, eval a X.env) :: starEach [] X.env := by rfl) (na2 : starEach [.Call (.Name "range" p2) [a] [] pos2] X.env = (false, eval (.Call (.Name "range" p2) [a] [] pos2) X.env) :: starEach [] X.env := by rfl) :
    MO X c (oListRg1 fa) (.Call (.Name "list" p) [.Call (.Name "range" p2) [a] [] pos2] [] pos) := by
  refine ⟨PE.imp (pe_listRg hc hg hm (prg_1 hg2 hm2 ha.run na) na2) fun σ H Q q => ?_⟩
  obtain ⟨ξ, Y, s, tv, ts, hK, F, q⟩ := q
  refine tE_seq hK F q fun d s1 Y1 H1 v e1 F1 r1 q1 => ?_
  cases d with
  | int n =>
    simp only at q1
    split at q1
    · rename_i hn
      refine ⟨n, r1.int_inv, hn, fun k hk => ?_⟩
      have e2 : rgV 0 n = (List.range n.toNat).map fun i : Nat => V.int (0 + (i : Int)) := by unfold rgV; simp
      rw [e2]
      obtain ⟨e4, F4⟩ := (Gives.lst hk (DrAll.upto (lo := 0) (List.range n.toNat))).fs hK F1
      exact q1 _ _ _ (e1.trans e4) F4
    · exact q1.elim
  | none => exact q1.elim
  | bool _ => exact q1.elim
  | str _ => exact q1.elim
  | list _ => exact q1.elim
  | tuple _ => exact q1.elim
  | dict _ => exact q1.elim

/-! ### methods of owned lists -/
def eAppend (i : Nat) (f : EF) : EF := fun s => match s[i]? with
  | some (some (.ol _)) => (f s).bind fun d s1 => match s1[i]? with
    | some (some (.ol ds)) => if ds.length < sizeLine then .ok .none (s1.set i (some (.ol (ds ++ [d])))) else .bad
    | _ => .bad
  | _ => .bad
theorem me_append {i : Nat} {o : Expr} {apos : Pos} (ho : PE X o (tVar i)) (ha : ME X c fa a)
    (hbase : attributeBase o "append" X.env (eval o X.env) = eval o X.env := by rfl)
    (hfew : ((backTo pos (starEach [a] X.env)).all (fun x => !x.1) && (backToKw pos (keywordEach [] X.env)).all (fun x => x.1.isSome)
      && decide (([a] : List Expr).length + ([] : List Keyword).length + (if ([] : List Keyword).isEmpty then 0 else 1) < 30)) = true := by rfl)
    (hline : (apos.endLine == pos.line) = true := by rfl) (hs : starEach [a] X.env = (false, eval a X.env) :: starEach [] X.env := by rfl) (hplain : (backTo pos (starEach [] X.env)).any (·.1) = false := by rfl) :
    ME X c (eAppend i fa) (.Call (.Attribute o "append" apos) [a] [] pos) := by
  refine ⟨PE.imp (pe_bm PySem.F.plainAttrs_list PySem.F.slot_list_append PySem.F.type_list_append mt_append ho (pa_cons ha.run pa_nil hs) hbase hfew hline hs hplain) fun σ H Q q => ?_⟩
  obtain ⟨ξ, Y, s, tv, ts, hK, F, q⟩ := q
  unfold eAppend at q
  split at q
  rotate_left
  · exact q.elim
  rename_i ds0 e0
  obtain ⟨p, vs, hv, hp, _, _⟩ := F.listS e0
  refine ⟨.ref p, hv, .inl ⟨rfl, vs, .inl (.inl hp)⟩, ?_⟩
  refine tE_seq hK F q fun d s1 Y1 H1 v e1 F1 r1 q1 => ?_
  split at q1
  rotate_left
  · exact q1.elim
  rename_i ds1 e2
  split at q1
  rotate_left
  · exact q1.elim
  rename_i hsz
  obtain ⟨p', vs', hv', hp', hd', wr⟩ := F1.listS e2
  rw [hv] at hv'
  cases hv'
  exact ⟨p, vs', v, rfl, rfl, hp', by rw [hd'.length]; exact hsz, q1 Y1 _ _ e1 (wr _ _ (hd'.append (.cons (hK ▸ r1) .nil))) .non⟩
def eExtend (i : Nat) (f : EF) : EF := fun s => match s[i]? with
  | some (some (.ol _)) => (f s).bind fun d s1 => match d, s1[i]? with
    | .list es, some (some (.ol ds)) => if ds.length + es.length ≤ sizeLine then .ok .none (s1.set i (some (.ol (ds ++ es)))) else .bad
    | _, _ => .bad
  | _ => .bad
theorem me_extend {i : Nat} {o : Expr} {apos : Pos} (ho : PE X o (tVar i)) (ha : ME X c fa a)
    (hbase : attributeBase o "extend" X.env (eval o X.env) = eval o X.env := by rfl)
    (hfew : ((backTo pos (starEach [a] X.env)).all (fun x => !x.1) && (backToKw pos (keywordEach [] X.env)).all (fun x => x.1.isSome)
      && decide (([a] : List Expr).length + ([] : List Keyword).length + (if ([] : List Keyword).isEmpty then 0 else 1) < 30)) = true := by rfl)
    (hline : (apos.endLine == pos.line) = true := by rfl) (hs : starEach [a] X.env = (false, eval a X.env) :: starEach [] X.env := by rfl) (hplain : (backTo pos (starEach [] X.env)).any (·.1) = false := by rfl) :
    ME X c (eExtend i fa) (.Call (.Attribute o "extend" apos) [a] [] pos) := by
  refine ⟨PE.imp (pe_bm PySem.F.plainAttrs_list PySem.F.slot_list_extend PySem.F.type_list_extend mt_extend ho (pa_cons ha.run pa_nil hs) hbase hfew hline hs hplain) fun σ H Q q => ?_⟩
  obtain ⟨ξ, Y, s, tv, ts, hK, F, q⟩ := q
  unfold eExtend at q
  split at q
  rotate_left
  · exact q.elim
  rename_i ds0 e0
  obtain ⟨p, vs, hv, hp, _, _⟩ := F.listS e0
  refine ⟨.ref p, hv, .inl ⟨rfl, vs, .inl (.inl hp)⟩, ?_⟩
  refine tE_seq hK F q fun d s1 Y1 H1 v e1 F1 r1 q1 => ?_
  split at q1
  rotate_left
  · exact q1.elim
  rename_i es ds1 e2
  split at q1
  rotate_left
  · exact q1.elim
  rename_i hsz
  obtain ⟨p', vs', hv', hp', hd', wr⟩ := F1.listS e2
  rw [hv] at hv'
  cases hv'
  obtain ⟨b, zs, rfl, hb, hz⟩ := r1.list_inv
  exact ⟨p, b, vs', zs, rfl, rfl, hp', F1.sub _ _ hb, by rw [hd'.length, hz.length]; exact hsz, q1 Y1 _ _ e1 (wr _ _ (hd'.append (hK ▸ hz))) .non⟩
/-- x.pop() -/
def ePop (i : Nat) : EF := fun s => match s[i]? with
  | some (some (.ol ds)) => match ds[ds.length - 1]? with
    | some d => .ok d (s.set i (some (.ol ds.dropLast)))
    | none => .bad
  | _ => .bad
theorem me_pop {i : Nat} {o : Expr} {apos : Pos} (ho : PE X o (tVar i)) (hbase : attributeBase o "pop" X.env (eval o X.env) = eval o X.env := by rfl) (hline : (apos.endLine == pos.line) = true := by rfl) :
    ME X c (ePop i) (.Call (.Attribute o "pop" apos) [] [] pos) := by
  refine ⟨PE.imp (pe_bm0 PySem.F.plainAttrs_list PySem.F.slot_list_pop PySem.F.type_list_pop mt_pop ho hbase hline) fun σ H Q q => ?_⟩
  obtain ⟨ξ, Y, s, tv, ts, hK, F, q⟩ := q
  unfold ePop at q
  split at q
  rotate_left
  · exact q.elim
  rename_i ds e0
  split at q
  rotate_left
  · exact q.elim
  rename_i d ed
  obtain ⟨p, vs, hv, hp, hd, wr⟩ := F.listS e0
  obtain ⟨v, ev, rv⟩ := hd.get ed
  exact ⟨.ref p, hv, .inl ⟨rfl, vs, .inl (.inl hp)⟩, p, vs, v, rfl, rfl, hp, by rw [hd.length]; exact ev, q Y _ _ (Same.refl _) (wr _ _ hd.dropLast) (hK ▸ rv)⟩
/-! ### items of owned lists of owned things: x[k], k written -/
/-- x[k] as a place -/
theorem pe_place {i : Nat} {k : Int} {o : Expr} {j : Nat} {kp : Pos} (ho : PE X o (tVar i)) : PE X (.Subscript o (.Constant (.int k) j kp) pos) (fun σ H Q => ∃ p vs v, σ[i]? = some (some (.ref p)) ∧ H p = some (.lst vs) ∧ atI vs k = some v ∧ Q v H) :=
  PE.imp (pe_ix ix_list ho pe_int (fun _ _ => rfl)) fun σ H Q ⟨p, vs, v, h1, h2, h3, q⟩ => ⟨.ref p, h1, p, vs, k, v, rfl, rfl, .inl (.inl h2), h3, q⟩
def ePopN (i k : Nat) : EF := fun s => match s[i]? with
  | some (some (.on os)) => match os[k]? with
    | some (.ol ds) => match ds[ds.length - 1]? with
      | some d => .ok d (s.set i (some (.on (os.set k (.ol ds.dropLast)))))
      | none => .bad
    | _ => .bad
  | _ => .bad
theorem me_popN {i k : Nat} {o : Expr} {apos : Pos} (ho : PE X o (fun σ H Q => ∃ p vs v, σ[i]? = some (some (.ref p)) ∧ H p = some (.lst vs) ∧ atI vs (k : Int) = some v ∧ Q v H)) (hbase : attributeBase o "pop" X.env (eval o X.env) = eval o X.env := by rfl) (hline : (apos.endLine == pos.line) = true := by rfl) :
    ME X c (ePopN i k) (.Call (.Attribute o "pop" apos) [] [] pos) := by
  refine ⟨PE.imp (pe_bm0 PySem.F.plainAttrs_list PySem.F.slot_list_pop PySem.F.type_list_pop mt_pop ho hbase hline) fun σ H Q q => ?_⟩
  obtain ⟨ξ, Y, s, tv, ts, hK, F, q⟩ := q
  unfold ePopN at q
  split at q
  rotate_left
  · exact q.elim
  rename_i os e0
  split at q
  rotate_left
  · exact q.elim
  rename_i ds e1
  split at q
  rotate_left
  · exact q.elim
  rename_i d ed
  obtain ⟨p, vs, n, ws, h1, h2, h3, h4, h5, hd, wr⟩ := F.nestList e0 e1
  obtain ⟨v, ev, rv⟩ := hd.get ed
  exact ⟨p, vs, .ref n, h1, h2, atI_nat h4, .inl ⟨rfl, ws, .inl (.inl h5)⟩, n, ws, v, rfl, rfl, h5, by rw [hd.length]; exact ev, q Y _ _ (Same.refl _) (wr _ _ hd.dropLast) (hK ▸ rv)⟩
/-- x[k] of a leaf -/
def eItemN (i k : Nat) : EF := fun s => match s[i]? with
  | some (some (.on os)) => match os[k]? with
    | some (.fz d) => .ok d s
    | _ => .bad
  | _ => .bad
theorem me_itemN {i k : Nat} {o : Expr} (ho : PE X o (fun σ H Q => ∃ p vs v, σ[i]? = some (some (.ref p)) ∧ H p = some (.lst vs) ∧ atI vs (k : Int) = some v ∧ Q v H)) : ME X c (eItemN i k) o := by
  refine ⟨PE.imp ho fun σ H Q q => ?_⟩
  obtain ⟨ξ, Y, s, tv, ts, hK, F, q⟩ := q
  unfold eItemN at q
  split at q
  rotate_left
  · exact q.elim
  rename_i os e0
  split at q
  rotate_left
  · exact q.elim
  rename_i d e1
  obtain ⟨p, vs, v, h1, h2, h3, h4, r⟩ := F.nestGet e0 e1
  exact ⟨p, vs, v, h1, h2, atI_nat h4, q Y H v (Same.refl _) F (hK ▸ r)⟩
/-- x[k] of an owned list, looked at within an operator that keeps nothing of it: its data -/
def eLookN (i k : Nat) : EF := fun s => match s[i]? with
  | some (some (.on os)) => match os[k]? with
    | some (.ol ds) => .ok (.list ds) s
    | _ => .bad
  | _ => .bad
/-- x[k] != [] and x[k] == [] -/
def kEmptyN (neg : Bool) (i k : Nat) : TF := fun s => match s[i]? with
  | some (some (.on os)) => match os[k]? with
    | some (.ol ds) => if plainAll ds = true ∧ SeqAt.shaped (.list ds) = true then .ok (if neg = true then !(PyData.eqv (.list ds) (.list [])) else PyData.eqv (.list ds) (.list [])) s else .bad
    | _ => .bad
  | _ => .bad
theorem mt_emptyN {i k : Nat} {o : Expr} {lp : Pos} (hXK : X.K = c.K) (hu : X.A.units + 64 < cLine) (ho : PE X o (fun σ H Q => ∃ p vs v, σ[i]? = some (some (.ref p)) ∧ H p = some (.lst vs) ∧ atI vs (k : Int) = some v ∧ Q v H)) (hm : behindInMarks .NotEq (.List [] lp) = false := by rfl) :
    MT X c (kEmptyN true i k) (.Compare o [.NotEq] [.List [] lp] pos) := by
  refine ⟨PT.imp (pt_cmpR (op_neD hu) ho (pe_lst pa_nil) hm) fun σ H Q q => ?_⟩
  obtain ⟨ξ, Y, s, tv, ts, hK, F, q⟩ := q
  unfold kEmptyN at q
  split at q
  rotate_left
  · exact q.elim
  rename_i os e0
  split at q
  rotate_left
  · exact q.elim
  rename_i ds e1
  split at q
  rotate_left
  · exact q.elim
  rename_i hds
  obtain ⟨p, vs, n, ws, h1, h2, h3, h4, h5, hd, wr⟩ := F.nestList e0 e1
  refine ⟨p, vs, .ref n, h1, h2, atI_nat h4, Nat.zero_le _, fun w hw => ?_⟩
  have nw : n ≠ w := ne_of_none h5 hw
  have F2 := F.newJ hw (.lst [])
  refine ⟨.list ds, .list [], .lst (.inl (.inl (by rw [upd_ne nw]; exact h5))) (by rw [hXK, ← hK]; exact hd.dp F2.sub hds.1), .lst (.inl (.inl upd_same)) .nil, hds.2, by decide, _, rfl, q Y _ (Same.refl _) F2⟩

/-! ### x[i] = value -/
/-- an int that only looks at frozen slots and written numbers; nothing changes -/
abbrev JF := S → Option Int
def t0 (K : PySem.W.Frag) (f : JF) : TE := fun σ H Q => ∃ ξ Y s tv ts, ξ.K = K ∧ FS ξ Y H σ s tv ts ∧ ∃ n, f s = some n ∧ Q (.int n) H
structure MJ (X : Cx) (c : Ct) (f : JF) (e : Expr) : Prop where
  run : PE X e (t0 c.K f)
def jVar (i : Nat) : JF := fun s => match s[i]? with
  | some (some (.fz (.int n))) => some n
  | _ => none
def jC (n : Int) : JF := fun _ => some n
def jAdd (f g : JF) : JF := fun s => (f s).bind fun a => (g s).map fun b => a + b
def jSub (f g : JF) : JF := fun s => (f s).bind fun a => (g s).map fun b => a - b
def jNeg (f : JF) : JF := fun s => (f s).map fun a => -a
theorem mj_var {i : Nat} {e : Expr} (h : PE X e (tVar i)) : MJ X c (jVar i) e := by
  refine ⟨PE.imp h fun σ H Q q => ?_⟩
  obtain ⟨ξ, Y, s, tv, ts, hK, F, n, en, q⟩ := q
  unfold jVar at en
  split at en
  · rename_i m em
    cases en
    obtain ⟨v, hv, r⟩ := F.frozen em
    rw [r.int_inv] at hv
    exact ⟨_, hv, q⟩
  · cases en
theorem mj_int {i : Int} {j : Nat} : MJ X c (jC i) (.Constant (.int i) j pos) := by
  refine ⟨PE.imp pe_int fun σ H Q q => ?_⟩
  obtain ⟨ξ, Y, s, tv, ts, hK, F, n, en, q⟩ := q
  cases en
  exact q
theorem mj_add {f g : JF} (ha : MJ X c f a) (hb : MJ X c g b) : MJ X c (jAdd f g) (.BinOp a .Add b pos) := by
  refine ⟨PE.imp (pe_op op_add ha.run hb.run) fun σ H Q q => ?_⟩
  obtain ⟨ξ, Y, s, tv, ts, hK, F, n, en, q⟩ := q
  simp only [jAdd, Option.bind_eq_some_iff, Option.map_eq_some_iff] at en
  obtain ⟨x, hx, y, hy, rfl⟩ := en
  exact ⟨ξ, Y, s, tv, ts, hK, F, x, hx, ξ, Y, s, tv, ts, hK, F, y, hy, x, y, rfl, rfl, q⟩
theorem mj_sub {f g : JF} (ha : MJ X c f a) (hb : MJ X c g b) : MJ X c (jSub f g) (.BinOp a .Sub b pos) := by
  refine ⟨PE.imp (pe_op op_sub ha.run hb.run) fun σ H Q q => ?_⟩
  obtain ⟨ξ, Y, s, tv, ts, hK, F, n, en, q⟩ := q
  simp only [jSub, Option.bind_eq_some_iff, Option.map_eq_some_iff] at en
  obtain ⟨x, hx, y, hy, rfl⟩ := en
  exact ⟨ξ, Y, s, tv, ts, hK, F, x, hx, ξ, Y, s, tv, ts, hK, F, y, hy, x, y, rfl, rfl, q⟩
theorem mj_neg {f : JF} (ha : MJ X c f a) : MJ X c (jNeg f) (.UnaryOp .USub a pos) := by
  refine ⟨PE.imp (pe_un un_neg ha.run) fun σ H Q q => ?_⟩
  obtain ⟨ξ, Y, s, tv, ts, hK, F, n, en, q⟩ := q
  simp only [jNeg, Option.map_eq_some_iff] at en
  obtain ⟨x, hx, rfl⟩ := en
  exact ⟨ξ, Y, s, tv, ts, hK, F, x, hx, x, rfl, q⟩
/-- an item of an owned list (slot i) -/
def gItem (i : Nat) (f : EF) : D → S → Res Unit := fun d s => match s[i]? with
  | some (some (.ol _)) => (f s).bind fun k s1 => match k, s1[i]? with
    | .int n, some (some (.ol ds)) => match ixN ds.length n with
      | some j => .ok () (s1.set i (some (.ol (ds.set j d))))
      | none => .bad
    | _, _ => .bad
  | some (some (.on _)) => (f s).bind fun k s1 => match k, s1[i]? with
    | .int n, some (some (.on os)) => match ixN os.length n with
      | some j => .ok () (s1.set i (some (.on (os.set j (.fz d)))))
      | none => .bad
    | _, _ => .bad
  | _ => .bad
def sItem (i : Nat) (idx : EF) (f : EF) : SF := fun s => (f s).toS fun d s => (gItem i idx d s).toS fun _ s => .nx s
theorem item_read (F : FS ξ Y H σ s tv ts) {i : Nat} {o : OD} (h : s[i]? = some (some o)) (ho : (∃ ds, o = .ol ds) ∨ ∃ os, o = .on os) : ∃ p, σ[i]? = some (some (.ref p)) := by
  rcases ho with ⟨ds, rfl⟩ | ⟨os, rfl⟩
  · obtain ⟨p, vs, hv, _⟩ := F.listS h
    exact ⟨p, hv⟩
  · obtain ⟨g, R⟩ := F.rel
    obtain ⟨v, hv, r⟩ := R.slot i _ h
    obtain ⟨p, _, _, rfl, _⟩ := r.on_inv
    exact ⟨p, hv⟩
theorem ms_item {rf : List Bool} {i : Nat} {fi fv : EF} {o ix e : Expr} {tpos : Pos} (h : ME X c fv e) (ho : PE X o (tVar i)) (hi : ME X c fi ix)
    (ha : ∀ v, assign (.Subscript o ix tpos) X.env v = (do
      let ov ← holding [v] (eval o X.env)
      let iv ← holding [v, ov] (eval ix X.env)
      standAt tpos
      holding [v, ov, iv] (setItem ov iv v)
      release [v, ov, iv] []) := by intro _; rfl)
    (hs : swapsWithSole [.Subscript o ix tpos] e pos.line X.env = pure false := by rfl) (hw : swappedStores [.Subscript o ix tpos] e X.env = pure none := by rfl)
    (h1 : (assignEach [.Subscript o ix tpos] X.env).map (·.2) = [assign (.Subscript o ix tpos) X.env] := by rfl) : MS X c rf (sItem i fi fv) (.Assign [.Subscript o ix tpos] e pos) := by
  refine ⟨PS.imp (ps_asg h.run (pg_sub ho hi.run set_list ha) hs hw h1) fun D σ H q => ?_⟩
  obtain ⟨ξ, Y, s, hK, F, q⟩ := q
  refine sE_seq hK F q fun d s1 Y1 H1 v e1 F1 r1 q1 => ?_
  have go : ∀ (hp : ∃ p, σ[i]? = some (some (.ref p))) (k : PyData → S → Res Unit), outS c rf ξ Y σ D ((((fi s1).bind k).toS fun _ s => .nx s)) →
      (∀ p n s2 Y2 H2, σ[i]? = some (some (.ref p)) → Same Y1 Y2 → FS ξ Y2 H2 σ s2 [] [] → outS c rf ξ Y σ D ((k (PyData.int n) s2).toS fun _ s => .nx s) → rSetL (.ref p) (.int n) v H2 (fun H3 => D.nx σ H3)) →
      (∀ d s, (∀ n, d ≠ PyData.int n) → k d s = .bad) → gSub (tVar i) (tE c fi) rSetL v σ H1 D.nx := by
    rintro ⟨p, hp⟩ k q2 fin no
    refine ⟨.ref p, hp, ?_⟩
    refine ⟨ξ, Y1, s1, [], [], hK, F1, ?_⟩
    cases ef : fi s1 with
    | bad => rw [ef] at q2; exact q2.elim
    | ex x s2 => rw [ef] at q2; exact fun Y' H' cl z e' F' er => q2 Y' H' σ cl z (e1.trans e') (.refl _ _) F' er
    | ok d2 s2 =>
      rw [ef, Res.bind_ok] at q2
      intro Y2 H2 v2 e2 F2 r2
      by_cases hn : ∃ n, d2 = .int n
      · obtain ⟨n, rfl⟩ := hn
        rw [r2.int_inv]
        exact fin p n s2 Y2 H2 hp e2 F2 q2
      · rw [no d2 s2 fun n e => hn ⟨n, e⟩] at q2
        exact q2.elim
  unfold gItem at q1
  split at q1
  · rename_i ds0 e0
    refine go (item_read F1 e0 (.inl ⟨_, rfl⟩)) _ q1 (fun p n s2 Y2 H2 hp e2 F2 q2 => ?_) (fun d s hd => ?_)
    · split at q2
      · rename_i n' ds en em
        cases en
        split at q2
        · rename_i j ej
          obtain ⟨p', vs', hv', hp', hd', wr⟩ := F2.listS em
          rw [hp] at hv'
          cases hv'
          refine ⟨p, vs', n, j, rfl, rfl, hp', by rw [hd'.length]; exact ej, ?_⟩
          exact q2 Y2 _ σ (e1.trans e2) (.refl _ _) (wr _ _ (hd'.set (hK ▸ r1.mono e2) j))
        · exact q2.elim
      · exact q2.elim
    · cases d <;> first | rfl | exact (hd _ rfl).elim
  · rename_i os0 e0
    refine go (item_read F1 e0 (.inr ⟨_, rfl⟩)) _ q1 (fun p n s2 Y2 H2 hp e2 F2 q2 => ?_) (fun d s hd => ?_)
    · split at q2
      · rename_i n' os en em
        cases en
        split at q2
        · rename_i j ej
          have hj : j < os.length := by
            have := (ixN_seq ej)
            omega
          obtain ⟨p', vs', hv', hp', hl, F3⟩ := F2.nestSet em hj (hK ▸ r1.mono e2)
          rw [hp] at hv'
          cases hv'
          exact ⟨p, vs', n, j, rfl, rfl, hp', by rw [hl]; exact ej, q2 Y2 _ σ (e1.trans e2) (.refl _ _) F3⟩
        · exact q2.elim
      · exact q2.elim
    · cases d <;> first | rfl | exact (hd _ rfl).elim
  · exact q1.elim
end
end MI

set_option Elab.async false
set_option linter.all false
set_option autoImplicit false
set_option maxRecDepth 100000
/-! MI: the end of a law. -/
namespace MI
open PySem PySem.Spec L2
open PyProof.Rows (AllBare)
/-- the law's call over an abstract heap that tracks the script at most -/
theorem ends_core {P : Program} {w : World} {K : PySem.W.Frag} {mg mb : Str → Option Value} {k : Nat} {fa a : Addr} {fd : FuncData} {x : Str} {sp : Sp} {s : Shared} {vs : List Value} {H : Hp}
    (KX : K.In s.heap) (hns : s.heap.Ns mainGlobals mg) (hb : s.heap.Ns builtinsNs mb) (hbb : ∀ x : Str, x ≠ "__name__" → mb x = bootBuiltins x) (hlim : s.heap.NoLimit) (hg : s.gens = #[])
    (ha : s.heap.get? a = some { cls := .type "list", data := .seq vs.toArray }) (hr : Room k callerA) (F : ∀ base : Heap, K.In base → base.Ns mainGlobals mg → FnG P w K mg base CX0 k fa fd [x] sp)
    (hbind : ∀ (s : Shared) (u : Value), BindsTo s fd ⟨[u], []⟩ [(x, u)]) (hsp : sp [.ref a] H (fun v _ => v = .bl true) fun _ _ _ => False)
    (ok : HOk P w H s.heap) (only : ∀ b, H b = none ∨ (b = a ∧ K.lookup a = none ∧ ∃ o xs, H b = some (.frz o (.lst xs)))) :
    codeAny (model P w) callerA (.call (.ref fa) ⟨[.ref a], []⟩) (fun r s' => r = .ok (.ret (.bool true)) ∧ OldK s.heap s'.heap ∧ s'.os = s.os ∧ AllBare s'.gens) s := by
  have notdict : ∀ {b : Addr} {o : Obj} {es : Array DictEntry} {ep : Nat}, s.heap.get? b = some o → o.data = .dict es ep → H b = none := by
    intro b o es ep e d
    rcases only b with z | ⟨rfl, _, _⟩
    · exact z
    · rw [e] at ha
      cases ha
      cases d
  have ns : ∀ {b : Addr} {m : Str → Option Value}, s.heap.Ns b m → (hidT s.heap H).Ns b m := by
    rintro b m ⟨o, es, ep, e, d, r⟩
    exact ⟨o, es, ep, hidT_get e (notdict e d), d, r⟩
  have inK : K.In (hidT s.heap H) := fun b o e => hidT_get (KX b o e) (by
    rcases only b with z | ⟨rfl, z, _⟩
    · exact z
    · rw [z] at e; cases e)
  obtain ⟨mc, l1, l2⟩ := hlim
  have md : Mod K mg (hidT s.heap H) := ⟨inK, ns hns, ⟨mb, ns hb, hbb⟩, ⟨mc, ns l1, l2⟩⟩
  have e0 : Env0 P w K mg (hidT s.heap H) callerA [] s H := by
    refine ⟨rfl, md, fun b o e => of_hidT e, Nat.le_of_eq (hidT_size _ _), trivial, fun b hb => ?_, ok, .of_eq hg⟩
    cases hb
  refine codeAny_mono ((F _ inK (ns hns)).run callerA [] s H ⟨[.ref a], []⟩ [.ref a] [.ref a] _ _ rfl hr e0 (hbind s (.ref a)) (.cons rfl .nil) hsp) ?_
  intro r s' h
  cases r with
  | error e => exact h.elim
  | ok fl =>
    cases fl with
    | next => exact False.elim h
    | brk => exact False.elim h
    | cont => exact False.elim h
    | ret u =>
      obtain ⟨v, H', os, bare, un, ok', rv, rfl⟩ := h
      obtain rfl : u = Value.bool true := rv
      refine ⟨rfl, OldK.of_keep fun b o e => ?_, os, bare⟩
      rcases only b with z | ⟨_, _, ob, xs, z⟩
      · exact un.keep b o e z (by intro q; cases q) (by intro q; cases q)
      · obtain ⟨e1, _⟩ := ok b _ z
        obtain ⟨e2, _⟩ := ok' b _ (un.frzs b ob _ z)
        rw [e] at e1
        cases e1
        exact e2
theorem ends_of {l : PySem.W.OpenLaw} {n k : Nat} {q : Program} {loose : List Str} {XP : (Str → Option Value) → Heap → Prop} {YP : World → Heap → Prop} {d : DefRec} {K : Params → PySem.W.Frag} {sp : World → Sp} {x : Str}
    (hn : l.most = some n) (hn2 : n ≤ sizeLine) (hdf : d.params.defaults = []) (hr : Room k callerA) (hY : ∀ (w : World) (h : Heap), YP w h → (K w.params).In h)
    (F : ∀ (w : World) (mg : Str → Option Value) (fa : Addr) (h : Heap), (K w.params).In h → h.Ns mainGlobals mg → mg d.name = some (.ref fa) → ∃ fd : FuncData, (∀ (s : Shared) (u : Value), BindsTo s fd ⟨[u], []⟩ [(x, u)]) ∧
      ∀ base : Heap, (K w.params).In base → base.Ns mainGlobals mg → FnG l.prog w (K w.params) mg base CX0 k fa fd [x] (sp w))
    (hsp : ∀ (w : World) (H : Hp) (a : Addr) (ns : List Int), ns.length ≤ n → SqL (K w.params) H a (ns.map V.int) → sp w [.ref a] H (fun v _ => v = .bl true) fun _ _ _ => False) :
    PySem.W.WalkO q loose XP YP l.row.toRowW d [] (fun f vs => PySem.call f vs) := by
  refine Att.attach_call hn hdf ?_
  intro w s₀ s₁ mg mb fa o pm cd doc a vs ns G Y ho hd hcd hmg hobj hints hlen hg
  have KX := hY w _ Y
  obtain ⟨fd, hb, hF⟩ := F w mg fa _ KX G.T.g hmg
  have rv := vals_ints hints
  have lenV := hints.length
  have hsz : ns.length ≤ sizeLine := Nat.le_trans hlen hn2
  cases hk : (K w.params).lookup a with
  | some o =>
    have e := KX a o hk
    rw [hobj] at e
    cases e
    refine ends_core (H := fun _ => none) KX G.T.g G.T.b G.T.builtins G.T.nolimit hg hobj hr hF hb (hsp w _ a ns hlen ?_) (fun b u z => nomatch z) fun _ => .inl rfl
    exact .inr ⟨_, vs.toArray, _, hk, rfl, rfl, rfl, by rw [List.size_toArray, lenV]; exact hsz, by simpa using rv⟩
  | none =>
    let u : HO := .frz { cls := .type "list", data := .seq vs.toArray } (.lst (ns.map V.int))
    refine ends_core (H := upd (fun _ => none) a u) KX G.T.g G.T.b G.T.builtins G.T.nolimit hg hobj hr hF hb (hsp w _ a ns hlen (.inl (.inr ⟨_, upd_same⟩))) (fun b z e => ?_) fun b => ?_
    · by_cases hb : b = a
      · subst hb
        rw [upd_same] at e
        cases e
        exact ⟨hobj, by rw [List.length_map]; exact hsz, vs, _, rv, hobj⟩
      · rw [upd_ne hb] at e
        cases e
    · by_cases hb : b = a
      · exact .inr ⟨hb, hk, _, _, by rw [hb]; exact upd_same⟩
      · exact .inl (upd_ne hb)
/-- the law's promise holds where its function tells True of each script -/
theorem law_true {K : PySem.W.Frag} {er : Exn → Value → Option Addr → Hp → Prop} {F : List OD → Res OD} {H : Hp} {a : Addr} {ns : List Int} (hS : SqL K H a (ns.map V.int)) (hF : ∃ s, F [.fz (lockD (ns.map PyData.int))] = .ok (.fz (.bool true)) s) :
    spF K er false 1 F [.ref a] H (fun v _ => v = .bl true) (fun _ _ _ => False) := by
  obtain ⟨s, e⟩ := hF
  refine ⟨⟨K, H, H, fun _ => False⟩, H, [.fz (lockD (ns.map PyData.int))], rfl, rfl, rfl, rfl, ?_, ?_⟩
  · refine ⟨Same.refl _, Same.refl _, fun a h => .inl h, fun _ _ h _ => h, fun _ h => h, rfl, rfl, fun _ _ => False, fun i o e => ?_, fun j o e => ?_, fun i a f => f.elim, fun _ _ _ f => f.elim⟩
    · cases i with
      | zero =>
        cases e
        exact ⟨.ref a, rfl, .fz (.lck hS (DrAll.of_ints ns))⟩
      | succ i => cases e
    · cases e
  · rw [e]
    intro Y' H' v _ F'
    obtain ⟨g, R⟩ := F'.rel
    obtain ⟨v', e1, r⟩ := R.temp 0 _ rfl
    cases e1
    exact r.fz_inv.bool_inv
end MI

set_option Elab.async false
set_option linter.all false
set_option autoImplicit false
set_option maxRecDepth 100000
/-! MI: written tables, more walks. -/
namespace MI
open PySem PySem.Spec L2
section
variable {X : Cx} {c : Ct} {K : PySem.W.Frag} {ξ : Fx} {Y H : Hp} {σ : St} {s : S} {tv : List V} {ts : List OD}
variable {fa fb : EF} {a b : Expr} {p pos : Pos}
/-- {k: n, ..}[i], all ints written -/
def tabV (kvs : List (Int × Int)) : List (Key × V) := kvs.map fun q => (Sum.inl q.1, V.int q.2)
def eTab (kvs : List (Int × Int)) (f : EF) : EF := fun s => (f s).bind fun d s => match d with
  | .int i => match valV (mergeK [] (tabV kvs)) (Sum.inl i) with
    | some (.int n) => .ok (.int n) s
    | _ => .bad
  | _ => .bad
inductive TabE : List (Int × Int) → List (Option Expr) → List Expr → Prop
  | nil : TabE [] [] []
  | cons {k n : Int} {j j' : Nat} {q q' : Pos} {kvs : List (Int × Int)} {ks : List (Option Expr)} {vs : List Expr} : TabE kvs ks vs → TabE ((k, n) :: kvs) (some (.Constant (.int k) j q) :: ks) (.Constant (.int n) j' q' :: vs)
theorem TabE.pps {kvs : List (Int × Int)} {ks : List (Option Expr)} {vs : List Expr} (t : TabE kvs ks vs) : PPs X pos ks vs (kvs.map fun q => (tC (.int q.1), tC (.int q.2))) := by
  induction t with
  | nil => exact pps_nil
  | cons t ih => exact pps_cons pe_int pe_int ih
theorem tab_pairs {σ : St} {H : Hp} {Q : List (V × V) → Hp → Prop} : ∀ (kvs : List (Int × Int)), Q (kvs.map fun q => (V.int q.1, V.int q.2)) H → tPairs (kvs.map fun q => (tC (.int q.1), tC (.int q.2))) σ H Q
  | [], h => h
  | q :: kvs, h => tab_pairs (Q := fun ps H3 => Q ((V.int q.1, V.int q.2) :: ps) H3) kvs h
theorem me_tab {kvs : List (Int × Int)} {ks : List (Option Expr)} {vs : List Expr} {dp : Pos} (hu : X.A.units + 1 < cLine) (t : TabE kvs ks vs) (ha : ME X c fa a) (hall : ks.all (·.isSome) = true := by rfl) (hl : ks.length = vs.length := by rfl) (h0 : ks ≠ [] := by exact fun z => nomatch z)
    (h15 : ks.length ≤ 15 := by decide) (h15' : kvs.length ≤ 15 := by decide) (hs : NoSl a := by exact fun _ _ => rfl) : ME X c (eTab kvs fa) (.Subscript (.Dict ks vs dp) a pos) := by
  refine ⟨PE.imp (pe_dget hu (pe_disp t.pps hall hl h0 h15) ha.run hs) fun σ H Q q => ?_⟩
  obtain ⟨ξ, Y, s, tv, ts, hK, F, q⟩ := q
  intro n hn
  refine tab_pairs kvs ⟨upd_same, tabV kvs, ?_, by simpa [tabV] using h15', ?_⟩
  · unfold tabV
    rw [List.map_map]
    rfl
  · rw [upd_upd]
    have F1 := F.newF hn (.dK (mergeK [] (tabV kvs)))
    have e0 : Same Y (upd Y n (.dK (mergeK [] (tabV kvs)))) := same_upd (F.sub.free hn)
    refine tE_seq hK F1 (out.mono c q e0 (fun _ _ z => z)) fun d s1 Y1 H1 v e1 F2 r1 q1 => ?_
    split at q1
    · rename_i i
      split at q1
      · rename_i m em
        refine ⟨n, .int m, rfl, ?_, q1 Y1 H1 _ (e0.trans e1) F2 (.int m)⟩
        rw [r1.int_inv, ← em]
        exact .inl ⟨_, Sum.inl i, .inl (F2.sub _ _ (e1 _ _ upd_same)), rfl, rfl⟩
      · exact q1.elim
    · exact q1.elim
/-! ### reversed -/
def iRev (f : EF) : IF := fun s => (f s).bind fun d s => ofO ((itemsD d).map List.reverse) s
theorem mi_rev {tg : Expr} (hXK : X.K = c.K) (hg : Gl X "reversed") (hm : X.mg "reversed" = none) (ha : ME X c fa a) (hs : starEach [a] X.env = (false, eval a X.env) :: starEach [] X.env := by rfl) : MI_ X c (iRev fa) tg (.Call (.Name "reversed" p) [a] [] pos) := by
  refine ⟨PI.imp (RT.pi_revA hg hm ha.run hs) fun σ H R q => ?_⟩
  obtain ⟨ξ, Y, s, tv, ts, hK, F, q⟩ := q
  refine ⟨ξ, Y, s, tv, ts, hK, F, ?_⟩
  unfold iRev at q
  cases e : fa s with
  | bad => rw [e] at q; exact q.elim
  | ex x s1 => rw [e] at q; exact q
  | ok d s1 =>
    rw [e, Res.bind_ok] at q
    intro Y1 H1 v e1 F1 r1
    have item : ∀ {xs : List V} {ds : List D}, DrAll c.K Y1 xs ds → ∀ i d, ds.reverse[i]? = some d → i < xs.length ∧ ∃ v, xs[xs.length - 1 - i]? = some v ∧ Dr c.K Y1 v d := fun {xs ds} h i d hd => by
      have hi := lt_of_get hd
      rw [List.length_reverse] at hi
      rw [List.getElem?_reverse hi] at hd
      obtain ⟨v, h1, h2⟩ := h.get hd
      exact ⟨by rw [h.length]; exact hi, v, by rw [h.length]; exact h1, h2⟩
    cases d with
    | list ds =>
      obtain ⟨a, xs, rfl, hq, hd⟩ := r1.list_inv
      have hq : SqL c.K Y1 a xs := .inl (.inl hq)
      refine ⟨a, xs, rfl, .inl ⟨hXK ▸ F1.sub.seq hq, ?_⟩⟩
      rw [hXK]
      refine q Y1 H1 _ e1 F1 ⟨fun i H e hi => ⟨by rw [hd.length]; simpa using hi, xs, xs[xs.length - 1 - i]'(by have := hd.length; simp at hi; omega), e.seq hq, List.getElem?_eq_getElem _⟩, fun H e => ?_, fun i H x H' d e hd' hy Y2 e2 e3 => ?_⟩
      · show xs.length ≤ _
        rw [List.length_reverse, hd.length]; exact Nat.le_refl _
      · obtain ⟨rfl, hx⟩ := hy
        obtain ⟨_, v, hv, rv⟩ := item hd i d hd'
        have := hx xs (e.seq hq)
        rw [hv] at this
        cases this
        exact ⟨Y2, .old (rv.mono e2)⟩
    | tuple ds =>
      obtain ⟨a, xs, rfl, hq, hd⟩ := r1.tuple_inv
      refine ⟨a, xs, rfl, .inr ⟨hXK ▸ Same.sqt F1.sub hq, ?_⟩⟩
      rw [hXK]
      refine q Y1 H1 _ e1 F1 ⟨fun i H e hi => ⟨by rw [hd.length]; simpa using hi, xs, xs[xs.length - 1 - i]'(by have := hd.length; simp at hi; omega), Same.sqt e hq, List.getElem?_eq_getElem _⟩, fun H e => ?_, fun i H x H' d e hd' hy Y2 e2 e3 => ?_⟩
      · show xs.length ≤ _
        rw [List.length_reverse, hd.length]; exact Nat.le_refl _
      · obtain ⟨rfl, hx⟩ := hy
        obtain ⟨_, v, hv, rv⟩ := item hd i d hd'
        have := hx xs (Same.sqt e hq)
        rw [hv] at this
        cases this
        exact ⟨Y2, .old (rv.mono e2)⟩
    | none => exact q.elim
    | bool _ => exact q.elim
    | int _ => exact q.elim
    | str _ => exact q.elim
    | dict _ => exact q.elim
/-! ### zip, enumerate -/
def pairUp : List D → List D → List D
  | x :: xs, y :: ys => .tuple [x, y] :: pairUp xs ys
  | _, _ => []
theorem pairUp_length : ∀ (xs ys : List D), (pairUp xs ys).length = min xs.length ys.length
  | [], _ => by simp [pairUp]
  | _ :: _, [] => by simp [pairUp]
  | x :: xs, y :: ys => by simp [pairUp, pairUp_length xs ys]
theorem pairUp_get : ∀ {xs ys : List D} {i : Nat} {d : D}, (pairUp xs ys)[i]? = some d → ∃ x y, xs[i]? = some x ∧ ys[i]? = some y ∧ d = .tuple [x, y]
  | [], _, _, _, h => by simp [pairUp] at h
  | _ :: _, [], _, _, h => by simp [pairUp] at h
  | x :: xs, y :: ys, 0, d, h => by simp [pairUp] at h; exact ⟨x, y, rfl, rfl, h.symm⟩
  | x :: xs, y :: ys, i + 1, d, h => by
    simp only [pairUp, List.getElem?_cons_succ] at h
    obtain ⟨x', y', h1, h2, h3⟩ := pairUp_get h
    exact ⟨x', y', by simpa using h1, by simpa using h2, h3⟩
def sameKind : D → D → Option (List D)
  | .list xs, .list ys => some (pairUp xs ys)
  | .tuple xs, .tuple ys => some (pairUp xs ys)
  | _, _ => none
def iZip (f g : EF) : IF := fun s => (f s).bind fun d s => (g s).bind fun e s => ofO (sameKind d e) s
theorem mi_zip {elts : List Expr} {kk : Nat} {tpos : Pos} (hXK : X.K = c.K) (hg : Gl X "zip") (hm : X.mg "zip" = none) (ha : ME X c fa a) (hb : ME X c fb b)
    (hs : starEach [a, b] X.env = (false, eval a X.env) :: starEach [b] X.env := by rfl) (hs2 : starEach [b] X.env = (false, eval b X.env) :: starEach [] X.env := by rfl) (hpl : (backTo pos (starEach [b] X.env)).any (·.1) = false := by rfl) :
    MI_ X c (iZip fa fb) (.Tuple elts kk tpos) (.Call (.Name "zip" p) [a, b] [] pos) := by
  refine ⟨PI.imp (RZ.pi_zipA hg hm (ma_cons ha (ma_cons hb ma_nil hs2) hs).run hs hpl) fun σ H R q => ?_⟩
  obtain ⟨ξ, Y, s, tv, ts, hK, F, q⟩ := q
  refine ⟨ξ, Y, s, tv, ts, hK, F, ?_⟩
  unfold iZip at q
  unfold aCons aNil
  cases e : fa s with
  | bad => rw [e] at q; exact q.elim
  | ex x s1 => rw [e] at q; exact q
  | ok d s1 =>
    rw [e, Res.bind_ok] at q
    rw [Res.bind_ok]
    cases e' : fb s1 with
    | bad => rw [e'] at q; exact q.elim
    | ex x s1 => rw [e'] at q; exact q
    | ok d' s2 =>
      rw [e', Res.bind_ok] at q
      rw [Res.bind_ok, Res.bind_ok, Res.bind_ok]
      intro Y1 H1 vs e1 F1 r1
      cases r1 with
      | cons ra rb =>
        cases rb with
        | cons rb rc =>
          cases rc
          unfold ofO sameKind at q
          split at q
          · rename_i ds eds
            split at eds
            · rename_i xs ys
              cases eds
              obtain ⟨a1, us, rfl, hq, hd⟩ := ra.list_inv
              obtain ⟨a2, ws, rfl, hq2, hd2⟩ := rb.list_inv
              have hq : SqL c.K Y1 a1 us := .inl (.inl hq)
              have hq2 : SqL c.K Y1 a2 ws := .inl (.inl hq2)
              refine ⟨a1, a2, us, ws, rfl, .inl ⟨hXK ▸ F1.sub.seq hq, hXK ▸ F1.sub.seq hq2, ?_⟩⟩
              rw [hXK]
              refine q Y1 H1 _ e1 F1 ⟨fun i H e hi => ?_, fun H e => ?_, fun i H x H' d e hd' hy Y2 e2 e3 => ?_⟩
              · rw [pairUp_length] at hi
                have h1 := hd.length
                have h2 := hd2.length
                exact ⟨us, ws, us[i]'(by omega), ws[i]'(by omega), e.seq hq, e.seq hq2, List.getElem?_eq_getElem _, List.getElem?_eq_getElem _⟩
              · refine ⟨us, ws, e.seq hq, e.seq hq2, ?_⟩
                rw [pairUp_length]
                have h1 := hd.length
                have h2 := hd2.length
                omega
              · obtain ⟨T, x1, x2, rfl, nT, rfl, f1, f2⟩ := hy
                obtain ⟨dx, dy, g1, g2, rfl⟩ := pairUp_get hd'
                obtain ⟨v1, h1, r1⟩ := hd.get g1
                obtain ⟨v2, h2, r2⟩ := hd2.get g2
                have z1 := f1 us (e.seq hq)
                have z2 := f2 ws (e.seq hq2)
                rw [h1] at z1
                rw [h2] at z2
                cases z1; cases z2
                exact ⟨_, .tup nT (.cons (r1.mono e2) (.cons (r2.mono e2) .nil))⟩
            · rename_i xs ys
              cases eds
              obtain ⟨a1, us, rfl, hq, hd⟩ := ra.tuple_inv
              obtain ⟨a2, ws, rfl, hq2, hd2⟩ := rb.tuple_inv
              refine ⟨a1, a2, us, ws, rfl, .inr ⟨hXK ▸ Same.sqt F1.sub hq, hXK ▸ Same.sqt F1.sub hq2, ?_⟩⟩
              rw [hXK]
              refine q Y1 H1 _ e1 F1 ⟨fun i H e hi => ?_, fun H e => ?_, fun i H x H' d e hd' hy Y2 e2 e3 => ?_⟩
              · rw [pairUp_length] at hi
                have h1 := hd.length
                have h2 := hd2.length
                exact ⟨us, ws, us[i]'(by omega), ws[i]'(by omega), Same.sqt e hq, Same.sqt e hq2, List.getElem?_eq_getElem _, List.getElem?_eq_getElem _⟩
              · refine ⟨us, ws, Same.sqt e hq, Same.sqt e hq2, ?_⟩
                rw [pairUp_length]
                have h1 := hd.length
                have h2 := hd2.length
                omega
              · obtain ⟨T, x1, x2, rfl, nT, rfl, f1, f2⟩ := hy
                obtain ⟨dx, dy, g1, g2, rfl⟩ := pairUp_get hd'
                obtain ⟨v1, h1, r1⟩ := hd.get g1
                obtain ⟨v2, h2, r2⟩ := hd2.get g2
                have z1 := f1 us (Same.sqt e hq)
                have z2 := f2 ws (Same.sqt e hq2)
                rw [h1] at z1
                rw [h2] at z2
                cases z1; cases z2
                exact ⟨_, .tup nT (.cons (r1.mono e2) (.cons (r2.mono e2) .nil))⟩
            · cases eds
          · exact q.elim
def numbered : Nat → List D → List D
  | _, [] => []
  | i, x :: xs => .tuple [.int (i : Int), x] :: numbered (i + 1) xs
theorem numbered_length : ∀ (xs : List D) (i : Nat), (numbered i xs).length = xs.length
  | [], _ => rfl
  | x :: xs, i => by simp [numbered, numbered_length xs]
theorem numbered_get : ∀ {xs : List D} {k i : Nat} {d : D}, (numbered k xs)[i]? = some d → ∃ x, xs[i]? = some x ∧ d = .tuple [.int ((k + i : Nat) : Int), x]
  | [], _, _, _, h => by simp [numbered] at h
  | x :: xs, k, 0, d, h => by simp [numbered] at h; exact ⟨x, rfl, h.symm⟩
  | x :: xs, k, i + 1, d, h => by
    simp only [numbered, List.getElem?_cons_succ] at h
    obtain ⟨x', h1, h2⟩ := numbered_get h
    exact ⟨x', by simpa using h1, by rw [h2]; congr 4; omega⟩
def iEnumL (f : EF) : IF := fun s => (f s).bind fun d s => match d with
  | .list xs => .ok (numbered 0 xs) s
  | _ => .bad
theorem mi_enumL {elts : List Expr} {kk : Nat} {tpos : Pos} (hXK : X.K = c.K) (hg : Gl X "enumerate") (hm : X.mg "enumerate" = none) (ha : ME X c fa a) (hs : starEach [a] X.env = [(false, eval a X.env)] := by rfl) (hs2 : starEach [a] X.env = (false, eval a X.env) :: starEach [] X.env := by rfl) :
    MI_ X c (iEnumL fa) (.Tuple elts kk tpos) (.Call (.Name "enumerate" p) [a] [] pos) := by
  refine ⟨PI.imp (pi_enum hg hm (ma_cons ha ma_nil hs2).run hs) fun σ H R q => ?_⟩
  obtain ⟨ξ, Y, s, tv, ts, hK, F, q⟩ := q
  refine ⟨ξ, Y, s, tv, ts, hK, F, ?_⟩
  unfold iEnumL at q
  unfold aCons aNil
  cases e : fa s with
  | bad => rw [e] at q; exact q.elim
  | ex x s1 => rw [e] at q; exact q
  | ok d s1 =>
    rw [e, Res.bind_ok] at q
    rw [Res.bind_ok, Res.bind_ok]
    intro Y1 H1 vs e1 F1 r1
    cases r1 with
    | cons ra rb =>
      cases rb
      cases d with
      | list ds =>
        obtain ⟨a, us, rfl, hq, hd⟩ := ra.list_inv
        have hq : SqL c.K Y1 a us := .inl (.inl hq)
        refine ⟨a, us, rfl, hXK ▸ F1.sub.seq hq, ?_⟩
        rw [hXK]
        refine q Y1 H1 _ e1 F1 ⟨fun i H e hi => ?_, fun H e => ?_, fun i H x H' d e hd' hy Y2 e2 e3 => ?_⟩
        · rw [numbered_length] at hi
          have h1 := hd.length
          exact ⟨us, us[i]'(by omega), e.seq hq, List.getElem?_eq_getElem _⟩
        · refine ⟨us, e.seq hq, ?_⟩
          rw [numbered_length, hd.length]
          exact Nat.le_refl _
        · obtain ⟨T, x1, rfl, nT, rfl, f1⟩ := hy
          obtain ⟨dx, g1, rfl⟩ := numbered_get hd'
          obtain ⟨v1, h1, r1⟩ := hd.get g1
          have z1 := f1 us (e.seq hq)
          rw [h1] at z1
          cases z1
          refine ⟨_, .tup nT (.cons ?_ (.cons (r1.mono e2) .nil))⟩
          rw [Nat.zero_add]
          exact .int _
      | none => exact q.elim
      | bool _ => exact q.elim
      | int _ => exact q.elim
      | str _ => exact q.elim
      | tuple _ => exact q.elim
      | dict _ => exact q.elim
end
end MI

set_option Elab.async false
set_option linter.all false
set_option autoImplicit false
set_option maxRecDepth 100000
/-! MI: owned names handed on, places, more assignments. -/
namespace MI
open PySem PySem.Spec L2
section
variable {X : Cx} {c : Ct} {K : PySem.W.Frag} {ξ : Fx} {Y H : Hp} {σ : St} {s : S} {tv : List V} {ts : List OD}
variable {fa fb : EF} {a b : Expr} {p pos : Pos}
/-- what slot i owns becomes a temp's -/
theorem FS.takeS {o : OD} (F : FS ξ Y H σ s tv ts) {i : Nat} (h : s[i]? = some (some o)) : ∃ v, σ[i]? = some (some v) ∧ FS ξ Y H σ (s.set i none) (tv ++ [v]) (ts ++ [o]) := by
  obtain ⟨g, R⟩ := F.rel
  obtain ⟨v, hv, r⟩ := R.slot i o h
  refine ⟨v, hv, F.re R (fun k a => (k = .inr ts.length ∧ g (.inl i) a) ∨ (k ≠ .inl i ∧ k ≠ .inr ts.length ∧ g k a)) (Same.refl _) F.sub (fun a q => .inl q) (fun k a f => ?_) (fun k j a f f' => ?_) (by simp [F.len]) (by simp [F.tlen]) (fun j o e => ?_) (fun j o e => ?_)⟩
  · rcases f with ⟨_, f⟩ | ⟨_, _, f⟩
    · exact ⟨(R.own _ a f).2.1, _, f⟩
    · exact ⟨(R.own _ a f).2.1, _, f⟩
  · rcases f with ⟨rfl, f⟩ | ⟨n1, n2, f⟩
    · rcases f' with ⟨rfl, _⟩ | ⟨n1, _, f'⟩
      · rfl
      · exact (n1 (R.sep _ _ _ f' f)).elim
    · rcases f' with ⟨rfl, f'⟩ | ⟨_, _, f'⟩
      · exact (n1 (R.sep _ _ _ f f')).elim
      · exact R.sep _ _ _ f f'
  · by_cases hj : j = i
    · subst hj
      rw [List.getElem?_set_self (lt_of_get h)] at e
      cases e
    · rw [List.getElem?_set_ne (Ne.symm hj)] at e
      obtain ⟨v, e1, r⟩ := R.slot j o e
      exact ⟨v, e1, r.iff fun a => ⟨fun f => .inr ⟨fun z => hj (Sum.inl.inj z), (fun z => nomatch z), f⟩, fun f => f.elim (fun z => nomatch z.1) fun z => z.2.2⟩⟩
  · rcases getElem?_snoc e with e | ⟨rfl, rfl⟩
    · obtain ⟨v, e1, r⟩ := R.temp j o e
      have hj := lt_of_get e
      refine ⟨v, snoc_old e1, r.iff fun a => ⟨fun f => .inr ⟨(fun z => nomatch z), (fun z => by cases z; omega), f⟩, fun f => f.elim (fun z => ?_) fun z => z.2.2⟩⟩
      obtain ⟨z, _⟩ := z
      cases z
      omega
    · exact ⟨v, by rw [F.tlen]; exact snoc_new, r.iff fun a => ⟨fun f => .inl ⟨rfl, f⟩, fun f => f.elim (fun z => z.2) fun z => (z.2.1 rfl).elim⟩⟩
/-- a name, with what it owns -/
def oVar (i : Nat) : OF := fun s => match s[i]? with
  | some (some (.fz d)) => .ok (.fz d) s
  | some (some o) => .ok o (s.set i none)
  | _ => .bad
theorem mo_var {i : Nat} {e : Expr} (h : PE X e (tVar i)) : MO X c (oVar i) e := by
  refine ⟨PE.imp h fun σ H Q q => ?_⟩
  obtain ⟨ξ, Y, s, tv, ts, hK, F, q⟩ := q
  unfold oVar at q
  split at q
  · rename_i d e
    obtain ⟨v, hv, r⟩ := F.frozen e
    exact ⟨v, hv, q Y H v (Same.refl _) (F.pushD r)⟩
  · rename_i o _ e
    obtain ⟨v, hv, F2⟩ := F.takeS e
    exact ⟨v, hv, q Y H v (Same.refl _) F2⟩
  · exact q.elim
/-- x[e] for a name x, frozen or owning a list -/
def eAt (i : Nat) (f : EF) : EF := fun s => match s[i]? with
  | some (some (.fz d)) => (f s).bind fun k s1 => match ixD d k with
    | some (.fz d') => .ok d' s1
    | _ => .bad
  | some (some (.ol _)) => (f s).bind fun k s1 => match k, s1[i]? with
    | .int n, some (some (.ol ds)) => match atI ds n with
      | some d => .ok d s1
      | none => .bad
    | _, _ => .bad
  | _ => .bad
theorem me_at {i : Nat} (hXK : X.K = c.K) (ho : PE X a (tVar i)) (hb : ME X c fb b) (hs : PlainIx b) : ME X c (eAt i fb) (.Subscript a b pos) := by
  refine ⟨PE.imp (pe_ix (IxR.or ix_list ix_tup) ho hb.run hs) fun σ H Q q => ?_⟩
  obtain ⟨ξ, Y, s, tv, ts, hK, F, q⟩ := q
  unfold eAt at q
  split at q
  · rename_i d e0
    obtain ⟨x, hx, r0⟩ := F.frozen e0
    refine ⟨x, hx, tE_seq hK F q fun k s1 Y1 H1 v e1 F1 r1 q1 => ?_⟩
    split at q1
    · rename_i d' ed
      have r0 : Dr c.K Y1 x d := hK ▸ r0.mono e1
      unfold ixD at ed
      cases el : ixL d k with
      | some o =>
        rw [el] at ed
        cases ed
        unfold ixL at el
        split at el
        · simp only [Option.map_eq_some_iff] at el
          obtain ⟨d2, el, z⟩ := el
          cases z
          obtain ⟨p, us, rfl, h1, d1⟩ := r0.list_inv
          rw [r1.int_inv]
          obtain ⟨w, hw, r⟩ := d1.at el
          exact .inl ⟨p, us, _, w, rfl, rfl, .inl (.inl (F1.sub _ _ h1)), hw, q1 Y1 H1 _ e1 F1 r⟩
        · cases el
      | none =>
        rw [el] at ed
        have ed : ixT d k = some (.fz d') := by simpa using ed
        unfold ixT at ed
        split at ed
        · simp only [Option.map_eq_some_iff] at ed
          obtain ⟨d2, ed, z⟩ := ed
          cases z
          obtain ⟨p, us, rfl, h1, d1⟩ := r0.tuple_inv
          rw [r1.int_inv]
          obtain ⟨w, hw, r⟩ := d1.at ed
          exact .inr ⟨p, us, _, w, rfl, rfl, hXK ▸ Same.sqt F1.sub h1, hw, q1 Y1 H1 _ e1 F1 r⟩
        · cases ed
    · exact q1.elim
  · rename_i ds0 e0
    obtain ⟨p, vs0, hx, _⟩ := F.listS e0
    refine ⟨.ref p, hx, tE_seq hK F q fun k s1 Y1 H1 v e1 F1 r1 q1 => ?_⟩
    split at q1
    · rename_i n ds en
      split at q1
      · rename_i d ed
        obtain ⟨p', vs, hx', hp, hd, _⟩ := F1.listS en
        rw [hx] at hx'
        cases hx'
        obtain ⟨w, hw, r⟩ := hd.at ed
        rw [r1.int_inv]
        exact .inl ⟨p, vs, n, w, rfl, rfl, .inl (.inl hp), hw, q1 Y1 H1 _ e1 F1 (hK ▸ r)⟩
      · exact q1.elim
    · exact q1.elim
  · exact q.elim
/-- a list display of owned items -/
theorem FS.joinN {vs : List V} {os : List OD} {p : Addr} (F : FS ξ Y H σ s (tv ++ vs) (ts ++ os)) (hl : ts.length = tv.length) (hp : H p = none) : FS ξ Y (upd H p (.lst vs)) σ s (tv ++ [.ref p]) (ts ++ [.on os]) := by
  have F1 := F.newJ hp (.lst vs)
  have tl : os.length = vs.length := by have := F.tlen; simp at this; omega
  obtain ⟨g, R⟩ := F.rel
  have nog : ∀ i, ¬ g i p := fun i f => (R.own i p f).1 hp
  have kk : ∀ i a, g i a → upd H p (.lst vs) a = H a := fun i a f => upd_ne fun z => nog i (z ▸ f)
  let lo : Nat ⊕ Nat → Prop := fun k => match k with
    | .inl _ => True
    | .inr j => j < ts.length
  let gi : Nat → Addr → Prop := fun i a => i < os.length ∧ g (.inr (ts.length + i)) a
  let hi : Addr → Prop := fun a => a = p ∨ ∃ i, gi i a
  have nlo : ¬ lo (.inr ts.length) := Nat.lt_irrefl _
  have nlo2 : ∀ i, ¬ lo (.inr (ts.length + i)) := fun i (z : ts.length + i < ts.length) => by omega
  refine ⟨F1.sub, F1.z0, F1.fresh, F1.keep, F1.live, F.len, by simp [hl], fun k a => (k = .inr ts.length ∧ hi a) ∨ (lo k ∧ g k a), fun i o e => ?_, fun j o e => ?_, fun k a f => ?_, fun k j a f f' => ?_⟩
  · obtain ⟨v, e1, r⟩ := R.slot i o e
    exact ⟨v, e1, (r.mono (Same.refl _) fun a f => kk _ a f).iff fun a => ⟨fun f => .inr ⟨trivial, f⟩, fun f => f.elim (fun z => nomatch z.1) fun z => z.2⟩⟩
  · rcases getElem?_snoc e with e | ⟨rfl, rfl⟩
    · have hj := lt_of_get e
      obtain ⟨v, e1, r⟩ := R.temp j o (by rw [List.getElem?_append_left hj]; exact e)
      rw [List.getElem?_append_left (by omega)] at e1
      refine ⟨v, snoc_old e1, (r.mono (Same.refl _) fun a f => kk _ a f).iff fun a => ⟨fun f => .inr ⟨hj, f⟩, fun f => f.elim (fun z => ?_) fun z => z.2⟩⟩
      obtain ⟨z, _⟩ := z
      cases z
      omega
    · refine ⟨.ref p, by rw [hl]; exact snoc_new, (RO.on gi upd_same tl.symm (fun i o v ho hv => ?_) (fun i z => nog _ z.2) (fun i j a z z' => ?_) fun i a z => z.1).iff fun a => ⟨fun f => .inl ⟨rfl, f⟩, fun f => f.elim (fun z => z.2) fun z => (nlo z.1).elim⟩⟩
      · have hio := lt_of_get ho
        obtain ⟨v', e1, r⟩ := R.temp (ts.length + i) o (by rw [List.getElem?_append_right (by omega), Nat.add_sub_cancel_left]; exact ho)
        rw [hl, List.getElem?_append_right (by omega), Nat.add_sub_cancel_left, hv] at e1
        cases e1
        refine (r.mono (Same.refl _) fun a f => kk _ a (hl ▸ f)).iff fun a => ⟨fun f => ⟨hio, f⟩, fun f => f.2⟩
      · have := R.sep _ _ _ z.2 z'.2
        have := Sum.inr.inj this
        omega
  · rcases f with ⟨rfl, rfl | ⟨i, f⟩⟩ | ⟨_, f⟩
    · refine ⟨by rw [upd_same]; simp, F.sub.free hp, ?_⟩
      by_cases m : ξ.H0 a = none
      · exact .inl m
      · exact (F.live a m hp).elim
    · have h1 := R.own _ a f.2
      exact ⟨by rw [kk _ _ f.2]; exact h1.1, h1.2⟩
    · have h1 := R.own _ a f
      exact ⟨by rw [kk _ _ f]; exact h1.1, h1.2⟩
  · rcases f with ⟨rfl, f⟩ | ⟨l1, f⟩
    · rcases f' with ⟨rfl, _⟩ | ⟨l2, f'⟩
      · rfl
      · rcases f with rfl | ⟨i, f⟩
        · exact (nog _ f').elim
        · have := R.sep _ _ _ f.2 f'
          subst this
          exact (nlo2 _ l2).elim
    · rcases f' with ⟨rfl, f'⟩ | ⟨l2, f'⟩
      · rcases f' with rfl | ⟨i, f'⟩
        · exact (nog _ f).elim
        · have := R.sep _ _ _ f f'.2
          subst this
          exact (nlo2 _ l1).elim
      · exact R.sep _ _ _ f f'
def oNest (g : AOF) : OF := fun s => (g s).bind fun os s => if os.length ≤ sizeLine then .ok (.on os) s else .bad
theorem mo_nest {g : AOF} {es : List Expr} (h : MAO X c g es) : MO X c (oNest g) (.List es pos) := by
  refine ⟨PE.imp (pe_lst h.run) fun σ H Q q => ?_⟩
  obtain ⟨ξ, Y, s, tv, ts, hK, F, q⟩ := q
  refine ⟨ξ, Y, s, tv, ts, hK, F, ?_⟩
  unfold oNest at q
  cases e : g s with
  | bad => rw [e] at q; exact q.elim
  | ex x s1 => rw [e] at q; exact q
  | ok os s1 =>
    rw [e, Res.bind_ok] at q
    split at q
    · rename_i hsz
      intro Y1 H1 vs e1 F1
      have tl : os.length = vs.length := by have h1 := F1.tlen; have h2 := F.tlen; simp at h1; omega
      exact ⟨by rw [← tl]; exact hsz, fun p hp => q Y1 _ _ e1 (F1.joinN F.tlen hp)⟩
    · exact q.elim
/-- three names = three values -/
theorem ms_par3 {rf : List Bool} {i j l : Nat} {x y z : Str} {f : AOF} {a b d : Expr} {px py pz pt pos : Pos} {kt k2 pt2} (hc : X.calm = true) (hN : X.N.Nodup) (hi : X.N[i]? = some x) (hj : X.N[j]? = some y) (hl : X.N[l]? = some z) (hij : i ≠ j) (hil : i ≠ l) (hjl : j ≠ l)
    (hx : X.env.scope.names.lookup x = some .local) (hy : X.env.scope.names.lookup y = some .local) (hz : X.env.scope.names.lookup z = some .local) (ha : MAO X c f [a, b, d]) (hri : rf[i]? ≠ some true) (hrj : rf[j]? ≠ some true) (hrl : rf[l]? ≠ some true)
    (hw : swappedStores [.Tuple [.Name x px, .Name y py, .Name z pz] kt pt] (.Tuple [a, b, d] k2 pt2) X.env = pure (some [x, y, z]))
    (hs : swapsWithSole [.Tuple [.Name x px, .Name y py, .Name z pz] kt pt] (.Tuple [a, b, d] k2 pt2) pos.line X.env = pure false := by rfl) :
    MS X c rf (sPar [i, j, l] f) (.Assign [.Tuple [.Name x px, .Name y py, .Name z pz] kt pt] (.Tuple [a, b, d] k2 pt2) pos) := by
  refine ⟨PS.imp (ps_par3 hc hN hi hj hl hij hil hjl hx hy hz ha.run hw hs) fun D σ H q => ?_⟩
  obtain ⟨ξ, Y, s, hK, F, q⟩ := q
  refine sAO_seq hK F q fun os s1 Y1 H1 vs e1 F1 q1 => ?_
  split at q1
  · rename_i hl
    have hl2 : vs.length = 3 := F1.tlen.symm.trans hl
    obtain ⟨u, v, w, rfl⟩ : ∃ u v w, vs = [u, v, w] := by
      match vs, hl2 with
      | [u, v, w], _ => exact ⟨u, v, w, rfl⟩
    exact ⟨u, v, w, rfl, q1 Y1 H1 _ e1 (((Keep.set hri).trans (.set hrj)).trans (.set hrl)) (FS.asgAll (is := [i, j, l]) hl.symm F1)⟩
  · exact q1.elim
end
end MI

set_option Elab.async false
set_option linter.all false
set_option autoImplicit false
set_option maxRecDepth 100000
/-! MI: calls by names, lending in tests, comprehensions frozen at once. -/
namespace MI
open PySem PySem.Spec L2
def pickL {α : Type} (z : α) (ix : List Nat) (l : List α) : List α := ix.map fun j => l.getD j z
def pickIf {α : Type} (z : α) (m n : Nat) (ix : List Nat) (us ws : List α) : List α := if us.length = m ∧ ws.length = n then pickL z ix (us ++ ws) else []
theorem Vals.append' {xs ys : List V} {us ws : List Value} (r : Vals xs us) (r2 : Vals ys ws) : Vals (xs ++ ys) (us ++ ws) := by
  induction r with
  | nil => exact r2
  | cons a _ ih => exact .cons a ih
theorem Vals.pick {xs : List V} {us : List Value} (r : Vals xs us) : ∀ ix : List Nat, Vals (pickL .non ix xs) (pickL .none ix us)
  | [] => .nil
  | j :: ix => by
    refine .cons ?_ (Vals.pick r ix)
    cases e : xs[j]? with
    | none =>
      have h := r.length
      have : us[j]? = none := by
        rw [List.getElem?_eq_none_iff] at e ⊢
        omega
      simp only [List.getD, e, this, Option.getD_none]
      rfl
    | some x =>
      obtain ⟨u, e2, q⟩ := r.get e
      simp only [List.getD, e, e2, Option.getD_some]
      exact q
theorem DrAll.pick {K : PySem.W.Frag} {Y : Hp} {xs : List V} {ds : List D} (r : DrAll K Y xs ds) : ∀ ix : List Nat, DrAll K Y (pickL .non ix xs) (pickL .none ix ds)
  | [] => .nil
  | j :: ix => by
    refine .cons ?_ (DrAll.pick r ix)
    cases e : xs[j]? with
    | none =>
      have h := r.length
      have : ds[j]? = none := by
        rw [List.getElem?_eq_none_iff] at e ⊢
        omega
      simp only [List.getD, e, this, Option.getD_none]
      exact .non
    | some x =>
      obtain ⟨d, e2, q⟩ := r.getV e
      simp only [List.getD, e, e2, Option.getD_some]
      exact q
theorem kb_of {K : PySem.W.Frag} {x qual : Str} {st : Stmt} {f : Addr} {fd : FuncData} {ps ks : List Str} {m : Nat} {ix : List Nat} (F : Fun K x qual st f fd) (hne : ps ≠ [])
    (h : ∀ (kV doc pm : Value) (an : Option Addr) (cdv ct : Value) (us ws : List Value), us.length = m → ws.length = ks.length →
      bindArgs (PySem.W.fnOf x qual (defArgs st) (defBody st) (defScope st) .none kV doc pm an cdv ct) ⟨us, ks.zip ws⟩ = pure (ps.zip (pickL .none ix (us ++ ws)))) :
    KBinds K fd ps ks (pickIf .none m ks.length ix) (pickIf .non m ks.length ix) := by
  obtain ⟨oc, od, kV, doc, pm, an, cdv, ct, osl, rfl, lk, hcd⟩ := F.ex
  refine ⟨fun s us ws KX hl => ?_, fun {vs us zs ws} r rz => ?_⟩
  · unfold pickIf at hl ⊢
    split at hl
    · rename_i hh
      rw [if_pos hh]
      exact .of_eq (h kV doc pm an cdv ct us ws hh.1 hh.2)
    · exact (hne (List.eq_nil_of_length_eq_zero hl.symm)).elim
  · unfold pickIf
    rw [r.length, rz.length]
    split
    · exact Vals.pick (Vals.append' r rz) ix
    · exact .nil
section
variable {CX : CXT} {X : Cx} {k : Nat} {f : Addr} {fd : FuncData} {ps ks : List Str} {sp : Sp} {E : L2.St → XK} {x : Str} {p pos : Pos} {kws : List Keyword} {g : List Value → List Value → List Value} {gV : List V → List V → List V} {tk : TA}
def tCallGK0 (sp : Sp) (gV : List V → List V → List V) (E : L2.St → XK) (tk : TA) : TE := fun σ H Q => tk σ H fun zs H2 => sp (gV [] zs) H2 Q (E σ)
theorem pe_callGK0 (F : FnG X.prog X.w X.K X.mg X.base CX k f fd ps sp) (hG : X.A.guards = some []) (hr : Room k X.A) (hg : Gl X x) (hm : X.mg x = some (.ref f)) (hk : PySem.W.keepIn X.K (.ref f) = true) (hb : KBinds X.K fd ps ks g gV) (hx : ∀ σ, PassesAt CX X σ (E σ))
    (hkw : PK X kws tk) (hall : (backToKw pos (keywordEach kws X.env)).all (·.1.isSome) = true := by rfl) (hks : (backToKw pos (keywordEach kws X.env)).filterMap (·.1) = ks := by rfl)
    (hdb : (x == ("__debug__" : Str)) = false := by decide)
    (hpl : ((backTo pos (starEach [] X.env)).any (·.1) || (backToKw pos (keywordEach kws X.env)).any (·.1.isNone)) = false := by rfl) :
    PE X (.Call (.Name x p) [] kws pos) (tCallGK0 sp gV E tk) := by
  constructor
  intro pins s σ H Q I h
  refine wpAny_Call_Name_kw (ld_glob I hg hm ?_ hdb)
  refine PySem.W.callWith_KW0 (h₀ := X.base) I.ok.mod.kin hk hall (thn (hkw.run pos pins s σ H _ I h) ?_) hpl
  rintro ws s2 ⟨zs, H2, I2, rz, pr⟩
  refine ⟨I2.kIn, ?_⟩
  rw [hks]
  exact call_of (run_fnG F hG hr (hb.to s2 [] ws I2.kIn (by rw [← (hb.rel .nil rz).length]; exact F.len _ _ _ _ pr)) (hx σ) I2 (hb.rel .nil rz) pr)
end
section
variable {X : Cx} {c : Ct} {K : PySem.W.Frag} {ξ : Fx} {Y H : Hp} {σ : St} {s : S} {tv : List V} {ts : List OD}
variable {k : Nat} {f : Addr} {fd : FuncData} {ps ks : List Str} {x : Str} {p pos : Pos} {e : Expr} {es : List Expr} {F : List OD → Res OD} {n : Nat} {g h : AF} {kws : List Keyword} {m : Nat} {ix : List Nat}
/-- f(.., k = v): ix tells for each parameter its place among the values handed in -/
def oCallP (m n : Nat) (ix : List Nat) (g h : AF) (F : List OD → Res OD) : OF := fun s => (g s).bind fun ds s1 => (h s1).bind fun es s2 => if ds.length = m ∧ es.length = n then (match F ((pickL .none ix (ds ++ es)).map .fz) with
  | .ok o _ => .ok o s2
  | _ => .bad) else .bad
theorem callP_core {vs ws : List V} {ds es : List D} {Q : VK} (hK : ξ.K = c.K) (F2 : FS ξ Y H σ s tv ts) (r1 : DrAll c.K Y vs ds) (r2 : DrAll c.K Y ws es) (hn : ix.length = n)
    (q2 : out c ξ Y σ tv ts (fun o s' => ∀ Y' H' v, Same Y Y' → FS ξ Y' H' σ s' (tv ++ [v]) (ts ++ [o]) → Q v H') (if ds.length = m ∧ es.length = ks.length then (match F ((pickL .none ix (ds ++ es)).map .fz) with
      | .ok o _ => .ok o s
      | _ => .bad) else .bad)) : spF c.K c.er false n F (pickIf .non m ks.length ix vs ws) H Q (fun cl x H => False) := by
  split at q2
  · rename_i hh
    have r3 : DrAll c.K Y (pickL .non ix (vs ++ ws)) (pickL .none ix (ds ++ es)) := (r1.append r2).pick ix
    unfold pickIf
    rw [if_pos ⟨r1.length.trans hh.1, r2.length.trans hh.2⟩]
    obtain ⟨ξ', a1, b1, c1, d1, back⟩ := F2.enterD (hK ▸ r3)
    refine ⟨ξ', Y, (pickL .none ix (ds ++ es)).map OD.fz, a1.trans hK, b1, c1, by simp [pickL, hn], d1, ?_⟩
    cases ef : F ((pickL .none ix (ds ++ es)).map OD.fz) with
    | ok o s3 =>
      rw [ef] at q2
      exact fun Y3 H3 v e3 F3 => q2 Y3 H3 v e3 (back Y3 H3 s3 [v] [o] e3 F3)
    | ex x s3 => rw [ef] at q2; exact q2.elim
    | bad => rw [ef] at q2; exact q2.elim
  · exact q2.elim
theorem mo_callP0 (Fo : FnG X.prog X.w X.K X.mg X.base CX0 k f fd ps (spF c.K c.er false n F)) (hG : X.A.guards = some []) (hr : Room k X.A) (hg : Gl X x) (hm : X.mg x = some (.ref f)) (hk : PySem.W.keepIn X.K (.ref f) = true)
    (hb : KBinds X.K fd ps ks (pickIf .none 0 ks.length ix) (pickIf .non 0 ks.length ix)) (hn : ix.length = n) (hkw : MK X c h kws)
    (hall : (backToKw pos (keywordEach kws X.env)).all (·.1.isSome) = true := by rfl) (hks : (backToKw pos (keywordEach kws X.env)).filterMap (·.1) = ks := by rfl)
    (hdb : (x == ("__debug__" : Str)) = false := by decide)
    (hpl : ((backTo pos (starEach [] X.env)).any (·.1) || (backToKw pos (keywordEach kws X.env)).any (·.1.isNone)) = false := by rfl) :
    MO X c (oCallP 0 ks.length ix aNil h F) (.Call (.Name x p) [] kws pos) := by
  refine ⟨PE.imp (pe_callGK0 (E := fun σ cl x H => False) Fo hG hr hg hm hk hb (fun σ => fun _ _ _ _ _ _ z => z.elim) hkw.run hall hks hdb hpl) fun σ H Q q => ?_⟩
  obtain ⟨ξ, Y, s, tv, ts, hK, Fr, q⟩ := q
  refine tA_seq hK Fr q fun es s2 Y2 H2 ws e2 F2 r2 q2 => ?_
  exact callP_core (vs := []) (ds := []) hK F2 .nil r2 hn (out.mono c q2 e2 fun o s z Y' H' v a b => z Y' H' v (e2.trans a) b)
theorem mo_callP (Fo : FnG X.prog X.w X.K X.mg X.base CX0 k f fd ps (spF c.K c.er false n F)) (hG : X.A.guards = some []) (hr : Room k X.A) (hg : Gl X x) (hm : X.mg x = some (.ref f)) (hk : PySem.W.keepIn X.K (.ref f) = true)
    (hb : KBinds X.K fd ps ks (pickIf .none m ks.length ix) (pickIf .non m ks.length ix)) (hn : ix.length = n) (ha : MA X c g (e :: es)) (hkw : MK X c h kws)
    (hall : (backToKw pos (keywordEach kws X.env)).all (·.1.isSome) = true := by rfl) (hks : (backToKw pos (keywordEach kws X.env)).filterMap (·.1) = ks := by rfl)
    (hdb : (x == ("__debug__" : Str)) = false := by decide) (he : starEach (e :: es) X.env = (false, eval e X.env) :: starEach es X.env := by rfl)
    (hpl : ((backTo pos (starEach (e :: es) X.env)).any (·.1) || (backToKw pos (keywordEach kws X.env)).any (·.1.isNone)) = false := by rfl) :
    MO X c (oCallP m ks.length ix g h F) (.Call (.Name x p) (e :: es) kws pos) := by
  refine ⟨PE.imp (pe_callGK (E := fun σ cl x H => False) Fo hG hr hg hm hk hb (fun σ => fun _ _ _ _ _ _ z => z.elim) ha.run hkw.run hall hks hdb he hpl) fun σ H Q q => ?_⟩
  obtain ⟨ξ, Y, s, tv, ts, hK, Fr, q⟩ := q
  refine tA_seq hK Fr q fun ds s1 Y1 H1 vs e1 F1 r1 q1 => ?_
  refine tA_seq hK F1 (out.mono c q1 e1 (fun _ _ z => z)) fun es s2 Y2 H2 ws e2 F2 r2 q2 => ?_
  exact callP_core hK F2 (r1.mono e2) r2 hn (out.mono c q2 e2 fun o s z Y' H' v a b => z Y' H' v ((e1.trans e2).trans a) b)
/-! ### lending in tests -/
def kLend (ms : List Mode) (f : TF) : TF := fun s => if ms.length = s.length then match f (brw ms s) with
    | .ok d s' => match rst ms s s' with
      | some r => .ok d r
      | none => .bad
    | .ex e s' => match rst ms s s' with
      | some r => .ex e r
      | none => .bad
    | .bad => .bad
  else .bad
theorem mt_lend {ms : List Mode} {f : TF} {e : Expr} (h : MT X c f e) : MT X c (kLend ms f) e := by
  refine ⟨PT.imp h.run fun σ H Q q => ?_⟩
  obtain ⟨ξ, Y, s, tv, ts, hK, F, q⟩ := q
  unfold kLend at q
  split at q
  · rename_i hm
    obtain ⟨ξ', Y1, hK', e1, F1, back⟩ := F.lend hm
    refine ⟨ξ', Y1, brw ms s, [], [], hK'.trans hK, F1, ?_⟩
    cases ef : f (brw ms s) with
    | ok d s' =>
      rw [ef] at q
      intro Y' H' e2 F2
      simp only at q
      split at q
      · rename_i r er
        obtain ⟨Y2, e3, F3, r3⟩ := back Y' H' s' r [] [] e2 F2 er rfl
        rw [List.append_nil, List.append_nil] at F3
        exact q Y2 H' e3 F3
      · exact q.elim
    | ex x s' =>
      rw [ef] at q
      intro Y' H' cl y e2 F2 er2
      simp only at q
      split at q
      · rename_i r er
        obtain ⟨Y2, e3, F3, _⟩ := back Y' H' s' r [] [] e2 F2 er rfl
        rw [List.append_nil, List.append_nil] at F3
        exact q Y2 H' cl y e3 F3 er2
      · exact q.elim
    | bad => rw [ef] at q; exact q.elim
  · exact q.elim
/-! ### y = [..], frozen -/
theorem sAsgFrz_core {rf : List Bool} {i : Nat} {f : OF} {D : Ends} {σ : St} {H : Hp} (hr : rf[i]? ≠ some true) (q : tS c rf (sAsg (eFrz f) (gN i)) D σ H) : tAsg (tO c f) (gName i) D σ H := by
  obtain ⟨ξ, Y, s, hK, F, q⟩ := q
  unfold sAsg eFrz at q
  refine ⟨ξ, Y, s, [], [], hK, F, ?_⟩
  cases e : f s with
  | ok o s1 =>
    rw [e] at q
    intro Y1 H1 v e1 F1
    obtain ⟨Y2, e2, F2, r2⟩ := FS.freezeT (tv := []) (ts := []) F1
    exact q Y2 H1 _ (e1.trans e2) (.set hr) (F2.asgD r2 i)
  | ex x s1 => rw [e] at q; exact fun Y' H' cl y e' F' er => q Y' H' σ cl y e' (.refl _ _) F' er
  | bad => rw [e] at q; exact q
theorem ms_asgLc {rf : List Bool} {ow : List Bool} {it : IF} {g : GF} {t : TF} {f : EF} {elt tg iter : Expr} {ifs : List Expr} {scope : Scope} {own : List (Str × Nat)} {pos spos py : Pos} {i : Nat} {y : Str} (hc : X.calm = true) (hN : X.N.Nodup) (hy : X.N[i]? = some y) (hyl : X.env.scope.names.lookup y = some .local)
    (hsw : swapsWith (.ListComp elt [⟨tg, iter, ifs, 0⟩] scope pos) (some (.Name y py)) spos.line X.env = pure true) (ok : BlkOk X.N X.env.scope scope own) (hf : Flags ow X.N.length (own.map (·.2)))
    (hi : MI_ X c it tg iter) (hg : ∀ (s : Shared) (H : Hp) (C : Addr) (cl : List (Str × Addr)) (fp : List Addr), MG (X.blk s H scope (compEnvC scope cl C X.env) fp) c.blk (ow.map not) g tg)
    (ht : ∀ (s : Shared) (H : Hp) (C : Addr) (cl : List (Str × Addr)) (fp : List Addr), PTs (X.blk s H scope (compEnvC scope cl C X.env) fp) ifs (tT c.blk t))
    (he : ∀ (s : Shared) (H : Hp) (C : Addr) (cl : List (Str × Addr)) (fp : List Addr), ME (X.blk s H scope (compEnvC scope cl C X.env) fp) c.blk f elt) (hr : rf[i]? ≠ some true := by decide) (hs : ∀ x, foldedSetIterable iter X.env x = pure x := by intro _; rfl) :
    MS X c rf (sAsg (eFrz (oLc ow it g t f)) (gN i)) (.Assign [.Name y py] (.ListComp elt [⟨tg, iter, ifs, 0⟩] scope pos) spos) :=
  ⟨PS.imp (ps_setLc hc hN hy hyl hsw hi.run ok (fun s H C cl fp => (hg s H C cl fp).run) ht (fun s H C cl fp => (he s H C cl fp).run) hs) fun D σ H q => by
    obtain ⟨ξ, Y, s, hK, F, q⟩ := sAsgFrz_core hr q
    exact lc_reads hf ⟨ξ, Y, s, hK, F, q⟩⟩
end
/-- nothing is raised -/
def noEr : Exn → Value → Option Addr → Hp → Prop := fun _ _ _ _ => False
/-- turns that a while loop may take -/
def fuel : Nat := 10000000
end MI

set_option Elab.async false
set_option linter.all false
set_option autoImplicit false
set_option maxRecDepth 100000
/-! MI: more built-ins, module constants. -/
namespace MI
open PySem PySem.Spec L2
section
variable {X : Cx} {c : Ct} {K : PySem.W.Frag} {ξ : Fx} {Y H : Hp} {σ : St} {s : S} {tv : List V} {ts : List OD}
variable {fa fb : EF} {a b : Expr} {p pos : Pos}
def gcdD : D → D → Option OD
  | .int i, .int j => some (.fz (.int ((Nat.gcd i.natAbs j.natAbs : Nat) : Int)))
  | _, _ => none
theorem mo_gcd {x : Str} (hg : Gl X x) (hm : X.mg x = some (.builtin "math.gcd")) (ha : ME X c fa a) (hb : ME X c fb b) (hdb : (x == ("__debug__" : Str)) = false := by decide) (he : starEach [a, b] X.env = (false, eval a X.env) :: starEach [b] X.env := by rfl) (he2 : starEach [b] X.env = (false, eval b X.env) :: starEach [] X.env := by rfl) (hpl : (backTo pos (starEach [b] X.env)).any (·.1) = false := by rfl) :
    MO X c (oBlt (two gcdD) (aCons fa (aCons fb aNil))) (.Call (.Name x p) [a, b] [] pos) :=
  ⟨PE.imp (pe_callBfun cr_gcd hg hm (ma_cons ha (ma_cons hb ma_nil he2) he).run hdb he hpl) fun _ _ _ q => blt_core (CallL.two fun Y H Q x y d d' o e r r' q g => by
    unfold gcdD at q
    split at q
    · cases q
      rw [r.int_inv, r'.int_inv]
      exact ⟨_, _, rfl, g _ _ _ (.old (.int _))⟩
    · cases q) q⟩
/-- a module's constant: a number -/
theorem me_glI {x : Str} {i : Int} {t : Tok} (hg : Gl X x) (hm : X.mg x = some (.int i t)) (hd : (x == ("__debug__" : Str)) = false := by decide) : ME X c (eC (.int i)) (.Name x p) := me_c (pe_glob (v := .int i) hg hm ⟨t, rfl⟩ hd) fun _ => .int i
end
end MI

set_option Elab.async false
set_option linter.all false
set_option autoImplicit false
set_option maxRecDepth 100000
/-! MI: enumerate of a tuple. -/
namespace MI
open PySem PySem.Spec L2
section
open PyProof.Rows
set_option maxHeartbeats 1000000 in
theorem meets_enum_begins {v : Value} {o : Obj} {H : Heap → Prop} (B : Begins v o H) :
    Meets (Builtin.«enumerate.__new__» ⟨[.type "enumerate", v], []⟩) (fun _ R s => H s.heap ∧
      R (.ok (.ret (.ref (s.heap.push o).objs.size))) { s with heap := (s.heap.push o).push { cls := .type "enumerate", data := .fields #[.none, .bool false, .ref s.heap.objs.size, rawInt 0, .none, .none] } }) :=
  .of_wp fun prog w A R s h => by
    obtain ⟨hp, g, d, tk, os⟩ := s; obtain ⟨h1, h⟩ := h
    have hsub := sub_enumerate
    have q1 : ∀ {A' : Around} {E : Value → Shared → Prop} {Q : Value → Shared → Prop}, Q (.ref hp.objs.size) ⟨hp.push o, g, d, tk, os⟩ → wpAny (model prog w) A' (pyIter v) Q E ⟨hp, g, d, tk, os⟩ :=
      fun q => B.iter prog w _ _ ⟨hp, g, d, tk, os⟩ _ h1 q
    wp_walk using q1
    refine wpAny_stack_any fun st => wpAny_pure ?_
    split
    · rename_i c _ _ _ _ _
      cases (c == Value.type "enumerate")
      · wp_walk using q1
        exact ⟨_, rfl, h⟩
      · wp_walk using q1
        exact ⟨_, rfl, h⟩
    · wp_walk using q1
      exact ⟨_, rfl, h⟩
/-- the tuple at a as it stands, each item in a new pair -/
def IteT (K : PySem.W.Frag) (a : Addr) : It :=
  ⟨fun i H => ∃ (xs : List V) (x : V), SqT K H a xs ∧ xs[i]? = some x, fun i H v H' => ∃ T x, v = .ref T ∧ H T = none ∧ H' = upd H T (.tup [.int (i : Nat), x]) ∧ ∀ xs, SqT K H a xs → xs[i]? = some x, fun i H => ∃ xs : List V, SqT K H a xs ∧ xs.length ≤ i⟩
theorem turn_enumT {P : Program} {w : World} {K : PySem.W.Frag} {elts : List Expr} {kk : Nat} {tpos : Pos} (a e it : Addr) :
    Turn P w K (.Tuple elts kk tpos) (IteT K a) [e, it] e (fun i h => (∃ old, IsEnum h e it ((i : Nat) : Int) old) ∧ h.IsTupleIter it a i ∧ e ≠ it ∧ e ≠ a ∧ a ≠ it) where
  mem := by simp
  obj := fun i h st b hb => by
    obtain ⟨⟨old, he⟩, ⟨o, ho, hc, hd⟩, _⟩ := st
    have e' : b = e ∨ b = it := by simpa using hb
    rcases e' with z | z
    · rw [z]; exact ⟨_, he, fun v q => nomatch q⟩
    · rw [z]; exact ⟨o, ho, fun v q => by rw [hd] at q; cases q⟩
  keep := fun i h h' st k => let ⟨⟨old, he⟩, hi, hne⟩ := st; ⟨⟨old, k e (by simp) _ he⟩, hi.at fun o q => k it (by simp) o q, hne⟩
  item := by
    intro X hP hw hK hc i pins s σ H E I hf st hg
    subst hP hw hK
    obtain ⟨⟨old, he⟩, hit, hne, hea, hai⟩ := st
    obtain ⟨xs, x, hq, hx⟩ := hg
    obtain ⟨its, rv, p, hz⟩ := I.tuple hq
    obtain ⟨u, hu, ru⟩ := rv.get hx
    have hel : e < s.heap.objs.size := Heap.lt_size he
    have hil : it < s.heap.objs.size := by obtain ⟨_, q, _⟩ := hit; exact Heap.lt_size q
    have hlt : i < its.toArray.size := by simpa using lt_of_get hu
    refine wpAny_pyNext_enum_itemD (Draws.tuple (show X.A.in1.handled = none from I.ok.hd hc) it a hai its.toArray) he ⟨hit, p⟩ hlt hne (by simp [hne, hea]) fun y h' tk hy ho hst hT hsz hk => ?_
    obtain rfl : y = u := by
      have : its[i]? = some y := by simpa using hy
      rw [hu] at this
      exact (Option.some.inj this).symm
    refine ⟨_, rfl, wpAny_letOwnedTupleGo_enum (s := { s with heap := h', toks := tk + 1 }) ho fun h'' he' sb => ?_⟩
    have hT2 : h''.get? s.heap.objs.size = some { cls := .type "tuple", data := .seq #[.int i tk, y] } := (sb.2 _ (Nat.ne_of_gt hel)).trans hT
    have new : ObjOk X.prog X.w (upd H s.heap.objs.size (.tup [.int (i : Nat), x])) h'' s.heap.objs.size (.tup [.int (i : Nat), x]) :=
      ⟨by show 2 ≤ sizeLine; decide, [.int i tk, y], .cons ⟨_, rfl⟩ (.cons ru .nil), ⟨_, hT2, rfl, _, rfl⟩⟩
    have I1 : Inv X pins σ (upd H s.heap.objs.size (.tup [.int (i : Nat), x])) { s with heap := h'', toks := tk + 1 } :=
      I.turnedNew (ch := [e, it]) (fun b ob hb q => (sb.2 b (fun z => hb (by simp [z]))).trans (hk b ob (fun z => hb (by simp [z])) (fun z => hb (by simp [z])) q)) hf (Nat.le_refl _) new
    refine ⟨.ref s.heap.objs.size, _, I1, rfl, ⟨_, x, rfl, I.hok.fresh (Nat.le_refl _), rfl, fun ys hy => by rw [I.tuple_inj hy hq]; exact hx⟩, ⟨⟨y, ?_⟩, hst.1.at fun o q => (sb.2 it (Ne.symm hne)).trans q, hne, hea, hai⟩, fun b hb => ?_⟩
    · have e1 : ((i + 1 : Nat) : Int) = (i : Int) + 1 := by omega
      rw [e1]; exact he'
    · have hb' : b < s.heap.objs.size := by
        have e' : b = e ∨ b = it := by simpa using hb
        rcases e' with z | z
        · rw [z]; exact hel
        · rw [z]; exact hil
      rw [upd_ne (Nat.ne_of_lt hb')]
      exact (hf b hb).1
  done := by
    intro X hP hw hK hc i pins s σ H E I hf st hg
    subst hP hw hK
    obtain ⟨⟨old, he⟩, hit, hne, hea, hai⟩ := st
    obtain ⟨xs, hq, hx⟩ := hg
    obtain ⟨its, rv, p, hz⟩ := I.tuple hq
    obtain ⟨f0, f1, f2, f3, f4, f5⟩ := hf it (by simp)
    have hl := rv.length
    have hx' : its.toArray[i]? = none := by simp; omega
    have hT : s.TypeIs (.ref e) "enumerate" := ⟨_, he, rfl⟩
    unfold pyNext
    refine wpAny_bind (wpAny_attempt (wpAny_callSpecial?_slot (name := Str.ofString "__next__") hT F.slot_enumerate_next
      (wpAny_call_entry F.slot_enumerate_next hT F.entry_enumerate_next ?_ (F.args_enumerate_next_1 _))))
    show wpAny _ _ (field (.ref e) 2 >>= _) _ _ _
    refine wpAny_bind (wpAny_field he rfl (x := .ref it) rfl ?_)
    refine wpAny_bind (wpAny_nextOf_tuple_end (I.ok.hd hc) hit p hx' fun h' x he' hx' => ?_)
    obtain ⟨o, ho, hcl⟩ := hx'
    refine wpAny_bind (wpAny_isInstance (T := "StopIteration") (b := true) ⟨o, ho, hcl⟩ isSubtype_stop ?_)
    exact wpAny_pure ⟨rfl, I.turned (t' := s.toks) (fun b o hb q => he' b o hb q) f0 f1 f3 f4 f5⟩
  self := fun A i s Q E st h => let ⟨⟨_, he⟩, _⟩ := st; wpAny_pyIter_enum he h
end
end MI

set_option Elab.async false
set_option linter.all false
set_option autoImplicit false
set_option maxRecDepth 100000
/-! MI: rows = zip(a, b); return f([.. for .. in rows]). -/
namespace MI
open PySem PySem.Spec L2
section
open PyProof.Rows
def ExO (a : Addr) (o : Obj) : HO := .ext fun h => h.get? a = some o
def layE (H : Hp) (l : List (Addr × Obj)) : Hp := fun b => match l.lookup b with
  | some o => some (ExO b o)
  | none => H b
theorem lookup_mem {l : List (Addr × Obj)} {b : Addr} {o : Obj} (h : l.lookup b = some o) : (b, o) ∈ l := by
  induction l with
  | nil => cases h
  | cons p l ih =>
    obtain ⟨c, q⟩ := p
    rw [List.lookup_cons] at h
    split at h
    · rename_i e
      have : b = c := by simpa using e
      subst this
      cases h
      exact List.mem_cons_self
    · exact List.mem_cons_of_mem _ (ih h)
theorem layE_old {P : Program} {w : World} {H : Hp} {h : Heap} {l : List (Addr × Obj)} (x : HOk P w H h) (hp : ∀ p ∈ l, h.objs.size ≤ p.1) {c : Addr} {u : HO} (e : H c = some u) : layE H l c = some u := by
  unfold layE
  cases q : l.lookup c with
  | none => exact e
  | some o =>
    have h1 : h.objs.size ≤ c := hp _ (lookup_mem q)
    exact absurd (Nat.lt_of_lt_of_le (x.lt e) h1) (Nat.lt_irrefl _)
theorem hok_layE {P : Program} {w : World} {H : Hp} {h h' : Heap} {l : List (Addr × Obj)} (x : HOk P w H h) (k : ∀ b u, h.get? b = some u → h'.get? b = some u) (hp : ∀ p ∈ l, h.objs.size ≤ p.1) (hg : ∀ p ∈ l, h'.get? p.1 = some p.2) : HOk P w (layE H l) h' := fun b u e => by
  cases q : l.lookup b with
  | some o =>
    have e2 : layE H l b = some (ExO b o) := by unfold layE; rw [q]
    rw [e2] at e
    cases e
    have g := hg _ (lookup_mem q)
    exact ⟨g, ⟨_, g⟩, fun h1 h2 q k => k _ q⟩
  | none =>
    have e2 : layE H l b = H b := by unfold layE; rw [q]
    rw [e2] at e
    exact (x b u e).stay (fun c v _ q => k c v q) (fun c q => layE_old x hp q) fun c xs q => layE_old x hp q
theorem un_layE {P : Program} {w : World} {fs ex : List Addr} {H : Hp} {h h' : Heap} {l : List (Addr × Obj)} (x : HOk P w H h) (k : ∀ b u, h.get? b = some u → h'.get? b = some u) (hp : ∀ p ∈ l, h.objs.size ≤ p.1) : Un fs ex H (layE H l) h h' where
  keep := fun b u q _ _ _ => k b u q
  slot := fun b u q _ _ _ => ⟨u.slots, k b u q⟩
  free := fun b u q n _ => by
    unfold layE
    cases e : l.lookup b with
    | none => exact n
    | some o =>
      have h1 : h.objs.size ≤ b := hp _ (lookup_mem e)
      exact absurd (Nat.lt_of_lt_of_le (Heap.lt_size q) h1) (Nat.lt_irrefl _)
  there := fun b u q _ => ⟨u, k b u q⟩
  tups := fun b xs q => layE_old x hp q
  frzs := fun b u xs q => layE_old x hp q
  tbls := fun b ps q => ⟨#[], by rw [layE_old x hp q]; simp⟩
def StZ (l : Bool) (h : Heap) (z TI TO i1 i2 a b : Addr) : Prop := IsZip h z TI TO .none ∧ IsPair h TI (.ref i1) (.ref i2) ∧ (∃ x y, IsPair h TO x y) ∧ if l = true then h.IsListIter i1 a 0 ∧ h.IsListIter i2 b 0 else h.IsTupleIter i1 a 0 ∧ h.IsTupleIter i2 b 0
def Itq (K : PySem.W.Frag) (l : Bool) (a b : Addr) : It := if l = true then Itz K a b else RZ.ItzT K a b
/-- a zip as a value -/
def tZip (K : PySem.W.Frag) (n : Nat) (ta : TA) : TE := fun σ H Q => ta σ H fun vs H1 => ∃ a b l, vs = [.ref a, .ref b] ∧ (if l = true then (∃ xs, SqL K H1 a xs) ∧ ∃ ys, SqL K H1 b ys else (∃ xs, SqT K H1 a xs) ∧ ∃ ys, SqT K H1 b ys) ∧
  ∀ z TI TO i1 i2 oz oTI oTO o1 o2, ZipApart z TI TO i1 i2 a b → (∀ p ∈ [z, TI, TO, i1, i2], H1 p = none ∧ n ≤ p) →
    (∀ h : Heap, h.get? z = some oz → h.get? TI = some oTI → h.get? TO = some oTO → h.get? i1 = some o1 → h.get? i2 = some o2 → StZ l h z TI TO i1 i2 a b) →
    Q (.ref z) (layE H1 [(z, oz), (TI, oTI), (TO, oTO), (i1, o1), (i2, o2)])
theorem pe_zipV {X : Cx} {e e2 : Expr} {ta : TA} {p pos : Pos} (hg : Gl X "zip") (hm : X.mg "zip" = none) (ha : PA X [e, e2] ta)
    (hs : starEach [e, e2] X.env = (false, eval e X.env) :: starEach [e2] X.env := by rfl) (hpl : (backTo pos (starEach [e2] X.env)).any (·.1) = false := by rfl) :
    PE X (.Call (.Name "zip" p) [e, e2] [] pos) (tZip X.K X.s_0.heap.objs.size ta) := by
  refine ⟨fun pins s σ H Q I h => ?_⟩
  refine wpAny_Call_Name_kw (ld_blt I hg hm PyProof.Rows.boot_zip (PyProof.Rows.callWith_type1 (thn (ha.run pos pins s σ H _ I h) fun us s1 ⟨vs, H1, I1, r1, q1⟩ => ?_) hs hpl))
  obtain ⟨a, b, l, ex, hq, q⟩ := q1
  subst ex
  cases r1 with
  | cons r rr =>
    cases rr with
    | cons r' rr =>
      cases rr
      cases r
      cases r'
      have fin : ∀ (h' : Heap) (oz oTI oTO o1 o2 : Obj), ZipApart (s1.heap.objs.size + 4) (s1.heap.objs.size + 2) (s1.heap.objs.size + 3) s1.heap.objs.size (s1.heap.objs.size + 1) a b → h'.get? (s1.heap.objs.size + 4) = some oz → h'.get? (s1.heap.objs.size + 2) = some oTI → h'.get? (s1.heap.objs.size + 3) = some oTO → h'.get? s1.heap.objs.size = some o1 → h'.get? (s1.heap.objs.size + 1) = some o2 →
          (∀ c o, s1.heap.get? c = some o → h'.get? c = some o) →
          (∀ h : Heap, h.get? (s1.heap.objs.size + 4) = some oz → h.get? (s1.heap.objs.size + 2) = some oTI → h.get? (s1.heap.objs.size + 3) = some oTO → h.get? s1.heap.objs.size = some o1 → h.get? (s1.heap.objs.size + 1) = some o2 → StZ l h (s1.heap.objs.size + 4) (s1.heap.objs.size + 2) (s1.heap.objs.size + 3) s1.heap.objs.size (s1.heap.objs.size + 1) a b) →
          EP X pins σ Q (.ref (s1.heap.objs.size + 4)) { s1 with heap := h' } := fun h' oz oTI oTO o1 o2 D g1 g2 g3 g4 g5 k st => by
        have fr : ∀ p ∈ [s1.heap.objs.size + 4, s1.heap.objs.size + 2, s1.heap.objs.size + 3, s1.heap.objs.size, s1.heap.objs.size + 1], s1.heap.objs.size ≤ p := fun p hp => by
          simp only [List.mem_cons, List.not_mem_nil, or_false] at hp
          omega
        have hp : ∀ p ∈ [(s1.heap.objs.size + 4, oz), (s1.heap.objs.size + 2, oTI), (s1.heap.objs.size + 3, oTO), (s1.heap.objs.size, o1), (s1.heap.objs.size + 1, o2)], s1.heap.objs.size ≤ p.1 := fun p hp => fr p.1 (by
          have := List.mem_map_of_mem (f := Prod.fst) hp
          simpa using this)
        have hgt : ∀ p ∈ [(s1.heap.objs.size + 4, oz), (s1.heap.objs.size + 2, oTI), (s1.heap.objs.size + 3, oTO), (s1.heap.objs.size, o1), (s1.heap.objs.size + 1, o2)], h'.get? p.1 = some p.2 := fun p hp => by
          simp only [List.mem_cons, List.not_mem_nil, or_false] at hp
          rcases hp with rfl | rfl | rfl | rfl | rfl <;> assumption
        have I2 := I1.un (t' := s1.toks) (un_layE I1.hok k hp) (hok_layE I1.hok k hp hgt)
        exact ⟨.ref (s1.heap.objs.size + 4), _, I2, rfl, q _ _ _ _ _ oz oTI oTO o1 o2 D (fun p hp => ⟨I1.hok.fresh (fr p hp), Nat.le_trans I1.sz (fr p hp)⟩) st⟩
      cases l with
      | true =>
        obtain ⟨⟨xs, hqx⟩, ys, hqy⟩ := hq
        obtain ⟨its, rv, p1, _⟩ := I1.list hqx
        obtain ⟨its2, rv2, p2, _⟩ := I1.list hqy
        refine call_zip_2 p1.isList p2.isList fun h' hz hTI hTO h1 h2 hsz hk => ?_
        obtain ⟨o1, e1, c1⟩ := id h1
        obtain ⟨o2, e2, c2⟩ := id h2
        exact fin h' _ _ _ o1 o2 (PySem.W.ktu_apart s1.heap.objs.size a b p1.lt p2.lt) hz hTI hTO e1 e2 hk fun h z1 z2 z3 z4 z5 => ⟨z1, z2, ⟨_, _, z3⟩, ⟨o1, z4, c1⟩, o2, z5, c2⟩
      | false =>
        obtain ⟨⟨xs, hqx⟩, ys, hqy⟩ := hq
        obtain ⟨its, rv, p1, _⟩ := I1.tuple hqx
        obtain ⟨its2, rv2, p2, _⟩ := I1.tuple hqy
        obtain ⟨oa, ha1, _⟩ := id p1
        obtain ⟨ob, hb1, _⟩ := id p2
        refine RZ.call_zipT (show s1.heap.IsTuple a its.toArray from p1) (show s1.heap.IsTuple b its2.toArray from p2) fun h' hz hTI hTO h1 h2 hsz hk => ?_
        obtain ⟨o1, e1, c1⟩ := id h1
        obtain ⟨o2, e2, c2⟩ := id h2
        exact fin h' _ _ _ o1 o2 (PySem.W.ktu_apart s1.heap.objs.size a b (Heap.lt_size ha1) (Heap.lt_size hb1)) hz hTI hTO e1 e2 hk fun h z1 z2 z3 z4 z5 => ⟨z1, z2, ⟨_, _, z3⟩, ⟨o1, z4, c1⟩, o2, z5, c2⟩
def iZv (K : PySem.W.Frag) (n k : Nat) : TI := fun σ H R => ∃ z TI TO i1 i2 a b l oz oTI oTO o1 o2 H1, ZipApart z TI TO i1 i2 a b ∧ (∀ p ∈ [z, TI, TO, i1, i2], H1 p = none ∧ n ≤ p) ∧
    (∀ h : Heap, h.get? z = some oz → h.get? TI = some oTI → h.get? TO = some oTO → h.get? i1 = some o1 → h.get? i2 = some o2 → StZ l h z TI TO i1 i2 a b) ∧
    σ[k]? = some (some (.ref z)) ∧ H = layE H1 [(z, oz), (TI, oTI), (TO, oTO), (i1, o1), (i2, o2)] ∧ R (Itq K l a b) H1
theorem dropN {H : Hp} {a b : Addr} (h : H b = none) : ItX.dropH H a b = none := by
  by_cases e : b = a
  · rw [e, ItX.dropH_same]
  · rw [ItX.dropH_ne e]; exact h
theorem pi_zipV {X : Cx} {x : Str} {k : Nat} {elts : List Expr} {kk : Nat} {tpos pos : Pos} (hN : X.N[k]? = some x) (hv : Vis X.env.scope x) (hd : (x == ("__debug__" : Str)) = false := by decide) (hcd : (x == ("__classdict__" : Str)) = false := by decide) :
    PI X (.Tuple elts kk tpos) (.Name x pos) (iZv X.K X.s_0.heap.objs.size k) := by
  refine ⟨fun pins s σ H R I h => ?_⟩
  obtain ⟨z, TI, TO, i1, i2, a, b, l, oz, oTI, oTO, o1, o2, H0, D, fr, st, hs, eH0, q⟩ := h
  refine thn ((pe_var (pos := pos) (i := k) hN hv hd hcd).run pins s σ H (fun v H1 => v = .ref z ∧ H1 = H) I ⟨.ref z, hs, rfl, rfl⟩) fun u s1 ⟨v, H1, I1, r1, ev, eH⟩ => ?_
  subst ev
  rw [eH] at I1
  cases r1
  have fz := fr z (by simp)
  have fTI := fr TI (by simp)
  have fTO := fr TO (by simp)
  have f1 := fr i1 (by simp)
  have f2 := fr i2 (by simp)
  have b1 : ∀ {x y : Addr}, x ≠ y → (x == y) = false := fun h => by simpa using h
  have Hz : H z = some (ExO z oz) := by subst eH0; simp [layE]
  have HTI : H TI = some (ExO TI oTI) := by subst eH0; simp [layE, b1 D.TIz, List.lookup_cons]
  have HTO : H TO = some (ExO TO oTO) := by subst eH0; simp [layE, b1 D.TOz, b1 D.TITO.symm, List.lookup_cons]
  have H1' : H i1 = some (ExO i1 o1) := by subst eH0; simp [layE, b1 D.i1z, b1 D.TIi1.symm, b1 D.TOi1.symm, List.lookup_cons]
  have H2' : H i2 = some (ExO i2 o2) := by subst eH0; simp [layE, b1 D.i2z, b1 D.TIi2.symm, b1 D.TOi2.symm, b1 D.i12.symm, List.lookup_cons]
  have S := st s1.heap (I1.hok z _ Hz).1 (I1.hok TI _ HTI).1 (I1.hok TO _ HTO).1 (I1.hok i1 _ H1').1 (I1.hok i2 _ H2').1
  have J1 := ItX.inv_drop I1 Hz
  have J2 := ItX.inv_drop J1 (a := TI) ((ItX.dropH_ne D.TIz).trans HTI)
  have J3 := ItX.inv_drop J2 (a := TO) ((ItX.dropH_ne D.TITO.symm).trans ((ItX.dropH_ne D.TOz).trans HTO))
  have J4 := ItX.inv_drop J3 (a := i1) ((ItX.dropH_ne D.TOi1.symm).trans ((ItX.dropH_ne D.TIi1.symm).trans ((ItX.dropH_ne D.i1z).trans H1')))
  have J5 := ItX.inv_drop J4 (a := i2) ((ItX.dropH_ne D.i12.symm).trans ((ItX.dropH_ne D.TOi2.symm).trans ((ItX.dropH_ne D.TIi2.symm).trans ((ItX.dropH_ne D.i2z).trans H2'))))
  have eH5 : ItX.dropH (ItX.dropH (ItX.dropH (ItX.dropH (ItX.dropH H z) TI) TO) i1) i2 = H0 := by
    funext c
    by_cases c5 : c = i2
    · subst c5; rw [ItX.dropH_same, f2.1]
    rw [ItX.dropH_ne c5]
    by_cases c4 : c = i1
    · subst c4; rw [ItX.dropH_same, f1.1]
    rw [ItX.dropH_ne c4]
    by_cases c3 : c = TO
    · subst c3; rw [ItX.dropH_same, fTO.1]
    rw [ItX.dropH_ne c3]
    by_cases c2 : c = TI
    · subst c2; rw [ItX.dropH_same, fTI.1]
    rw [ItX.dropH_ne c2]
    by_cases c1 : c = z
    · subst c1; rw [ItX.dropH_same, fz.1]
    rw [ItX.dropH_ne c1, eH0]
    simp [layE, List.lookup_cons, b1 c1, b1 c2, b1 c3, b1 c4, b1 c5]
  rw [eH5] at J5
  have fp : ∀ c ∈ [z, TI, TO, i1, i2], FpOk X pins H0 c := fun c hc => by
    have hn := (fr c hc)
    have hH : ∃ u, H c = some u := by
      simp only [List.mem_cons, List.not_mem_nil, or_false] at hc
      rcases hc with rfl | rfl | rfl | rfl | rfl
      · exact ⟨_, Hz⟩
      · exact ⟨_, HTI⟩
      · exact ⟨_, HTO⟩
      · exact ⟨_, H1'⟩
      · exact ⟨_, H2'⟩
    obtain ⟨u, hu⟩ := hH
    have := ItX.inv_fp I1 hu hn.2
    exact ⟨hn.1, this.2⟩
  refine wpAny_pyIter_zip S.1 ?_
  cases l with
  | true => exact ⟨z, [z, TI, TO, i1, i2], _, _, H0, rfl, J5, turn_zip D, ⟨S.1, S.2.1, S.2.2.1, S.2.2.2⟩, fp, q⟩
  | false => exact ⟨z, [z, TI, TO, i1, i2], _, _, H0, rfl, J5, RZ.turn_zipT D, ⟨S.1, S.2.1, S.2.2.1, S.2.2.2⟩, fp, q⟩
end
end MI

set_option Elab.async false
set_option linter.all false
set_option autoImplicit false
set_option maxRecDepth 100000
/-! MI: a comprehension over what is told; rows = zip(..), return f([.. in rows]). -/
namespace MI
open PySem PySem.Spec L2
section
variable {X : Cx} {c : Ct} {rf : List Bool}
theorem lc_body {ow : List Bool} {g : GF} {t : TF} {f : EF} {own : List (Str × Nat)} {σ : St} {H0 : Hp} {Q : VK} {N : List Str} {ξ : Fx} {Y1 H1 : Hp} {s1 : S} {tv : List V} {ts : List OD} {J : It} {ds : List D} (hf : Flags ow N.length (own.map (·.2))) (hK : ξ.K = c.K) (F1 : FS ξ Y1 H1 σ s1 tv ts) (w : Walks c.K Y1 J ds) (hlen : ow.length = s1.length)
    (q1 : out c ξ Y1 σ tv ts (fun o s' => ∀ Y' H' v, Same Y1 Y' → FS ξ Y' H' σ s' (tv ++ [v]) (ts ++ [o]) → Q v H') ((lcL ow g t f ds [] (wipeF ow s1)).bind fun acc s2 => .ok (.ol acc) (backF ow s1 s2))) :
    tLc (fun _ _ R => R J H1) (tG (ow.map not) c.K g) (tT c.blk t) (tE c.blk f) (own.map (·.2)) σ H0 Q := by
  intro L hL
  have hn : s1.length = N.length := by rw [← hlen, hf]; simp
  have F2 := (F1.pushL hL (.nil : DrAll ξ.K Y1 [] [])).toBlk hf hn (wipe_length σ (own.map (·.2))) fun j hj hm => wipe_get hm
  refine ⟨fun i m H' => ∃ Y' s' acc, i ≤ ds.length ∧ m = ds.length - i ∧ Same Y1 Y' ∧ s'.length = N.length ∧ FS ξ Y' H' (wipe σ (own.map (·.2))) s' (tv ++ [.ref L]) (ts ++ [.ol acc]) ∧
      out c ξ Y1 σ tv ts (fun o s' => ∀ Y' H' v, Same Y1 Y' → FS ξ Y' H' σ s' (tv ++ [v]) (ts ++ [o]) → Q v H') ((lcL ow g t f (ds.drop i) acc s').bind fun acc s2 => .ok (.ol acc) (backF ow s1 s2)),
    ⟨ds.length, Y1, wipeF ow s1, [], Nat.zero_le _, by omega, Same.refl _, by rw [wipeF_length, hn], F2, q1⟩, ?_⟩
  rintro i m H' ⟨Y', s', acc, hle, rfl, e2, hn2, F3, q2⟩
  rcases Nat.lt_or_ge i ds.length with hlt | hge
  · have hd : ds[i]? = some ds[i] := List.getElem?_eq_getElem hlt
    rw [List.drop_eq_getElem_cons hlt] at q2
    refine .inr ⟨w.go i H' (e2.trans F3.sub) hlt, fun H3 => ∃ Y3 s3 acc3, Same Y1 Y3 ∧ s3.length = N.length ∧ FS ξ Y3 H3 (wipe σ (own.map (·.2))) s3 (tv ++ [.ref L]) (ts ++ [.ol acc3]) ∧
      out c ξ Y1 σ tv ts (fun o s' => ∀ Y' H' v, Same Y1 Y' → FS ξ Y' H' σ s' (tv ++ [v]) (ts ++ [o]) → Q v H') ((lcL ow g t f (ds.drop (i + 1)) acc3 s3).bind fun acc s2 => .ok (.ol acc) (backF ow s1 s2)), ?_, ?_⟩
    · rintro H3 ⟨Y3, s3, acc3, e3, n3, F3, q3⟩
      exact ⟨ds.length - (i + 1), by omega, Y3, s3, acc3, by omega, rfl, e3, n3, F3, q3⟩
    · intro x H3 hy
      obtain ⟨Y3, gv⟩ := w.yld i H' x H3 _ (e2.trans F3.sub) hd hy Y' e2 F3.sub
      obtain ⟨e3, F4⟩ := gv.fs hK F3
      obtain ⟨Y4, e4, F5, r5⟩ := F4.freezeT
      have e5 : Same Y' Y4 := e3.trans e4
      simp only [lcL] at q2
      split at q2
      · exact q2.elim
      · rename_i s5 eg
        refine ⟨ξ, Y4, s', ds[i], tv ++ [.ref L], ts ++ [.ol acc], hK, F5, hK ▸ r5, s5, eg, fun Y6 H6 σ6 e6 k6 F6 => ?_⟩
        have l6 : σ6.length = σ.length := by rw [k6.1, wipe_length]
        have c6 : ∀ j, j < σ.length → j ∉ own.map (·.2) → σ6[j]? = (wipe σ (own.map (·.2)))[j]? := fun j hj hm => by
          refine k6.2 j ?_
          rw [List.getElem?_map, hf.get (by rw [← hn, F1.len]; exact hj)]
          simp [hm]
        refine ⟨wipe_eq l6 c6, ?_⟩
        have back : ∀ {Y8 H8 s8 acc8}, FS ξ Y8 H8 σ6 s8 (tv ++ [.ref L]) (ts ++ [.ol acc8]) → s8.length = N.length ∧ FS ξ Y8 H8 (wipe σ (own.map (·.2))) (wipeF ow s8) (tv ++ [.ref L]) (ts ++ [.ol acc8]) := fun {Y8 H8 s8 acc8} F8 => by
          have n8 : s8.length = N.length := by rw [F8.len, l6, ← F1.len, hn]
          exact ⟨n8, F8.toBlk hf n8 (by rw [wipe_length, l6]) fun j hj hm => (c6 j (by omega) hm).symm⟩
        refine ⟨ξ, Y6, s5, _, _, hK, F6, ?_⟩
        rw [show ∀ (a : Res Bool) (k : Bool → S → Res (List D)) (k' : List D → S → Res OD), ((a.noex.bind k).bind k') = a.noex.bind fun b s => (k b s).bind k' from fun a k k' => by cases a <;> rfl] at q2
        obtain ⟨b, s7, et, q3⟩ := noex_ok q2
        rw [et]
        intro Y7 H7 e7 F7
        have all7 : Same Y1 Y7 := ((e2.trans e5).trans e6).trans e7
        cases b with
        | false =>
          rw [if_neg Bool.false_ne_true] at q3
          refine iteF ⟨Y7, wipeF ow s7, acc, all7, ?_, (back F7).2, q3⟩
          rw [wipeF_length]; exact (back F7).1
        | true =>
          rw [if_pos rfl] at q3
          refine iteT ⟨ξ, Y7, s7, _, _, hK, F7, ?_⟩
          rw [show ∀ (a : Res D) (k : D → S → Res (List D)) (k' : List D → S → Res OD), ((a.noex.bind k).bind k') = a.noex.bind fun b s => (k b s).bind k' from fun a k k' => by cases a <;> rfl] at q3
          obtain ⟨y, s8, ee, q4⟩ := noex_ok q3
          rw [ee]
          intro Y8 H8 v8 e8 F8 r8
          obtain ⟨p, vs, ep, hp, hdr, wr⟩ := F8.listT F1.tlen
          cases ep
          split at q4
          · rename_i hsz
            refine ⟨vs, hp, by rw [hdr.length]; exact hsz, Y8, wipeF ow s8, acc ++ [y], all7.trans e8, ?_, ?_, q4⟩
            · rw [wipeF_length]; exact (back F8).1
            · exact (back (wr (vs ++ [v8]) (acc ++ [y]) (hdr.append (.cons (hK ▸ r8) .nil)))).2
          · exact q4.elim
  · have hi : i = ds.length := by omega
    subst hi
    rw [List.drop_length] at q2
    exact .inl ⟨w.stop H' (e2.trans F3.sub), q2 Y' H' _ e2 (F1.ofBlk F3 e2 hf hn)⟩
/-- the pairs, the name forgotten -/
def iZipN (i : Nat) (f g : EF) : IF := fun s => (iZip f g s).bind fun ds s => .ok ds (s.set i none)
def sZipRet (ow : List Bool) (i : Nat) (fa fb : EF) (g : GF) (f : EF) (F : List OD → Res OD) : SF := sRet (oCall [none] (aCons (eFrz (oLc ow (iZipN i fa fb) g kYes f)) aNil) (noexF F))

theorem setNone_get {s : S} {i j : Nat} {o : OD} (h : (s.set i none)[j]? = some (some o)) : s[j]? = some (some o) ∧ j ≠ i := by
  by_cases e : j = i
  · subst e
    by_cases hj : j < s.length
    · rw [List.getElem?_set_self hj] at h
      cases h
    · rw [List.getElem?_eq_none (by simp; omega)] at h
      cases h
  · rw [List.getElem?_set_ne (Ne.symm e)] at h
    exact ⟨h, e⟩
theorem FS.setNone {ξ : Fx} {Y H : Hp} {σ : St} {s : S} {tv : List V} {ts : List OD} (F : FS ξ Y H σ s tv ts) (i : Nat) (v : Option V) : FS ξ Y H (σ.set i v) (s.set i none) tv ts := by
  refine (F.forget (by simp) fun j o h => (setNone_get h).1).resig (by simp) fun j o h => ?_
  rw [List.getElem?_set_ne (Ne.symm (setNone_get h).2)]
theorem outS_out {ξ : Fx} {Y : Hp} {σ : St} {D : Ends} {x : Exn} {s : S} {α : Type} {G : α → S → Prop} (h : outS c rf ξ Y σ D (.ex x s)) : out c ξ Y σ [] [] G (.ex x s : Res α) := fun Y' H' cl q e' F' er => h Y' H' σ cl q e' (.refl _ _) F' er
variable {CX : CXT} {k : Nat} {f : Addr} {fd : FuncData} {ps : List Str} {x : Str} {p pos : Pos} {F : List OD → Res OD}
theorem mss_zipRet {ow : List Bool} {i : Nat} {xr fn : Str} {a b : Expr} {fa fb : EF} {g : GF} {fe : EF} {elts : List Expr} {kk : Nat} {tpos p1 p2 p3 p4 p5 p6 p7 p8 : Pos} {elt : Expr} {scope : Scope} {own : List (Str × Nat)}
    (hXK : X.K = c.K) (hc : X.calm = true) (hN : X.N.Nodup) (hi : X.N[i]? = some xr) (hx : Loc X.env.scope xr) (hvis : Vis X.env.scope xr) (hrf : rf[i]? ≠ some true) (hli : X.N.length > i)
    (hgz : Gl X "zip") (hmz : X.mg "zip" = none) (ha : ME X c fa a) (hb : ME X c fb b)
    (Fo : FnG X.prog X.w X.K X.mg X.base CX0 k f fd ps (spF c.K c.er false 1 F)) (hG : X.A.guards = some []) (hr : Room k X.A) (hgf : Gl X fn) (hmf : X.mg fn = some (.ref f)) (hk : PySem.W.keepIn X.K (.ref f) = true) (hbd : Binds X.K fd ps [])
    (ok : BlkOk X.N X.env.scope scope own) (hf : Flags ow X.N.length (own.map (·.2)))
    (hg : ∀ (s : Shared) (H : Hp) (C : Addr) (cl : List (Str × Addr)) (fp : List Addr), MG (X.blk s H scope (compEnvC scope cl C X.env) fp) c.blk (ow.map not) g (.Tuple elts kk tpos))
    (ht : ∀ (s : Shared) (H : Hp) (C : Addr) (cl : List (Str × Addr)) (fp : List Addr), PTs (X.blk s H scope (compEnvC scope cl C X.env) fp) [] (tT c.blk kYes))
    (he : ∀ (s : Shared) (H : Hp) (C : Addr) (cl : List (Str × Addr)) (fp : List Addr), ME (X.blk s H scope (compEnvC scope cl C X.env) fp) c.blk fe elt)
    (hfn : X.fn xr = true ∨ X.env.scope.names.lookup xr = some .local)
    (hd1 : (xr == ("__debug__" : Str)) = false := by decide) (hd2 : (xr == ("__classdict__" : Str)) = false := by decide) (hd3 : (fn == ("__debug__" : Str)) = false := by decide)
    (hs : starEach [a, b] X.env = (false, eval a X.env) :: starEach [b] X.env := by rfl) (hs2 : starEach [b] X.env = (false, eval b X.env) :: starEach [] X.env := by rfl) (hpl : (backTo p3 (starEach [b] X.env)).any (·.1) = false := by rfl)
    (hsw : swapsWith (.Call (.Name "zip" p2) [a, b] [] p3) (some (.Name xr p1)) p4.line X.env = pure false := by rfl)
    (hfi : ∀ x, foldedSetIterable (.Name xr p5) X.env x = pure x := by intro _; rfl)
    (hst : starEach [.ListComp elt [⟨.Tuple elts kk tpos, .Name xr p5, [], 0⟩] scope pos] X.env = (false, eval (.ListComp elt [⟨.Tuple elts kk tpos, .Name xr p5, [], 0⟩] scope pos) X.env) :: starEach [] X.env := by rfl)
    (hpl2 : (backTo p7 (starEach [] X.env)).any (·.1) = false := by rfl) :
    MSs X c rf (sZipRet ow i fa fb g fe F) [.Assign [.Name xr p1] (.Call (.Name "zip" p2) [a, b] [] p3) p4, .Return (some (.Call (.Name fn p6) [.ListComp elt [⟨.Tuple elts kk tpos, .Name xr p5, [], 0⟩] scope pos] [] p7)) p8] := by
  refine ⟨PSs.imp (pss_cons (ps_set hN hi hx (pe_zipV hgz hmz (ma_cons ha (ma_cons hb ma_nil hs2) hs).run hs hpl) hsw hfn)
    (pss_one (ps_ret (pe_callG (E := fun σ cl x H => False) Fo hG hr hgf hmf hk hbd (fun σ => fun _ _ _ _ _ _ z => z.elim) (pa_cons (pe_lc hc hN (pi_zipV hi hvis hd1 hd2) ok (fun s H C cl fp => (hg s H C cl fp).run) ht (fun s H C cl fp => (he s H C cl fp).run) hfi) pa_nil hst) hd3 hst hpl2)))) fun D σ H q => ?_⟩
  obtain ⟨ξ, Y, s, hK, Fr, q⟩ := q
  unfold tSeq tAsg tZip
  refine ⟨ξ, Y, s, [], [], hK, Fr, ?_⟩
  unfold sZipRet sRet oCall aCons eFrz oLc iZipN iZip at q
  unfold aCons aNil
  cases e : fa s with
  | bad => rw [e] at q; exact q.elim
  | ex x s1 => rw [e] at q; exact outS_out q
  | ok d s1 =>
    rw [e] at q
    rw [Res.bind_ok]
    simp only [Res.bind_ok] at q
    cases e' : fb s1 with
    | bad => rw [e'] at q; exact q.elim
    | ex x s1 => rw [e'] at q; exact outS_out q
    | ok d' s2 =>
      rw [e'] at q
      rw [Res.bind_ok, Res.bind_ok, Res.bind_ok]
      simp only [Res.bind_ok] at q
      intro Y1 H1 vs e1 F1 r1
      cases r1 with
      | cons ra rb =>
        cases rb with
        | cons rb rc =>
          cases rc
          cases eds : sameKind d d' with
          | none => rw [eds] at q; exact q.elim
          | some ds =>
            rw [eds] at q
            simp only [ofO, Res.bind_ok] at q
            split at q
            rotate_left
            · exact q.elim
            rename_i hlen
            have fin : ∀ (l : Bool) (a b z TI TO i1 i2 : Addr) (oz oTI oTO o1 o2 : Obj), Walks c.K Y1 (Itq X.K l a b) ds → PySem.ZipApart z TI TO i1 i2 a b → (∀ p ∈ [z, TI, TO, i1, i2], H1 p = none ∧ X.s_0.heap.objs.size ≤ p) →
                (∀ h : Heap, h.get? z = some oz → h.get? TI = some oTI → h.get? TO = some oTO → h.get? i1 = some o1 → h.get? i2 = some o2 → StZ l h z TI TO i1 i2 a b) →
                tRet (tCallG (spF c.K c.er false 1 F) (fun σ cl x H => False) (tCons (tLc (iZv X.K X.s_0.heap.objs.size i) (tG (ow.map not) c.K g) (tT c.blk kYes) (tE c.blk fe) (own.map (·.2))) tNil)) D (σ.set i (some (.ref z))) (layE H1 [(z, oz), (TI, oTI), (TO, oTO), (i1, o1), (i2, o2)]) := by
              intro l a b z TI TO i1 i2 oz oTI oTO o1 o2 w Da fr st
              have F2 := F1.setNone i (some (.ref z))
              have hσ : (σ.set i (some (.ref z)))[i]? = some (some (.ref z)) := by
                rw [List.getElem?_set_self]
                rw [← F1.len]
                have : s2.length = ow.length := by simpa using hlen.symm
                rw [this, hf]
                simpa using hli
              unfold tRet tCallG tCons tLc
              refine ⟨z, TI, TO, i1, i2, a, b, l, oz, oTI, oTO, o1, o2, H1, Da, fr, st, hσ, rfl, ?_⟩
              suffices hb : out c ξ Y1 (σ.set i (some (.ref z))) [] [] (fun o s' => ∀ Y' H' v, Same Y1 Y' → FS ξ Y' H' (σ.set i (some (.ref z))) s' ([] ++ [v]) ([] ++ [o]) → spF c.K c.er false 1 F [v] H' D.rt (fun cl x H => False)) ((lcL ow g kYes fe ds [] (wipeF ow (s2.set i none))).bind fun acc s3 => .ok (.ol acc) (backF ow (s2.set i none) s3)) by
                have hb2 := lc_body (H0 := H) (Q := fun x H1 => spF c.K c.er false 1 F [x] H1 D.rt (fun cl x H => False)) hf hK F2 w hlen hb
                unfold tLc at hb2
                exact hb2
              cases el : lcL ow g kYes fe ds [] (wipeF ow (s2.set i none)) with
              | bad => rw [el] at q; exact q.elim
              | ex y s3 =>
                rw [el] at q
                exact fun Y' H' cl q' e' F' er => q Y' H' _ cl q' (e1.trans e') (.set hrf) F' er
              | ok acc s3 =>
                rw [el] at q
                simp only [Res.bind_ok] at q ⊢
                intro Y' H' v e2 F3
                obtain ⟨Y4, e4, F5, r5⟩ := F3.freezeT
                have eo : odsOf [none] [(OD.ol acc).frz] (backF ow (s2.set i none) s3) = some [.fz (OD.ol acc).frz] := rfl
                simp only [aNil, Res.bind_ok] at q
                rw [eo] at q
                obtain ⟨ξ', hK', h0, hz, F6, back⟩ := F5.enter (.val r5 .nil) eo (refsOk_of (by decide))
                refine ⟨ξ', Y4, _, hK'.trans hK, h0, hz, rfl, F6, ?_⟩
                unfold noexF at q
                simp only at q
                cases ef : F [OD.fz (OD.ol acc).frz] with
                | ok o s4 =>
                  rw [ef] at q
                  exact fun Y5 H5 v e5 F7 => q Y5 H5 _ v (((e1.trans e2).trans e4).trans e5) (.set hrf) (back Y5 H5 s4 [v] [o] e5 F7)
                | ex y s4 => rw [ef] at q; exact q.elim
                | bad => rw [ef] at q; exact q.elim
            unfold sameKind at eds
            split at eds
            · rename_i xs ys
              cases eds
              obtain ⟨a1, us, rfl, hq, hd⟩ := ra.list_inv
              obtain ⟨a2, ws, rfl, hq2, hd2⟩ := rb.list_inv
              have hq : SqL c.K Y1 a1 us := .inl (.inl hq)
              have hq2 : SqL c.K Y1 a2 ws := .inl (.inl hq2)
              refine ⟨a1, a2, true, rfl, ⟨⟨us, hXK ▸ F1.sub.seq hq⟩, ws, hXK ▸ F1.sub.seq hq2⟩, fun z TI TO i1 i2 oz oTI oTO o1 o2 Da fr st => fin true a1 a2 z TI TO i1 i2 oz oTI oTO o1 o2 ?_ Da fr st⟩
              rw [hXK]
              refine ⟨fun i H e hi => ?_, fun H e => ?_, fun i H x H' d e hd' hy Y2 e2 e3 => ?_⟩
              · rw [pairUp_length] at hi
                have h1 := hd.length
                have h2 := hd2.length
                exact ⟨us, ws, us[i]'(by omega), ws[i]'(by omega), e.seq hq, e.seq hq2, List.getElem?_eq_getElem _, List.getElem?_eq_getElem _⟩
              · refine ⟨us, ws, e.seq hq, e.seq hq2, ?_⟩
                rw [pairUp_length]
                have h1 := hd.length
                have h2 := hd2.length
                omega
              · obtain ⟨T, x1, x2, rfl, nT, rfl, f1, f2⟩ := hy
                obtain ⟨dx, dy, g1, g2, rfl⟩ := pairUp_get hd'
                obtain ⟨v1, h1, r1⟩ := hd.get g1
                obtain ⟨v2, h2, r2⟩ := hd2.get g2
                have z1 := f1 us (e.seq hq)
                have z2 := f2 ws (e.seq hq2)
                rw [h1] at z1
                rw [h2] at z2
                cases z1; cases z2
                exact ⟨_, .tup nT (.cons (r1.mono e2) (.cons (r2.mono e2) .nil))⟩
            · rename_i xs ys
              cases eds
              obtain ⟨a1, us, rfl, hq, hd⟩ := ra.tuple_inv
              obtain ⟨a2, ws, rfl, hq2, hd2⟩ := rb.tuple_inv
              refine ⟨a1, a2, false, rfl, ⟨⟨us, hXK ▸ Same.sqt F1.sub hq⟩, ws, hXK ▸ Same.sqt F1.sub hq2⟩, fun z TI TO i1 i2 oz oTI oTO o1 o2 Da fr st => fin false a1 a2 z TI TO i1 i2 oz oTI oTO o1 o2 ?_ Da fr st⟩
              rw [hXK]
              refine ⟨fun i H e hi => ?_, fun H e => ?_, fun i H x H' d e hd' hy Y2 e2 e3 => ?_⟩
              · rw [pairUp_length] at hi
                have h1 := hd.length
                have h2 := hd2.length
                exact ⟨us, ws, us[i]'(by omega), ws[i]'(by omega), Same.sqt e hq, Same.sqt e hq2, List.getElem?_eq_getElem _, List.getElem?_eq_getElem _⟩
              · refine ⟨us, ws, Same.sqt e hq, Same.sqt e hq2, ?_⟩
                rw [pairUp_length]
                have h1 := hd.length
                have h2 := hd2.length
                omega
              · obtain ⟨T, x1, x2, rfl, nT, rfl, f1, f2⟩ := hy
                obtain ⟨dx, dy, g1, g2, rfl⟩ := pairUp_get hd'
                obtain ⟨v1, h1, r1⟩ := hd.get g1
                obtain ⟨v2, h2, r2⟩ := hd2.get g2
                have z1 := f1 us (Same.sqt e hq)
                have z2 := f2 ws (Same.sqt e hq2)
                rw [h1] at z1
                rw [h2] at z2
                cases z1; cases z2
                exact ⟨_, .tup nT (.cons (r1.mono e2) (.cons (r2.mono e2) .nil))⟩
            · cases eds
end
end MI

set_option Elab.async false
set_option linter.all false
set_option autoImplicit false
set_option maxRecDepth 100000
/-! MI: enumerate of a list or a tuple. -/
namespace MI
open PySem PySem.Spec L2
section
open PyProof.Rows
theorem call_enum_begins {prog : Program} {w : World} {A : Around} {E : Value → Shared → Prop} {s : Shared} {v : Value} {o : Obj} {H : Heap → Prop} {Q : Value → Shared → Prop} (B : Begins v o H) (h1 : H s.heap)
    (h : ∀ h', IsEnum h' (s.heap.objs.size + 1) s.heap.objs.size 0 .none → h'.get? s.heap.objs.size = some o → h'.objs.size = s.heap.objs.size + 2 →
      (∀ b o, s.heap.get? b = some o → h'.get? b = some o) → Q (.ref (s.heap.objs.size + 1)) { s with heap := h' }) :
    wpAny (model prog w) A (call (.type "enumerate") [v]) Q E s := by
  refine callType_new F.called_enumerate (by decide) (F.typeCall_enumerate_1 _) (F.newCall_enumerate_1 _) (fun obj => F.args_object_init_2 obj _) F.entry_enumerate_new
    (meets_enum_begins B) ⟨h1, ?_⟩
  have hz : (s.heap.push o).objs.size = s.heap.objs.size + 1 := Heap.size_push ..
  show _ ∧ _
  rw [hz]
  have he : IsEnum ((s.heap.push o).push { cls := .type "enumerate", data := .fields #[.none, .bool false, .ref s.heap.objs.size, rawInt 0, .none, .none] }) (s.heap.objs.size + 1) s.heap.objs.size 0 .none := by
    have := Heap.get?_push_size (s.heap.push o) (o := { cls := .type "enumerate", data := .fields #[.none, .bool false, .ref s.heap.objs.size, rawInt 0, .none, .none] }) rfl
    rw [hz] at this; exact this
  exact ⟨⟨_, he, rfl⟩, h _ he (Heap.get?_push_of_some _ (Heap.get?_push_size _ B.free)) (by rw [Heap.size_push, hz]) fun b o x => Heap.get?_push_of_some _ (Heap.get?_push_of_some _ x)⟩
def iEnumA (K : PySem.W.Frag) (ta : TA) : TI := fun σ H R => ta σ H fun vs H1 => ∃ a xs, vs = [.ref a] ∧ ((SqL K H1 a xs ∧ R (Ite K a) H1) ∨ (SqT K H1 a xs ∧ R (IteT K a) H1))
theorem pi_enumA {X : Cx} {e : Expr} {ta : TA} {p pos tpos : Pos} {elts : List Expr} {kk : Nat} (hg : Gl X "enumerate") (hm : X.mg "enumerate" = none) (ha : PA X [e] ta) (hs : starEach [e] X.env = [(false, eval e X.env)] := by rfl) :
    PI X (.Tuple elts kk tpos) (.Call (.Name "enumerate" p) [e] [] pos) (iEnumA X.K ta) := by
  refine ⟨fun pins s σ H R I h => ?_⟩
  refine Call_ (ld_blt I hg hm boot_enumerate (PyProof.Rows.callWith_type1 (thn (ha.run pos pins s σ H _ I h) fun us s1 ⟨vs, H1, I1, r1, q1⟩ => ?_) hs rfl))
  obtain ⟨a, xs, ex, q⟩ := q1
  subst ex
  have fr : ∀ b ∈ [s1.heap.objs.size + 1, s1.heap.objs.size], FpOk X pins H1 b := fun b hb => by
    have e' : b = s1.heap.objs.size + 1 ∨ b = s1.heap.objs.size := by simpa using hb
    have hle : s1.heap.objs.size ≤ b := by
      rcases e' with z | z
      · rw [z]; exact Nat.le_add_right _ _
      · rw [z]; exact Nat.le_refl _
    exact I1.fpOk hle (I1.hok.fresh hle)
  cases r1 with
  | cons r rr =>
    cases rr
    cases r
    rcases q with ⟨hq, q⟩ | ⟨hq, q⟩
    · obtain ⟨its, rv, p', hz⟩ := I1.list hq
      refine call_enumerate_list p'.isList fun h' he hit hsz hk => wpAny_pyIter_enum he ?_
      have I2 : Inv X pins σ H1 { s1 with heap := h' } := I1.kept (t' := s1.toks) hk
      exact ⟨s1.heap.objs.size + 1, [s1.heap.objs.size + 1, s1.heap.objs.size], _, _, H1, rfl, I2, turn_enum a (s1.heap.objs.size + 1) s1.heap.objs.size, ⟨⟨.none, he⟩, hit, Nat.succ_ne_self _⟩, fr, q⟩
    · obtain ⟨its, rv, p', hz⟩ := I1.tuple hq
      have hal : a < s1.heap.objs.size := by
        obtain ⟨_, ho, _⟩ := id p'
        exact Heap.lt_size ho
      refine call_enum_begins (begins_tuple a its.toArray) p' fun h' he hit hsz hk => wpAny_pyIter_enum he ?_
      have I2 : Inv X pins σ H1 { s1 with heap := h' } := I1.kept (t' := s1.toks) hk
      exact ⟨s1.heap.objs.size + 1, [s1.heap.objs.size + 1, s1.heap.objs.size], _, _, H1, rfl, I2, turn_enumT a (s1.heap.objs.size + 1) s1.heap.objs.size, ⟨⟨.none, he⟩, ⟨_, hit, rfl, rfl⟩, Nat.succ_ne_self _, Nat.ne_of_gt (Nat.lt_succ_of_lt hal), Nat.ne_of_lt hal⟩, fr, q⟩
end
section
variable {X : Cx} {c : Ct} {ξ : Fx} {Y H : Hp} {σ : St} {s : S} {tv : List V} {ts : List OD} {fa : EF} {a : Expr} {p pos : Pos}
def numD : D → Option (List D)
  | .list xs => some (numbered 0 xs)
  | .tuple xs => some (numbered 0 xs)
  | _ => none
def iEnum2 (f : EF) : IF := fun s => (f s).bind fun d s => ofO (numD d) s
theorem mi_enum {elts : List Expr} {kk : Nat} {tpos : Pos} (hXK : X.K = c.K) (hg : Gl X "enumerate") (hm : X.mg "enumerate" = none) (ha : ME X c fa a) (hs : starEach [a] X.env = [(false, eval a X.env)] := by rfl) (hs2 : starEach [a] X.env = (false, eval a X.env) :: starEach [] X.env := by rfl) :
    MI_ X c (iEnum2 fa) (.Tuple elts kk tpos) (.Call (.Name "enumerate" p) [a] [] pos) := by
  refine ⟨PI.imp (pi_enumA hg hm (ma_cons ha ma_nil hs2).run hs) fun σ H R q => ?_⟩
  obtain ⟨ξ, Y, s, tv, ts, hK, F, q⟩ := q
  refine ⟨ξ, Y, s, tv, ts, hK, F, ?_⟩
  unfold iEnum2 at q
  unfold aCons aNil
  cases e : fa s with
  | bad => rw [e] at q; exact q.elim
  | ex x s1 => rw [e] at q; exact q
  | ok d s1 =>
    rw [e, Res.bind_ok] at q
    rw [Res.bind_ok, Res.bind_ok]
    intro Y1 H1 vs e1 F1 r1
    cases r1 with
    | cons ra rb =>
      cases rb
      cases d with
      | list ds =>
        obtain ⟨a, us, rfl, hq, hd⟩ := ra.list_inv
        have hq : SqL c.K Y1 a us := .inl (.inl hq)
        refine ⟨a, us, rfl, .inl ⟨hXK ▸ F1.sub.seq hq, ?_⟩⟩
        rw [hXK]
        refine q Y1 H1 _ e1 F1 ⟨fun i H e hi => ?_, fun H e => ?_, fun i H x H' d e hd' hy Y2 e2 e3 => ?_⟩
        · rw [numbered_length] at hi
          have h1 := hd.length
          exact ⟨us, us[i]'(by omega), e.seq hq, List.getElem?_eq_getElem _⟩
        · refine ⟨us, e.seq hq, ?_⟩
          rw [numbered_length, hd.length]
          exact Nat.le_refl _
        · obtain ⟨T, x1, rfl, nT, rfl, f1⟩ := hy
          obtain ⟨dx, g1, rfl⟩ := numbered_get hd'
          obtain ⟨v1, h1, r1⟩ := hd.get g1
          have z1 := f1 us (e.seq hq)
          rw [h1] at z1
          cases z1
          refine ⟨_, .tup nT (.cons ?_ (.cons (r1.mono e2) .nil))⟩
          rw [Nat.zero_add]
          exact .int _
      | tuple ds =>
        obtain ⟨a, us, rfl, hq, hd⟩ := ra.tuple_inv
        refine ⟨a, us, rfl, .inr ⟨hXK ▸ Same.sqt F1.sub hq, ?_⟩⟩
        rw [hXK]
        refine q Y1 H1 _ e1 F1 ⟨fun i H e hi => ?_, fun H e => ?_, fun i H x H' d e hd' hy Y2 e2 e3 => ?_⟩
        · rw [numbered_length] at hi
          have h1 := hd.length
          exact ⟨us, us[i]'(by omega), Same.sqt e hq, List.getElem?_eq_getElem _⟩
        · refine ⟨us, Same.sqt e hq, ?_⟩
          rw [numbered_length, hd.length]
          exact Nat.le_refl _
        · obtain ⟨T, x1, rfl, nT, rfl, f1⟩ := hy
          obtain ⟨dx, g1, rfl⟩ := numbered_get hd'
          obtain ⟨v1, h1, r1⟩ := hd.get g1
          have z1 := f1 us (Same.sqt e hq)
          rw [h1] at z1
          cases z1
          refine ⟨_, .tup nT (.cons ?_ (.cons (r1.mono e2) .nil))⟩
          rw [Nat.zero_add]
          exact .int _
      | none => exact q.elim
      | bool _ => exact q.elim
      | int _ => exact q.elim
      | str _ => exact q.elim
      | dict _ => exact q.elim
end
end MI

set_option Elab.async false
set_option linter.all false
set_option autoImplicit false
set_option maxRecDepth 100000
/-! MI: zip of two, each a list or a tuple. -/
namespace MI
open PySem PySem.Spec L2
section
open PyProof.Rows
def SqX (K : PySem.W.Frag) (l : Bool) (H : Hp) (a : Addr) (xs : List V) : Prop := if l = true then SqL K H a xs else SqT K H a xs
def HasX (l : Bool) (h : Heap) (a : Addr) (its : Array Value) : Prop := if l = true then h.IsList a its else h.IsTuple a its
def IterX (l : Bool) (h : Heap) (it a : Addr) (i : Nat) : Prop := if l = true then h.IsListIter it a i else h.IsTupleIter it a i
def ItzX (K : PySem.W.Frag) (l1 l2 : Bool) (a b : Addr) : It :=
  ⟨fun i H => ∃ (xs ys : List V) (x y : V), SqX K l1 H a xs ∧ SqX K l2 H b ys ∧ xs[i]? = some x ∧ ys[i]? = some y,
    fun i H v H' => ∃ T x y, v = .ref T ∧ H T = none ∧ H' = upd H T (.tup [x, y]) ∧ (∀ xs, SqX K l1 H a xs → xs[i]? = some x) ∧ ∀ ys, SqX K l2 H b ys → ys[i]? = some y,
    fun i H => ∃ xs ys : List V, SqX K l1 H a xs ∧ SqX K l2 H b ys ∧ (xs.length ≤ i ∨ ys.length ≤ i) ∧ i ≤ xs.length ∧ i ≤ ys.length⟩
theorem IterX.at {l : Bool} {h h' : Heap} {it a : Addr} {i : Nat} (x : IterX l h it a i) (k : ∀ o, h.get? it = some o → h'.get? it = some o) : IterX l h' it a i := by
  cases l with
  | true => exact Heap.IsListIter.at x fun o q => k o q
  | false => exact Heap.IsTupleIter.at x fun o q => k o q
theorem HasX.at {l : Bool} {h h' : Heap} {a : Addr} {its : Array Value} (x : HasX l h a its) (k : ∀ o, h.get? a = some o → h'.get? a = some o) : HasX l h' a its := by
  cases l with
  | true => exact Heap.IsList.at x fun o q => k o q
  | false => exact Heap.IsTuple.at x fun o q => k o q
theorem IterX.obj {l : Bool} {h : Heap} {it a : Addr} {i : Nat} (x : IterX l h it a i) : ∃ o, h.get? it = some o ∧ ∀ v, o.data ≠ .cell v := by
  cases l with
  | true =>
    obtain ⟨o, ho, hc, hd⟩ := (show h.IsListIter it a i from x)
    exact ⟨o, ho, fun v q => by rw [hd] at q; cases q⟩
  | false =>
    obtain ⟨o, ho, hc, hd⟩ := (show h.IsTupleIter it a i from x)
    exact ⟨o, ho, fun v q => by rw [hd] at q; cases q⟩
theorem draws_X {prog : Program} {w : World} {A : Around} (hh : A.handled = none) (l : Bool) (it a : Addr) (hne : a ≠ it) (items : Array Value) :
    Draws prog w A it [it, a] items.size (fun i v => items[i]? = some v) (fun i h => IterX l h it a i ∧ HasX l h a items) := by
  cases l with
  | true => exact Draws.list hh it a hne items
  | false => exact Draws.tuple hh it a hne items
theorem sqX_its {X : Cx} {pins : List (Addr × Obj)} {σ : L2.St} {H : Hp} {s : Shared} (I : Inv X pins σ H s) {l : Bool} {a : Addr} {xs : List V} (h : SqX X.K l H a xs) : ∃ its, Vals xs its ∧ HasX l s.heap a its.toArray := by
  cases l with
  | true =>
    obtain ⟨its, rv, p, _⟩ := I.list (show SqL X.K H a xs from h)
    exact ⟨its, rv, p.isList⟩
  | false =>
    obtain ⟨its, rv, p, _⟩ := I.tuple (show SqT X.K H a xs from h)
    exact ⟨its, rv, p⟩
theorem sqX_inj {X : Cx} {pins : List (Addr × Obj)} {σ : L2.St} {H : Hp} {s : Shared} (I : Inv X pins σ H s) {l : Bool} {a : Addr} {xs ys : List V} (h : SqX X.K l H a xs) (h' : SqX X.K l H a ys) : xs = ys := by
  cases l with
  | true => exact I.list_inj h h'
  | false => exact I.tuple_inj h h'
theorem HasX.lt {l : Bool} {h : Heap} {a : Addr} {its : Array Value} (x : HasX l h a its) : a < h.objs.size := by
  cases l with
  | true =>
    obtain ⟨o, ho, _⟩ := (show h.IsList a its from x)
    exact Heap.lt_size ho
  | false =>
    obtain ⟨o, ho, _⟩ := (show h.IsTuple a its from x)
    exact Heap.lt_size ho
theorem sep_of {z TI TO i1 i2 a b : Addr} (D : ZipApart z TI TO i1 i2 a b) : ZipSep2 z TI TO i1 i2 [i1, a] [i2, b] where
  TIz := D.TIz
  TOz := D.TOz
  TITO := D.TITO
  TIi1 := D.TIi1
  mem1 := by simp
  zf1 := by simp [D.i1z.symm, D.l1z.symm]
  Tf1 := by simp [D.TOi1, D.l1TO.symm]
  TIi2 := D.TIi2
  mem2 := by simp
  zf2 := by simp [D.i2z.symm, D.l2z.symm]
  Tf2 := by simp [D.TOi2, D.l2TO.symm]
  sep1_2 := by simp [D.i12, D.l2i1.symm]
  sep2_1 := by simp [D.i12.symm, D.l1i2.symm]
set_option maxHeartbeats 1000000 in
theorem turn_zipX {P : Program} {w : World} {K : PySem.W.Frag} {elts : List Expr} {kk : Nat} {tpos : Pos} (l1 l2 : Bool) {a b z TI TO i1 i2 : Addr} (D : ZipApart z TI TO i1 i2 a b) :
    Turn P w K (.Tuple elts kk tpos) (ItzX K l1 l2 a b) [z, TI, TO, i1, i2] z (fun i h => IsZip h z TI TO .none ∧ IsPair h TI (.ref i1) (.ref i2) ∧ (∃ x y, IsPair h TO x y) ∧ IterX l1 h i1 a i ∧ IterX l2 h i2 b i) where
  mem := by simp
  obj := fun i h st c hc => by
    obtain ⟨hz, hTI, ⟨x, y, hTO⟩, h1, h2⟩ := st
    have e' : c = z ∨ c = TI ∨ c = TO ∨ c = i1 ∨ c = i2 := by simpa using hc
    rcases e' with q | q | q | q | q
    · rw [q]; exact ⟨_, hz, fun v q => nomatch q⟩
    · rw [q]; exact ⟨_, hTI, fun v q => nomatch q⟩
    · rw [q]; exact ⟨_, hTO, fun v q => nomatch q⟩
    · rw [q]; exact h1.obj
    · rw [q]; exact h2.obj
  keep := fun i h h' st k => by
    obtain ⟨hz, hTI, ⟨x, y, hTO⟩, h1, h2⟩ := st
    exact ⟨k z (by simp) _ hz, k TI (by simp) _ hTI, ⟨x, y, k TO (by simp) _ hTO⟩, h1.at fun o q => k i1 (by simp) o q, h2.at fun o q => k i2 (by simp) o q⟩
  item := by
    intro X hP hw hK hc i pins s σ H E I hf st hg
    subst hP hw hK
    obtain ⟨hz, hTI, ⟨x0, y0, hTO⟩, h1, h2⟩ := st
    obtain ⟨xs, ys, x, y, hqx, hqy, hx, hy⟩ := hg
    obtain ⟨its, rv, p⟩ := sqX_its I hqx
    obtain ⟨its2, rv2, p2⟩ := sqX_its I hqy
    obtain ⟨u, hu, ru⟩ := rv.get hx
    obtain ⟨u2, hu2, ru2⟩ := rv2.get hy
    have hzl : z < s.heap.objs.size := Heap.lt_size hz
    have lt1 : i < its.toArray.size := by simpa using lt_of_get hu
    have lt2 : i < its2.toArray.size := by simpa using lt_of_get hu2
    have hh : X.A.in1.handled = none := I.ok.hd hc
    refine wpAny_pyNext_zipD2_item (sep_of D) (draws_X hh l1 i1 a D.l1i1 its.toArray) (draws_X hh l2 i2 b D.l2i2 its2.toArray) hz hTI hTO ⟨h1, p⟩ ⟨h2, p2⟩ lt1 lt2 fun v1 v2 h' tk y1 y2 z' TO' h1' h2' hT hsz hk => ?_
    obtain rfl : v1 = u := by
      have : its[i]? = some v1 := by simpa using y1
      rw [hu] at this
      exact (Option.some.inj this).symm
    obtain rfl : v2 = u2 := by
      have : its2[i]? = some v2 := by simpa using y2
      rw [hu2] at this
      exact (Option.some.inj this).symm
    refine ⟨_, rfl, wpAny_letOwnedTupleGo_zip (s := { s with heap := h', toks := tk }) z' fun h'' z'' sb => ?_⟩
    have hT2 : h''.get? s.heap.objs.size = some { cls := .type "tuple", data := .seq #[v1, v2] } := (sb.2 _ (Nat.ne_of_gt hzl)).trans hT
    have new : ObjOk X.prog X.w (upd H s.heap.objs.size (.tup [x, y])) h'' s.heap.objs.size (.tup [x, y]) :=
      ⟨by show 2 ≤ sizeLine; decide, [v1, v2], .cons ru (.cons ru2 .nil), ⟨_, hT2, rfl, _, rfl⟩⟩
    have I1 : Inv X pins σ (upd H s.heap.objs.size (.tup [x, y])) { s with heap := h'', toks := tk } :=
      I.turnedNew (ch := [z, TI, TO, i1, i2]) (fun c o hb q => (sb.2 c (fun q' => hb (by simp [q']))).trans (hk c o (fun q' => hb (by simp [q'])) (fun q' => hb (by simp [q'])) (fun q' => hb (by simp [q'])) (fun q' => hb (by simp [q'])) q)) hf (Nat.le_refl _) new
    refine ⟨.ref s.heap.objs.size, _, I1, rfl, ⟨_, x, y, rfl, I.hok.fresh (Nat.le_refl _), rfl, fun l hl => by rw [sqX_inj I hl hqx]; exact hx, fun l hl => by rw [sqX_inj I hl hqy]; exact hy⟩, ⟨z'', ?_, ⟨v1, v2, ?_⟩, ?_, ?_⟩, fun c hcm => ?_⟩
    · exact (sb.2 _ D.TIz).trans (hk _ _ D.TIz D.TITO D.TIi1 D.TIi2 hTI)
    · exact (sb.2 _ D.TOz).trans TO'
    · exact h1'.1.at fun o q => (sb.2 _ D.i1z).trans q
    · exact h2'.1.at fun o q => (sb.2 _ D.i2z).trans q
    · have hlt : c < s.heap.objs.size := by
        have e' : c = z ∨ c = TI ∨ c = TO ∨ c = i1 ∨ c = i2 := by simpa using hcm
        rcases e' with q | q | q | q | q
        · rw [q]; exact hzl
        · rw [q]; exact Heap.lt_size hTI
        · rw [q]; exact Heap.lt_size hTO
        · rw [q]; obtain ⟨_, e1, _⟩ := h1.obj; exact Heap.lt_size e1
        · rw [q]; obtain ⟨_, e2, _⟩ := h2.obj; exact Heap.lt_size e2
      rw [upd_ne (Nat.ne_of_lt hlt)]
      exact (hf c hcm).1
  done := by
    intro X hP hw hK hc i pins s σ H E I hf st hg
    subst hP hw hK
    obtain ⟨hz, hTI, ⟨x0, y0, hTO⟩, h1, h2⟩ := st
    obtain ⟨xs, ys, hqx, hqy, hend, hle1, hle2⟩ := hg
    obtain ⟨its, rv, p⟩ := sqX_its I hqx
    obtain ⟨its2, rv2, p2⟩ := sqX_its I hqy
    have e1 := rv.length
    have e2 := rv2.length
    have hh : X.A.in1.handled = none := I.ok.hd hc
    refine wpAny_pyNext_zipD2_end (sep_of D) (draws_X hh l1 i1 a D.l1i1 its.toArray) (draws_X hh l2 i2 b D.l2i2 its2.toArray) hz hTI hTO ⟨h1, p⟩ ⟨h2, p2⟩ (by simp; omega) (by simp; omega) (by simp; omega) fun h' tk hk => ⟨rfl, I.turnedL (t' := tk) (ch := [z, TI, TO, i1, i2]) (fun c o hb q =>
      hk c o (fun q' => hb (by simp [q'])) (fun q' => hb (by simp [q'])) (fun q' => hb (by simp [q'])) (fun q' => hb (by simp [q'])) q) hf⟩
  self := fun A i s Q E st h => wpAny_pyIter_zip st.1 h
def begO (l : Bool) (a : Addr) : Obj := if l = true then { cls := .type "list_iterator", data := .fields #[.ref a, .int 0 0] } else { cls := .type "tuple_iterator", data := .fields #[.ref a, .int 0 0] }
theorem begins_X (l : Bool) (a : Addr) (items : Array Value) : Begins (.ref a) (begO l a) fun h => HasX l h a items := by
  cases l with
  | true => exact begins_list a items
  | false => exact begins_tuple a items
theorem beg_iter {l : Bool} {h : Heap} {it a : Addr} (e : h.get? it = some (begO l a)) : IterX l h it a 0 := by
  cases l with
  | true => exact ⟨_, e, rfl, rfl⟩
  | false => exact ⟨_, e, rfl, rfl⟩
def iZipX (K : PySem.W.Frag) (ta : TA) : TI := fun σ H R => ta σ H fun vs H1 => ∃ a b l1 l2 xs ys, vs = [.ref a, .ref b] ∧ SqX K l1 H1 a xs ∧ SqX K l2 H1 b ys ∧ R (ItzX K l1 l2 a b) H1
theorem pi_zipX {X : Cx} {e e2 : Expr} {ta : TA} {p pos tpos : Pos} {elts : List Expr} {kk : Nat} (hg : Gl X "zip") (hm : X.mg "zip" = none) (ha : PA X [e, e2] ta)
    (hs : starEach [e, e2] X.env = (false, eval e X.env) :: starEach [e2] X.env := by rfl) (hpl : (backTo pos (starEach [e2] X.env)).any (·.1) = false := by rfl) :
    PI X (.Tuple elts kk tpos) (.Call (.Name "zip" p) [e, e2] [] pos) (iZipX X.K ta) := by
  refine ⟨fun pins s σ H R I h => ?_⟩
  refine Call_ (ld_blt I hg hm PyProof.Rows.boot_zip (PyProof.Rows.callWith_type1 (thn (ha.run pos pins s σ H _ I h) fun us s1 ⟨vs, H1, I1, r1, q1⟩ => ?_) hs hpl))
  obtain ⟨a, b, l1, l2, xs, ys, ex, hqx, hqy, q⟩ := q1
  subst ex
  cases r1 with
  | cons r rr =>
    cases rr with
    | cons r' rr =>
      cases rr
      cases r
      cases r'
      have fresh5 : ∀ c, c ∈ [s1.heap.objs.size + 4, s1.heap.objs.size + 2, s1.heap.objs.size + 3, s1.heap.objs.size, s1.heap.objs.size + 1] → FpOk X pins H1 c := fun c hcm => by
        have e' : c = s1.heap.objs.size + 4 ∨ c = s1.heap.objs.size + 2 ∨ c = s1.heap.objs.size + 3 ∨ c = s1.heap.objs.size ∨ c = s1.heap.objs.size + 1 := by simpa using hcm
        have hle : s1.heap.objs.size ≤ c := by
          rcases e' with z | z | z | z | z
          · rw [z]; exact Nat.le_add_right _ _
          · rw [z]; exact Nat.le_add_right _ _
          · rw [z]; exact Nat.le_add_right _ _
          · rw [z]; exact Nat.le_refl _
          · rw [z]; exact Nat.le_add_right _ _
        exact I1.fpOk hle (I1.hok.fresh hle)
      obtain ⟨its, rv, p1⟩ := sqX_its I1 hqx
      obtain ⟨its2, rv2, p2⟩ := sqX_its I1 hqy
      refine zip_begins2 (begins_X l1 a its.toArray) (begins_X l2 b its2.toArray) p1 p2 fun h' hz hTI hTO h1 h2 hsz hk => wpAny_pyIter_zip hz ?_
      have I2 : Inv X pins σ H1 { s1 with heap := h' } := I1.kept (t' := s1.toks) hk
      exact ⟨s1.heap.objs.size + 4, [s1.heap.objs.size + 4, s1.heap.objs.size + 2, s1.heap.objs.size + 3, s1.heap.objs.size, s1.heap.objs.size + 1], _, _, H1, rfl, I2, turn_zipX l1 l2 (PySem.W.ktu_apart s1.heap.objs.size a b p1.lt p2.lt), ⟨hz, hTI, ⟨_, _, hTO⟩, beg_iter h1, beg_iter h2⟩, fresh5, q⟩
end
section
variable {X : Cx} {c : Ct} {ξ : Fx} {Y H : Hp} {σ : St} {s : S} {tv : List V} {ts : List OD} {fa fb : EF} {a b : Expr} {p pos : Pos}
theorem Dr.seqX {K : PySem.W.Frag} {Y : Hp} {v : V} {d : D} {ds : List D} (h : Dr K Y v d) (e : itemsD d = some ds) : ∃ a l vs, v = .ref a ∧ SqX K l Y a vs ∧ DrAll K Y vs ds := by
  cases d with
  | list xs =>
    cases e
    obtain ⟨a, us, rfl, hq, hd⟩ := h.list_inv
    exact ⟨a, true, us, rfl, .inl (.inl hq), hd⟩
  | tuple xs =>
    cases e
    obtain ⟨a, us, rfl, hq, hd⟩ := h.tuple_inv
    exact ⟨a, false, us, rfl, hq, hd⟩
  | none => cases e
  | bool _ => cases e
  | int _ => cases e
  | str _ => cases e
  | dict _ => cases e
theorem SqX.mono {K : PySem.W.Frag} {l : Bool} {H H' : Hp} {a : Addr} {xs : List V} (h : SqX K l H a xs) (e : Same H H') : SqX K l H' a xs := by
  cases l with
  | true => exact e.seq (show SqL K H a xs from h)
  | false => exact Same.sqt e (show SqT K H a xs from h)
def pairD2 (d e : D) : Option (List D) := (itemsD d).bind fun xs => (itemsD e).map fun ys => pairUp xs ys
def iZip2 (f g : EF) : IF := fun s => (f s).bind fun d s => (g s).bind fun e s => ofO (pairD2 d e) s
theorem mi_zip2 {elts : List Expr} {kk : Nat} {tpos : Pos} (hXK : X.K = c.K) (hg : Gl X "zip") (hm : X.mg "zip" = none) (ha : ME X c fa a) (hb : ME X c fb b)
    (hs : starEach [a, b] X.env = (false, eval a X.env) :: starEach [b] X.env := by rfl) (hs2 : starEach [b] X.env = (false, eval b X.env) :: starEach [] X.env := by rfl) (hpl : (backTo pos (starEach [b] X.env)).any (·.1) = false := by rfl) :
    MI_ X c (iZip2 fa fb) (.Tuple elts kk tpos) (.Call (.Name "zip" p) [a, b] [] pos) := by
  refine ⟨PI.imp (pi_zipX hg hm (ma_cons ha (ma_cons hb ma_nil hs2) hs).run hs hpl) fun σ H R q => ?_⟩
  obtain ⟨ξ, Y, s, tv, ts, hK, F, q⟩ := q
  refine ⟨ξ, Y, s, tv, ts, hK, F, ?_⟩
  unfold iZip2 at q
  unfold aCons aNil
  cases e : fa s with
  | bad => rw [e] at q; exact q.elim
  | ex x s1 => rw [e] at q; exact q
  | ok d s1 =>
    rw [e, Res.bind_ok] at q
    rw [Res.bind_ok]
    cases e' : fb s1 with
    | bad => rw [e'] at q; exact q.elim
    | ex x s1 => rw [e'] at q; exact q
    | ok d' s2 =>
      rw [e', Res.bind_ok] at q
      rw [Res.bind_ok, Res.bind_ok, Res.bind_ok]
      intro Y1 H1 vs e1 F1 r1
      cases r1 with
      | cons ra rb =>
        cases rb with
        | cons rb rc =>
          cases rc
          unfold pairD2 at q
          cases ed : itemsD d with
          | none => rw [ed] at q; exact q.elim
          | some xs =>
            cases ed' : itemsD d' with
            | none => rw [ed, ed'] at q; exact q.elim
            | some ys =>
              rw [ed, ed'] at q
              obtain ⟨a1, l1, us, rfl, hq, hd⟩ := ra.seqX ed
              obtain ⟨a2, l2, ws, rfl, hq2, hd2⟩ := rb.seqX ed'
              refine ⟨a1, a2, l1, l2, us, ws, rfl, hXK ▸ hq.mono F1.sub, hXK ▸ hq2.mono F1.sub, ?_⟩
              rw [hXK]
              have h1 := hd.length
              have h2 := hd2.length
              refine q Y1 H1 _ e1 F1 ⟨fun i H e hi => ?_, fun H e => ?_, fun i H x H' d e hd' hy Y2 e2 e3 => ?_⟩
              · rw [pairUp_length] at hi
                exact ⟨us, ws, us[i]'(by omega), ws[i]'(by omega), hq.mono e, hq2.mono e, List.getElem?_eq_getElem _, List.getElem?_eq_getElem _⟩
              · refine ⟨us, ws, hq.mono e, hq2.mono e, ?_⟩
                rw [pairUp_length]
                omega
              · obtain ⟨T, x1, x2, rfl, nT, rfl, f1, f2⟩ := hy
                obtain ⟨dx, dy, g1, g2, rfl⟩ := pairUp_get hd'
                obtain ⟨v1, h1, r1⟩ := hd.get g1
                obtain ⟨v2, h2, r2⟩ := hd2.get g2
                have z1 := f1 us (hq.mono e)
                have z2 := f2 ws (hq2.mono e)
                rw [h1] at z1
                rw [h2] at z2
                cases z1; cases z2
                exact ⟨_, .tup nT (.cons (r1.mono e2) (.cons (r2.mono e2) .nil))⟩
end
end MI

set_option Elab.async false
set_option linter.all false
set_option autoImplicit false
set_option maxRecDepth 100000
/-! MI: repr of data with great numbers. -/
namespace MI
open PySem PySem.Spec L2
mutual
/-- no dict, numbers of fewer than 4300 figures -/
def wideOk : D → Bool
  | .none => true
  | .bool _ => true
  | .int i => decide (i.natAbs.log2 < 12900)
  | .str _ => true
  | .list ds => wideAll ds
  | .tuple ds => wideAll ds
  | .dict _ => false
def wideAll : List D → Bool
  | [] => true
  | d :: ds => wideOk d && wideAll ds
end
theorem wide10 {i : Int} (h : i.natAbs.log2 < 12900) : i.natAbs < 10 ^ 4300 := Nat.lt_of_lt_of_le (PyProof.Rows.lt_of_log2 h) PyProof.Rows.pow_lo
theorem noDigits_of {K : PySem.W.Frag} {h : Heap} (hK : K.In h) (hl : h.NoLimit) (e : PySem.W.nsIn K cStatics "sys.int_max_str_digits" = some none) : h.NoDigits := by
  obtain ⟨mc, G, _⟩ := hl
  refine ⟨mc, G, ?_⟩
  obtain ⟨o, es, ep, ho, hd, _, hf⟩ := G
  unfold PySem.W.nsIn at e
  split at e
  · rename_i c d es' n' sl q
    have this := hK _ _ q
    rw [ho] at this
    cases this
    cases hd
    split at e
    · cases e
    · rename_i he
      rw [← hf]
      unfold nsFind findBy
      rw [← Array.find?_toList, he]
      rfl
  · cases e
section
variable {prog : Program} {w : World} {A : Around} {E : Value → Shared → Prop} {s : Shared}
open PyProof.Rows in
set_option maxRecDepth 100000 in
theorem int_reprW {a : Int} {t : Tok} {Q : Value → Shared → Prop} (hn : s.heap.NoDigits) (ha : a.natAbs < 10 ^ 4300) (h : Q (.str (toString a) s.toks) { s with toks := s.toks + 1 }) : wpAny (model prog w) A (call (.builtin "int.__repr__") [.int a t]) Q E s := by
  refine wpAny_call_entry F.slot_int_repr (typeIs_int s a t) F.entry_int_repr ?_ (F.args_int_repr_1 _)
  unfold Builtin.«int.__repr__»
  show wpAny _ _ (do let r ← Builtin.overDigitLimit? a; _) _ _ s
  exact wpAny_bind (overDigitLimit_any hn (fun _ => wpAny_bind (wpAny_mkStr (wpAny_pure ⟨_, rfl, h⟩) (int_text_fits10 ha))) fun z => absurd ha (Nat.not_lt.mpr z))
theorem reprK_int {h₀ : Heap} {as : List Addr} {d : Nat} {a : Int} {t : Tok} (hn : h₀.NoDigits) (ha : a.natAbs < 10 ^ 4300) : ReprK prog w as h₀ d (.int a t) (toString a) := by
  intro base hb A g E s Q hg hcl hu hk0 hQ
  have hle : base ≤ sizeLine := by omega
  rw [pyReprUnder_leaf (v := .int a t) hle (fun _ e => nomatch e)]
  unfold pyRepr
  refine wpAny_bind (wpAny_pyReprObj_slot (by omega) (typeIs_int s a t) F.slot_int_repr.toG (int_reprW (hn.keeps hk0) ha ⟨_, _, rfl, ?_⟩))
  exact wpAny_pure (hQ s.heap _ fun _ _ e => e)
variable {h₀ : Heap}
mutual
theorem reprK2 (hn : h₀.NoDigits) : ∀ {v : Value} {d : PyData} {as : List Addr}, Reads h₀ v d as → wideOk d = true → d.shown.length ≤ sizeLine → ∃ bs, ReadAtMost h₀ d.depth bs ∧ ReprK prog w bs h₀ d.depth v d.shown
  | _, _, _, .none, _, _ => ⟨[], (fun _ h => nomatch h), by rw [PyData.shown]; exact .of_is ReprIs.none _ _ _⟩
  | _, _, _, .bool b, _, _ => ⟨[], (fun _ h => nomatch h), by rw [PyData.shown]; exact .of_is (ReprIs.bool b) _ _ _⟩
  | _, _, _, .int i t, hs, _ => ⟨[], (fun _ h => nomatch h), by rw [PyData.shown]; exact reprK_int hn (wide10 (by simpa [wideOk] using hs))⟩
  | _, _, _, .str x t, _, hz => ⟨[], (fun _ h => nomatch h), by rw [PyData.shown]; exact .of_is (ReprIs.str x t (by rw [PyData.shown] at hz; exact hz)) _ _ _⟩
  | _, _, _, .list (a := a) (vs := vs) (xs := xs) h1 h2 h3 h4, hs, hz => by
    rw [PyData.shown] at hz
    obtain ⟨bs, hb, hk⟩ := reprAllK2 hn h4 (by rw [wideOk] at hs; exact hs) fun t ht => Nat.le_trans (listText_mem_le ht) hz
    have hna : a ∉ bs := not_mem_of_deeper (.list h1 h2 h3 h4) (by simp only [PyData.depth]; omega) hb
    refine ⟨a :: bs, ReadAtMost.cons (.list h1 h2 h3 h4) (by simp only [PyData.depth]; omega) hb, ?_⟩
    rw [PyData.depth, PyData.shown]
    obtain ⟨l⟩ := vs
    cases l with
    | nil =>
      have h5 : ReadsAll h₀ [] xs _ := h4
      cases h5
      rw [PyData.shownAll, listText_nil]
      exact .listEmpty h1 h2 h3
    | cons x l => exact .list h1 h2 h3 hna (by simpa using hk.length_eq) fun i y e => hk.item i y (by simpa using e)
  | _, _, _, .tuple (a := a) (xs := xs) h1 h2 h3 h4, hs, hz => by
    rw [PyData.shown] at hz
    obtain ⟨bs, hb, hk⟩ := reprAllK2 hn h4 (by rw [wideOk] at hs; exact hs) fun t ht => Nat.le_trans (tupleText_mem_le ht) hz
    have hna : a ∉ bs := not_mem_of_deeper (.tuple h1 h2 h3 h4) (by simp only [PyData.depth]; omega) hb
    refine ⟨a :: bs, ReadAtMost.cons (.tuple h1 h2 h3 h4) (by simp only [PyData.depth]; omega) hb, ?_⟩
    rw [PyData.depth, PyData.shown]
    exact .tuple h1 h2 h3 hna hk
  | _, _, _, .dict _ _ _ _ _, hs, _ => by simp [wideOk] at hs
theorem reprAllK2 (hn : h₀.NoDigits) : ∀ {vs : List Value} {ds : List PyData} {as : List Addr}, ReadsAll h₀ vs ds as → wideAll ds = true → (∀ t ∈ PyData.shownAll ds, t.length ≤ sizeLine) →
    ∃ bs, ReadAtMost h₀ (PyData.depthAll ds) bs ∧ ReprAllK prog w bs h₀ (PyData.depthAll ds) vs (PyData.shownAll ds)
  | _, _, _, .nil, _, _ => ⟨[], (fun _ h => nomatch h), by rw [PyData.shownAll]; exact .nil⟩
  | _, _, _, .cons (d := d) (ds := ds) r rs, hs, hz => by
    rw [wideAll, Bool.and_eq_true] at hs
    rw [PyData.shownAll] at hz
    obtain ⟨b1, hb1, k1⟩ := reprK2 hn r hs.1 (hz _ (List.mem_cons_self ..))
    obtain ⟨b2, hb2, k2⟩ := reprAllK2 hn rs hs.2 fun t ht => hz t (List.mem_cons_of_mem _ ht)
    rw [PyData.depthAll, PyData.shownAll]
    exact ⟨b1 ++ b2, (hb1.mono (Nat.le_max_left _ _)).append (hb2.mono (Nat.le_max_right _ _)), .cons ((k1.more fun b hb => List.mem_append_left _ hb).level_le (Nat.le_max_left _ _)) (k2.more_le (fun b hb => List.mem_append_right _ hb) (Nat.le_max_right _ _))⟩
end
end
def ReprOkW (d : D) : Prop := wideOk d = true ∧ d.depth ≤ 60 ∧ d.shown.length ≤ sizeLine
instance (d : D) : Decidable (ReprOkW d) := inferInstanceAs (Decidable (_ ∧ _ ∧ _))
mutual
theorem wide_plain : ∀ d : D, wideOk d = true → plain d = true
  | .none, _ => rfl
  | .bool _, _ => rfl
  | .int _, _ => rfl
  | .str _, _ => rfl
  | .list ds, h => by rw [plain]; exact wide_plainAll ds (by rw [wideOk] at h; exact h)
  | .tuple ds, h => by rw [plain]; exact wide_plainAll ds (by rw [wideOk] at h; exact h)
  | .dict _, h => by simp [wideOk] at h
theorem wide_plainAll : ∀ ds : List D, wideAll ds = true → plainAll ds = true
  | [], _ => rfl
  | d :: ds, h => by
    rw [wideAll, Bool.and_eq_true] at h
    rw [plainAll, wide_plain d h.1, wide_plainAll ds h.2]; rfl
end
theorem call_reprW {X : Cx} (hD : PySem.W.nsIn X.K cStatics "sys.int_max_str_digits" = some none) (hG : X.A.guards = some []) (hu : X.A.units + 64 < cLine) : CallR X (.builtin "repr") (fun xs H Q => ∃ x d, xs = [x] ∧ Dp X.K H x d ∧ ReprOkW d ∧ Q (.str d.shown) H) := by
  intro pins s σ H xs us Q I r h
  obtain ⟨x, d, rfl, hd, ⟨hw, hdp, hz⟩, q⟩ := h
  have hn : s.heap.NoDigits := noDigits_of I.kIn I.nolimit hD
  cases r with
  | cons rx rr =>
    cases rr
    obtain ⟨as, rd⟩ := Dp.reads I d x _ hd rx
    cases hd with
    | non =>
      cases rx
      exact PySem.P.repr_of_none ⟨.str _, H, I.tok _, ⟨_, rfl⟩, q⟩
    | bl b =>
      cases rx
      exact PySem.P.repr_of_bool ⟨.str _, H, I.tok _, ⟨_, rfl⟩, by
        simp only [PyData.shown] at q
        cases b <;> exact q⟩
    | int i =>
      obtain ⟨t, rfl⟩ := rx
      exact call_repr_slot (by omega) (typeIs_int s i t) F.slot_int_repr.toG (int_reprW hn (wide10 (by simpa [wideOk] using hw)) ⟨_, _, rfl, .str _, H, I.tok _, ⟨_, rfl⟩, q⟩)
    | str y =>
      obtain ⟨t, rfl⟩ := rx
      exact PySem.P.repr_of_str ⟨.str _, H, I.tok _, ⟨_, rfl⟩, q⟩ hz
    | lst _ _ =>
      cases rx
      cases rd with
      | list h1 h2 h3 h4 =>
        rename_i a zs p t2 ht o vs n bs0
        rw [PyData.shown] at hz q
        rw [PyData.depth] at hdp
        obtain ⟨bs, hb, hk⟩ := reprAllK2 (prog := X.prog) (w := X.w) hn h4 (by rw [wideOk] at hw; exact hw) fun t ht => Nat.le_trans (listText_mem_le ht) hz
        have hna : a ∉ bs := not_mem_of_deeper (.list h1 h2 h3 h4) (by simp only [PyData.depth]; omega) hb
        refine call_repr_slot (by omega) ⟨_, h1, h2⟩ F.slot_list_repr.toG ?_
        obtain ⟨l⟩ := vs
        cases l with
        | nil =>
          have h5 : ReadsAll s.heap [] _ _ := h4
          cases h5
          rw [PyData.shownAll, listText_nil] at q
          exact call_list_repr_empty ⟨_, h1, h2⟩ h1 h3 ⟨_, _, rfl, .str _, H, I.tok _, ⟨_, rfl⟩, q⟩
        | cons x l => exact call_list_reprK h1 h2 h3 hna (by simpa using hk.length_eq) (fun i y e => hk.item i y (by simpa using e)) (g := []) hG (fun b _ => Clear.nil b) (by show X.A.units + 1 + _ < cLine; omega) (fun _ _ e => e) (fun h' u tk k => ⟨_, _, rfl, .str _, H, I.kept k, ⟨_, rfl⟩, q⟩) hz
    | tup _ _ =>
      cases rx
      cases rd with
      | tuple h1 h2 h3 h4 =>
        rename_i a zs p t2 ht o vs n
        rw [PyData.shown] at hz q
        rw [PyData.depth] at hdp
        obtain ⟨bs, hb, hk⟩ := reprAllK2 (prog := X.prog) (w := X.w) hn h4 (by rw [wideOk] at hw; exact hw) fun t ht => Nat.le_trans (tupleText_mem_le ht) hz
        have hna : a ∉ bs := not_mem_of_deeper (.tuple h1 h2 h3 h4) (by simp only [PyData.depth]; omega) hb
        exact call_repr_slot (by omega) ⟨_, h1, h2⟩ F.slot_tuple_repr (call_tuple_reprK h1 h2 h3 hna hk (g := []) hG (fun b _ => Clear.nil b) (by show X.A.units + 1 + _ < cLine; omega) (fun _ _ e => e) (fun h' u tk k => ⟨_, _, rfl, .str _, H, I.kept k, ⟨_, rfl⟩, q⟩) hz)
def reprW (d : D) : Option OD := if ReprOkW d then some (.fz (.str d.shown)) else none
section
variable {X : Cx} {c : Ct} {fa : EF} {a : Expr} {p pos : Pos}
theorem mo_reprW (hXK : X.K = c.K) (hG : X.A.guards = some []) (hu : X.A.units + 64 < cLine) (hD : PySem.W.nsIn X.K cStatics "sys.int_max_str_digits" = some none) (hg : Gl X "repr") (hm : X.mg "repr" = none) (ha : ME X c fa a) (he : starEach [a] X.env = (false, eval a X.env) :: starEach [] X.env := by rfl) (hpl : (backTo pos (starEach [] X.env)).any (·.1) = false := by rfl) :
    MO X c (oBlt (one reprW) (aCons fa aNil)) (.Call (.Name "repr" p) [a] [] pos) := mo_blt (call_reprW hD hG hu) (CallL.one fun Y H Q x d o e r q g => by
  unfold reprW at q
  split at q
  · rename_i hk
    cases q
    exact ⟨x, d, rfl, hXK ▸ r.dp e (wide_plain d hk.1), hk, g _ _ _ (.old (.str _))⟩
  · cases q) hg hm (by decide +kernel) (ma_cons ha ma_nil he) (by decide) (by decide) he hpl
end
end MI

set_option Elab.async false
set_option linter.all false
set_option autoImplicit false
set_option maxRecDepth 100000
/-! MI: dicts written in a line; repr of data with dicts in it. -/
namespace MI
open PySem PySem.Spec L2
section
variable {X : Cx} {c : Ct}
/-- {} as data -/
theorem me_dnew {pos : Pos} : ME X c (eC (.dict [])) (.Dict [] [] pos) := by
  refine ⟨PE.imp pe_dnewK fun σ H Q q => ?_⟩
  obtain ⟨ξ, Y, s, tv, ts, hK, F, q⟩ := q
  intro p hp
  have F1 := F.newF hp (.dK [])
  have e : Same Y (upd Y p (.dK [])) := same_upd (F.sub.free hp)
  exact q _ _ (.ref p) e F1 (hK ▸ .dk (kvs := []) (ds := []) upd_same .nil)
theorem tPairs_c (σ : L2.St) (H : Hp) (Q : List (V × V) → Hp → Prop) : ∀ (l : List (V × V)) (R : List (V × V) → List (V × V)), (∀ ps, R ps = R ps) → tPairs (l.map fun p => (tC p.1, tC p.2)) σ H (fun ps H => Q (R ps) H) = Q (R l) H
  | [], R, _ => rfl
  | p :: l, R, _ => by
    show tPairs (l.map fun p => (tC p.1, tC p.2)) σ H (fun ps H => Q (R ((p.1, p.2) :: ps)) H) = _
    exact tPairs_c σ H Q l (fun ps => R (p :: ps)) fun _ => rfl
/-- {k: v, ..}: keys and values are constants -/
theorem me_disp {pos : Pos} {keys : List (Option Expr)} {values : List Expr} {l : List (Key × V)} {ds : List D} (h : PPs X pos keys values (l.map fun p => (tC (kV p.1), tC p.2))) (hm : mergeK [] l = l) (hd : ∀ Y, DrAll c.K Y (l.map (·.2)) ds)
    (hall : keys.all (·.isSome) = true := by rfl) (hl : keys.length = values.length := by rfl) (h0 : keys ≠ [] := by simp) (h15 : keys.length ≤ 15 := by decide) (h15' : l.length ≤ 15 := by decide) :
    ME X c (eC (.dict ((l.map fun p => keyD p.1).zip ds))) (.Dict keys values pos) := by
  refine ⟨PE.imp (pe_disp h hall hl h0 h15) fun σ H Q q => ?_⟩
  obtain ⟨ξ, Y, s, tv, ts, hK, F, q⟩ := q
  intro p hp
  have key := tPairs_c σ (upd H p (.dK [])) (fun ps H2 => H2 p = some (.dK []) ∧ ∃ kvs : List (Key × V), ps = kvs.map (fun kv => (kV kv.1, kv.2)) ∧ kvs.length ≤ 15 ∧ Q (.ref p) (upd H2 p (.dK (mergeK [] kvs)))) (l.map fun p => (kV p.1, p.2)) id fun _ => rfl
  rw [List.map_map] at key
  refine cast key.symm ?_
  refine ⟨upd_same, l, rfl, h15', ?_⟩
  rw [hm]
  have eu : upd (upd H p (.dK [])) p (.dK l) = upd H p (.dK l) := by
    funext a
    by_cases h : a = p
    · subst h; rw [upd_same, upd_same]
    · rw [upd_ne h, upd_ne h, upd_ne h]
  rw [eu]
  have F1 := F.newF hp (.dK l)
  have e : Same Y (upd Y p (.dK l)) := same_upd (F.sub.free hp)
  exact q _ _ (.ref p) e F1 (hK ▸ .dk upd_same (hK ▸ hd _))
end
def keyWD : D → Bool
  | .int i => decide (i.natAbs.log2 < 12900)
  | .str _ => true
  | _ => false
mutual
/-- numbers of fewer than 4300 figures; dicts by ints and texts -/
def wideV : D → Bool
  | .none => true
  | .bool _ => true
  | .int i => decide (i.natAbs.log2 < 12900)
  | .str _ => true
  | .list ds => wideVs ds
  | .tuple ds => wideVs ds
  | .dict kvs => wideKv kvs
def wideVs : List D → Bool
  | [] => true
  | d :: ds => wideV d && wideVs ds
def wideKv : List (D × D) → Bool
  | [] => true
  | (k, d) :: r => keyWD k && (wideV d && wideKv r)
end
def keyW : Key → Bool
  | .inl i => decide (i.natAbs.log2 < 12900)
  | .inr _ => true
theorem wideKv_zip : ∀ {kvs : List (Key × V)} {ds : List D}, kvs.length = ds.length → wideKv ((kvs.map fun p => keyD p.1).zip ds) = true → (∀ p ∈ kvs, keyW p.1 = true) ∧ wideVs ds = true
  | [], [], _, _ => ⟨fun p h => by simp at h, rfl⟩
  | p :: kvs, d :: ds, h, hw => by
    rw [List.map_cons, List.zip_cons_cons, wideKv, Bool.and_eq_true, Bool.and_eq_true] at hw
    obtain ⟨a, b⟩ := wideKv_zip (kvs := kvs) (ds := ds) (by simpa using h) hw.2.2
    refine ⟨fun q hq => ?_, by rw [wideVs, hw.2.1, b]; rfl⟩
    rcases List.mem_cons.mp hq with rfl | hq
    · have := hw.1
      obtain ⟨k, x⟩ := q
      cases k <;> exact this
    · exact a q hq
  | [], _ :: _, h, _ => by simp at h
  | _ :: _, [], h, _ => by simp at h
theorem zip_fst {α β : Type} : ∀ {xs : List α} {ys : List β}, xs.length = ys.length → (xs.zip ys).map (·.1) = xs
  | [], [], _ => rfl
  | x :: xs, y :: ys, h => by rw [List.zip_cons_cons, List.map_cons, zip_fst (by simpa using h)]
  | [], _ :: _, h => by simp at h
  | _ :: _, [], h => by simp at h
theorem zip_snd {α β : Type} : ∀ {xs : List α} {ys : List β}, xs.length = ys.length → (xs.zip ys).map (·.2) = ys
  | [], [], _ => rfl
  | x :: xs, y :: ys, h => by rw [List.zip_cons_cons, List.map_cons, zip_snd (by simpa using h)]
  | [], _ :: _, h => by simp at h
  | _ :: _, [], h => by simp at h
section
variable {X : Cx} {pins : List (Addr × Obj)} {σ : L2.St} {H : Hp} {s : Shared}
theorem keys_shown {P : Program} {w : World} {h : Heap} (hn : h.NoDigits) : ∀ {kvs : List (Key × V)} {vs : List (Key × Value)} {es : List DictEntry}, KV kvs vs → Pairs (mixKind P w) es vs → (∀ p ∈ kvs, keyW p.1 = true) → (∀ t ∈ PyData.shownAll (kvs.map fun p => keyD p.1), t.length ≤ sizeLine) →
    ReadsAll h (es.map (·.key)) (kvs.map fun p => keyD p.1) [] ∧ ReprAllK P w [] h (PyData.depthAll (kvs.map fun p => keyD p.1)) (es.map (·.key)) (PyData.shownAll (kvs.map fun p => keyD p.1))
  | _, _, _, .nil, .nil, _, _ => by
    refine ⟨.nil, ?_⟩
    rw [List.map_nil, List.map_nil, PyData.shownAll]
    exact .nil
  | _, _, _, .cons (a := p) hp hr, .cons (e := e) h1 h2 hs, hw, hz => by
    rw [List.map_cons, PyData.shownAll] at hz
    obtain ⟨a, b⟩ := keys_shown hn hr hs (fun q hq => hw q (by simp [hq])) fun t ht => hz t (List.mem_cons_of_mem _ ht)
    have hz0 := hz _ (List.mem_cons_self ..)
    have hw0 := hw p (by simp)
    rw [← hp.1] at h1
    rw [List.map_cons, List.map_cons, PyData.shownAll, PyData.depthAll]
    rcases keyIs_shape h1 with ⟨i, t, e1, e2⟩ | ⟨x, t, e1, e2⟩
    · rw [e1] at hw0 hz0
      rw [e1, e2]
      refine ⟨.cons (.int i t) a, .cons (.level_le (d := 0) ?_ (Nat.zero_le _)) (b.more_le (fun _ h => h) (Nat.le_max_right _ _))⟩
      show ReprK P w [] h 0 (.int i t) (PyData.shown (.int i))
      rw [PyData.shown]
      exact reprK_int hn (wide10 (by simpa [keyW] using hw0))
    · rw [e1] at hz0
      rw [e1, e2]
      refine ⟨.cons (.str x t) a, .cons (.level_le (d := 0) ?_ (Nat.zero_le _)) (b.more_le (fun _ h => h) (Nat.le_max_right _ _))⟩
      show ReprK P w [] h 0 (.str x t) (PyData.shown (.str x))
      rw [PyData.shown]
      exact .of_is (ReprIs.str x t (by
        have : (PyData.shown (.str x)).length ≤ sizeLine := hz0
        rwa [PyData.shown] at this)) _ _ _
theorem vals_of {P : Program} {w : World} : ∀ {kvs : List (Key × V)} {vs : List (Key × Value)} {es : List DictEntry}, KV kvs vs → Pairs (mixKind P w) es vs → Vals (kvs.map (·.2)) (es.map (·.val))
  | _, _, _, .nil, .nil => .nil
  | _, _, _, .cons hp hr, .cons h1 h2 hs => by
    rw [List.map_cons, List.map_cons, h2]
    exact .cons hp.2 (vals_of hr hs)
mutual
theorem reprK3 (I : Inv X pins σ H s) (hn : s.heap.NoDigits) : ∀ {x : V} {d : D}, Dr X.K H x d → ∀ {v : Value}, RelV x v → wideV d = true → d.shown.length ≤ sizeLine →
    ∃ as, Reads s.heap v d as ∧ ∃ bs, ReadAtMost s.heap d.depth bs ∧ ReprK X.prog X.w bs s.heap d.depth v d.shown
  | _, _, .non, _, r, _, _ => by
    cases r
    exact ⟨_, .none, [], (fun _ h => nomatch h), by rw [PyData.shown]; exact .of_is ReprIs.none _ _ _⟩
  | _, _, .bl b, _, r, _, _ => by
    cases r
    exact ⟨_, .bool b, [], (fun _ h => nomatch h), by rw [PyData.shown]; exact .of_is (ReprIs.bool b) _ _ _⟩
  | _, _, .int i, _, r, hw, _ => by
    obtain ⟨t, rfl⟩ := r
    exact ⟨_, .int i t, [], (fun _ h => nomatch h), by rw [PyData.shown]; exact reprK_int hn (wide10 (by simpa [wideV] using hw))⟩
  | _, _, .str x, _, r, _, hz => by
    obtain ⟨t, rfl⟩ := r
    exact ⟨_, .str x t, [], (fun _ h => nomatch h), by rw [PyData.shown]; exact .of_is (ReprIs.str x t (by rw [PyData.shown] at hz; exact hz)) _ _ _⟩
  | _, _, .lst (a := a) (ds := ds) h1 h2, _, r, hw, hz => by
    cases r
    obtain ⟨its, rv, ⟨o, n, ho, hc, _, hd⟩, _⟩ := I.list (.inl (.inl h1))
    rw [PyData.shown] at hz
    obtain ⟨as, h4, bs, hb, hk⟩ := reprAllK3 I hn h2 rv (by rw [wideV] at hw; exact hw) fun t ht => Nat.le_trans (listText_mem_le ht) hz
    have rd : Reads s.heap (.ref a) (.list ds) (a :: as) := .list ho hc hd h4
    have hna : a ∉ bs := not_mem_of_deeper rd (by simp only [PyData.depth]; omega) hb
    refine ⟨_, rd, a :: bs, ReadAtMost.cons rd (by simp only [PyData.depth]; omega) hb, ?_⟩
    rw [PyData.depth, PyData.shown]
    cases its with
    | nil =>
      cases h4
      rw [PyData.shownAll, listText_nil]
      exact .listEmpty ho hc hd
    | cons x l => exact .list ho hc hd hna (by simpa using hk.length_eq) fun i y e => hk.item i y (by simpa using e)
  | _, _, .lck _ _, _, _, hw, _ => by simp [wideV, wideKv, keyWD] at hw
  | _, _, .tup (a := a) (ds := ds) h1 h2, _, r, hw, hz => by
    cases r
    obtain ⟨its, rv, ⟨o, ho, hc, n, hd⟩, _⟩ := I.tuple h1
    rw [PyData.shown] at hz
    obtain ⟨as, h4, bs, hb, hk⟩ := reprAllK3 I hn h2 rv (by rw [wideV] at hw; exact hw) fun t ht => Nat.le_trans (tupleText_mem_le ht) hz
    have rd : Reads s.heap (.ref a) (.tuple ds) as := .tuple ho hc hd h4
    have hna : a ∉ bs := not_mem_of_deeper rd (by simp only [PyData.depth]; omega) hb
    refine ⟨_, rd, a :: bs, ReadAtMost.cons rd (by simp only [PyData.depth]; omega) hb, ?_⟩
    rw [PyData.depth, PyData.shown]
    exact .tuple ho hc hd hna hk
  | _, _, .dk (a := a) (kvs := kvs) (ds := ds) h1 h2, _, r, hw, hz => by
    cases r
    obtain ⟨_, hsys, vs, rk, o, es, ep, ho, hx, hd, _, hp, _⟩ := dk_of I.hok h1
    have hl : kvs.length = ds.length := by have := h2.length; simpa using this
    have hl2 : (kvs.map fun p => keyD p.1).length = ds.length := by simpa using hl
    obtain ⟨w1, w2⟩ := wideKv_zip hl (by rw [wideV] at hw; exact hw)
    obtain ⟨kv, hkv⟩ : ∃ kv, kv = (kvs.map fun p => keyD p.1).zip ds := ⟨_, rfl⟩
    have k1 : kv.map (·.1) = kvs.map fun p => keyD p.1 := by rw [hkv]; exact zip_fst hl2
    have k2 : kv.map (·.2) = ds := by rw [hkv]; exact zip_snd hl2
    rw [← hkv] at hz ⊢
    rw [PyData.shown] at hz
    obtain ⟨r1, q1⟩ := keys_shown (h := s.heap) hn rk hp w1 fun t ht => by
      rw [← k1] at ht
      obtain ⟨p, hp, hl⟩ := PyData.shownKv_key_le kv t ht
      exact Nat.le_trans hl (Nat.le_trans (dictText_mem_le hp) hz)
    obtain ⟨as, r2, bs, hb, q2⟩ := reprAllK3 I hn h2 (vals_of rk hp) w2 fun t ht => by
      rw [← k2] at ht
      obtain ⟨p, hp, hl⟩ := PyData.shownKv_val_le kv t ht
      exact Nat.le_trans hl (Nat.le_trans (dictText_mem_le hp) hz)
    rw [← k1] at r1 q1
    rw [← k2] at r2 q2
    have rd : Reads s.heap (.ref a) (.dict kv) (a :: [] ++ as) := .dict ho hx.1 hd r1 r2
    have hb2 : ReadAtMost s.heap (PyData.depthKv kv) bs := hb.mono (by rw [← k2]; exact PyData.depthAll_vals_le kv)
    have hna : a ∉ bs := not_mem_of_deeper rd (by simp only [PyData.depth]; omega) hb2
    refine ⟨_, rd, a :: bs, ReadAtMost.cons rd (by simp only [PyData.depth]; omega) hb2, ?_⟩
    simp only [PyData.depth, PyData.shown, PyData.shownKv_eq]
    exact ReprK.dict ho hx.1 hd hsys hna (ReprEntriesK.of_two es.toList _ _
      (q1.more_le (fun _ h => (List.not_mem_nil h).elim) (PyData.depthAll_keys_le kv)) (q2.more_le (fun _ h => h) (PyData.depthAll_vals_le kv)))
  | _, _, .dt (a := a) (kvs := kvs) (ds := ds) h1 h2, _, r, hw, hz => by
    cases r
    cases kvs with
    | cons p kvs =>
      have hl := h2.length
      cases ds with
      | nil => simp at hl
      | cons d ds =>
        rw [wideV, List.map_cons, List.zip_cons_cons, wideKv] at hw
        simp [tkeyD, keyWD] at hw
    | nil =>
      have h3 := h2.length
      cases ds with
      | cons d ds => simp at h3
      | nil =>
        obtain ⟨_, hsys, xs, rk, o, es, ep, ho, hx, hd, hp, _⟩ := dt_of I.hok h1
        cases rk
        have he : es.toList = [] := hp
        have rd : Reads s.heap (.ref a) (.dict []) (a :: [] ++ []) := .dict ho hx.1 hd (by rw [he]; exact .nil) (by rw [he]; exact .nil)
        have hna : a ∉ ([] : List Addr) := fun h => nomatch h
        refine ⟨_, rd, a :: [], ReadAtMost.cons rd (by simp only [PyData.depth]; omega) (n := 0) (fun _ h => nomatch h), ?_⟩
        show ReprK X.prog X.w [a] s.heap (PyData.depthKv [] + 1) (.ref a) (PyData.shown (.dict []))
        simp only [PyData.shown, PyData.shownKv_eq]
        exact ReprK.dict ho hx.1 hd hsys hna (by rw [he]; exact .nil)
theorem reprAllK3 (I : Inv X pins σ H s) (hn : s.heap.NoDigits) : ∀ {xs : List V} {ds : List D}, DrAll X.K H xs ds → ∀ {vs : List Value}, Vals xs vs → wideVs ds = true → (∀ t ∈ PyData.shownAll ds, t.length ≤ sizeLine) →
    ∃ as, ReadsAll s.heap vs ds as ∧ ∃ bs, ReadAtMost s.heap (PyData.depthAll ds) bs ∧ ReprAllK X.prog X.w bs s.heap (PyData.depthAll ds) vs (PyData.shownAll ds)
  | _, _, .nil, _, r, _, _ => by
    cases r
    exact ⟨_, .nil, [], (fun _ h => nomatch h), by rw [PyData.shownAll]; exact .nil⟩
  | _, _, .cons (d := d) (ds := ds) h t, _, r, hw, hz => by
    cases r with
    | cons r1 r2 =>
      rw [wideVs, Bool.and_eq_true] at hw
      rw [PyData.shownAll] at hz
      obtain ⟨a1, q1, b1, hb1, k1⟩ := reprK3 I hn h r1 hw.1 (hz _ (List.mem_cons_self ..))
      obtain ⟨a2, q2, b2, hb2, k2⟩ := reprAllK3 I hn t r2 hw.2 fun t ht => hz t (List.mem_cons_of_mem _ ht)
      rw [PyData.depthAll, PyData.shownAll]
      exact ⟨_, .cons q1 q2, b1 ++ b2, (hb1.mono (Nat.le_max_left _ _)).append (hb2.mono (Nat.le_max_right _ _)), .cons ((k1.more fun b hb => List.mem_append_left _ hb).level_le (Nat.le_max_left _ _)) (k2.more_le (fun b hb => List.mem_append_right _ hb) (Nat.le_max_right _ _))⟩
end
end
def ReprOkV (d : D) : Prop := wideV d = true ∧ d.depth ≤ 60 ∧ d.shown.length ≤ sizeLine
instance (d : D) : Decidable (ReprOkV d) := inferInstanceAs (Decidable (_ ∧ _ ∧ _))
theorem call_reprV {X : Cx} (hD : PySem.W.nsIn X.K cStatics "sys.int_max_str_digits" = some none) (hG : X.A.guards = some []) (hu : X.A.units + 64 < cLine) : CallR X (.builtin "repr") (fun xs H Q => ∃ x d, xs = [x] ∧ Dr X.K H x d ∧ ReprOkV d ∧ Q (.str d.shown) H) := by
  intro pins s σ H xs us Q I r h
  obtain ⟨x, d, rfl, hd, ⟨hw, hdp, hz⟩, q⟩ := h
  have hn : s.heap.NoDigits := noDigits_of I.kIn I.nolimit hD
  cases r with
  | cons rx rr =>
    cases rr
    cases hd with
    | non =>
      cases rx
      exact PySem.P.repr_of_none ⟨.str _, H, I.tok _, ⟨_, rfl⟩, q⟩
    | bl b =>
      cases rx
      exact PySem.P.repr_of_bool ⟨.str _, H, I.tok _, ⟨_, rfl⟩, by
        simp only [PyData.shown] at q
        cases b <;> exact q⟩
    | int i =>
      obtain ⟨t, rfl⟩ := rx
      exact call_repr_slot (by omega) (typeIs_int s i t) F.slot_int_repr.toG (int_reprW hn (wide10 (by simpa [wideV] using hw)) ⟨_, _, rfl, .str _, H, I.tok _, ⟨_, rfl⟩, q⟩)
    | str y =>
      obtain ⟨t, rfl⟩ := rx
      exact PySem.P.repr_of_str ⟨.str _, H, I.tok _, ⟨_, rfl⟩, q⟩ hz
    | @lst a xs ds h1 h2 =>
      cases rx
      obtain ⟨its, rv, ⟨o, n, ho, hc, _, hd⟩, _⟩ := I.list (.inl (.inl h1))
      rw [PyData.shown] at hz q
      rw [PyData.depth] at hdp
      obtain ⟨as, h4, bs, hb, hk⟩ := reprAllK3 I hn h2 rv (by rw [wideV] at hw; exact hw) fun t ht => Nat.le_trans (listText_mem_le ht) hz
      have rd : Reads s.heap (.ref a) (.list ds) (a :: as) := .list ho hc hd h4
      have hna : a ∉ bs := not_mem_of_deeper rd (by simp only [PyData.depth]; omega) hb
      refine call_repr_slot (by omega) ⟨_, ho, hc⟩ F.slot_list_repr.toG ?_
      cases its with
      | nil =>
        cases h4
        rw [PyData.shownAll, listText_nil] at q
        exact call_list_repr_empty ⟨_, ho, hc⟩ ho hd ⟨_, _, rfl, .str _, H, I.tok _, ⟨_, rfl⟩, q⟩
      | cons x l => exact call_list_reprK ho hc hd hna (by simpa using hk.length_eq) (fun i y e => hk.item i y (by simpa using e)) (g := []) hG (fun b _ => Clear.nil b) (by show X.A.units + 1 + _ < cLine; omega) (fun _ _ e => e) (fun h' u tk k => ⟨_, _, rfl, .str _, H, I.kept k, ⟨_, rfl⟩, q⟩) hz
    | lck _ _ => simp [wideV, wideKv, keyWD] at hw
    | @tup a xs ds h1 h2 =>
      cases rx
      obtain ⟨its, rv, ⟨o, ho, hc, n, hd⟩, _⟩ := I.tuple h1
      rw [PyData.shown] at hz q
      rw [PyData.depth] at hdp
      obtain ⟨as, h4, bs, hb, hk⟩ := reprAllK3 I hn h2 rv (by rw [wideV] at hw; exact hw) fun t ht => Nat.le_trans (tupleText_mem_le ht) hz
      have rd : Reads s.heap (.ref a) (.tuple ds) as := .tuple ho hc hd h4
      have hna : a ∉ bs := not_mem_of_deeper rd (by simp only [PyData.depth]; omega) hb
      exact call_repr_slot (by omega) ⟨_, ho, hc⟩ F.slot_tuple_repr (call_tuple_reprK ho hc hd hna hk (g := []) hG (fun b _ => Clear.nil b) (by show X.A.units + 1 + _ < cLine; omega) (fun _ _ e => e) (fun h' u tk k => ⟨_, _, rfl, .str _, H, I.kept k, ⟨_, rfl⟩, q⟩) hz)
    | @dk a kvs ds h1 h2 =>
      cases rx
      obtain ⟨_, hsys, vs, rk, o, es, ep, ho, hx, hd, _, hp, _⟩ := dk_of I.hok h1
      have hl : kvs.length = ds.length := by have := h2.length; simpa using this
      have hl2 : (kvs.map fun p => keyD p.1).length = ds.length := by simpa using hl
      obtain ⟨w1, w2⟩ := wideKv_zip hl (by rw [wideV] at hw; exact hw)
      obtain ⟨kv, hkv⟩ : ∃ kv, kv = (kvs.map fun p => keyD p.1).zip ds := ⟨_, rfl⟩
      have k1 : kv.map (·.1) = kvs.map fun p => keyD p.1 := by rw [hkv]; exact zip_fst hl2
      have k2 : kv.map (·.2) = ds := by rw [hkv]; exact zip_snd hl2
      rw [← hkv] at hz q hdp
      rw [PyData.shown] at hz q
      rw [PyData.depth] at hdp
      obtain ⟨r1, q1⟩ := keys_shown (P := X.prog) (w := X.w) (h := s.heap) hn rk hp w1 fun t ht => by
        rw [← k1] at ht
        obtain ⟨p, hp, hl⟩ := PyData.shownKv_key_le kv t ht
        exact Nat.le_trans hl (Nat.le_trans (dictText_mem_le hp) hz)
      obtain ⟨as, r2, bs, hb, q2⟩ := reprAllK3 I hn h2 (vals_of rk hp) w2 fun t ht => by
        rw [← k2] at ht
        obtain ⟨p, hp, hl⟩ := PyData.shownKv_val_le kv t ht
        exact Nat.le_trans hl (Nat.le_trans (dictText_mem_le hp) hz)
      rw [← k1] at r1 q1
      rw [← k2] at r2 q2
      have rd : Reads s.heap (.ref a) (.dict kv) (a :: [] ++ as) := .dict ho hx.1 hd r1 r2
      have hb2 : ReadAtMost s.heap (PyData.depthKv kv) bs := hb.mono (by rw [← k2]; exact PyData.depthAll_vals_le kv)
      have hna : a ∉ bs := not_mem_of_deeper rd (by simp only [PyData.depth]; omega) hb2
      rw [PyData.shownKv_eq] at hz q
      exact call_repr_slot (by omega) ⟨_, ho, hx.1⟩ F.slot_dict_repr (call_dict_reprK ho hx.1 hd hsys hna (ReprEntriesK.of_two es.toList _ _
        (q1.more_le (fun _ h => (List.not_mem_nil h).elim) (PyData.depthAll_keys_le kv)) (q2.more_le (fun _ h => h) (PyData.depthAll_vals_le kv))) (g := []) hG (fun b _ => Clear.nil b) (by show X.A.units + 1 + _ < cLine; omega) (fun _ _ e => e) (fun h' u tk k => ⟨_, _, rfl, .str _, H, I.kept k, ⟨_, rfl⟩, q⟩) hz)
    | @dt a kvs ds h1 h2 =>
      cases rx
      cases kvs with
      | cons p kvs =>
        have hl := h2.length
        cases ds with
        | nil => simp at hl
        | cons d ds =>
          rw [wideV, List.map_cons, List.zip_cons_cons, wideKv] at hw
          simp [tkeyD, keyWD] at hw
      | nil =>
        have h3 := h2.length
        cases ds with
        | cons d ds => simp at h3
        | nil =>
          obtain ⟨_, hsys, xs, rk, o, es, ep, ho, hx, hd, hp, _⟩ := dt_of I.hok h1
          cases rk
          have he : es.toList = [] := hp
          have hna : a ∉ ([] : List Addr) := fun h => nomatch h
          have hz : (PyData.shown (.dict [])).length ≤ sizeLine := hz
          have q : Q (.str (PyData.shown (.dict []))) H := q
          have hdp : (PyData.depth (.dict [])) ≤ 60 := hdp
          rw [PyData.shown, PyData.shownKv_eq] at hz q
          rw [PyData.depth] at hdp
          exact call_repr_slot (by omega) ⟨_, ho, hx.1⟩ F.slot_dict_repr (call_dict_reprK (d := 0) ho hx.1 hd hsys hna (by rw [he]; exact .nil) (g := []) hG (fun b _ => Clear.nil b) (by show X.A.units + 1 + _ < cLine; omega) (fun _ _ e => e) (fun h' u tk k => ⟨_, _, rfl, .str _, H, I.kept k, ⟨_, rfl⟩, q⟩) hz)
def reprV (d : D) : Option OD := if ReprOkV d then some (.fz (.str d.shown)) else none
section
variable {X : Cx} {c : Ct} {fa : EF} {a : Expr} {p pos : Pos}
theorem mo_reprV (hXK : X.K = c.K) (hG : X.A.guards = some []) (hu : X.A.units + 64 < cLine) (hD : PySem.W.nsIn X.K cStatics "sys.int_max_str_digits" = some none) (hg : Gl X "repr") (hm : X.mg "repr" = none) (ha : ME X c fa a) (he : starEach [a] X.env = (false, eval a X.env) :: starEach [] X.env := by rfl) (hpl : (backTo pos (starEach [] X.env)).any (·.1) = false := by rfl) :
    MO X c (oBlt (one reprV) (aCons fa aNil)) (.Call (.Name "repr" p) [a] [] pos) := mo_blt (call_reprV hD hG hu) (CallL.one fun Y H Q x d o e r q g => by
  unfold reprV at q
  split at q
  · rename_i hk
    cases q
    exact ⟨x, d, rfl, hXK ▸ r.mono e, hk, g _ _ _ (.old (.str _))⟩
  · cases q) hg hm (by decide +kernel) (ma_cons ha ma_nil he) (by decide) (by decide) he hpl
end
end MI

set_option Elab.async false
set_option linter.all false
set_option autoImplicit false
set_option maxRecDepth 100000
set_option maxHeartbeats 4000000
/-! MI: any tuple times a number; texts times a number. -/
namespace MI
open PySem PySem.Spec L2 PyProof.Rows
theorem tuple_mul_same (l : Addr) (items : Array Value) (n : Nat) (dd : Option Addr) (sl : Array (Option Value)) (x : Int) (u : Tok) (c0 : (decide (x < -(2 ^ 63)) || decide (x ≥ 2 ^ 63)) = false) (c1 : (items.isEmpty || x == 1) = true) :
    Meets (Builtin.«tuple.__mul__» ⟨[.ref l, .int x u], []⟩) (fun _ R s => s.heap.get? l = some { cls := .type "tuple", dict := dd, data := .seq items n, slots := sl } ∧ R (.ok (.ret (Value.ref l))) s) :=
  .of_wp fun prog w A R s h => by
    obtain ⟨hp, g, d, tk, os⟩ := s
    obtain ⟨hl, h⟩ := h
    have f1 := AutoSeq1.idx_int
    wp_walk using wpAny_loadPart' hl
    repeat (first
      | (refine wpAny_ite_false (decide_eq_false (by rw [c0]; exact Bool.false_ne_true)) ?_; wp_walk using wpAny_loadPart' hl)
      | (refine wpAny_ite_true (decide_eq_true c1) ?_; wp_walk using wpAny_loadPart' hl))
    exact ⟨_, rfl, h⟩
theorem tuple_mul_none (l : Addr) (items : Array Value) (n : Nat) (dd : Option Addr) (sl : Array (Option Value)) (x : Int) (u : Tok) (c0 : (decide (x < -(2 ^ 63)) || decide (x ≥ 2 ^ 63)) = false) (c1 : (items.isEmpty || x == 1) = false) (c2 : (decide (x ≤ 0) || items.isEmpty) = true) :
    Meets (Builtin.«tuple.__mul__» ⟨[.ref l, .int x u], []⟩) (fun _ R s => s.heap.get? l = some { cls := .type "tuple", dict := dd, data := .seq items n, slots := sl } ∧
      R (.ok (.ret (Value.ref s.heap.objs.size))) { s with heap := s.heap.push { cls := Value.type "tuple", data := Data.seq #[] }, toks := s.toks }) :=
  .of_wp fun prog w A R s h => by
    obtain ⟨hp, g, d, tk, os⟩ := s
    obtain ⟨hl, h⟩ := h
    have f1 := AutoSeq1.idx_int
    wp_walk using wpAny_loadPart' hl
    repeat (first
      | (refine wpAny_ite_false (decide_eq_false (by rw [c0]; exact Bool.false_ne_true)) ?_; wp_walk using wpAny_loadPart' hl)
      | (refine wpAny_ite_false (decide_eq_false (by rw [c1]; exact Bool.false_ne_true)) ?_; wp_walk using wpAny_loadPart' hl)
      | (refine wpAny_ite_true (decide_eq_true c2) ?_; wp_walk using wpAny_loadPart' hl))
    exact ⟨_, rfl, h⟩
def rRepT2 (K : PySem.W.Frag) : R2 := fun x y H Q => ∃ l k xs, x = .ref l ∧ y = .int k ∧ SqT K H l xs ∧ -(2 ^ 63) ≤ k ∧ k < 2 ^ 63 ∧
  ((xs = [] ∨ k = 1) → Q (.ref l) H) ∧ (¬(xs = [] ∨ k = 1) → (xs.length : Int) * k ≤ 1000000 ∧ ∀ p, H p = none → Q (.ref p) (upd H p (.tup (List.replicate k.toNat xs).flatten)))
section
variable {X : Cx}
theorem op_repT2 : OpR X (binaryOp .Mult) (rRepT2 X.K) := by
  intro pins s σ H x y v u Q I rx ry h
  obtain ⟨l, k, xs, rfl, rfl, hT, h1, h2, q1, q2⟩ := h
  cases rx
  obtain ⟨t, rfl⟩ := ry
  obtain ⟨its, r, ⟨⟨cls, dd, data, sl⟩, ho, hc, n, hd⟩, hs⟩ := I.tuple hT
  simp only at hc hd
  subst hc hd
  have hle : its.length = xs.length := r.length.symm
  have c0 : (decide (k < -(2 ^ 63)) || decide (k ≥ 2 ^ 63)) = false := by
    rw [decide_eq_false (by omega), decide_eq_false (by omega)] <;> rfl
  have base : ∀ Q' : Value → Shared → Prop, wpAny (model X.prog X.w) X.A (call (.builtin "tuple.__mul__") [.ref l, .int k t]) Q' X.xe s → wpAny (model X.prog X.w) X.A (binaryOp .Mult (.ref l) (.int k t)) Q' X.xe s := fun Q' h =>
    wpAny_binaryOp_repeat_ref (T := "tuple") (U := "int") (by decide) ⟨_, ho, rfl⟩ (fun s' => typeIs_int s' k t) noFill_tuple_mul F.fills_int_mul F.slot_int_rmul repeat_tuple F.slot_int_index.lookup
      (call_meets F.slot_int_rmul (typeIs_int s k t) F.entry_int_rmul (F.args_int_rmul_2 _ _) (int_rmul_tuple k t l its.toArray n dd sl) ⟨ho, rfl, ⟨_, ho, rfl⟩, h⟩)
  have hemp : its.toArray.isEmpty = decide (xs = []) := by
    cases its with
    | nil => cases r; rfl
    | cons a b => cases r; rfl
  refine base _ ?_
  by_cases hsame : xs = [] ∨ k = 1
  · have c1 : (its.toArray.isEmpty || k == 1) = true := by
      rw [hemp]
      rcases hsame with h | h
      · rw [decide_eq_true h]; rfl
      · subst h; simp
    exact call_meets F.slot_tuple_mul ⟨_, ho, rfl⟩ F.entry_tuple_mul (F.args_tuple_mul_2 _ _) (tuple_mul_same l its.toArray n dd sl k t c0 c1) ⟨ho, .ref l, H, I, rfl, q1 hsame⟩
  · obtain ⟨q3, q4⟩ := q2 hsame
    have hne : xs ≠ [] := fun e => hsame (.inl e)
    have hk1 : k ≠ 1 := fun e => hsame (.inr e)
    have hi : its.toArray.isEmpty = false := by rw [hemp, decide_eq_false hne]
    have c1 : (its.toArray.isEmpty || k == 1) = false := by
      rw [hi, Bool.false_or]
      exact beq_eq_false_iff_ne.mpr hk1
    by_cases hk0 : k ≤ 0
    · have c2 : (decide (k ≤ 0) || its.toArray.isEmpty) = true := by rw [decide_eq_true hk0]; rfl
      refine call_meets F.slot_tuple_mul ⟨_, ho, rfl⟩ F.entry_tuple_mul (F.args_tuple_mul_2 _ _) (tuple_mul_none l its.toArray n dd sl k t c0 c1 c2) ⟨ho, ?_⟩
      have hz : k.toNat = 0 := by omega
      rw [hz] at q4
      refine ⟨.ref s.heap.objs.size, _, I.laid (t' := s.toks) (o := .tup []) (fun b ob q => Heap.get?_push_of_some _ q) (Nat.le_refl _) ?_, rfl, q4 _ (I.hok.fresh (Nat.le_refl _))⟩
      exact ⟨Nat.zero_le _, [], .nil, IsTup.new _ _⟩
    · have c2 : (decide (k ≤ 0) || its.toArray.isEmpty) = false := by
        rw [hi, Bool.or_false]
        exact decide_eq_false hk0
      have hsz0 : its.toArray.size = xs.length := by rw [List.size_toArray, hle]
      have hm : ((its.toArray.size : Nat) : Int) * k ≤ 1000000 := by rw [hsz0]; exact q3
      have hN : k.toNat * xs.length ≤ 1000000 := by
        obtain ⟨m, rfl⟩ := Int.eq_ofNat_of_zero_le (show 0 ≤ k by omega)
        rw [Int.toNat_natCast, Nat.mul_comm]
        have : ((xs.length * m : Nat) : Int) ≤ 1000000 := by rw [Int.natCast_mul]; exact q3
        omega
      have flen : (List.replicate k.toNat its).flatten.length ≤ sizeLine := by
        rw [PyProof.Rows.lm_len_rep_flat, hle, sizeLine_eq]
        omega
      have c4 : Builtin.Tuple.tupleTooMany (((its.toArray.size : Nat) : Int) * k) = false := by
        unfold Builtin.Tuple.tupleTooMany
        rw [sizeLine_eq]
        exact decide_eq_false (by omega)
      refine call_meets F.slot_tuple_mul ⟨_, ho, rfl⟩ F.entry_tuple_mul (F.args_tuple_mul_2 _ _) (tuple_mulW l its.toArray n dd sl k t c0 c1 c2 (by omega) c4 (by rw [size_rep, List.size_toArray]; exact flen)) ⟨ho, ?_⟩
      rw [size_rep]
      refine ⟨.ref s.heap.objs.size, _, I.laid (t' := s.toks) (o := .tup (List.replicate k.toNat xs).flatten) (fun b ob q => Heap.get?_push_of_some _ q) (Nat.le_refl _) ?_, rfl, q4 _ (I.hok.fresh (Nat.le_refl _))⟩
      exact ⟨by rw [PyProof.Rows.lm_len_rep_flat, sizeLine_eq]; omega, _, r.rep k.toNat, IsTup.new _ _⟩
def rMulS : R2 := fun x y H Q => ∃ z k, x = .str z ∧ y = .int k ∧ 0 < z.length ∧ 1 < k ∧ (z.length : Int) * k ≤ 1000000 ∧ Q (.str (Txt.mul z k)) H
theorem op_mulS : OpR X (binaryOp .Mult) rMulS := by
  intro pins s σ H x y v u Q I rx ry h
  obtain ⟨z, k, rfl, rfl, hz0, hk, hz, q⟩ := h
  obtain ⟨t, rfl⟩ := rx
  obtain ⟨t', rfl⟩ := ry
  obtain ⟨m, rfl⟩ := Int.eq_ofNat_of_zero_le (show 0 ≤ k by omega)
  have hz' : z.length * m ≤ 1000000 := by
    have : ((z.length * m : Nat) : Int) ≤ 1000000 := by rw [Int.natCast_mul]; exact hz
    omega
  have hm : m ≤ 1000000 := Nat.le_trans (Nat.le_mul_of_pos_left m hz0) hz'
  refine SB.mul ⟨?_, fun _ _ => ?_, fun _ _ => ?_⟩ fun t' k' => ⟨.str _, H, I.tok _, ⟨_, rfl⟩, q⟩
  · rw [decide_eq_false (by omega), decide_eq_false (by omega)]; rfl
  · refine Int.not_lt.mpr ?_
    refine (Int.le_ediv_iff_mul_le (by omega)).mpr ?_
    omega
  · rw [Int.toNat_natCast]
    unfold Builtin.Str.tooLong
    rw [sizeLine_eq]
    exact decide_eq_false (by omega)
end
def mulT2 : D → D → Option OD
  | .tuple xs, .int k => if -(2 ^ 63) ≤ k ∧ k < 2 ^ 63 ∧ (xs.length : Int) * k ≤ 1000000 then some (.fz (.tuple (List.replicate k.toNat xs).flatten)) else none
  | _, _ => none
def mulSt : D → D → Option OD
  | .str z, .int k => if 0 < z.length ∧ 1 < k ∧ (z.length : Int) * k ≤ 1000000 then some (.fz (.str (Txt.mul z k))) else none
  | _, _ => none
def timesD (a b : D) : Option OD := (mulT2 a b).or (mulSt a b)
theorem rep_nil {α : Type} (n : Nat) : (List.replicate n ([] : List α)).flatten = [] := by
  induction n with
  | zero => rfl
  | succ n ih => rw [List.replicate_succ, List.flatten_cons, ih]; rfl
section
variable {X : Cx} {c : Ct} {fa fb : EF} {a b : Expr} {pos : Pos}
theorem mo_times (hXK : X.K = c.K) (ha : ME X c fa a) (hb : ME X c fb b) : MO X c (oOp2 timesD fa fb) (.BinOp a .Mult b pos) :=
  mo_op2 (OpR.or (hXK ▸ op_repT2) op_mulS) (OpL.or (fun Y H Q x y a b o e ra rb q g => by
    unfold mulT2 at q
    split at q
    · split at q
      · rename_i xs k hl
        cases q
        obtain ⟨p, us, rfl, h1, d1⟩ := ra.tuple_inv
        rw [rb.int_inv]
        refine ⟨p, _, us, rfl, rfl, Same.sqt e h1, hl.1, hl.2.1, fun z => ?_, fun z => ⟨by rw [d1.length]; exact hl.2.2, fun n hn => g _ _ _ (.tup hn (d1.rep _))⟩⟩
        have e2 : (List.replicate k.toNat xs).flatten = xs := by
          rcases z with z | z
          · subst z
            cases d1
            exact rep_nil _
          · subst z
            show (List.replicate 1 xs).flatten = xs
            simp
        rw [e2] at g
        exact g _ _ _ (.old ra)
      · cases q
    · cases q) (fun Y H Q x y a b o e ra rb q g => by
    unfold mulSt at q
    split at q
    · split at q
      · rename_i z k hl
        cases q
        rw [ra.str_inv, rb.int_inv]
        exact ⟨_, _, rfl, rfl, hl.1, hl.2.1, hl.2.2, g _ _ _ (.old (.str _))⟩
      · cases q
    · cases q)) ha hb
end
/-! ### isinstance, dicts too -/
def noneKey : D → Bool
  | .none => true
  | _ => false
def isiV (T : String) (d : D) : Option Bool := match d with
  | .dict kvs => if kvs.any (fun p => noneKey p.1) = true then none else kitB "dict" T
  | d => kitB (kindS d) T
def kindV : D → String
  | .dict _ => "dict"
  | d => kindS d
section
variable {K : PySem.W.Frag} {Y H : Hp}
theorem Dr.tyxV {v : V} {d : D} {T : String} {b : Bool} (e : Same Y H) (r : Dr K Y v d) (h : isiV T d = some b) : TyX K H v (.type (kindV d)) ∧ kitB (kindV d) T = some b := by
  cases r with
  | non => exact ⟨.base .non, h⟩
  | bl b => exact ⟨.base (.bl b), h⟩
  | int i => exact ⟨.base (.int i), h⟩
  | str x => exact ⟨.base (.str x), h⟩
  | lst h1 _ => exact ⟨.base (.lst (e _ _ h1)), h⟩
  | lck _ _ => simp [isiV, noneKey] at h
  | tup h1 _ =>
    refine ⟨?_, h⟩
    rcases h1 with (h1 | ⟨o, h1⟩) | ⟨o, its, n, h1, h2, _⟩
    · exact .base (.tup (e _ _ h1))
    · exact .fTuple (e _ _ h1)
    · exact .kTuple h1 h2
  | @dk a kvs ds h1 _ =>
    have h : (if (((kvs.map fun p => keyD p.1).zip ds).any fun p => noneKey p.1) = true then none else kitB "dict" T) = some b := h
    split at h
    · cases h
    · exact ⟨.base (.dK (e _ _ h1)), h⟩
  | @dt a kvs ds h1 _ =>
    have h : (if (((kvs.map fun p => tkeyD p.1).zip ds).any fun p => noneKey p.1) = true then none else kitB "dict" T) = some b := h
    split at h
    · cases h
    · exact ⟨.base (.dT (e _ _ h1)), h⟩
variable {X : Cx} {c : Ct} {fa : EF} {a : Expr} {p pos : Pos}
def eIsiV (T : String) (f : EF) : EF := fun s => (f s).bind fun d s => (ofO (isiV T d) s).bind fun b s => .ok (.bool b) s
theorem me_isiV {T : String} {x : Str} {p2 : Pos} (hXK : X.K = c.K) (hg : Gl X "isinstance") (hm : X.mg "isinstance" = none) (hg2 : Gl X x) (hm2 : X.mg x = none) (hv : bootBuiltins x = some (.type T)) (hn : x ≠ "__name__") (hdb : (x == ("__debug__" : Str)) = false) (ha : ME X c fa a)
    (he : starEach [a, .Name x p2] X.env = (false, eval a X.env) :: starEach [.Name x p2] X.env := by rfl) (he2 : starEach [.Name x p2] X.env = (false, eval (.Name x p2) X.env) :: starEach [] X.env := by rfl) (hpl : (backTo pos (starEach [.Name x p2] X.env)).any (·.1) = false := by rfl) :
    ME X c (eIsiV T fa) (.Call (.Name "isinstance" p) [a, .Name x p2] [] pos) := by
  refine ⟨PE.imp (pe_callB call_isi hg hm (by decide +kernel) (pa_cons ha.run (pa_cons (pe_bltn (v := .ty T) hg2 hm2 hv rfl hn hdb) pa_nil he2) he) (by decide) (by decide) he hpl) fun σ H Q q => ?_⟩
  obtain ⟨ξ, Y, s, tv, ts, hK, F, q⟩ := q
  refine tE_seq hK F q fun d s1 Y1 H1 v e1 F1 r1 q1 => ?_
  cases eb : isiV T d with
  | none => rw [eb] at q1; exact q1.elim
  | some b =>
    rw [eb] at q1
    obtain ⟨t1, t2⟩ := r1.tyxV F1.sub eb
    exact ⟨v, .ty T, .type (kindV d), .type T, b, rfl, .ty T, hXK ▸ t1, kit_ty t2, q1 Y1 H1 _ e1 F1 (.bl b)⟩
end
end MI

set_option Elab.async false
set_option linter.all false
set_option autoImplicit false
set_option maxRecDepth 100000
/-! MI: running a mirror by simp. -/
namespace MI
open PySem PySem.Spec L2
/-! what stands behind is not looked at before its turn -/
theorem Res.bind_congr {α β : Type} {r r' : Res α} {k : α → S → Res β} (h : r = r') : r.bind k = r'.bind k := by rw [h]
theorem Res.toS_congr {α : Type} {r r' : Res α} {k : α → S → Out} (h : r = r') : r.toS k = r'.toS k := by rw [h]
def Out.andThen (o : Out) (h : SF) : Out := match o with
  | .nx s => h s
  | o => o
theorem Out.andThen_congr {o o' : Out} {h : SF} (e : o = o') : o.andThen h = o'.andThen h := by rw [e]
@[simp] theorem Out.then_nx {s : S} {h : SF} : (Out.nx s).andThen h = h s := Eq.trans rfl rfl
@[simp] theorem Out.then_bk {s : S} {h : SF} : (Out.bk s).andThen h = .bk s := Eq.trans rfl rfl
@[simp] theorem Out.then_ct {s : S} {h : SF} : (Out.ct s).andThen h = .ct s := Eq.trans rfl rfl
@[simp] theorem Out.then_rt {s : S} {o : OD} {h : SF} : (Out.rt o s).andThen h = .rt o s := Eq.trans rfl rfl
@[simp] theorem Out.then_ex {s : S} {e : Exn} {h : SF} : (Out.ex e s).andThen h = .ex e s := Eq.trans rfl rfl
@[simp] theorem Out.then_bad {h : SF} : Out.bad.andThen h = .bad := Eq.trans rfl rfl
def Out.loop (o : Out) (h : SF) : Out := match o with
  | .nx s2 => h s2
  | .ct s2 => h s2
  | .bk s2 => .nx s2
  | .rt o s2 => .rt o s2
  | .ex e s2 => .ex e s2
  | .bad => .bad
theorem Out.loop_congr {o o' : Out} {h : SF} (e : o = o') : o.loop h = o'.loop h := by rw [e]
@[simp] theorem Out.loop_nx {s : S} {h : SF} : (Out.nx s).loop h = h s := Eq.trans rfl rfl
@[simp] theorem Out.loop_ct {s : S} {h : SF} : (Out.ct s).loop h = h s := Eq.trans rfl rfl
@[simp] theorem Out.loop_bk {s : S} {h : SF} : (Out.bk s).loop h = .nx s := Eq.trans rfl rfl
@[simp] theorem Out.loop_rt {s : S} {o : OD} {h : SF} : (Out.rt o s).loop h = .rt o s := Eq.trans rfl rfl
@[simp] theorem Out.loop_ex {s : S} {e : Exn} {h : SF} : (Out.ex e s).loop h = .ex e s := Eq.trans rfl rfl
@[simp] theorem Out.loop_bad {h : SF} : Out.bad.loop h = .bad := Eq.trans rfl rfl
def Out.fin (rf : List Bool) : Out → Res OD
  | .rt o s' => .ok o (keepR rf s')
  | .nx s' => .ok (.fz .none) (keepR rf s')
  | .ex e s' => .ex e (keepR rf s')
  | .bk _ => .bad
  | .ct _ => .bad
  | .bad => .bad
@[simp] theorem Out.fin_rt {rf : List Bool} {s : S} {o : OD} : (Out.rt o s).fin rf = .ok o (keepR rf s) := Eq.trans rfl rfl
@[simp] theorem Out.fin_nx {rf : List Bool} {s : S} : (Out.nx s).fin rf = .ok (.fz .none) (keepR rf s) := Eq.trans rfl rfl
@[simp] theorem Out.fin_ex {rf : List Bool} {s : S} {e : Exn} : (Out.ex e s).fin rf = .ex e (keepR rf s) := Eq.trans rfl rfl
/-! continuations by name: simp does not look into them before their turn -/
section
variable {s : S} {b : Bool}
def kFrz (o : OD) : EF := .ok o.frz
@[simp] theorem k_Frz {o : OD} : kFrz o s = .ok o.frz s := Eq.trans rfl rfl
def kFz (d : D) : OF := .ok (.fz d)
@[simp] theorem k_Fz {d : D} : kFz d s = .ok (.fz d) s := Eq.trans rfl rfl
def kOf {α β : Type} (F : α → Option β) (a : α) : S → Res β := ofO (F a)
@[simp] theorem k_Of {α β : Type} {F : α → Option β} {a : α} : kOf F a s = ofO (F a) s := Eq.trans rfl rfl
def kBin {α : Type} (F : D → D → Option α) (fb : EF) (a : D) : S → Res α := fun s => (fb s).bind (kOf (F a))
@[simp] theorem k_Bin {α : Type} {F : D → D → Option α} {fb : EF} {a : D} : kBin F fb a s = (fb s).bind (kOf (F a)) := Eq.trans rfl rfl
def kToB (b : Bool) : EF := .ok (.bool b)
@[simp] theorem k_ToB : kToB b s = .ok (.bool b) s := Eq.trans rfl rfl
def kBinB2 (F : D → D → Option Bool) (a b : D) : EF := fun s => (ofO (F a b) s).bind kToB
@[simp] theorem k_BinB2 {F : D → D → Option Bool} {a b : D} : kBinB2 F a b s = (ofO (F a b) s).bind kToB := Eq.trans rfl rfl
def kBinB (F : D → D → Option Bool) (fb : EF) (a : D) : EF := fun s => (fb s).bind (kBinB2 F a)
@[simp] theorem k_BinB {F : D → D → Option Bool} {fb : EF} {a : D} : kBinB F fb a s = (fb s).bind (kBinB2 F a) := Eq.trans rfl rfl
def kBool (d : D) : TF := fun s => match d with
  | .bool b => .ok b s
  | _ => .bad
@[simp] theorem k_Bool : kBool (.bool b) s = .ok b s := Eq.trans rfl rfl
def kIte {α : Type} (f g : S → Res α) (b : Bool) : S → Res α := fun s => if b = true then f s else g s
@[simp] theorem k_IteT {α : Type} {f g : S → Res α} : kIte f g true s = f s := Eq.trans rfl rfl
@[simp] theorem k_IteF {α : Type} {f g : S → Res α} : kIte f g false s = g s := Eq.trans rfl rfl
@[simp] theorem k_IteD {α : Type} {f g : S → Res α} {p : Prop} [Decidable p] : kIte f g (decide p) s = if p then f s else g s := by
  unfold kIte
  by_cases h : p <;> simp [h]
def kInv (b : Bool) : TF := .ok (!b)
@[simp] theorem k_Inv : kInv b s = .ok (!b) s := Eq.trans rfl rfl
def kAndD (fb : EF) (d : D) : EF := fun s => match d with
  | .bool true => fb s
  | .bool false => .ok (.bool false) s
  | _ => .bad
@[simp] theorem k_AndT {fb : EF} : kAndD fb (.bool true) s = fb s := Eq.trans rfl rfl
@[simp] theorem k_AndF {fb : EF} : kAndD fb (.bool false) s = .ok (.bool false) s := Eq.trans rfl rfl
@[simp] theorem k_AndP {fb : EF} {p : Prop} [Decidable p] : kAndD fb (.bool (decide p)) s = if p then fb s else .ok (.bool false) s := by
  by_cases h : p <;> simp [h]
def kOrD (fb : EF) (d : D) : EF := fun s => match d with
  | .bool true => .ok (.bool true) s
  | .bool false => fb s
  | _ => .bad
@[simp] theorem k_OrT {fb : EF} : kOrD fb (.bool true) s = .ok (.bool true) s := Eq.trans rfl rfl
@[simp] theorem k_OrF {fb : EF} : kOrD fb (.bool false) s = fb s := Eq.trans rfl rfl
@[simp] theorem k_OrP {fb : EF} {p : Prop} [Decidable p] : kOrD fb (.bool (decide p)) s = if p then .ok (.bool true) s else fb s := by
  by_cases h : p <;> simp [h]
def kNotD (d : D) : EF := fun s => match d with
  | .bool b => .ok (.bool !b) s
  | _ => .bad
@[simp] theorem k_NotD : kNotD (.bool b) s = .ok (.bool !b) s := Eq.trans rfl rfl
def kCons2 {α : Type} (a : α) (l : List α) : S → Res (List α) := .ok (a :: l)
@[simp] theorem k_Cons2 {α : Type} {a : α} {l : List α} : kCons2 a l s = .ok (a :: l) s := Eq.trans rfl rfl
def kCons {α : Type} (g : S → Res (List α)) (a : α) : S → Res (List α) := fun s => (g s).bind (kCons2 a)
@[simp] theorem k_Cons {α : Type} {g : S → Res (List α)} {a : α} : kCons g a s = (g s).bind (kCons2 a) := Eq.trans rfl rfl
def kSized {α β : Type} (F : List α → β) (l : List α) : S → Res β := fun s => if l.length ≤ sizeLine then .ok (F l) s else .bad
theorem size_small {n : Nat} (h : n ≤ 1000000) : n ≤ sizeLine := by unfold sizeLine; omega
theorem k_Sized {α β : Type} {F : List α → β} {l : List α} : kSized F l s = if l.length ≤ sizeLine then .ok (F l) s else .bad := rfl
@[simp] theorem k_Sized0 {α β : Type} {F : List α → β} : kSized F [] s = .ok (F []) s := if_pos (show 0 ≤ sizeLine from size_small (by decide))
@[simp] theorem k_Sized1 {α β : Type} {F : List α → β} {x0 : α} : kSized F [x0] s = .ok (F [x0]) s := if_pos (show 1 ≤ sizeLine from size_small (by decide))
@[simp] theorem k_Sized2 {α β : Type} {F : List α → β} {x0 x1 : α} : kSized F [x0, x1] s = .ok (F [x0, x1]) s := if_pos (show 2 ≤ sizeLine from size_small (by decide))
@[simp] theorem k_Sized3 {α β : Type} {F : List α → β} {x0 x1 x2 : α} : kSized F [x0, x1, x2] s = .ok (F [x0, x1, x2]) s := if_pos (show 3 ≤ sizeLine from size_small (by decide))
@[simp] theorem k_Sized4 {α β : Type} {F : List α → β} {x0 x1 x2 x3 : α} : kSized F [x0, x1, x2, x3] s = .ok (F [x0, x1, x2, x3]) s := if_pos (show 4 ≤ sizeLine from size_small (by decide))
@[simp] theorem k_Sized5 {α β : Type} {F : List α → β} {x0 x1 x2 x3 x4 : α} : kSized F [x0, x1, x2, x3, x4] s = .ok (F [x0, x1, x2, x3, x4]) s := if_pos (show 5 ≤ sizeLine from size_small (by decide))
@[simp] theorem k_Sized6 {α β : Type} {F : List α → β} {x0 x1 x2 x3 x4 x5 : α} : kSized F [x0, x1, x2, x3, x4, x5] s = .ok (F [x0, x1, x2, x3, x4, x5]) s := if_pos (show 6 ≤ sizeLine from size_small (by decide))
@[simp] theorem k_Sized7 {α β : Type} {F : List α → β} {x0 x1 x2 x3 x4 x5 x6 : α} : kSized F [x0, x1, x2, x3, x4, x5, x6] s = .ok (F [x0, x1, x2, x3, x4, x5, x6]) s := if_pos (show 7 ≤ sizeLine from size_small (by decide))
@[simp] theorem k_Sized8 {α β : Type} {F : List α → β} {x0 x1 x2 x3 x4 x5 x6 x7 : α} : kSized F [x0, x1, x2, x3, x4, x5, x6, x7] s = .ok (F [x0, x1, x2, x3, x4, x5, x6, x7]) s := if_pos (show 8 ≤ sizeLine from size_small (by decide))
@[simp] theorem k_Sized9 {α β : Type} {F : List α → β} {x0 x1 x2 x3 x4 x5 x6 x7 x8 : α} : kSized F [x0, x1, x2, x3, x4, x5, x6, x7, x8] s = .ok (F [x0, x1, x2, x3, x4, x5, x6, x7, x8]) s := if_pos (show 9 ≤ sizeLine from size_small (by decide))
@[simp] theorem k_Sized10 {α β : Type} {F : List α → β} {x0 x1 x2 x3 x4 x5 x6 x7 x8 x9 : α} : kSized F [x0, x1, x2, x3, x4, x5, x6, x7, x8, x9] s = .ok (F [x0, x1, x2, x3, x4, x5, x6, x7, x8, x9]) s := if_pos (show 10 ≤ sizeLine from size_small (by decide))
@[simp] theorem k_Sized11 {α β : Type} {F : List α → β} {x0 x1 x2 x3 x4 x5 x6 x7 x8 x9 x10 : α} : kSized F [x0, x1, x2, x3, x4, x5, x6, x7, x8, x9, x10] s = .ok (F [x0, x1, x2, x3, x4, x5, x6, x7, x8, x9, x10]) s := if_pos (show 11 ≤ sizeLine from size_small (by decide))
@[simp] theorem k_Sized12 {α β : Type} {F : List α → β} {x0 x1 x2 x3 x4 x5 x6 x7 x8 x9 x10 x11 : α} : kSized F [x0, x1, x2, x3, x4, x5, x6, x7, x8, x9, x10, x11] s = .ok (F [x0, x1, x2, x3, x4, x5, x6, x7, x8, x9, x10, x11]) s := if_pos (show 12 ≤ sizeLine from size_small (by decide))
@[simp] theorem k_Sized13 {α β : Type} {F : List α → β} {x0 x1 x2 x3 x4 x5 x6 x7 x8 x9 x10 x11 x12 : α} : kSized F [x0, x1, x2, x3, x4, x5, x6, x7, x8, x9, x10, x11, x12] s = .ok (F [x0, x1, x2, x3, x4, x5, x6, x7, x8, x9, x10, x11, x12]) s := if_pos (show 13 ≤ sizeLine from size_small (by decide))
@[simp] theorem k_Sized14 {α β : Type} {F : List α → β} {x0 x1 x2 x3 x4 x5 x6 x7 x8 x9 x10 x11 x12 x13 : α} : kSized F [x0, x1, x2, x3, x4, x5, x6, x7, x8, x9, x10, x11, x12, x13] s = .ok (F [x0, x1, x2, x3, x4, x5, x6, x7, x8, x9, x10, x11, x12, x13]) s := if_pos (show 14 ≤ sizeLine from size_small (by decide))
@[simp] theorem k_Sized15 {α β : Type} {F : List α → β} {x0 x1 x2 x3 x4 x5 x6 x7 x8 x9 x10 x11 x12 x13 x14 : α} : kSized F [x0, x1, x2, x3, x4, x5, x6, x7, x8, x9, x10, x11, x12, x13, x14] s = .ok (F [x0, x1, x2, x3, x4, x5, x6, x7, x8, x9, x10, x11, x12, x13, x14]) s := if_pos (show 15 ≤ sizeLine from size_small (by decide))
theorem sized_ok {α β : Type} {F : List α → β} {l : List α} (h : l.length ≤ 1000000) : kSized F l s = .ok (F l) s := if_pos (size_small h)
def kRef (ds : List D) : AF := .ok (.none :: ds)
@[simp] theorem k_Ref {ds : List D} : kRef ds s = .ok (.none :: ds) s := Eq.trans rfl rfl
def kDrop (_ : D) : SF := .nx
@[simp] theorem k_Drop {d : D} : kDrop d s = .nx s := Eq.trans rfl rfl
def kIteS (f g : SF) (b : Bool) : SF := fun s => if b = true then f s else g s
@[simp] theorem k_IteST {f g : SF} : kIteS f g true s = f s := Eq.trans rfl rfl
@[simp] theorem k_IteSF {f g : SF} : kIteS f g false s = g s := Eq.trans rfl rfl
@[simp] theorem k_IteSD {f g : SF} {p : Prop} [Decidable p] : kIteS f g (decide p) s = if p then f s else g s := by
  unfold kIteS
  by_cases h : p <;> simp [h]
def kAsg (f : GF) (d : D) : SF := fun s => match f d s with
  | some s => .nx s
  | none => .bad
@[simp] theorem k_Asg {f : GF} {d : D} : kAsg f d s = match f d s with
  | some s => .nx s
  | none => .bad := Eq.trans rfl rfl
def kSet (i : Nat) (o : OD) : SF := fun s => .nx (s.set i (some o))
@[simp] theorem k_Set {i : Nat} {o : OD} : kSet i o s = .nx (s.set i (some o)) := Eq.trans rfl rfl
def kPar (is : List Nat) (os : List OD) : SF := fun s => if os.length = is.length then .nx (setAll is os s) else .bad
@[simp] theorem k_Par {is : List Nat} {os : List OD} : kPar is os s = if os.length = is.length then .nx (setAll is os s) else .bad := by
  refine Eq.trans ?_ rfl
  rfl
def kRg1 (d : D) : IF := fun s => match d with
  | .int n => if -(2 ^ 62) ≤ n ∧ n < 2 ^ 62 then .ok (upto 0 n.toNat) s else .bad
  | _ => .bad
@[simp] theorem k_Rg1 {n : Int} : kRg1 (.int n) s = if -(2 ^ 62) ≤ n ∧ n < 2 ^ 62 then .ok (upto 0 n.toNat) s else .bad := by
  refine Eq.trans ?_ rfl
  rfl
def kRg2b (d e : D) : IF := fun s => match d, e with
  | .int m, .int n => if -(2 ^ 62) ≤ m ∧ m < 2 ^ 62 ∧ -(2 ^ 62) ≤ n ∧ n < 2 ^ 62 then .ok (upto m (n - m).toNat) s else .bad
  | _, _ => .bad
@[simp] theorem k_Rg2b {m n : Int} : kRg2b (.int m) (.int n) s = if -(2 ^ 62) ≤ m ∧ m < 2 ^ 62 ∧ -(2 ^ 62) ≤ n ∧ n < 2 ^ 62 then .ok (upto m (n - m).toNat) s else .bad := by
  refine Eq.trans ?_ rfl
  rfl
def kRg2 (fb : EF) (d : D) : IF := fun s => (fb s).bind (kRg2b d)
@[simp] theorem k_Rg2 {fb : EF} {d : D} : kRg2 fb d s = (fb s).bind (kRg2b d) := Eq.trans rfl rfl
def kPart (d : D) : PF := fun s => match d with
  | .int i => .ok (some i) s
  | _ => .bad
@[simp] theorem k_Part {n : Int} : kPart (.int n) s = .ok (some n) s := Eq.trans rfl rfl
def kSl3 (d : D) (lo hi : Option Int) : OF := ofO (sliceD d lo hi)
@[simp] theorem k_Sl3 {d : D} {lo hi : Option Int} : kSl3 d lo hi s = ofO (sliceD d lo hi) s := Eq.trans rfl rfl
def kSl2 (h : PF) (d : D) (lo : Option Int) : OF := fun s => (h s).bind (kSl3 d lo)
@[simp] theorem k_Sl2 {h : PF} {d : D} {lo : Option Int} : kSl2 h d lo s = (h s).bind (kSl3 d lo) := Eq.trans rfl rfl
def kSl1 (l h : PF) (d : D) : OF := fun s => (l s).bind (kSl2 h d)
@[simp] theorem k_Sl1 {l h : PF} {d : D} : kSl1 l h d s = (l s).bind (kSl2 h d) := Eq.trans rfl rfl
def Res.backTo {α : Type} (ks : List (Option Nat)) (s1 : S) : Res α → Res α
  | .ok o s2 => .ok o (backR ks s2 s1)
  | .ex e s2 => .ex e (backR ks s2 s1)
  | .bad => .bad
@[simp] theorem Res.backTo_ok {α : Type} {ks : List (Option Nat)} {s1 s2 : S} {o : α} : (Res.ok o s2).backTo ks s1 = .ok o (backR ks s2 s1) := Eq.trans rfl rfl
@[simp] theorem Res.backTo_ex {α : Type} {ks : List (Option Nat)} {s1 s2 : S} {e : Exn} : (Res.ex e s2 : Res α).backTo ks s1 = .ex e (backR ks s2 s1) := Eq.trans rfl rfl
def kCall2 (ks : List (Option Nat)) (F : List OD → Res OD) (s1 : S) : Option (List OD) → Res OD
  | none => .bad
  | some ods => (F ods).backTo ks s1
@[simp] theorem k_Call2 {ks : List (Option Nat)} {F : List OD → Res OD} {ods : List OD} : kCall2 ks F s (some ods) = (F ods).backTo ks s := Eq.trans rfl rfl
def kCall (ks : List (Option Nat)) (F : List OD → Res OD) (ds : List D) : OF := fun s1 => kCall2 ks F s1 (odsOf ks ds s1)
@[simp] theorem k_Call {ks : List (Option Nat)} {F : List OD → Res OD} {ds : List D} : kCall ks F ds s = kCall2 ks F s (odsOf ks ds s) := Eq.trans rfl rfl
def Res.valTo {α : Type} (s1 : S) : Res α → Res α
  | .ok o _ => .ok o s1
  | _ => .bad
@[simp] theorem Res.valTo_ok {α : Type} {s1 s2 : S} {o : α} : (Res.ok o s2).valTo s1 = .ok o s1 := Eq.trans rfl rfl
def kCallP2 (m n : Nat) (ix : List Nat) (F : List OD → Res OD) (ds es : List D) : OF := fun s2 => if ds.length = m ∧ es.length = n then (F ((pickL .none ix (ds ++ es)).map .fz)).valTo s2 else .bad
@[simp] theorem k_CallP2 {m n : Nat} {ix : List Nat} {F : List OD → Res OD} {ds es : List D} : kCallP2 m n ix F ds es s = if ds.length = m ∧ es.length = n then (F ((pickL .none ix (ds ++ es)).map .fz)).valTo s else .bad := Eq.trans rfl rfl
def kCallP1 (m n : Nat) (ix : List Nat) (g : AF) (F : List OD → Res OD) (ds : List D) : OF := fun s1 => (g s1).bind (kCallP2 m n ix F ds)
@[simp] theorem k_CallP1 {m n : Nat} {ix : List Nat} {g : AF} {F : List OD → Res OD} {ds : List D} : kCallP1 m n ix g F ds s = (g s).bind (kCallP2 m n ix F ds) := Eq.trans rfl rfl
def Res.oF (s : S) : Option OD → Res D
  | some (.fz d) => .ok d s
  | _ => .bad
@[simp] theorem Res.oF_fz {d : D} : Res.oF s (some (.fz d)) = .ok d s := Eq.trans rfl rfl
def kAtF (d k : D) : EF := fun s1 => match ixD d k with
  | some (.fz d') => .ok d' s1
  | _ => .bad
@[simp] theorem k_AtF {d k : D} : kAtF d k s = Res.oF s (ixD d k) := by
  unfold kAtF Res.oF
  cases ixD d k with
  | none => rfl
  | some o => cases o <;> rfl
def Res.oD (s : S) : Option D → Res D
  | some d => .ok d s
  | none => .bad
@[simp] theorem Res.oD_some {d : D} : Res.oD s (some d) = .ok d s := Eq.trans rfl rfl
def kAtO (i : Nat) (k : D) : EF := fun s1 => match k, s1[i]? with
    | .int n, some (some (.ol ds)) => match atI ds n with
      | some d => .ok d s1
      | none => .bad
    | _, _ => .bad
@[simp] theorem k_AtO {i : Nat} {n : Int} : kAtO i (.int n) s = match s[i]? with
    | some (some (.ol ds)) => Res.oD s (atI ds n)
    | _ => .bad := by
  unfold kAtO
  split
  · rename_i m ds e1 e2
    rw [e2]
    cases e1
    simp only
    cases atI ds n <;> rfl
  · rename_i h
    split
    · rename_i ds e2
      exact (h _ _ rfl e2).elim
    · rfl
def kApp (i : Nat) (d : D) : EF := fun s1 => match s1[i]? with
    | some (some (.ol ds)) => if ds.length < sizeLine then .ok .none (s1.set i (some (.ol (ds ++ [d])))) else .bad
    | _ => .bad
@[simp] theorem k_App {i : Nat} {d : D} : kApp i d s = match s[i]? with
    | some (some (.ol ds)) => if ds.length < sizeLine then .ok .none (s.set i (some (.ol (ds ++ [d])))) else .bad
    | _ => .bad := by
  refine Eq.trans ?_ rfl
  rfl
def kExt (i : Nat) (d : D) : EF := fun s1 => match d, s1[i]? with
    | .list es, some (some (.ol ds)) => if ds.length + es.length ≤ sizeLine then .ok .none (s1.set i (some (.ol (ds ++ es)))) else .bad
    | _, _ => .bad
@[simp] theorem k_Ext {i : Nat} {d : D} : kExt i d s = match d, s[i]? with
    | .list es, some (some (.ol ds)) => if ds.length + es.length ≤ sizeLine then .ok .none (s.set i (some (.ol (ds ++ es)))) else .bad
    | _, _ => .bad := by
  refine Eq.trans ?_ rfl
  rfl
def kNxU (_ : Unit) : SF := .nx
@[simp] theorem k_NxU {u : Unit} : kNxU u s = .nx s := Eq.trans rfl rfl
def kItem (i : Nat) (fa : EF) (d : D) : SF := fun s => (gItem i fa d s).toS kNxU
@[simp] theorem k_Item {i : Nat} {fa : EF} {d : D} : kItem i fa d s = (gItem i fa d s).toS kNxU := Eq.trans rfl rfl
def kItL (i : Nat) (d k : D) : S → Res Unit := fun s1 => match k, s1[i]? with
    | .int n, some (some (.ol ds)) => match ixN ds.length n with
      | some j => .ok () (s1.set i (some (.ol (ds.set j d))))
      | none => .bad
    | _, _ => .bad
@[simp] theorem k_ItL {i : Nat} {d k : D} : kItL i d k s = match k, s[i]? with
    | .int n, some (some (.ol ds)) => match ixN ds.length n with
      | some j => .ok () (s.set i (some (.ol (ds.set j d))))
      | none => .bad
    | _, _ => .bad := Eq.trans rfl rfl
def kItN (i : Nat) (d k : D) : S → Res Unit := fun s1 => match k, s1[i]? with
    | .int n, some (some (.on os)) => match ixN os.length n with
      | some j => .ok () (s1.set i (some (.on (os.set j (.fz d)))))
      | none => .bad
    | _, _ => .bad
@[simp] theorem k_ItN {i : Nat} {d k : D} : kItN i d k s = match k, s[i]? with
    | .int n, some (some (.on os)) => match ixN os.length n with
      | some j => .ok () (s.set i (some (.on (os.set j (.fz d)))))
      | none => .bad
    | _, _ => .bad := Eq.trans rfl rfl
def kIsi (T : String) (d : D) : EF := fun s => (ofO (isiF T d) s).bind kToB
@[simp] theorem k_Isi {T : String} {d : D} : kIsi T d s = (ofO (isiF T d) s).bind kToB := Eq.trans rfl rfl
def kLc2 (ow : List Bool) (s1 : S) (acc : List D) : OF := fun s2 => .ok (.ol acc) (backF ow s1 s2)
@[simp] theorem k_Lc2 {ow : List Bool} {s1 : S} {acc : List D} : kLc2 ow s1 acc s = .ok (.ol acc) (backF ow s1 s) := Eq.trans rfl rfl
def kLc (ow : List Bool) (f : GF) (ta : TF) (fb : EF) (ds : List D) : OF := fun s1 => if ow.length = s1.length then (lcL ow f ta fb ds [] (wipeF ow s1)).bind (kLc2 ow s1) else .bad
@[simp] theorem k_Lc {ow : List Bool} {f : GF} {ta : TF} {fb : EF} {ds : List D} : kLc ow f ta fb ds s = if ow.length = s.length then (lcL ow f ta fb ds [] (wipeF ow s)).bind (kLc2 ow s) else .bad := by
  refine Eq.trans ?_ rfl
  rfl
def kWh (t : TF) (h : SF) (n : Nat) (b : Bool) : SF := fun s1 => if b = true then (h s1).loop (whileL t h n) else .nx s1
@[simp] theorem k_WhT {t : TF} {h : SF} {n : Nat} : kWh t h n true s = (h s).loop (whileL t h n) := Eq.trans rfl rfl
@[simp] theorem k_WhF {t : TF} {h : SF} {n : Nat} : kWh t h n false s = .nx s := Eq.trans rfl rfl
@[simp] theorem k_WhD {t : TF} {h : SF} {n : Nat} {p : Prop} [Decidable p] : kWh t h n (decide p) s = if p then (h s).loop (whileL t h n) else .nx s := by
  unfold kWh
  by_cases q : p <;> simp [q]
end
section
variable {s : S} {fa fb fc : EF} {a b : D} {oa ob : OF} {ta tb : TF} {g g' : AF} {i j k n : Nat}
@[simp] theorem ev_ofO_some {α : Type} {a : α} : ofO (some a) s = .ok a s := Eq.trans rfl rfl
@[simp] theorem ev_C {d : D} : eC d s = .ok d s := Eq.trans rfl rfl
@[simp] theorem ev_Frz : eFrz oa s = (oa s).bind kFrz := Eq.trans rfl rfl
@[simp] theorem ev_oFz : oFz fa s = (fa s).bind kFz := Eq.trans rfl rfl
@[simp] theorem ev_Var : eVar i s = match s[i]? with
  | some (some (.fz d)) => .ok d s
  | some (some o) => .ok o.frz (s.set i (some (.fz o.frz)))
  | _ => .bad := Eq.trans rfl rfl
@[simp] theorem ev_oVar : oVar i s = match s[i]? with
  | some (some (.fz d)) => .ok (.fz d) s
  | some (some o) => .ok o (s.set i none)
  | _ => .bad := Eq.trans rfl rfl
@[simp] theorem ev_Op2 {F : D → D → Option OD} : oOp2 F fa fb s = (fa s).bind (kBin F fb) := Eq.trans rfl rfl
@[simp] theorem ev_Op1 {F : D → Option OD} : oOp1 F fa s = (fa s).bind (kOf F) := Eq.trans rfl rfl
@[simp] theorem ev_eCmp {F : D → D → Option Bool} : eCmp F fa fb s = (fa s).bind (kBinB F fb) := Eq.trans rfl rfl
@[simp] theorem ev_kCmp {F : D → D → Option Bool} : kCmp F fa fb s = (fa s).bind (kBin F fb) := Eq.trans rfl rfl
@[simp] theorem ev_kVal : kVal fa s = (fa s).bind kBool := Eq.trans rfl rfl
@[simp] theorem ev_kAnd : kAnd ta tb s = (ta s).bind (kIte tb (Res.ok false)) := Eq.trans rfl rfl
@[simp] theorem ev_kOr : kOr ta tb s = (ta s).bind (kIte (Res.ok true) tb) := Eq.trans rfl rfl
@[simp] theorem ev_kNot : kNot ta s = (ta s).bind kInv := Eq.trans rfl rfl
@[simp] theorem ev_eAnd : eAnd fa fb s = (fa s).bind (kAndD fb) := Eq.trans rfl rfl
@[simp] theorem ev_eOr : eOr fa fb s = (fa s).bind (kOrD fb) := Eq.trans rfl rfl
@[simp] theorem ev_eNot : eNot fa s = (fa s).bind kNotD := Eq.trans rfl rfl
@[simp] theorem ev_eIf : eIf ta fa fb s = (ta s).bind (kIte fa fb) := Eq.trans rfl rfl
@[simp] theorem ev_oIf : oIf ta oa ob s = (ta s).bind (kIte oa ob) := Eq.trans rfl rfl
@[simp] theorem ev_aNil : aNil s = .ok [] s := Eq.trans rfl rfl
@[simp] theorem ev_aCons : aCons fa g s = (fa s).bind (kCons g) := Eq.trans rfl rfl
@[simp] theorem ev_aoNil : aoNil s = .ok [] s := Eq.trans rfl rfl
@[simp] theorem ev_aoCons {h : AOF} : aoCons oa h s = (oa s).bind (kCons h) := Eq.trans rfl rfl
@[simp] theorem ev_eTup : eTup g s = (g s).bind (kSized PyData.tuple) := Eq.trans rfl rfl
@[simp] theorem ev_oLst : oLst g s = (g s).bind (kSized OD.ol) := Eq.trans rfl rfl
@[simp] theorem ev_oNest {h : AOF} : oNest h s = (h s).bind (kSized OD.on) := Eq.trans rfl rfl
@[simp] theorem ev_aRef : aRef i g s = match s[i]? with
  | some (some _) => (g s).bind kRef
  | _ => .bad := by unfold aRef; rfl
@[simp] theorem ev_sSeq {f h : SF} : sSeq f h s = (f s).andThen h := Eq.trans rfl rfl
@[simp] theorem ev_sNx : sNx s = .nx s := Eq.trans rfl rfl
@[simp] theorem ev_sBk : sBk s = .bk s := Eq.trans rfl rfl
@[simp] theorem ev_sCt : sCt s = .ct s := Eq.trans rfl rfl
@[simp] theorem ev_sExp : sExp fa s = (fa s).toS kDrop := Eq.trans rfl rfl
@[simp] theorem ev_sRet : sRet oa s = (oa s).toS Out.rt := Eq.trans rfl rfl
@[simp] theorem ev_sRetN : sRetN s = .rt (.fz .none) s := Eq.trans rfl rfl
@[simp] theorem ev_sIf {f h : SF} : sIf ta f h s = (ta s).toS (kIteS f h) := Eq.trans rfl rfl
@[simp] theorem ev_gN {d : D} : gN i d s = some (s.set i (some (.fz d))) := Eq.trans rfl rfl
@[simp] theorem ev_gsNil : gsNil [] s = some s := Eq.trans rfl rfl
@[simp] theorem ev_gsCons {f : GF} {h : List D → S → Option S} {d : D} {ds : List D} : gsCons f h (d :: ds) s = (f d s).bind (h ds) := Eq.trans rfl rfl
@[simp] theorem ev_gT {h : List D → S → Option S} {ds : List D} : gT n h (.tuple ds) s = if ds.length = n then h ds s else none := Eq.trans rfl rfl
@[simp] theorem ev_sAsg {f : GF} : sAsg fa f s = (fa s).toS (kAsg f) := Eq.trans rfl rfl
@[simp] theorem ev_sSet : sSet i oa s = (oa s).toS (kSet i) := Eq.trans rfl rfl
@[simp] theorem ev_setAll_nil : setAll [] [] s = s := Eq.trans rfl rfl
@[simp] theorem ev_setAll {is : List Nat} {os : List OD} {o : OD} : setAll (i :: is) (o :: os) s = setAll is os (s.set i (some o)) := Eq.trans rfl rfl
@[simp] theorem ev_sPar {is : List Nat} {h : AOF} : sPar is h s = (h s).toS (kPar is) := Eq.trans rfl rfl
@[simp] theorem ev_sFor {it : IF} {f : GF} {h : SF} : sFor it f h s = (it s).toS (forL f h) := Eq.trans rfl rfl
@[simp] theorem ev_forL_nil {f : GF} {h : SF} : forL f h [] s = .nx s := Eq.trans rfl rfl
@[simp] theorem ev_sWhile {h : SF} : sWhile n ta h s = whileL ta h n s := Eq.trans rfl rfl
@[simp] theorem ev_iSeq : iSeq fa s = (fa s).bind (kOf itemsD) := Eq.trans rfl rfl
@[simp] theorem ev_itemsL {ds : List D} : itemsD (.list ds) = some ds := Eq.trans rfl rfl
@[simp] theorem ev_itemsT {ds : List D} : itemsD (.tuple ds) = some ds := Eq.trans rfl rfl
@[simp] theorem ev_iRange1 : iRange1 fa s = (fa s).bind kRg1 := by
  refine Eq.trans ?_ rfl
  rfl
@[simp] theorem ev_iRange2 : iRange2 fa fb s = (fa s).bind (kRg2 fb) := by
  refine Eq.trans ?_ rfl
  rfl
@[simp] theorem ev_Blt {F : List D → Option OD} : oBlt F g s = (g s).bind (kOf F) := Eq.trans rfl rfl
@[simp] theorem ev_one {F : D → Option OD} : one F [a] = F a := Eq.trans rfl rfl
@[simp] theorem ev_two {F : D → D → Option OD} : two F [a, b] = F a b := Eq.trans rfl rfl
@[simp] theorem ev_pNo : pNo s = .ok none s := Eq.trans rfl rfl
@[simp] theorem ev_pSome : pSome fa s = (fa s).bind kPart := Eq.trans rfl rfl
@[simp] theorem ev_Slice {l h : PF} : oSlice fa l h s = (fa s).bind (kSl1 l h) := Eq.trans rfl rfl
@[simp] theorem ev_sliceL {xs : List D} {lo hi : Option Int} : sliceD (.list xs) lo hi = some (.ol (cutD xs lo hi)) := Eq.trans rfl rfl
@[simp] theorem ev_sliceT {xs : List D} {lo hi : Option Int} : sliceD (.tuple xs) lo hi = some (.fz (.tuple (cutD xs lo hi))) := Eq.trans rfl rfl
@[simp] theorem ev_sliceK {xs : List D} {lo hi : Option Int} : sliceD (lockD xs) lo hi = some (.ol (cutD xs lo hi)) := Eq.trans rfl rfl
@[simp] theorem ev_Call {ks : List (Option Nat)} {F : List OD → Res OD} : oCall ks g F s = (g s).bind (kCall ks F) := by
  unfold oCall
  congr 1
  funext ds s1
  unfold kCall kCall2 Res.backTo
  cases odsOf ks ds s1 with
  | none => rfl
  | some ods =>
    simp only
    cases F ods <;> rfl
@[simp] theorem ev_CallP {m : Nat} {ix : List Nat} {F : List OD → Res OD} : oCallP m n ix g g' F s = (g s).bind (kCallP1 m n ix g' F) := by
  unfold oCallP
  congr 1
  funext ds s1
  unfold kCallP1
  congr 1
  funext es s2
  unfold kCallP2 Res.valTo
  split
  · split
    · rename_i e; rw [e]
    · rename_i h
      split
      · rename_i o s3 e; exact (h _ _ e).elim
      · rfl
  · rfl
@[simp] theorem ev_pickL {α : Type} {z : α} {ix : List Nat} {l : List α} : pickL z ix l = ix.map fun j => l.getD j z := Eq.trans rfl rfl
@[simp] theorem ev_noexF {F : List OD → Res OD} {os : List OD} : noexF F os = (F os).noex := Eq.trans rfl rfl
@[simp] theorem ev_ods_nil : odsOf [] [] s = some [] := Eq.trans rfl rfl
@[simp] theorem ev_ods_none {ks : List (Option Nat)} {d : D} {ds : List D} : odsOf (none :: ks) (d :: ds) s = (odsOf ks ds s).map fun os => .fz d :: os := Eq.trans rfl rfl
@[simp] theorem ev_ods_some {ks : List (Option Nat)} {d : D} {ds : List D} : odsOf (some i :: ks) (d :: ds) s = match s[i]? with
    | some (some o) => (odsOf ks ds s).map fun os => o :: os
    | _ => none := Eq.trans rfl rfl
@[simp] theorem ev_back_nil {xs : S} : backR [] xs s = s := Eq.trans rfl rfl
@[simp] theorem ev_back_some {ks : List (Option Nat)} {x : Option OD} {xs : S} : backR (some i :: ks) (x :: xs) s = backR ks xs (s.set i x) := Eq.trans rfl rfl
@[simp] theorem ev_back_none {ks : List (Option Nat)} {x : Option OD} {xs : S} : backR (none :: ks) (x :: xs) s = backR ks xs s := Eq.trans rfl rfl
@[simp] theorem ev_keep_nil {xs : S} : keepR [] xs = [] := by cases xs <;> rfl
@[simp] theorem ev_keep_t {bs : List Bool} {x : Option OD} {xs : S} : keepR (true :: bs) (x :: xs) = x :: keepR bs xs := Eq.trans rfl rfl
@[simp] theorem ev_keep_f {bs : List Bool} {x : Option OD} {xs : S} : keepR (false :: bs) (x :: xs) = none :: keepR bs xs := Eq.trans rfl rfl
@[simp] theorem ev_mkF {rf : List Bool} {h : SF} {ods : List OD} : mkF n rf h ods = (h (ods.map some ++ List.replicate (n - ods.length) none)).fin rf := Eq.trans rfl rfl
@[simp] theorem ev_At : eAt i fa s = match s[i]? with
  | some (some (.fz d)) => (fa s).bind (kAtF d)
  | some (some (.ol _)) => (fa s).bind (kAtO i)
  | _ => .bad := Eq.trans rfl rfl
@[simp] theorem ev_Append : eAppend i fa s = match s[i]? with
  | some (some (.ol _)) => (fa s).bind (kApp i)
  | _ => .bad := Eq.trans rfl rfl
@[simp] theorem ev_Extend : eExtend i fa s = match s[i]? with
  | some (some (.ol _)) => (fa s).bind (kExt i)
  | _ => .bad := Eq.trans rfl rfl
@[simp] theorem ev_Pop : ePop i s = match s[i]? with
  | some (some (.ol ds)) => match ds[ds.length - 1]? with
    | some d => .ok d (s.set i (some (.ol ds.dropLast)))
    | none => .bad
  | _ => .bad := Eq.trans rfl rfl
@[simp] theorem ev_PopN : ePopN i k s = match s[i]? with
  | some (some (.on os)) => match os[k]? with
    | some (.ol ds) => match ds[ds.length - 1]? with
      | some d => .ok d (s.set i (some (.on (os.set k (.ol ds.dropLast)))))
      | none => .bad
    | _ => .bad
  | _ => .bad := Eq.trans rfl rfl
@[simp] theorem ev_ItemN : eItemN i k s = match s[i]? with
  | some (some (.on os)) => match os[k]? with
    | some (.fz d) => .ok d s
    | _ => .bad
  | _ => .bad := Eq.trans rfl rfl
@[simp] theorem ev_sItem : sItem i fa fb s = (fb s).toS (kItem i fa) := Eq.trans rfl rfl
@[simp] theorem ev_gItem {d : D} : gItem i fa d s = match s[i]? with
  | some (some (.ol _)) => (fa s).bind (kItL i d)
  | some (some (.on _)) => (fa s).bind (kItN i d)
  | _ => .bad := Eq.trans rfl rfl
@[simp] theorem ev_Isi {T : String} : eIsi T fa s = (fa s).bind (kIsi T) := Eq.trans rfl rfl
@[simp] theorem ev_Lc {ow : List Bool} {it : IF} {f : GF} : oLc ow it f ta fb s = (it s).bind (kLc ow f ta fb) := Eq.trans rfl rfl
@[simp] theorem ev_kYes : kYes s = .ok true s := Eq.trans rfl rfl
@[simp] theorem ev_wipe_nil : wipeF [] s = s := by cases s <;> rfl
@[simp] theorem ev_wipe_t {bs : List Bool} {x : Option OD} {xs : S} : wipeF (true :: bs) (x :: xs) = none :: wipeF bs xs := Eq.trans rfl rfl
@[simp] theorem ev_wipe_f {bs : List Bool} {x : Option OD} {xs : S} : wipeF (false :: bs) (x :: xs) = x :: wipeF bs xs := Eq.trans rfl rfl
@[simp] theorem ev_backF_nil {xs ys : S} : backF [] xs ys = ys := by cases xs <;> cases ys <;> rfl
@[simp] theorem ev_backF_t {bs : List Bool} {x y : Option OD} {xs ys : S} : backF (true :: bs) (x :: xs) (y :: ys) = (match x with
      | some (.fz d) => some (.fz d)
      | _ => none) :: backF bs xs ys := Eq.trans rfl rfl
@[simp] theorem ev_backF_f {bs : List Bool} {x y : Option OD} {xs ys : S} : backF (false :: bs) (x :: xs) (y :: ys) = y :: backF bs xs ys := Eq.trans rfl rfl
@[simp] theorem ev_brw_nil {ms : List Mode} : brw ms [] = [] := by cases ms <;> rfl
@[simp] theorem ev_brw {m : Mode} {ms : List Mode} {x : Option OD} {xs : S} : brw (m :: ms) (x :: xs) = b1 m x :: brw ms xs := Eq.trans rfl rfl
@[simp] theorem ev_rst_nil : rst [] [] [] = some [] := Eq.trans rfl rfl
@[simp] theorem ev_rst {m : Mode} {ms : List Mode} {x y : Option OD} {xs ys : S} : rst (m :: ms) (x :: xs) (y :: ys) = (r1 m x y).bind fun z => (rst ms xs ys).map fun zs => z :: zs := Eq.trans rfl rfl
@[simp] theorem ev_b1k {x : Option OD} : b1 .k x = x := Eq.trans rfl rfl
@[simp] theorem ev_b1f {x : Option OD} : b1 .f x = x.map fun o => .fz o.frz := Eq.trans rfl rfl
@[simp] theorem ev_r1f {x y : Option OD} : r1 .f x y = some x := by cases x <;> rfl
@[simp] theorem ev_r1k0 {y : Option OD} : r1 .k none y = some none := Eq.trans rfl rfl
@[simp] theorem ev_r1kf {d : D} {y : Option OD} : r1 .k (some (.fz d)) y = some (some (.fz d)) := Eq.trans rfl rfl
@[simp] theorem ev_r1kn {os : List OD} {o : OD} : r1 .k (some (.on os)) (some o) = if o.free = true then some (some o) else none := by
  refine Eq.trans ?_ rfl
  rfl
@[simp] theorem ev_r1kl {ds : List D} {o : OD} : r1 .k (some (.ol ds)) (some o) = if o.free = true then some (some o) else none := by
  refine Eq.trans ?_ rfl
  rfl
@[simp] theorem ev_eLend {ms : List Mode} : eLend ms fa s = if ms.length = s.length then match fa (brw ms s) with
    | .ok d s' => match rst ms s s' with
      | some r => if free d = true then .ok d r else .bad
      | none => .bad
    | .ex e s' => match rst ms s s' with
      | some r => .ex e r
      | none => .bad
    | .bad => .bad
  else .bad := Eq.trans rfl rfl
@[simp] theorem ev_kLend {ms : List Mode} : kLend ms ta s = if ms.length = s.length then match ta (brw ms s) with
    | .ok d s' => match rst ms s s' with
      | some r => .ok d r
      | none => .bad
    | .ex e s' => match rst ms s s' with
      | some r => .ex e r
      | none => .bad
    | .bad => .bad
  else .bad := Eq.trans rfl rfl
@[simp] theorem ev_oLend {ms : List Mode} : oLend ms oa s = if ms.length = s.length then match oa (brw ms s) with
    | .ok (.ol ds) s' => match rst ms s s' with
      | some r => if freeAll ds = true then .ok (.ol ds) r else .bad
      | none => .bad
    | .ex e s' => match rst ms s s' with
      | some r => .ex e r
      | none => .bad
    | _ => .bad
  else .bad := Eq.trans rfl rfl
@[simp] theorem ev_frz_fz {d : D} : (OD.fz d).frz = d := Eq.trans rfl rfl
@[simp] theorem ev_frz_ol {ds : List D} : (OD.ol ds).frz = .list ds := Eq.trans rfl rfl
@[simp] theorem free_int {n : Int} : free (.int n) = true := Eq.trans rfl rfl
@[simp] theorem free_bool {x : Bool} : free (.bool x) = true := Eq.trans rfl rfl
@[simp] theorem free_none : free .none = true := Eq.trans rfl rfl
@[simp] theorem free_str {x : Str} : free (.str x) = true := Eq.trans rfl rfl
@[simp] theorem free_tuple {ds : List D} : free (.tuple ds) = freeAll ds := by rw [free]
@[simp] theorem freeAll_nil : freeAll [] = true := Eq.trans rfl rfl
@[simp] theorem freeAll_cons {d : D} {ds : List D} : freeAll (d :: ds) = (free d && freeAll ds) := by rw [freeAll]
@[simp] theorem freeAll_ints {ns : List Int} : freeAll (ns.map PyData.int) = true := freeAll_map (fun _ => rfl) ns
end
/-! ### operators at data -/
section
variable {x y : Int} {xs ys : List D} {a b : D}
@[simp] theorem addD_int : addD (.int x) (.int y) = some (.fz (.int (x + y))) := Eq.trans rfl rfl
@[simp] theorem addD_tup : addD (.tuple xs) (.tuple ys) = if xs.length + ys.length ≤ sizeLine then some (.fz (.tuple (xs ++ ys))) else none := by
  simp only [addD, addI, addT, addLs, addS]
  split <;> rfl
@[simp] theorem addD_lst : addD (.list xs) (.list ys) = if xs.length + ys.length ≤ sizeLine then some (.ol (xs ++ ys)) else none := by
  simp only [addD, addI, addT, addLs, addS]
  split <;> rfl
@[simp] theorem subD_int : subD (.int x) (.int y) = some (.fz (.int (x - y))) := Eq.trans rfl rfl
@[simp] theorem negD_int : negD (.int x) = some (.fz (.int (-x))) := Eq.trans rfl rfl
theorem mulD_int : mulD (.int x) (.int y) = if x.natAbs.log2 + y.natAbs.log2 < 1000000 then some (.fz (.int (x * y))) else none := by
  simp only [mulD, mulI, mulL, mulT]
  split <;> rfl
@[simp] theorem mulD_list : mulD (.list xs) (.int y) = if -(2 ^ 63) ≤ y ∧ y < 2 ^ 63 ∧ xs.length * y.toNat ≤ sizeLine then some (.ol (List.replicate y.toNat xs).flatten) else none := by
  simp only [mulD, mulI, mulL, mulT]
  split <;> rfl
@[simp] theorem mulD_tup : mulD (.tuple xs) (.int y) = if xs.isEmpty = false ∧ 2 ≤ y ∧ y ≤ 1000 ∧ xs.length ≤ 1000 then some (.fz (.tuple (List.replicate y.toNat xs).flatten)) else none := by
  simp only [mulD, mulI, mulL, mulT]
  split <;> rfl
@[simp] theorem modD_int : modD (.int x) (.int y) = if 0 < y then some (.fz (.int (x % y))) else none := by
  refine Eq.trans ?_ rfl
  rfl
@[simp] theorem fdivD_int : fdivD (.int x) (.int y) = if 0 < y ∧ y.natAbs.log2 < 9000 then some (.fz (.int (x / y))) else none := by
  refine Eq.trans ?_ rfl
  rfl
@[simp] theorem powD_int : powD (.int x) (.int y) = if CPowW x y then some (.fz (.int (x ^ y.toNat))) else none := by
  refine Eq.trans ?_ rfl
  rfl
@[simp] theorem ltI_int : ltI (.int x) (.int y) = some (decide (x < y)) := Eq.trans rfl rfl
@[simp] theorem leI_int : leI (.int x) (.int y) = some (decide (x ≤ y)) := Eq.trans rfl rfl
@[simp] theorem gtI_int : gtI (.int x) (.int y) = some (decide (y < x)) := Eq.trans rfl rfl
@[simp] theorem geI_int : geI (.int x) (.int y) = some (decide (y ≤ x)) := Eq.trans rfl rfl
theorem eqP_some (h : plain a = true) (h2 : plain b = true) (h3 : SeqAt.shaped a = true) (h4 : SeqAt.shaped b = true) : eqP a b = some (PyData.eqv a b) := by
  unfold eqP
  rw [if_pos ⟨h, h2, h3, h4⟩]
@[simp] theorem eqD_int : eqD (.int x) (.int y) = some (decide (x = y)) := by
  unfold eqD eqS
  rw [eqP_some rfl rfl rfl rfl]
  simp only [PyData.eqv, Option.none_or, Option.map_none, Option.map_some]
  rw [show (x == y) = decide (x = y) from by rw [Bool.eq_iff_iff, beq_iff_eq, decide_eq_true_iff]]
@[simp] theorem neD_int : neD (.int x) (.int y) = some (!decide (x = y)) := by
  unfold neD eqS
  rw [eqP_some rfl rfl rfl rfl]
  simp only [PyData.eqv, Option.none_or, Option.map_none, Option.map_some]
  rw [show (x == y) = decide (x = y) from by rw [Bool.eq_iff_iff, beq_iff_eq, decide_eq_true_iff]]
@[simp] theorem eqD_str {x y : Str} : eqD (.str x) (.str y) = some (decide (x = y)) := Eq.trans rfl rfl
@[simp] theorem neD_str {x y : Str} : neD (.str x) (.str y) = some (!decide (x = y)) := Eq.trans rfl rfl
@[simp] theorem isN_none : isN .none .none = some true := Eq.trans rfl rfl
@[simp] theorem isN_int : isN (.int x) .none = some false := Eq.trans rfl rfl
@[simp] theorem isN_bool {x : Bool} : isN (.bool x) .none = some false := Eq.trans rfl rfl
@[simp] theorem isN_str {x : Str} : isN (.str x) .none = some false := Eq.trans rfl rfl
@[simp] theorem isN_tup : isN (.tuple xs) .none = some false := Eq.trans rfl rfl
@[simp] theorem isN_lst : isN (.list xs) .none = some false := Eq.trans rfl rfl
@[simp] theorem isntN_def : isntN a b = (isN a b).map not := Eq.trans rfl rfl
@[simp] theorem lenD_lst : lenD (.list xs) = some (.fz (.int xs.length)) := Eq.trans rfl rfl
@[simp] theorem lenD_tup : lenD (.tuple xs) = some (.fz (.int xs.length)) := Eq.trans rfl rfl
@[simp] theorem intB_int : intB (.int x) = some (.fz (.int x)) := Eq.trans rfl rfl
@[simp] theorem absD_int : absD (.int x) = some (.fz (.int (if x < 0 then -x else x))) := Eq.trans rfl rfl
@[simp] theorem listD_lst : listD (.list xs) = some (.ol xs) := Eq.trans rfl rfl
@[simp] theorem listD_tup : listD (.tuple xs) = some (.ol xs) := Eq.trans rfl rfl
@[simp] theorem tupleD_lst : tupleD (.list xs) = some (.fz (.tuple xs)) := Eq.trans rfl rfl
@[simp] theorem tupleD_tup : tupleD (.tuple xs) = some (.fz (.tuple xs)) := Eq.trans rfl rfl
@[simp] theorem revD_lst : revD (.list xs) = some (.ol xs.reverse) := Eq.trans rfl rfl
@[simp] theorem ixD_lst : ixD (.list xs) (.int x) = (atI xs x).map .fz := by
  simp only [ixD, ixL, ixT]
  cases atI xs x <;> rfl
@[simp] theorem ixD_tup : ixD (.tuple xs) (.int x) = (atI xs x).map .fz := Eq.trans rfl rfl
@[simp] theorem isi_int_int : isiF "int" (.int x) = some true := show kitB "int" "int" = some true by decide
@[simp] theorem isi_int_bool : isiF "bool" (.int x) = some false := show kitB "int" "bool" = some false by decide
@[simp] theorem isi_int_tuple : isiF "tuple" (.int x) = some false := show kitB "int" "tuple" = some false by decide
@[simp] theorem isi_int_str : isiF "str" (.int x) = some false := show kitB "int" "str" = some false by decide
theorem reprD_some (h : ReprOk a) : reprD a = some (.fz (.str a.shown)) := by
  unfold reprD
  rw [if_pos h]
end
/-! ### loops -/
theorem forL_cons {g : GF} {h : SF} {d : D} {ds : List D} {s : S} : forL g h (d :: ds) s = match g d s with
    | none => .bad
    | some s1 => (h s1).loop (forL g h ds) := rfl
theorem whileL_succ {t : TF} {h : SF} {n : Nat} {s : S} : whileL t h (n + 1) s = (t s).toS (kWh t h n) := rfl
theorem lcL_cons {ow : List Bool} {g : GF} {t : TF} {e : EF} {d : D} {ds acc : List D} {s : S} : lcL ow g t e (d :: ds) acc s = match g d s with
    | none => .bad
    | some s1 => (t s1).noex.bind fun b s2 => if b = true then (e s2).noex.bind fun y s3 => if acc.length < sizeLine then lcL ow g t e ds (acc ++ [y]) (wipeF ow s3) else .bad
        else lcL ow g t e ds acc (wipeF ow s2) := rfl
@[simp] theorem lcL_nil {ow : List Bool} {g : GF} {t : TF} {e : EF} {acc : List D} {s : S} : lcL ow g t e [] acc s = .ok acc s := Eq.trans rfl rfl
/-- a comprehension that changes nothing: item by item -/
theorem lcL_map {ow : List Bool} {g : GF} {e : EF} {s : S} {α : Type} (f : α → D) (u : α → D) : ∀ (l : List α) (acc : List D), (∀ a ∈ l, ∃ s1 s3, g (u a) s = some s1 ∧ e s1 = .ok (f a) s3 ∧ wipeF ow s3 = s) → acc.length + l.length ≤ sizeLine →
    lcL ow g kYes e (l.map u) acc s = .ok (acc ++ l.map f) s
  | [], acc, _, _ => by simp
  | a :: l, acc, h, hl => by
    obtain ⟨s1, s3, h1, h2, h3⟩ := h a (by simp)
    rw [List.map_cons, lcL_cons, h1]
    simp only [ev_kYes, Res.noex_ok, Res.bind_ok, if_true, h2]
    simp only [List.length_cons] at hl
    rw [if_pos (by omega), h3, lcL_map f u l (acc ++ [f a]) (fun b hb => h b (by simp [hb])) (by simp; omega)]
    simp
/-- every turn of a for loop keeps an invariant -/
theorem forL_inv {g : GF} {h : SF} (I : Nat → S → Prop) : ∀ (ds : List D) (k : Nat) (s : S), I k s → (∀ i d s, ds[i]? = some d → I (k + i) s → ∃ s1 s2, g d s = some s1 ∧ (h s1 = .nx s2 ∨ h s1 = .ct s2) ∧ I (k + i + 1) s2) →
    ∃ s', forL g h ds s = .nx s' ∧ I (k + ds.length) s'
  | [], k, s, h0, _ => ⟨s, rfl, h0⟩
  | d :: ds, k, s, h0, st => by
    obtain ⟨s1, s2, e1, e2, h2⟩ := st 0 d s rfl h0
    obtain ⟨s', e, h3⟩ := forL_inv I ds (k + 1) s2 h2 (fun i d s hd hi => by
      have := st (i + 1) d s (by simpa using hd) (by rw [show k + (i + 1) = k + 1 + i by omega]; exact hi)
      rw [show k + 1 + i + 1 = k + (i + 1) + 1 by omega]
      exact this)
    refine ⟨s', ?_, by rw [List.length_cons, show k + (ds.length + 1) = k + 1 + ds.length by omega]; exact h3⟩
    rw [forL_cons, e1]
    rcases e2 with e2 | e2 <;> simp only [e2, Out.loop_nx, Out.loop_ct] <;> exact e
end MI

set_option Elab.async false
set_option linter.all false
set_option autoImplicit false
set_option maxRecDepth 100000
/-! MI: facts about data for the plain laws. -/
namespace MI
open PySem PySem.Spec L2
theorem eqv_nil (cs : List Int) : PyData.eqv (.list (cs.map .int)) (.list []) = decide (cs = []) := by
  cases cs <;> simp [PyData.eqv, PyData.eqvAll]
theorem plain_ints : ∀ cs : List Int, plainAll (cs.map PyData.int) = true
  | [] => rfl
  | c :: cs => by simp [plainAll, MI.plain, plain_ints cs]
theorem can_ints : ∀ cs : List Int, PyData.canLayAll0 (cs.map PyData.int) = true
  | [] => rfl
  | c :: cs => by simp [PyData.canLayAll0, PyData.canLay0, can_ints cs]
theorem depth_ints : ∀ cs : List Int, PyData.depthAll (cs.map PyData.int) = 0
  | [] => rfl
  | c :: cs => by simp [PyData.depthAll, PyData.depth, depth_ints cs]
theorem shaped_ints (cs : List Int) : SeqAt.shaped (.list (cs.map PyData.int)) = true := by
  simp [SeqAt.shaped, PyData.canLay0, can_ints, PyData.depth, depth_ints]
theorem shaped_intsT (cs : List Int) : SeqAt.shaped (.tuple (cs.map PyData.int)) = true := by
  simp [SeqAt.shaped, PyData.canLay0, can_ints, PyData.depth, depth_ints]
theorem eqvAll_ints : ∀ cs ds : List Int, PyData.eqvAll (cs.map PyData.int) (ds.map PyData.int) = decide (cs = ds)
  | [], [] => by simp [PyData.eqvAll]
  | [], _ :: _ => by simp [PyData.eqvAll]
  | _ :: _, [] => by simp [PyData.eqvAll]
  | c :: cs, d :: ds => by
    simp only [List.map_cons, PyData.eqvAll, PyData.eqv, eqvAll_ints cs ds]
    by_cases h : c = d <;> by_cases h2 : cs = ds <;> simp [h, h2]
theorem eqD_lst (cs ds : List Int) : eqD (.list (cs.map PyData.int)) (.list (ds.map PyData.int)) = some (decide (cs = ds)) := by
  simp only [eqD, eqS, Option.none_or]
  rw [eqP_some (by simp [MI.plain, plain_ints]) (by simp [MI.plain, plain_ints]) (shaped_ints _) (shaped_ints _)]
  simp [PyData.eqv, eqvAll_ints]
theorem neD_lst (cs ds : List Int) : neD (.list (cs.map PyData.int)) (.list (ds.map PyData.int)) = some (!decide (cs = ds)) := by
  simp only [neD, eqS, Option.map_none, Option.none_or]
  rw [eqP_some (by simp [MI.plain, plain_ints]) (by simp [MI.plain, plain_ints]) (shaped_ints _) (shaped_ints _)]
  simp [PyData.eqv, eqvAll_ints]
theorem eqD_tup (cs ds : List Int) : eqD (.tuple (cs.map PyData.int)) (.tuple (ds.map PyData.int)) = some (decide (cs = ds)) := by
  simp only [eqD, eqS, Option.none_or]
  rw [eqP_some (by simp [MI.plain, plain_ints]) (by simp [MI.plain, plain_ints]) (shaped_intsT _) (shaped_intsT _)]
  simp [PyData.eqv, eqvAll_ints]
theorem neD_tup (cs ds : List Int) : neD (.tuple (cs.map PyData.int)) (.tuple (ds.map PyData.int)) = some (!decide (cs = ds)) := by
  simp only [neD, eqS, Option.map_none, Option.none_or]
  rw [eqP_some (by simp [MI.plain, plain_ints]) (by simp [MI.plain, plain_ints]) (shaped_intsT _) (shaped_intsT _)]
  simp [PyData.eqv, eqvAll_ints]
@[simp] theorem cp18 : CPowW 10 18 := by decide
@[simp] theorem cp30 : CPowW 10 30 := by decide
theorem map_last {cs : List Int} (h : cs ≠ []) : (cs.map PyData.int)[cs.length - 1]? = some (.int (cs.getLast h)) := by
  rw [List.getElem?_map, ← List.getLast?_eq_getElem?, List.getLast?_eq_some_getLast h]
  rfl
theorem log_lt {n : Int} {k : Nat} (h : n.natAbs < 2 ^ k) (hk : 0 < k) : n.natAbs.log2 < k := by
  by_cases h0 : n.natAbs = 0
  · rw [h0]; simpa using hk
  · exact (Nat.log2_lt h0).mpr h
/-- a product is told -/
theorem mul_ok {x y : Int} (k l : Nat) (hx : x.natAbs < 2 ^ k) (hy : y.natAbs < 2 ^ l) (hk : 0 < k := by decide) (hl : 0 < l := by decide) (h : k + l < 1000000 := by decide) : mulD (.int x) (.int y) = some (.fz (.int (x * y))) := by
  have h1 := log_lt hx hk
  have h2 := log_lt hy hl
  rw [mulD_int, if_pos (by omega)]
theorem fdiv_ok {x y : Int} (k : Nat) (hy : 0 < y) (h : y.natAbs < 2 ^ k) (hk : 0 < k := by decide) (hl : k ≤ 9000 := by decide) : fdivD (.int x) (.int y) = some (.fz (.int (x / y))) := by
  have h1 := log_lt h hk
  rw [fdivD_int, if_pos ⟨hy, by omega⟩]
theorem cut_map {α : Type} (f : α → D) (l : List α) (lo hi : Option Int) : ∃ a b : Nat, cutD (l.map f) lo hi = ((l.drop a).take b).map f :=
  ⟨HT.sIx (l.map f).length 0 lo, HT.sIx (l.map f).length (l.map f).length hi - HT.sIx (l.map f).length 0 lo, by
    unfold cutD
    rw [List.map_take, List.map_drop]⟩
theorem cut_to {α : Type} (f : α → D) (l : List α) (n : Nat) : cutD (l.map f) none (some (n : Int)) = (l.take n).map f := by
  unfold cutD
  rw [HT.sIx_none, List.drop_zero, Nat.sub_zero, HT.sIx_nat, ← List.map_take]
  congr 1
  rw [List.length_map, List.take_eq_take_iff]
  simp
theorem atI_natD {α : Type} {xs : List α} {i : Nat} {x : α} (h : xs[i]? = some x) : atI xs (i : Int) = some x := atI_nat h
theorem size_ok {n : Nat} (h : n ≤ 1000000) : n ≤ sizeLine := by unfold sizeLine; omega
theorem size_lt {n : Nat} (h : n ≤ 1000000) : n < sizeLine := by unfold sizeLine; omega
theorem upto_map (n : Nat) : upto 0 n = (List.range n).map fun i : Nat => PyData.int (i : Int) := by
  unfold upto
  simp
theorem upto_get {n i : Nat} {d : D} (h : (upto 0 n)[i]? = some d) : i < n ∧ d = .int (i : Int) := by
  rw [upto_map, List.getElem?_map, Option.map_eq_some_iff] at h
  obtain ⟨j, h1, rfl⟩ := h
  have hi := lt_of_get h1
  rw [List.length_range] at hi
  rw [List.getElem?_range hi] at h1
  cases h1
  exact ⟨hi, rfl⟩
@[simp] theorem upto_length (n : Nat) : (upto 0 n).length = n := by
  rw [upto_map]; simp
/-- range(m) for a natural number: used in place of k_Rg1 -/
theorem rg_nat {s : S} {n : Int} (m : Nat) (e : n = (m : Int)) (h : m ≤ 1000000) : kRg1 (.int n) s = .ok (upto 0 m) s := by
  rw [k_Rg1, if_pos (by omega), e, Int.toNat_natCast]
end MI

set_option Elab.async false
set_option linter.all false
set_option autoImplicit false
set_option maxRecDepth 100000
/-! MI: running mirrors: zip, enumerate, repr of great numbers; sums. -/
namespace MI
open PySem PySem.Spec L2
section
variable {s : S} {fa fb : EF} {a b : D} {i n : Nat}
@[simp] theorem ev_iZip2 : iZip2 fa fb s = (fa s).bind (kBin pairD2 fb) := Eq.trans rfl rfl
@[simp] theorem ev_iEnum2 : iEnum2 fa s = (fa s).bind (kOf numD) := Eq.trans rfl rfl
@[simp] theorem ev_iZipS : iZip fa fb s = (fa s).bind (kBin sameKind fb) := Eq.trans rfl rfl
def kUnset (i : Nat) (ds : List D) : S → Res (List D) := fun s => .ok ds (s.set i none)
@[simp] theorem k_Unset {ds : List D} : kUnset i ds s = .ok ds (s.set i none) := Eq.trans rfl rfl
@[simp] theorem ev_iZipN : iZipN i fa fb s = (iZip fa fb s).bind (kUnset i) := Eq.trans rfl rfl
@[simp] theorem ev_sZipRet {ow : List Bool} {g : GF} {f : EF} {F : List OD → Res OD} : sZipRet ow i fa fb g f F s = sRet (oCall [none] (aCons (eFrz (oLc ow (iZipN i fa fb) g kYes f)) aNil) (noexF F)) s := Eq.trans rfl rfl
@[simp] theorem sameKind_tup {xs ys : List D} : sameKind (.tuple xs) (.tuple ys) = some (pairUp xs ys) := Eq.trans rfl rfl
@[simp] theorem sameKind_lst {xs ys : List D} : sameKind (.list xs) (.list ys) = some (pairUp xs ys) := Eq.trans rfl rfl
@[simp] theorem pairD2_tl {xs ys : List D} : pairD2 (.tuple xs) (.list ys) = some (pairUp xs ys) := Eq.trans rfl rfl
@[simp] theorem pairD2_lt {xs ys : List D} : pairD2 (.list xs) (.tuple ys) = some (pairUp xs ys) := Eq.trans rfl rfl
@[simp] theorem pairD2_ll {xs ys : List D} : pairD2 (.list xs) (.list ys) = some (pairUp xs ys) := Eq.trans rfl rfl
@[simp] theorem pairD2_tt {xs ys : List D} : pairD2 (.tuple xs) (.tuple ys) = some (pairUp xs ys) := Eq.trans rfl rfl
@[simp] theorem numD_lst {xs : List D} : numD (.list xs) = some (numbered 0 xs) := Eq.trans rfl rfl
@[simp] theorem numD_tup {xs : List D} : numD (.tuple xs) = some (numbered 0 xs) := Eq.trans rfl rfl
@[simp] theorem sumD_ints {ns : List Int} : sumD (.list (ns.map PyData.int)) = some (.fz (.int ns.sum)) := by
  show (asInts (ns.map PyData.int)).map _ = _
  rw [asInts_map]; rfl
theorem reprW_some (h : ReprOkW a) : reprW a = some (.fz (.str a.shown)) := if_pos h
@[simp] theorem isi_tup_tup {xs : List D} : isiF "tuple" (.tuple xs) = some true := show kitB "tuple" "tuple" = some true by decide
@[simp] theorem isi_tup_int {xs : List D} : isiF "int" (.tuple xs) = some false := show kitB "tuple" "int" = some false by decide
@[simp] theorem isi_tup_str {xs : List D} : isiF "str" (.tuple xs) = some false := show kitB "tuple" "str" = some false by decide
@[simp] theorem isi_tup_bool {xs : List D} : isiF "bool" (.tuple xs) = some false := show kitB "tuple" "bool" = some false by decide
def kForB (g : GF) (h : SF) (ds : List D) (o : Option S) : Out := match o with
  | none => .bad
  | some s1 => (h s1).loop (forL g h ds)
@[simp] theorem k_ForB {g : GF} {h : SF} {ds : List D} {s1 : S} : kForB g h ds (some s1) = (h s1).loop (forL g h ds) := Eq.trans rfl rfl
theorem forL_cons2 {g : GF} {h : SF} {d : D} {ds : List D} : forL g h (d :: ds) s = kForB g h ds (g d s) := by
  rw [forL_cons]
  refine Eq.trans ?_ rfl
  rfl
@[simp] theorem gcdD_int {x y : Int} : gcdD (.int x) (.int y) = some (.fz (.int ((Nat.gcd x.natAbs y.natAbs : Nat) : Int))) := Eq.trans rfl rfl
theorem pairUp_ints : ∀ (xs ys : List Int), pairUp (xs.map PyData.int) (ys.map PyData.int) = (xs.zip ys).map fun p => .tuple [.int p.1, .int p.2]
  | [], _ => by simp [pairUp]
  | _ :: _, [] => by simp [pairUp]
  | x :: xs, y :: ys => by simp [pairUp, pairUp_ints xs ys]
theorem numbered_ints : ∀ (xs : List Int) (k : Nat), numbered k (xs.map PyData.int) = (xs.zipIdx k).map fun p => .tuple [.int (p.2 : Nat), .int p.1]
  | [], _ => by simp [numbered]
  | x :: xs, k => by simp [numbered, numbered_ints xs]
/-- texts of numbers -/
theorem shown_int {x : Int} (h : x.natAbs < 2 ^ 12900) : (PyData.shown (.int x)).length ≤ 4301 := by
  rw [PyData.shown, PySem.ofString_length]
  exact int_text_length_le10 (by decide) (Nat.lt_of_lt_of_le h PyProof.Rows.pow_lo)
theorem wide_int {x : Int} (h : x.natAbs < 2 ^ 12900) : wideOk (.int x) = true := by
  have := log_lt h (by decide)
  simp [wideOk, this]
theorem wide_ints : ∀ {ns : List Int}, (∀ x ∈ ns, x.natAbs < 2 ^ 12900) → wideAll (ns.map PyData.int) = true
  | [], _ => rfl
  | n :: ns, h => by
    rw [List.map_cons, wideAll, wide_int (h n (by simp)), wide_ints fun x hx => h x (by simp [hx])]; rfl
theorem short_ints : ∀ {ns : List Int}, (∀ x ∈ ns, x.natAbs < 2 ^ 12900) → PyData.leavesShortAll 4301 (ns.map PyData.int) = true
  | [], _ => rfl
  | n :: ns, h => by
    rw [List.map_cons, PyData.leavesShortAll, PyData.leavesShort, short_ints fun x hx => h x (by simp [hx])]
    simp [shown_int (h n (by simp))]
theorem bulk_ints : ∀ ns : List Int, PyData.bulkAll (ns.map PyData.int) ≤ 2 * ns.length
  | [] => by simp [PyData.bulkAll]
  | n :: ns => by
    have := bulk_ints ns
    simp only [List.map_cons, PyData.bulkAll, PyData.bulk, List.length_cons]
    omega
theorem repr_int {x : Int} (h : x.natAbs < 2 ^ 12900) : ReprOkW (.int x) := by
  refine ⟨wide_int h, by simp [PyData.depth], ?_⟩
  have := shown_int h
  unfold sizeLine
  omega
theorem repr_ints {ns : List Int} (h : ∀ x ∈ ns, x.natAbs < 2 ^ 12900) (hl : ns.length ≤ 1000) : ReprOkW (.tuple (ns.map PyData.int)) := by
  refine ⟨by rw [wideOk]; exact wide_ints h, by simp [PyData.depth, depth_ints], ?_⟩
  have h1 := PyData.shown_le_bulk 4301 (by decide) (.tuple (ns.map PyData.int)) (by rw [PyData.leavesShort]; exact short_ints h)
  have h2 := bulk_ints ns
  rw [PyData.bulk] at h1
  unfold sizeLine
  have : (4301 + 2) * (PyData.bulkAll (ns.map PyData.int)) ≤ (4301 + 2) * 2000 := Nat.mul_le_mul_left _ (by omega)
  omega
end
end MI

set_option Elab.async false
set_option linter.all false
set_option autoImplicit false
set_option maxRecDepth 100000
/-! MI: texts of data without texts: what can be printed. -/
namespace MI
open PySem PySem.Spec L2
mutual
/-- no dict, no text, numbers of fewer than 4300 figures -/
def leanD : D → Bool
  | .none => true
  | .bool _ => true
  | .int i => decide (i.natAbs.log2 < 12900)
  | .str _ => false
  | .list ds => leanAll ds
  | .tuple ds => leanAll ds
  | .dict _ => false
def leanAll : List D → Bool
  | [] => true
  | d :: ds => leanD d && leanAll ds
end
mutual
theorem lean_wide : ∀ d : D, leanD d = true → wideOk d = true
  | .none, _ => rfl
  | .bool _, _ => rfl
  | .int _, h => h
  | .str _, h => by simp [leanD] at h
  | .list ds, h => by rw [wideOk]; exact lean_wideAll ds (by rw [leanD] at h; exact h)
  | .tuple ds, h => by rw [wideOk]; exact lean_wideAll ds (by rw [leanD] at h; exact h)
  | .dict _, h => by simp [leanD] at h
theorem lean_wideAll : ∀ ds : List D, leanAll ds = true → wideAll ds = true
  | [], _ => rfl
  | d :: ds, h => by
    rw [leanAll, Bool.and_eq_true] at h
    rw [wideAll, lean_wide d h.1, lean_wideAll ds h.2]; rfl
end
theorem short_of {i : Int} (h : i.natAbs.log2 < 12900) : (PyData.shown (.int i)).length ≤ 4301 := shown_int (PyProof.Rows.lt_of_log2 h)
mutual
theorem lean_short : ∀ d : D, leanD d = true → PyData.leavesShort 4301 d = true
  | .none, _ => by simp [PyData.leavesShort]
  | .bool b, _ => by cases b <;> simp [PyData.leavesShort]
  | .int i, h => by
    have := short_of (i := i) (by simpa [leanD] using h)
    simpa [PyData.leavesShort] using this
  | .str _, h => by simp [leanD] at h
  | .list ds, h => by rw [PyData.leavesShort]; exact lean_shortAll ds (by rw [leanD] at h; exact h)
  | .tuple ds, h => by rw [PyData.leavesShort]; exact lean_shortAll ds (by rw [leanD] at h; exact h)
  | .dict _, h => by simp [leanD] at h
theorem lean_shortAll : ∀ ds : List D, leanAll ds = true → PyData.leavesShortAll 4301 ds = true
  | [], _ => rfl
  | d :: ds, h => by
    rw [leanAll, Bool.and_eq_true] at h
    rw [PyData.leavesShortAll, lean_short d h.1, lean_shortAll ds h.2]; rfl
end
theorem repr_lean {d : D} (h : leanD d = true) (hd : d.depth ≤ 60) (hb : d.bulk ≤ 3000) : ReprOkW d := by
  refine ⟨lean_wide d h, hd, ?_⟩
  have h1 := PyData.shown_le_bulk 4301 (by decide) d (lean_short d h)
  unfold sizeLine
  have : (4301 + 2) * d.bulk ≤ (4301 + 2) * 3000 := Nat.mul_le_mul_left _ hb
  omega
theorem lean_int {x : Int} (h : x.natAbs < 2 ^ 12900) : leanD (.int x) = true := wide_int h
theorem lean_map {α : Type} (f : α → D) : ∀ {l : List α}, (∀ a ∈ l, leanD (f a) = true) → leanAll (l.map f) = true
  | [], _ => rfl
  | a :: l, h => by
    rw [List.map_cons, leanAll, h a (by simp), lean_map f fun b hb => h b (by simp [hb])]; rfl
theorem depth_map {α : Type} (f : α → D) {m : Nat} : ∀ {l : List α}, (∀ a ∈ l, (f a).depth ≤ m) → PyData.depthAll (l.map f) ≤ m
  | [], _ => by simp [PyData.depthAll]
  | a :: l, h => by
    rw [List.map_cons, PyData.depthAll]
    have h1 := h a (by simp)
    have h2 := depth_map f (m := m) (l := l) fun b hb => h b (by simp [hb])
    omega
theorem bulk_map {α : Type} (f : α → D) {m : Nat} : ∀ {l : List α}, (∀ a ∈ l, (f a).bulk ≤ m) → PyData.bulkAll (l.map f) ≤ (m + 1) * l.length
  | [], _ => by simp [PyData.bulkAll]
  | a :: l, h => by
    rw [List.map_cons, PyData.bulkAll, List.length_cons]
    have h1 := h a (by simp)
    have h2 := bulk_map f (m := m) (l := l) fun b hb => h b (by simp [hb])
    rw [Nat.mul_succ]
    omega
@[simp] theorem neD_bool {a b : Bool} : neD (.bool a) (.bool b) = some (decide (a ≠ b)) := by
  cases a <;> cases b <;> rfl
theorem all_bools {α : Type} (p : α → Bool) (l : List α) : boolsD (fun bs => bs.all id) (.list (l.map fun a => PyData.bool (p a))) = some (.fz (.bool (l.all p))) := by
  have e : l.map (fun a => PyData.bool (p a)) = (l.map p).map PyData.bool := by rw [List.map_map]; rfl
  unfold boolsD
  rw [e]
  simp only [asBools_map, Option.map_some]
  congr 3
  induction l with
  | nil => rfl
  | cons a l ih => simp
end MI

set_option Elab.async false
set_option linter.all false
set_option autoImplicit false
set_option maxRecDepth 100000
/-! MI: running mirrors: repr with dicts. -/
namespace MI
open PySem PySem.Spec L2
theorem reprV_some {a : D} (h : ReprOkV a) : reprV a = some (.fz (.str a.shown)) := if_pos h
mutual
theorem lean_wideV : ∀ d : D, leanD d = true → wideV d = true
  | .none, _ => rfl
  | .bool _, _ => rfl
  | .int _, h => h
  | .str _, h => by simp [leanD] at h
  | .list ds, h => by rw [wideV]; exact lean_wideVs ds (by rw [leanD] at h; exact h)
  | .tuple ds, h => by rw [wideV]; exact lean_wideVs ds (by rw [leanD] at h; exact h)
  | .dict _, h => by simp [leanD] at h
theorem lean_wideVs : ∀ ds : List D, leanAll ds = true → wideVs ds = true
  | [], _ => rfl
  | d :: ds, h => by
    rw [leanAll, Bool.and_eq_true] at h
    rw [wideVs, lean_wideV d h.1, lean_wideVs ds h.2]; rfl
end
theorem repr_leanV {d : D} (h : leanD d = true) (hd : d.depth ≤ 60) (hb : d.bulk ≤ 3000) : ReprOkV d := ⟨lean_wideV d h, hd, (repr_lean h hd hb).2.2⟩
theorem reprV_int {x : Int} (h : x.natAbs < 2 ^ 12900) : ReprOkV (.int x) := repr_leanV (lean_int h) (by simp [PyData.depth]) (by simp [PyData.bulk])
theorem reprV_ints {ns : List Int} (h : ∀ x ∈ ns, x.natAbs < 2 ^ 12900) (hl : ns.length ≤ 1000) : ReprOkV (.tuple (ns.map PyData.int)) :=
  ⟨lean_wideV _ (by rw [leanD]; exact lean_map PyData.int fun x hx => lean_int (h x hx)), (repr_ints h hl).2⟩
/-- small data: short numbers, not too much of it -/
structure Sml (d : D) (n k : Nat) : Prop where
  wide : wideV d = true
  short : PyData.leavesShort 500 d = true
  dep : d.depth ≤ k
  blk : d.bulk ≤ n
theorem Sml.repr {d : D} {n k : Nat} (h : Sml d n k) (hk : k ≤ 60) (hn : n ≤ 30000) : ReprOkV d := by
  refine ⟨h.wide, Nat.le_trans h.dep hk, ?_⟩
  have h1 := PyData.shown_le_bulk 500 (by decide) d h.short
  have h2 := h.blk
  unfold sizeLine
  have : (500 + 2) * d.bulk ≤ (500 + 2) * 30000 := Nat.mul_le_mul_left _ (by omega)
  omega
theorem Sml.mono {d : D} {n k m j : Nat} (h : Sml d n k) (hn : n ≤ m) (hk : k ≤ j) : Sml d m j := ⟨h.wide, h.short, Nat.le_trans h.dep hk, Nat.le_trans h.blk hn⟩
theorem sml_int {x : Int} (h : x.natAbs < 10 ^ 499) (n k : Nat) : Sml (.int x) n k := by
  have h2 : x.natAbs < 2 ^ 12900 := Nat.lt_trans h (by decide +kernel)
  refine ⟨wide_int h2, ?_, by simp [PyData.depth], by simp [PyData.bulk]⟩
  rw [PyData.leavesShort]
  refine decide_eq_true ?_
  rw [PyData.shown, PySem.ofString_length]
  exact int_text_length_le10 (by decide) h
theorem sml_bool (b : Bool) (n k : Nat) : Sml (.bool b) n k := ⟨rfl, by simp [PyData.leavesShort], by simp [PyData.depth], by simp [PyData.bulk]⟩
theorem sml_none (n k : Nat) : Sml .none n k := ⟨rfl, by simp [PyData.leavesShort], by simp [PyData.depth], by simp [PyData.bulk]⟩
theorem sml_dict (n k : Nat) (hk : 1 ≤ k) : Sml (.dict []) n k := ⟨rfl, by simp [PyData.leavesShort, PyData.leavesShortKv], by simp [PyData.depth, PyData.depthKv]; omega, by simp [PyData.bulk, PyData.bulkKv]⟩
theorem sml_all {n k : Nat} : ∀ {ds : List D}, (∀ d ∈ ds, Sml d n k) → wideVs ds = true ∧ PyData.leavesShortAll 500 ds = true ∧ PyData.depthAll ds ≤ k ∧ PyData.bulkAll ds ≤ (n + 1) * ds.length
  | [], _ => ⟨rfl, by simp [PyData.leavesShortAll], by simp [PyData.depthAll], by simp [PyData.bulkAll]⟩
  | d :: ds, h => by
    obtain ⟨a, b, c, e⟩ := sml_all fun x hx => h x (List.mem_cons_of_mem _ hx)
    have q := h d (by simp)
    have q1 := q.dep
    have q2 := q.blk
    refine ⟨by rw [wideVs, q.wide, a]; rfl, by rw [PyData.leavesShortAll, q.short, b]; rfl, by rw [PyData.depthAll]; omega, ?_⟩
    rw [PyData.bulkAll, List.length_cons, Nat.mul_succ]
    omega
theorem sml_tup {ds : List D} {n k m j : Nat} (h : ∀ d ∈ ds, Sml d n k) (hm : (n + 1) * ds.length ≤ m) (hj : k + 1 ≤ j) : Sml (.tuple ds) m j := by
  obtain ⟨a, b, c, e⟩ := sml_all h
  exact ⟨by rw [wideV]; exact a, by rw [PyData.leavesShort]; exact b, by rw [PyData.depth]; omega, by rw [PyData.bulk]; omega⟩
theorem sml_lst {ds : List D} {n k m j : Nat} (h : ∀ d ∈ ds, Sml d n k) (hm : (n + 1) * ds.length ≤ m) (hj : k + 1 ≤ j) : Sml (.list ds) m j := by
  obtain ⟨a, b, c, e⟩ := sml_all h
  exact ⟨by rw [wideV]; exact a, by rw [PyData.leavesShort]; exact b, by rw [PyData.depth]; omega, by rw [PyData.bulk]; omega⟩
theorem sml_str {x : Str} {n k : Nat} (h : ∀ c ∈ x.cps.toList, c < 16 ^ 8) (hn : x.cps.size ≤ n) : Sml (.str x) n k := ⟨rfl, by rw [PyData.leavesShort, List.all_eq_true]; exact fun c hc => decide_eq_true (h c hc), by simp [PyData.depth], by rw [PyData.bulk]; exact hn⟩
@[simp] theorem isv_none_int : isiV "int" .none = some false := show kitB "NoneType" "int" = some false by decide
@[simp] theorem isv_none_bool : isiV "bool" .none = some false := show kitB "NoneType" "bool" = some false by decide
@[simp] theorem isv_none_str : isiV "str" .none = some false := show kitB "NoneType" "str" = some false by decide
@[simp] theorem isv_none_tuple : isiV "tuple" .none = some false := show kitB "NoneType" "tuple" = some false by decide
@[simp] theorem isv_none_list : isiV "list" .none = some false := show kitB "NoneType" "list" = some false by decide
@[simp] theorem isv_none_dict : isiV "dict" .none = some false := show kitB "NoneType" "dict" = some false by decide
@[simp] theorem isv_bool_int {b : Bool} : isiV "int" (.bool b) = some true := show kitB "bool" "int" = some true by decide
@[simp] theorem isv_bool_bool {b : Bool} : isiV "bool" (.bool b) = some true := show kitB "bool" "bool" = some true by decide
@[simp] theorem isv_bool_str {b : Bool} : isiV "str" (.bool b) = some false := show kitB "bool" "str" = some false by decide
@[simp] theorem isv_bool_tuple {b : Bool} : isiV "tuple" (.bool b) = some false := show kitB "bool" "tuple" = some false by decide
@[simp] theorem isv_bool_list {b : Bool} : isiV "list" (.bool b) = some false := show kitB "bool" "list" = some false by decide
@[simp] theorem isv_bool_dict {b : Bool} : isiV "dict" (.bool b) = some false := show kitB "bool" "dict" = some false by decide
@[simp] theorem isv_int_int {x : Int} : isiV "int" (.int x) = some true := show kitB "int" "int" = some true by decide
@[simp] theorem isv_int_bool {x : Int} : isiV "bool" (.int x) = some false := show kitB "int" "bool" = some false by decide
@[simp] theorem isv_int_str {x : Int} : isiV "str" (.int x) = some false := show kitB "int" "str" = some false by decide
@[simp] theorem isv_int_tuple {x : Int} : isiV "tuple" (.int x) = some false := show kitB "int" "tuple" = some false by decide
@[simp] theorem isv_int_list {x : Int} : isiV "list" (.int x) = some false := show kitB "int" "list" = some false by decide
@[simp] theorem isv_int_dict {x : Int} : isiV "dict" (.int x) = some false := show kitB "int" "dict" = some false by decide
@[simp] theorem isv_str_int {x : Str} : isiV "int" (.str x) = some false := show kitB "str" "int" = some false by decide
@[simp] theorem isv_str_bool {x : Str} : isiV "bool" (.str x) = some false := show kitB "str" "bool" = some false by decide
@[simp] theorem isv_str_str {x : Str} : isiV "str" (.str x) = some true := show kitB "str" "str" = some true by decide
@[simp] theorem isv_str_tuple {x : Str} : isiV "tuple" (.str x) = some false := show kitB "str" "tuple" = some false by decide
@[simp] theorem isv_str_list {x : Str} : isiV "list" (.str x) = some false := show kitB "str" "list" = some false by decide
@[simp] theorem isv_str_dict {x : Str} : isiV "dict" (.str x) = some false := show kitB "str" "dict" = some false by decide
@[simp] theorem isv_list_int {ds : List D} : isiV "int" (.list ds) = some false := show kitB "list" "int" = some false by decide
@[simp] theorem isv_list_bool {ds : List D} : isiV "bool" (.list ds) = some false := show kitB "list" "bool" = some false by decide
@[simp] theorem isv_list_str {ds : List D} : isiV "str" (.list ds) = some false := show kitB "list" "str" = some false by decide
@[simp] theorem isv_list_tuple {ds : List D} : isiV "tuple" (.list ds) = some false := show kitB "list" "tuple" = some false by decide
@[simp] theorem isv_list_list {ds : List D} : isiV "list" (.list ds) = some true := show kitB "list" "list" = some true by decide
@[simp] theorem isv_list_dict {ds : List D} : isiV "dict" (.list ds) = some false := show kitB "list" "dict" = some false by decide
@[simp] theorem isv_tuple_int {ds : List D} : isiV "int" (.tuple ds) = some false := show kitB "tuple" "int" = some false by decide
@[simp] theorem isv_tuple_bool {ds : List D} : isiV "bool" (.tuple ds) = some false := show kitB "tuple" "bool" = some false by decide
@[simp] theorem isv_tuple_str {ds : List D} : isiV "str" (.tuple ds) = some false := show kitB "tuple" "str" = some false by decide
@[simp] theorem isv_tuple_tuple {ds : List D} : isiV "tuple" (.tuple ds) = some true := show kitB "tuple" "tuple" = some true by decide
@[simp] theorem isv_tuple_list {ds : List D} : isiV "list" (.tuple ds) = some false := show kitB "tuple" "list" = some false by decide
@[simp] theorem isv_tuple_dict {ds : List D} : isiV "dict" (.tuple ds) = some false := show kitB "tuple" "dict" = some false by decide
@[simp] theorem isv_dict_int {kvs : List (D × D)} (h : (kvs.any fun p => noneKey p.1) = false) : isiV "int" (.dict kvs) = some false := by
  show (if (kvs.any fun p => noneKey p.1) = true then none else kitB "dict" "int") = some false
  rw [h]; decide
@[simp] theorem isv_dict_bool {kvs : List (D × D)} (h : (kvs.any fun p => noneKey p.1) = false) : isiV "bool" (.dict kvs) = some false := by
  show (if (kvs.any fun p => noneKey p.1) = true then none else kitB "dict" "bool") = some false
  rw [h]; decide
@[simp] theorem isv_dict_str {kvs : List (D × D)} (h : (kvs.any fun p => noneKey p.1) = false) : isiV "str" (.dict kvs) = some false := by
  show (if (kvs.any fun p => noneKey p.1) = true then none else kitB "dict" "str") = some false
  rw [h]; decide
@[simp] theorem isv_dict_tuple {kvs : List (D × D)} (h : (kvs.any fun p => noneKey p.1) = false) : isiV "tuple" (.dict kvs) = some false := by
  show (if (kvs.any fun p => noneKey p.1) = true then none else kitB "dict" "tuple") = some false
  rw [h]; decide
@[simp] theorem isv_dict_list {kvs : List (D × D)} (h : (kvs.any fun p => noneKey p.1) = false) : isiV "list" (.dict kvs) = some false := by
  show (if (kvs.any fun p => noneKey p.1) = true then none else kitB "dict" "list") = some false
  rw [h]; decide
@[simp] theorem isv_dict_dict {kvs : List (D × D)} (h : (kvs.any fun p => noneKey p.1) = false) : isiV "dict" (.dict kvs) = some true := by
  show (if (kvs.any fun p => noneKey p.1) = true then none else kitB "dict" "dict") = some true
  rw [h]; decide
def kIsiV (T : String) (d : D) : EF := fun s => (ofO (isiV T d) s).bind kToB
section
variable {fa : EF} {s : S} {d : D} {T : String}
@[simp] theorem k_IsiV : kIsiV T d s = (ofO (isiV T d) s).bind kToB := Eq.trans rfl rfl
@[simp] theorem ev_IsiV : eIsiV T fa s = (fa s).bind (kIsiV T) := Eq.trans rfl rfl
end
end MI

set_option linter.all false
set_option autoImplicit false
/-! Newton's numbers: choices, differences. Plain. -/
namespace NW
theorem int_ind {P : Int → Prop} (x : Int) (h0 : P 0) (hs : ∀ n : Nat, P n → P ((n : Int) + 1)) (hp : ∀ n : Nat, P (-(n : Int)) → P (-(n : Int) - 1)) : P x := by
  have h1 : ∀ n : Nat, P n := fun n => by
    induction n with
    | zero => exact h0
    | succ n ih => exact hs n ih
  have h2 : ∀ n : Nat, P (-(n : Int)) := fun n => by
    induction n with
    | zero => exact h0
    | succ n ih => have := hp n ih; rwa [show -((n : Int)) - 1 = -((n + 1 : Nat) : Int) by omega] at this
  rcases Int.le_total 0 x with h | h
  · rw [← Int.toNat_of_nonneg h]; exact h1 _
  · rw [show x = -((-x).toNat : Int) by omega]; exact h2 _
def ff (x : Int) : Nat → Int
  | 0 => 1
  | i + 1 => ff x i * (x - i)
def fac : Nat → Int
  | 0 => 1
  | n + 1 => fac n * (n + 1)
theorem fac_pos : ∀ n, 0 < fac n
  | 0 => by simp [fac]
  | n + 1 => by
    rw [fac]; exact Int.mul_pos (fac_pos n) (by omega)
theorem ff_head (x : Int) : ∀ i : Nat, ff (x + 1) (i + 1) = (x + 1) * ff x i
  | 0 => by simp [ff]
  | i + 1 => by
    rw [ff, ff_head x i, ff]
    push_cast
    grind
theorem ff_pascal (x : Int) (i : Nat) : ff (x + 1) (i + 1) = ff x (i + 1) + (i + 1) * ff x i := by
  rw [ff_head, ff]; grind
theorem ff_zero (i : Nat) : ff 0 (i + 1) = 0 := by
  induction i with
  | zero => simp [ff]
  | succ i ih => rw [ff, ih]; simp
theorem fac_dvd : ∀ (i : Nat) (x : Int), fac i ∣ ff x i
  | 0, x => by simp [fac]
  | i + 1, x => by
    have key : ∀ x : Int, fac (i + 1) ∣ ((i : Int) + 1) * ff x i := fun x => by
      rw [fac, Int.mul_comm]
      exact Int.mul_dvd_mul (Int.dvd_refl _) (fac_dvd i x)
    refine int_ind (P := fun x => fac (i + 1) ∣ ff x (i + 1)) x ?_ (fun n ih => ?_) (fun n ih => ?_)
    · show fac (i + 1) ∣ ff 0 (i + 1)
      rw [ff_zero]; exact Int.dvd_zero _
    · show fac (i + 1) ∣ ff _ (i + 1)
      rw [ff_pascal]; exact Int.dvd_add ih (key _)
    · have := ff_pascal (-(n : Int) - 1) i
      rw [Int.sub_add_cancel] at this
      have e : ff (-(n : Int) - 1) (i + 1) = ff (-(n : Int)) (i + 1) - (i + 1) * ff (-(n : Int) - 1) i := by omega
      show fac (i + 1) ∣ ff _ (i + 1)
      rw [e]
      exact Int.dvd_sub ih (key _)
def bc (x : Int) (i : Nat) : Int := ff x i / fac i
theorem bc_mul (x : Int) (i : Nat) : bc x i * fac i = ff x i := Int.ediv_mul_cancel (fac_dvd i x)
theorem bc_none (x : Int) : bc x 0 = 1 := by simp [bc, ff, fac]
theorem bc_zero (i : Nat) : bc 0 (i + 1) = 0 := by rw [bc, ff_zero]; simp
theorem bc_succ (x : Int) (i : Nat) : bc x (i + 1) * ((i : Int) + 1) = bc x i * (x - i) := by
  have h1 := bc_mul x (i + 1)
  have h2 := bc_mul x i
  rw [fac, ff, ← h2] at h1
  have h3 := fac_pos i
  have : fac i * (bc x (i + 1) * ((i : Int) + 1)) = fac i * (bc x i * (x - i)) := by grind
  exact Int.eq_of_mul_eq_mul_left (by omega) this
theorem bc_step (x : Int) (i : Nat) : bc x i * (x - i) / ((i : Int) + 1) = bc x (i + 1) := by
  rw [← bc_succ, Int.mul_ediv_cancel _ (by omega)]
theorem bc_pascal (x : Int) (i : Nat) : bc (x + 1) (i + 1) = bc x (i + 1) + bc x i := by
  have h1 := bc_mul (x + 1) (i + 1)
  have h2 := bc_mul x (i + 1)
  have h3 := bc_mul x i
  rw [ff_pascal, ← h2, ← h3] at h1
  have h4 := fac_pos (i + 1)
  rw [fac] at *
  exact Int.eq_of_mul_eq_mul_left (show fac i * ((i : Int) + 1) ≠ 0 by omega) (by grind)
theorem bc_x (x : Int) (i : Nat) : x * bc x i = i * bc x i + ((i : Int) + 1) * bc x (i + 1) := by
  have := bc_succ x i
  grind
/-- the value of a fall, its items from the choice of k on -/
def val : List Int → Nat → Int → Int
  | [], _, _ => 0
  | a :: f, k, x => a * bc x k + val f (k + 1) x
theorem val_up : ∀ (f : List Int) (k : Nat) (x : Int), val f (k + 1) (x + 1) = val f (k + 1) x + val f k x
  | [], _, _ => by simp [val]
  | a :: f, k, x => by
    rw [val, val, val, val_up f, bc_pascal]; grind
theorem val_step (f : List Int) (x : Int) : val f 0 (x + 1) - val f 0 x = val f.tail 0 x := by
  cases f with
  | nil => simp [val]
  | cons a f =>
    rw [val, val, val_up f, bc_none, bc_none, List.tail_cons]; omega
theorem val_at0 : ∀ (f : List Int) (k : Nat), val f (k + 1) 0 = 0
  | [], _ => rfl
  | a :: f, k => by rw [val, bc_zero, val_at0 f]; simp
theorem val_zero (f : List Int) : val f 0 0 = f.getD 0 0 := by
  cases f with
  | nil => rfl
  | cons a f => rw [val, bc_none, val_at0]; simp
/-- differences -/
def dl (h : Int → Int) : Int → Int := fun x => h (x + 1) - h x
def dn : Nat → (Int → Int) → Int → Int
  | 0, h => h
  | i + 1, h => dn i (dl h)
theorem dl_val (f : List Int) : dl (val f 0) = val f.tail 0 := funext fun x => val_step f x
theorem dn_val : ∀ (i : Nat) (f : List Int), dn i (val f 0) = val (f.drop i) 0
  | 0, f => rfl
  | i + 1, f => by rw [dn, dl_val, dn_val i, List.drop_tail]
theorem dn_val0 (i : Nat) (f : List Int) : dn i (val f 0) 0 = f.getD i 0 := by
  rw [dn_val, val_zero]; simp [List.getD_eq_getElem?_getD]
theorem const_of {G : Int → Int} (h : ∀ x, G (x + 1) = G x) (x : Int) : G x = G 0 := by
  refine int_ind (P := fun x => G x = G 0) x rfl (fun n ih => ?_) (fun n ih => ?_)
  · show G _ = _
    rw [h]; exact ih
  · show G _ = _
    rw [← ih, ← h, Int.sub_add_cancel]
/-- moved on by s -/
def sh : List Int → Int → List Int
  | [], _ => []
  | a :: f, s => val (a :: f) 0 s :: sh f s
theorem val_sh : ∀ (f : List Int) (s x : Int), val (sh f s) 0 x = val f 0 (x + s)
  | [], _, _ => rfl
  | a :: f, s, x => by
    have := const_of (G := fun x => val (sh (a :: f) s) 0 x - val (a :: f) 0 (x + s)) (fun x => by
      have h1 := val_step (sh (a :: f) s) x
      have h2 := val_step (a :: f) (x + s)
      have h3 := val_sh f s x
      rw [sh] at *
      rw [List.tail_cons] at h1 h2
      have h4 : x + 1 + s = x + s + 1 := by omega
      simp only [h4]
      omega) x
    simp only [Int.zero_add] at this
    rw [val_zero (sh (a :: f) s)] at this
    simp only [sh, List.getD_cons_zero] at this ⊢
    omega
theorem sh_sh : ∀ (f : List Int) (s o : Int), sh (sh f s) o = sh f (s + o)
  | [], _, _ => rfl
  | a :: f, s, o => by
    have := val_sh (a :: f) s o
    rw [sh] at this
    rw [sh, sh, sh, sh_sh f, this, Int.add_comm o s]
theorem sh_zero : ∀ f : List Int, sh f 0 = f
  | [] => rfl
  | a :: f => by rw [sh, sh_zero f, val_zero]; rfl
theorem sh_back (f : List Int) (s : Int) : sh (sh f s) (-s) = f := by rw [sh_sh, Int.add_right_neg, sh_zero]
theorem sh_length : ∀ (f : List Int) (s : Int), (sh f s).length = f.length
  | [], _ => rfl
  | a :: f, s => by rw [sh, List.length_cons, sh_length f, List.length_cons]
theorem sh_last : ∀ (f : List Int) (s : Int) (h : f ≠ []) (h' : sh f s ≠ []), (sh f s).getLast h' = f.getLast h
  | [a], s, _, _ => by simp [sh, val, bc_none]
  | a :: b :: f, s, _, _ => by
    have h : sh (a :: b :: f) s = val (a :: b :: f) 0 s :: sh (b :: f) s := rfl
    simp only [h]
    rw [List.getLast_cons (by simp [sh]), List.getLast_cons (by simp)]
    exact sh_last (b :: f) s (by simp) (by simp [sh])
theorem sh_map : ∀ (f : List Int) (s : Int), sh f s = (List.range f.length).map fun i => val (f.drop i) 0 s
  | [], _ => rfl
  | a :: f, s => by
    rw [sh, sh_map f, List.length_cons, List.range_succ_eq_map]; simp
/-- sums -/
def sums (h : Int → Int) : Nat → Int
  | 0 => 0
  | n + 1 => sums h n + h n
theorem sums_val (f : List Int) : ∀ n : Nat, sums (val f 0) n = val (0 :: f) 0 n
  | 0 => by rw [sums, Int.natCast_zero, val_zero]; rfl
  | n + 1 => by
    have := val_step (0 :: f) n
    rw [List.tail_cons] at this
    rw [sums, sums_val f n]; push_cast; omega
/-- leading -/
theorem dl_mul (f g : Int → Int) : dl (fun x => f x * g x) = fun x => f (x + 1) * dl g x + dl f x * g x := funext fun x => by
  unfold dl; grind
theorem dn_add : ∀ (n : Nat) (f g : Int → Int), dn n (fun x => f x + g x) = fun x => dn n f x + dn n g x
  | 0, _, _ => rfl
  | n + 1, f, g => by
    have : dl (fun x => f x + g x) = fun x => dl f x + dl g x := funext fun x => by show f _ + g _ - (f _ + g _) = f _ - f _ + (g _ - g _); omega
    rw [dn, this, dn_add n]; rfl
theorem dn_shift : ∀ (n : Nat) (f : Int → Int), dn n (fun x => f (x + 1)) = fun x => dn n f (x + 1)
  | 0, _ => rfl
  | n + 1, f => by
    have : dl (fun x => f (x + 1)) = fun x => dl f (x + 1) := rfl
    rw [dn, this, dn_shift n]; rfl
def Lead (n : Nat) (c : Int) (h : Int → Int) : Prop := ∀ x, dn n h x = c
theorem Lead.next {n : Nat} {c : Int} {h : Int → Int} (k : Lead n c h) : dn (n + 1) h = fun _ => 0 := by
  have : ∀ (n : Nat) (h : Int → Int), dn (n + 1) h = dl (dn n h) := fun n => by
    induction n with
    | zero => intro h; rfl
    | succ n ih => intro h; rw [dn, ih, ← dn]
  rw [this]
  exact funext fun x => by unfold dl; rw [k, k]; omega
def two : Nat → Nat → Int
  | 0, _ => 1
  | _ + 1, 0 => 1
  | a + 1, b + 1 => two (a + 1) b + two a (b + 1)
theorem two_pos : ∀ a b : Nat, 0 < two a b
  | 0, _ => by simp [two]
  | _ + 1, 0 => by simp [two]
  | a + 1, b + 1 => by
    have := two_pos (a + 1) b
    have := two_pos a (b + 1)
    rw [two]; omega
theorem dn_cmul : ∀ (n : Nat) (c : Int) (f : Int → Int), dn n (fun x => c * f x) = fun x => c * dn n f x
  | 0, _, _ => rfl
  | n + 1, c, f => by
    have : dl (fun x => c * f x) = fun x => c * dl f x := funext fun x => by unfold dl; grind
    rw [dn, this, dn_cmul n]; rfl
theorem lead_mul : ∀ (a b : Nat) (cf cg : Int) (f g : Int → Int), Lead a cf f → Lead b cg g → Lead (a + b) (two a b * (cf * cg)) (fun x => f x * g x)
  | 0, b, cf, cg, f, g, hf, hg => fun x => by
    have e : (fun x => f x * g x) = fun x => cf * g x := funext fun x => by rw [show f x = cf from hf x]
    rw [Nat.zero_add, e, dn_cmul]
    show cf * dn b g x = _
    rw [hg, two]; simp
  | a + 1, 0, cf, cg, f, g, hf, hg => fun x => by
    have e : (fun x => f x * g x) = fun x => cg * f x := funext fun x => by rw [show g x = cg from hg x, Int.mul_comm]
    rw [Nat.add_zero, e, dn_cmul]
    show cg * dn (a + 1) f x = _
    rw [hf, two]; grind
  | a + 1, b + 1, cf, cg, f, g, hf, hg => fun x => by
    have hg' : Lead b cg (dl g) := hg
    have hf' : Lead a cf (dl f) := hf
    have hs : Lead (a + 1) cf (fun x => f (x + 1)) := fun x => by rw [dn_shift]; exact hf _
    have h1 := lead_mul (a + 1) b cf cg (fun x => f (x + 1)) (dl g) hs hg' x
    have h2 := lead_mul a (b + 1) cf cg (dl f) g hf' hg x
    have e : a + 1 + (b + 1) = (a + 1 + b) + 1 := by omega
    rw [e, dn, dl_mul, dn_add]
    show dn (a + 1 + b) _ x + dn (a + 1 + b) _ x = _
    rw [h1]
    have e2 : a + 1 + b = a + (b + 1) := by omega
    rw [e2, h2, two]
    grind
theorem lead_val {f : List Int} (h : f ≠ []) : Lead (f.length - 1) (f.getLast h) (val f 0) := fun x => by
  have e : f.drop (f.length - 1) = [f.getLast h] := by
    have h2 := List.dropLast_concat_getLast h
    have : f.drop (f.dropLast.length) = [f.getLast h] := by
      conv => lhs; arg 2; rw [← h2]
      rw [List.drop_left]
    rwa [List.length_dropLast] at this
  rw [dn_val, e]
  simp [val, bc_none]
/-- powers -/
theorem dn_xmul (h : Int → Int) : ∀ (i : Nat) (x : Int), dn i (fun x => x * h x) x = x * dn i h x + i * dn (i - 1) h (x + 1) := by
  intro i
  induction i generalizing h with
  | zero => intro x; simp [dn]
  | succ i ih =>
    intro x
    have e : dl (fun x => x * h x) = fun x => x * dl h x + h (x + 1) := funext fun x => by unfold dl; grind
    rw [dn, e, dn_add]
    show dn i _ x + dn i _ x = _
    rw [ih, dn_shift, Nat.add_sub_cancel]
    cases i with
    | zero => simp [dn]
    | succ i => rw [Nat.add_sub_cancel]; push_cast; rw [show dn i (dl h) = dn (i + 1) h from rfl, show dn (i+1) (dl h) = dn (i + 2) h from rfl]; grind
/-- rows of values -/
def row (h : Int → Int) (s : Int) (n : Nat) : List Int := (List.range n).map fun i : Nat => h (s + (i : Int))
theorem row_length (h : Int → Int) (s : Int) (n : Nat) : (row h s n).length = n := by simp [row]
theorem row_get {h : Int → Int} {s : Int} {n i : Nat} (k : i < n) : (row h s n)[i]? = some (h (s + (i : Int))) := by
  simp [row, k]
def diffs (h : Int → Int) (s : Int) (n : Nat) : List Int := (List.range n).map fun i => dn i h s
theorem diffs_succ (h : Int → Int) (s : Int) (n : Nat) : diffs h s (n + 1) = diffs h s n ++ [dn n h s] := by
  simp [diffs, List.range_succ]
theorem dn_succ' : ∀ (n : Nat) (h : Int → Int), dn (n + 1) h = dl (dn n h)
  | 0, _ => rfl
  | n + 1, h => by rw [dn, dn_succ' n, ← dn]
theorem range_get {n : Nat} (f : List Int) (h : f.length ≤ n) : (List.range n).map (fun i => f.getD i 0) = f ++ List.replicate (n - f.length) 0 := by
  apply List.ext_getElem?
  intro i
  rw [List.getElem?_map]
  by_cases k : i < n
  · rw [List.getElem?_range k]
    by_cases k2 : i < f.length
    · rw [List.getElem?_append_left k2]; simp [List.getD_eq_getElem?_getD, k2]
    · rw [List.getElem?_append_right (by omega), List.getElem?_replicate, if_pos (by omega)]
      simp [List.getD_eq_getElem?_getD, List.getElem?_eq_none (show f.length ≤ i by omega)]
  · rw [List.getElem?_eq_none (by simp; omega), List.getElem?_eq_none (by simp; omega)]; rfl
theorem diffs_val (f : List Int) (n : Nat) (h : f.length ≤ n) : diffs (val f 0) 0 n = f ++ List.replicate (n - f.length) 0 := by
  rw [← range_get f h, diffs]
  exact List.map_congr_left fun i _ => dn_val0 i f
theorem diffs_sh (f : List Int) (s : Int) : diffs (val f 0) s f.length = sh f s := by
  rw [sh_map, diffs]
  exact List.map_congr_left fun i _ => by rw [dn_val]
/-- nothing at the end but 0 is cut -/
def trim : List Int → List Int
  | [] => []
  | a :: f => if a = 0 ∧ trim f = [] then [] else a :: trim f
theorem trim_zeros : ∀ n : Nat, trim (List.replicate n 0) = []
  | 0 => rfl
  | n + 1 => by rw [List.replicate_succ, trim, trim_zeros n]; simp
theorem trim_app : ∀ (f : List Int) (n : Nat), trim (f ++ List.replicate n 0) = trim f
  | [], n => by rw [List.nil_append, trim_zeros]; rfl
  | a :: f, n => by rw [List.cons_append, trim, trim, trim_app f n]
def Fit (f : List Int) : Prop := ∀ h : f ≠ [], f.getLast h ≠ 0
theorem trim_fit : ∀ {f : List Int}, Fit f → trim f = f
  | [], _ => rfl
  | [a], h => by
    have : a ≠ 0 := h (by simp)
    simp [trim, this]
  | a :: b :: f, h => by
    have : Fit (b :: f) := fun _ => by
      have := h (by simp)
      rwa [List.getLast_cons (by simp)] at this
    rw [trim, trim_fit this]
    simp
theorem fit_trim : ∀ f : List Int, Fit (trim f)
  | [] => fun h => (h rfl).elim
  | a :: f => by
    rw [trim]
    split
    · exact fun h => (h rfl).elim
    · rename_i k
      intro h
      by_cases e : trim f = []
      · have : ∀ (g : List Int) (h : a :: g ≠ []), g = [] → (a :: g).getLast h ≠ 0 := fun g h e => by
          subst e
          simp [*] at k ⊢
          exact k
        exact this _ h e
      · rw [List.getLast_cons e]
        exact fit_trim f e
theorem trim_take : ∀ f : List Int, trim f = f.take (trim f).length
  | [] => rfl
  | a :: f => by
    rw [trim]
    split
    · rfl
    · rw [List.length_cons, List.take_succ_cons, ← trim_take f]
theorem trim_rest : ∀ (f : List Int) (i : Nat), (trim f).length ≤ i → f.getD i 0 = 0
  | [], i, _ => rfl
  | a :: f, i, h => by
    rw [trim] at h
    split at h
    · rename_i k
      cases i with
      | zero => exact k.1
      | succ i => rw [List.getD_cons_succ]; exact trim_rest f i (by rw [k.2]; simp)
    · cases i with
      | zero => simp at h
      | succ i => rw [List.getD_cons_succ]; exact trim_rest f i (by simpa using h)
theorem sh_fit {f : List Int} (s : Int) (h : Fit f) : Fit (sh f s) := fun k => by
  cases f with
  | nil => exact (k rfl).elim
  | cons a f =>
    rw [sh_last (a :: f) s (by simp)]
    exact h _
/-- onto numbers -/
def onto : Nat → Nat → Int
  | 0, 0 => 1
  | 0, _ + 1 => 0
  | k + 1, i => i * (onto k i + (if i > 0 then onto k (i - 1) else 0))
theorem onto_big : ∀ {k i : Nat}, k < i → onto k i = 0
  | 0, _ + 1, _ => rfl
  | k + 1, i, h => by
    rw [onto, onto_big (show k < i by omega), if_pos (by omega), onto_big (show k < i - 1 by omega)]; simp
theorem onto_top : ∀ k : Nat, 0 < onto k k
  | 0 => by decide
  | k + 1 => by
    rw [onto, onto_big (show k < k + 1 by omega), if_pos (by omega), Nat.add_sub_cancel]
    have := onto_top k
    exact Int.mul_pos (by omega) (by omega)
theorem dn_pow : ∀ (k i : Nat), dn i (fun x => x ^ k) 0 = onto k i
  | 0, 0 => by simp [dn, onto]
  | 0, i + 1 => by
    have e : dl (fun x : Int => x ^ 0) = fun _ => 0 := funext fun x => by simp [dl]
    have z : ∀ j : Nat, dn j (fun _ => (0 : Int)) 0 = 0 := fun j => by
      induction j with
      | zero => rfl
      | succ j ih => rw [dn]; exact ih
    rw [dn, e, z]; rfl
  | k + 1, i => by
    have e : (fun x : Int => x ^ (k + 1)) = fun x => x * x ^ k := funext fun x => by rw [Int.pow_succ, Int.mul_comm]
    rw [e, dn_xmul]
    cases i with
    | zero => simp [onto]
    | succ i =>
      have h1 := dn_pow k i
      have h2 := dn_pow k (i + 1)
      rw [dn_succ'] at h2
      rw [onto, if_pos (by omega), Nat.add_sub_cancel, ← dn_pow k i, ← dn_pow k (i + 1), dn_succ']
      unfold dl
      grind
theorem diffs_pow (k : Nat) : diffs (fun x => x ^ k) 0 (k + 1) = (List.range (k + 1)).map (onto k) := List.map_congr_left fun i _ => dn_pow k i
theorem fit_range {g : Nat → Int} {k : Nat} (h : g k ≠ 0) : Fit ((List.range (k + 1)).map g) := fun _ => by
  simp [List.range_succ]; exact h
/-- the value of the onto numbers at any number is its power -/
theorem val_range : ∀ (n : Nat) (g : Nat → Int) (k : Nat) (x : Int), val ((List.range n).map g) k x = (List.range n).foldr (fun i acc => g i * bc x (k + i) + acc) 0
  | 0, _, _, _ => rfl
  | n + 1, g, k, x => by
    rw [List.range_succ_eq_map, List.map_cons, val, List.map_map, val_range n]
    simp only [List.foldr_cons, List.foldr_map, Nat.add_zero, Function.comp]
    have : ∀ i : Nat, k + 1 + i = k + (i + 1) := fun i => by omega
    simp only [this, Nat.succ_eq_add_one]
theorem val_pow (k : Nat) (x : Int) : val ((List.range (k + 1)).map (onto k)) 0 x = x ^ k := by
  have key : ∀ (n : Nat) (k : Nat), val ((List.range (n + 1)).map (onto (k + 1))) 0 x = x * val ((List.range n).map (onto k)) 0 x + (n : Int) * onto k n * bc x n := by
    intro n k
    induction n with
    | zero => simp [val, onto, bc_none]
    | succ n ih =>
      have ap : ∀ (L : List Int) (a : Int) (j : Nat), val (L ++ [a]) j x = val L j x + a * bc x (j + L.length) := fun L a => by
        induction L with
        | nil => intro j; simp [val]
        | cons b L ihL => intro j; rw [List.cons_append, val, val, ihL, List.length_cons, show j + 1 + L.length = j + (L.length + 1) by omega]; omega
      have e1 : ∀ (g : Nat → Int) (m : Nat), val ((List.range (m + 1)).map g) 0 x = val ((List.range m).map g) 0 x + g m * bc x m := fun g m => by
        rw [List.range_succ, List.map_append, List.map_cons, List.map_nil, ap]; simp
      rw [e1, ih, e1]
      have := bc_x x n
      rw [onto, if_pos (by omega), Nat.add_sub_cancel]
      push_cast
      grind
  induction k with
  | zero => simp [val, onto, bc_none]
  | succ k ih =>
    rw [key, ih, onto_big (show k < k + 1 by omega), Int.pow_succ]
    grind
end NW

set_option linter.all false
set_option autoImplicit false
/-! Newton's numbers: bounds, sums told in other ways. Plain. -/
namespace NW
theorem ff_bd {x : Int} {B : Nat} (h : x.natAbs ≤ B) : ∀ {i : Nat}, i ≤ B + 1 → (ff x i).natAbs ≤ (2 * B) ^ i
  | 0, _ => by simp [ff]
  | i + 1, hi => by
    rw [ff, Int.natAbs_mul, Nat.pow_succ]
    exact Nat.mul_le_mul (ff_bd h (by omega)) (by omega)
theorem bc_le (x : Int) (i : Nat) : (bc x i).natAbs ≤ (ff x i).natAbs := by
  rw [← bc_mul x i, Int.natAbs_mul]
  have := fac_pos i
  exact Nat.le_mul_of_pos_right _ (by omega)
theorem bc_bd {x : Int} {k i : Nat} (h : x.natAbs < 2 ^ k) (hi : i ≤ 2 ^ k) : (bc x i).natAbs ≤ 2 ^ ((k + 1) * i) := by
  have h1 := Nat.le_trans (bc_le x i) (ff_bd (Nat.le_of_lt h) (Nat.le_succ_of_le hi))
  rwa [Nat.mul_comm 2, ← Nat.pow_succ, ← Nat.pow_mul] at h1
theorem val_bd {m k L : Nat} {x : Int} (hx : x.natAbs < 2 ^ k) (hL2 : L ≤ 2 ^ k) : ∀ {f : List Int} {j : Nat}, (∀ a ∈ f, a.natAbs < 2 ^ m) → j + f.length ≤ L → (val f j x).natAbs ≤ f.length * 2 ^ (m + (k + 1) * L)
  | [], _, _, _ => by simp [val]
  | a :: f, j, hf, hL => by
    rw [List.length_cons] at hL
    have h1 := val_bd hx hL2 (f := f) (j := j + 1) (fun b hb => hf b (by simp [hb])) (by omega)
    have h2 := hf a (by simp)
    have h3 := bc_bd hx (show j ≤ 2 ^ k by omega)
    have h4 : 2 ^ ((k + 1) * j) ≤ 2 ^ ((k + 1) * L) := Nat.pow_le_pow_right (by decide) (Nat.mul_le_mul_left _ (by omega))
    have h5 : (a * bc x j).natAbs ≤ 2 ^ (m + (k + 1) * L) := by
      rw [Int.natAbs_mul, Nat.pow_add]
      exact Nat.mul_le_mul (Nat.le_of_lt h2) (Nat.le_trans h3 h4)
    rw [val, List.length_cons, Nat.add_mul, Nat.one_mul]
    have := Int.natAbs_add_le (a * bc x j) (val f (j + 1) x)
    omega
theorem val_lt {m k L p : Nat} {x : Int} {f : List Int} {j : Nat} (hx : x.natAbs < 2 ^ k) (hL2 : L ≤ 2 ^ k) (hf : ∀ a ∈ f, a.natAbs < 2 ^ m) (hL : j + f.length ≤ L) (hp : f.length < 2 ^ p) : (val f j x).natAbs < 2 ^ (p + (m + (k + 1) * L)) := by
  have h1 := val_bd hx hL2 hf hL
  have h2 : f.length * 2 ^ (m + (k + 1) * L) < 2 ^ p * 2 ^ (m + (k + 1) * L) := (Nat.mul_lt_mul_right (Nat.pow_pos (by decide))).mpr hp
  rw [← Nat.pow_add] at h2
  omega
theorem dn_bd {B : Nat} : ∀ (i : Nat) (h : Int → Int) (s : Int), (∀ y, s ≤ y → y ≤ s + i → (h y).natAbs ≤ B) → (dn i h s).natAbs ≤ 2 ^ i * B
  | 0, h, s, k => by simpa [dn] using k s (Int.le_refl _) (by omega)
  | i + 1, h, s, k => by
    rw [dn_succ']
    unfold dl
    have h1 := dn_bd i h s fun y a b => k y a (by omega)
    have h2 := dn_bd i h (s + 1) fun y a b => k y (by omega) (by omega)
    rw [Nat.pow_succ]
    have := Int.natAbs_sub_le (dn i h (s + 1)) (dn i h s)
    grind
theorem onto_bd (M : Nat) : ∀ (k i : Nat), i ≤ M → (onto k i).natAbs ≤ (2 * M) ^ k
  | 0, 0, _ => by simp [onto]
  | 0, _ + 1, _ => by simp [onto]
  | k + 1, i, h => by
    have h1 := onto_bd M k i h
    have h2 : ((if i > 0 then onto k (i - 1) else 0) : Int).natAbs ≤ (2 * M) ^ k := by
      split
      · exact onto_bd M k (i - 1) (by omega)
      · simp
    rw [onto, Int.natAbs_mul, Nat.pow_succ, Nat.mul_comm]
    have h3 := Int.natAbs_add_le (onto k i) (if i > 0 then onto k (i - 1) else 0)
    have h4 : (onto k i + if i > 0 then onto k (i - 1) else 0).natAbs * (i : Int).natAbs ≤ (2 * (2 * M) ^ k) * M := Nat.mul_le_mul (by omega) (by simpa using h)
    grind
/-- rows of choices -/
def rowC (x : Int) (m : Nat) : List Int := (List.range m).map fun i => bc x i
theorem rowC_length (x : Int) (m : Nat) : (rowC x m).length = m := by simp [rowC]
theorem rowC_succ (x : Int) (m : Nat) : rowC x (m + 1) = rowC x m ++ [bc x m] := by simp [rowC, List.range_succ]
theorem rowC_get {x : Int} {m i : Nat} (h : i < m) : (rowC x m)[i]? = some (bc x i) := by simp [rowC, h]
def dot (xs ys : List Int) : Int := ((xs.zip ys).map fun p => p.1 * p.2).sum
theorem dot_from : ∀ (f : List Int) (k m : Nat) (x : Int), f.length ≤ m → dot f ((List.range m).map fun i => bc x (k + i)) = val f k x
  | [], _, _, _, _ => by simp [dot, val]
  | a :: f, k, 0, _, h => by simp at h
  | a :: f, k, m + 1, x, h => by
    have := dot_from f (k + 1) m x (by simpa using h)
    unfold dot at this ⊢
    rw [List.range_succ_eq_map, List.map_cons, List.zip_cons_cons, List.map_cons, List.sum_cons, val, ← this, List.map_map]
    simp only [Nat.add_zero, Function.comp_def, Nat.succ_eq_add_one]
    congr 6
    funext i
    congr 1
    omega
theorem dot_rowC {f : List Int} {m : Nat} {x : Int} (h : f.length ≤ m) : dot f (rowC x m) = val f 0 x := by
  have := dot_from f 0 m x h
  simpa [rowC] using this
theorem val_sum : ∀ (f : List Int) (k : Nat) (x : Int), val f k x = ((List.range f.length).map fun t => f.getD t 0 * bc x (k + t)).sum
  | [], _, _ => rfl
  | a :: f, k, x => by
    rw [val, val_sum f, List.length_cons, List.range_succ_eq_map, List.map_cons, List.sum_cons, List.map_map]
    simp only [Nat.add_zero, List.getD_cons_zero, Function.comp_def, Nat.succ_eq_add_one, List.getD_cons_succ]
    congr 3
    funext i
    congr 2
    omega
theorem val_drop (f : List Int) (i : Nat) (x : Int) : val (f.drop i) 0 x = ((List.range (f.length - i)).map fun t => f.getD (i + t) 0 * bc x t).sum := by
  rw [val_sum, List.length_drop]
  congr 2
  funext t
  rw [Nat.zero_add, List.getD_eq_getElem?_getD, List.getElem?_drop, List.getD_eq_getElem?_getD]
/-- the value, item by item from the left -/
theorem val_app : ∀ (L : List Int) (a : Int) (j : Nat) (x : Int), val (L ++ [a]) j x = val L j x + a * bc x (j + L.length)
  | [], a, j, x => by simp [val]
  | b :: L, a, j, x => by
    rw [List.cons_append, val, val, val_app L, List.length_cons, show j + 1 + L.length = j + (L.length + 1) by omega]; omega
theorem row_succ (h : Int → Int) (s : Int) (n : Nat) : row h s (n + 1) = row h s n ++ [h (s + (n : Int))] := by simp [row, List.range_succ]
theorem trim_snoc (L : List Int) : trim (L ++ [0]) = trim L := trim_app L 1
theorem trim_le (L : List Int) : (trim L).length ≤ L.length := by
  have := congrArg List.length (trim_take L)
  rw [List.length_take] at this
  omega
theorem trim_mem {L : List Int} {x : Int} (h : x ∈ trim L) : x ∈ L := by
  rw [trim_take L] at h
  exact List.mem_of_mem_take h
end NW

set_option linter.all false
set_option autoImplicit false
/-! Newton's numbers: powers, fractions. Plain. -/
namespace NW
theorem snoc_ind {P : List Int → Prop} (h0 : P []) (hs : ∀ r a, P r → P (r ++ [a])) (l : List Int) : P l := by
  have key : ∀ m : List Int, P m.reverse := fun m => by
    induction m with
    | nil => exact h0
    | cons a r ih => rw [List.reverse_cons]; exact hs _ _ ih
  rw [← List.reverse_reverse l]
  exact key _
theorem sum_app (l : List Int) (a : Int) : (l ++ [a]).sum = l.sum + a := by simp
/-- the value of powers -/
def ev : List Int → Int → Int
  | [], _ => 0
  | a :: r, x => a + x * ev r x
theorem ev_app : ∀ (r : List Int) (a x : Int), ev (r ++ [a]) x = ev r x + a * x ^ r.length
  | [], a, x => by simp [ev]
  | b :: r, a, x => by
    rw [List.cons_append, ev, ev, ev_app r, List.length_cons, Int.pow_succ]
    grind
theorem ev_sum (r : List Int) (x : Int) : ev r x = ((List.range r.length).map fun k => r.getD k 0 * x ^ k).sum := by
  refine snoc_ind (P := fun r => ev r x = ((List.range r.length).map fun k => r.getD k 0 * x ^ k).sum) rfl (fun r a ih => ?_) r
  · rw [ev_app, ih, List.length_append, List.length_singleton, List.range_succ, List.map_append, List.map_singleton, sum_app]
    congr 1
    · congr 1
      apply List.map_congr_left
      intro k hk
      have := List.mem_range.mp hk
      simp [List.getD_eq_getElem?_getD, List.getElem?_append_left this]
    · simp [List.getD_eq_getElem?_getD]
theorem ev_rev (r : List Int) (x : Int) : r.reverse.foldl (fun w t => w * x + t) 0 = ev r x := by
  rw [List.foldl_reverse]
  induction r with
  | nil => rfl
  | cons a r ih => rw [List.foldr_cons, ih, ev]; grind
theorem ev_mul (c : Int) : ∀ (r : List Int) (x : Int), ev (r.map fun t => c * t) x = c * ev r x
  | [], x => by simp [ev]
  | a :: r, x => by rw [List.map_cons, ev, ev, ev_mul c r]; grind
/-- the falls of powers -/
def fc (ts : List Int) (i : Nat) : Int := ((List.range ts.length).map fun k => ts.getD k 0 * onto k i).sum
theorem fc_app (ts : List Int) (a : Int) (i : Nat) : fc (ts ++ [a]) i = fc ts i + a * onto ts.length i := by
  unfold fc
  rw [List.length_append, List.length_singleton, List.range_succ, List.map_append, List.map_singleton, sum_app]
  congr 1
  · congr 1
    apply List.map_congr_left
    intro k hk
    have := List.mem_range.mp hk
    simp [List.getD_eq_getElem?_getD, List.getElem?_append_left this]
  · simp [List.getD_eq_getElem?_getD]
theorem fc_mul (c : Int) (ts : List Int) (i : Nat) : fc (ts.map fun t => c * t) i = c * fc ts i := by
  refine snoc_ind (P := fun ts => fc (ts.map fun t => c * t) i = c * fc ts i) (by simp [fc]) (fun r a ih => ?_) ts
  · rw [List.map_append, List.map_singleton, fc_app, ih, fc_app, List.length_map]; grind
theorem fc_big (ts : List Int) {i : Nat} (h : ts.length ≤ i) : fc ts i = 0 := by
  revert h
  refine snoc_ind (P := fun ts => ts.length ≤ i → fc ts i = 0) (fun _ => rfl) (fun r a ih h => ?_) ts
  · rw [List.length_append, List.length_singleton] at h
    rw [fc_app, ih (by omega), onto_big (by omega)]; simp
theorem val_lin (c : Int) (g h : Nat → Int) (x : Int) : ∀ n : Nat, val ((List.range n).map fun i => g i + c * h i) 0 x = val ((List.range n).map g) 0 x + c * val ((List.range n).map h) 0 x
  | 0 => by simp [val]
  | n + 1 => by
    simp only [List.range_succ, List.map_append, List.map_singleton, val_app, val_lin c g h x n, List.length_map, List.length_range]
    grind
theorem val_fc (ts : List Int) (x : Int) : val ((List.range ts.length).map (fc ts)) 0 x = ev ts x := by
  refine snoc_ind (P := fun ts => val ((List.range ts.length).map (fc ts)) 0 x = ev ts x) rfl (fun r a ih => ?_) ts
  · have e : (fun i => fc (r ++ [a]) i) = fun i => fc r i + a * onto r.length i := funext fun i => fc_app r a i
    rw [List.length_append, List.length_singleton, show fc (r ++ [a]) = fun i => fc (r ++ [a]) i from rfl, e, val_lin, val_pow, ev_app, ← ih]
    rw [List.range_succ, List.map_append, List.map_singleton, val_app, fc_big r (Nat.le_refl _)]
    simp
theorem dn_ev (ts : List Int) {i : Nat} (h : i < ts.length) : dn i (ev ts) 0 = fc ts i := by
  have e : ev ts = val ((List.range ts.length).map (fc ts)) 0 := funext fun x => (val_fc ts x).symm
  rw [e, dn_val0]
  simp [List.getD_eq_getElem?_getD, h]
/-- whole values, whole falls -/
theorem dn_dvd {L : Int} : ∀ (i : Nat) (h : Int → Int) (s : Int), (∀ y, s ≤ y → y ≤ s + i → L ∣ h y) → L ∣ dn i h s
  | 0, h, s, k => k s (Int.le_refl _) (by omega)
  | i + 1, h, s, k => by
    rw [dn_succ']
    unfold dl
    exact Int.dvd_sub (dn_dvd i h (s + 1) fun y a b => k y (by omega) (by omega)) (dn_dvd i h s fun y a b => k y a (by omega))
theorem val_dvd {L : Int} : ∀ (f : List Int) (k : Nat) (x : Int), (∀ a ∈ f, L ∣ a) → L ∣ val f k x
  | [], _, _, _ => Int.dvd_zero _
  | a :: f, k, x, h => by
    rw [val]
    exact Int.dvd_add (Int.dvd_trans (h a (by simp)) (Int.dvd_mul_right _ _)) (val_dvd f (k + 1) x fun b hb => h b (by simp [hb]))
theorem whole_iff (ts : List Int) (L : Int) : (∀ i, i < ts.length → L ∣ fc ts i) ↔ ∀ x : Nat, x < ts.length → L ∣ ev ts x := by
  constructor
  · intro h x _
    rw [← val_fc]
    exact val_dvd _ _ _ fun a ha => by
      obtain ⟨i, hi, rfl⟩ := List.mem_map.mp ha
      exact h i (List.mem_range.mp hi)
  · intro h i hi
    rw [← dn_ev ts hi]
    exact dn_dvd i _ _ fun y a b => by
      have := h y.toNat (by omega)
      rwa [Int.toNat_of_nonneg (by omega)] at this
/-- lowest terms -/
def red (f : Int) (W : Nat) : Int × Nat := (f / ((Nat.gcd f.natAbs W : Nat) : Int), W / Nat.gcd f.natAbs W)
theorem gcd_pos (f : Int) {W : Nat} (h : 0 < W) : 0 < Nat.gcd f.natAbs W := Nat.gcd_pos_of_pos_right _ h
theorem red_top (f : Int) (W : Nat) (h : 0 < W) : (red f W).1 * (Nat.gcd f.natAbs W : Nat) = f := by
  unfold red
  exact Int.ediv_mul_cancel (Int.natAbs_dvd_natAbs.mp (by rw [Int.natAbs_natCast]; exact Nat.gcd_dvd_left _ _))
theorem red_low (f : Int) (W : Nat) (h : 0 < W) : (red f W).2 * Nat.gcd f.natAbs W = W := Nat.div_mul_cancel (Nat.gcd_dvd_right _ _)
theorem red_pos (f : Int) {W : Nat} (h : 0 < W) : 0 < (red f W).2 := by
  have := red_low f W h
  rcases Nat.eq_zero_or_pos (red f W).2 with z | z
  · rw [z] at this; omega
  · exact z
theorem red_dvd (f : Int) {W : Nat} (h : 0 < W) : (red f W).2 ∣ W := ⟨_, (red_low f W h).symm⟩
theorem red_eq (f : Int) {W : Nat} (h : 0 < W) : (red f W).1 * W = f * (red f W).2 := by
  have h1 := red_top f W h
  have h2 : (((red f W).2 : Nat) : Int) * ((Nat.gcd f.natAbs W : Nat) : Int) = (W : Int) := by
    rw [← Int.natCast_mul, red_low f W h]
  rw [← h2]
  conv => rhs; rw [← h1]
  grind
theorem red_cop (f : Int) {W : Nat} (h : 0 < W) : Nat.gcd (red f W).1.natAbs (red f W).2 = 1 := by
  have hg := gcd_pos f h
  have h1 : (red f W).1.natAbs = f.natAbs / Nat.gcd f.natAbs W := by
    have := congrArg Int.natAbs (red_top f W h)
    rw [Int.natAbs_mul, Int.natAbs_natCast] at this
    exact (Nat.div_eq_of_eq_mul_left hg this.symm).symm
  rw [h1]
  show Nat.gcd _ (W / _) = 1
  rw [Nat.gcd_div (Nat.gcd_dvd_left _ _) (Nat.gcd_dvd_right _ _), Nat.div_self hg]
theorem red_scale (f : Int) {W c : Nat} (hc : 0 < c) : red ((c : Int) * f) (c * W) = red f W := by
  unfold red
  have e : Nat.gcd ((c : Int) * f).natAbs (c * W) = c * Nat.gcd f.natAbs W := by
    rw [Int.natAbs_mul, Int.natAbs_natCast, Nat.gcd_mul_left]
  rw [e, Int.natCast_mul, Int.mul_ediv_mul_of_pos _ _ (by omega), Nat.mul_div_mul_left _ _ hc]
theorem red_whole (f : Int) {W : Nat} (h : 0 < W) : red ((W : Int) * f) W = (f, 1) := by
  have := red_scale f (W := 1) h
  rw [Nat.mul_one] at this
  rw [this]
  simp [red]
theorem red_abs (f : Int) (W : Nat) (h : 0 < W) : (red f W).1.natAbs ≤ f.natAbs := by
  have := congrArg Int.natAbs (red_top f W h)
  rw [Int.natAbs_mul, Int.natAbs_natCast] at this
  rw [← this]
  exact Nat.le_mul_of_pos_right _ (gcd_pos f h)
/-- what is below all -/
def cb : List Nat → Nat → Nat
  | [], F => F
  | b :: l, F => cb l (Nat.lcm F b)
theorem cb_acc : ∀ (l : List Nat) (F : Nat), F ∣ cb l F
  | [], F => Nat.dvd_refl _
  | b :: l, F => Nat.dvd_trans (Nat.dvd_lcm_left F b) (cb_acc l _)
theorem cb_mem : ∀ (l : List Nat) (F : Nat) (b : Nat), b ∈ l → b ∣ cb l F
  | c :: l, F, b, h => by
    rcases List.mem_cons.mp h with rfl | h
    · exact Nat.dvd_trans (Nat.dvd_lcm_right F b) (cb_acc l _)
    · exact cb_mem l _ b h
theorem cb_dvd {L : Nat} : ∀ (l : List Nat) (F : Nat), F ∣ L → (∀ b ∈ l, b ∣ L) → cb l F ∣ L
  | [], F, h, _ => h
  | b :: l, F, h, hl => cb_dvd l _ (Nat.lcm_dvd h (hl b (by simp))) fun c hc => hl c (by simp [hc])
def nums (W : Nat) (ps : List (Int × Nat)) : List Int := ps.map fun p => p.1 * ((W / p.2 : Nat) : Int)
theorem nums_scale {W c : Nat} {ps : List (Int × Nat)} (h : ∀ p ∈ ps, p.2 ∣ W) (h0 : ∀ p ∈ ps, 0 < p.2) : nums (c * W) ps = (nums W ps).map fun t => (c : Int) * t := by
  unfold nums
  rw [List.map_map]
  apply List.map_congr_left
  intro p hp
  show p.1 * ((c * W / p.2 : Nat) : Int) = (c : Int) * (p.1 * ((W / p.2 : Nat) : Int))
  rw [Nat.mul_div_assoc _ (h p hp), Int.natCast_mul]
  grind
theorem trim_scale {c : Int} (hc : c ≠ 0) : ∀ f : List Int, trim (f.map fun t => c * t) = (trim f).map fun t => c * t
  | [] => rfl
  | a :: f => by
    rw [List.map_cons, trim, trim, trim_scale hc f]
    by_cases h : a = 0 ∧ trim f = []
    · rw [if_pos h, if_pos ⟨by rw [h.1]; simp, by rw [h.2]; rfl⟩]; rfl
    · rw [if_neg h, if_neg fun z => h ⟨by exact (Int.mul_eq_zero.mp z.1).resolve_left hc, by simpa using z.2⟩]; rfl
theorem fc_range (c : Int) (ts : List Int) (n : Nat) : (List.range n).map (fc (ts.map fun t => c * t)) = ((List.range n).map (fc ts)).map fun t => c * t := by
  rw [List.map_map]
  exact List.map_congr_left fun i _ => fc_mul c ts i
end NW

set_option linter.all false
set_option autoImplicit false
/-! Newton's numbers: falling powers told by powers. Plain. -/
namespace NW
theorem ev_lin (c : Int) (g h : Nat → Int) (x : Int) : ∀ n : Nat, ev ((List.range n).map fun j => g j + c * h j) x = ev ((List.range n).map g) x + c * ev ((List.range n).map h) x
  | 0 => by simp [ev]
  | n + 1 => by
    simp only [List.range_succ, List.map_append, List.map_singleton, ev_app, ev_lin c g h x n, List.length_map, List.length_range]
    grind
theorem ev_zeros (x : Int) : ∀ (b : List Int) (n : Nat), ev (b ++ List.replicate n 0) x = ev b x
  | [], 0 => rfl
  | [], n + 1 => by
    have := ev_zeros x [] n
    rw [List.nil_append] at this ⊢
    rw [List.replicate_succ]
    show 0 + x * ev (List.replicate n 0) x = 0
    rw [this]; simp [ev]
  | a :: b, n => by rw [List.cons_append, ev, ev, ev_zeros x b n]
theorem ev_getD (b : List Int) (n : Nat) (h : b.length ≤ n) (x : Int) : ev ((List.range n).map fun j => b.getD j 0) x = ev b x := by
  rw [range_get b h, ev_zeros]
/-- a polynomial times the letter less i -/
def nx (b : List Int) (i : Int) : List Int := (List.range (b.length + 1)).map fun j => (if 0 < j then b.getD (j - 1) 0 else 0) + (-i) * b.getD j 0
theorem nx_length (b : List Int) (i : Int) : (nx b i).length = b.length + 1 := by simp [nx]
theorem ev_nx (b : List Int) (i x : Int) : ev (nx b i) x = ev b x * (x - i) := by
  unfold nx
  rw [ev_lin, ev_getD b _ (by omega)]
  have e : (List.range (b.length + 1)).map (fun j => if 0 < j then b.getD (j - 1) 0 else 0) = 0 :: (List.range b.length).map fun j => b.getD j 0 := by
    rw [List.range_succ_eq_map, List.map_cons, List.map_map]
    rfl
  rw [e, ev, ev_getD b _ (Nat.le_refl _)]
  grind
def bp : Nat → List Int
  | 0 => [1]
  | i + 1 => nx (bp i) i
theorem bp_length : ∀ i, (bp i).length = i + 1
  | 0 => rfl
  | i + 1 => by rw [bp, nx_length, bp_length i]
theorem ev_bp (x : Int) : ∀ i, ev (bp i) x = ff x i
  | 0 => by simp [bp, ev, ff]
  | i + 1 => by rw [bp, ev_nx, ev_bp x i, ff]
def facN : Nat → Nat
  | 0 => 1
  | n + 1 => facN n * (n + 1)
theorem facN_cast : ∀ n, ((facN n : Nat) : Int) = fac n
  | 0 => rfl
  | n + 1 => by rw [facN, fac, ← facN_cast n]; simp
theorem facN_pos : ∀ n, 0 < facN n
  | 0 => by decide
  | n + 1 => Nat.mul_pos (facN_pos n) (by omega)
theorem facN_dvd {m n : Nat} (h : m ≤ n) : facN m ∣ facN n := by
  induction n with
  | zero => rw [show m = 0 by omega]; exact Nat.dvd_refl _
  | succ n ih =>
    by_cases k : m = n + 1
    · rw [k]; exact Nat.dvd_refl _
    · exact Nat.dvd_trans (ih (by omega)) ⟨_, rfl⟩
theorem facN_le {m n : Nat} (h : m ≤ n) : facN m ≤ facN n := Nat.le_of_dvd (facN_pos n) (facN_dvd h)
/-- the tops of powers -/
def tt (f : List Int) (low : Nat) : Nat → Nat → Int
  | 0, _ => 0
  | i + 1, j => tt f low i j + (f.getD i 0 * ((low / facN i : Nat) : Int)) * (bp i).getD j 0
theorem tt_big (f : List Int) (low : Nat) : ∀ (i j : Nat), i ≤ j → tt f low i j = 0
  | 0, _, _ => rfl
  | i + 1, j, h => by
    rw [tt, tt_big f low i j (by omega), List.getD_eq_getElem?_getD (l := bp i), List.getElem?_eq_none (by rw [bp_length]; omega)]
    simp
theorem take_snoc (f : List Int) {i : Nat} (h : i < f.length) : f.take (i + 1) = f.take i ++ [f.getD i 0] := by
  rw [List.take_add_one, List.getElem?_eq_getElem h]
  simp [List.getD_eq_getElem?_getD, h]
theorem ev_tt (f : List Int) (low : Nat) (x : Int) : ∀ i : Nat, i ≤ f.length → (∀ k, k < i → facN k ∣ low) → ev ((List.range f.length).map (tt f low i)) x = (low : Int) * val (f.take i) 0 x
  | 0, _, _ => by
    have : (List.range f.length).map (tt f low 0) = [] ++ List.replicate f.length 0 := by
      rw [List.nil_append]
      apply List.ext_getElem <;> simp [tt]
    rw [this, ev_zeros]
    simp [ev, val]
  | i + 1, h, hk => by
    have e : (fun j => tt f low (i + 1) j) = fun j => tt f low i j + (f.getD i 0 * ((low / facN i : Nat) : Int)) * (bp i).getD j 0 := rfl
    rw [show tt f low (i + 1) = fun j => tt f low (i + 1) j from rfl, e, ev_lin, ev_tt f low x i (by omega) fun k hk' => hk k (by omega), ev_getD _ _ (by rw [bp_length]; omega), ev_bp, take_snoc f (by omega), val_app, ← bc_mul, ← facN_cast, List.length_take, Nat.zero_add, show min i f.length = i by omega]
    have h1 : ((low / facN i : Nat) : Int) * ((facN i : Nat) : Int) = (low : Int) := by
      rw [← Int.natCast_mul, Nat.div_mul_cancel (hk i (by omega))]
    rw [Int.mul_add, ← h1]
    grind
/-- the tops of a fall of n items, over the factorial below n -/
def lowF (n : Nat) : Nat := facN (n - 1)
def topsF (f : List Int) : List Int := (List.range f.length).map (tt f (lowF f.length) f.length)
theorem ev_topsF (f : List Int) (x : Int) : ev (topsF f) x = ((lowF f.length : Nat) : Int) * val f 0 x := by
  have := ev_tt f (lowF f.length) x f.length (Nat.le_refl _) fun k hk => facN_dvd (by omega)
  rw [List.take_length] at this
  exact this
theorem topsF_length (f : List Int) : (topsF f).length = f.length := by simp [topsF]
/-- back again -/
theorem fc_topsF (f : List Int) {i : Nat} (h : i < f.length) : fc (topsF f) i = ((lowF f.length : Nat) : Int) * f.getD i 0 := by
  rw [← dn_ev _ (by rw [topsF_length]; exact h)]
  have e : ev (topsF f) = fun x => ((lowF f.length : Nat) : Int) * val f 0 x := funext fun x => ev_topsF f x
  rw [e, dn_cmul]
  show _ * dn i (val f 0) 0 = _
  rw [dn_val0]
theorem fcs_topsF (f : List Int) : (List.range f.length).map (fc (topsF f)) = f.map fun t => ((lowF f.length : Nat) : Int) * t := by
  apply List.ext_getElem
  · simp
  · intro i h1 h2
    simp at h1 h2
    rw [List.getElem_map, List.getElem_range, fc_topsF f h1, List.getElem_map]
    simp [List.getD_eq_getElem?_getD, h1]
/-- the first place that is not whole -/
def brk (ts : List Int) (L : Int) : Option Nat := (List.range ts.length).find? fun x => decide (ev ts (x : Int) % L ≠ 0)
theorem brk_scale (ts : List Int) (W c : Nat) (hc : 0 < c) : brk (ts.map fun t => (c : Int) * t) ((c * W : Nat) : Int) = brk ts (W : Int) := by
  unfold brk
  rw [List.length_map]
  congr 1
  funext x
  rw [ev_mul, Int.natCast_mul, Int.mul_emod_mul_of_pos _ _ (by omega)]
  congr 1
  simp only [ne_eq, Int.mul_eq_zero]
  simp
  omega
theorem brk_none (ts : List Int) (L : Int) : brk ts L = none ↔ ∀ x : Nat, x < ts.length → L ∣ ev ts x := by
  unfold brk
  rw [List.find?_eq_none]
  constructor
  · intro h x hx
    have := h x (List.mem_range.mpr hx)
    simp at this
    exact Int.dvd_of_emod_eq_zero this
  · intro h x hx
    simp
    exact Int.emod_eq_zero_of_dvd (h x (List.mem_range.mp hx))
end NW

set_option linter.all false
set_option autoImplicit false
/-! Newton's numbers: adding rows, sums over numbered lists. Plain. -/
namespace NW
/-- a row added from a place on -/
def addAt : List Int → Nat → List Int → List Int
  | F, _, [] => F
  | F, k, d :: ds => addAt (F.set k (F.getD k 0 + d)) (k + 1) ds
theorem addAt_length : ∀ (ds : List Int) (F : List Int) (k : Nat), (addAt F k ds).length = F.length
  | [], F, k => rfl
  | d :: ds, F, k => by rw [addAt, addAt_length ds]; simp
theorem addAt_get : ∀ (ds : List Int) (F : List Int) (k j : Nat), k + ds.length ≤ F.length → j < F.length → (addAt F k ds).getD j 0 = F.getD j 0 + (if k ≤ j then ds.getD (j - k) 0 else 0)
  | [], F, k, j, h, hj => by simp [addAt]
  | d :: ds, F, k, j, h, hj => by
    rw [List.length_cons] at h
    rw [addAt, addAt_get ds _ (k + 1) j (by simp; omega) (by simpa using hj)]
    by_cases e : j = k
    · subst e
      rw [if_neg (by omega), if_pos (Nat.le_refl _), Nat.sub_self]
      simp [List.getD_eq_getElem?_getD, hj]
    · have e1 : (F.set k (F.getD k 0 + d)).getD j 0 = F.getD j 0 := by
        simp [List.getD_eq_getElem?_getD, List.getElem?_set_ne (Ne.symm e)]
      rw [e1]
      by_cases l : k ≤ j
      · rw [if_pos (by omega), if_pos l, show j - k = (j - (k + 1)) + 1 by omega, List.getD_cons_succ]
      · rw [if_neg (by omega), if_neg l]
theorem list_of_getD (F : List Int) : F = (List.range F.length).map fun j => F.getD j 0 := by
  apply List.ext_getElem
  · simp
  · intro i h1 h2
    simp [List.getD_eq_getElem?_getD, h1]
theorem addAt_map (n : Nat) (g : Nat → Int) (ds : List Int) (h : ds.length ≤ n) : addAt ((List.range n).map g) 0 ds = (List.range n).map fun j => g j + ds.getD j 0 := by
  rw [list_of_getD (addAt ((List.range n).map g) 0 ds), addAt_length, List.length_map, List.length_range]
  apply List.map_congr_left
  intro j hj
  have hj := List.mem_range.mp hj
  rw [addAt_get ds _ 0 j (by simpa using h) (by simpa using hj), if_pos (Nat.zero_le _), Nat.sub_zero]
  simp [List.getD_eq_getElem?_getD, hj]
theorem ev_zip : ∀ (r : List Int) (k : Nat) (x : Int), ((r.zipIdx k).map fun p : Int × Nat => p.1 * x ^ p.2).sum = x ^ k * ev r x
  | [], k, x => by simp [ev]
  | a :: r, k, x => by
    rw [List.zipIdx_cons, List.map_cons, List.sum_cons, ev_zip r (k + 1) x, ev, Int.pow_succ]
    grind
theorem onto_getD (k j : Nat) : ((List.range (k + 1)).map (onto k)).getD j 0 = onto k j := by
  by_cases h : j < k + 1
  · simp [List.getD_eq_getElem?_getD, h]
  · rw [onto_big (by omega), List.getD_eq_getElem?_getD, List.getElem?_eq_none (by simp; omega)]; rfl
theorem map_getD (c : Int) (l : List Int) (j : Nat) : (l.map fun t => c * t).getD j 0 = c * l.getD j 0 := by
  rw [List.getD_eq_getElem?_getD, List.getElem?_map, List.getD_eq_getElem?_getD]
  cases l[j]? <;> simp
/-- how great the falls of powers are -/
theorem sum_bd {B : Nat} : ∀ l : List Int, (∀ a ∈ l, a.natAbs ≤ B) → l.sum.natAbs ≤ l.length * B
  | [], _ => by simp
  | a :: l, h => by
    have h1 := sum_bd l fun b hb => h b (by simp [hb])
    have h2 := h a (by simp)
    rw [List.sum_cons, List.length_cons, Nat.add_mul, Nat.one_mul]
    have := Int.natAbs_add_le a l.sum
    omega
end NW

set_option Elab.async false
set_option linter.all false
set_option autoImplicit false
set_option maxRecDepth 100000
set_option maxHeartbeats 0
namespace G_k79
open PySem PySem.Spec L2 MI
/-! is_number -/
def b_is_number : SF := (sRet (oFz (eAnd (eIsiV "int" (eVar 0)) (eNot (eIsiV "bool" (eVar 0))))))
def m_is_number : List OD → Res OD := mkF 1 [false] b_is_number
/-! is_within -/
def b_is_within : SF := (sRet (oFz (eAnd (eFrz (oCall [none] (aCons (eVar 0) aNil) (noexF m_is_number))) (eChn leI leI (eVar 1) (eVar 0) (eVar 2)))))
def m_is_within : List OD → Res OD := mkF 3 [false, false, false] b_is_within
/-! step_row_error -/
def b_step_row_error : SF := (sSeq (sIf (kOr (kNot (kVal (eIsiV "tuple" (eVar 0)))) (kNot (kChn leI leI (eC (.int 1)) (eFrz (oBlt (one lenD) (aCons (eVar 0) aNil))) (eC (.int 20))))) (sRet (oFz (eC (.str "form")))) sNx)
  (sSeq (sAsg (eFrz (oLc [false, false, true, true] (iEnum2 (eVar 0)) (gT 2 (gsCons (gN 2) (gsCons (gN 3) gsNil))) (kNot (kVal (eFrz (oCall [none, none, none] (aCons (eVar 3) (aCons (eFrz (oOp1 negD (eC (.int 1000000000000)))) (aCons (eC (.int 1000000000000)) aNil))) (noexF m_is_within))))) (eVar 2))) (gN 1))
  (sRet (oIf (kCmp neD (eVar 1) (eFrz (oLst aNil))) (oFz (eTup (aCons (eC (.str "item")) (aCons (eAt 1 (eC (.int 0))) aNil)))) (oFz (eC .none))))))
def m_step_row_error : List OD → Res OD := mkF 4 [false] b_step_row_error
/-! steps_of -/
def b_steps_of : SF := (sRet (oBlt (one tupleD) (aCons (eFrz (oLc [false, true, true] (iZip2 (eVar 0) (eFrz (oSlice (eVar 0) (pSome (eC (.int 1))) pNo))) (gT 2 (gsCons (gN 1) (gsCons (gN 2) gsNil))) kYes (eFrz (oOp2 subD (eVar 2) (eVar 1))))) aNil)))
def m_steps_of : List OD → Res OD := mkF 3 [false] b_steps_of
/-! fall_trimmed -/
def t_fall_trimmed_1 : TF := (kAnd (kCmp gtI (eVar 1) (eC (.int 0))) (kCmp eqD (eAt 0 (eFrz (oOp2 subD (eVar 1) (eC (.int 1))))) (eC (.int 0))))
def l_fall_trimmed_1 : SF := (sAsg (eFrz (oOp2 subD (eVar 1) (eC (.int 1)))) (gN 1))
def b_fall_trimmed : SF := (sSeq (sAsg (eFrz (oBlt (one lenD) (aCons (eVar 0) aNil))) (gN 1))
  (sSeq (sWhile fuel t_fall_trimmed_1 l_fall_trimmed_1)
  (sRet (oBlt (one tupleD) (aCons (eFrz (oSlice (eVar 0) pNo (pSome (eVar 1)))) aNil)))))
def m_fall_trimmed : List OD → Res OD := mkF 2 [false] b_fall_trimmed
/-! fall_row -/
def l_fall_row_1 : SF := (sSeq (sExp (eAppend 1 (eAt 2 (eC (.int 0)))))
  (sAsg (eFrz (oCall [none] (aCons (eVar 2) aNil) (noexF m_steps_of))) (gN 2)))
def b_fall_row : SF := (sSeq (sPar [1, 2] (aoCons (oLst aNil) (aoCons (oFz (eVar 0)) aoNil)))
  (sSeq (sFor (iRange1 (eFrz (oBlt (one lenD) (aCons (eVar 0) aNil)))) (gN 3) l_fall_row_1)
  (sRet (oCall [none] (aCons (eVar 1) aNil) (noexF m_fall_trimmed)))))
def m_fall_row : List OD → Res OD := mkF 4 [false] b_fall_row
/-! choices_row -/
def l_choices_row_1 : SF := (sExp (eAppend 2 (eFrz (oOp2 fdivD (eFrz (oOp2 mulD (eAt 2 (eVar 3)) (eFrz (oOp2 subD (eVar 0) (eVar 3))))) (eFrz (oOp2 addD (eVar 3) (eC (.int 1))))))))
def b_choices_row : SF := (sSeq (sSet 2 (oLst (aCons (eC (.int 1)) aNil)))
  (sSeq (sFor (iRange1 (eFrz (oOp2 subD (eVar 1) (eC (.int 1))))) (gN 3) l_choices_row_1)
  (sRet (oVar 2))))
def m_choices_row : List OD → Res OD := mkF 4 [false, false] b_choices_row
/-! fall_value -/
def b_fall_value : SF := (sRet (oBlt (one sumD) (aCons (eFrz (oLc [false, false, true, true] (iZip2 (eVar 0) (eFrz (oCall [none, none] (aCons (eVar 1) (aCons (eFrz (oBlt (one lenD) (aCons (eVar 0) aNil))) aNil)) (noexF m_choices_row)))) (gT 2 (gsCons (gN 2) (gsCons (gN 3) gsNil))) kYes (eFrz (oOp2 mulD (eVar 2) (eVar 3))))) aNil)))
def m_fall_value : List OD → Res OD := mkF 4 [false, false] b_fall_value
/-! row_of_fall -/
def b_row_of_fall : SF := (sRet (oBlt (one tupleD) (aCons (eFrz (oLc [false, false, true] (iRange1 (eVar 1)) (gN 2) kYes (eFrz (oCall [none, none] (aCons (eVar 0) (aCons (eVar 2) aNil)) (noexF m_fall_value))))) aNil)))
def m_row_of_fall : List OD → Res OD := mkF 3 [false, false] b_row_of_fall
/-! _law_own_bag -/
def l__law_own_bag_1 : SF := (sAsg (eFrz (oOp2 modD (eFrz (oBlt (one intB) (aCons (eFrz (oOp2 addD (eFrz (oOp2 addD (eFrz (oOp2 mulD (eVar 3) (eC (.int 48271)))) (eFrz (oOp2 modD (eFrz (oBlt (one intB) (aCons (eVar 2) aNil))) (eC (.int 2147483629)))))) (eC (.int 7)))) aNil))) (eC (.int 2147483647)))) (gN 3))
def b__law_own_bag : SF := (sSeq (sAsg (eFrz (oLc [false, false, true, false] (iSeq (eFrz (oSlice (eVar 0) pNo (pSome (eC (.int 63)))))) (gN 2) kYes (eFrz (oBlt (one absD) (aCons (eVar 2) aNil))))) (gN 1))
  (sSeq (sAsg (eFrz (oOp2 addD (eC (.int 7901)) (eFrz (oBlt (one lenD) (aCons (eVar 1) aNil))))) (gN 3))
  (sSeq (sFor (iSeq (eVar 1)) (gN 2) l__law_own_bag_1)
  (sRet (oNest (aoCons (oOp1 revD (eFrz (oBlt (one listD) (aCons (eVar 1) aNil)))) (aoCons (oFz (eC (.int 0))) (aoCons (oFz (eVar 3)) aoNil))))))))
def m__law_own_bag : List OD → Res OD := mkF 4 [false] b__law_own_bag
/-! _law_draw -/
def t__law_draw_1 : TF := (kAnd (kCmp eqD (eItemN 0 1) (eC (.int 0))) (kEmptyN true 0 0))
def l__law_draw_1 : SF := (sSeq (sAsg (ePopN 0 0) (gN 2))
  (sItem 0 (eC (.int 1)) (eIf (kCmp gtI (eVar 2) (eFrz (oOp2 powD (eC (.int 10)) (eC (.int 18))))) (eVar 2) (eC (.int 0)))))
def b__law_draw : SF := (sSeq (sWhile fuel t__law_draw_1 l__law_draw_1)
  (sSeq (sIf (kCmp gtI (eItemN 0 1) (eC (.int 0))) (sSeq (sAsg (eFrz (oOp2 modD (eFrz (oBlt (one intB) (aCons (eItemN 0 1) aNil))) (eVar 1))) (gN 3))
  (sSeq (sItem 0 (eC (.int 1)) (eFrz (oOp2 fdivD (eItemN 0 1) (eVar 1))))
  (sRet (oVar 3)))) sNx)
  (sSeq (sItem 0 (eC (.int 2)) (eFrz (oOp2 modD (eFrz (oBlt (one intB) (aCons (eFrz (oOp2 addD (eFrz (oOp2 mulD (eItemN 0 2) (eC (.int 48271)))) (eC (.int 11)))) aNil))) (eC (.int 2147483647)))))
  (sRet (oOp2 modD (eFrz (oBlt (one intB) (aCons (eFrz (oOp2 fdivD (eFrz (oOp2 modD (eFrz (oBlt (one intB) (aCons (eFrz (oOp2 mulD (eItemN 0 2) (eItemN 0 2))) aNil))) (eC (.int 2147483629)))) (eC (.int 7)))) aNil))) (eVar 1))))))
def m__law_draw : List OD → Res OD := mkF 4 [true, false] b__law_draw
/-! _law_pick -/
def b__law_pick : SF := (sRet (oFz (eAt 1 (eFrz (oCall [some 0, none] (aRef 0 (aCons (eFrz (oBlt (one lenD) (aCons (eVar 1) aNil))) aNil)) (noexF m__law_draw))))))
def m__law_pick : List OD → Res OD := mkF 2 [true, false] b__law_pick
/-! _law_number -/
def l__law_number_1 : SF := (sAsg (eFrz (oOp2 addD (eFrz (oOp2 mulD (eVar 3) (eC (.int 1000000)))) (eFrz (oCall [some 0, none] (aRef 0 (aCons (eC (.int 1000000)) aNil)) (noexF m__law_draw))))) (gN 3))
def b__law_number : SF := (sSeq (sPar [2, 3] (aoCons (oFz (eFrz (oCall [some 0, none] (aRef 0 (aCons (eC (.int 8)) aNil)) (noexF m__law_draw)))) (aoCons (oFz (eFrz (oCall [some 0, none] (aRef 0 (aCons (eC (.int 10)) aNil)) (noexF m__law_draw)))) aoNil)))
  (sSeq (sIf (kCmp gtI (eVar 2) (eC (.int 2))) (sSeq (sAsg (eC (.int 0)) (gN 3))
  (sSeq (sFor (iRange1 (eFrz (oOp2 addD (eC (.int 1)) (eFrz (oCall [some 0, none] (aRef 0 (aCons (eC (.int 6)) aNil)) (noexF m__law_draw)))))) (gN 4) l__law_number_1)
  (sAsg (eFrz (oOp2 modD (eFrz (oBlt (one intB) (aCons (eVar 3) aNil))) (eFrz (oOp2 addD (eVar 1) (eC (.int 1)))))) (gN 3)))) sNx)
  (sSeq (sIf (kCmp gtI (eVar 2) (eC (.int 6))) (sAsg (eFrz (oOp2 subD (eVar 1) (eFrz (oCall [some 0, none] (aRef 0 (aCons (eC (.int 3)) aNil)) (noexF m__law_draw))))) (gN 3)) sNx)
  (sRet (oIf (kCmp eqD (eFrz (oCall [some 0, none] (aRef 0 (aCons (eC (.int 2)) aNil)) (noexF m__law_draw))) (eC (.int 0))) (oVar 3) (oOp1 negD (eVar 3)))))))
def m__law_number : List OD → Res OD := mkF 5 [true, false] b__law_number
/-! _law_is_due -/
def b__law_is_due : SF := (sSeq (sIf (kCmp isN (eVar 1) (eC .none)) (sRet (oFz (eCmp isN (eVar 0) (eC .none)))) sNx)
  (sSeq (sIf (kVal (eIsiV "tuple" (eVar 1))) (sRet (oFz (eAnd (eIsiV "tuple" (eVar 0)) (eCmp eqD (eFrz (oBlt (one reprV) (aCons (eVar 0) aNil))) (eFrz (oBlt (one reprV) (aCons (eVar 1) aNil))))))) sNx)
  (sSeq (sIf (kVal (eIsiV "str" (eVar 1))) (sRet (oFz (eAnd (eIsiV "str" (eVar 0)) (eCmp eqD (eFrz (oBlt (one reprV) (aCons (eVar 0) aNil))) (eFrz (oBlt (one reprV) (aCons (eVar 1) aNil))))))) sNx)
  (sRet (oFz (eAnd (eIsiV "int" (eVar 0)) (eAnd (eNot (eIsiV "bool" (eVar 0))) (eCmp eqD (eFrz (oBlt (one reprV) (aCons (eVar 0) aNil))) (eFrz (oBlt (one reprV) (aCons (eVar 1) aNil)))))))))))
def m__law_is_due : List OD → Res OD := mkF 2 [false, false] b__law_is_due
/-! _law_fall -/
def l__law_fall_1 : SF := (sItem 3 (eFrz (oCall [some 0, none] (aRef 0 (aCons (eVar 2) aNil)) (noexF m__law_draw))) (eC (.int 0)))
def b__law_fall : SF := (sSeq (sAsg (eFrz (oCall [some 0, none] (aRef 0 (aCons (eFrz (oLst (aCons (eC (.int 0)) (aCons (eC (.int 1)) (aCons (eC (.int 2)) (aCons (eC (.int 19)) (aCons (eC (.int 20)) (aCons (eC (.int 20)) (aCons (eFrz (oCall [some 0, none] (aRef 0 (aCons (eC (.int 21)) aNil)) (noexF m__law_draw))) (aCons (eFrz (oCall [some 0, none] (aRef 0 (aCons (eC (.int 21)) aNil)) (noexF m__law_draw))) aNil)))))))))) aNil)) (noexF m__law_pick))) (gN 2))
  (sSeq (sSet 3 (oLc [false, false, false, false, true] (iRange1 (eVar 2)) (gN 4) kYes (eFrz (oCall [some 0, none] (aRef 0 (aCons (eVar 1) aNil)) (noexF m__law_number)))))
  (sSeq (sFor (iRange1 (eFrz (oOp2 fdivD (eFrz (oCall [some 0, none] (aRef 0 (aCons (eFrz (oOp2 addD (eVar 2) (eC (.int 1)))) aNil)) (noexF m__law_draw))) (eC (.int 2))))) (gN 4) l__law_fall_1)
  (sSeq (sIf (kAnd (kCmp gtI (eVar 2) (eC (.int 0))) (kCmp eqD (eAt 3 (eFrz (oOp1 negD (eC (.int 1))))) (eC (.int 0)))) (sItem 3 (eFrz (oOp1 negD (eC (.int 1)))) (eFrz (oCall [some 0, none] (aRef 0 (aCons (eFrz (oLst (aCons (eC (.int 1)) (aCons (eFrz (oOp1 negD (eC (.int 1)))) (aCons (eVar 1) (aCons (eFrz (oOp1 negD (eVar 1))) aNil)))))) aNil)) (noexF m__law_pick)))) sNx)
  (sRet (oBlt (one tupleD) (aCons (eVar 3) aNil)))))))
def m__law_fall : List OD → Res OD := mkF 5 [true, false] b__law_fall
/-! _law_twin -/
def b__law_twin : SF := (sSeq (sIf (kCmp eqD (eVar 1) (eTup aNil)) (sRet (oFz (eTup (aCons (eC (.int 1)) aNil)))) sNx)
  (sSeq (sPar [3, 4] (aoCons (oFz (eFrz (oCall [some 0, none] (aRef 0 (aCons (eFrz (oBlt (one lenD) (aCons (eVar 1) aNil))) aNil)) (noexF m__law_draw)))) (aoCons (oBlt (one listD) (aCons (eVar 1) aNil)) aoNil)))
  (sSeq (sItem 4 (eVar 3) (eIf (kCmp ltI (eAt 4 (eVar 3)) (eVar 2)) (eFrz (oOp2 addD (eAt 4 (eVar 3)) (eC (.int 1)))) (eFrz (oOp2 subD (eAt 4 (eVar 3)) (eC (.int 1))))))
  (sSeq (sIf (kCmp eqD (eAt 4 (eFrz (oOp1 negD (eC (.int 1))))) (eC (.int 0))) (sItem 4 (eFrz (oOp1 negD (eC (.int 1)))) (eC (.int 2))) sNx)
  (sRet (oBlt (one tupleD) (aCons (eVar 4) aNil)))))))
def m__law_twin : List OD → Res OD := mkF 5 [true, false, false] b__law_twin
/-! _law_value -/
def l__law_value_1 : SF := (sPar [2, 3] (aoCons (oFz (eFrz (oOp2 addD (eVar 2) (eFrz (oOp2 mulD (eVar 5) (eVar 3)))))) (aoCons (oFz (eFrz (oOp2 fdivD (eFrz (oOp2 mulD (eVar 3) (eFrz (oOp2 subD (eVar 1) (eVar 4))))) (eFrz (oOp2 addD (eVar 4) (eC (.int 1))))))) aoNil)))
def b__law_value : SF := (sSeq (sPar [2, 3] (aoCons (oFz (eC (.int 0))) (aoCons (oFz (eC (.int 1))) aoNil)))
  (sSeq (sFor (iEnum2 (eVar 0)) (gT 2 (gsCons (gN 4) (gsCons (gN 5) gsNil))) l__law_value_1)
  (sRet (oVar 2))))
def m__law_value : List OD → Res OD := mkF 6 [false, false] b__law_value
/-! _law_triangle -/
def l__law_triangle_1 : SF := (sSeq (sAsg (eAt 1 (eFrz (oOp1 negD (eC (.int 1))))) (gN 3))
  (sExp (eAppend 1 (eFrz (oBlt (one tupleD) (aCons (eFrz (oLc [false, false, false, false, true] (iRange1 (eFrz (oOp2 subD (eFrz (oBlt (one lenD) (aCons (eVar 3) aNil))) (eC (.int 1))))) (gN 4) kYes (eFrz (oOp2 subD (eAt 3 (eFrz (oOp2 addD (eVar 4) (eC (.int 1))))) (eAt 3 (eVar 4)))))) aNil))))))
def b__law_triangle : SF := (sSeq (sSet 1 (oLst (aCons (eFrz (oBlt (one tupleD) (aCons (eVar 0) aNil))) aNil)))
  (sSeq (sFor (iRange1 (eFrz (oOp2 subD (eFrz (oBlt (one lenD) (aCons (eVar 0) aNil))) (eC (.int 1))))) (gN 2) l__law_triangle_1)
  (sRet (oVar 1))))
def m__law_triangle : List OD → Res OD := mkF 5 [false] b__law_triangle
/-! _law_cut -/
def t__law_cut_1 : TF := (kAnd (kLend [.f, .f] (kCmp neD (eVar 1) (eFrz (oLst aNil)))) (kCmp eqD (eAt 1 (eFrz (oOp1 negD (eC (.int 1))))) (eC (.int 0))))
def l__law_cut_1 : SF := (sExp (ePop 1))
def b__law_cut : SF := (sSeq (sSet 1 (oBlt (one listD) (aCons (eVar 0) aNil)))
  (sSeq (sWhile fuel t__law_cut_1 l__law_cut_1)
  (sRet (oBlt (one tupleD) (aCons (eVar 1) aNil)))))
def m__law_cut : List OD → Res OD := mkF 2 [false] b__law_cut
/-! _law_own_row -/
def l__law_own_row_1 : SF := (sSeq (sExp (eAppend 2 (eIf (kCmp neD (eVar 3) (eFrz (oLst aNil))) (eAt 3 (eC (.int 0))) (eC (.int 0)))))
  (sAsg (eFrz (oLc [false, false, false, false, false, true] (iRange1 (eFrz (oBlt (one lenD) (aCons (eVar 3) aNil)))) (gN 5) kYes (eFrz (oOp2 addD (eAt 3 (eVar 5)) (eIf (kCmp ltI (eFrz (oOp2 addD (eVar 5) (eC (.int 1)))) (eFrz (oBlt (one lenD) (aCons (eVar 3) aNil)))) (eAt 3 (eFrz (oOp2 addD (eVar 5) (eC (.int 1))))) (eC (.int 0))))))) (gN 3)))
def b__law_own_row : SF := (sSeq (sPar [2, 3] (aoCons (oLst aNil) (aoCons (oFz (eFrz (oBlt (one listD) (aCons (eVar 0) aNil)))) aoNil)))
  (sSeq (sFor (iRange1 (eVar 1)) (gN 4) l__law_own_row_1)
  (sRet (oBlt (one tupleD) (aCons (eVar 2) aNil)))))
def m__law_own_row : List OD → Res OD := mkF 6 [false, false] b__law_own_row
/-! _law_any_row -/
def b__law_any_row : SF := (sSeq (sAsg (eFrz (oCall [some 0, none] (aRef 0 (aCons (eFrz (oLst (aCons (eC (.int 1)) (aCons (eC (.int 2)) (aCons (eC (.int 3)) (aCons (eC (.int 20)) (aCons (eC (.int 20)) (aCons (eFrz (oOp2 addD (eC (.int 1)) (eFrz (oCall [some 0, none] (aRef 0 (aCons (eC (.int 20)) aNil)) (noexF m__law_draw))))) (aCons (eFrz (oOp2 addD (eC (.int 1)) (eFrz (oCall [some 0, none] (aRef 0 (aCons (eC (.int 20)) aNil)) (noexF m__law_draw))))) aNil))))))))) aNil)) (noexF m__law_pick))) (gN 1))
  (sRet (oBlt (one tupleD) (aCons (eFrz (oLc [false, false, true] (iRange1 (eVar 1)) (gN 2) kYes (eFrz (oCall [some 0, none] (aRef 0 (aCons (eFrz (oOp2 powD (eC (.int 10)) (eC (.int 12)))) aNil)) (noexF m__law_number))))) aNil))))
def m__law_any_row : List OD → Res OD := mkF 3 [true] b__law_any_row
/-! _law_twin_row -/
def b__law_twin_row : SF := (sSeq (sPar [2, 3] (aoCons (oBlt (one listD) (aCons (eVar 1) aNil)) (aoCons (oFz (eFrz (oCall [some 0, none] (aRef 0 (aCons (eFrz (oBlt (one lenD) (aCons (eVar 1) aNil))) aNil)) (noexF m__law_draw)))) aoNil)))
  (sSeq (sItem 2 (eVar 3) (eIf (kCmp ltI (eAt 2 (eVar 3)) (eFrz (oOp2 powD (eC (.int 10)) (eC (.int 12))))) (eFrz (oOp2 addD (eAt 2 (eVar 3)) (eC (.int 1)))) (eFrz (oOp2 subD (eAt 2 (eVar 3)) (eC (.int 1))))))
  (sRet (oBlt (one tupleD) (aCons (eVar 2) aNil)))))
def m__law_twin_row : List OD → Res OD := mkF 4 [true, false] b__law_twin_row
/-! _law_rows -/
def b__law_rows : SF := (sSeq (sAsg (eFrz (oCall [some 0] (aRef 0 aNil) (noexF m__law_any_row))) (gN 1))
  (sSeq (sAsg (eFrz (oLc [false, false, false, true, false, false, false, false] (iRange1 (eFrz (oCall [some 0, none] (aRef 0 (aCons (eC (.int 7)) aNil)) (noexF m__law_draw)))) (gN 3) kYes (eFrz (oOp2 subD (eFrz (oCall [some 0, none] (aRef 0 (aCons (eC (.int 199)) aNil)) (noexF m__law_draw))) (eC (.int 99)))))) (gN 2))
  (sSeq (sAsg (eFrz (oCall [none, none] (aCons (eVar 2) (aCons (eFrz (oOp2 addD (eC (.int 1)) (eFrz (oCall [some 0, none] (aRef 0 (aCons (eC (.int 20)) aNil)) (noexF m__law_draw))))) aNil)) (noexF m__law_own_row))) (gN 4))
  (sSeq (sSet 5 (oOp2 mulD (eFrz (oLst (aCons (eC (.int 0)) aNil))) (eFrz (oOp2 addD (eC (.int 1)) (eFrz (oCall [some 0, none] (aRef 0 (aCons (eC (.int 20)) aNil)) (noexF m__law_draw)))))))
  (sSeq (sItem 5 (eFrz (oCall [some 0, none] (aRef 0 (aCons (eLend [.f, .f, .f, .f, .f, .f, .f, .f] (eFrz (oBlt (one lenD) (aCons (eVar 5) aNil)))) aNil)) (noexF m__law_draw))) (eFrz (oCall [some 0, none] (aRef 0 (aCons (eFrz (oOp2 powD (eC (.int 10)) (eC (.int 12)))) aNil)) (noexF m__law_number))))
  (sSeq (sAsg (eFrz (oCall [some 0, none] (aRef 0 (aCons (eFrz (oLst (aCons (eC (.int 1)) (aCons (eFrz (oOp1 negD (eC (.int 1)))) aNil)))) aNil)) (noexF m__law_pick))) (gN 6))
  (sSeq (sAsg (eFrz (oLc [false, false, false, true, false, false, false, false] (iRange1 (eC (.int 20))) (gN 3) kYes (eFrz (oOp2 mulD (eFrz (oOp2 mulD (eFrz (oOp2 powD (eC (.int 10)) (eC (.int 12)))) (eVar 6))) (eIf (kCmp eqD (eFrz (oOp2 modD (eVar 3) (eC (.int 2)))) (eC (.int 0))) (eC (.int 1)) (eFrz (oOp1 negD (eC (.int 1))))))))) (gN 7))
  (sRet (oLst (aCons (eVar 1) (aCons (eFrz (oCall [some 0, none] (aRef 0 (aCons (eVar 1) aNil)) (noexF m__law_twin_row))) (aCons (eVar 4) (aCons (eFrz (oBlt (one tupleD) (aCons (eVar 5) aNil))) (aCons (eFrz (oBlt (one tupleD) (aCons (eVar 7) aNil))) aNil))))))))))))))
def m__law_rows : List OD → Res OD := mkF 8 [true] b__law_rows
/-! _law_are_steps_right -/
def l__law_are_steps_right_1 : SF := (sSeq (sIf (kCmp gtI (eFrz (oBlt (one (extD maxI)) (aCons (eFrz (oLc [false, false, false, false, false, true, false, false] (iSeq (eVar 3)) (gN 5) kYes (eFrz (oBlt (one absD) (aCons (eVar 5) aNil))))) aNil))) (eFrz (oOp2 powD (eC (.int 10)) (eC (.int 12))))) (sRet (oFz (eCmp gtI (eVar 4) (eC (.int 0))))) sNx)
  (sSeq (sPar [6, 7] (aoCons (oFz (eIf (kCmp ltI (eFrz (oOp2 addD (eVar 4) (eC (.int 1)))) (eFrz (oBlt (one lenD) (aCons (eVar 1) aNil)))) (eAt 1 (eFrz (oOp2 addD (eVar 4) (eC (.int 1))))) (eTup aNil))) (aoCons (oFz (eFrz (oCall [none] (aCons (eFrz (oSlice (eVar 2) (pSome (eVar 4)) pNo)) aNil) (noexF m__law_cut)))) aoNil)))
  (sSeq (sIf (kOr (kNot (kVal (eFrz (oCall [none, none] (aCons (eFrz (oCall [none] (aCons (eVar 3) aNil) (noexF m_step_row_error))) (aCons (eC .none) aNil)) (noexF m__law_is_due))))) (kNot (kVal (eFrz (oCall [none, none] (aCons (eFrz (oCall [none] (aCons (eVar 3) aNil) (noexF m_steps_of))) (aCons (eVar 6) aNil)) (noexF m__law_is_due)))))) (sRet (oFz (eC (.bool false)))) sNx)
  (sSeq (sIf (kOr (kNot (kVal (eFrz (oCall [none, none] (aCons (eFrz (oCall [none] (aCons (eVar 3) aNil) (noexF m_fall_row))) (aCons (eVar 7) aNil)) (noexF m__law_is_due))))) (kNot (kVal (eFrz (oCall [none, none] (aCons (eFrz (oCall [none, none] (aCons (eVar 7) (aCons (eFrz (oBlt (one lenD) (aCons (eVar 3) aNil))) aNil)) (noexF m_row_of_fall))) (aCons (eVar 3) aNil)) (noexF m__law_is_due)))))) (sRet (oFz (eC (.bool false)))) sNx)
  (sIf (kAnd (kCmp eqD (eVar 4) (eC (.int 0))) (kNot (kAnd (kVal (eFrz (oCall [none, none] (aCons (eFrz (oCallP 0 1 [0] aNil (aCons (eVar 3) aNil) m_steps_of)) (aCons (eVar 6) aNil)) (noexF m__law_is_due)))) (kVal (eFrz (oCall [none, none] (aCons (eFrz (oCallP 0 1 [0] aNil (aCons (eVar 3) aNil) m_fall_row)) (aCons (eVar 7) aNil)) (noexF m__law_is_due))))))) (sRet (oFz (eC (.bool false)))) sNx)))))
def b__law_are_steps_right : SF := (sSeq (sAsg (eFrz (oCall [none] (aCons (eVar 0) aNil) (noexF m__law_triangle))) (gN 1))
  (sSeq (sAsg (eFrz (oLc [false, false, false, true, false, false, false, false] (iSeq (eVar 1)) (gN 3) kYes (eAt 3 (eC (.int 0))))) (gN 2))
  (sSeq (sFor (iEnum2 (eVar 1)) (gT 2 (gsCons (gN 4) (gsCons (gN 3) gsNil))) l__law_are_steps_right_1)
  (sRet (oFz (eC (.bool true)))))))
def m__law_are_steps_right : List OD → Res OD := mkF 8 [false] b__law_are_steps_right
/-! _law_are_values_right -/
def l__law_are_values_right_1 : SF := (sSeq (sAsg (eFrz (oCall [none, none] (aCons (eVar 0) (aCons (eVar 3) aNil)) (noexF m__law_value))) (gN 4))
  (sIf (kOr (kNot (kVal (eFrz (oCall [none, none] (aCons (eFrz (oCall [none, none] (aCons (eVar 0) (aCons (eVar 3) aNil)) (noexF m_fall_value))) (aCons (eVar 4) aNil)) (noexF m__law_is_due))))) (kNot (kVal (eFrz (oCall [none, none] (aCons (eFrz (oCallP 0 2 [0, 1] aNil (aCons (eVar 0) (aCons (eVar 3) aNil)) m_fall_value)) (aCons (eVar 4) aNil)) (noexF m__law_is_due)))))) (sRet (oFz (eC (.bool false)))) sNx))
def l__law_are_values_right_2 : SF := (sIf (kNot (kVal (eFrz (oCall [none, none] (aCons (eFrz (oCall [none, none] (aCons (eVar 0) (aCons (eVar 6) aNil)) (noexF m_row_of_fall))) (aCons (eFrz (oSlice (eVar 5) pNo (pSome (eVar 6)))) aNil)) (noexF m__law_is_due))))) (sRet (oFz (eC (.bool false)))) sNx)
def b__law_are_values_right : SF := (sSeq (sFor (iSeq (eVar 1)) (gN 3) l__law_are_values_right_1)
  (sSeq (sAsg (eFrz (oCall [none, none] (aCons (eVar 0) (aCons (eC (.int 100)) aNil)) (noexF m__law_own_row))) (gN 5))
  (sSeq (sFor (iSeq (eVar 2)) (gN 6) l__law_are_values_right_2)
  (sSeq (sAsg (eAt 2 (eFrz (oOp1 negD (eC (.int 1))))) (gN 6))
  (sSeq (sIf (kNot (kVal (eFrz (oCall [none, none] (aCons (eFrz (oCallP 0 2 [0, 1] aNil (aCons (eVar 0) (aCons (eVar 6) aNil)) m_row_of_fall)) (aCons (eFrz (oSlice (eVar 5) pNo (pSome (eVar 6)))) aNil)) (noexF m__law_is_due))))) (sRet (oFz (eC (.bool false)))) sNx)
  (sSeq (sAsg (eFrz (oSlice (eVar 5) pNo (pSome (eFrz (oBlt (one (extD maxI)) (aCons (eFrz (oLst (aCons (eFrz (oBlt (one lenD) (aCons (eVar 0) aNil))) (aCons (eC (.int 1)) aNil)))) aNil)))))) (gN 7))
  (sSeq (sIf (kCmp gtI (eFrz (oBlt (one (extD maxI)) (aCons (eFrz (oLc [false, false, false, false, false, false, false, false, true] (iSeq (eVar 7)) (gN 8) kYes (eFrz (oBlt (one absD) (aCons (eVar 8) aNil))))) aNil))) (eFrz (oOp2 powD (eC (.int 10)) (eC (.int 12))))) (sRet (oFz (eC (.bool true)))) sNx)
  (sRet (oCall [none, none] (aCons (eFrz (oCall [none] (aCons (eVar 7) aNil) (noexF m_fall_row))) (aCons (eVar 0) aNil)) (noexF m__law_is_due))))))))))
def m__law_are_values_right : List OD → Res OD := mkF 9 [false, false, false] b__law_are_values_right
/-! _law_own_error -/
def l__law_own_error_1 : SF := (sIf (kOr (kVal (eIsiV "bool" (eVar 2))) (kOr (kNot (kVal (eIsiV "int" (eVar 2)))) (kCmp gtI (eFrz (oBlt (one absD) (aCons (eVar 2) aNil))) (eFrz (oOp2 powD (eC (.int 10)) (eC (.int 12))))))) (sRet (oFz (eTup (aCons (eC (.str "item")) (aCons (eVar 1) aNil))))) sNx)
def b__law_own_error : SF := (sSeq (sIf (kOr (kNot (kVal (eIsiV "tuple" (eVar 0)))) (kOr (kCmp ltI (eFrz (oBlt (one lenD) (aCons (eVar 0) aNil))) (eC (.int 1))) (kCmp gtI (eFrz (oBlt (one lenD) (aCons (eVar 0) aNil))) (eC (.int 20))))) (sRet (oFz (eC (.str "form")))) sNx)
  (sSeq (sFor (iEnum2 (eVar 0)) (gT 2 (gsCons (gN 1) (gsCons (gN 2) gsNil))) l__law_own_error_1)
  (sRet (oFz (eC .none)))))
def m__law_own_error : List OD → Res OD := mkF 3 [false] b__law_own_error
/-! _law_odd_ones -/
def b__law_odd_ones : SF := (sSeq (sAsg (eFrz (oOp2 addD (eFrz (oOp2 powD (eC (.int 10)) (eC (.int 12)))) (eC (.int 1)))) (gN 0))
  (sRet (oLst (aCons (eC (.bool true)) (aCons (eC (.bool false)) (aCons (eC .none) (aCons (eC (.str "")) (aCons (eC (.str "7")) (aCons (eTup aNil) (aCons (eTup (aCons (eC (.int 1)) aNil)) (aCons (eFrz (oLst aNil)) (aCons (eFrz (oLst (aCons (eC (.int 3)) aNil))) (aCons (eC (.dict [])) (aCons (eVar 0) (aCons (eFrz (oOp1 negD (eVar 0))) (aCons (eFrz (oOp2 powD (eFrz (oOp2 powD (eC (.int 10)) (eC (.int 57)))) (eC (.int 7)))) (aCons (eFrz (oOp1 negD (eFrz (oOp2 powD (eC (.int 10)) (eC (.int 24)))))) aNil)))))))))))))))))
def m__law_odd_ones : List OD → Res OD := mkF 1 [] b__law_odd_ones
/-! _law_spoilt -/
def b__law_spoilt : SF := (sRet (oOp2 addD (eFrz (oOp2 addD (eFrz (oSlice (eVar 0) pNo (pSome (eVar 1)))) (eTup (aCons (eVar 2) aNil)))) (eFrz (oSlice (eVar 0) (pSome (eFrz (oOp2 addD (eVar 1) (eC (.int 1))))) pNo))))
def m__law_spoilt : List OD → Res OD := mkF 3 [false, false, false] b__law_spoilt
/-! _law_some_values -/
def l__law_some_values_1 : SF := (sSeq (sExp (eAppend 4 (eFrz (oCall [none, none, none] (aCons (eVar 1) (aCons (eFrz (oCall [some 0, none] (aRef 0 (aCons (eFrz (oBlt (one lenD) (aCons (eVar 1) aNil))) aNil)) (noexF m__law_draw))) (aCons (eVar 5) aNil))) (noexF m__law_spoilt)))))
  (sExp (eAppend 4 (eFrz (oOp2 addD (eFrz (oSlice (eVar 1) pNo (pSome (eFrz (oOp1 negD (eC (.int 1))))))) (eTup (aCons (eVar 5) aNil)))))))
def l__law_some_values_2 : SF := (sSeq (sPar [7, 8] (aoCons (oFz (eFrz (oCall [some 0, none] (aRef 0 (aCons (eC (.int 20)) aNil)) (noexF m__law_draw)))) (aoCons (oFz (eFrz (oCall [some 0, none] (aRef 0 (aCons (eC (.int 20)) aNil)) (noexF m__law_draw)))) aoNil)))
  (sSeq (sAsg (eFrz (oSlice (eFrz (oOp2 addD (eVar 1) (eFrz (oOp2 timesD (eTup (aCons (eC (.int 0)) aNil)) (eC (.int 20)))))) pNo (pSome (eC (.int 20))))) (gN 9))
  (sSeq (sAsg (eFrz (oCall [none, none, none] (aCons (eVar 9) (aCons (eVar 7) (aCons (eFrz (oCall [some 0, none] (aRef 0 (aCons (eVar 3) aNil)) (noexF m__law_pick))) aNil))) (noexF m__law_spoilt))) (gN 10))
  (sSeq (sExp (eExtend 4 (eFrz (oLst (aCons (eVar 10) (aCons (eFrz (oCall [none, none, none] (aCons (eVar 10) (aCons (eVar 8) (aCons (eFrz (oCall [some 0, none] (aRef 0 (aCons (eVar 3) aNil)) (noexF m__law_pick))) aNil))) (noexF m__law_spoilt))) (aCons (eFrz (oOp2 addD (eVar 10) (eTup (aCons (eC (.int 0)) aNil)))) (aCons (eFrz (oOp2 addD (eTup (aCons (eFrz (oOp2 powD (eC (.int 10)) (eC (.int 13)))) aNil)) (eVar 9))) aNil))))))))
  (sExp (eExtend 4 (eFrz (oLst (aCons (eVar 9) (aCons (eFrz (oOp2 addD (eVar 9) (eTup (aCons (eC (.int 0)) aNil)))) (aCons (eFrz (oOp2 addD (eVar 9) (eVar 9))) aNil)))))))))))
def l__law_some_values_3 : SF := (sExp (eExtend 4 (eFrz (oLst (aCons (eTup (aCons (eVar 11) aNil)) (aCons (eFrz (oOp2 timesD (eTup (aCons (eVar 11) aNil)) (eC (.int 20)))) (aCons (eFrz (oOp2 timesD (eTup (aCons (eVar 11) aNil)) (eC (.int 21)))) (aCons (eFrz (oOp2 addD (eFrz (oOp2 timesD (eTup (aCons (eC (.int 0)) aNil)) (eC (.int 19)))) (eTup (aCons (eVar 11) aNil)))) aNil))))))))
def b__law_some_values : SF := (sSeq (sPar [3, 4] (aoCons (oFz (eFrz (oCall [] aNil (noexF m__law_odd_ones)))) (aoCons (oLst (aCons (eC .none) (aCons (eC (.int 5)) (aCons (eC (.int 0)) (aCons (eC (.bool true)) (aCons (eC (.str "form")) (aCons (eC (.str "")) (aCons (eFrz (oLst aNil)) (aCons (eTup aNil) (aCons (eC (.dict [])) (aCons (eC (.dict [(.int 0, (.int 1))])) (aCons (eFrz (oBlt (one listD) (aCons (eVar 1) aNil))) (aCons (eTup (aCons (eVar 1) aNil)) aNil))))))))))))) aoNil)))
  (sSeq (sFor (iSeq (eVar 3)) (gN 5) l__law_some_values_1)
  (sSeq (sFor (iRange1 (eC (.int 6))) (gN 6) l__law_some_values_2)
  (sSeq (sFor (iSeq (eFrz (oLst (aCons (eFrz (oOp2 powD (eC (.int 10)) (eC (.int 12)))) (aCons (eFrz (oOp1 negD (eFrz (oOp2 powD (eC (.int 10)) (eC (.int 12)))))) aNil))))) (gN 11) l__law_some_values_3)
  (sSeq (sExp (eExtend 4 (eFrz (oLst (aCons (eFrz (oOp2 timesD (eTup (aCons (eC (.int 0)) aNil)) (eC (.int 30000)))) (aCons (eFrz (oOp2 mulD (eFrz (oLst (aCons (eC (.int 0)) aNil))) (eC (.int 20)))) (aCons (eFrz (oOp2 timesD (eC (.str "0")) (eC (.int 20000)))) (aCons (eFrz (oOp2 timesD (eTup (aCons (eTup aNil) aNil)) (eC (.int 20)))) (aCons (eFrz (oOp2 timesD (eTup (aCons (eFrz (oLst aNil)) aNil)) (eC (.int 21)))) aNil)))))))))
  (sSeq (sAsg (eFrz (oCall [none, none] (aCons (eVar 2) (aCons (eC (.int 20)) aNil)) (noexF m_row_of_fall))) (gN 12))
  (sSeq (sExp (eExtend 4 (eFrz (oLst (aCons (eVar 12) (aCons (eFrz (oSlice (eVar 12) pNo (pSome (eC (.int 3))))) (aCons (eFrz (oCall [none, none] (aCons (eVar 2) (aCons (eC (.int 100)) aNil)) (noexF m_row_of_fall))) (aCons (eFrz (oCall [none, none] (aCons (eVar 2) (aCons (eC (.int 0)) aNil)) (noexF m_row_of_fall))) aNil))))))))
  (sRet (oOp2 addD (eVar 4) (eFrz (oLst (aCons (eFrz (oCall [none] (aCons (eVar 1) aNil) (noexF m_steps_of))) (aCons (eFrz (oCall [none] (aCons (eVar 1) aNil) (noexF m_fall_row))) aNil)))))))))))))
def m__law_some_values : List OD → Res OD := mkF 13 [true, false, false] b__law_some_values
/-! _law_is_judge_right -/
def l__law_is_judge_right_1 : SF := (sSeq (sPar [5, 6] (aoCons (oFz (eFrz (oCall [none] (aCons (eVar 4) aNil) (noexF m__law_own_error)))) (aoCons (oFz (eFrz (oBlt (one reprV) (aCons (eVar 4) aNil)))) aoNil)))
  (sSeq (sIf (kOr (kNot (kVal (eFrz (oCall [none, none] (aCons (eFrz (oCall [none] (aCons (eVar 4) aNil) (noexF m_step_row_error))) (aCons (eVar 5) aNil)) (noexF m__law_is_due))))) (kNot (kVal (eFrz (oCall [none, none] (aCons (eFrz (oCallP 0 1 [0] aNil (aCons (eVar 4) aNil) m_step_row_error)) (aCons (eVar 5) aNil)) (noexF m__law_is_due)))))) (sRet (oFz (eC (.bool false)))) sNx)
  (sIf (kCmp neD (eFrz (oBlt (one reprV) (aCons (eVar 4) aNil))) (eVar 6)) (sRet (oFz (eC (.bool false)))) sNx)))
def b__law_is_judge_right : SF := (sSeq (sAsg (eFrz (oCall [some 0, none, none] (aRef 0 (aCons (eVar 1) (aCons (eVar 2) aNil))) (noexF m__law_some_values))) (gN 3))
  (sSeq (sFor (iSeq (eVar 3)) (gN 4) l__law_is_judge_right_1)
  (sRet (oFz (eC (.bool true))))))
def m__law_is_judge_right : List OD → Res OD := mkF 7 [true, false, false] b__law_is_judge_right
/-! law -/
def l_law_1 : SF := (sIf (kNot (kVal (eFrz (oCall [none, none, none] (aCons (eVar 8) (aCons (eVar 6) (aCons (eVar 7) aNil))) (noexF m__law_are_values_right))))) (sRet (oFz (eC (.bool false)))) sNx)
def l_law_2 : SF := (sIf (kNot (kVal (eFrz (oCall [none] (aCons (eVar 9) aNil) (noexF m__law_are_steps_right))))) (sRet (oFz (eC (.bool false)))) sNx)
def b_law : SF := (sSeq (sSet 1 (oCall [none] (aCons (eVar 0) aNil) (noexF m__law_own_bag)))
  (sSeq (sPar [2, 3, 4] (aoCons (oFz (eFrz (oCall [some 1] (aRef 1 aNil) (noexF m__law_rows)))) (aoCons (oFz (eFrz (oCall [some 1, none] (aRef 1 (aCons (eFrz (oOp2 powD (eC (.int 10)) (eC (.int 30)))) aNil)) (noexF m__law_fall)))) (aoCons (oFz (eFrz (oCall [some 1, none] (aRef 1 (aCons (eC (.int 9)) aNil)) (noexF m__law_fall)))) aoNil))))
  (sSeq (sAsg (eFrz (oLst (aCons (eVar 3) (aCons (eFrz (oCall [some 1, none, none] (aRef 1 (aCons (eVar 3) (aCons (eFrz (oOp2 powD (eC (.int 10)) (eC (.int 30)))) aNil))) (noexF m__law_twin))) (aCons (eVar 4) (aCons (eTup aNil) aNil)))))) (gN 5))
  (sSeq (sSet 6 (oLst (aCons (eC (.int 0)) (aCons (eFrz (oOp1 negD (eC (.int 1)))) (aCons (eC (.int 1)) (aCons (eFrz (oCall [some 1, none] (aRef 1 (aCons (eC (.int 60)) aNil)) (noexF m__law_draw))) (aCons (eFrz (oOp2 subD (eFrz (oOp1 negD (eC (.int 1)))) (eFrz (oCall [some 1, none] (aRef 1 (aCons (eC (.int 60)) aNil)) (noexF m__law_draw))))) aNil)))))))
  (sSeq (sExp (eExtend 6 (eFrz (oLst (aCons (eFrz (oCall [some 1, none] (aRef 1 (aCons (eFrz (oOp2 powD (eC (.int 10)) (eC (.int 30)))) aNil)) (noexF m__law_number))) (aCons (eFrz (oCall [some 1, none] (aRef 1 (aCons (eFrz (oLst (aCons (eFrz (oOp2 powD (eC (.int 10)) (eC (.int 30)))) (aCons (eFrz (oOp1 negD (eFrz (oOp2 powD (eC (.int 10)) (eC (.int 30)))))) aNil)))) aNil)) (noexF m__law_pick))) aNil))))))
  (sSeq (sAsg (eFrz (oLst (aCons (eFrz (oCall [some 1, none] (aRef 1 (aCons (eC (.int 2)) aNil)) (noexF m__law_draw))) (aCons (eC (.int 100)) (aCons (eC (.int 20)) (aCons (eFrz (oCall [some 1, none] (aRef 1 (aCons (eC (.int 101)) aNil)) (noexF m__law_draw))) aNil)))))) (gN 7))
  (sSeq (sFor (iSeq (eVar 5)) (gN 8) l_law_1)
  (sSeq (sFor (iSeq (eVar 2)) (gN 9) l_law_2)
  (sSeq (sIf (kOr (kNot (kVal (eFrz (oCall [some 1, none, none] (aRef 1 (aCons (eAt 2 (eC (.int 0))) (aCons (eVar 3) aNil))) (noexF m__law_is_judge_right))))) (kNot (kVal (eFrz (oCall [none] (aCons (eAt 2 (eC (.int 0))) aNil) (noexF m__law_are_steps_right)))))) (sRet (oFz (eC (.bool false)))) sNx)
  (sRet (oCall [none, none, none] (aCons (eVar 3) (aCons (eVar 6) (aCons (eVar 7) aNil))) (noexF m__law_are_values_right))))))))))))
def m_law : List OD → Res OD := mkF 10 [false] b_law
end G_k79

set_option Elab.async false
set_option linter.all false
set_option autoImplicit false
set_option maxRecDepth 100000
set_option maxHeartbeats 0
namespace G_k79
open PySem PySem.Spec L2 MI
/-! ### the text -/
def topS (i : Nat) : Stmt := PySem.Challenge.pw_leadterms_k79_whole_steps_and_values.main.body.getD i (.Pass ⟨0, 0, 0, 0⟩)
abbrev s_is_number : Stmt := topS 3
abbrev s_is_within : Stmt := topS 4
abbrev s_step_row_error : Stmt := topS 6
abbrev s_steps_of : Stmt := topS 7
abbrev s_fall_trimmed : Stmt := topS 8
abbrev s_fall_row : Stmt := topS 9
abbrev s_choices_row : Stmt := topS 10
abbrev s_fall_value : Stmt := topS 11
abbrev s_row_of_fall : Stmt := topS 12
abbrev s__law_own_bag : Stmt := topS 14
abbrev s__law_draw : Stmt := topS 15
abbrev s__law_pick : Stmt := topS 16
abbrev s__law_number : Stmt := topS 17
abbrev s__law_is_due : Stmt := topS 18
abbrev s__law_fall : Stmt := topS 19
abbrev s__law_twin : Stmt := topS 20
abbrev s__law_value : Stmt := topS 21
abbrev s__law_triangle : Stmt := topS 22
abbrev s__law_cut : Stmt := topS 23
abbrev s__law_own_row : Stmt := topS 24
abbrev s__law_any_row : Stmt := topS 25
abbrev s__law_twin_row : Stmt := topS 27
abbrev s__law_rows : Stmt := topS 26
abbrev s__law_are_steps_right : Stmt := topS 28
abbrev s__law_are_values_right : Stmt := topS 29
abbrev s__law_own_error : Stmt := topS 30
abbrev s__law_odd_ones : Stmt := topS 31
abbrev s__law_spoilt : Stmt := topS 32
abbrev s__law_some_values : Stmt := topS 33
abbrev s__law_is_judge_right : Stmt := topS 34
abbrev s_law : Stmt := topS 35
theorem sc_is_number : FnScope ["value"] ["value"] (defScope s_is_number) := ⟨rfl, rfl, rfl, by decide +kernel, rfl, by decide +kernel, by decide +kernel⟩
theorem sc_is_within : FnScope ["value", "least", "most"] ["value", "least", "most"] (defScope s_is_within) := ⟨rfl, rfl, rfl, by decide +kernel, rfl, by decide +kernel, by decide +kernel⟩
theorem sc_step_row_error : FnScope ["value", "odd", "place", "item"] ["value"] (defScope s_step_row_error) := ⟨rfl, rfl, rfl, by decide +kernel, rfl, by decide +kernel, by decide +kernel⟩
theorem sc_steps_of : FnScope ["row", "here", "later"] ["row"] (defScope s_steps_of) := ⟨rfl, rfl, rfl, by decide +kernel, rfl, by decide +kernel, by decide +kernel⟩
theorem sc_fall_trimmed : FnScope ["row", "many"] ["row"] (defScope s_fall_trimmed) := ⟨rfl, rfl, rfl, by decide +kernel, rfl, by decide +kernel, by decide +kernel⟩
theorem sc_fall_row : FnScope ["row", "found", "left", "turn"] ["row"] (defScope s_fall_row) := ⟨rfl, rfl, rfl, by decide +kernel, rfl, by decide +kernel, by decide +kernel⟩
theorem sc_choices_row : FnScope ["x", "many", "found", "i"] ["x", "many"] (defScope s_choices_row) := ⟨rfl, rfl, rfl, by decide +kernel, rfl, by decide +kernel, by decide +kernel⟩
theorem sc_fall_value : FnScope ["fall", "x", "item", "number"] ["fall", "x"] (defScope s_fall_value) := ⟨rfl, rfl, rfl, by decide +kernel, rfl, by decide +kernel, by decide +kernel⟩
theorem sc_row_of_fall : FnScope ["fall", "many", "x"] ["fall", "many"] (defScope s_row_of_fall) := ⟨rfl, rfl, rfl, by decide +kernel, rfl, by decide +kernel, by decide +kernel⟩
theorem sc__law_own_bag : FnScope ["script", "cells", "cell", "mixed"] ["script"] (defScope s__law_own_bag) := ⟨rfl, rfl, rfl, by decide +kernel, rfl, by decide +kernel, by decide +kernel⟩
theorem sc__law_draw : FnScope ["bag", "below", "cell", "found"] ["bag", "below"] (defScope s__law_draw) := ⟨rfl, rfl, rfl, by decide +kernel, rfl, by decide +kernel, by decide +kernel⟩
theorem sc__law_pick : FnScope ["bag", "some"] ["bag", "some"] (defScope s__law_pick) := ⟨rfl, rfl, rfl, by decide +kernel, rfl, by decide +kernel, by decide +kernel⟩
theorem sc__law_number : FnScope ["bag", "most", "way", "found", "turn"] ["bag", "most"] (defScope s__law_number) := ⟨rfl, rfl, rfl, by decide +kernel, rfl, by decide +kernel, by decide +kernel⟩
theorem sc__law_is_due : FnScope ["told", "due"] ["told", "due"] (defScope s__law_is_due) := ⟨rfl, rfl, rfl, by decide +kernel, rfl, by decide +kernel, by decide +kernel⟩
theorem sc__law_fall : FnScope ["bag", "most", "many", "row", "k"] ["bag", "most"] (defScope s__law_fall) := ⟨rfl, rfl, rfl, by decide +kernel, rfl, by decide +kernel, by decide +kernel⟩
theorem sc__law_twin : FnScope ["bag", "fall", "most", "at", "row"] ["bag", "fall", "most"] (defScope s__law_twin) := ⟨rfl, rfl, rfl, by decide +kernel, rfl, by decide +kernel, by decide +kernel⟩
theorem sc__law_value : FnScope ["fall", "x", "found", "over", "i", "item"] ["fall", "x"] (defScope s__law_value) := ⟨rfl, rfl, rfl, by decide +kernel, rfl, by decide +kernel, by decide +kernel⟩
theorem sc__law_triangle : FnScope ["row", "found", "turn", "ahead", "k"] ["row"] (defScope s__law_triangle) := ⟨rfl, rfl, rfl, by decide +kernel, rfl, by decide +kernel, by decide +kernel⟩
theorem sc__law_cut : FnScope ["items", "row"] ["items"] (defScope s__law_cut) := ⟨rfl, rfl, rfl, by decide +kernel, rfl, by decide +kernel, by decide +kernel⟩
theorem sc__law_own_row : FnScope ["fall", "many", "found", "state", "turn", "k"] ["fall", "many"] (defScope s__law_own_row) := ⟨rfl, rfl, rfl, by decide +kernel, rfl, by decide +kernel, by decide +kernel⟩
theorem sc__law_any_row : FnScope ["bag", "many", "k"] ["bag"] (defScope s__law_any_row) := ⟨rfl, rfl, rfl, by decide +kernel, rfl, by decide +kernel, by decide +kernel⟩
theorem sc__law_twin_row : FnScope ["bag", "row", "found", "at"] ["bag", "row"] (defScope s__law_twin_row) := ⟨rfl, rfl, rfl, by decide +kernel, rfl, by decide +kernel, by decide +kernel⟩
theorem sc__law_rows : FnScope ["bag", "first", "fall", "k", "even", "lone", "sign", "edge"] ["bag"] (defScope s__law_rows) := ⟨rfl, rfl, rfl, by decide +kernel, rfl, by decide +kernel, by decide +kernel⟩
theorem sc__law_are_steps_right : FnScope ["row", "triangle", "items", "own", "k", "item", "later", "fall"] ["row"] (defScope s__law_are_steps_right) := ⟨rfl, rfl, rfl, by decide +kernel, rfl, by decide +kernel, by decide +kernel⟩
theorem sc__law_are_values_right : FnScope ["fall", "places", "lengths", "x", "due", "whole", "many", "row", "item"] ["fall", "places", "lengths"] (defScope s__law_are_values_right) := ⟨rfl, rfl, rfl, by decide +kernel, rfl, by decide +kernel, by decide +kernel⟩
theorem sc__law_own_error : FnScope ["value", "k", "item"] ["value"] (defScope s__law_own_error) := ⟨rfl, rfl, rfl, by decide +kernel, rfl, by decide +kernel, by decide +kernel⟩
theorem sc__law_odd_ones : FnScope ["great"] [] (defScope s__law_odd_ones) := ⟨rfl, rfl, rfl, by decide +kernel, rfl, by decide +kernel, by decide +kernel⟩
theorem sc__law_spoilt : FnScope ["row", "at", "odd"] ["row", "at", "odd"] (defScope s__law_spoilt) := ⟨rfl, rfl, rfl, by decide +kernel, rfl, by decide +kernel, by decide +kernel⟩
theorem sc__law_some_values : FnScope ["bag", "row", "fall", "odd_ones", "some", "odd", "turn", "at", "later", "wide", "one", "bound", "told_row"] ["bag", "row", "fall"] (defScope s__law_some_values) := ⟨rfl, rfl, rfl, by decide +kernel, rfl, by decide +kernel, by decide +kernel⟩
theorem sc__law_is_judge_right : FnScope ["bag", "row", "fall", "some", "value", "due", "kept"] ["bag", "row", "fall"] (defScope s__law_is_judge_right) := ⟨rfl, rfl, rfl, by decide +kernel, rfl, by decide +kernel, by decide +kernel⟩
theorem sc_law : FnScope ["script", "bag", "rows", "first", "small", "falls", "places", "lengths", "fall", "row"] ["script"] (defScope s_law) := ⟨rfl, rfl, rfl, by decide +kernel, rfl, by decide +kernel, by decide +kernel⟩
structure Facts (K : PySem.W.Frag) (mg : Str → Option Value) where
  f_is_number : Addr
  fd_is_number : FuncData
  f_is_within : Addr
  fd_is_within : FuncData
  f_step_row_error : Addr
  fd_step_row_error : FuncData
  f_steps_of : Addr
  fd_steps_of : FuncData
  f_fall_trimmed : Addr
  fd_fall_trimmed : FuncData
  f_fall_row : Addr
  fd_fall_row : FuncData
  f_choices_row : Addr
  fd_choices_row : FuncData
  f_fall_value : Addr
  fd_fall_value : FuncData
  f_row_of_fall : Addr
  fd_row_of_fall : FuncData
  f__law_own_bag : Addr
  fd__law_own_bag : FuncData
  f__law_draw : Addr
  fd__law_draw : FuncData
  f__law_pick : Addr
  fd__law_pick : FuncData
  f__law_number : Addr
  fd__law_number : FuncData
  f__law_is_due : Addr
  fd__law_is_due : FuncData
  f__law_fall : Addr
  fd__law_fall : FuncData
  f__law_twin : Addr
  fd__law_twin : FuncData
  f__law_value : Addr
  fd__law_value : FuncData
  f__law_triangle : Addr
  fd__law_triangle : FuncData
  f__law_cut : Addr
  fd__law_cut : FuncData
  f__law_own_row : Addr
  fd__law_own_row : FuncData
  f__law_any_row : Addr
  fd__law_any_row : FuncData
  f__law_twin_row : Addr
  fd__law_twin_row : FuncData
  f__law_rows : Addr
  fd__law_rows : FuncData
  f__law_are_steps_right : Addr
  fd__law_are_steps_right : FuncData
  f__law_are_values_right : Addr
  fd__law_are_values_right : FuncData
  f__law_own_error : Addr
  fd__law_own_error : FuncData
  f__law_odd_ones : Addr
  fd__law_odd_ones : FuncData
  f__law_spoilt : Addr
  fd__law_spoilt : FuncData
  f__law_some_values : Addr
  fd__law_some_values : FuncData
  f__law_is_judge_right : Addr
  fd__law_is_judge_right : FuncData
  f_law : Addr
  fd_law : FuncData
  F_is_number : Fun K "is_number" "is_number" s_is_number f_is_number fd_is_number
  g_is_number : mg "is_number" = some (.ref f_is_number)
  b_is_number : Binds K fd_is_number ["value"] []
  F_is_within : Fun K "is_within" "is_within" s_is_within f_is_within fd_is_within
  g_is_within : mg "is_within" = some (.ref f_is_within)
  b_is_within : Binds K fd_is_within ["value", "least", "most"] []
  F_step_row_error : Fun K "step_row_error" "step_row_error" s_step_row_error f_step_row_error fd_step_row_error
  g_step_row_error : mg "step_row_error" = some (.ref f_step_row_error)
  b_step_row_error : Binds K fd_step_row_error ["value"] []
  F_steps_of : Fun K "steps_of" "steps_of" s_steps_of f_steps_of fd_steps_of
  g_steps_of : mg "steps_of" = some (.ref f_steps_of)
  b_steps_of : Binds K fd_steps_of ["row"] []
  F_fall_trimmed : Fun K "fall_trimmed" "fall_trimmed" s_fall_trimmed f_fall_trimmed fd_fall_trimmed
  g_fall_trimmed : mg "fall_trimmed" = some (.ref f_fall_trimmed)
  b_fall_trimmed : Binds K fd_fall_trimmed ["row"] []
  F_fall_row : Fun K "fall_row" "fall_row" s_fall_row f_fall_row fd_fall_row
  g_fall_row : mg "fall_row" = some (.ref f_fall_row)
  b_fall_row : Binds K fd_fall_row ["row"] []
  F_choices_row : Fun K "choices_row" "choices_row" s_choices_row f_choices_row fd_choices_row
  g_choices_row : mg "choices_row" = some (.ref f_choices_row)
  b_choices_row : Binds K fd_choices_row ["x", "many"] []
  F_fall_value : Fun K "fall_value" "fall_value" s_fall_value f_fall_value fd_fall_value
  g_fall_value : mg "fall_value" = some (.ref f_fall_value)
  b_fall_value : Binds K fd_fall_value ["fall", "x"] []
  F_row_of_fall : Fun K "row_of_fall" "row_of_fall" s_row_of_fall f_row_of_fall fd_row_of_fall
  g_row_of_fall : mg "row_of_fall" = some (.ref f_row_of_fall)
  b_row_of_fall : Binds K fd_row_of_fall ["fall", "many"] []
  F__law_own_bag : Fun K "_law_own_bag" "_law_own_bag" s__law_own_bag f__law_own_bag fd__law_own_bag
  g__law_own_bag : mg "_law_own_bag" = some (.ref f__law_own_bag)
  b__law_own_bag : Binds K fd__law_own_bag ["script"] []
  F__law_draw : Fun K "_law_draw" "_law_draw" s__law_draw f__law_draw fd__law_draw
  g__law_draw : mg "_law_draw" = some (.ref f__law_draw)
  b__law_draw : Binds K fd__law_draw ["bag", "below"] []
  F__law_pick : Fun K "_law_pick" "_law_pick" s__law_pick f__law_pick fd__law_pick
  g__law_pick : mg "_law_pick" = some (.ref f__law_pick)
  b__law_pick : Binds K fd__law_pick ["bag", "some"] []
  F__law_number : Fun K "_law_number" "_law_number" s__law_number f__law_number fd__law_number
  g__law_number : mg "_law_number" = some (.ref f__law_number)
  b__law_number : Binds K fd__law_number ["bag", "most"] []
  F__law_is_due : Fun K "_law_is_due" "_law_is_due" s__law_is_due f__law_is_due fd__law_is_due
  g__law_is_due : mg "_law_is_due" = some (.ref f__law_is_due)
  b__law_is_due : Binds K fd__law_is_due ["told", "due"] []
  F__law_fall : Fun K "_law_fall" "_law_fall" s__law_fall f__law_fall fd__law_fall
  g__law_fall : mg "_law_fall" = some (.ref f__law_fall)
  b__law_fall : Binds K fd__law_fall ["bag", "most"] []
  F__law_twin : Fun K "_law_twin" "_law_twin" s__law_twin f__law_twin fd__law_twin
  g__law_twin : mg "_law_twin" = some (.ref f__law_twin)
  b__law_twin : Binds K fd__law_twin ["bag", "fall", "most"] []
  F__law_value : Fun K "_law_value" "_law_value" s__law_value f__law_value fd__law_value
  g__law_value : mg "_law_value" = some (.ref f__law_value)
  b__law_value : Binds K fd__law_value ["fall", "x"] []
  F__law_triangle : Fun K "_law_triangle" "_law_triangle" s__law_triangle f__law_triangle fd__law_triangle
  g__law_triangle : mg "_law_triangle" = some (.ref f__law_triangle)
  b__law_triangle : Binds K fd__law_triangle ["row"] []
  F__law_cut : Fun K "_law_cut" "_law_cut" s__law_cut f__law_cut fd__law_cut
  g__law_cut : mg "_law_cut" = some (.ref f__law_cut)
  b__law_cut : Binds K fd__law_cut ["items"] []
  F__law_own_row : Fun K "_law_own_row" "_law_own_row" s__law_own_row f__law_own_row fd__law_own_row
  g__law_own_row : mg "_law_own_row" = some (.ref f__law_own_row)
  b__law_own_row : Binds K fd__law_own_row ["fall", "many"] []
  F__law_any_row : Fun K "_law_any_row" "_law_any_row" s__law_any_row f__law_any_row fd__law_any_row
  g__law_any_row : mg "_law_any_row" = some (.ref f__law_any_row)
  b__law_any_row : Binds K fd__law_any_row ["bag"] []
  F__law_twin_row : Fun K "_law_twin_row" "_law_twin_row" s__law_twin_row f__law_twin_row fd__law_twin_row
  g__law_twin_row : mg "_law_twin_row" = some (.ref f__law_twin_row)
  b__law_twin_row : Binds K fd__law_twin_row ["bag", "row"] []
  F__law_rows : Fun K "_law_rows" "_law_rows" s__law_rows f__law_rows fd__law_rows
  g__law_rows : mg "_law_rows" = some (.ref f__law_rows)
  b__law_rows : Binds K fd__law_rows ["bag"] []
  F__law_are_steps_right : Fun K "_law_are_steps_right" "_law_are_steps_right" s__law_are_steps_right f__law_are_steps_right fd__law_are_steps_right
  g__law_are_steps_right : mg "_law_are_steps_right" = some (.ref f__law_are_steps_right)
  b__law_are_steps_right : Binds K fd__law_are_steps_right ["row"] []
  F__law_are_values_right : Fun K "_law_are_values_right" "_law_are_values_right" s__law_are_values_right f__law_are_values_right fd__law_are_values_right
  g__law_are_values_right : mg "_law_are_values_right" = some (.ref f__law_are_values_right)
  b__law_are_values_right : Binds K fd__law_are_values_right ["fall", "places", "lengths"] []
  F__law_own_error : Fun K "_law_own_error" "_law_own_error" s__law_own_error f__law_own_error fd__law_own_error
  g__law_own_error : mg "_law_own_error" = some (.ref f__law_own_error)
  b__law_own_error : Binds K fd__law_own_error ["value"] []
  F__law_odd_ones : Fun K "_law_odd_ones" "_law_odd_ones" s__law_odd_ones f__law_odd_ones fd__law_odd_ones
  g__law_odd_ones : mg "_law_odd_ones" = some (.ref f__law_odd_ones)
  b__law_odd_ones : Binds K fd__law_odd_ones [] []
  F__law_spoilt : Fun K "_law_spoilt" "_law_spoilt" s__law_spoilt f__law_spoilt fd__law_spoilt
  g__law_spoilt : mg "_law_spoilt" = some (.ref f__law_spoilt)
  b__law_spoilt : Binds K fd__law_spoilt ["row", "at", "odd"] []
  F__law_some_values : Fun K "_law_some_values" "_law_some_values" s__law_some_values f__law_some_values fd__law_some_values
  g__law_some_values : mg "_law_some_values" = some (.ref f__law_some_values)
  b__law_some_values : Binds K fd__law_some_values ["bag", "row", "fall"] []
  F__law_is_judge_right : Fun K "_law_is_judge_right" "_law_is_judge_right" s__law_is_judge_right f__law_is_judge_right fd__law_is_judge_right
  g__law_is_judge_right : mg "_law_is_judge_right" = some (.ref f__law_is_judge_right)
  b__law_is_judge_right : Binds K fd__law_is_judge_right ["bag", "row", "fall"] []
  F_law : Fun K "law" "law" s_law f_law fd_law
  g_law : mg "law" = some (.ref f_law)
  b_law : Binds K fd_law ["script"] []
  dig : PySem.W.nsIn K cStatics "sys.int_max_str_digits" = some none
  z_abs : mg "abs" = none
  z_bool : mg "bool" = none
  z_enumerate : mg "enumerate" = none
  z_int : mg "int" = none
  z_isinstance : mg "isinstance" = none
  z_len : mg "len" = none
  z_list : mg "list" = none
  z_max : mg "max" = none
  z_range : mg "range" = none
  z_repr : mg "repr" = none
  z_reversed : mg "reversed" = none
  z_str : mg "str" = none
  z_sum : mg "sum" = none
  z_tuple : mg "tuple" = none
  z_zip : mg "zip" = none
  v_MAX_STEP : ∃ t : Tok, mg "MAX_STEP" = some (.int 1000000000000 t)
  v_MAX_STEPS : ∃ t : Tok, mg "MAX_STEPS" = some (.int 20 t)
section
variable {P : Program} {w : World} {K : PySem.W.Frag} {mg : Str → Option Value} {base : Heap}
theorem ok_is_number (J : Facts K mg) : FnG P w K mg base CX0 1 J.f_is_number J.fd_is_number ["value"] (spF K noEr false 1 m_is_number) := okF J.F_is_number sc_is_number rfl fun cdv A outer s H XE hG hr =>
    (mss_one (ms_ret (mo_fz (me_and (me_isiV rfl (by rfl) J.z_isinstance (by rfl) J.z_int rfl (by decide) (by decide) (me_var (pv 0))) (me_one (me_not (me_isiV rfl (by rfl) J.z_isinstance (by rfl) J.z_bool rfl (by decide) (by decide) (me_var (pv 0)))))))))
theorem ok_is_within (J : Facts K mg) : FnG P w K mg base CX0 2 J.f_is_within J.fd_is_within ["value", "least", "most"] (spF K noEr false 3 m_is_within) := okF J.F_is_within sc_is_within rfl fun cdv A outer s H XE hG hr =>
    (mss_one (ms_ret (mo_fz (me_and (me_frz (mo_call (ok_is_number J) hG (hr.mono (by decide)) (by rfl) J.g_is_number J.F_is_number.kp J.b_is_number (mr_val (me_var (pv 0)) mr_nil))) (me_one (me_chain op_le op_le leI_ok leI_ok (me_var (pv 1)) (me_var (pv 0)) (me_var (pv 2))))))))
theorem ok_step_row_error (J : Facts K mg) : FnG P w K mg base CX0 3 J.f_step_row_error J.fd_step_row_error ["value"] (spF K noEr false 1 m_step_row_error) := okF J.F_step_row_error sc_step_row_error rfl fun cdv A outer s H XE hG hr =>
    (mss_cons (ms_if (MW.mt (mw_or (mt_not (mt_val (me_isiV rfl (by rfl) J.z_isinstance (by rfl) J.z_tuple rfl (by decide) (by decide) (me_var (pv 0))))) (mw_or1 (mt_not (mt_chain op_le op_le leI_ok leI_ok me_int (me_frz (mo_len rfl (by rfl) J.z_len (me_var (pv 0)))) (me_glI (by rfl) J.v_MAX_STEPS.choose_spec)))))) (mss_one (ms_ret (mo_fz me_str))) mss_nil)
    (mss_cons (ms_asgLc (i := 1) (own := [("place", 2), ("item", 3)]) (ow := [false, false, true, true]) rfl sc_step_row_error.nd rfl rfl (sw_true rfl rfl rfl (by decide +kernel)) (blkOk_by (N := ["value", "odd", "place", "item"]) (sc := defScope s_step_row_error) (by decide +kernel)) (show Flags [false, false, true, true] 4 [2, 3] from by unfold Flags; decide) (mi_enum rfl (by rfl) J.z_enumerate (me_var (pv 0))) (fun _ _ _ _ _ => (mg_tup rfl rfl (mgs_cons (mg_name sc_step_row_error.nd rfl (by first | exact .inl rfl | exact .inr rfl)) (mgs_cons (mg_name sc_step_row_error.nd rfl (by first | exact .inl rfl | exact .inr rfl)) mgs_nil)))) (fun _ _ _ _ _ => (pts_if (mt_not (mt_val (me_frz (mo_call (ok_is_within J) hG (hr.mono (by decide)) (by rfl) J.g_is_within J.F_is_within.kp J.b_is_within (mr_val (me_var (pv 3)) (mr_val (me_frz (mo_neg (me_glI (by rfl) J.v_MAX_STEP.choose_spec))) (mr_val (me_glI (by rfl) J.v_MAX_STEP.choose_spec) mr_nil))))))))) (fun _ _ _ _ _ => (me_var (pv 2))))
    (mss_one (ms_ret (mo_if (mt_ne rfl (Room.units hr) (me_var (pv 1)) (me_frz (mo_lst ma_nil)) (by first | rfl | exact nomark _)) (mo_fz (me_tup (ma_cons me_str (ma_cons (me_at rfl (pv 1) me_int (fun _ _ => rfl)) ma_nil)))) (mo_fz me_non))))))
theorem ok_steps_of (J : Facts K mg) : FnG P w K mg base CX0 1 J.f_steps_of J.fd_steps_of ["row"] (spF K noEr false 1 m_steps_of) := okF J.F_steps_of sc_steps_of rfl fun cdv A outer s H XE hG hr =>
    (mss_one (ms_ret (mo_tuple rfl (by rfl) J.z_tuple (me_frz (mo_lc (own := [("here", 1), ("later", 2)]) (ow := [false, true, true]) rfl sc_steps_of.nd (blkOk_by (N := ["row", "here", "later"]) (sc := defScope s_steps_of) (by decide +kernel)) (show Flags [false, true, true] 3 [1, 2] from by unfold Flags; decide) (mi_zip2 rfl (by rfl) J.z_zip (me_var (pv 0)) (me_frz (mo_slice rfl (me_var (pv 0)) (mp_some me_int) mp_no))) (fun _ _ _ _ _ => (mg_tup rfl rfl (mgs_cons (mg_name sc_steps_of.nd rfl (by first | exact .inl rfl | exact .inr rfl)) (mgs_cons (mg_name sc_steps_of.nd rfl (by first | exact .inl rfl | exact .inr rfl)) mgs_nil)))) (fun _ _ _ _ _ => pts_no) (fun _ _ _ _ _ => (me_frz (mo_sub (me_var (pv 2)) (me_var (pv 1))))))))))
theorem ok_fall_trimmed (J : Facts K mg) : FnG P w K mg base CX0 1 J.f_fall_trimmed J.fd_fall_trimmed ["row"] (spF K noEr false 1 m_fall_trimmed) := okF J.F_fall_trimmed sc_fall_trimmed rfl fun cdv A outer s H XE hG hr =>
    (mss_cons (ms_asg (me_frz (mo_len rfl (by rfl) J.z_len (me_var (pv 0)))) (mg_name sc_fall_trimmed.nd rfl (by first | exact .inl rfl | exact .inr rfl)))
    (mss_cons (ms_while PassesOwn.never (MW.mt (mw_and (mt_gt (me_var (pv 1)) me_int (by first | rfl | exact nomark _)) (mw_and1 (mt_eq rfl (Room.units hr) (me_at rfl (pv 0) (me_frz (mo_sub (me_var (pv 1)) me_int)) (fun _ _ => rfl)) me_int (by first | rfl | exact nomark _))))) (mss_one (ms_asg (me_frz (mo_sub (me_var (pv 1)) me_int)) (mg_name sc_fall_trimmed.nd rfl (by first | exact .inl rfl | exact .inr rfl)))))
    (mss_one (ms_ret (mo_tuple rfl (by rfl) J.z_tuple (me_frz (mo_slice rfl (me_var (pv 0)) mp_no (mp_some (me_var (pv 1))))))))))
theorem ok_fall_row (J : Facts K mg) : FnG P w K mg base CX0 2 J.f_fall_row J.fd_fall_row ["row"] (spF K noEr false 1 m_fall_row) := okF J.F_fall_row sc_fall_row rfl fun cdv A outer s H XE hG hr =>
    (mss_cons (ms_par2 rfl sc_fall_row.nd rfl rfl (by decide) rfl rfl (mao_cons (mo_lst ma_nil) (mao_cons (mo_fz (me_var (pv 0))) mao_nil)) (by decide) (by decide) rfl)
    (mss_cons (ms_for PassesOwn.never rfl (mi_range1 (by rfl) J.z_range (me_frz (mo_len rfl (by rfl) J.z_len (me_var (pv 0))))) (mg_name sc_fall_row.nd rfl (by first | exact .inl rfl | exact .inr rfl)) (mss_cons (ms_expr (me_append (pv 1) (me_at rfl (pv 2) me_int (fun _ _ => rfl))))
    (mss_one (ms_asg (me_frz (mo_call (ok_steps_of J) hG (hr.mono (by decide)) (by rfl) J.g_steps_of J.F_steps_of.kp J.b_steps_of (mr_val (me_var (pv 2)) mr_nil))) (mg_name sc_fall_row.nd rfl (by first | exact .inl rfl | exact .inr rfl))))))
    (mss_one (ms_ret (mo_call (ok_fall_trimmed J) hG (hr.mono (by decide)) (by rfl) J.g_fall_trimmed J.F_fall_trimmed.kp J.b_fall_trimmed (mr_val (me_var (pv 1)) mr_nil))))))
theorem ok_choices_row (J : Facts K mg) : FnG P w K mg base CX0 1 J.f_choices_row J.fd_choices_row ["x", "many"] (spF K noEr false 2 m_choices_row) := okF J.F_choices_row sc_choices_row rfl fun cdv A outer s H XE hG hr =>
    (mss_cons (ms_set sc_choices_row.nd rfl (by first | exact .inl rfl | exact .inr rfl) (mo_lst (ma_cons me_int ma_nil)))
    (mss_cons (ms_for PassesOwn.never rfl (mi_range1 (by rfl) J.z_range (me_frz (mo_sub (me_var (pv 1)) me_int))) (mg_name sc_choices_row.nd rfl (by first | exact .inl rfl | exact .inr rfl)) (mss_one (ms_expr (me_append (pv 2) (me_frz (mo_fdiv (me_frz (mo_mul rfl (me_at rfl (pv 2) (me_var (pv 3)) (fun _ _ => rfl)) (me_frz (mo_sub (me_var (pv 0)) (me_var (pv 3)))))) (me_frz (mo_add rfl (me_var (pv 3)) me_int))))))))
    (mss_one (ms_ret (mo_var (pv 2))))))
theorem ok_fall_value (J : Facts K mg) : FnG P w K mg base CX0 2 J.f_fall_value J.fd_fall_value ["fall", "x"] (spF K noEr false 2 m_fall_value) := okF J.F_fall_value sc_fall_value rfl fun cdv A outer s H XE hG hr =>
    (mss_one (ms_ret (mo_sum rfl (by rfl) J.z_sum (me_frz (mo_lc (own := [("item", 2), ("number", 3)]) (ow := [false, false, true, true]) rfl sc_fall_value.nd (blkOk_by (N := ["fall", "x", "item", "number"]) (sc := defScope s_fall_value) (by decide +kernel)) (show Flags [false, false, true, true] 4 [2, 3] from by unfold Flags; decide) (mi_zip2 rfl (by rfl) J.z_zip (me_var (pv 0)) (me_frz (mo_call (ok_choices_row J) hG (hr.mono (by decide)) (by rfl) J.g_choices_row J.F_choices_row.kp J.b_choices_row (mr_val (me_var (pv 1)) (mr_val (me_frz (mo_len rfl (by rfl) J.z_len (me_var (pv 0)))) mr_nil))))) (fun _ _ _ _ _ => (mg_tup rfl rfl (mgs_cons (mg_name sc_fall_value.nd rfl (by first | exact .inl rfl | exact .inr rfl)) (mgs_cons (mg_name sc_fall_value.nd rfl (by first | exact .inl rfl | exact .inr rfl)) mgs_nil)))) (fun _ _ _ _ _ => pts_no) (fun _ _ _ _ _ => (me_frz (mo_mul rfl (me_var (pv 2)) (me_var (pv 3))))))))))
theorem ok_row_of_fall (J : Facts K mg) : FnG P w K mg base CX0 3 J.f_row_of_fall J.fd_row_of_fall ["fall", "many"] (spF K noEr false 2 m_row_of_fall) := okF J.F_row_of_fall sc_row_of_fall rfl fun cdv A outer s H XE hG hr =>
    (mss_one (ms_ret (mo_tuple rfl (by rfl) J.z_tuple (me_frz (mo_lc (own := [("x", 2)]) (ow := [false, false, true]) rfl sc_row_of_fall.nd (blkOk_by (N := ["fall", "many", "x"]) (sc := defScope s_row_of_fall) (by decide +kernel)) (show Flags [false, false, true] 3 [2] from by unfold Flags; decide) (mi_range1 (by rfl) J.z_range (me_var (pv 1))) (fun _ _ _ _ _ => (mg_name sc_row_of_fall.nd rfl (by first | exact .inl rfl | exact .inr rfl))) (fun _ _ _ _ _ => pts_no) (fun _ _ _ _ _ => (me_frz (mo_call (ok_fall_value J) hG (hr.mono (by decide)) (by rfl) J.g_fall_value J.F_fall_value.kp J.b_fall_value (mr_val (me_var (pv 0)) (mr_val (me_var (pv 2)) mr_nil))))))))))
theorem ok__law_own_bag (J : Facts K mg) : FnG P w K mg base CX0 1 J.f__law_own_bag J.fd__law_own_bag ["script"] (spF K noEr false 1 m__law_own_bag) := okF J.F__law_own_bag sc__law_own_bag rfl fun cdv A outer s H XE hG hr =>
    (mss_cons (ms_asgLc (i := 1) (own := [("cell", 2)]) (ow := [false, false, true, false]) rfl sc__law_own_bag.nd rfl rfl (sw_true rfl rfl rfl (by decide +kernel)) (blkOk_by (N := ["script", "cells", "cell", "mixed"]) (sc := defScope s__law_own_bag) (by decide +kernel)) (show Flags [false, false, true, false] 4 [2] from by unfold Flags; decide) (mi_seq rfl (me_frz (mo_slice rfl (me_var (pv 0)) mp_no (mp_some me_int)))) (fun _ _ _ _ _ => (mg_name sc__law_own_bag.nd rfl (by first | exact .inl rfl | exact .inr rfl))) (fun _ _ _ _ _ => pts_no) (fun _ _ _ _ _ => (me_frz (mo_abs (by rfl) J.z_abs (me_var (pv 2))))))
    (mss_cons (ms_asg (me_frz (mo_add rfl me_int (me_frz (mo_len rfl (by rfl) J.z_len (me_var (pv 1)))))) (mg_name sc__law_own_bag.nd rfl (by first | exact .inl rfl | exact .inr rfl)))
    (mss_cons (ms_for PassesOwn.never rfl (mi_seq rfl (me_var (pv 1))) (mg_name sc__law_own_bag.nd rfl (by first | exact .inl rfl | exact .inr rfl)) (mss_one (ms_asg (me_frz (mo_mod (me_frz (mo_int (by rfl) J.z_int (me_frz (mo_add rfl (me_frz (mo_add rfl (me_frz (mo_mul rfl (me_var (pv 3)) me_int)) (me_frz (mo_mod (me_frz (mo_int (by rfl) J.z_int (me_var (pv 2)))) me_int)))) me_int)))) me_int)) (mg_name sc__law_own_bag.nd rfl (by first | exact .inl rfl | exact .inr rfl)))))
    (mss_one (ms_ret (mo_nest (mao_cons (mo_listRev rfl (by rfl) J.z_list (by rfl) J.z_reversed (me_frz (mo_list rfl (by rfl) J.z_list (me_var (pv 1))))) (mao_cons (mo_fz me_int) (mao_cons (mo_fz (me_var (pv 3))) mao_nil)))))))))
theorem ok__law_draw (J : Facts K mg) : FnG P w K mg base CX0 1 J.f__law_draw J.fd__law_draw ["bag", "below"] (spF K noEr false 2 m__law_draw) := okF J.F__law_draw sc__law_draw rfl fun cdv A outer s H XE hG hr =>
    (mss_cons (ms_while PassesOwn.never (MW.mt (mw_and (mt_eq rfl (Room.units hr) (me_itemN (k := 1) (pe_place (pv 0))) me_int (by first | rfl | exact nomark _)) (mw_and1 (mt_emptyN (k := 0) rfl (Room.units hr) (pe_place (pv 0)))))) (mss_cons (ms_asg (me_popN (k := 0) (pe_place (pv 0))) (mg_name sc__law_draw.nd rfl (by first | exact .inl rfl | exact .inr rfl)))
    (mss_one (ms_item (me_if (mt_gt (me_var (pv 2)) (me_frz (mo_pow me_int me_int)) (by first | rfl | exact nomark _)) (me_var (pv 2)) me_int) (pv 0) me_int))))
    (mss_cons (ms_if (mt_gt (me_itemN (k := 1) (pe_place (pv 0))) me_int (by first | rfl | exact nomark _)) (mss_cons (ms_asg (me_frz (mo_mod (me_frz (mo_int (by rfl) J.z_int (me_itemN (k := 1) (pe_place (pv 0))))) (me_var (pv 1)))) (mg_name sc__law_draw.nd rfl (by first | exact .inl rfl | exact .inr rfl)))
    (mss_cons (ms_item (me_frz (mo_fdiv (me_itemN (k := 1) (pe_place (pv 0))) (me_var (pv 1)))) (pv 0) me_int)
    (mss_one (ms_ret (mo_var (pv 3)))))) mss_nil)
    (mss_cons (ms_item (me_frz (mo_mod (me_frz (mo_int (by rfl) J.z_int (me_frz (mo_add rfl (me_frz (mo_mul rfl (me_itemN (k := 2) (pe_place (pv 0))) me_int)) me_int)))) me_int)) (pv 0) me_int)
    (mss_one (ms_ret (mo_mod (me_frz (mo_int (by rfl) J.z_int (me_frz (mo_fdiv (me_frz (mo_mod (me_frz (mo_int (by rfl) J.z_int (me_frz (mo_mul rfl (me_itemN (k := 2) (pe_place (pv 0))) (me_itemN (k := 2) (pe_place (pv 0))))))) me_int)) me_int)))) (me_var (pv 1))))))))
theorem ok__law_pick (J : Facts K mg) : FnG P w K mg base CX0 2 J.f__law_pick J.fd__law_pick ["bag", "some"] (spF K noEr false 2 m__law_pick) := okF J.F__law_pick sc__law_pick rfl fun cdv A outer s H XE hG hr =>
    (mss_one (ms_ret (mo_fz (me_at rfl (pv 1) (me_frz (mo_call (ok__law_draw J) hG (hr.mono (by decide)) (by rfl) J.g__law_draw J.F__law_draw.kp J.b__law_draw (mr_ref (pv 0) (mr_val (me_frz (mo_len rfl (by rfl) J.z_len (me_var (pv 1)))) mr_nil)))) (fun _ _ => rfl)))))
theorem ok__law_number (J : Facts K mg) : FnG P w K mg base CX0 2 J.f__law_number J.fd__law_number ["bag", "most"] (spF K noEr false 2 m__law_number) := okF J.F__law_number sc__law_number rfl fun cdv A outer s H XE hG hr =>
    (mss_cons (ms_par2 rfl sc__law_number.nd rfl rfl (by decide) rfl rfl (mao_cons (mo_fz (me_frz (mo_call (ok__law_draw J) hG (hr.mono (by decide)) (by rfl) J.g__law_draw J.F__law_draw.kp J.b__law_draw (mr_ref (pv 0) (mr_val me_int mr_nil))))) (mao_cons (mo_fz (me_frz (mo_call (ok__law_draw J) hG (hr.mono (by decide)) (by rfl) J.g__law_draw J.F__law_draw.kp J.b__law_draw (mr_ref (pv 0) (mr_val me_int mr_nil))))) mao_nil)) (by decide) (by decide) rfl)
    (mss_cons (ms_if (mt_gt (me_var (pv 2)) me_int (by first | rfl | exact nomark _)) (mss_cons (ms_asg me_int (mg_name sc__law_number.nd rfl (by first | exact .inl rfl | exact .inr rfl)))
    (mss_cons (ms_for PassesOwn.never rfl (mi_range1 (by rfl) J.z_range (me_frz (mo_add rfl me_int (me_frz (mo_call (ok__law_draw J) hG (hr.mono (by decide)) (by rfl) J.g__law_draw J.F__law_draw.kp J.b__law_draw (mr_ref (pv 0) (mr_val me_int mr_nil))))))) (mg_name sc__law_number.nd rfl (by first | exact .inl rfl | exact .inr rfl)) (mss_one (ms_asg (me_frz (mo_add rfl (me_frz (mo_mul rfl (me_var (pv 3)) me_int)) (me_frz (mo_call (ok__law_draw J) hG (hr.mono (by decide)) (by rfl) J.g__law_draw J.F__law_draw.kp J.b__law_draw (mr_ref (pv 0) (mr_val me_int mr_nil)))))) (mg_name sc__law_number.nd rfl (by first | exact .inl rfl | exact .inr rfl)))))
    (mss_one (ms_asg (me_frz (mo_mod (me_frz (mo_int (by rfl) J.z_int (me_var (pv 3)))) (me_frz (mo_add rfl (me_var (pv 1)) me_int)))) (mg_name sc__law_number.nd rfl (by first | exact .inl rfl | exact .inr rfl)))))) mss_nil)
    (mss_cons (ms_if (mt_gt (me_var (pv 2)) me_int (by first | rfl | exact nomark _)) (mss_one (ms_asg (me_frz (mo_sub (me_var (pv 1)) (me_frz (mo_call (ok__law_draw J) hG (hr.mono (by decide)) (by rfl) J.g__law_draw J.F__law_draw.kp J.b__law_draw (mr_ref (pv 0) (mr_val me_int mr_nil)))))) (mg_name sc__law_number.nd rfl (by first | exact .inl rfl | exact .inr rfl)))) mss_nil)
    (mss_one (ms_ret (mo_if (mt_eq rfl (Room.units hr) (me_frz (mo_call (ok__law_draw J) hG (hr.mono (by decide)) (by rfl) J.g__law_draw J.F__law_draw.kp J.b__law_draw (mr_ref (pv 0) (mr_val me_int mr_nil)))) me_int (by first | rfl | exact nomark _)) (mo_var (pv 3)) (mo_neg (me_var (pv 3)))))))))
theorem ok__law_is_due (J : Facts K mg) : FnG P w K mg base CX0 1 J.f__law_is_due J.fd__law_is_due ["told", "due"] (spF K noEr false 2 m__law_is_due) := okF J.F__law_is_due sc__law_is_due rfl fun cdv A outer s H XE hG hr =>
    (mss_cons (ms_if (mt_isN (me_var (pv 1)) me_non (by first | rfl | exact nomark _)) (mss_one (ms_ret (mo_fz (me_isN (me_var (pv 0)) me_non (by first | rfl | exact nomark _))))) mss_nil)
    (mss_cons (ms_if (mt_val (me_isiV rfl (by rfl) J.z_isinstance (by rfl) J.z_tuple rfl (by decide) (by decide) (me_var (pv 1)))) (mss_one (ms_ret (mo_fz (me_and (me_isiV rfl (by rfl) J.z_isinstance (by rfl) J.z_tuple rfl (by decide) (by decide) (me_var (pv 0))) (me_one (me_eq rfl (Room.units hr) (me_frz (mo_reprV rfl hG (Room.units hr) J.dig (by rfl) J.z_repr (me_var (pv 0)))) (me_frz (mo_reprV rfl hG (Room.units hr) J.dig (by rfl) J.z_repr (me_var (pv 1)))) (by first | rfl | exact nomark _))))))) mss_nil)
    (mss_cons (ms_if (mt_val (me_isiV rfl (by rfl) J.z_isinstance (by rfl) J.z_str rfl (by decide) (by decide) (me_var (pv 1)))) (mss_one (ms_ret (mo_fz (me_and (me_isiV rfl (by rfl) J.z_isinstance (by rfl) J.z_str rfl (by decide) (by decide) (me_var (pv 0))) (me_one (me_eq rfl (Room.units hr) (me_frz (mo_reprV rfl hG (Room.units hr) J.dig (by rfl) J.z_repr (me_var (pv 0)))) (me_frz (mo_reprV rfl hG (Room.units hr) J.dig (by rfl) J.z_repr (me_var (pv 1)))) (by first | rfl | exact nomark _))))))) mss_nil)
    (mss_one (ms_ret (mo_fz (me_and (me_isiV rfl (by rfl) J.z_isinstance (by rfl) J.z_int rfl (by decide) (by decide) (me_var (pv 0))) (me_and (me_not (me_isiV rfl (by rfl) J.z_isinstance (by rfl) J.z_bool rfl (by decide) (by decide) (me_var (pv 0)))) (me_one (me_eq rfl (Room.units hr) (me_frz (mo_reprV rfl hG (Room.units hr) J.dig (by rfl) J.z_repr (me_var (pv 0)))) (me_frz (mo_reprV rfl hG (Room.units hr) J.dig (by rfl) J.z_repr (me_var (pv 1)))) (by first | rfl | exact nomark _)))))))))))
theorem ok__law_fall (J : Facts K mg) : FnG P w K mg base CX0 3 J.f__law_fall J.fd__law_fall ["bag", "most"] (spF K noEr false 2 m__law_fall) := okF J.F__law_fall sc__law_fall rfl fun cdv A outer s H XE hG hr =>
    (mss_cons (ms_asg (me_frz (mo_call (ok__law_pick J) hG (hr.mono (by decide)) (by rfl) J.g__law_pick J.F__law_pick.kp J.b__law_pick (mr_ref (pv 0) (mr_val (me_frz (mo_lst (ma_cons me_int (ma_cons me_int (ma_cons me_int (ma_cons me_int (ma_cons me_int (ma_cons me_int (ma_cons (me_frz (mo_call (ok__law_draw J) hG (hr.mono (by decide)) (by rfl) J.g__law_draw J.F__law_draw.kp J.b__law_draw (mr_ref (pv 0) (mr_val me_int mr_nil)))) (ma_cons (me_frz (mo_call (ok__law_draw J) hG (hr.mono (by decide)) (by rfl) J.g__law_draw J.F__law_draw.kp J.b__law_draw (mr_ref (pv 0) (mr_val me_int mr_nil)))) ma_nil)))))))))) mr_nil)))) (mg_name sc__law_fall.nd rfl (by first | exact .inl rfl | exact .inr rfl)))
    (mss_cons (ms_setLc (i := 3) (own := [("k", 4)]) (ow := [false, false, false, false, true]) rfl sc__law_fall.nd rfl rfl (sw_true rfl rfl rfl (by decide +kernel)) (blkOk_by (N := ["bag", "most", "many", "row", "k"]) (sc := defScope s__law_fall) (by decide +kernel)) (show Flags [false, false, false, false, true] 5 [4] from by unfold Flags; decide) (mi_range1 (by rfl) J.z_range (me_var (pv 2))) (fun _ _ _ _ _ => (mg_name sc__law_fall.nd rfl (by first | exact .inl rfl | exact .inr rfl))) (fun _ _ _ _ _ => pts_no) (fun _ _ _ _ _ => (me_frz (mo_call (ok__law_number J) hG (hr.mono (by decide)) (by rfl) J.g__law_number J.F__law_number.kp J.b__law_number (mr_ref (pv 0) (mr_val (me_var (pv 1)) mr_nil))))))
    (mss_cons (ms_for PassesOwn.never rfl (mi_range1 (by rfl) J.z_range (me_frz (mo_fdiv (me_frz (mo_call (ok__law_draw J) hG (hr.mono (by decide)) (by rfl) J.g__law_draw J.F__law_draw.kp J.b__law_draw (mr_ref (pv 0) (mr_val (me_frz (mo_add rfl (me_var (pv 2)) me_int)) mr_nil)))) me_int))) (mg_name sc__law_fall.nd rfl (by first | exact .inl rfl | exact .inr rfl)) (mss_one (ms_item me_int (pv 3) (me_frz (mo_call (ok__law_draw J) hG (hr.mono (by decide)) (by rfl) J.g__law_draw J.F__law_draw.kp J.b__law_draw (mr_ref (pv 0) (mr_val (me_var (pv 2)) mr_nil)))))))
    (mss_cons (ms_if (MW.mt (mw_and (mt_gt (me_var (pv 2)) me_int (by first | rfl | exact nomark _)) (mw_and1 (mt_eq rfl (Room.units hr) (me_at rfl (pv 3) (me_frz (mo_neg me_int)) (fun _ _ => rfl)) me_int (by first | rfl | exact nomark _))))) (mss_one (ms_item (me_frz (mo_call (ok__law_pick J) hG (hr.mono (by decide)) (by rfl) J.g__law_pick J.F__law_pick.kp J.b__law_pick (mr_ref (pv 0) (mr_val (me_frz (mo_lst (ma_cons me_int (ma_cons (me_frz (mo_neg me_int)) (ma_cons (me_var (pv 1)) (ma_cons (me_frz (mo_neg (me_var (pv 1)))) ma_nil)))))) mr_nil)))) (pv 3) (me_frz (mo_neg me_int)))) mss_nil)
    (mss_one (ms_ret (mo_tuple rfl (by rfl) J.z_tuple (me_var (pv 3)))))))))
theorem ok__law_twin (J : Facts K mg) : FnG P w K mg base CX0 2 J.f__law_twin J.fd__law_twin ["bag", "fall", "most"] (spF K noEr false 3 m__law_twin) := okF J.F__law_twin sc__law_twin rfl fun cdv A outer s H XE hG hr =>
    (mss_cons (ms_if (mt_eq rfl (Room.units hr) (me_var (pv 1)) (me_tup ma_nil) (by first | rfl | exact nomark _)) (mss_one (ms_ret (mo_fz (me_tup (ma_cons me_int ma_nil))))) mss_nil)
    (mss_cons (ms_par2 rfl sc__law_twin.nd rfl rfl (by decide) rfl rfl (mao_cons (mo_fz (me_frz (mo_call (ok__law_draw J) hG (hr.mono (by decide)) (by rfl) J.g__law_draw J.F__law_draw.kp J.b__law_draw (mr_ref (pv 0) (mr_val (me_frz (mo_len rfl (by rfl) J.z_len (me_var (pv 1)))) mr_nil))))) (mao_cons (mo_list rfl (by rfl) J.z_list (me_var (pv 1))) mao_nil)) (by decide) (by decide) rfl)
    (mss_cons (ms_item (me_if (mt_lt (me_at rfl (pv 4) (me_var (pv 3)) (fun _ _ => rfl)) (me_var (pv 2)) (by first | rfl | exact nomark _)) (me_frz (mo_add rfl (me_at rfl (pv 4) (me_var (pv 3)) (fun _ _ => rfl)) me_int)) (me_frz (mo_sub (me_at rfl (pv 4) (me_var (pv 3)) (fun _ _ => rfl)) me_int))) (pv 4) (me_var (pv 3)))
    (mss_cons (ms_if (mt_eq rfl (Room.units hr) (me_at rfl (pv 4) (me_frz (mo_neg me_int)) (fun _ _ => rfl)) me_int (by first | rfl | exact nomark _)) (mss_one (ms_item me_int (pv 4) (me_frz (mo_neg me_int)))) mss_nil)
    (mss_one (ms_ret (mo_tuple rfl (by rfl) J.z_tuple (me_var (pv 4)))))))))
theorem ok__law_value (J : Facts K mg) : FnG P w K mg base CX0 1 J.f__law_value J.fd__law_value ["fall", "x"] (spF K noEr false 2 m__law_value) := okF J.F__law_value sc__law_value rfl fun cdv A outer s H XE hG hr =>
    (mss_cons (ms_parT (n := 0) (is := [2, 3]) rfl (mao_cons (mo_fz me_int) (mao_cons (mo_fz me_int) mao_nil)) (pgs_slots (pg_name (i := 2) sc__law_value.nd rfl (by first | exact .inl rfl | exact .inr rfl) (by first | exact .inl rfl | exact .inr rfl)) (pgs_slots (pg_name (i := 3) sc__law_value.nd rfl (by first | exact .inl rfl | exact .inr rfl) (by first | exact .inl rfl | exact .inr rfl)) pgs_slots0)) (by decide))
    (mss_cons (ms_for PassesOwn.never rfl (mi_enum rfl (by rfl) J.z_enumerate (me_var (pv 0))) (mg_tup rfl rfl (mgs_cons (mg_name sc__law_value.nd rfl (by first | exact .inl rfl | exact .inr rfl)) (mgs_cons (mg_name sc__law_value.nd rfl (by first | exact .inl rfl | exact .inr rfl)) mgs_nil))) (mss_one (ms_par2 rfl sc__law_value.nd rfl rfl (by decide) rfl rfl (mao_cons (mo_fz (me_frz (mo_add rfl (me_var (pv 2)) (me_frz (mo_mul rfl (me_var (pv 5)) (me_var (pv 3))))))) (mao_cons (mo_fz (me_frz (mo_fdiv (me_frz (mo_mul rfl (me_var (pv 3)) (me_frz (mo_sub (me_var (pv 1)) (me_var (pv 4)))))) (me_frz (mo_add rfl (me_var (pv 4)) me_int))))) mao_nil)) (by decide) (by decide) rfl)))
    (mss_one (ms_ret (mo_var (pv 2))))))
theorem ok__law_triangle (J : Facts K mg) : FnG P w K mg base CX0 1 J.f__law_triangle J.fd__law_triangle ["row"] (spF K noEr false 1 m__law_triangle) := okF J.F__law_triangle sc__law_triangle rfl fun cdv A outer s H XE hG hr =>
    (mss_cons (ms_set sc__law_triangle.nd rfl (by first | exact .inl rfl | exact .inr rfl) (mo_lst (ma_cons (me_frz (mo_tuple rfl (by rfl) J.z_tuple (me_var (pv 0)))) ma_nil)))
    (mss_cons (ms_for PassesOwn.never rfl (mi_range1 (by rfl) J.z_range (me_frz (mo_sub (me_frz (mo_len rfl (by rfl) J.z_len (me_var (pv 0)))) me_int))) (mg_name sc__law_triangle.nd rfl (by first | exact .inl rfl | exact .inr rfl)) (mss_cons (ms_asg (me_at rfl (pv 1) (me_frz (mo_neg me_int)) (fun _ _ => rfl)) (mg_name sc__law_triangle.nd rfl (by first | exact .inl rfl | exact .inr rfl)))
    (mss_one (ms_expr (me_append (pv 1) (me_frz (mo_tuple rfl (by rfl) J.z_tuple (me_frz (mo_lc (own := [("k", 4)]) (ow := [false, false, false, false, true]) rfl sc__law_triangle.nd (blkOk_by (N := ["row", "found", "turn", "ahead", "k"]) (sc := defScope s__law_triangle) (by decide +kernel)) (show Flags [false, false, false, false, true] 5 [4] from by unfold Flags; decide) (mi_range1 (by rfl) J.z_range (me_frz (mo_sub (me_frz (mo_len rfl (by rfl) J.z_len (me_var (pv 3)))) me_int))) (fun _ _ _ _ _ => (mg_name sc__law_triangle.nd rfl (by first | exact .inl rfl | exact .inr rfl))) (fun _ _ _ _ _ => pts_no) (fun _ _ _ _ _ => (me_frz (mo_sub (me_at rfl (pv 3) (me_frz (mo_add rfl (me_var (pv 4)) me_int)) (fun _ _ => rfl)) (me_at rfl (pv 3) (me_var (pv 4)) (fun _ _ => rfl))))))))))))))
    (mss_one (ms_ret (mo_var (pv 1))))))
theorem ok__law_cut (J : Facts K mg) : FnG P w K mg base CX0 1 J.f__law_cut J.fd__law_cut ["items"] (spF K noEr false 1 m__law_cut) := okF J.F__law_cut sc__law_cut rfl fun cdv A outer s H XE hG hr =>
    (mss_cons (ms_set sc__law_cut.nd rfl (by first | exact .inl rfl | exact .inr rfl) (mo_list rfl (by rfl) J.z_list (me_var (pv 0))))
    (mss_cons (ms_while PassesOwn.never (MW.mt (mw_and (mt_lend (mt_ne rfl (Room.units hr) (me_var (pv 1)) (me_frz (mo_lst ma_nil)) (by first | rfl | exact nomark _))) (mw_and1 (mt_eq rfl (Room.units hr) (me_at rfl (pv 1) (me_frz (mo_neg me_int)) (fun _ _ => rfl)) me_int (by first | rfl | exact nomark _))))) (mss_one (ms_expr (me_pop (pv 1)))))
    (mss_one (ms_ret (mo_tuple rfl (by rfl) J.z_tuple (me_var (pv 1)))))))
theorem ok__law_own_row (J : Facts K mg) : FnG P w K mg base CX0 1 J.f__law_own_row J.fd__law_own_row ["fall", "many"] (spF K noEr false 2 m__law_own_row) := okF J.F__law_own_row sc__law_own_row rfl fun cdv A outer s H XE hG hr =>
    (mss_cons (ms_parT (n := 0) (is := [2, 3]) rfl (mao_cons (mo_lst ma_nil) (mao_cons (mo_fz (me_frz (mo_list rfl (by rfl) J.z_list (me_var (pv 0))))) mao_nil)) (pgs_slots (pg_name (i := 2) sc__law_own_row.nd rfl (by first | exact .inl rfl | exact .inr rfl) (by first | exact .inl rfl | exact .inr rfl)) (pgs_slots (pg_name (i := 3) sc__law_own_row.nd rfl (by first | exact .inl rfl | exact .inr rfl) (by first | exact .inl rfl | exact .inr rfl)) pgs_slots0)) (by decide))
    (mss_cons (ms_for PassesOwn.never rfl (mi_range1 (by rfl) J.z_range (me_var (pv 1))) (mg_name sc__law_own_row.nd rfl (by first | exact .inl rfl | exact .inr rfl)) (mss_cons (ms_expr (me_append (pv 2) (me_if (mt_ne rfl (Room.units hr) (me_var (pv 3)) (me_frz (mo_lst ma_nil)) (by first | rfl | exact nomark _)) (me_at rfl (pv 3) me_int (fun _ _ => rfl)) me_int)))
    (mss_one (ms_asg (me_frz (mo_lc (own := [("k", 5)]) (ow := [false, false, false, false, false, true]) rfl sc__law_own_row.nd (blkOk_by (N := ["fall", "many", "found", "state", "turn", "k"]) (sc := defScope s__law_own_row) (by decide +kernel)) (show Flags [false, false, false, false, false, true] 6 [5] from by unfold Flags; decide) (mi_range1 (by rfl) J.z_range (me_frz (mo_len rfl (by rfl) J.z_len (me_var (pv 3))))) (fun _ _ _ _ _ => (mg_name sc__law_own_row.nd rfl (by first | exact .inl rfl | exact .inr rfl))) (fun _ _ _ _ _ => pts_no) (fun _ _ _ _ _ => (me_frz (mo_add rfl (me_at rfl (pv 3) (me_var (pv 5)) (fun _ _ => rfl)) (me_if (mt_lt (me_frz (mo_add rfl (me_var (pv 5)) me_int)) (me_frz (mo_len rfl (by rfl) J.z_len (me_var (pv 3)))) (by first | rfl | exact nomark _)) (me_at rfl (pv 3) (me_frz (mo_add rfl (me_var (pv 5)) me_int)) (fun _ _ => rfl)) me_int)))))) (mg_name sc__law_own_row.nd rfl (by first | exact .inl rfl | exact .inr rfl))))))
    (mss_one (ms_ret (mo_tuple rfl (by rfl) J.z_tuple (me_var (pv 2)))))))
theorem ok__law_any_row (J : Facts K mg) : FnG P w K mg base CX0 3 J.f__law_any_row J.fd__law_any_row ["bag"] (spF K noEr false 1 m__law_any_row) := okF J.F__law_any_row sc__law_any_row rfl fun cdv A outer s H XE hG hr =>
    (mss_cons (ms_asg (me_frz (mo_call (ok__law_pick J) hG (hr.mono (by decide)) (by rfl) J.g__law_pick J.F__law_pick.kp J.b__law_pick (mr_ref (pv 0) (mr_val (me_frz (mo_lst (ma_cons me_int (ma_cons me_int (ma_cons me_int (ma_cons me_int (ma_cons me_int (ma_cons (me_frz (mo_add rfl me_int (me_frz (mo_call (ok__law_draw J) hG (hr.mono (by decide)) (by rfl) J.g__law_draw J.F__law_draw.kp J.b__law_draw (mr_ref (pv 0) (mr_val me_int mr_nil)))))) (ma_cons (me_frz (mo_add rfl me_int (me_frz (mo_call (ok__law_draw J) hG (hr.mono (by decide)) (by rfl) J.g__law_draw J.F__law_draw.kp J.b__law_draw (mr_ref (pv 0) (mr_val me_int mr_nil)))))) ma_nil))))))))) mr_nil)))) (mg_name sc__law_any_row.nd rfl (by first | exact .inl rfl | exact .inr rfl)))
    (mss_one (ms_ret (mo_tuple rfl (by rfl) J.z_tuple (me_frz (mo_lc (own := [("k", 2)]) (ow := [false, false, true]) rfl sc__law_any_row.nd (blkOk_by (N := ["bag", "many", "k"]) (sc := defScope s__law_any_row) (by decide +kernel)) (show Flags [false, false, true] 3 [2] from by unfold Flags; decide) (mi_range1 (by rfl) J.z_range (me_var (pv 1))) (fun _ _ _ _ _ => (mg_name sc__law_any_row.nd rfl (by first | exact .inl rfl | exact .inr rfl))) (fun _ _ _ _ _ => pts_no) (fun _ _ _ _ _ => (me_frz (mo_call (ok__law_number J) hG (hr.mono (by decide)) (by rfl) J.g__law_number J.F__law_number.kp J.b__law_number (mr_ref (pv 0) (mr_val (me_frz (mo_pow me_int me_int)) mr_nil)))))))))))
theorem ok__law_twin_row (J : Facts K mg) : FnG P w K mg base CX0 2 J.f__law_twin_row J.fd__law_twin_row ["bag", "row"] (spF K noEr false 2 m__law_twin_row) := okF J.F__law_twin_row sc__law_twin_row rfl fun cdv A outer s H XE hG hr =>
    (mss_cons (ms_par2 rfl sc__law_twin_row.nd rfl rfl (by decide) rfl rfl (mao_cons (mo_list rfl (by rfl) J.z_list (me_var (pv 1))) (mao_cons (mo_fz (me_frz (mo_call (ok__law_draw J) hG (hr.mono (by decide)) (by rfl) J.g__law_draw J.F__law_draw.kp J.b__law_draw (mr_ref (pv 0) (mr_val (me_frz (mo_len rfl (by rfl) J.z_len (me_var (pv 1)))) mr_nil))))) mao_nil)) (by decide) (by decide) rfl)
    (mss_cons (ms_item (me_if (mt_lt (me_at rfl (pv 2) (me_var (pv 3)) (fun _ _ => rfl)) (me_frz (mo_pow me_int me_int)) (by first | rfl | exact nomark _)) (me_frz (mo_add rfl (me_at rfl (pv 2) (me_var (pv 3)) (fun _ _ => rfl)) me_int)) (me_frz (mo_sub (me_at rfl (pv 2) (me_var (pv 3)) (fun _ _ => rfl)) me_int))) (pv 2) (me_var (pv 3)))
    (mss_one (ms_ret (mo_tuple rfl (by rfl) J.z_tuple (me_var (pv 2)))))))
theorem ok__law_rows (J : Facts K mg) : FnG P w K mg base CX0 4 J.f__law_rows J.fd__law_rows ["bag"] (spF K noEr false 1 m__law_rows) := okF J.F__law_rows sc__law_rows rfl fun cdv A outer s H XE hG hr =>
    (mss_cons (ms_asg (me_frz (mo_call (ok__law_any_row J) hG (hr.mono (by decide)) (by rfl) J.g__law_any_row J.F__law_any_row.kp J.b__law_any_row (mr_ref (pv 0) mr_nil))) (mg_name sc__law_rows.nd rfl (by first | exact .inl rfl | exact .inr rfl)))
    (mss_cons (ms_asgLc (i := 2) (own := [("k", 3)]) (ow := [false, false, false, true, false, false, false, false]) rfl sc__law_rows.nd rfl rfl (sw_true rfl rfl rfl (by decide +kernel)) (blkOk_by (N := ["bag", "first", "fall", "k", "even", "lone", "sign", "edge"]) (sc := defScope s__law_rows) (by decide +kernel)) (show Flags [false, false, false, true, false, false, false, false] 8 [3] from by unfold Flags; decide) (mi_range1 (by rfl) J.z_range (me_frz (mo_call (ok__law_draw J) hG (hr.mono (by decide)) (by rfl) J.g__law_draw J.F__law_draw.kp J.b__law_draw (mr_ref (pv 0) (mr_val me_int mr_nil))))) (fun _ _ _ _ _ => (mg_name sc__law_rows.nd rfl (by first | exact .inl rfl | exact .inr rfl))) (fun _ _ _ _ _ => pts_no) (fun _ _ _ _ _ => (me_frz (mo_sub (me_frz (mo_call (ok__law_draw J) hG (hr.mono (by decide)) (by rfl) J.g__law_draw J.F__law_draw.kp J.b__law_draw (mr_ref (pv 0) (mr_val me_int mr_nil)))) me_int))))
    (mss_cons (ms_asg (me_frz (mo_call (ok__law_own_row J) hG (hr.mono (by decide)) (by rfl) J.g__law_own_row J.F__law_own_row.kp J.b__law_own_row (mr_val (me_var (pv 2)) (mr_val (me_frz (mo_add rfl me_int (me_frz (mo_call (ok__law_draw J) hG (hr.mono (by decide)) (by rfl) J.g__law_draw J.F__law_draw.kp J.b__law_draw (mr_ref (pv 0) (mr_val me_int mr_nil)))))) mr_nil)))) (mg_name sc__law_rows.nd rfl (by first | exact .inl rfl | exact .inr rfl)))
    (mss_cons (ms_set sc__law_rows.nd rfl (by first | exact .inl rfl | exact .inr rfl) (mo_mul rfl (me_frz (mo_lst (ma_cons me_int ma_nil))) (me_frz (mo_add rfl me_int (me_frz (mo_call (ok__law_draw J) hG (hr.mono (by decide)) (by rfl) J.g__law_draw J.F__law_draw.kp J.b__law_draw (mr_ref (pv 0) (mr_val me_int mr_nil))))))))
    (mss_cons (ms_item (me_frz (mo_call (ok__law_number J) hG (hr.mono (by decide)) (by rfl) J.g__law_number J.F__law_number.kp J.b__law_number (mr_ref (pv 0) (mr_val (me_frz (mo_pow me_int me_int)) mr_nil)))) (pv 5) (me_frz (mo_call (ok__law_draw J) hG (hr.mono (by decide)) (by rfl) J.g__law_draw J.F__law_draw.kp J.b__law_draw (mr_ref (pv 0) (mr_val (me_lend (me_frz (mo_len rfl (by rfl) J.z_len (me_var (pv 5))))) mr_nil)))))
    (mss_cons (ms_asg (me_frz (mo_call (ok__law_pick J) hG (hr.mono (by decide)) (by rfl) J.g__law_pick J.F__law_pick.kp J.b__law_pick (mr_ref (pv 0) (mr_val (me_frz (mo_lst (ma_cons me_int (ma_cons (me_frz (mo_neg me_int)) ma_nil)))) mr_nil)))) (mg_name sc__law_rows.nd rfl (by first | exact .inl rfl | exact .inr rfl)))
    (mss_cons (ms_asgLc (i := 7) (own := [("k", 3)]) (ow := [false, false, false, true, false, false, false, false]) rfl sc__law_rows.nd rfl rfl (sw_true rfl rfl rfl (by decide +kernel)) (blkOk_by (N := ["bag", "first", "fall", "k", "even", "lone", "sign", "edge"]) (sc := defScope s__law_rows) (by decide +kernel)) (show Flags [false, false, false, true, false, false, false, false] 8 [3] from by unfold Flags; decide) (mi_range1 (by rfl) J.z_range me_int) (fun _ _ _ _ _ => (mg_name sc__law_rows.nd rfl (by first | exact .inl rfl | exact .inr rfl))) (fun _ _ _ _ _ => pts_no) (fun _ _ _ _ _ => (me_frz (mo_mul rfl (me_frz (mo_mul rfl (me_frz (mo_pow me_int me_int)) (me_var (pv 6)))) (me_if (mt_eq rfl (Room.units hr) (me_frz (mo_mod (me_var (pv 3)) me_int)) me_int (by first | rfl | exact nomark _)) me_int (me_frz (mo_neg me_int)))))))
    (mss_one (ms_ret (mo_lst (ma_cons (me_var (pv 1)) (ma_cons (me_frz (mo_call (ok__law_twin_row J) hG (hr.mono (by decide)) (by rfl) J.g__law_twin_row J.F__law_twin_row.kp J.b__law_twin_row (mr_ref (pv 0) (mr_val (me_var (pv 1)) mr_nil)))) (ma_cons (me_var (pv 4)) (ma_cons (me_frz (mo_tuple rfl (by rfl) J.z_tuple (me_var (pv 5)))) (ma_cons (me_frz (mo_tuple rfl (by rfl) J.z_tuple (me_var (pv 7)))) ma_nil)))))))))))))))
theorem ok__law_are_steps_right (J : Facts K mg) : FnG P w K mg base CX0 4 J.f__law_are_steps_right J.fd__law_are_steps_right ["row"] (spF K noEr false 1 m__law_are_steps_right) := okF J.F__law_are_steps_right sc__law_are_steps_right rfl fun cdv A outer s H XE hG hr =>
    (mss_cons (ms_asg (me_frz (mo_call (ok__law_triangle J) hG (hr.mono (by decide)) (by rfl) J.g__law_triangle J.F__law_triangle.kp J.b__law_triangle (mr_val (me_var (pv 0)) mr_nil))) (mg_name sc__law_are_steps_right.nd rfl (by first | exact .inl rfl | exact .inr rfl)))
    (mss_cons (ms_asgLc (i := 2) (own := [("own", 3)]) (ow := [false, false, false, true, false, false, false, false]) rfl sc__law_are_steps_right.nd rfl rfl (sw_true rfl rfl rfl (by decide +kernel)) (blkOk_by (N := ["row", "triangle", "items", "own", "k", "item", "later", "fall"]) (sc := defScope s__law_are_steps_right) (by decide +kernel)) (show Flags [false, false, false, true, false, false, false, false] 8 [3] from by unfold Flags; decide) (mi_seq rfl (me_var (pv 1))) (fun _ _ _ _ _ => (mg_name sc__law_are_steps_right.nd rfl (by first | exact .inl rfl | exact .inr rfl))) (fun _ _ _ _ _ => pts_no) (fun _ _ _ _ _ => (me_at rfl (pv 3) me_int (fun _ _ => rfl))))
    (mss_cons (ms_for PassesOwn.never rfl (mi_enum rfl (by rfl) J.z_enumerate (me_var (pv 1))) (mg_tup rfl rfl (mgs_cons (mg_name sc__law_are_steps_right.nd rfl (by first | exact .inl rfl | exact .inr rfl)) (mgs_cons (mg_name sc__law_are_steps_right.nd rfl (by first | exact .inl rfl | exact .inr rfl)) mgs_nil))) (mss_cons (ms_if (mt_gt (me_frz (mo_max rfl (by rfl) J.z_max (me_frz (mo_lc (own := [("item", 5)]) (ow := [false, false, false, false, false, true, false, false]) rfl sc__law_are_steps_right.nd (blkOk_by (N := ["row", "triangle", "items", "own", "k", "item", "later", "fall"]) (sc := defScope s__law_are_steps_right) (by decide +kernel)) (show Flags [false, false, false, false, false, true, false, false] 8 [5] from by unfold Flags; decide) (mi_seq rfl (me_var (pv 3))) (fun _ _ _ _ _ => (mg_name sc__law_are_steps_right.nd rfl (by first | exact .inl rfl | exact .inr rfl))) (fun _ _ _ _ _ => pts_no) (fun _ _ _ _ _ => (me_frz (mo_abs (by rfl) J.z_abs (me_var (pv 5))))))))) (me_frz (mo_pow me_int me_int)) (by first | rfl | exact nomark _)) (mss_one (ms_ret (mo_fz (me_gt (me_var (pv 4)) me_int (by first | rfl | exact nomark _))))) mss_nil)
    (mss_cons (ms_par2 rfl sc__law_are_steps_right.nd rfl rfl (by decide) rfl rfl (mao_cons (mo_fz (me_if (mt_lt (me_frz (mo_add rfl (me_var (pv 4)) me_int)) (me_frz (mo_len rfl (by rfl) J.z_len (me_var (pv 1)))) (by first | rfl | exact nomark _)) (me_at rfl (pv 1) (me_frz (mo_add rfl (me_var (pv 4)) me_int)) (fun _ _ => rfl)) (me_tup ma_nil))) (mao_cons (mo_fz (me_frz (mo_call (ok__law_cut J) hG (hr.mono (by decide)) (by rfl) J.g__law_cut J.F__law_cut.kp J.b__law_cut (mr_val (me_frz (mo_slice rfl (me_var (pv 2)) (mp_some (me_var (pv 4))) mp_no)) mr_nil)))) mao_nil)) (by decide) (by decide) rfl)
    (mss_cons (ms_if (MW.mt (mw_or (mt_not (mt_val (me_frz (mo_call (ok__law_is_due J) hG (hr.mono (by decide)) (by rfl) J.g__law_is_due J.F__law_is_due.kp J.b__law_is_due (mr_val (me_frz (mo_call (ok_step_row_error J) hG (hr.mono (by decide)) (by rfl) J.g_step_row_error J.F_step_row_error.kp J.b_step_row_error (mr_val (me_var (pv 3)) mr_nil))) (mr_val me_non mr_nil)))))) (mw_or1 (mt_not (mt_val (me_frz (mo_call (ok__law_is_due J) hG (hr.mono (by decide)) (by rfl) J.g__law_is_due J.F__law_is_due.kp J.b__law_is_due (mr_val (me_frz (mo_call (ok_steps_of J) hG (hr.mono (by decide)) (by rfl) J.g_steps_of J.F_steps_of.kp J.b_steps_of (mr_val (me_var (pv 3)) mr_nil))) (mr_val (me_var (pv 6)) mr_nil))))))))) (mss_one (ms_ret (mo_fz me_bl))) mss_nil)
    (mss_cons (ms_if (MW.mt (mw_or (mt_not (mt_val (me_frz (mo_call (ok__law_is_due J) hG (hr.mono (by decide)) (by rfl) J.g__law_is_due J.F__law_is_due.kp J.b__law_is_due (mr_val (me_frz (mo_call (ok_fall_row J) hG (hr.mono (by decide)) (by rfl) J.g_fall_row J.F_fall_row.kp J.b_fall_row (mr_val (me_var (pv 3)) mr_nil))) (mr_val (me_var (pv 7)) mr_nil)))))) (mw_or1 (mt_not (mt_val (me_frz (mo_call (ok__law_is_due J) hG (hr.mono (by decide)) (by rfl) J.g__law_is_due J.F__law_is_due.kp J.b__law_is_due (mr_val (me_frz (mo_call (ok_row_of_fall J) hG (hr.mono (by decide)) (by rfl) J.g_row_of_fall J.F_row_of_fall.kp J.b_row_of_fall (mr_val (me_var (pv 7)) (mr_val (me_frz (mo_len rfl (by rfl) J.z_len (me_var (pv 3)))) mr_nil)))) (mr_val (me_var (pv 3)) mr_nil))))))))) (mss_one (ms_ret (mo_fz me_bl))) mss_nil)
    (mss_one (ms_if (MW.mt (mw_and (mt_eq rfl (Room.units hr) (me_var (pv 4)) me_int (by first | rfl | exact nomark _)) (mw_and1 (mt_not (MW.mt (mw_and (mt_val (me_frz (mo_call (ok__law_is_due J) hG (hr.mono (by decide)) (by rfl) J.g__law_is_due J.F__law_is_due.kp J.b__law_is_due (mr_val (me_frz (mo_callP0 (ks := ["row"]) (ok_steps_of J) hG (hr.mono (by decide)) (by rfl) J.g_steps_of J.F_steps_of.kp (kb_of (m := 0) (ix := [0]) (ks := ["row"]) J.F_steps_of (fun q => nomatch q) fun _ _ _ _ _ _ us ws h1 h2 => match us, ws, h1, h2 with | [], [_], _, _ => rfl) rfl (mk_cons (me_var (pv 3)) mk_nil))) (mr_val (me_var (pv 6)) mr_nil))))) (mw_and1 (mt_val (me_frz (mo_call (ok__law_is_due J) hG (hr.mono (by decide)) (by rfl) J.g__law_is_due J.F__law_is_due.kp J.b__law_is_due (mr_val (me_frz (mo_callP0 (ks := ["row"]) (ok_fall_row J) hG (hr.mono (by decide)) (by rfl) J.g_fall_row J.F_fall_row.kp (kb_of (m := 0) (ix := [0]) (ks := ["row"]) J.F_fall_row (fun q => nomatch q) fun _ _ _ _ _ _ us ws h1 h2 => match us, ws, h1, h2 with | [], [_], _, _ => rfl) rfl (mk_cons (me_var (pv 3)) mk_nil))) (mr_val (me_var (pv 7)) mr_nil)))))))))))) (mss_one (ms_ret (mo_fz me_bl))) mss_nil)))))))
    (mss_one (ms_ret (mo_fz me_bl))))))
theorem ok__law_are_values_right (J : Facts K mg) : FnG P w K mg base CX0 4 J.f__law_are_values_right J.fd__law_are_values_right ["fall", "places", "lengths"] (spF K noEr false 3 m__law_are_values_right) := okF J.F__law_are_values_right sc__law_are_values_right rfl fun cdv A outer s H XE hG hr =>
    (mss_cons (ms_for PassesOwn.never rfl (mi_seq rfl (me_var (pv 1))) (mg_name sc__law_are_values_right.nd rfl (by first | exact .inl rfl | exact .inr rfl)) (mss_cons (ms_asg (me_frz (mo_call (ok__law_value J) hG (hr.mono (by decide)) (by rfl) J.g__law_value J.F__law_value.kp J.b__law_value (mr_val (me_var (pv 0)) (mr_val (me_var (pv 3)) mr_nil)))) (mg_name sc__law_are_values_right.nd rfl (by first | exact .inl rfl | exact .inr rfl)))
    (mss_one (ms_if (MW.mt (mw_or (mt_not (mt_val (me_frz (mo_call (ok__law_is_due J) hG (hr.mono (by decide)) (by rfl) J.g__law_is_due J.F__law_is_due.kp J.b__law_is_due (mr_val (me_frz (mo_call (ok_fall_value J) hG (hr.mono (by decide)) (by rfl) J.g_fall_value J.F_fall_value.kp J.b_fall_value (mr_val (me_var (pv 0)) (mr_val (me_var (pv 3)) mr_nil)))) (mr_val (me_var (pv 4)) mr_nil)))))) (mw_or1 (mt_not (mt_val (me_frz (mo_call (ok__law_is_due J) hG (hr.mono (by decide)) (by rfl) J.g__law_is_due J.F__law_is_due.kp J.b__law_is_due (mr_val (me_frz (mo_callP0 (ks := ["fall", "x"]) (ok_fall_value J) hG (hr.mono (by decide)) (by rfl) J.g_fall_value J.F_fall_value.kp (kb_of (m := 0) (ix := [0, 1]) (ks := ["fall", "x"]) J.F_fall_value (fun q => nomatch q) fun _ _ _ _ _ _ us ws h1 h2 => match us, ws, h1, h2 with | [], [_, _], _, _ => rfl) rfl (mk_cons (me_var (pv 0)) (mk_cons (me_var (pv 3)) mk_nil)))) (mr_val (me_var (pv 4)) mr_nil))))))))) (mss_one (ms_ret (mo_fz me_bl))) mss_nil))))
    (mss_cons (ms_asg (me_frz (mo_call (ok__law_own_row J) hG (hr.mono (by decide)) (by rfl) J.g__law_own_row J.F__law_own_row.kp J.b__law_own_row (mr_val (me_var (pv 0)) (mr_val me_int mr_nil)))) (mg_name sc__law_are_values_right.nd rfl (by first | exact .inl rfl | exact .inr rfl)))
    (mss_cons (ms_for PassesOwn.never rfl (mi_seq rfl (me_var (pv 2))) (mg_name sc__law_are_values_right.nd rfl (by first | exact .inl rfl | exact .inr rfl)) (mss_one (ms_if (mt_not (mt_val (me_frz (mo_call (ok__law_is_due J) hG (hr.mono (by decide)) (by rfl) J.g__law_is_due J.F__law_is_due.kp J.b__law_is_due (mr_val (me_frz (mo_call (ok_row_of_fall J) hG (hr.mono (by decide)) (by rfl) J.g_row_of_fall J.F_row_of_fall.kp J.b_row_of_fall (mr_val (me_var (pv 0)) (mr_val (me_var (pv 6)) mr_nil)))) (mr_val (me_frz (mo_slice rfl (me_var (pv 5)) mp_no (mp_some (me_var (pv 6))))) mr_nil)))))) (mss_one (ms_ret (mo_fz me_bl))) mss_nil)))
    (mss_cons (ms_asg (me_at rfl (pv 2) (me_frz (mo_neg me_int)) (fun _ _ => rfl)) (mg_name sc__law_are_values_right.nd rfl (by first | exact .inl rfl | exact .inr rfl)))
    (mss_cons (ms_if (mt_not (mt_val (me_frz (mo_call (ok__law_is_due J) hG (hr.mono (by decide)) (by rfl) J.g__law_is_due J.F__law_is_due.kp J.b__law_is_due (mr_val (me_frz (mo_callP0 (ks := ["fall", "many"]) (ok_row_of_fall J) hG (hr.mono (by decide)) (by rfl) J.g_row_of_fall J.F_row_of_fall.kp (kb_of (m := 0) (ix := [0, 1]) (ks := ["fall", "many"]) J.F_row_of_fall (fun q => nomatch q) fun _ _ _ _ _ _ us ws h1 h2 => match us, ws, h1, h2 with | [], [_, _], _, _ => rfl) rfl (mk_cons (me_var (pv 0)) (mk_cons (me_var (pv 6)) mk_nil)))) (mr_val (me_frz (mo_slice rfl (me_var (pv 5)) mp_no (mp_some (me_var (pv 6))))) mr_nil)))))) (mss_one (ms_ret (mo_fz me_bl))) mss_nil)
    (mss_cons (ms_asg (me_frz (mo_slice rfl (me_var (pv 5)) mp_no (mp_some (me_frz (mo_max rfl (by rfl) J.z_max (me_frz (mo_lst (ma_cons (me_frz (mo_len rfl (by rfl) J.z_len (me_var (pv 0)))) (ma_cons me_int ma_nil))))))))) (mg_name sc__law_are_values_right.nd rfl (by first | exact .inl rfl | exact .inr rfl)))
    (mss_cons (ms_if (mt_gt (me_frz (mo_max rfl (by rfl) J.z_max (me_frz (mo_lc (own := [("item", 8)]) (ow := [false, false, false, false, false, false, false, false, true]) rfl sc__law_are_values_right.nd (blkOk_by (N := ["fall", "places", "lengths", "x", "due", "whole", "many", "row", "item"]) (sc := defScope s__law_are_values_right) (by decide +kernel)) (show Flags [false, false, false, false, false, false, false, false, true] 9 [8] from by unfold Flags; decide) (mi_seq rfl (me_var (pv 7))) (fun _ _ _ _ _ => (mg_name sc__law_are_values_right.nd rfl (by first | exact .inl rfl | exact .inr rfl))) (fun _ _ _ _ _ => pts_no) (fun _ _ _ _ _ => (me_frz (mo_abs (by rfl) J.z_abs (me_var (pv 8))))))))) (me_frz (mo_pow me_int me_int)) (by first | rfl | exact nomark _)) (mss_one (ms_ret (mo_fz me_bl))) mss_nil)
    (mss_one (ms_ret (mo_call (ok__law_is_due J) hG (hr.mono (by decide)) (by rfl) J.g__law_is_due J.F__law_is_due.kp J.b__law_is_due (mr_val (me_frz (mo_call (ok_fall_row J) hG (hr.mono (by decide)) (by rfl) J.g_fall_row J.F_fall_row.kp J.b_fall_row (mr_val (me_var (pv 7)) mr_nil))) (mr_val (me_var (pv 0)) mr_nil))))))))))))
theorem ok__law_own_error (J : Facts K mg) : FnG P w K mg base CX0 1 J.f__law_own_error J.fd__law_own_error ["value"] (spF K noEr false 1 m__law_own_error) := okF J.F__law_own_error sc__law_own_error rfl fun cdv A outer s H XE hG hr =>
    (mss_cons (ms_if (MW.mt (mw_or (mt_not (mt_val (me_isiV rfl (by rfl) J.z_isinstance (by rfl) J.z_tuple rfl (by decide) (by decide) (me_var (pv 0))))) (mw_or (mt_lt (me_frz (mo_len rfl (by rfl) J.z_len (me_var (pv 0)))) me_int (by first | rfl | exact nomark _)) (mw_or1 (mt_gt (me_frz (mo_len rfl (by rfl) J.z_len (me_var (pv 0)))) me_int (by first | rfl | exact nomark _)))))) (mss_one (ms_ret (mo_fz me_str))) mss_nil)
    (mss_cons (ms_for PassesOwn.never rfl (mi_enum rfl (by rfl) J.z_enumerate (me_var (pv 0))) (mg_tup rfl rfl (mgs_cons (mg_name sc__law_own_error.nd rfl (by first | exact .inl rfl | exact .inr rfl)) (mgs_cons (mg_name sc__law_own_error.nd rfl (by first | exact .inl rfl | exact .inr rfl)) mgs_nil))) (mss_one (ms_if (MW.mt (mw_or (mt_val (me_isiV rfl (by rfl) J.z_isinstance (by rfl) J.z_bool rfl (by decide) (by decide) (me_var (pv 2)))) (mw_or (mt_not (mt_val (me_isiV rfl (by rfl) J.z_isinstance (by rfl) J.z_int rfl (by decide) (by decide) (me_var (pv 2))))) (mw_or1 (mt_gt (me_frz (mo_abs (by rfl) J.z_abs (me_var (pv 2)))) (me_frz (mo_pow me_int me_int)) (by first | rfl | exact nomark _)))))) (mss_one (ms_ret (mo_fz (me_tup (ma_cons me_str (ma_cons (me_var (pv 1)) ma_nil)))))) mss_nil)))
    (mss_one (ms_ret (mo_fz me_non)))))
theorem ok__law_odd_ones (J : Facts K mg) : FnG P w K mg base CX0 1 J.f__law_odd_ones J.fd__law_odd_ones [] (spF K noEr false 0 m__law_odd_ones) := okF J.F__law_odd_ones sc__law_odd_ones rfl fun cdv A outer s H XE hG hr =>
    (mss_cons (ms_asg (me_frz (mo_add rfl (me_frz (mo_pow me_int me_int)) me_int)) (mg_name sc__law_odd_ones.nd rfl (by first | exact .inl rfl | exact .inr rfl)))
    (mss_one (ms_ret (mo_lst (ma_cons me_bl (ma_cons me_bl (ma_cons me_non (ma_cons me_str (ma_cons me_str (ma_cons (me_tup ma_nil) (ma_cons (me_tup (ma_cons me_int ma_nil)) (ma_cons (me_frz (mo_lst ma_nil)) (ma_cons (me_frz (mo_lst (ma_cons me_int ma_nil))) (ma_cons me_dnew (ma_cons (me_var (pv 0)) (ma_cons (me_frz (mo_neg (me_var (pv 0)))) (ma_cons (me_frz (mo_pow (me_frz (mo_pow me_int me_int)) me_int)) (ma_cons (me_frz (mo_neg (me_frz (mo_pow me_int me_int)))) ma_nil))))))))))))))))))
theorem ok__law_spoilt (J : Facts K mg) : FnG P w K mg base CX0 1 J.f__law_spoilt J.fd__law_spoilt ["row", "at", "odd"] (spF K noEr false 3 m__law_spoilt) := okF J.F__law_spoilt sc__law_spoilt rfl fun cdv A outer s H XE hG hr =>
    (mss_one (ms_ret (mo_add rfl (me_frz (mo_add rfl (me_frz (mo_slice rfl (me_var (pv 0)) mp_no (mp_some (me_var (pv 1))))) (me_tup (ma_cons (me_var (pv 2)) ma_nil)))) (me_frz (mo_slice rfl (me_var (pv 0)) (mp_some (me_frz (mo_add rfl (me_var (pv 1)) me_int))) mp_no)))))
theorem ok__law_some_values (J : Facts K mg) : FnG P w K mg base CX0 4 J.f__law_some_values J.fd__law_some_values ["bag", "row", "fall"] (spF K noEr false 3 m__law_some_values) := okF J.F__law_some_values sc__law_some_values rfl fun cdv A outer s H XE hG hr =>
    (mss_cons (ms_par2 rfl sc__law_some_values.nd rfl rfl (by decide) rfl rfl (mao_cons (mo_fz (me_frz (mo_call0 (ok__law_odd_ones J) hG (hr.mono (by decide)) (by rfl) J.g__law_odd_ones J.F__law_odd_ones.kp J.b__law_odd_ones))) (mao_cons (mo_lst (ma_cons me_non (ma_cons me_int (ma_cons me_int (ma_cons me_bl (ma_cons me_str (ma_cons me_str (ma_cons (me_frz (mo_lst ma_nil)) (ma_cons (me_tup ma_nil) (ma_cons me_dnew (ma_cons (me_disp (l := [(.inl 0, (.int 1))]) (ds := [(.int 1)]) (pps_cons pe_int pe_int pps_nil) (by rfl) (fun _ => (.cons (.int 1) .nil))) (ma_cons (me_frz (mo_list rfl (by rfl) J.z_list (me_var (pv 1)))) (ma_cons (me_tup (ma_cons (me_var (pv 1)) ma_nil)) ma_nil))))))))))))) mao_nil)) (by decide) (by decide) rfl)
    (mss_cons (ms_for PassesOwn.never rfl (mi_seq rfl (me_var (pv 3))) (mg_name sc__law_some_values.nd rfl (by first | exact .inl rfl | exact .inr rfl)) (mss_cons (ms_expr (me_append (pv 4) (me_frz (mo_call (ok__law_spoilt J) hG (hr.mono (by decide)) (by rfl) J.g__law_spoilt J.F__law_spoilt.kp J.b__law_spoilt (mr_val (me_var (pv 1)) (mr_val (me_frz (mo_call (ok__law_draw J) hG (hr.mono (by decide)) (by rfl) J.g__law_draw J.F__law_draw.kp J.b__law_draw (mr_ref (pv 0) (mr_val (me_frz (mo_len rfl (by rfl) J.z_len (me_var (pv 1)))) mr_nil)))) (mr_val (me_var (pv 5)) mr_nil)))))))
    (mss_one (ms_expr (me_append (pv 4) (me_frz (mo_add rfl (me_frz (mo_slice rfl (me_var (pv 1)) mp_no (mp_some (me_frz (mo_neg me_int))))) (me_tup (ma_cons (me_var (pv 5)) ma_nil)))))))))
    (mss_cons (ms_for PassesOwn.never rfl (mi_range1 (by rfl) J.z_range me_int) (mg_name sc__law_some_values.nd rfl (by first | exact .inl rfl | exact .inr rfl)) (mss_cons (ms_par2 rfl sc__law_some_values.nd rfl rfl (by decide) rfl rfl (mao_cons (mo_fz (me_frz (mo_call (ok__law_draw J) hG (hr.mono (by decide)) (by rfl) J.g__law_draw J.F__law_draw.kp J.b__law_draw (mr_ref (pv 0) (mr_val me_int mr_nil))))) (mao_cons (mo_fz (me_frz (mo_call (ok__law_draw J) hG (hr.mono (by decide)) (by rfl) J.g__law_draw J.F__law_draw.kp J.b__law_draw (mr_ref (pv 0) (mr_val me_int mr_nil))))) mao_nil)) (by decide) (by decide) rfl)
    (mss_cons (ms_asg (me_frz (mo_slice rfl (me_frz (mo_add rfl (me_var (pv 1)) (me_frz (mo_times rfl (me_tup (ma_cons me_int ma_nil)) me_int)))) mp_no (mp_some me_int))) (mg_name sc__law_some_values.nd rfl (by first | exact .inl rfl | exact .inr rfl)))
    (mss_cons (ms_asg (me_frz (mo_call (ok__law_spoilt J) hG (hr.mono (by decide)) (by rfl) J.g__law_spoilt J.F__law_spoilt.kp J.b__law_spoilt (mr_val (me_var (pv 9)) (mr_val (me_var (pv 7)) (mr_val (me_frz (mo_call (ok__law_pick J) hG (hr.mono (by decide)) (by rfl) J.g__law_pick J.F__law_pick.kp J.b__law_pick (mr_ref (pv 0) (mr_val (me_var (pv 3)) mr_nil)))) mr_nil))))) (mg_name sc__law_some_values.nd rfl (by first | exact .inl rfl | exact .inr rfl)))
    (mss_cons (ms_expr (me_extend (pv 4) (me_frz (mo_lst (ma_cons (me_var (pv 10)) (ma_cons (me_frz (mo_call (ok__law_spoilt J) hG (hr.mono (by decide)) (by rfl) J.g__law_spoilt J.F__law_spoilt.kp J.b__law_spoilt (mr_val (me_var (pv 10)) (mr_val (me_var (pv 8)) (mr_val (me_frz (mo_call (ok__law_pick J) hG (hr.mono (by decide)) (by rfl) J.g__law_pick J.F__law_pick.kp J.b__law_pick (mr_ref (pv 0) (mr_val (me_var (pv 3)) mr_nil)))) mr_nil))))) (ma_cons (me_frz (mo_add rfl (me_var (pv 10)) (me_tup (ma_cons me_int ma_nil)))) (ma_cons (me_frz (mo_add rfl (me_tup (ma_cons (me_frz (mo_pow me_int me_int)) ma_nil)) (me_var (pv 9)))) ma_nil))))))))
    (mss_one (ms_expr (me_extend (pv 4) (me_frz (mo_lst (ma_cons (me_var (pv 9)) (ma_cons (me_frz (mo_add rfl (me_var (pv 9)) (me_tup (ma_cons me_int ma_nil)))) (ma_cons (me_frz (mo_add rfl (me_var (pv 9)) (me_var (pv 9)))) ma_nil)))))))))))))
    (mss_cons (ms_for PassesOwn.never rfl (mi_seq rfl (me_frz (mo_lst (ma_cons (me_frz (mo_pow me_int me_int)) (ma_cons (me_frz (mo_neg (me_frz (mo_pow me_int me_int)))) ma_nil))))) (mg_name sc__law_some_values.nd rfl (by first | exact .inl rfl | exact .inr rfl)) (mss_one (ms_expr (me_extend (pv 4) (me_frz (mo_lst (ma_cons (me_tup (ma_cons (me_var (pv 11)) ma_nil)) (ma_cons (me_frz (mo_times rfl (me_tup (ma_cons (me_var (pv 11)) ma_nil)) me_int)) (ma_cons (me_frz (mo_times rfl (me_tup (ma_cons (me_var (pv 11)) ma_nil)) me_int)) (ma_cons (me_frz (mo_add rfl (me_frz (mo_times rfl (me_tup (ma_cons me_int ma_nil)) me_int)) (me_tup (ma_cons (me_var (pv 11)) ma_nil)))) ma_nil))))))))))
    (mss_cons (ms_expr (me_extend (pv 4) (me_frz (mo_lst (ma_cons (me_frz (mo_times rfl (me_tup (ma_cons me_int ma_nil)) me_int)) (ma_cons (me_frz (mo_mul rfl (me_frz (mo_lst (ma_cons me_int ma_nil))) me_int)) (ma_cons (me_frz (mo_times rfl me_str me_int)) (ma_cons (me_frz (mo_times rfl (me_tup (ma_cons (me_tup ma_nil) ma_nil)) me_int)) (ma_cons (me_frz (mo_times rfl (me_tup (ma_cons (me_frz (mo_lst ma_nil)) ma_nil)) me_int)) ma_nil)))))))))
    (mss_cons (ms_asg (me_frz (mo_call (ok_row_of_fall J) hG (hr.mono (by decide)) (by rfl) J.g_row_of_fall J.F_row_of_fall.kp J.b_row_of_fall (mr_val (me_var (pv 2)) (mr_val me_int mr_nil)))) (mg_name sc__law_some_values.nd rfl (by first | exact .inl rfl | exact .inr rfl)))
    (mss_cons (ms_expr (me_extend (pv 4) (me_frz (mo_lst (ma_cons (me_var (pv 12)) (ma_cons (me_frz (mo_slice rfl (me_var (pv 12)) mp_no (mp_some me_int))) (ma_cons (me_frz (mo_call (ok_row_of_fall J) hG (hr.mono (by decide)) (by rfl) J.g_row_of_fall J.F_row_of_fall.kp J.b_row_of_fall (mr_val (me_var (pv 2)) (mr_val me_int mr_nil)))) (ma_cons (me_frz (mo_call (ok_row_of_fall J) hG (hr.mono (by decide)) (by rfl) J.g_row_of_fall J.F_row_of_fall.kp J.b_row_of_fall (mr_val (me_var (pv 2)) (mr_val me_int mr_nil)))) ma_nil))))))))
    (mss_one (ms_ret (mo_add rfl (me_var (pv 4)) (me_frz (mo_lst (ma_cons (me_frz (mo_call (ok_steps_of J) hG (hr.mono (by decide)) (by rfl) J.g_steps_of J.F_steps_of.kp J.b_steps_of (mr_val (me_var (pv 1)) mr_nil))) (ma_cons (me_frz (mo_call (ok_fall_row J) hG (hr.mono (by decide)) (by rfl) J.g_fall_row J.F_fall_row.kp J.b_fall_row (mr_val (me_var (pv 1)) mr_nil))) ma_nil))))))))))))))
theorem ok__law_is_judge_right (J : Facts K mg) : FnG P w K mg base CX0 5 J.f__law_is_judge_right J.fd__law_is_judge_right ["bag", "row", "fall"] (spF K noEr false 3 m__law_is_judge_right) := okF J.F__law_is_judge_right sc__law_is_judge_right rfl fun cdv A outer s H XE hG hr =>
    (mss_cons (ms_asg (me_frz (mo_call (ok__law_some_values J) hG (hr.mono (by decide)) (by rfl) J.g__law_some_values J.F__law_some_values.kp J.b__law_some_values (mr_ref (pv 0) (mr_val (me_var (pv 1)) (mr_val (me_var (pv 2)) mr_nil))))) (mg_name sc__law_is_judge_right.nd rfl (by first | exact .inl rfl | exact .inr rfl)))
    (mss_cons (ms_for PassesOwn.never rfl (mi_seq rfl (me_var (pv 3))) (mg_name sc__law_is_judge_right.nd rfl (by first | exact .inl rfl | exact .inr rfl)) (mss_cons (ms_par2 rfl sc__law_is_judge_right.nd rfl rfl (by decide) rfl rfl (mao_cons (mo_fz (me_frz (mo_call (ok__law_own_error J) hG (hr.mono (by decide)) (by rfl) J.g__law_own_error J.F__law_own_error.kp J.b__law_own_error (mr_val (me_var (pv 4)) mr_nil)))) (mao_cons (mo_fz (me_frz (mo_reprV rfl hG (Room.units hr) J.dig (by rfl) J.z_repr (me_var (pv 4))))) mao_nil)) (by decide) (by decide) rfl)
    (mss_cons (ms_if (MW.mt (mw_or (mt_not (mt_val (me_frz (mo_call (ok__law_is_due J) hG (hr.mono (by decide)) (by rfl) J.g__law_is_due J.F__law_is_due.kp J.b__law_is_due (mr_val (me_frz (mo_call (ok_step_row_error J) hG (hr.mono (by decide)) (by rfl) J.g_step_row_error J.F_step_row_error.kp J.b_step_row_error (mr_val (me_var (pv 4)) mr_nil))) (mr_val (me_var (pv 5)) mr_nil)))))) (mw_or1 (mt_not (mt_val (me_frz (mo_call (ok__law_is_due J) hG (hr.mono (by decide)) (by rfl) J.g__law_is_due J.F__law_is_due.kp J.b__law_is_due (mr_val (me_frz (mo_callP0 (ks := ["value"]) (ok_step_row_error J) hG (hr.mono (by decide)) (by rfl) J.g_step_row_error J.F_step_row_error.kp (kb_of (m := 0) (ix := [0]) (ks := ["value"]) J.F_step_row_error (fun q => nomatch q) fun _ _ _ _ _ _ us ws h1 h2 => match us, ws, h1, h2 with | [], [_], _, _ => rfl) rfl (mk_cons (me_var (pv 4)) mk_nil))) (mr_val (me_var (pv 5)) mr_nil))))))))) (mss_one (ms_ret (mo_fz me_bl))) mss_nil)
    (mss_one (ms_if (mt_ne rfl (Room.units hr) (me_frz (mo_reprV rfl hG (Room.units hr) J.dig (by rfl) J.z_repr (me_var (pv 4)))) (me_var (pv 6)) (by first | rfl | exact nomark _)) (mss_one (ms_ret (mo_fz me_bl))) mss_nil)))))
    (mss_one (ms_ret (mo_fz me_bl)))))
theorem ok_law (J : Facts K mg) : FnG P w K mg base CX0 6 J.f_law J.fd_law ["script"] (spF K noEr false 1 m_law) := okF J.F_law sc_law rfl fun cdv A outer s H XE hG hr =>
    (mss_cons (ms_set sc_law.nd rfl (by first | exact .inl rfl | exact .inr rfl) (mo_call (ok__law_own_bag J) hG (hr.mono (by decide)) (by rfl) J.g__law_own_bag J.F__law_own_bag.kp J.b__law_own_bag (mr_val (me_var (pv 0)) mr_nil)))
    (mss_cons (ms_par3 rfl sc_law.nd rfl rfl rfl (by decide) (by decide) (by decide) rfl rfl rfl (mao_cons (mo_fz (me_frz (mo_call (ok__law_rows J) hG (hr.mono (by decide)) (by rfl) J.g__law_rows J.F__law_rows.kp J.b__law_rows (mr_ref (pv 1) mr_nil)))) (mao_cons (mo_fz (me_frz (mo_call (ok__law_fall J) hG (hr.mono (by decide)) (by rfl) J.g__law_fall J.F__law_fall.kp J.b__law_fall (mr_ref (pv 1) (mr_val (me_frz (mo_pow me_int me_int)) mr_nil))))) (mao_cons (mo_fz (me_frz (mo_call (ok__law_fall J) hG (hr.mono (by decide)) (by rfl) J.g__law_fall J.F__law_fall.kp J.b__law_fall (mr_ref (pv 1) (mr_val me_int mr_nil))))) mao_nil))) (by decide) (by decide) (by decide) rfl)
    (mss_cons (ms_asg (me_frz (mo_lst (ma_cons (me_var (pv 3)) (ma_cons (me_frz (mo_call (ok__law_twin J) hG (hr.mono (by decide)) (by rfl) J.g__law_twin J.F__law_twin.kp J.b__law_twin (mr_ref (pv 1) (mr_val (me_var (pv 3)) (mr_val (me_frz (mo_pow me_int me_int)) mr_nil))))) (ma_cons (me_var (pv 4)) (ma_cons (me_tup ma_nil) ma_nil)))))) (mg_name sc_law.nd rfl (by first | exact .inl rfl | exact .inr rfl)))
    (mss_cons (ms_set sc_law.nd rfl (by first | exact .inl rfl | exact .inr rfl) (mo_lst (ma_cons me_int (ma_cons (me_frz (mo_neg me_int)) (ma_cons me_int (ma_cons (me_frz (mo_call (ok__law_draw J) hG (hr.mono (by decide)) (by rfl) J.g__law_draw J.F__law_draw.kp J.b__law_draw (mr_ref (pv 1) (mr_val me_int mr_nil)))) (ma_cons (me_frz (mo_sub (me_frz (mo_neg me_int)) (me_frz (mo_call (ok__law_draw J) hG (hr.mono (by decide)) (by rfl) J.g__law_draw J.F__law_draw.kp J.b__law_draw (mr_ref (pv 1) (mr_val me_int mr_nil)))))) ma_nil)))))))
    (mss_cons (ms_expr (me_extend (pv 6) (me_frz (mo_lst (ma_cons (me_frz (mo_call (ok__law_number J) hG (hr.mono (by decide)) (by rfl) J.g__law_number J.F__law_number.kp J.b__law_number (mr_ref (pv 1) (mr_val (me_frz (mo_pow me_int me_int)) mr_nil)))) (ma_cons (me_frz (mo_call (ok__law_pick J) hG (hr.mono (by decide)) (by rfl) J.g__law_pick J.F__law_pick.kp J.b__law_pick (mr_ref (pv 1) (mr_val (me_frz (mo_lst (ma_cons (me_frz (mo_pow me_int me_int)) (ma_cons (me_frz (mo_neg (me_frz (mo_pow me_int me_int)))) ma_nil)))) mr_nil)))) ma_nil))))))
    (mss_cons (ms_asg (me_frz (mo_lst (ma_cons (me_frz (mo_call (ok__law_draw J) hG (hr.mono (by decide)) (by rfl) J.g__law_draw J.F__law_draw.kp J.b__law_draw (mr_ref (pv 1) (mr_val me_int mr_nil)))) (ma_cons me_int (ma_cons me_int (ma_cons (me_frz (mo_call (ok__law_draw J) hG (hr.mono (by decide)) (by rfl) J.g__law_draw J.F__law_draw.kp J.b__law_draw (mr_ref (pv 1) (mr_val me_int mr_nil)))) ma_nil)))))) (mg_name sc_law.nd rfl (by first | exact .inl rfl | exact .inr rfl)))
    (mss_cons (ms_for PassesOwn.never rfl (mi_seq rfl (me_var (pv 5))) (mg_name sc_law.nd rfl (by first | exact .inl rfl | exact .inr rfl)) (mss_one (ms_if (mt_not (mt_val (me_frz (mo_call (ok__law_are_values_right J) hG (hr.mono (by decide)) (by rfl) J.g__law_are_values_right J.F__law_are_values_right.kp J.b__law_are_values_right (mr_val (me_var (pv 8)) (mr_val (me_var (pv 6)) (mr_val (me_var (pv 7)) mr_nil))))))) (mss_one (ms_ret (mo_fz me_bl))) mss_nil)))
    (mss_cons (ms_for PassesOwn.never rfl (mi_seq rfl (me_var (pv 2))) (mg_name sc_law.nd rfl (by first | exact .inl rfl | exact .inr rfl)) (mss_one (ms_if (mt_not (mt_val (me_frz (mo_call (ok__law_are_steps_right J) hG (hr.mono (by decide)) (by rfl) J.g__law_are_steps_right J.F__law_are_steps_right.kp J.b__law_are_steps_right (mr_val (me_var (pv 9)) mr_nil))))) (mss_one (ms_ret (mo_fz me_bl))) mss_nil)))
    (mss_cons (ms_if (MW.mt (mw_or (mt_not (mt_val (me_frz (mo_call (ok__law_is_judge_right J) hG (hr.mono (by decide)) (by rfl) J.g__law_is_judge_right J.F__law_is_judge_right.kp J.b__law_is_judge_right (mr_ref (pv 1) (mr_val (me_at rfl (pv 2) me_int (fun _ _ => rfl)) (mr_val (me_var (pv 3)) mr_nil))))))) (mw_or1 (mt_not (mt_val (me_frz (mo_call (ok__law_are_steps_right J) hG (hr.mono (by decide)) (by rfl) J.g__law_are_steps_right J.F__law_are_steps_right.kp J.b__law_are_steps_right (mr_val (me_at rfl (pv 2) me_int (fun _ _ => rfl)) mr_nil)))))))) (mss_one (ms_ret (mo_fz me_bl))) mss_nil)
    (mss_one (ms_ret (mo_call (ok__law_are_values_right J) hG (hr.mono (by decide)) (by rfl) J.g__law_are_values_right J.F__law_are_values_right.kp J.b__law_are_values_right (mr_val (me_var (pv 3)) (mr_val (me_var (pv 6)) (mr_val (me_var (pv 7)) mr_nil)))))))))))))))
end
theorem all_mk {l : PySem.W.OpenLaw} {w : World} {K : PySem.W.Frag} {h : Heap} {mg : Str → Option Value} {fa : Addr} (X : K.In h) (G : h.Ns mainGlobals mg) (hfa : mg "law" = some (.ref fa))
    {f0 : Addr} {od0 an0 : Option Addr} {sl0 : Array (Option Value)} {oc0 kV0 dc0 pm0 cd0 ct0 : Value}
    (a0 : PySem.W.nsIn K mainGlobals "is_number" = some (some (.ref f0))) (l0 : K.lookup f0 = some ⟨oc0, od0, .func (PySem.W.fnOf "is_number" "is_number" (defArgs s_is_number) (defBody s_is_number) (defScope s_is_number) .none kV0 dc0 pm0 an0 cd0 ct0), sl0⟩) (c0 : PySem.W.codeIn K cd0 "is_number" = true) (k0 : PySem.W.keepIn K (.ref f0) = true)
    {f1 : Addr} {od1 an1 : Option Addr} {sl1 : Array (Option Value)} {oc1 kV1 dc1 pm1 cd1 ct1 : Value}
    (a1 : PySem.W.nsIn K mainGlobals "is_within" = some (some (.ref f1))) (l1 : K.lookup f1 = some ⟨oc1, od1, .func (PySem.W.fnOf "is_within" "is_within" (defArgs s_is_within) (defBody s_is_within) (defScope s_is_within) .none kV1 dc1 pm1 an1 cd1 ct1), sl1⟩) (c1 : PySem.W.codeIn K cd1 "is_within" = true) (k1 : PySem.W.keepIn K (.ref f1) = true)
    {f2 : Addr} {od2 an2 : Option Addr} {sl2 : Array (Option Value)} {oc2 kV2 dc2 pm2 cd2 ct2 : Value}
    (a2 : PySem.W.nsIn K mainGlobals "step_row_error" = some (some (.ref f2))) (l2 : K.lookup f2 = some ⟨oc2, od2, .func (PySem.W.fnOf "step_row_error" "step_row_error" (defArgs s_step_row_error) (defBody s_step_row_error) (defScope s_step_row_error) .none kV2 dc2 pm2 an2 cd2 ct2), sl2⟩) (c2 : PySem.W.codeIn K cd2 "step_row_error" = true) (k2 : PySem.W.keepIn K (.ref f2) = true)
    {f3 : Addr} {od3 an3 : Option Addr} {sl3 : Array (Option Value)} {oc3 kV3 dc3 pm3 cd3 ct3 : Value}
    (a3 : PySem.W.nsIn K mainGlobals "steps_of" = some (some (.ref f3))) (l3 : K.lookup f3 = some ⟨oc3, od3, .func (PySem.W.fnOf "steps_of" "steps_of" (defArgs s_steps_of) (defBody s_steps_of) (defScope s_steps_of) .none kV3 dc3 pm3 an3 cd3 ct3), sl3⟩) (c3 : PySem.W.codeIn K cd3 "steps_of" = true) (k3 : PySem.W.keepIn K (.ref f3) = true)
    {f4 : Addr} {od4 an4 : Option Addr} {sl4 : Array (Option Value)} {oc4 kV4 dc4 pm4 cd4 ct4 : Value}
    (a4 : PySem.W.nsIn K mainGlobals "fall_trimmed" = some (some (.ref f4))) (l4 : K.lookup f4 = some ⟨oc4, od4, .func (PySem.W.fnOf "fall_trimmed" "fall_trimmed" (defArgs s_fall_trimmed) (defBody s_fall_trimmed) (defScope s_fall_trimmed) .none kV4 dc4 pm4 an4 cd4 ct4), sl4⟩) (c4 : PySem.W.codeIn K cd4 "fall_trimmed" = true) (k4 : PySem.W.keepIn K (.ref f4) = true)
    {f5 : Addr} {od5 an5 : Option Addr} {sl5 : Array (Option Value)} {oc5 kV5 dc5 pm5 cd5 ct5 : Value}
    (a5 : PySem.W.nsIn K mainGlobals "fall_row" = some (some (.ref f5))) (l5 : K.lookup f5 = some ⟨oc5, od5, .func (PySem.W.fnOf "fall_row" "fall_row" (defArgs s_fall_row) (defBody s_fall_row) (defScope s_fall_row) .none kV5 dc5 pm5 an5 cd5 ct5), sl5⟩) (c5 : PySem.W.codeIn K cd5 "fall_row" = true) (k5 : PySem.W.keepIn K (.ref f5) = true)
    {f6 : Addr} {od6 an6 : Option Addr} {sl6 : Array (Option Value)} {oc6 kV6 dc6 pm6 cd6 ct6 : Value}
    (a6 : PySem.W.nsIn K mainGlobals "choices_row" = some (some (.ref f6))) (l6 : K.lookup f6 = some ⟨oc6, od6, .func (PySem.W.fnOf "choices_row" "choices_row" (defArgs s_choices_row) (defBody s_choices_row) (defScope s_choices_row) .none kV6 dc6 pm6 an6 cd6 ct6), sl6⟩) (c6 : PySem.W.codeIn K cd6 "choices_row" = true) (k6 : PySem.W.keepIn K (.ref f6) = true)
    {f7 : Addr} {od7 an7 : Option Addr} {sl7 : Array (Option Value)} {oc7 kV7 dc7 pm7 cd7 ct7 : Value}
    (a7 : PySem.W.nsIn K mainGlobals "fall_value" = some (some (.ref f7))) (l7 : K.lookup f7 = some ⟨oc7, od7, .func (PySem.W.fnOf "fall_value" "fall_value" (defArgs s_fall_value) (defBody s_fall_value) (defScope s_fall_value) .none kV7 dc7 pm7 an7 cd7 ct7), sl7⟩) (c7 : PySem.W.codeIn K cd7 "fall_value" = true) (k7 : PySem.W.keepIn K (.ref f7) = true)
    {f8 : Addr} {od8 an8 : Option Addr} {sl8 : Array (Option Value)} {oc8 kV8 dc8 pm8 cd8 ct8 : Value}
    (a8 : PySem.W.nsIn K mainGlobals "row_of_fall" = some (some (.ref f8))) (l8 : K.lookup f8 = some ⟨oc8, od8, .func (PySem.W.fnOf "row_of_fall" "row_of_fall" (defArgs s_row_of_fall) (defBody s_row_of_fall) (defScope s_row_of_fall) .none kV8 dc8 pm8 an8 cd8 ct8), sl8⟩) (c8 : PySem.W.codeIn K cd8 "row_of_fall" = true) (k8 : PySem.W.keepIn K (.ref f8) = true)
    {f9 : Addr} {od9 an9 : Option Addr} {sl9 : Array (Option Value)} {oc9 kV9 dc9 pm9 cd9 ct9 : Value}
    (a9 : PySem.W.nsIn K mainGlobals "_law_own_bag" = some (some (.ref f9))) (l9 : K.lookup f9 = some ⟨oc9, od9, .func (PySem.W.fnOf "_law_own_bag" "_law_own_bag" (defArgs s__law_own_bag) (defBody s__law_own_bag) (defScope s__law_own_bag) .none kV9 dc9 pm9 an9 cd9 ct9), sl9⟩) (c9 : PySem.W.codeIn K cd9 "_law_own_bag" = true) (k9 : PySem.W.keepIn K (.ref f9) = true)
    {f10 : Addr} {od10 an10 : Option Addr} {sl10 : Array (Option Value)} {oc10 kV10 dc10 pm10 cd10 ct10 : Value}
    (a10 : PySem.W.nsIn K mainGlobals "_law_draw" = some (some (.ref f10))) (l10 : K.lookup f10 = some ⟨oc10, od10, .func (PySem.W.fnOf "_law_draw" "_law_draw" (defArgs s__law_draw) (defBody s__law_draw) (defScope s__law_draw) .none kV10 dc10 pm10 an10 cd10 ct10), sl10⟩) (c10 : PySem.W.codeIn K cd10 "_law_draw" = true) (k10 : PySem.W.keepIn K (.ref f10) = true)
    {f11 : Addr} {od11 an11 : Option Addr} {sl11 : Array (Option Value)} {oc11 kV11 dc11 pm11 cd11 ct11 : Value}
    (a11 : PySem.W.nsIn K mainGlobals "_law_pick" = some (some (.ref f11))) (l11 : K.lookup f11 = some ⟨oc11, od11, .func (PySem.W.fnOf "_law_pick" "_law_pick" (defArgs s__law_pick) (defBody s__law_pick) (defScope s__law_pick) .none kV11 dc11 pm11 an11 cd11 ct11), sl11⟩) (c11 : PySem.W.codeIn K cd11 "_law_pick" = true) (k11 : PySem.W.keepIn K (.ref f11) = true)
    {f12 : Addr} {od12 an12 : Option Addr} {sl12 : Array (Option Value)} {oc12 kV12 dc12 pm12 cd12 ct12 : Value}
    (a12 : PySem.W.nsIn K mainGlobals "_law_number" = some (some (.ref f12))) (l12 : K.lookup f12 = some ⟨oc12, od12, .func (PySem.W.fnOf "_law_number" "_law_number" (defArgs s__law_number) (defBody s__law_number) (defScope s__law_number) .none kV12 dc12 pm12 an12 cd12 ct12), sl12⟩) (c12 : PySem.W.codeIn K cd12 "_law_number" = true) (k12 : PySem.W.keepIn K (.ref f12) = true)
    {f13 : Addr} {od13 an13 : Option Addr} {sl13 : Array (Option Value)} {oc13 kV13 dc13 pm13 cd13 ct13 : Value}
    (a13 : PySem.W.nsIn K mainGlobals "_law_is_due" = some (some (.ref f13))) (l13 : K.lookup f13 = some ⟨oc13, od13, .func (PySem.W.fnOf "_law_is_due" "_law_is_due" (defArgs s__law_is_due) (defBody s__law_is_due) (defScope s__law_is_due) .none kV13 dc13 pm13 an13 cd13 ct13), sl13⟩) (c13 : PySem.W.codeIn K cd13 "_law_is_due" = true) (k13 : PySem.W.keepIn K (.ref f13) = true)
    {f14 : Addr} {od14 an14 : Option Addr} {sl14 : Array (Option Value)} {oc14 kV14 dc14 pm14 cd14 ct14 : Value}
    (a14 : PySem.W.nsIn K mainGlobals "_law_fall" = some (some (.ref f14))) (l14 : K.lookup f14 = some ⟨oc14, od14, .func (PySem.W.fnOf "_law_fall" "_law_fall" (defArgs s__law_fall) (defBody s__law_fall) (defScope s__law_fall) .none kV14 dc14 pm14 an14 cd14 ct14), sl14⟩) (c14 : PySem.W.codeIn K cd14 "_law_fall" = true) (k14 : PySem.W.keepIn K (.ref f14) = true)
    {f15 : Addr} {od15 an15 : Option Addr} {sl15 : Array (Option Value)} {oc15 kV15 dc15 pm15 cd15 ct15 : Value}
    (a15 : PySem.W.nsIn K mainGlobals "_law_twin" = some (some (.ref f15))) (l15 : K.lookup f15 = some ⟨oc15, od15, .func (PySem.W.fnOf "_law_twin" "_law_twin" (defArgs s__law_twin) (defBody s__law_twin) (defScope s__law_twin) .none kV15 dc15 pm15 an15 cd15 ct15), sl15⟩) (c15 : PySem.W.codeIn K cd15 "_law_twin" = true) (k15 : PySem.W.keepIn K (.ref f15) = true)
    {f16 : Addr} {od16 an16 : Option Addr} {sl16 : Array (Option Value)} {oc16 kV16 dc16 pm16 cd16 ct16 : Value}
    (a16 : PySem.W.nsIn K mainGlobals "_law_value" = some (some (.ref f16))) (l16 : K.lookup f16 = some ⟨oc16, od16, .func (PySem.W.fnOf "_law_value" "_law_value" (defArgs s__law_value) (defBody s__law_value) (defScope s__law_value) .none kV16 dc16 pm16 an16 cd16 ct16), sl16⟩) (c16 : PySem.W.codeIn K cd16 "_law_value" = true) (k16 : PySem.W.keepIn K (.ref f16) = true)
    {f17 : Addr} {od17 an17 : Option Addr} {sl17 : Array (Option Value)} {oc17 kV17 dc17 pm17 cd17 ct17 : Value}
    (a17 : PySem.W.nsIn K mainGlobals "_law_triangle" = some (some (.ref f17))) (l17 : K.lookup f17 = some ⟨oc17, od17, .func (PySem.W.fnOf "_law_triangle" "_law_triangle" (defArgs s__law_triangle) (defBody s__law_triangle) (defScope s__law_triangle) .none kV17 dc17 pm17 an17 cd17 ct17), sl17⟩) (c17 : PySem.W.codeIn K cd17 "_law_triangle" = true) (k17 : PySem.W.keepIn K (.ref f17) = true)
    {f18 : Addr} {od18 an18 : Option Addr} {sl18 : Array (Option Value)} {oc18 kV18 dc18 pm18 cd18 ct18 : Value}
    (a18 : PySem.W.nsIn K mainGlobals "_law_cut" = some (some (.ref f18))) (l18 : K.lookup f18 = some ⟨oc18, od18, .func (PySem.W.fnOf "_law_cut" "_law_cut" (defArgs s__law_cut) (defBody s__law_cut) (defScope s__law_cut) .none kV18 dc18 pm18 an18 cd18 ct18), sl18⟩) (c18 : PySem.W.codeIn K cd18 "_law_cut" = true) (k18 : PySem.W.keepIn K (.ref f18) = true)
    {f19 : Addr} {od19 an19 : Option Addr} {sl19 : Array (Option Value)} {oc19 kV19 dc19 pm19 cd19 ct19 : Value}
    (a19 : PySem.W.nsIn K mainGlobals "_law_own_row" = some (some (.ref f19))) (l19 : K.lookup f19 = some ⟨oc19, od19, .func (PySem.W.fnOf "_law_own_row" "_law_own_row" (defArgs s__law_own_row) (defBody s__law_own_row) (defScope s__law_own_row) .none kV19 dc19 pm19 an19 cd19 ct19), sl19⟩) (c19 : PySem.W.codeIn K cd19 "_law_own_row" = true) (k19 : PySem.W.keepIn K (.ref f19) = true)
    {f20 : Addr} {od20 an20 : Option Addr} {sl20 : Array (Option Value)} {oc20 kV20 dc20 pm20 cd20 ct20 : Value}
    (a20 : PySem.W.nsIn K mainGlobals "_law_any_row" = some (some (.ref f20))) (l20 : K.lookup f20 = some ⟨oc20, od20, .func (PySem.W.fnOf "_law_any_row" "_law_any_row" (defArgs s__law_any_row) (defBody s__law_any_row) (defScope s__law_any_row) .none kV20 dc20 pm20 an20 cd20 ct20), sl20⟩) (c20 : PySem.W.codeIn K cd20 "_law_any_row" = true) (k20 : PySem.W.keepIn K (.ref f20) = true)
    {f21 : Addr} {od21 an21 : Option Addr} {sl21 : Array (Option Value)} {oc21 kV21 dc21 pm21 cd21 ct21 : Value}
    (a21 : PySem.W.nsIn K mainGlobals "_law_twin_row" = some (some (.ref f21))) (l21 : K.lookup f21 = some ⟨oc21, od21, .func (PySem.W.fnOf "_law_twin_row" "_law_twin_row" (defArgs s__law_twin_row) (defBody s__law_twin_row) (defScope s__law_twin_row) .none kV21 dc21 pm21 an21 cd21 ct21), sl21⟩) (c21 : PySem.W.codeIn K cd21 "_law_twin_row" = true) (k21 : PySem.W.keepIn K (.ref f21) = true)
    {f22 : Addr} {od22 an22 : Option Addr} {sl22 : Array (Option Value)} {oc22 kV22 dc22 pm22 cd22 ct22 : Value}
    (a22 : PySem.W.nsIn K mainGlobals "_law_rows" = some (some (.ref f22))) (l22 : K.lookup f22 = some ⟨oc22, od22, .func (PySem.W.fnOf "_law_rows" "_law_rows" (defArgs s__law_rows) (defBody s__law_rows) (defScope s__law_rows) .none kV22 dc22 pm22 an22 cd22 ct22), sl22⟩) (c22 : PySem.W.codeIn K cd22 "_law_rows" = true) (k22 : PySem.W.keepIn K (.ref f22) = true)
    {f23 : Addr} {od23 an23 : Option Addr} {sl23 : Array (Option Value)} {oc23 kV23 dc23 pm23 cd23 ct23 : Value}
    (a23 : PySem.W.nsIn K mainGlobals "_law_are_steps_right" = some (some (.ref f23))) (l23 : K.lookup f23 = some ⟨oc23, od23, .func (PySem.W.fnOf "_law_are_steps_right" "_law_are_steps_right" (defArgs s__law_are_steps_right) (defBody s__law_are_steps_right) (defScope s__law_are_steps_right) .none kV23 dc23 pm23 an23 cd23 ct23), sl23⟩) (c23 : PySem.W.codeIn K cd23 "_law_are_steps_right" = true) (k23 : PySem.W.keepIn K (.ref f23) = true)
    {f24 : Addr} {od24 an24 : Option Addr} {sl24 : Array (Option Value)} {oc24 kV24 dc24 pm24 cd24 ct24 : Value}
    (a24 : PySem.W.nsIn K mainGlobals "_law_are_values_right" = some (some (.ref f24))) (l24 : K.lookup f24 = some ⟨oc24, od24, .func (PySem.W.fnOf "_law_are_values_right" "_law_are_values_right" (defArgs s__law_are_values_right) (defBody s__law_are_values_right) (defScope s__law_are_values_right) .none kV24 dc24 pm24 an24 cd24 ct24), sl24⟩) (c24 : PySem.W.codeIn K cd24 "_law_are_values_right" = true) (k24 : PySem.W.keepIn K (.ref f24) = true)
    {f25 : Addr} {od25 an25 : Option Addr} {sl25 : Array (Option Value)} {oc25 kV25 dc25 pm25 cd25 ct25 : Value}
    (a25 : PySem.W.nsIn K mainGlobals "_law_own_error" = some (some (.ref f25))) (l25 : K.lookup f25 = some ⟨oc25, od25, .func (PySem.W.fnOf "_law_own_error" "_law_own_error" (defArgs s__law_own_error) (defBody s__law_own_error) (defScope s__law_own_error) .none kV25 dc25 pm25 an25 cd25 ct25), sl25⟩) (c25 : PySem.W.codeIn K cd25 "_law_own_error" = true) (k25 : PySem.W.keepIn K (.ref f25) = true)
    {f26 : Addr} {od26 an26 : Option Addr} {sl26 : Array (Option Value)} {oc26 kV26 dc26 pm26 cd26 ct26 : Value}
    (a26 : PySem.W.nsIn K mainGlobals "_law_odd_ones" = some (some (.ref f26))) (l26 : K.lookup f26 = some ⟨oc26, od26, .func (PySem.W.fnOf "_law_odd_ones" "_law_odd_ones" (defArgs s__law_odd_ones) (defBody s__law_odd_ones) (defScope s__law_odd_ones) .none kV26 dc26 pm26 an26 cd26 ct26), sl26⟩) (c26 : PySem.W.codeIn K cd26 "_law_odd_ones" = true) (k26 : PySem.W.keepIn K (.ref f26) = true)
    {f27 : Addr} {od27 an27 : Option Addr} {sl27 : Array (Option Value)} {oc27 kV27 dc27 pm27 cd27 ct27 : Value}
    (a27 : PySem.W.nsIn K mainGlobals "_law_spoilt" = some (some (.ref f27))) (l27 : K.lookup f27 = some ⟨oc27, od27, .func (PySem.W.fnOf "_law_spoilt" "_law_spoilt" (defArgs s__law_spoilt) (defBody s__law_spoilt) (defScope s__law_spoilt) .none kV27 dc27 pm27 an27 cd27 ct27), sl27⟩) (c27 : PySem.W.codeIn K cd27 "_law_spoilt" = true) (k27 : PySem.W.keepIn K (.ref f27) = true)
    {f28 : Addr} {od28 an28 : Option Addr} {sl28 : Array (Option Value)} {oc28 kV28 dc28 pm28 cd28 ct28 : Value}
    (a28 : PySem.W.nsIn K mainGlobals "_law_some_values" = some (some (.ref f28))) (l28 : K.lookup f28 = some ⟨oc28, od28, .func (PySem.W.fnOf "_law_some_values" "_law_some_values" (defArgs s__law_some_values) (defBody s__law_some_values) (defScope s__law_some_values) .none kV28 dc28 pm28 an28 cd28 ct28), sl28⟩) (c28 : PySem.W.codeIn K cd28 "_law_some_values" = true) (k28 : PySem.W.keepIn K (.ref f28) = true)
    {f29 : Addr} {od29 an29 : Option Addr} {sl29 : Array (Option Value)} {oc29 kV29 dc29 pm29 cd29 ct29 : Value}
    (a29 : PySem.W.nsIn K mainGlobals "_law_is_judge_right" = some (some (.ref f29))) (l29 : K.lookup f29 = some ⟨oc29, od29, .func (PySem.W.fnOf "_law_is_judge_right" "_law_is_judge_right" (defArgs s__law_is_judge_right) (defBody s__law_is_judge_right) (defScope s__law_is_judge_right) .none kV29 dc29 pm29 an29 cd29 ct29), sl29⟩) (c29 : PySem.W.codeIn K cd29 "_law_is_judge_right" = true) (k29 : PySem.W.keepIn K (.ref f29) = true)
    {f30 : Addr} {od30 an30 : Option Addr} {sl30 : Array (Option Value)} {oc30 kV30 dc30 pm30 cd30 ct30 : Value}
    (a30 : PySem.W.nsIn K mainGlobals "law" = some (some (.ref f30))) (l30 : K.lookup f30 = some ⟨oc30, od30, .func (PySem.W.fnOf "law" "law" (defArgs s_law) (defBody s_law) (defScope s_law) .none kV30 dc30 pm30 an30 cd30 ct30), sl30⟩) (c30 : PySem.W.codeIn K cd30 "law" = true) (k30 : PySem.W.keepIn K (.ref f30) = true)
    (dig : PySem.W.nsIn K cStatics "sys.int_max_str_digits" = some none) (z0 : PySem.W.nsIn K mainGlobals "abs" = some none) (z1 : PySem.W.nsIn K mainGlobals "bool" = some none) (z2 : PySem.W.nsIn K mainGlobals "enumerate" = some none) (z3 : PySem.W.nsIn K mainGlobals "int" = some none) (z4 : PySem.W.nsIn K mainGlobals "isinstance" = some none) (z5 : PySem.W.nsIn K mainGlobals "len" = some none) (z6 : PySem.W.nsIn K mainGlobals "list" = some none) (z7 : PySem.W.nsIn K mainGlobals "max" = some none) (z8 : PySem.W.nsIn K mainGlobals "range" = some none) (z9 : PySem.W.nsIn K mainGlobals "repr" = some none) (z10 : PySem.W.nsIn K mainGlobals "reversed" = some none) (z11 : PySem.W.nsIn K mainGlobals "str" = some none) (z12 : PySem.W.nsIn K mainGlobals "sum" = some none) (z13 : PySem.W.nsIn K mainGlobals "tuple" = some none) (z14 : PySem.W.nsIn K mainGlobals "zip" = some none) {t0 : Tok} (v0 : PySem.W.nsIn K mainGlobals "MAX_STEP" = some (some (.int 1000000000000 t0))) {t1 : Tok} (v1 : PySem.W.nsIn K mainGlobals "MAX_STEPS" = some (some (.int 20 t1))) :
    ∃ fd : FuncData, (∀ (s : Shared) (v : Value), BindsTo s fd ⟨[v], []⟩ [("script", v)]) ∧ ∀ base : Heap, K.In base → base.Ns mainGlobals mg → FnG l.prog w K mg base CX0 6 fa fd ["script"] (spF K noEr false 1 m_law) := by
  have e := hfa.symm.trans (PySem.W.mg_of X G a30)
  cases e
  have F0 := fun_mk (st := s_is_number) l0 c0 k0
  have F1 := fun_mk (st := s_is_within) l1 c1 k1
  have F2 := fun_mk (st := s_step_row_error) l2 c2 k2
  have F3 := fun_mk (st := s_steps_of) l3 c3 k3
  have F4 := fun_mk (st := s_fall_trimmed) l4 c4 k4
  have F5 := fun_mk (st := s_fall_row) l5 c5 k5
  have F6 := fun_mk (st := s_choices_row) l6 c6 k6
  have F7 := fun_mk (st := s_fall_value) l7 c7 k7
  have F8 := fun_mk (st := s_row_of_fall) l8 c8 k8
  have F9 := fun_mk (st := s__law_own_bag) l9 c9 k9
  have F10 := fun_mk (st := s__law_draw) l10 c10 k10
  have F11 := fun_mk (st := s__law_pick) l11 c11 k11
  have F12 := fun_mk (st := s__law_number) l12 c12 k12
  have F13 := fun_mk (st := s__law_is_due) l13 c13 k13
  have F14 := fun_mk (st := s__law_fall) l14 c14 k14
  have F15 := fun_mk (st := s__law_twin) l15 c15 k15
  have F16 := fun_mk (st := s__law_value) l16 c16 k16
  have F17 := fun_mk (st := s__law_triangle) l17 c17 k17
  have F18 := fun_mk (st := s__law_cut) l18 c18 k18
  have F19 := fun_mk (st := s__law_own_row) l19 c19 k19
  have F20 := fun_mk (st := s__law_any_row) l20 c20 k20
  have F21 := fun_mk (st := s__law_twin_row) l21 c21 k21
  have F22 := fun_mk (st := s__law_rows) l22 c22 k22
  have F23 := fun_mk (st := s__law_are_steps_right) l23 c23 k23
  have F24 := fun_mk (st := s__law_are_values_right) l24 c24 k24
  have F25 := fun_mk (st := s__law_own_error) l25 c25 k25
  have F26 := fun_mk (st := s__law_odd_ones) l26 c26 k26
  have F27 := fun_mk (st := s__law_spoilt) l27 c27 k27
  have F28 := fun_mk (st := s__law_some_values) l28 c28 k28
  have F29 := fun_mk (st := s__law_is_judge_right) l29 c29 k29
  have F30 := fun_mk (st := s_law) l30 c30 k30
  let J : Facts K mg := {
    f_is_number := f0, fd_is_number := _, F_is_number := F0, g_is_number := PySem.W.mg_of X G a0, b_is_number := F0.binds fun _ _ _ _ _ _ us hl => match us, hl with | [_], _ => rfl,
    f_is_within := f1, fd_is_within := _, F_is_within := F1, g_is_within := PySem.W.mg_of X G a1, b_is_within := F1.binds fun _ _ _ _ _ _ us hl => match us, hl with | [_, _, _], _ => rfl,
    f_step_row_error := f2, fd_step_row_error := _, F_step_row_error := F2, g_step_row_error := PySem.W.mg_of X G a2, b_step_row_error := F2.binds fun _ _ _ _ _ _ us hl => match us, hl with | [_], _ => rfl,
    f_steps_of := f3, fd_steps_of := _, F_steps_of := F3, g_steps_of := PySem.W.mg_of X G a3, b_steps_of := F3.binds fun _ _ _ _ _ _ us hl => match us, hl with | [_], _ => rfl,
    f_fall_trimmed := f4, fd_fall_trimmed := _, F_fall_trimmed := F4, g_fall_trimmed := PySem.W.mg_of X G a4, b_fall_trimmed := F4.binds fun _ _ _ _ _ _ us hl => match us, hl with | [_], _ => rfl,
    f_fall_row := f5, fd_fall_row := _, F_fall_row := F5, g_fall_row := PySem.W.mg_of X G a5, b_fall_row := F5.binds fun _ _ _ _ _ _ us hl => match us, hl with | [_], _ => rfl,
    f_choices_row := f6, fd_choices_row := _, F_choices_row := F6, g_choices_row := PySem.W.mg_of X G a6, b_choices_row := F6.binds fun _ _ _ _ _ _ us hl => match us, hl with | [_, _], _ => rfl,
    f_fall_value := f7, fd_fall_value := _, F_fall_value := F7, g_fall_value := PySem.W.mg_of X G a7, b_fall_value := F7.binds fun _ _ _ _ _ _ us hl => match us, hl with | [_, _], _ => rfl,
    f_row_of_fall := f8, fd_row_of_fall := _, F_row_of_fall := F8, g_row_of_fall := PySem.W.mg_of X G a8, b_row_of_fall := F8.binds fun _ _ _ _ _ _ us hl => match us, hl with | [_, _], _ => rfl,
    f__law_own_bag := f9, fd__law_own_bag := _, F__law_own_bag := F9, g__law_own_bag := PySem.W.mg_of X G a9, b__law_own_bag := F9.binds fun _ _ _ _ _ _ us hl => match us, hl with | [_], _ => rfl,
    f__law_draw := f10, fd__law_draw := _, F__law_draw := F10, g__law_draw := PySem.W.mg_of X G a10, b__law_draw := F10.binds fun _ _ _ _ _ _ us hl => match us, hl with | [_, _], _ => rfl,
    f__law_pick := f11, fd__law_pick := _, F__law_pick := F11, g__law_pick := PySem.W.mg_of X G a11, b__law_pick := F11.binds fun _ _ _ _ _ _ us hl => match us, hl with | [_, _], _ => rfl,
    f__law_number := f12, fd__law_number := _, F__law_number := F12, g__law_number := PySem.W.mg_of X G a12, b__law_number := F12.binds fun _ _ _ _ _ _ us hl => match us, hl with | [_, _], _ => rfl,
    f__law_is_due := f13, fd__law_is_due := _, F__law_is_due := F13, g__law_is_due := PySem.W.mg_of X G a13, b__law_is_due := F13.binds fun _ _ _ _ _ _ us hl => match us, hl with | [_, _], _ => rfl,
    f__law_fall := f14, fd__law_fall := _, F__law_fall := F14, g__law_fall := PySem.W.mg_of X G a14, b__law_fall := F14.binds fun _ _ _ _ _ _ us hl => match us, hl with | [_, _], _ => rfl,
    f__law_twin := f15, fd__law_twin := _, F__law_twin := F15, g__law_twin := PySem.W.mg_of X G a15, b__law_twin := F15.binds fun _ _ _ _ _ _ us hl => match us, hl with | [_, _, _], _ => rfl,
    f__law_value := f16, fd__law_value := _, F__law_value := F16, g__law_value := PySem.W.mg_of X G a16, b__law_value := F16.binds fun _ _ _ _ _ _ us hl => match us, hl with | [_, _], _ => rfl,
    f__law_triangle := f17, fd__law_triangle := _, F__law_triangle := F17, g__law_triangle := PySem.W.mg_of X G a17, b__law_triangle := F17.binds fun _ _ _ _ _ _ us hl => match us, hl with | [_], _ => rfl,
    f__law_cut := f18, fd__law_cut := _, F__law_cut := F18, g__law_cut := PySem.W.mg_of X G a18, b__law_cut := F18.binds fun _ _ _ _ _ _ us hl => match us, hl with | [_], _ => rfl,
    f__law_own_row := f19, fd__law_own_row := _, F__law_own_row := F19, g__law_own_row := PySem.W.mg_of X G a19, b__law_own_row := F19.binds fun _ _ _ _ _ _ us hl => match us, hl with | [_, _], _ => rfl,
    f__law_any_row := f20, fd__law_any_row := _, F__law_any_row := F20, g__law_any_row := PySem.W.mg_of X G a20, b__law_any_row := F20.binds fun _ _ _ _ _ _ us hl => match us, hl with | [_], _ => rfl,
    f__law_twin_row := f21, fd__law_twin_row := _, F__law_twin_row := F21, g__law_twin_row := PySem.W.mg_of X G a21, b__law_twin_row := F21.binds fun _ _ _ _ _ _ us hl => match us, hl with | [_, _], _ => rfl,
    f__law_rows := f22, fd__law_rows := _, F__law_rows := F22, g__law_rows := PySem.W.mg_of X G a22, b__law_rows := F22.binds fun _ _ _ _ _ _ us hl => match us, hl with | [_], _ => rfl,
    f__law_are_steps_right := f23, fd__law_are_steps_right := _, F__law_are_steps_right := F23, g__law_are_steps_right := PySem.W.mg_of X G a23, b__law_are_steps_right := F23.binds fun _ _ _ _ _ _ us hl => match us, hl with | [_], _ => rfl,
    f__law_are_values_right := f24, fd__law_are_values_right := _, F__law_are_values_right := F24, g__law_are_values_right := PySem.W.mg_of X G a24, b__law_are_values_right := F24.binds fun _ _ _ _ _ _ us hl => match us, hl with | [_, _, _], _ => rfl,
    f__law_own_error := f25, fd__law_own_error := _, F__law_own_error := F25, g__law_own_error := PySem.W.mg_of X G a25, b__law_own_error := F25.binds fun _ _ _ _ _ _ us hl => match us, hl with | [_], _ => rfl,
    f__law_odd_ones := f26, fd__law_odd_ones := _, F__law_odd_ones := F26, g__law_odd_ones := PySem.W.mg_of X G a26, b__law_odd_ones := F26.binds fun _ _ _ _ _ _ us hl => match us, hl with | [], _ => rfl,
    f__law_spoilt := f27, fd__law_spoilt := _, F__law_spoilt := F27, g__law_spoilt := PySem.W.mg_of X G a27, b__law_spoilt := F27.binds fun _ _ _ _ _ _ us hl => match us, hl with | [_, _, _], _ => rfl,
    f__law_some_values := f28, fd__law_some_values := _, F__law_some_values := F28, g__law_some_values := PySem.W.mg_of X G a28, b__law_some_values := F28.binds fun _ _ _ _ _ _ us hl => match us, hl with | [_, _, _], _ => rfl,
    f__law_is_judge_right := f29, fd__law_is_judge_right := _, F__law_is_judge_right := F29, g__law_is_judge_right := PySem.W.mg_of X G a29, b__law_is_judge_right := F29.binds fun _ _ _ _ _ _ us hl => match us, hl with | [_, _, _], _ => rfl,
    f_law := _, fd_law := _, F_law := F30, g_law := PySem.W.mg_of X G a30, b_law := F30.binds fun _ _ _ _ _ _ us hl => match us, hl with | [_], _ => rfl,
    dig := dig, z_abs := PySem.W.mg_none_of X G z0, z_bool := PySem.W.mg_none_of X G z1, z_enumerate := PySem.W.mg_none_of X G z2, z_int := PySem.W.mg_none_of X G z3, z_isinstance := PySem.W.mg_none_of X G z4, z_len := PySem.W.mg_none_of X G z5, z_list := PySem.W.mg_none_of X G z6, z_max := PySem.W.mg_none_of X G z7, z_range := PySem.W.mg_none_of X G z8, z_repr := PySem.W.mg_none_of X G z9, z_reversed := PySem.W.mg_none_of X G z10, z_str := PySem.W.mg_none_of X G z11, z_sum := PySem.W.mg_none_of X G z12, z_tuple := PySem.W.mg_none_of X G z13, z_zip := PySem.W.mg_none_of X G z14, v_MAX_STEP := ⟨_, PySem.W.mg_of X G v0⟩, v_MAX_STEPS := ⟨_, PySem.W.mg_of X G v1⟩ }
  exact ⟨PySem.W.fnOf "law" "law" (defArgs s_law) (defBody s_law) (defScope s_law) .none kV30 dc30 pm30 an30 cd30 ct30, fun s v => .of_eq rfl, fun base _ _ => ok_law J⟩
end G_k79

set_option Elab.async false
set_option linter.all false
set_option autoImplicit false
set_option maxRecDepth 100000
set_option exponentiation.threshold 100000
namespace G_k79
open PySem PySem.Spec L2 MI NW
def Bag (o : OD) : Prop := ∃ (cs : List Int) (a b : Int), o = .on [.ol (cs.map .int), .fz (.int a), .fz (.int b)] ∧ cs.length < 1000000 ∧ 0 ≤ a ∧ 0 ≤ b ∧ b < 2147483647
theorem draw_loop : ∀ (n : Nat) (cs : List Int) (a b below : Int) (x y : Option OD), cs.length < n → 0 ≤ a →
    ∃ cs' a' x', whileL t__law_draw_1 l__law_draw_1 n
      [some (.on [.ol (cs.map .int), .fz (.int a), .fz (.int b)]), some (.fz (.int below)), x, y] = .nx [some (.on [.ol (List.map PyData.int cs'), .fz (.int a'), .fz (.int b)]), some (.fz (.int below)), x', y] ∧ cs'.length ≤ cs.length ∧ 0 ≤ a'
  | 0, cs, a, b, below, x, y, h, _ => by omega
  | n + 1, cs, a, b, below, x, y, h, ha => by
    by_cases h0 : a = 0
    · by_cases h1 : cs = []
      · refine ⟨cs, a, x, ?_, Nat.le_refl _, ha⟩
        rw [whileL_succ]
        subst h1
        simp [t__law_draw_1, kEmptyN, plain_ints, shaped_ints, eqv_nil, h0, plainAll, show SeqAt.shaped (.list []) = true by decide, show PyData.eqv (.list []) (.list []) = true by decide]
      · have hl : 0 < cs.length := List.length_pos_iff.mpr h1
        obtain ⟨cs', a', x', e, h2, h3⟩ := draw_loop n cs.dropLast (if 1000000000000000000 < cs.getLast h1 then cs.getLast h1 else 0) b below (some (.fz (.int (cs.getLast h1)))) y (by simp; omega) (by split <;> omega)
        refine ⟨cs', a', x', ?_, by simp at h2; omega, h3⟩
        rw [← e, whileL_succ]
        simp [t__law_draw_1, l__law_draw_1, kEmptyN, plain_ints, shaped_ints, eqv_nil, h0, h1, map_last h1, ixN]
        split <;> simp [ixN, *]
    · refine ⟨cs, a, x, ?_, Nat.le_refl _, ha⟩
      rw [whileL_succ]
      simp [t__law_draw_1, h0]
theorem draw {o : OD} (hb : Bag o) {below : Int} (h1 : 0 < below) (h2 : below.natAbs.log2 < 9000) : ∃ r o', m__law_draw [o, .fz (.int below)] = .ok (.fz (.int r)) [some o', none] ∧ 0 ≤ r ∧ r < below ∧ Bag o' := by
  obtain ⟨cs, a, b, rfl, hl, ha, hb0, hb1⟩ := hb
  obtain ⟨cs', a', x', e, h3, h4⟩ := draw_loop fuel cs a b below none none (by unfold fuel; omega) ha
  unfold m__law_draw b__law_draw
  simp [e, ixN, h1, h2]
  by_cases h0 : 0 < a'
  · simp [h0]
    refine ⟨_, _, ⟨rfl, rfl⟩, Int.emod_nonneg _ (by omega), Int.emod_lt_of_pos _ h1, cs', a' / below, b, rfl, by omega, Int.ediv_nonneg h4 (by omega), hb0, hb1⟩
  · have l1 := mul_ok (x := b) (y := 48271) 64 64 (by omega) (by omega)
    have n1 := Int.emod_nonneg (b * 48271 + 11) (show (2147483647 : Int) ≠ 0 by omega)
    have n2 := Int.emod_lt_of_pos (b * 48271 + 11) (show (0 : Int) < 2147483647 by omega)
    have l2 := mul_ok (x := (b * 48271 + 11) % 2147483647) (y := (b * 48271 + 11) % 2147483647) 64 64 (by omega) (by omega)
    simp [h0, l1, ixN, l2, h1, show (7 : Nat).log2 < 9000 by decide]
    refine ⟨_, _, ⟨rfl, rfl⟩, Int.emod_nonneg _ (by omega), Int.emod_lt_of_pos _ h1, cs', a', _, rfl, by omega, h4, n1, n2⟩
/-- a draw below a small number -/
theorem drawS {o : OD} (hb : Bag o) {below : Int} (h1 : 0 < below) (h2 : below < 2 ^ 200) : ∃ r o', m__law_draw [o, .fz (.int below)] = .ok (.fz (.int r)) [some o', none] ∧ 0 ≤ r ∧ r < below ∧ Bag o' :=
  draw hb h1 (by have := log_lt (k := 200) (n := below) (by omega) (by omega); omega)
theorem own_bag (ns : List Int) (h : ns.length ≤ 63) : ∃ o, m__law_own_bag [.fz (lockD (ns.map PyData.int))] = .ok o [none] ∧ Bag o := by
  obtain ⟨a, b, e⟩ := cut_map PyData.int ns none (some 63)
  have hl : ((ns.drop a).take b).length ≤ 63 := by simp; omega
  have hsz : ((ns.drop a).take b).length ≤ sizeLine := by unfold sizeLine; omega
  generalize (ns.drop a).take b = cs at e hl hsz
  unfold m__law_own_bag b__law_own_bag
  simp [e]
  rw [lcL_map (s := [some (.fz (lockD (ns.map PyData.int))), none, none, none]) (fun c : Int => PyData.int (if c < 0 then -c else c)) PyData.int cs [] (fun c hc => ⟨_, _, rfl, rfl, rfl⟩) (by simpa using hsz)]
  simp
  obtain ⟨s', e', h'⟩ := forL_inv (g := gN 2) (h := l__law_own_bag_1)
    (fun _ s => ∃ x m, s = [some (.fz (lockD (ns.map PyData.int))), some (.fz (.list (cs.map fun c : Int => PyData.int (if c < 0 then -c else c)))), x, some (.fz (.int m))] ∧ 0 ≤ m ∧ m < 2147483647)
    (cs.map fun c : Int => PyData.int (if c < 0 then -c else c)) 0 [some (.fz (lockD (ns.map PyData.int))), some (.fz (.list (cs.map fun c : Int => PyData.int (if c < 0 then -c else c)))), none, some (.fz (.int (7901 + cs.length)))] ⟨_, _, rfl, by omega, by omega⟩ (by
      rintro i d s hd ⟨x, m, rfl, h0, h1⟩
      rw [List.getElem?_map, Option.map_eq_some_iff] at hd
      obtain ⟨c, _, rfl⟩ := hd
      have l1 := mul_ok (x := m) (y := 48271) 64 64 (by omega) (by omega)
      refine ⟨_, [some (.fz (lockD (ns.map PyData.int))), some (.fz (.list (cs.map fun c : Int => PyData.int (if c < 0 then -c else c)))), some (.fz (.int (if c < 0 then -c else c))), some (.fz (.int ((m * 48271 + (if c < 0 then -c else c) % 2147483629 + 7) % 2147483647)))], rfl, .inl ?_, _, _, rfl, Int.emod_nonneg _ (by decide), Int.emod_lt_of_pos _ (by decide)⟩
      simp [l__law_own_bag_1, l1])
  rw [e']
  obtain ⟨x, m, rfl, h0, h1⟩ := h'
  simp
  refine ⟨(cs.map fun c : Int => if c < 0 then -c else c).reverse, 0, m, ?_, ?_, by omega, h0, h1⟩
  · simp [Function.comp_def]
  · simp; omega
/-- a pick from written items -/
theorem pick {o : OD} (hb : Bag o) {ds : List D} (h1 : ds ≠ []) (h2 : ds.length < 1000000) : ∃ d o', m__law_pick [o, .fz (.list ds)] = .ok (.fz d) [some o', none] ∧ d ∈ ds ∧ Bag o' := by
  have hl := List.length_pos_iff.mpr h1
  obtain ⟨r, o', e, h3, h4, h5⟩ := drawS hb (below := (ds.length : Int)) (by omega) (by omega)
  have hr : r.toNat < ds.length := by omega
  refine ⟨ds[r.toNat], o', ?_, List.getElem_mem hr, h5⟩
  unfold m__law_pick b__law_pick
  have ei : atI ds r = some ds[r.toNat] := by
    have := atI_natD (List.getElem?_eq_getElem hr)
    rwa [Int.toNat_of_nonneg h3] at this
  simp [e, ei]
theorem number_loop {o : OD} (hb : Bag o) (most way : Int) (k : Nat) (hk : k ≤ 6) : ∃ f o' x', forL (gN 4) l__law_number_1 (upto 0 k) [some o, some (.fz (.int most)), some (.fz (.int way)), some (.fz (.int 0)), none] = .nx [some o', some (.fz (.int most)), some (.fz (.int way)), some (.fz (.int f)), x'] ∧ Bag o' ∧ 0 ≤ f := by
  obtain ⟨s', e', h'⟩ := forL_inv (g := gN 4) (h := l__law_number_1)
    (fun i s => ∃ o f x, s = [some o, some (.fz (.int most)), some (.fz (.int way)), some (.fz (.int f)), x] ∧ Bag o ∧ 0 ≤ f ∧ f < 1000000 ^ i)
    (upto 0 k) 0 [some o, some (.fz (.int most)), some (.fz (.int way)), some (.fz (.int 0)), none] ⟨o, 0, none, rfl, hb, by omega, by simp⟩ (by
      rintro i d s hd ⟨o, f, x, rfl, hb, h0, h1⟩
      obtain ⟨hi, rfl⟩ := upto_get hd
      obtain ⟨r, o', e, h3, h4, h5⟩ := drawS hb (below := 1000000) (by omega) (by omega)
      have l1 : mulD (.int f) (.int 1000000) = some (.fz (.int (f * 1000000))) := by
        have h2 : (1000000 : Int) ^ (0 + i) ≤ 1000000 ^ 6 := by
          have := Int.ofNat_le.mpr (Nat.pow_le_pow_right (n := 1000000) (i := 0 + i) (j := 6) (by omega) (by omega))
          rw [Int.natCast_pow, Int.natCast_pow] at this
          exact this
        have h3 : (1000000 : Int) ^ 6 < 2 ^ 200 := by decide
        exact mul_ok 200 64 (by omega) (by omega)
      refine ⟨_, [some o', some (.fz (.int most)), some (.fz (.int way)), some (.fz (.int (f * 1000000 + r))), some (.fz (.int (i : Int)))], rfl, .inl ?_, o', f * 1000000 + r, _, rfl, h5, by omega, ?_⟩
      · simp [l__law_number_1, l1, e]
      · rw [Int.pow_succ]
        omega)
  obtain ⟨o', f, x, rfl, hb', h0, h1⟩ := h'
  exact ⟨f, o', x, e', hb', h0⟩
theorem number {o : OD} (hb : Bag o) {most : Int} (h0 : 0 ≤ most) : ∃ r o', m__law_number [o, .fz (.int most)] = .ok (.fz (.int r)) [some o', none] ∧ r.natAbs ≤ most.natAbs + 9 ∧ Bag o' := by
  obtain ⟨w, o1, e1, w0, w1, b1⟩ := drawS hb (below := 8) (by omega) (by omega)
  obtain ⟨f, o2, e2, f0, f1, b2⟩ := drawS b1 (below := 10) (by omega) (by omega)
  have step2 : ∀ (o : OD) (f : Int) (x : Option OD), Bag o → f.natAbs ≤ most.natAbs + 9 → ∃ r o', Out.fin [true, false] ((sSeq (sIf (kCmp gtI (eVar 2) (eC (.int 6))) (sAsg (eFrz (oOp2 subD (eVar 1) (eFrz (oCall [some 0, none] (aRef 0 (aCons (eC (.int 3)) aNil)) (noexF m__law_draw))))) (gN 3)) sNx)
      (sRet (oIf (kCmp eqD (eFrz (oCall [some 0, none] (aRef 0 (aCons (eC (.int 2)) aNil)) (noexF m__law_draw))) (eC (.int 0))) (oVar 3) (oOp1 negD (eVar 3))))) [some o, some (.fz (.int most)), some (.fz (.int w)), some (.fz (.int f)), x]) = .ok (.fz (.int r)) [some o', none] ∧ r.natAbs ≤ most.natAbs + 9 ∧ Bag o' := by
    intro o f x hb hf
    have step3 : ∀ (o : OD) (f : Int), Bag o → f.natAbs ≤ most.natAbs + 9 → ∃ r o', Out.fin [true, false] ((sRet (oIf (kCmp eqD (eFrz (oCall [some 0, none] (aRef 0 (aCons (eC (.int 2)) aNil)) (noexF m__law_draw))) (eC (.int 0))) (oVar 3) (oOp1 negD (eVar 3)))) [some o, some (.fz (.int most)), some (.fz (.int w)), some (.fz (.int f)), x]) = .ok (.fz (.int r)) [some o', none] ∧ r.natAbs ≤ most.natAbs + 9 ∧ Bag o' := by
      intro o f hb hf
      obtain ⟨z, o4, e4, z0, z1, b4⟩ := drawS hb (below := 2) (by omega) (by omega)
      by_cases hz : z = 0
      · exact ⟨f, o4, by simp [e4, hz], hf, b4⟩
      · exact ⟨-f, o4, by simp [e4, hz], by omega, b4⟩
    by_cases h6 : 6 < w
    · obtain ⟨z, o3, e3, z0, z1, b3⟩ := drawS hb (below := 3) (by omega) (by omega)
      obtain ⟨r, o', e, h1, h2⟩ := step3 o3 (most - z) b3 (by omega)
      refine ⟨r, o', ?_, h1, h2⟩
      rw [← e]
      simp [h6, e3]
    · obtain ⟨r, o', e, h1, h2⟩ := step3 o f hb hf
      refine ⟨r, o', ?_, h1, h2⟩
      rw [← e]
      simp [h6]
  unfold m__law_number b__law_number
  by_cases h2 : 2 < w
  · obtain ⟨z, o3, e3, z0, z1, b3⟩ := drawS b2 (below := 6) (by omega) (by omega)
    obtain ⟨g, o4, x', e4, b4, g0⟩ := number_loop b3 most w (1 + z).toNat (by omega)
    have hg0 := Int.emod_nonneg g (show most + 1 ≠ 0 by omega)
    have hg1 := Int.emod_lt_of_pos g (show 0 < most + 1 by omega)
    obtain ⟨r, o', e, q1, q2⟩ := step2 o4 (g % (most + 1)) x' b4 (by omega)
    refine ⟨r, o', ?_, q1, q2⟩
    rw [← e]
    simp [e1, e2, h2, e3, show (-4611686018427387904 ≤ 1 + z ∧ 1 + z < 4611686018427387904) by omega, e4, show 0 < most + 1 by omega]
  · obtain ⟨r, o', e, q1, q2⟩ := step2 o2 f none b2 (by omega)
    refine ⟨r, o', ?_, q1, q2⟩
    rw [← e]
    simp [e1, e2, h2]
theorem due_none : m__law_is_due [.fz .none, .fz .none] = .ok (.fz (.bool true)) [none, none] := rfl
theorem due_int {r : Int} (h : r.natAbs < 2 ^ 12900) : m__law_is_due [.fz (.int r), .fz (.int r)] = .ok (.fz (.bool true)) [none, none] := by
  unfold m__law_is_due b__law_is_due
  simp [reprV_some (reprV_int h)]
theorem due_tup {ds : List D} (h : ReprOkV (.tuple ds)) : m__law_is_due [.fz (.tuple ds), .fz (.tuple ds)] = .ok (.fz (.bool true)) [none, none] := by
  have e := reprV_some h
  unfold m__law_is_due b__law_is_due
  simp [e]
theorem due_ints {ns : List Int} (h : ∀ x ∈ ns, x.natAbs < 2 ^ 12900) (hl : ns.length ≤ 1000) : m__law_is_due [.fz (.tuple (ns.map .int)), .fz (.tuple (ns.map .int))] = .ok (.fz (.bool true)) [none, none] := due_tup (reprV_ints h hl)
theorem due_str {x : Str} (h : ReprOkV (.str x)) : m__law_is_due [.fz (.str x), .fz (.str x)] = .ok (.fz (.bool true)) [none, none] := by
  have e := reprV_some h
  unfold m__law_is_due b__law_is_due
  simp [e]
theorem cut_from {α : Type} (f : α → D) (l : List α) (n : Nat) : cutD (l.map f) (some (n : Int)) none = (l.drop n).map f := by
  unfold cutD
  rw [HT.sIx_none, HT.sIx_nat, ← List.map_drop, ← List.map_take]
  congr 1
  simp only [List.length_map]
  by_cases h : n ≤ l.length
  · rw [show min n l.length = n by omega, List.take_of_length_le (by simp)]
  · rw [show min n l.length = l.length by omega]
    simp
    omega
theorem cut1 (l : List Int) : cutD (l.map PyData.int) (some 1) none = (l.map PyData.int).tail := by
  have := cut_from PyData.int l 1
  rw [show ((1 : Nat) : Int) = 1 from rfl] at this
  rw [this, List.drop_one, List.map_tail]
def stp (ns : List Int) : List Int := (ns.zip ns.tail).map fun p => p.2 - p.1
theorem pair_tail (ns : List Int) : pairUp (ns.map PyData.int) (ns.map PyData.int).tail = (ns.zip ns.tail).map fun p => .tuple [.int p.1, .int p.2] := by
  rw [← List.map_tail, pairUp_ints]
theorem stp_map (ns : List Int) : (ns.zip ns.tail).map (fun p : Int × Int => PyData.int (p.2 - p.1)) = (stp ns).map PyData.int := by simp [stp, Function.comp_def]
theorem zip_lt {ns : List Int} (h : ns.length ≤ 1000) : (ns.zip ns.tail).length ≤ sizeLine := by
  refine size_ok ?_
  simp; omega
theorem steps_of {ns : List Int} (h : ns.length ≤ 1000) (d : D) (hd : d = .list (ns.map .int) ∨ d = .tuple (ns.map .int)) : m_steps_of [.fz d] = .ok (.fz (.tuple ((stp ns).map .int))) [none] := by
  unfold m_steps_of b_steps_of
  rcases hd with rfl | rfl
  all_goals
    simp [cut1, pair_tail]
    rw [lcL_map (fun p : Int × Int => PyData.int (p.2 - p.1)) (fun p : Int × Int => PyData.tuple [.int p.1, .int p.2]) _ [] (fun p _ => ⟨_, _, rfl, by simp; rfl, by simp⟩) (by simpa using zip_lt h)]
    simp [← stp_map]
theorem stp_row (h : Int → Int) (s : Int) (n : Nat) : stp (row h s (n + 1)) = row (dl h) s n := by
  unfold stp row
  rw [List.range_succ_eq_map, List.map_cons, List.tail_cons, List.map_map]
  apply List.ext_getElem
  · simp
  · intro i h1 h2
    simp at h1 h2
    rw [List.getElem_map, List.getElem_zip, List.getElem_map, List.getElem_range]
    simp only [List.getElem_map, List.getElem_range, Function.comp]
    unfold dl
    congr 1
    · congr 1; simp; omega
    · cases i with
      | zero => simp
      | succ i => simp
def at0 (ns : List Int) (j : Nat) : Int := ns.getD j 0
theorem atI_list {ns : List Int} {j : Nat} (h : j < ns.length) : atI (ns.map PyData.int) (j : Int) = some (.int (at0 ns j)) := by
  apply atI_natD
  rw [List.getElem?_map, List.getElem?_eq_getElem h]
  simp [at0, List.getD_eq_getElem?_getD, h]
theorem atI_listR {ns : List Int} {j : Nat} {J : Int} (e : J = (j : Int)) (h : j < ns.length) : atI (ns.map PyData.int) J = some (.int (at0 ns j)) := by rw [e]; exact atI_list h
theorem trim_loop (ns : List Int) : ∀ (k m : Nat) (M : Int), M = m → m ≤ ns.length → m < k → trim (ns.take m) = trim ns →
    ∃ m' : Nat, whileL t_fall_trimmed_1 l_fall_trimmed_1 k [some (.fz (.list (ns.map .int))), some (.fz (.int M))] = .nx [some (.fz (.list (ns.map .int))), some (.fz (.int m'))] ∧ ns.take m' = trim ns
  | 0, _, _, _, _, h, _ => by omega
  | k + 1, m, M, e, hm, hk, ht => by
    subst e
    cases m with
    | zero =>
      refine ⟨0, ?_, by rw [← ht]; rfl⟩
      rw [whileL_succ]
      simp [t_fall_trimmed_1]
    | succ m =>
      have eg : ns.take (m + 1) = ns.take m ++ [at0 ns m] := by
        rw [List.take_add_one, List.getElem?_eq_getElem (show m < ns.length by omega)]
        simp [at0, List.getD_eq_getElem?_getD, show m < ns.length by omega]
      have ea := atI_list (show m < ns.length by omega)
      by_cases h0 : at0 ns m = 0
      · obtain ⟨m', e, h2⟩ := trim_loop ns k m (((m + 1 : Nat) : Int) - 1) (by omega) (by omega) (by omega) (by
          rw [← ht, eg, h0, trim_snoc])
        refine ⟨m', ?_, h2⟩
        rw [whileL_succ, ← e]
        simp [t_fall_trimmed_1, l_fall_trimmed_1, ea, h0, show (0 : Int) < (m : Int) + 1 by omega]
      · refine ⟨m + 1, ?_, ?_⟩
        · rw [whileL_succ]
          simp [t_fall_trimmed_1, ea, h0, show (0 : Int) < (m : Int) + 1 by omega]
        · rw [← ht]
          refine (trim_fit fun _ => ?_).symm
          simp only [eg]
          rw [List.getLast_append_of_ne_nil _ (by simp)]
          simpa using h0
theorem fall_trimmed {ns : List Int} (h : ns.length ≤ 1000) : m_fall_trimmed [.fz (.list (ns.map .int))] = .ok (.fz (.tuple ((trim ns).map .int))) [none] := by
  obtain ⟨m, e, h1⟩ := trim_loop ns fuel ns.length (ns.length : Int) rfl (Nat.le_refl _) (by unfold fuel; omega) (by rw [List.take_length])
  unfold m_fall_trimmed b_fall_trimmed
  simp [e, cut_to, h1]
theorem fall_row_loop (h : Int → Int) (s : Int) (n : Nat) (hn : n ≤ 1000) (t : Option OD) : ∃ l t', forL (gN 3) l_fall_row_1 (upto 0 n) [some (.fz (.list ((row h s n).map .int))), some (.ol []), some (.fz (.list ((row h s n).map .int))), t] =
    .nx [some (.fz (.list ((row h s n).map .int))), some (.ol ((diffs h s n).map .int)), l, t'] := by
  obtain ⟨s', e, t', d, es, hd⟩ := forL_inv (g := gN 3) (h := l_fall_row_1)
    (fun i st => ∃ t' d, st = [some (.fz (.list ((row h s n).map .int))), some (.ol ((diffs h s i).map .int)), some (.fz d), t'] ∧ (d = .list ((row (dn i h) s (n - i)).map .int) ∨ d = .tuple ((row (dn i h) s (n - i)).map .int)))
    (upto 0 n) 0 [some (.fz (.list ((row h s n).map .int))), some (.ol []), some (.fz (.list ((row h s n).map .int))), t] ⟨t, _, by simp [diffs, dn], .inl rfl⟩ (by
      rintro i d st hd ⟨t', x, rfl, hx⟩
      obtain ⟨hi, rfl⟩ := upto_get hd
      rw [Nat.zero_add] at hx ⊢
      obtain ⟨k, ek⟩ : ∃ k, n - i = k + 1 := ⟨n - i - 1, by omega⟩
      rw [ek] at hx
      have e1 := steps_of (by rw [row_length]; omega) x hx
      rw [stp_row, ← dn_succ'] at e1
      have e2 : ixD x (.int 0) = some (.fz (.int (dn i h s))) := by
        have := atI_listR (ns := row (dn i h) s (k + 1)) (j := 0) (J := 0) rfl (by rw [row_length]; omega)
        have e3 : at0 (row (dn i h) s (k + 1)) 0 = dn i h s := by simp [at0, row, List.range_succ_eq_map]
        rw [e3] at this
        rcases hx with rfl | rfl <;> simp [this]
      refine ⟨_, [some (.fz (.list ((row h s n).map .int))), some (.ol ((diffs h s (i + 1)).map .int)), some (.fz (.tuple ((row (dn (i + 1) h) s k).map .int))), some (.fz (.int (i : Int)))], rfl, .inl ?_, _, _, rfl, .inr (by rw [show n - (i + 1) = k by omega])⟩
      rw [diffs_succ]
      have hz : (diffs h s i).length < sizeLine := size_lt (by simp [diffs]; omega)
      rcases hx with rfl | rfl
      · simp [l_fall_row_1, e1, e2, hz]
      · simp [l_fall_row_1, e1, e2, hz])
  subst es
  rw [Nat.zero_add, upto_length] at e
  exact ⟨_, _, e⟩
theorem fall_row {h : Int → Int} {s : Int} {n : Nat} (hn : n ≤ 1000) : m_fall_row [.fz (.list ((row h s n).map .int))] = .ok (.fz (.tuple ((trim (diffs h s n)).map .int))) [none] := by
  obtain ⟨l, t', e⟩ := fall_row_loop h s n hn none
  have e2 := fall_trimmed (ns := diffs h s n) (by simp [diffs]; omega)
  unfold m_fall_row b_fall_row
  simp [row_length, rg_nat n rfl (by omega), -k_Rg1, e, e2]
theorem choices_row {x : Int} {n k : Nat} (hx : x.natAbs < 2 ^ k) (hk : 6 ≤ k) (hk2 : k ≤ 200) (hn : n ≤ 60) : m_choices_row [.fz (.int x), .fz (.int n)] = .ok (.ol ((rowC x (max n 1)).map .int)) [none, none] := by
  have e0 : (rowC x 1).map PyData.int = [.int 1] := by simp [rowC, bc_none]
  have lp : ∀ m : Nat, m ≤ 60 → ∃ t', forL (gN 3) l_choices_row_1 (upto 0 m) [some (.fz (.int x)), some (.fz (.int n)), some (.ol [.int 1]), none] = .nx [some (.fz (.int x)), some (.fz (.int n)), some (.ol ((rowC x (m + 1)).map .int)), t'] := fun m hm => by
    obtain ⟨s', e, t', es⟩ := forL_inv (g := gN 3) (h := l_choices_row_1)
      (fun i st => ∃ t', st = [some (.fz (.int x)), some (.fz (.int n)), some (.ol ((rowC x (i + 1)).map .int)), t'])
      (upto 0 m) 0 [some (.fz (.int x)), some (.fz (.int n)), some (.ol [.int 1]), none] ⟨none, by rw [← e0]⟩ (by
        rintro i d st hd ⟨t', rfl⟩
        obtain ⟨hi, rfl⟩ := upto_get hd
        rw [Nat.zero_add]
        have e1 : atI ((rowC x (i + 1)).map PyData.int) (i : Int) = some (.int (bc x i)) := by
          apply atI_natD
          rw [List.getElem?_map, rowC_get (by omega)]; rfl
        have h64 : 2 ^ 6 ≤ 2 ^ k := Nat.pow_le_pow_right (by decide) hk
        have b1 := bc_bd hx (show i ≤ 2 ^ k by omega)
        have b2 : (bc x i).natAbs < 2 ^ 15000 := Nat.lt_of_le_of_lt b1 (Nat.pow_lt_pow_right (by decide) (Nat.lt_of_le_of_lt (Nat.mul_le_mul (show k + 1 ≤ 201 by omega) (show i ≤ 60 by omega)) (by decide)))
        have b3 : (x - (i : Int)).natAbs < 2 ^ 201 := by
          have : (x - (i : Int)).natAbs < 2 ^ k + 60 := by omega
          have h7 : 2 ^ k ≤ 2 ^ 200 := Nat.pow_le_pow_right (by decide) hk2
          omega
        have l1 := mul_ok 15000 201 b2 b3
        have l2 := fdiv_ok (x := bc x i * (x - (i : Int))) (y := (i : Int) + 1) 10 (by omega) (by omega)
        have hz : (rowC x (i + 1)).length < sizeLine := size_lt (by rw [rowC_length]; omega)
        refine ⟨_, [some (.fz (.int x)), some (.fz (.int n)), some (.ol ((rowC x (i + 1 + 1)).map .int)), some (.fz (.int (i : Int)))], rfl, .inl ?_, _, rfl⟩
        rw [rowC_succ x (i + 1)]
        simp [l_choices_row_1, e1, l1, -fdivD_int, l2, bc_step, hz])
    subst es
    rw [Nat.zero_add, upto_length] at e
    exact ⟨_, e⟩
  unfold m_choices_row b_choices_row
  cases n with
  | zero =>
    simp [upto, e0]
  | succ n =>
    obtain ⟨t', e⟩ := lp n (by omega)
    simp [rg_nat n (show ((n : Int) + 1 - 1) = n by omega) (by omega), rg_nat n rfl (by omega), -k_Rg1]
    simp at e
    simp [e, show max (n + 1) 1 = n + 1 by omega]
/-- a fall that is told with, a place -/
def Fl (m : Nat) (f : List Int) : Prop := f.length ≤ 50 ∧ ∀ a ∈ f, a.natAbs < 2 ^ m
def Pl (x : Int) : Prop := x.natAbs < 2 ^ 110
theorem rowC_bd {x : Int} (hx : Pl x) {n : Nat} (hn : n ≤ 60) : ∀ a ∈ rowC x n, a.natAbs < 2 ^ 15000 := fun a ha => by
  simp only [rowC, List.mem_map, List.mem_range] at ha
  obtain ⟨i, hi, rfl⟩ := ha
  exact Nat.lt_of_le_of_lt (bc_bd hx (by omega)) (Nat.pow_lt_pow_right (by decide) (Nat.lt_of_le_of_lt (Nat.mul_le_mul (Nat.le_refl 111) (show i ≤ 60 by omega)) (by decide)))
theorem zip_mul {xs ys : List Int} {m : Nat} (hm : m ≤ 12000) (hx : ∀ a ∈ xs, a.natAbs < 2 ^ m) (hy : ∀ a ∈ ys, a.natAbs < 2 ^ 15000) {p : Int × Int} (hp : p ∈ xs.zip ys) : mulD (.int p.1) (.int p.2) = some (.fz (.int (p.1 * p.2))) := by
  have h1 := hx _ (List.of_mem_zip hp).1
  have h2 := hy _ (List.of_mem_zip hp).2
  exact mul_ok 12000 15000 (Nat.lt_of_lt_of_le h1 (Nat.pow_le_pow_right (by decide) hm)) h2
theorem dot_map (xs ys : List Int) : ((xs.zip ys).map fun p : Int × Int => PyData.int (p.1 * p.2)) = ((xs.zip ys).map fun p : Int × Int => p.1 * p.2).map PyData.int := by simp [Function.comp_def]
theorem sum_dot (xs ys : List Int) : sumD (.list ((xs.zip ys).map fun p : Int × Int => PyData.int (p.1 * p.2))) = some (.fz (.int (dot xs ys))) := by
  rw [dot_map, sumD_ints]; rfl
theorem fall_value {f : List Int} {x : Int} {m : Nat} (hm : m ≤ 12000) (hf : Fl m f) (hx : Pl x) : m_fall_value [.fz (.tuple (f.map .int)), .fz (.int x)] = .ok (.fz (.int (val f 0 x))) [none, none] := by
  have hl := hf.1
  have e1 := choices_row hx (by decide) (by decide) (n := f.length) (by omega)
  have hd : val f 0 x = dot f (rowC x (max f.length 1)) := (dot_rowC (by omega)).symm
  unfold m_fall_value b_fall_value
  simp [e1, pairUp_ints]
  rw [lcL_map (fun p : Int × Int => PyData.int (p.1 * p.2)) (fun p : Int × Int => PyData.tuple [.int p.1, .int p.2]) _ [] (fun p hp => ⟨_, _, rfl, by simp [zip_mul hm hf.2 (rowC_bd hx (by omega)) hp]; rfl, by simp⟩) (by refine size_ok ?_; simp; omega)]
  simp [sum_dot, hd]
theorem row_of_fall {f : List Int} {n : Nat} {m : Nat} (hm : m ≤ 12000) (hf : Fl m f) (hn : n ≤ 1000) : m_row_of_fall [.fz (.tuple (f.map .int)), .fz (.int n)] = .ok (.fz (.tuple ((row (val f 0) 0 n).map .int))) [none, none] := by
  unfold m_row_of_fall b_row_of_fall
  simp [rg_nat n rfl (by omega), -k_Rg1, upto_map]
  rw [lcL_map (fun i : Nat => PyData.int (val f 0 i)) (fun i : Nat => PyData.int (i : Int)) _ [] (fun i hi => ⟨_, _, rfl, by
    have := fall_value hm hf (x := i) (by unfold Pl; have := List.mem_range.mp hi; omega)
    simp [this]; rfl, by simp⟩) (by refine size_ok ?_; simp; omega)]
  simp [row, Function.comp_def]
theorem bc_lt {x : Int} (hx : Pl x) {i : Nat} (hi : i ≤ 60) : (bc x i).natAbs < 2 ^ 15000 := Nat.lt_of_le_of_lt (bc_bd (k := 110) hx (by omega)) (Nat.pow_lt_pow_right (by decide) (Nat.lt_of_le_of_lt (Nat.mul_le_mul (Nat.le_refl 111) hi) (by decide)))
theorem value_loop {x : Int} {m : Nat} (hm : m ≤ 12000) (hx : Pl x) (d : Option OD) : ∀ (f : List Int) (k : Nat) (F : Int) (a b : Option OD), k + f.length ≤ 50 → (∀ a ∈ f, a.natAbs < 2 ^ m) →
    ∃ a' b', forL (gT 2 (gsCons (gN 4) (gsCons (gN 5) gsNil))) l__law_value_1 ((f.zipIdx k).map fun p => .tuple [.int (p.2 : Nat), .int p.1]) [d, some (.fz (.int x)), some (.fz (.int F)), some (.fz (.int (bc x k))), a, b] =
      .nx [d, some (.fz (.int x)), some (.fz (.int (F + val f k x))), some (.fz (.int (bc x (k + f.length)))), a', b']
  | [], k, F, a, b, _, _ => ⟨a, b, by simp [val]⟩
  | c :: f, k, F, a, b, hl, hb => by
    rw [List.length_cons] at hl
    obtain ⟨a', b', e⟩ := value_loop hm hx d f (k + 1) (F + c * bc x k) (some (.fz (.int (k : Int)))) (some (.fz (.int c))) (by omega) fun q hq => hb q (by simp [hq])
    refine ⟨a', b', ?_⟩
    have b1 := bc_lt hx (show k ≤ 60 by omega)
    have b2 : (x - (k : Int)).natAbs < 2 ^ 201 := by unfold Pl at hx; omega
    have l1 := mul_ok 12000 15000 (Nat.lt_of_lt_of_le (hb c (by simp)) (Nat.pow_le_pow_right (by decide) hm)) b1
    have l2 := mul_ok 15000 201 b1 b2
    have l3 := fdiv_ok (x := bc x k * (x - (k : Int))) (y := (k : Int) + 1) 10 (by omega) (by omega)
    rw [List.zipIdx_cons, List.map_cons, forL_cons]
    simp [l__law_value_1, l1, l2, -fdivD_int, l3, bc_step]
    simp [l__law_value_1] at e
    rw [e, val]
    simp [Int.add_assoc, show k + 1 + f.length = k + (f.length + 1) by omega]
theorem value {f : List Int} {x : Int} {m : Nat} (hm : m ≤ 12000) (hf : Fl m f) (hx : Pl x) : m__law_value [.fz (.tuple (f.map .int)), .fz (.int x)] = .ok (.fz (.int (val f 0 x))) [none, none] := by
  obtain ⟨a, b, e⟩ := value_loop hm hx (some (.fz (.tuple (f.map .int)))) f 0 0 none none (by have := hf.1; omega) hf.2
  unfold m__law_value b__law_value
  rw [bc_none] at e
  simp at e
  simp [numbered_ints, e]
theorem neg1' {ns : List Int} (h : ns ≠ []) : atI (ns.map PyData.int) (-1) = some (.int (at0 ns (ns.length - 1))) := by
  have hl := List.length_pos_iff.mpr h
  have e : atI (ns.map PyData.int) (-1) = atI (ns.map PyData.int) ((ns.length - 1 : Nat) : Int) := by
    unfold atI ixN
    rw [List.length_map, if_neg (by omega), if_pos (by omega), if_pos (by omega), if_pos (by omega)]
    simp
    rw [show (-1 + (ns.length : Int)).toNat = ns.length - 1 by omega]
  rw [e]
  exact atI_list (by omega)
theorem neg1 {ns : List Int} {a : Int} : atI ((ns ++ [a]).map PyData.int) (-1) = some (.int a) := by
  rw [neg1' (by simp)]
  simp [at0]
theorem maxI_le (B : Int) : ∀ (l : List Int) (m : Int), maxI m l ≤ B ↔ m ≤ B ∧ ∀ a ∈ l, a ≤ B
  | [], m => by simp [maxI]
  | a :: l, m => by
    rw [maxI]
    split
    · rw [maxI_le B l]; simp; omega
    · rw [maxI_le B l]; simp; omega
end G_k79

set_option Elab.async false
set_option linter.all false
set_option autoImplicit false
set_option maxRecDepth 100000
set_option exponentiation.threshold 100000
namespace G_k79
open PySem PySem.Spec L2 MI NW
theorem pop_loop (v : Option OD) : ∀ (k : Nat) (ns : List Int), ns.length < k → whileL t__law_cut_1 l__law_cut_1 k [v, some (.ol (ns.map .int))] = .nx [v, some (.ol ((trim ns).map .int))]
  | 0, _, h => by omega
  | k + 1, ns, h => by
    rw [whileL_succ]
    rcases List.eq_nil_or_concat ns with rfl | ⟨ms, a, rfl⟩
    · have e := neD_lst [] []
      simp only [List.map_nil] at e
      simp [t__law_cut_1, e, trim]
    · rw [List.concat_eq_append] at h ⊢
      have e := neD_lst (ms ++ [a]) []
      simp only [List.map_nil] at e
      have e1 := neg1 (ns := ms) (a := a)
      simp at e e1
      by_cases h0 : a = 0
      · subst h0
        have ih := pop_loop v k ms (by simp at h; omega)
        rw [trim_snoc, ← ih]
        simp [t__law_cut_1, l__law_cut_1, e, e1]
      · have hf : trim (ms ++ [a]) = ms ++ [a] := trim_fit fun _ => by rw [List.getLast_append_of_ne_nil _ (by simp)]; simpa using h0
        rw [hf]
        simp [t__law_cut_1, e, e1, h0]
theorem law_cut {ns : List Int} (h : ns.length ≤ 1000) : m__law_cut [.fz (.list (ns.map .int))] = .ok (.fz (.tuple ((trim ns).map .int))) [none] := by
  have e := pop_loop (some (.fz (.list (ns.map .int)))) fuel ns (by unfold fuel; omega)
  unfold m__law_cut b__law_cut
  simp [e]
/-! the triangle -/
def triD (h : Int → Int) (n k : Nat) : D := .tuple ((row (dn k h) 0 (n - k)).map .int)
theorem row_at {h : Int → Int} {n i : Nat} (k : i < n) : atI ((row h 0 n).map PyData.int) (i : Int) = some (.int (h (i : Int))) := by
  rw [atI_list (by rw [row_length]; exact k)]
  simp [at0, List.getD_eq_getElem?_getD, row_get k]
theorem row_atR {h : Int → Int} {n i : Nat} {J : Int} (e : J = (i : Int)) (k : i < n) : atI ((row h 0 n).map PyData.int) J = some (.int (h (i : Int))) := by rw [e]; exact row_at k
theorem negmD (l : List D) (a : D) : atI (l ++ [a]) (-1) = some a := by
  have e : atI (l ++ [a]) (-1) = atI (l ++ [a]) ((l.length : Nat) : Int) := by
    unfold atI ixN
    rw [List.length_append, List.length_singleton, if_neg (by omega), if_pos (by omega), if_pos (by omega), if_pos (by omega)]
    simp
    rw [show (-1 + ((l.length : Int) + 1)).toNat = l.length by omega, List.getElem?_append_right (by simp)]
    simp
  rw [e]
  apply atI_natD
  rw [List.getElem?_append_right (by simp)]
  simp
theorem triangle {h : Int → Int} {n : Nat} (h0 : 0 < n) (hn : n ≤ 1000) : m__law_triangle [.fz (.tuple ((row h 0 n).map .int))] = .ok (.ol ((List.range n).map (triD h n))) [none] := by
  obtain ⟨a, ha⟩ : ∃ a : Option OD, a = some (.fz (.tuple ((row h 0 n).map .int))) := ⟨_, rfl⟩
  obtain ⟨s', e, x, y, es⟩ := forL_inv (g := gN 2) (h := l__law_triangle_1)
    (fun i st => ∃ x y, st = [a, some (.ol ((List.range (i + 1)).map (triD h n))), x, y, none])
    (upto 0 (n - 1)) 0 [a, some (.ol [triD h n 0]), none, none, none] ⟨none, none, by simp⟩ (by
      rintro i d st hd ⟨x, y, rfl⟩
      obtain ⟨hi, rfl⟩ := upto_get hd
      rw [Nat.zero_add]
      refine ⟨_, [a, some (.ol ((List.range (i + 1 + 1)).map (triD h n))), some (.fz (.int (i : Int))), some (.fz (triD h n i)), none], rfl, .inl ?_, _, _, rfl⟩
      have hz : i + 1 < sizeLine := size_lt (by omega)
      have el : atI ((List.range (i + 1)).map (triD h n)) (-1) = some (triD h n i) := by
        rw [List.range_succ, List.map_append]
        exact negmD _ _
      have en : triD h n (i + 1) = .tuple ((List.range (n - i - 1)).map fun k : Nat => PyData.int (dn i h ((k : Int) + 1) - dn i h (k : Int))) := by
        unfold triD
        rw [dn_succ', row, List.map_map, show n - (i + 1) = n - i - 1 by omega]
        congr 1
        apply List.map_congr_left
        intro k _
        simp [dl]
      have eu : upto 0 (n - i - 1) = (List.range (n - i - 1)).map fun k : Nat => PyData.int (k : Int) := by simp [upto]
      have ll := lcL_map (ow := [false, false, false, false, true]) (g := gN 4) (e := eFrz (oOp2 subD (eAt 3 (eFrz (oOp2 addD (eVar 4) (eC (.int 1))))) (eAt 3 (eVar 4)))) (s := [a, some (.ol ((List.range (i + 1)).map (triD h n))), some (.fz (.int (i : Int))), some (.fz (.tuple ((row (dn i h) 0 (n - i)).map .int))), none])
        (fun k : Nat => PyData.int (dn i h ((k : Int) + 1) - dn i h (k : Int))) (fun k : Nat => PyData.int (k : Int)) (List.range (n - i - 1)) [] (fun k hk => ⟨_, _, rfl, by
          have hk := List.mem_range.mp hk
          have q1 := row_at (h := dn i h) (n := n - i) (i := k) (by omega)
          have q2 := row_atR (h := dn i h) (n := n - i) (i := k + 1) (J := (k : Int) + 1) (by omega) (by omega)
          rw [show ((k + 1 : Nat) : Int) = (k : Int) + 1 by omega] at q2
          simp [q1, q2]; rfl, by simp⟩) (by rw [List.length_nil, Nat.zero_add, List.length_range]; exact size_ok (by omega))
      rw [← eu, List.nil_append] at ll
      rw [List.range_succ (n := i + 1), List.map_append, List.map_singleton, en]
      have etr : triD h n i = .tuple ((row (dn i h) 0 (n - i)).map .int) := rfl
      have elen : ((row (dn i h) 0 (n - i)).length : Int) = ((n - i : Nat) : Int) := by rw [row_length]
      have hlen2 : ((List.range (i + 1)).map (triD h n)).length = i + 1 := by simp
      generalize (List.range (i + 1)).map (triD h n) = TR at *
      generalize ((List.range (n - i - 1)).map fun k : Nat => PyData.int (dn i h ((k : Int) + 1) - dn i h (k : Int))) = NX at *
      rw [etr] at el ⊢
      unfold l__law_triangle_1
      simp [el, row_length, rg_nat (n := ((n - i : Nat) : Int) - 1) (n - i - 1) (by omega) (by omega), -k_Rg1, ll, hlen2, hz])
  subst es
  rw [Nat.zero_add, upto_length, show n - 1 + 1 = n by omega] at e
  unfold m__law_triangle b__law_triangle
  have e0 : triD h n 0 = .tuple ((row h 0 n).map .int) := rfl
  rw [e0] at e
  subst ha
  simp [row_length, rg_nat (n := (n : Int) - 1) (n - 1) (by omega) (by omega), -k_Rg1, e]
/-! the values, by sums -/
theorem val_pad (f : List Int) (m : Nat) (x : Int) : ∀ k : Nat, val (f ++ List.replicate m 0) k x = val f k x := by
  induction f with
  | nil =>
    intro k
    rw [List.nil_append]
    induction m generalizing k with
    | zero => rfl
    | succ m ih =>
      show (0 : Int) * bc x k + val (List.replicate m 0) (k + 1) x = 0
      rw [ih]; simp [val]
  | cons a f ih => intro k; rw [List.cons_append, val, val, ih]
def up (S : List Int) : List Int := (List.range S.length).map fun k => S.getD k 0 + S.getD (k + 1) 0
theorem up_length (S : List Int) : (up S).length = S.length := by simp [up]
theorem val_up1 (S : List Int) (x : Int) : val (up S) 0 x = val S 0 (x + 1) := by
  have h1 := val_lin 1 (fun k => S.getD k 0) (fun k => S.getD (k + 1) 0) x S.length
  have e1 : (List.range S.length).map (fun k => S.getD k 0) = S := by rw [range_get S (Nat.le_refl _)]; simp
  have e2 : (List.range S.length).map (fun k => S.getD (k + 1) 0) = S.tail ++ List.replicate (S.length - S.tail.length) 0 := by
    rw [← range_get S.tail (by simp)]
    apply List.map_congr_left
    intro k _
    simp [List.getD_eq_getElem?_getD]
  rw [e1, e2, val_pad, ← val_step] at h1
  have e3 : up S = (List.range S.length).map fun i => S.getD i 0 + 1 * S.getD (i + 1) 0 := by simp [up]
  rw [e3, h1]
  omega
theorem own_row {f : List Int} {n : Nat} (hl : f.length ≤ 100) (hn : n ≤ 1000) : m__law_own_row [.fz (.tuple (f.map .int)), .fz (.int (n : Nat))] = .ok (.fz (.tuple ((row (val f 0) 0 n).map .int))) [none, none] ∧ m__law_own_row [.fz (.list (f.map .int)), .fz (.int (n : Nat))] = .ok (.fz (.tuple ((row (val f 0) 0 n).map .int))) [none, none] := by
  have main : ∀ a : Option OD, ∃ x y, forL (gN 4) l__law_own_row_1 (upto 0 n) [a, some (.fz (.int (n : Nat))), some (.ol []), some (.fz (.list (f.map .int))), none, none] = .nx [a, some (.fz (.int (n : Nat))), some (.ol ((row (val f 0) 0 n).map .int)), x, y, none] := fun a => by
    obtain ⟨s', e, x, S, es, hS, hv⟩ := forL_inv (g := gN 4) (h := l__law_own_row_1)
      (fun i st => ∃ x, ∃ S : List Int, st = [a, some (.fz (.int (n : Nat))), some (.ol ((row (val f 0) 0 i).map .int)), some (.fz (.list (S.map .int))), x, none] ∧ S.length = f.length ∧ ∀ x, val S 0 x = val f 0 (x + (i : Int)))
      (upto 0 n) 0 [a, some (.fz (.int (n : Nat))), some (.ol []), some (.fz (.list (f.map .int))), none, none] ⟨none, f, by simp [row], rfl, by simp⟩ (by
        rintro i d st hd ⟨x, S, rfl, hS, hv⟩
        obtain ⟨hi, rfl⟩ := upto_get hd
        rw [Nat.zero_add] at hv ⊢
        have hz : i < sizeLine := size_lt (by omega)
        refine ⟨_, [a, some (.fz (.int (n : Nat))), some (.ol ((row (val f 0) 0 (i + 1)).map .int)), some (.fz (.list ((up S).map .int))), some (.fz (.int (i : Int))), none], rfl, .inl ?_, _, up S, rfl, by rw [up_length, hS], fun x => by
          rw [val_up1, hv]; congr 1; omega⟩
        have er : (row (val f 0) 0 (i + 1)).map PyData.int = (row (val f 0) 0 i).map PyData.int ++ [.int (S.getD 0 0)] := by
          unfold row
          rw [List.range_succ, List.map_append, List.map_append]
          congr 1
          simp only [List.map_singleton]
          rw [← val_zero, hv]
        rw [er]
        have ene := neD_lst S []
        have eu : upto 0 S.length = (List.range S.length).map fun k : Nat => PyData.int (k : Int) := by simp [upto]
        have ll : ∀ s2 s4, lcL [false, false, false, false, false, true] (gN 5) kYes (eFrz (oOp2 addD (eAt 3 (eVar 5)) (eIf (kCmp ltI (eFrz (oOp2 addD (eVar 5) (eC (.int 1)))) (eFrz (oBlt (one lenD) (aCons (eVar 3) aNil)))) (eAt 3 (eFrz (oOp2 addD (eVar 5) (eC (.int 1))))) (eC (.int 0))))) (upto 0 S.length) [] [a, some (.fz (.int (n : Nat))), s2, some (.fz (.list (S.map .int))), s4, none] = .ok ((up S).map .int) [a, some (.fz (.int (n : Nat))), s2, some (.fz (.list (S.map .int))), s4, none] := fun s2 s4 => by
          rw [eu, lcL_map (fun k : Nat => PyData.int (S.getD k 0 + S.getD (k + 1) 0)) (fun k : Nat => PyData.int (k : Int)) _ [] (fun k hk => ⟨_, [a, some (.fz (.int (n : Nat))), s2, some (.fz (.list (S.map .int))), s4, some (.fz (.int (k : Int)))], rfl, by
            have hk := List.mem_range.mp hk
            have q1 := atI_list (ns := S) (j := k) hk
            by_cases hk2 : k + 1 < S.length
            · have q2 := atI_listR (ns := S) (j := k + 1) (J := (k : Int) + 1) (by omega) hk2
              simp [q1, q2, show (k : Int) + 1 < (S.length : Int) by omega, at0]
            · have q3 : S[k + 1]? = none := List.getElem?_eq_none (by omega)
              simp [q1, q3, show ¬ (k : Int) + 1 < (S.length : Int) by omega, at0], by simp⟩) (by rw [List.length_nil, Nat.zero_add, List.length_range]; exact size_ok (by omega))]
          simp [up, Function.comp_def]
        have hrl : (row (val f 0) 0 i).length = i := row_length _ _ _
        generalize row (val f 0) 0 i = R at hrl
        unfold l__law_own_row_1
        by_cases h0 : S = []
        · subst h0
          simp only [List.map_nil] at ene
          have ll' := ll
          simp at ene ll'
          simp [ene, rg_nat (n := 0) 0 rfl (by omega), -k_Rg1, hrl, hz]
          simp at ll
          simp [ll, up]
        · have q0 := atI_list (ns := S) (j := 0) (List.length_pos_iff.mpr h0)
          have q0 : atI (S.map PyData.int) 0 = some (.int (S.getD 0 0)) := q0
          simp [h0] at ene
          simp [ene, q0, rg_nat S.length rfl (show S.length ≤ 1000000 by omega), -k_Rg1, ll, hrl, hz])
    subst es
    rw [Nat.zero_add, upto_length] at e
    exact ⟨_, _, e⟩
  unfold m__law_own_row b__law_own_row
  refine ⟨?_, ?_⟩
  · obtain ⟨x, y, e⟩ := main (some (.fz (.tuple (f.map .int))))
    simp [rg_nat n rfl (show n ≤ 1000000 by omega), -k_Rg1, e]
  · obtain ⟨x, y, e⟩ := main (some (.fz (.list (f.map .int))))
    simp [rg_nat n rfl (show n ≤ 1000000 by omega), -k_Rg1, e]
end G_k79

set_option Elab.async false
set_option linter.all false
set_option autoImplicit false
set_option maxRecDepth 100000
set_option exponentiation.threshold 100000
namespace G_k79
open PySem PySem.Spec L2 MI NW
theorem fall_row_loopT (h : Int → Int) (s : Int) (n : Nat) (hn : n ≤ 1000) (t : Option OD) : ∃ l t', forL (gN 3) l_fall_row_1 (upto 0 n) [some (.fz (.tuple ((row h s n).map .int))), some (.ol []), some (.fz (.tuple ((row h s n).map .int))), t] =
    .nx [some (.fz (.tuple ((row h s n).map .int))), some (.ol ((diffs h s n).map .int)), l, t'] := by
  obtain ⟨s', e, t', d, es, hd⟩ := forL_inv (g := gN 3) (h := l_fall_row_1)
    (fun i st => ∃ t' d, st = [some (.fz (.tuple ((row h s n).map .int))), some (.ol ((diffs h s i).map .int)), some (.fz d), t'] ∧ (d = .list ((row (dn i h) s (n - i)).map .int) ∨ d = .tuple ((row (dn i h) s (n - i)).map .int)))
    (upto 0 n) 0 [some (.fz (.tuple ((row h s n).map .int))), some (.ol []), some (.fz (.tuple ((row h s n).map .int))), t] ⟨t, _, by simp [diffs, dn], .inr rfl⟩ (by
      rintro i d st hd ⟨t', x, rfl, hx⟩
      obtain ⟨hi, rfl⟩ := upto_get hd
      rw [Nat.zero_add] at hx ⊢
      obtain ⟨k, ek⟩ : ∃ k, n - i = k + 1 := ⟨n - i - 1, by omega⟩
      rw [ek] at hx
      have e1 := steps_of (by rw [row_length]; omega) x hx
      rw [stp_row, ← dn_succ'] at e1
      have e2 : ixD x (.int 0) = some (.fz (.int (dn i h s))) := by
        have := atI_listR (ns := row (dn i h) s (k + 1)) (j := 0) (J := 0) rfl (by rw [row_length]; omega)
        have e3 : at0 (row (dn i h) s (k + 1)) 0 = dn i h s := by simp [at0, row, List.range_succ_eq_map]
        rw [e3] at this
        rcases hx with rfl | rfl <;> simp [this]
      refine ⟨_, [some (.fz (.tuple ((row h s n).map .int))), some (.ol ((diffs h s (i + 1)).map .int)), some (.fz (.tuple ((row (dn (i + 1) h) s k).map .int))), some (.fz (.int (i : Int)))], rfl, .inl ?_, _, _, rfl, .inr (by rw [show n - (i + 1) = k by omega])⟩
      rw [diffs_succ]
      have hz : (diffs h s i).length < sizeLine := size_lt (by simp [diffs]; omega)
      rcases hx with rfl | rfl
      · simp [l_fall_row_1, e1, e2, hz]
      · simp [l_fall_row_1, e1, e2, hz])
  subst es
  rw [Nat.zero_add, upto_length] at e
  exact ⟨_, _, e⟩
theorem fall_rowT {h : Int → Int} {s : Int} {n : Nat} (hn : n ≤ 1000) : m_fall_row [.fz (.tuple ((row h s n).map .int))] = .ok (.fz (.tuple ((trim (diffs h s n)).map .int))) [none] := by
  obtain ⟨l, t', e⟩ := fall_row_loopT h s n hn none
  have e2 := fall_trimmed (ns := diffs h s n) (by simp [diffs]; omega)
  unfold m_fall_row b_fall_row
  simp [row_length, rg_nat n rfl (by omega), -k_Rg1, e, e2]
structure Okf (f : List Int) : Prop where
  len : f.length ≤ 20
  bd : ∀ a ∈ f, a.natAbs < 2 ^ 100
  fit : Fit f
theorem Okf.fl {f : List Int} (h : Okf f) : Fl 100 f := ⟨by have := h.len; omega, h.bd⟩
theorem ev_lt {f : List Int} {x : Int} (hx : Pl x) (hf : Okf f) : (val f 0 x).natAbs < 2 ^ 3000 := by
  have hl := hf.len
  have h := val_bd (m := 100) (k := 110) (L := 20) hx (by decide) (f := f) (j := 0) hf.bd (by omega)
  have h2 : f.length * 2 ^ (100 + (110 + 1) * 20) ≤ 20 * 2 ^ (100 + (110 + 1) * 20) := Nat.mul_le_mul_right _ hl
  have h3 : 20 * 2 ^ (100 + (110 + 1) * 20) < 2 ^ 3000 := by decide +kernel
  omega
theorem val_row_bd {f : List Int} {m : Nat} (hm : m ≤ 110) (hf : Fl m f) {i : Nat} (hi : i < 128) : (val f 0 (i : Int)).natAbs < 2 ^ 600 := by
  have h := val_lt (m := m) (k := 7) (L := 50) (p := 6) (x := (i : Int)) (f := f) (j := 0) (by omega) (by omega) hf.2 (by have := hf.1; omega) (by have := hf.1; omega)
  exact Nat.lt_of_lt_of_le h (Nat.pow_le_pow_right (by decide) (by omega))
theorem row_take (h : Int → Int) (s : Int) (n m : Nat) (hm : m ≤ n) : (row h s n).take m = row h s m := by
  unfold row
  rw [← List.map_take, List.take_range, Nat.min_eq_left hm]
theorem max2N (a b : Nat) : extD maxI (.list [.int (a : Int), .int (b : Int)]) = some (.fz (.int ((max a b : Nat) : Int))) := by
  show some (OD.fz (.int (if (a : Int) < (b : Int) then (b : Int) else (a : Int)))) = _
  congr 3
  split <;> omega
def ab (a : Int) : Int := if a < 0 then -a else a
theorem ab_nat (a : Int) : ab a = (a.natAbs : Int) := by unfold ab; split <;> omega
def mostN (f : List Int) : Int := match f with
  | [] => 0
  | a :: f => maxI (ab a) (f.map ab)
theorem ext_maxN {f : List Int} (h : f ≠ []) : extD maxI (.list (f.map fun a => PyData.int (ab a))) = some (.fz (.int (mostN f))) := by
  cases f with
  | nil => exact absurd rfl h
  | cons a f =>
    have e : (a :: f).map (fun a => PyData.int (ab a)) = (ab a :: f.map ab).map PyData.int := by simp [Function.comp_def]
    rw [e]
    unfold extD
    simp only [asInts_map]
    rfl
theorem mostN_le {f : List Int} (h : f ≠ []) (B : Int) : mostN f ≤ B ↔ ∀ a ∈ f, (a.natAbs : Int) ≤ B := by
  cases f with
  | nil => exact absurd rfl h
  | cons a f =>
    unfold mostN
    rw [maxI_le]
    constructor
    · rintro ⟨h1, h2⟩ b hb
      rcases List.mem_cons.mp hb with rfl | hb
      · rwa [← ab_nat]
      · have := h2 (ab b) (List.mem_map.mpr ⟨b, hb, rfl⟩)
        rwa [← ab_nat]
    · intro h
      refine ⟨by rw [ab_nat]; exact h a (by simp), fun b hb => ?_⟩
      obtain ⟨c, hc, rfl⟩ := List.mem_map.mp hb
      rw [ab_nat]; exact h c (by simp [hc])
theorem values_loop {f : List Int} (hf : Okf f) (a b : Option OD) : ∀ (ps : List Int) (u v : Option OD), (∀ x ∈ ps, Pl x) →
    ∃ u' v', forL (gN 3) l__law_are_values_right_1 (ps.map .int) [some (.fz (.tuple (f.map .int))), a, b, u, v, none, none, none, none] = .nx [some (.fz (.tuple (f.map .int))), a, b, u', v', none, none, none, none]
  | [], u, v, _ => ⟨u, v, rfl⟩
  | x :: ps, u, v, h => by
    have hx := h x (by simp)
    obtain ⟨u', v', e⟩ := values_loop hf a b ps (some (.fz (.int x))) (some (.fz (.int (val f 0 x)))) fun y hy => h y (by simp [hy])
    refine ⟨u', v', ?_⟩
    have e1 := value (m := 100) (by decide) hf.fl hx
    have e2 := fall_value (m := 100) (by decide) hf.fl hx
    have e3 := due_int (r := val f 0 x) (Nat.lt_trans (ev_lt hx hf) (by decide))
    rw [← e, List.map_cons, forL_cons2]
    simp [l__law_are_values_right_1, e1, e2, e3]
theorem due_row {f : List Int} (hf : Okf f) {n : Nat} (hn : n ≤ 100) : m__law_is_due [.fz (.tuple ((row (val f 0) 0 n).map .int)), .fz (.tuple ((row (val f 0) 0 n).map .int))] = .ok (.fz (.bool true)) [none, none] := due_ints (fun x hx => by
  obtain ⟨i, hi, rfl⟩ := List.mem_map.mp hx
  have hi := List.mem_range.mp hi
  rw [Int.zero_add]
  exact Nat.lt_trans (val_row_bd (m := 100) (by decide) hf.fl (by omega)) (by decide)) (by rw [row_length]; omega)
theorem rows_loop {f : List Int} (hf : Okf f) (a b c d : Option OD) : ∀ (ns : List Nat) (u : Option OD), (∀ x ∈ ns, x ≤ 100) →
    ∃ u', forL (gN 6) l__law_are_values_right_2 (ns.map fun n : Nat => PyData.int (n : Int)) [some (.fz (.tuple (f.map .int))), a, b, c, d, some (.fz (.tuple ((row (val f 0) 0 100).map .int))), u, none, none] = .nx [some (.fz (.tuple (f.map .int))), a, b, c, d, some (.fz (.tuple ((row (val f 0) 0 100).map .int))), u', none, none]
  | [], u, _ => ⟨u, rfl⟩
  | n :: ns, u, h => by
    have hn := h n (by simp)
    obtain ⟨u', e⟩ := rows_loop hf a b c d ns (some (.fz (.int (n : Int)))) fun y hy => h y (by simp [hy])
    refine ⟨u', ?_⟩
    have e1 := row_of_fall (m := 100) (by decide) hf.fl (n := n) (by omega)
    have e2 : cutD ((row (val f 0) 0 100).map PyData.int) none (some (n : Int)) = (row (val f 0) 0 n).map PyData.int := by
      rw [cut_to, row_take _ _ _ _ hn]
    have e3 := due_row hf hn
    rw [← e, List.map_cons, forL_cons2]
    simp [l__law_are_values_right_2, e1, e2, e3]
theorem are_values_right {f : List Int} (hf : Okf f) {ps : List Int} (hp : ∀ x ∈ ps, Pl x) {ns : List Nat} {m : Nat} (hn : ∀ x ∈ ns, x ≤ 100) (hm : m ≤ 100) : m__law_are_values_right [.fz (.tuple (f.map .int)), .fz (.list (ps.map .int)), .fz (.list ((ns ++ [m]).map fun n : Nat => PyData.int (n : Int)))] = .ok (.fz (.bool true)) [none, none, none] := by
  have hl := hf.len
  obtain ⟨u, v, e1⟩ := values_loop hf (some (.fz (.list (ps.map .int)))) (some (.fz (.list ((ns ++ [m]).map fun n : Nat => PyData.int (n : Int))))) ps none none hp
  have e2 : m__law_own_row [.fz (.tuple (f.map .int)), .fz (.int 100)] = .ok (.fz (.tuple ((row (val f 0) 0 100).map .int))) [none, none] := (own_row (f := f) (n := 100) (by omega) (by omega)).1
  obtain ⟨w, e3⟩ := rows_loop hf (some (.fz (.list (ps.map .int)))) (some (.fz (.list ((ns ++ [m]).map fun n : Nat => PyData.int (n : Int))))) u v (ns ++ [m]) none (fun x hx => by
    rcases List.mem_append.mp hx with h | h
    · exact hn x h
    · have : x = m := by simpa using h
      omega)
  have e4 : atI ((ns ++ [m]).map fun n : Nat => PyData.int (n : Int)) (-1) = some (.int (m : Int)) := by
    rw [List.map_append]; exact negmD _ _
  have e5 := row_of_fall (m := 100) (by decide) hf.fl (n := m) (by omega)
  have e6 : cutD ((row (val f 0) 0 100).map PyData.int) none (some (m : Int)) = (row (val f 0) 0 m).map PyData.int := by
    rw [cut_to, row_take _ _ _ _ hm]
  have e7 := due_row hf hm
  obtain ⟨q, hq⟩ : ∃ q, q = max f.length 1 := ⟨_, rfl⟩
  have e8 : extD maxI (.list [.int (f.length : Int), .int 1]) = some (.fz (.int (q : Int))) := by
    rw [hq]; exact max2N f.length 1
  have e9 : cutD ((row (val f 0) 0 100).map PyData.int) none (some (q : Int)) = (row (val f 0) 0 q).map PyData.int := by
    rw [cut_to, row_take _ _ _ _ (by omega)]
  have hne : row (val f 0) 0 q ≠ [] := fun h => by
    have := congrArg List.length h
    rw [row_length] at this
    simp at this; omega
  have e10 := ext_maxN hne
  have e11 := fall_rowT (h := val f 0) (s := 0) (n := q) (by omega)
  have e12 : trim (diffs (val f 0) 0 q) = f := by
    rw [diffs_val f q (by omega), trim_app, trim_fit hf.fit]
  rw [e12] at e11
  have e13 := due_ints (ns := f) (fun x hx => Nat.lt_trans (hf.bd x hx) (by decide)) (by omega)
  have ela : ∀ (s2 s3 s4 s5 s6 : Option OD), lcL [false, false, false, false, false, false, false, false, true] (gN 8) kYes (eFrz (oBlt (one absD) (aCons (eVar 8) aNil))) ((row (val f 0) 0 q).map .int) [] [some (.fz (.tuple (f.map .int))), s2, s3, s4, s5, some (.fz (.tuple ((row (val f 0) 0 100).map .int))), s6, some (.fz (.tuple ((row (val f 0) 0 q).map .int))), none] =
      .ok ((row (val f 0) 0 q).map fun a => PyData.int (ab a)) [some (.fz (.tuple (f.map .int))), s2, s3, s4, s5, some (.fz (.tuple ((row (val f 0) 0 100).map .int))), s6, some (.fz (.tuple ((row (val f 0) 0 q).map .int))), none] := fun s2 s3 s4 s5 s6 => by
    rw [lcL_map (fun a : Int => PyData.int (ab a)) PyData.int _ [] (fun t _ => ⟨_, _, rfl, by simp [ab]; rfl, by simp⟩) (by rw [List.length_nil, Nat.zero_add, row_length]; exact size_ok (by omega))]
    simp
  generalize (row (val f 0) 0 q).map (fun a => PyData.int (ab a)) = AB at e10 ela
  generalize mostN (row (val f 0) 0 q) = mm at e10
  clear e12 hne
  generalize (row (val f 0) 0 q).map PyData.int = RQ at *
  generalize (row (val f 0) 0 100).map PyData.int = RH at *
  generalize ((ns ++ [m]).map fun n : Nat => PyData.int (n : Int)) = NS at *
  have hfl : ((f.map PyData.int).length : Int) = (f.length : Int) := by simp
  unfold m__law_are_values_right b__law_are_values_right
  have cp : CPowW 10 12 := by decide +kernel
  by_cases hbig : 1000000000000 < mm
  · simp [e1, e2, e3, e4, e5, e6, e7, e8, e9, e10, ela, cp, hbig]
  · simp [e1, e2, e3, e4, e5, e6, e7, e8, e9, e10, ela, cp, hbig, e11, e13]
end G_k79

set_option Elab.async false
set_option linter.all false
set_option autoImplicit false
set_option maxRecDepth 100000
set_option exponentiation.threshold 100000
namespace G_k79
open PySem PySem.Spec L2 MI NW
def okItem : D → Bool
  | .int i => decide (i.natAbs ≤ 1000000000000)
  | _ => false
theorem noneKey_wide : ∀ {kvs : List (D × D)}, wideKv kvs = true → (kvs.any fun p => noneKey p.1) = false
  | [], _ => rfl
  | (k, d) :: r, h => by
    rw [wideKv, Bool.and_eq_true, Bool.and_eq_true] at h
    rw [List.any_cons, noneKey_wide h.2.2, Bool.or_false]
    have := h.1
    cases k <;> first | rfl | (simp [keyWD] at this)
theorem is_within {d : D} (h : wideV d = true) : m_is_within [.fz d, .fz (.int (-1000000000000)), .fz (.int 1000000000000)] = .ok (.fz (.bool (okItem d))) [none, none, none] := by
  have num : ∀ b, (match d with | .int _ => true | _ => false) = b → m_is_number [.fz d] = .ok (.fz (.bool b)) [none] := fun b hb => by
    unfold m_is_number b_is_number
    cases d with
    | dict kvs =>
      have := noneKey_wide (by rw [wideV] at h; exact h)
      subst hb
      simp [this]
    | _ => subst hb; simp
  unfold m_is_within b_is_within
  cases d with
  | int i =>
    have e := num true rfl
    unfold eChn
    by_cases h1 : -1000000000000 ≤ i
    · by_cases h2 : i ≤ 1000000000000
      · simp [e, h1, h2, okItem]; omega
      · simp [e, h1, h2, okItem]; omega
    · simp [e, h1, okItem]; omega
  | _ =>
    have e := num false rfl
    simp [e, okItem]
theorem lcL_filter {ow : List Bool} {g : GF} {t : TF} {e : EF} {s : S} {α : Type} (f : α → D) (p : α → Bool) (u : α → D) : ∀ (l : List α) (acc : List D), (∀ a ∈ l, ∃ s1 s2, g (u a) s = some s1 ∧ t s1 = .ok (p a) s2 ∧ (p a = false → wipeF ow s2 = s) ∧ (p a = true → ∃ s3, e s2 = .ok (f a) s3 ∧ wipeF ow s3 = s)) → acc.length + l.length ≤ sizeLine →
    lcL ow g t e (l.map u) acc s = .ok (acc ++ (l.filter p).map f) s
  | [], acc, _, _ => by simp
  | a :: l, acc, h, hl => by
    obtain ⟨s1, s2, h1, h2, h3, h4⟩ := h a (by simp)
    rw [List.length_cons] at hl
    rw [List.map_cons, lcL_cons, h1]
    simp only [h2, Res.noex_ok, Res.bind_ok]
    by_cases hp : p a = true
    · obtain ⟨s3, h5, h6⟩ := h4 hp
      simp only [hp, if_true, h5, Res.noex_ok, Res.bind_ok]
      rw [if_pos (by omega), h6, lcL_filter f p u l (acc ++ [f a]) (fun b hb => h b (by simp [hb])) (by simp; omega)]
      simp [hp]
    · have hp' : p a = false := by simpa using hp
      simp only [hp']
      rw [if_neg (by simp), h3 hp', lcL_filter f p u l acc (fun b hb => h b (by simp [hb])) (by omega)]
      simp [hp']
theorem numbered_zip : ∀ (xs : List D) (k : Nat), MI.numbered k xs = (xs.zipIdx k).map fun p : D × Nat => PyData.tuple [.int (p.2 : Nat), p.1]
  | [], _ => by simp [MI.numbered]
  | x :: xs, k => by simp [MI.numbered, numbered_zip xs]
def bads (k : Nat) (ds : List D) : List Nat := ((ds.zipIdx k).filter fun p : D × Nat => !okItem p.1).map (·.2)
theorem bads_nil (k : Nat) : bads k [] = [] := rfl
theorem bads_cons (k : Nat) (d : D) (ds : List D) : bads k (d :: ds) = if okItem d = true then bads (k + 1) ds else k :: bads (k + 1) ds := by
  unfold bads
  rw [List.zipIdx_cons]
  by_cases h : okItem d = true
  · simp [h]
  · simp [h]
def dueE (d : D) : D := match d with
  | .tuple ds => if 1 ≤ ds.length ∧ ds.length ≤ 20 then (match bads 0 ds with
    | [] => .none
    | k :: _ => .tuple [.str "item", .int (k : Int)]) else .str "form"
  | _ => .str "form"
theorem wide_mem : ∀ {ds : List D}, wideVs ds = true → ∀ d ∈ ds, wideV d = true
  | [], _, _, h => by simp at h
  | d :: ds, h, x, hx => by
    rw [wideVs, Bool.and_eq_true] at h
    rcases List.mem_cons.mp hx with rfl | hx
    · exact h.1
    · exact wide_mem h.2 x hx
theorem step_row_error {d : D} (h : wideV d = true) : m_step_row_error [.fz d] = .ok (.fz (dueE d)) [none] := by
  unfold m_step_row_error b_step_row_error
  cases d with
  | tuple ds =>
    rw [wideV] at h
    have hw := wide_mem h
    have ll : lcL [false, false, true, true] (gT 2 (gsCons (gN 2) (gsCons (gN 3) gsNil))) (kNot (kVal (eFrz (oCall [none, none, none] (aCons (eVar 3) (aCons (eFrz (oOp1 negD (eC (.int 1000000000000)))) (aCons (eC (.int 1000000000000)) aNil))) (noexF m_is_within))))) (eVar 2) (MI.numbered 0 ds) [] [some (.fz (.tuple ds)), none, none, none] =
        (if ds.length ≤ sizeLine then .ok ((bads 0 ds).map fun k : Nat => PyData.int (k : Int)) [some (.fz (.tuple ds)), none, none, none] else lcL [false, false, true, true] (gT 2 (gsCons (gN 2) (gsCons (gN 3) gsNil))) (kNot (kVal (eFrz (oCall [none, none, none] (aCons (eVar 3) (aCons (eFrz (oOp1 negD (eC (.int 1000000000000)))) (aCons (eC (.int 1000000000000)) aNil))) (noexF m_is_within))))) (eVar 2) (MI.numbered 0 ds) [] [some (.fz (.tuple ds)), none, none, none]) := by
      split
      · rename_i hs
        rw [numbered_zip, lcL_filter (fun p : D × Nat => PyData.int (p.2 : Int)) (fun p : D × Nat => !okItem p.1) _ _ [] (fun p hp => by
          have e := is_within (hw p.1 (by
            have hm := List.mem_zipIdx hp
            rw [hm.2.2]; exact List.getElem_mem _))
          refine ⟨_, [some (.fz (.tuple ds)), none, some (.fz (.int (p.2 : Int))), some (.fz p.1)], rfl, by simp [e], fun _ => by simp, fun _ => ⟨_, by simp; rfl, by simp⟩⟩) (by simpa using hs)]
        rw [List.nil_append, bads, List.map_map]; rfl
      · rfl
    have e0 : numD (.tuple ds) = some (MI.numbered 0 ds) := rfl
    generalize MI.numbered 0 ds = NT at *
    unfold kChn dueE
    by_cases h1 : 1 ≤ ds.length
    · by_cases h2 : ds.length ≤ 20
      · rw [if_pos (show ds.length ≤ sizeLine from size_ok (by omega))] at ll
        have eb := neD_lst ((bads 0 ds).map fun k : Nat => (k : Int)) []
        rw [List.map_map, List.map_nil] at eb
        have eb : neD (.list ((bads 0 ds).map fun k : Nat => PyData.int (k : Int))) (.list []) = some !decide ((bads 0 ds).map (fun k : Nat => (k : Int)) = []) := eb
        cases hbd : bads 0 ds with
        | nil =>
          rw [hbd] at ll eb
          simp at ll eb
          simp [hbd, -numD_tup, e0, h1, h2, ll, eb, show (1 : Int) ≤ (ds.length : Int) by omega, show (ds.length : Int) ≤ 20 by omega]
        | cons k r =>
          rw [hbd] at ll eb
          have e2 : atI ((k :: r).map fun k : Nat => PyData.int (k : Int)) ((0 : Nat) : Int) = some (.int (k : Int)) := atI_natD rfl
          simp at ll eb e2
          simp [hbd, -numD_tup, e0, h1, h2, ll, eb, e2, show (1 : Int) ≤ (ds.length : Int) by omega, show (ds.length : Int) ≤ 20 by omega]
      · simp [h1, h2, show (1 : Int) ≤ (ds.length : Int) by omega, show ¬ (ds.length : Int) ≤ 20 by omega]
    · have : ds = [] := List.eq_nil_of_length_eq_zero (by omega)
      subst this
      simp
  | dict kvs =>
    have := noneKey_wide (by rw [wideV] at h; exact h)
    unfold dueE
    simp [this]
  | _ => unfold dueE; simp
end G_k79

set_option Elab.async false
set_option linter.all false
set_option autoImplicit false
set_option maxRecDepth 100000
set_option exponentiation.threshold 100000
namespace G_k79
open PySem PySem.Spec L2 MI NW
theorem own_turn {d : D} (h : wideV d = true) (a : Option OD) (k : Nat) : l__law_own_error_1 [a, some (.fz (.int (k : Int))), some (.fz d)] = if okItem d = true then .nx [a, some (.fz (.int (k : Int))), some (.fz d)] else .rt (.fz (.tuple [.str "item", .int (k : Int)])) [a, some (.fz (.int (k : Int))), some (.fz d)] := by
  have cp : CPowW 10 12 := by decide +kernel
  unfold l__law_own_error_1
  cases d with
  | int i =>
    have e : okItem (.int i) = decide (i.natAbs ≤ 1000000000000) := rfl
    rw [e]
    by_cases h1 : i.natAbs ≤ 1000000000000
    · have h2 : ¬ (1000000000000 : Int) < (if i < 0 then -i else i) := by split <;> omega
      simp [cp, h1, h2]
    · have h2 : (1000000000000 : Int) < (if i < 0 then -i else i) := by split <;> omega
      simp [cp, h1, h2]
  | dict kvs =>
    have := noneKey_wide (by rw [wideV] at h; exact h)
    simp [this, okItem]
  | _ => simp [okItem]
theorem own_loop (a : Option OD) : ∀ (ds : List D) (k : Nat) (u v : Option OD), (∀ d ∈ ds, wideV d = true) →
    (bads k ds = [] → ∃ u' v', forL (gT 2 (gsCons (gN 1) (gsCons (gN 2) gsNil))) l__law_own_error_1 (MI.numbered k ds) [a, u, v] = .nx [a, u', v']) ∧
    (∀ j r, bads k ds = j :: r → ∃ u' v', forL (gT 2 (gsCons (gN 1) (gsCons (gN 2) gsNil))) l__law_own_error_1 (MI.numbered k ds) [a, u, v] = .rt (.fz (.tuple [.str "item", .int (j : Int)])) [a, u', v'])
  | [], k, u, v, _ => ⟨fun _ => ⟨u, v, rfl⟩, fun j r h => by simp [bads] at h⟩
  | d :: ds, k, u, v, h => by
    have e := own_turn (h d (by simp)) a k
    have ih := own_loop a ds (k + 1) (some (.fz (.int (k : Int)))) (some (.fz d)) fun x hx => h x (by simp [hx])
    rw [bads_cons]
    by_cases hd : okItem d = true
    · rw [if_pos hd] at e
      have run : forL (gT 2 (gsCons (gN 1) (gsCons (gN 2) gsNil))) l__law_own_error_1 (MI.numbered k (d :: ds)) [a, u, v] = forL (gT 2 (gsCons (gN 1) (gsCons (gN 2) gsNil))) l__law_own_error_1 (MI.numbered (k + 1) ds) [a, some (.fz (.int (k : Int))), some (.fz d)] := by
        rw [MI.numbered, forL_cons2]
        simp [e]
      rw [if_pos hd, run]
      exact ih
    · rw [if_neg hd] at e
      have run : forL (gT 2 (gsCons (gN 1) (gsCons (gN 2) gsNil))) l__law_own_error_1 (MI.numbered k (d :: ds)) [a, u, v] = .rt (.fz (.tuple [.str "item", .int (k : Int)])) [a, some (.fz (.int (k : Int))), some (.fz d)] := by
        rw [MI.numbered, forL_cons2]
        simp [e]
      rw [if_neg hd, run]
      refine ⟨fun h => by simp at h, fun j r h => ?_⟩
      rw [List.cons.injEq] at h
      rw [← h.1]
      exact ⟨_, _, rfl⟩
theorem own_error {d : D} (h : wideV d = true) : m__law_own_error [.fz d] = .ok (.fz (dueE d)) [none] := by
  unfold m__law_own_error b__law_own_error
  cases d with
  | tuple ds =>
    rw [wideV] at h
    have hw := wide_mem h
    have e0 : numD (.tuple ds) = some (MI.numbered 0 ds) := rfl
    obtain ⟨i1, i2⟩ := own_loop (some (.fz (.tuple ds))) ds 0 none none hw
    unfold dueE
    by_cases h1 : 1 ≤ ds.length
    · by_cases h2 : ds.length ≤ 20
      · cases hbd : bads 0 ds with
        | nil =>
          obtain ⟨u, v, e⟩ := i1 hbd
          generalize MI.numbered 0 ds = NT at *
          simp [-numD_tup, e0, h1, h2, e, hbd, show ¬ (ds.length : Int) < 1 by omega, show ¬ (20 : Int) < (ds.length : Int) by omega]
        | cons k r =>
          obtain ⟨u, v, e⟩ := i2 k r hbd
          generalize MI.numbered 0 ds = NT at *
          simp [-numD_tup, e0, h1, h2, e, hbd, show ¬ (ds.length : Int) < 1 by omega, show ¬ (20 : Int) < (ds.length : Int) by omega]
      · simp [h1, h2, show ¬ (ds.length : Int) < 1 by omega, show (20 : Int) < (ds.length : Int) by omega]
    · have : ds = [] := List.eq_nil_of_length_eq_zero (by omega)
      subst this
      simp
  | dict kvs =>
    have := noneKey_wide (by rw [wideV] at h; exact h)
    unfold dueE
    simp [this]
  | _ => unfold dueE; simp
theorem sml_form : Sml (.str "form") 4 0 := sml_str (by decide +kernel) (by decide +kernel)
theorem sml_item (k : Nat) (hk : k < 10 ^ 499) : Sml (.tuple [.str "item", .int (k : Int)]) 20 1 := sml_tup (n := 4) (k := 0) (fun d hd => by
  simp only [List.mem_cons, List.not_mem_nil, or_false] at hd
  rcases hd with rfl | rfl
  · exact sml_str (by decide +kernel) (by decide +kernel)
  · exact sml_int (by rw [Int.natAbs_natCast]; exact hk) _ _) (by simp) (by simp)
theorem bads_lt : ∀ {ds : List D} {k j : Nat}, j ∈ bads k ds → j < k + ds.length
  | [], k, j, h => by simp [bads] at h
  | d :: ds, k, j, h => by
    rw [bads_cons] at h
    rw [List.length_cons]
    split at h
    · have := bads_lt h; omega
    · rcases List.mem_cons.mp h with rfl | h
      · omega
      · have := bads_lt h; omega
theorem due_due (d : D) : m__law_is_due [.fz (dueE d), .fz (dueE d)] = .ok (.fz (.bool true)) [none, none] := by
  have hf := due_str (sml_form.repr (by decide) (by decide))
  cases d with
  | tuple ds =>
    unfold dueE
    simp only
    split
    · rename_i h
      split
      · exact due_none
      · rename_i k r hb
        have := bads_lt (k := 0) (ds := ds) (j := k) (by rw [hb]; simp)
        exact due_tup ((sml_item k (Nat.lt_of_lt_of_le (show k < 10 ^ 3 by omega) (by decide +kernel))).repr (by decide) (by decide))
    · exact hf
  | _ => exact hf
/-- any value that is judged -/
def Vl (d : D) : Prop := Sml d 30000 10
theorem judge_turn {d : D} (h : Vl d) (a b c e f : Option OD) (u : Option OD) : ∃ e' f', l__law_is_judge_right_1 [a, b, c, u, some (.fz d), e, f] = .nx [a, b, c, u, some (.fz d), e', f'] := by
  have e1 := own_error h.wide
  have e2 := step_row_error h.wide
  have e3 := due_due d
  have e4 := reprV_some (h.repr (by decide) (by decide))
  refine ⟨some (.fz (dueE d)), some (.fz (.str d.shown)), ?_⟩
  unfold l__law_is_judge_right_1
  generalize dueE d = DU at *
  generalize d.shown = SH at *
  simp [e1, e2, e3, e4]
theorem judge_loop (a b c u : Option OD) : ∀ (ds : List D) (x e f : Option OD), (∀ d ∈ ds, Vl d) → ∃ x' e' f', forL (gN 4) l__law_is_judge_right_1 ds [a, b, c, u, x, e, f] = .nx [a, b, c, u, x', e', f']
  | [], x, e, f, _ => ⟨x, e, f, rfl⟩
  | d :: ds, x, e, f, h => by
    obtain ⟨e1, f1, q⟩ := judge_turn (h d (by simp)) a b c e f u
    obtain ⟨x', e', f', q2⟩ := judge_loop a b c u ds (some (.fz d)) e1 f1 fun y hy => h y (by simp [hy])
    refine ⟨x', e', f', ?_⟩
    rw [← q2, forL_cons2]
    generalize l__law_is_judge_right_1 = LL at *
    simp [q]
end G_k79

set_option Elab.async false
set_option linter.all false
set_option autoImplicit false
set_option maxRecDepth 100000
set_option exponentiation.threshold 100000
namespace G_k79
open PySem PySem.Spec L2 MI NW
theorem dn_dn (h : Int → Int) (k : Nat) : ∀ j : Nat, dn j (dn k h) = dn (k + j) h
  | 0 => rfl
  | j + 1 => by rw [dn_succ', dn_dn h k j, ← dn_succ']; rfl
theorem dn_bd {h : Int → Int} {B : Nat} (hB : ∀ x, (h x).natAbs ≤ B) : ∀ (j : Nat) (x : Int), (dn j h x).natAbs ≤ 2 ^ j * B
  | 0, x => by
    have := hB x
    show (h x).natAbs ≤ _
    simpa using this
  | j + 1, x => by
    rw [dn_succ']
    have h1 := dn_bd hB j x
    have h2 := dn_bd hB j (x + 1)
    show (dn j h (x + 1) - dn j h x).natAbs ≤ _
    rw [Nat.pow_succ]
    have : 2 ^ j * 2 * B = 2 ^ j * B + 2 ^ j * B := by rw [Nat.mul_comm (2 ^ j) 2, Nat.mul_assoc]; omega
    omega
theorem drop_diffs (h : Int → Int) (n k : Nat) : (diffs h 0 n).drop k = diffs (dn k h) 0 (n - k) := by
  unfold diffs
  apply List.ext_getElem
  · simp
  · intro j h1 h2
    simp
    rw [dn_dn]
theorem tail_diffs (g : Int → Int) (m : Nat) : (diffs g 0 (m + 1)).tail = diffs (dl g) 0 m := by
  have := drop_diffs g (m + 1) 1
  rw [List.drop_one] at this
  rw [this]; rfl
theorem newton : ∀ (x m : Nat) (g : Int → Int), x < m → val (diffs g 0 m) 0 (x : Int) = g (x : Int)
  | 0, m, g, h => by
    obtain ⟨m, rfl⟩ : ∃ q, m = q + 1 := ⟨m - 1, by omega⟩
    have := val_zero (diffs g 0 (m + 1))
    rw [show ((0 : Nat) : Int) = 0 from rfl, this]
    simp [diffs, List.range_succ_eq_map, dn]
  | x + 1, m, g, h => by
    obtain ⟨m, rfl⟩ : ∃ q, m = q + 1 := ⟨m - 1, by omega⟩
    have h1 := newton x (m + 1) g (by omega)
    have h2 := newton x m (dl g) (by omega)
    have h3 := val_step (diffs g 0 (m + 1)) (x : Int)
    rw [tail_diffs, h2, h1] at h3
    rw [Int.natCast_succ]
    unfold dl at h3
    omega
theorem val_trim (f : List Int) (x : Int) : val (trim f) 0 x = val f 0 x := by
  refine snoc_ind (P := fun f => val (trim f) 0 x = val f 0 x) rfl (fun r a ih => ?_) f
  by_cases ha : a = 0
  · subst ha
    rw [trim_snoc, ih, val_app]; simp
  · rw [trim_fit fun _ => by rw [List.getLast_append_of_ne_nil _ (by simp)]; simpa using ha]
theorem row_back {g : Int → Int} {m : Nat} : row (val (trim (diffs g 0 m)) 0) 0 m = row g 0 m := by
  unfold row
  apply List.map_congr_left
  intro i hi
  have hi := List.mem_range.mp hi
  rw [val_trim, Int.zero_add, newton i m g hi]
def fn (ns : List Int) (x : Int) : Int := ns.getD x.toNat 0
theorem row_fn (ns : List Int) : row (fn ns) 0 ns.length = ns := by
  apply List.ext_getElem
  · simp [row]
  · intro i h1 h2
    simp [row, fn, List.getD_eq_getElem?_getD, h2]
theorem fn_bd {ns : List Int} {B : Nat} (h : ∀ a ∈ ns, a.natAbs ≤ B) (x : Int) : (fn ns x).natAbs ≤ B := by
  unfold fn
  rw [List.getD_eq_getElem?_getD]
  by_cases hx : x.toNat < ns.length
  · rw [List.getElem?_eq_getElem hx]; exact h _ (List.getElem_mem hx)
  · rw [List.getElem?_eq_none (by omega)]; simp
theorem dn_small {h : Int → Int} {n : Nat} (hn : n ≤ 20) (hB : ∀ x, (h x).natAbs ≤ 10 ^ 12) {k : Nat} (hk : k ≤ n) (x : Int) : (dn k h x).natAbs < 2 ^ 100 := by
  have h1 := dn_bd hB k x
  have h2 : 2 ^ k * 10 ^ 12 ≤ 2 ^ 20 * 10 ^ 12 := Nat.mul_le_mul_right _ (Nat.pow_le_pow_right (by decide) (by omega))
  have h3 : 2 ^ 20 * 10 ^ 12 < 2 ^ 100 := by decide +kernel
  omega
theorem all_ok : ∀ {ns : List Int} {k : Nat}, (∀ a ∈ ns, a.natAbs ≤ 1000000000000) → bads k (ns.map .int) = []
  | [], _, _ => rfl
  | a :: ns, k, h => by
    rw [List.map_cons, bads_cons, if_pos (by simpa [okItem] using h a (by simp)), all_ok fun x hx => h x (by simp [hx])]
theorem wide_small {ns : List Int} (h : ∀ a ∈ ns, a.natAbs < 2 ^ 12900) : wideV (.tuple (ns.map .int)) = true := (reprV_ints (ns := []) (by simp) (by simp)).1 ▸ by
  rw [wideV]
  have := lean_wideVs (ns.map .int) (lean_map PyData.int fun x hx => lean_int (h x hx))
  rw [this]
  rfl
theorem step_turn {h : Int → Int} {n k : Nat} (hn : n ≤ 20) (hB : ∀ x, (h x).natAbs ≤ 10 ^ 12) (hk : k < n) (a : Option OD) (u v w : Option OD) :
    l__law_are_steps_right_1 [a, some (.fz (.list ((List.range n).map (triD h n)))), some (.fz (.list ((diffs h 0 n).map .int))), some (.fz (triD h n k)), some (.fz (.int (k : Int))), none, u, v] = .nx [a, some (.fz (.list ((List.range n).map (triD h n)))), some (.fz (.list ((diffs h 0 n).map .int))), some (.fz (triD h n k)), some (.fz (.int (k : Int))), none, some (.fz (triD h n (k + 1))), some (.fz (.tuple ((trim (diffs (dn k h) 0 (n - k))).map .int)))] ∨
    (0 < k ∧ l__law_are_steps_right_1 [a, some (.fz (.list ((List.range n).map (triD h n)))), some (.fz (.list ((diffs h 0 n).map .int))), some (.fz (triD h n k)), some (.fz (.int (k : Int))), none, u, v] = .rt (.fz (.bool true)) [a, some (.fz (.list ((List.range n).map (triD h n)))), some (.fz (.list ((diffs h 0 n).map .int))), some (.fz (triD h n k)), some (.fz (.int (k : Int))), none, u, v]) := by
  obtain ⟨m, hm⟩ : ∃ m, n - k = m + 1 := ⟨n - k - 1, by omega⟩
  obtain ⟨g, hg⟩ : ∃ g, g = dn k h := ⟨_, rfl⟩
  obtain ⟨R, hR⟩ : ∃ R, R = row g 0 (m + 1) := ⟨_, rfl⟩
  have hRl : R.length = m + 1 := by rw [hR, row_length]
  have hgb : ∀ x, (g x).natAbs < 2 ^ 100 := fun x => by rw [hg]; exact dn_small hn hB (by omega) x
  have hRb : ∀ x ∈ R, x.natAbs < 2 ^ 100 := fun x hx => by
    rw [hR] at hx
    obtain ⟨i, _, rfl⟩ := List.mem_map.mp hx
    exact hgb _
  have hRne : R ≠ [] := fun e => by rw [e] at hRl; simp at hRl
  have eown : triD h n k = .tuple (R.map .int) := by unfold triD; rw [hm, ← hg, ← hR]
  have elat : triD h n (k + 1) = .tuple ((stp R).map .int) := by
    unfold triD
    rw [hR, stp_row, hg, ← dn_succ', show n - (k + 1) = m by omega]
  have hstb : ∀ x ∈ stp R, x.natAbs < 2 ^ 12900 := fun x hx => by
    rw [hR, stp_row, hg, ← dn_succ'] at hx
    obtain ⟨i, _, rfl⟩ := List.mem_map.mp hx
    exact Nat.lt_trans (dn_small hn hB (by omega) _) (by decide)
  have hstl : (stp R).length ≤ 1000 := by rw [hR, stp_row, row_length]; omega
  -- the items behind
  obtain ⟨ft, hft⟩ : ∃ ft, ft = trim (diffs g 0 (m + 1)) := ⟨_, rfl⟩
  have hdl : (diffs g 0 (m + 1)).length = m + 1 := by simp [diffs]
  have hftl : ft.length ≤ m + 1 := by rw [hft]; have := trim_le (diffs g 0 (m + 1)); omega
  have hftb : ∀ x ∈ ft, x.natAbs < 2 ^ 100 := fun x hx => by
    rw [hft] at hx
    obtain ⟨i, hi, rfl⟩ := List.mem_map.mp (trim_mem hx)
    have hi := List.mem_range.mp hi
    rw [hg, dn_dn]
    exact dn_small hn hB (by omega) _
  have e1 : cutD ((diffs h 0 n).map PyData.int) (some (k : Int)) none = (diffs g 0 (m + 1)).map PyData.int := by
    rw [cut_from, drop_diffs, hm, hg]
  have e2 := law_cut (ns := diffs g 0 (m + 1)) (by omega)
  rw [← hft] at e2
  have e3 := step_row_error (d := .tuple (R.map .int)) (wide_small fun x hx => Nat.lt_trans (hRb x hx) (by decide))
  have e4 := steps_of (ns := R) (by omega) (.tuple (R.map .int)) (.inr rfl)
  have e5 := due_ints hstb hstl
  have e6 := fall_rowT (h := g) (s := 0) (n := m + 1) (by omega)
  rw [← hR, ← hft] at e6
  have e7 := due_ints (ns := ft) (fun x hx => Nat.lt_trans (hftb x hx) (by decide)) (by omega)
  have e8 := row_of_fall (f := ft) (n := m + 1) (m := 100) (by decide) ⟨by omega, hftb⟩ (by omega)
  rw [hft, row_back, ← hft, ← hR] at e8
  have e9 := due_ints (ns := R) (fun x hx => Nat.lt_trans (hRb x hx) (by decide)) (by omega)
  have e10 := ext_maxN hRne
  have emax := mostN_le hRne 1000000000000
  have hat : k + 1 < n → atI ((List.range n).map (triD h n)) ((k : Int) + 1) = some (triD h n (k + 1)) := fun hk1 => by
    have : atI ((List.range n).map (triD h n)) ((k + 1 : Nat) : Int) = some (triD h n (k + 1)) := by
      apply atI_natD
      rw [List.getElem?_map, List.getElem?_range hk1]; rfl
    rwa [Int.natCast_succ] at this
  have hlen : (((List.range n).map (triD h n)).length : Int) = (n : Int) := by simp
  have hlast : ¬ k + 1 < n → stp R = [] := fun hk1 => by
    apply List.eq_nil_of_length_eq_zero
    rw [hR, stp_row, row_length]; omega
  have ela : ∀ (s1 s2 s4 s6 s7 : Option OD), lcL [false, false, false, false, false, true, false, false] (gN 5) kYes (eFrz (oBlt (one absD) (aCons (eVar 5) aNil))) (R.map .int) [] [a, s1, s2, some (.fz (.tuple (R.map .int))), s4, none, s6, s7] = .ok (R.map fun a => PyData.int (ab a)) [a, s1, s2, some (.fz (.tuple (R.map .int))), s4, none, s6, s7] := fun s1 s2 s4 s6 s7 => by
    rw [lcL_map (fun a : Int => PyData.int (ab a)) PyData.int _ [] (fun t _ => ⟨_, _, rfl, by simp [ab]; rfl, by simp⟩) (by rw [List.length_nil, Nat.zero_add]; exact size_ok (by omega))]
    simp
  have cp : CPowW 10 12 := by decide +kernel
  rw [elat] at hat ⊢
  rw [eown, hm, ← hg, ← hft]
  have hRl2 : ((R.map PyData.int).length : Int) = ((m + 1 : Nat) : Int) := by rw [List.length_map, hRl]
  have hst0 : ¬ k + 1 < n → (stp R).map PyData.int = [] := fun h => by rw [hlast h]; rfl
  have e8 : m_row_of_fall [.fz (.tuple (ft.map .int)), .fz (.int ((m : Int) + 1))] = .ok (.fz (.tuple (R.map .int))) [none, none] := by rw [← e8, Int.natCast_succ]
  rw [Int.natCast_succ] at hRl2
  have hgood : mostN R ≤ 1000000000000 → dueE (.tuple (R.map .int)) = .none := fun hle => by
    have := all_ok (k := 0) (ns := R) fun a ha => by have := emax.mp hle a ha; omega
    unfold dueE
    simp only [List.length_map, hRl]
    rw [if_pos (by omega), this]
  have hk0 : k = 0 → mostN R ≤ 1000000000000 := fun h0 => emax.mpr fun x hx => by
    rw [hR] at hx
    obtain ⟨i, _, rfl⟩ := List.mem_map.mp hx
    have := hB (0 + (i : Int))
    rw [hg, h0]
    show (((h (0 + (i : Int))).natAbs : Nat) : Int) ≤ _
    omega
  generalize R.map (fun a => PyData.int (ab a)) = AB at *
  generalize mostN R = mm at *
  clear emax hRb hstb hstl hdl hftb hftl hRne eown elat hR hft hlast
  generalize (stp R).map PyData.int = ST at *
  generalize R.map PyData.int = RI at *
  generalize (List.range n).map (triD h n) = TR at *
  generalize (diffs h 0 n).map PyData.int = DI at *
  generalize (diffs g 0 (m + 1)).map PyData.int = DG at *
  generalize ft.map PyData.int = FI at *
  by_cases hbig : 1000000000000 < mm
  · right
    have hkp : 0 < k := Nat.pos_of_ne_zero fun h0 => by have := hk0 h0; omega
    refine ⟨hkp, ?_⟩
    unfold l__law_are_steps_right_1
    simp [ela, e10, cp, hbig, hkp]
  · left
    have hgd := hgood (by omega)
    rw [hgd] at e3
    have en := due_none
    unfold l__law_are_steps_right_1
    by_cases hk1 : k + 1 < n
    · have hat1 := hat hk1
      by_cases hk0 : k = 0
      · subst hk0
        simp at hat1 e1
        simp [ela, e10, cp, hbig, hlen, show (1 : Int) < (n : Int) by omega, hat1, e1, e2, e3, en, e4, e5, e6, e7, hRl2, e8, e9]
      · simp [ela, e10, cp, hbig, hlen, show (k : Int) + 1 < (n : Int) by omega, hat1, e1, e2, e3, en, e4, e5, e6, e7, hRl2, e8, e9, hk0]
    · have hs := hst0 hk1
      subst hs
      by_cases hk0 : k = 0
      · subst hk0
        simp at e1
        simp [ela, e10, cp, hbig, hlen, show ¬ (1 : Int) < (n : Int) by omega, e1, e2, e3, en, e4, e5, e6, e7, hRl2, e8, e9]
      · simp [ela, e10, cp, hbig, hlen, show ¬ (k : Int) + 1 < (n : Int) by omega, e1, e2, e3, en, e4, e5, e6, e7, hRl2, e8, e9, hk0]
end G_k79

set_option Elab.async false
set_option linter.all false
set_option autoImplicit false
set_option maxRecDepth 100000
set_option exponentiation.threshold 100000
namespace G_k79
open PySem PySem.Spec L2 MI NW
theorem steps_loop {h : Int → Int} {n : Nat} (hn : n ≤ 20) (hB : ∀ x, (h x).natAbs ≤ 10 ^ 12) (a : Option OD) : ∀ (m k : Nat) (o u v w : Option OD), k + m = n →
    (∃ o' w' u' v', forL (gT 2 (gsCons (gN 4) (gsCons (gN 3) gsNil))) l__law_are_steps_right_1 (MI.numbered k ((List.range' k m).map (triD h n))) [a, some (.fz (.list ((List.range n).map (triD h n)))), some (.fz (.list ((diffs h 0 n).map .int))), o, w, none, u, v] = .nx [a, some (.fz (.list ((List.range n).map (triD h n)))), some (.fz (.list ((diffs h 0 n).map .int))), o', w', none, u', v']) ∨
    (∃ s', forL (gT 2 (gsCons (gN 4) (gsCons (gN 3) gsNil))) l__law_are_steps_right_1 (MI.numbered k ((List.range' k m).map (triD h n))) [a, some (.fz (.list ((List.range n).map (triD h n)))), some (.fz (.list ((diffs h 0 n).map .int))), o, w, none, u, v] = .rt (.fz (.bool true)) (a :: s'))
  | 0, k, o, u, v, w, _ => .inl ⟨o, w, u, v, rfl⟩
  | m + 1, k, o, u, v, w, hk => by
    have st := step_turn hn hB (k := k) (by omega) a u v none
    have ih := fun u v => steps_loop hn hB a m (k + 1) (some (.fz (triD h n k))) u v (some (.fz (.int (k : Int)))) (by omega)
    rw [show List.range' k (m + 1) = k :: List.range' (k + 1) m from rfl, List.map_cons, MI.numbered, forL_cons2]
    generalize (List.range n).map (triD h n) = TR at *
    generalize triD h n k = TK at *
    generalize MI.numbered (k + 1) ((List.range' (k + 1) m).map (triD h n)) = NN at *
    generalize l__law_are_steps_right_1 = LL at *
    rcases st with e | ⟨_, e⟩
    · rcases ih (some (.fz (triD h n (k + 1)))) (some (.fz (.tuple ((trim (diffs (dn k h) 0 (n - k))).map .int)))) with ⟨o', w', u', v', e2⟩ | ⟨s', e2⟩
      · left
        refine ⟨o', w', u', v', ?_⟩
        rw [← e2]
        simp [e]
      · right
        refine ⟨s', ?_⟩
        rw [← e2]
        simp [e]
    · right
      exact ⟨_, by simp [e]; rfl⟩
theorem are_steps_right {ns : List Int} (h0 : 0 < ns.length) (hn : ns.length ≤ 20) (hB : ∀ a ∈ ns, a.natAbs ≤ 10 ^ 12) : m__law_are_steps_right [.fz (.tuple (ns.map .int))] = .ok (.fz (.bool true)) [none] := by
  obtain ⟨h, hh⟩ : ∃ h, h = fn ns := ⟨_, rfl⟩
  obtain ⟨n, hnn⟩ : ∃ n, n = ns.length := ⟨_, rfl⟩
  have hr : row h 0 n = ns := by rw [hh, hnn]; exact row_fn ns
  have hb : ∀ x, (h x).natAbs ≤ 10 ^ 12 := fun x => by rw [hh]; exact fn_bd hB x
  have e1 := triangle (h := h) (n := n) (by omega) (by omega)
  rw [hr] at e1
  have main := steps_loop (h := h) (n := n) (by omega) hb (some (.fz (.tuple (ns.map .int)))) n 0 none none none none (by omega)
  rw [← List.range_eq_range'] at main
  have ll := lcL_map (ow := [false, false, false, true, false, false, false, false]) (g := gN 3) (e := eAt 3 (eC (.int 0))) (s := [some (.fz (.tuple (ns.map .int))), some (.fz (.list ((List.range n).map (triD h n)))), none, none, none, none, none, none]) (fun k : Nat => PyData.int (dn k h 0)) (triD h n) (List.range n) [] (fun k hk => ⟨_, [some (.fz (.tuple (ns.map .int))), some (.fz (.list ((List.range n).map (triD h n)))), none, some (.fz (triD h n k)), none, none, none, none], rfl, by
    have hk := List.mem_range.mp hk
    have q := row_at (h := dn k h) (n := n - k) (i := 0) (by omega)
    have q : atI ((row (dn k h) 0 (n - k)).map PyData.int) 0 = some (.int (dn k h 0)) := q
    unfold triD
    simp [q], by simp⟩) (by rw [List.length_nil, Nat.zero_add, List.length_range]; exact size_ok (by omega))
  have ed : (List.range n).map (fun k : Nat => PyData.int (dn k h 0)) = (diffs h 0 n).map PyData.int := by unfold diffs; rw [List.map_map]; rfl
  rw [List.nil_append, ed] at ll
  have e0 : numD (.list ((List.range n).map (triD h n))) = some (MI.numbered 0 ((List.range n).map (triD h n))) := rfl
  generalize MI.numbered 0 ((List.range n).map (triD h n)) = NT at *
  generalize (List.range n).map (triD h n) = TR at *
  generalize (diffs h 0 n).map PyData.int = DI at *
  unfold m__law_are_steps_right b__law_are_steps_right
  rcases main with ⟨o', w', u', v', e⟩ | ⟨s', e⟩
  · simp [e1, ll, -numD_lst, e0, e]
  · simp [e1, ll, -numD_lst, e0, e]
end G_k79

set_option Elab.async false
set_option linter.all false
set_option autoImplicit false
set_option maxRecDepth 100000
set_option exponentiation.threshold 100000
namespace G_k79
open PySem PySem.Spec L2 MI NW
theorem numberB {o : OD} (hb : Bag o) {most : Int} (h0 : 9 ≤ most) : ∃ r o', m__law_number [o, .fz (.int most)] = .ok (.fz (.int r)) [some o', none] ∧ r.natAbs ≤ most.natAbs ∧ Bag o' := by
  obtain ⟨w, o1, e1, w0, w1, b1⟩ := drawS hb (below := 8) (by omega) (by omega)
  obtain ⟨f, o2, e2, f0, f1, b2⟩ := drawS b1 (below := 10) (by omega) (by omega)
  have step2 : ∀ (o : OD) (f : Int) (x : Option OD), Bag o → f.natAbs ≤ most.natAbs → ∃ r o', Out.fin [true, false] ((sSeq (sIf (kCmp gtI (eVar 2) (eC (.int 6))) (sAsg (eFrz (oOp2 subD (eVar 1) (eFrz (oCall [some 0, none] (aRef 0 (aCons (eC (.int 3)) aNil)) (noexF m__law_draw))))) (gN 3)) sNx)
      (sRet (oIf (kCmp eqD (eFrz (oCall [some 0, none] (aRef 0 (aCons (eC (.int 2)) aNil)) (noexF m__law_draw))) (eC (.int 0))) (oVar 3) (oOp1 negD (eVar 3))))) [some o, some (.fz (.int most)), some (.fz (.int w)), some (.fz (.int f)), x]) = .ok (.fz (.int r)) [some o', none] ∧ r.natAbs ≤ most.natAbs ∧ Bag o' := by
    intro o f x hb hf
    have step3 : ∀ (o : OD) (f : Int), Bag o → f.natAbs ≤ most.natAbs → ∃ r o', Out.fin [true, false] ((sRet (oIf (kCmp eqD (eFrz (oCall [some 0, none] (aRef 0 (aCons (eC (.int 2)) aNil)) (noexF m__law_draw))) (eC (.int 0))) (oVar 3) (oOp1 negD (eVar 3)))) [some o, some (.fz (.int most)), some (.fz (.int w)), some (.fz (.int f)), x]) = .ok (.fz (.int r)) [some o', none] ∧ r.natAbs ≤ most.natAbs ∧ Bag o' := by
      intro o f hb hf
      obtain ⟨z, o4, e4, z0, z1, b4⟩ := drawS hb (below := 2) (by omega) (by omega)
      by_cases hz : z = 0
      · exact ⟨f, o4, by simp [e4, hz], hf, b4⟩
      · exact ⟨-f, o4, by simp [e4, hz], by omega, b4⟩
    by_cases h6 : 6 < w
    · obtain ⟨z, o3, e3, z0, z1, b3⟩ := drawS hb (below := 3) (by omega) (by omega)
      obtain ⟨r, o', e, h1, h2⟩ := step3 o3 (most - z) b3 (by omega)
      refine ⟨r, o', ?_, h1, h2⟩
      rw [← e]
      simp [h6, e3]
    · obtain ⟨r, o', e, h1, h2⟩ := step3 o f hb hf
      refine ⟨r, o', ?_, h1, h2⟩
      rw [← e]
      simp [h6]
  unfold m__law_number b__law_number
  by_cases h2 : 2 < w
  · obtain ⟨z, o3, e3, z0, z1, b3⟩ := drawS b2 (below := 6) (by omega) (by omega)
    obtain ⟨g, o4, x', e4, b4, g0⟩ := number_loop b3 most w (1 + z).toNat (by omega)
    have hg0 := Int.emod_nonneg g (show most + 1 ≠ 0 by omega)
    have hg1 := Int.emod_lt_of_pos g (show 0 < most + 1 by omega)
    obtain ⟨r, o', e, q1, q2⟩ := step2 o4 (g % (most + 1)) x' b4 (by omega)
    refine ⟨r, o', ?_, q1, q2⟩
    rw [← e]
    simp [e1, e2, h2, e3, show (-4611686018427387904 ≤ 1 + z ∧ 1 + z < 4611686018427387904) by omega, e4, show 0 < most + 1 by omega]
  · obtain ⟨r, o', e, q1, q2⟩ := step2 o2 f none b2 (by omega)
    refine ⟨r, o', ?_, q1, q2⟩
    rw [← e]
    simp [e1, e2, h2]
/-- a comprehension that keeps an invariant -/
theorem lcL_inv {ow : List Bool} {g : GF} {e : EF} (I : S → Prop) (P : D → Prop) : ∀ (ds acc : List D) (s : S), I s → acc.length + ds.length ≤ sizeLine → (∀ d ∈ ds, ∀ s, I s → ∃ s1 y s3, g d s = some s1 ∧ e s1 = .ok y s3 ∧ P y ∧ I (wipeF ow s3)) →
    ∃ ys s', lcL ow g kYes e ds acc s = .ok (acc ++ ys) s' ∧ I s' ∧ ys.length = ds.length ∧ ∀ y ∈ ys, P y
  | [], acc, s, h, _, _ => ⟨[], s, by simp, h, rfl, by simp⟩
  | d :: ds, acc, s, h, hl, st => by
    obtain ⟨s1, y, s3, h1, h2, h3, h4⟩ := st d (by simp) s h
    simp only [List.length_cons] at hl
    obtain ⟨ys, s', e', i', l', p'⟩ := lcL_inv I P ds (acc ++ [y]) (wipeF ow s3) h4 (by simp; omega) (fun d hd => st d (by simp [hd]))
    refine ⟨y :: ys, s', ?_, i', by simp [l'], by simpa using ⟨h3, p'⟩⟩
    rw [lcL_cons, h1]
    simp only [ev_kYes, Res.noex_ok, Res.bind_ok, if_true, h2]
    rw [if_pos (by omega), e']
    simp
theorem bounded {ds : List D} {B : Nat} (h : ∀ d ∈ ds, ∃ n : Int, d = .int n ∧ n.natAbs ≤ B) : ∃ ns : List Int, ds = ns.map PyData.int ∧ ∀ a ∈ ns, a.natAbs ≤ B := by
  induction ds with
  | nil => exact ⟨[], rfl, by simp⟩
  | cons d ds ih =>
    obtain ⟨n, rfl, hn⟩ := h d (by simp)
    obtain ⟨ns, rfl, hs⟩ := ih fun d hd => h d (by simp [hd])
    exact ⟨n :: ns, rfl, fun a ha => by rcases List.mem_cons.mp ha with rfl | ha; exact hn; exact hs a ha⟩
theorem ixneg {n : Nat} (h : 0 < n) : ixN n (-1) = some (n - 1) := by
  unfold ixN
  rw [if_neg (by omega), if_pos (by omega)]
  congr 1
  omega
theorem ixpos {n j : Nat} {J : Int} (e : J = j) (h : j < n) : ixN n J = some j := by
  unfold ixN
  rw [e, if_pos (by omega), if_pos (by omega)]
  simp
/-- row of numbers -/
theorem numbers {o : OD} (hb : Bag o) {most : Int} (h0 : 0 ≤ most) (n : Nat) (hn : n ≤ 1000) (m : Option OD) {e : EF} (he : ∀ o k, Bag o → ∃ r o', e [some o, some (.fz (.int most)), m, none, some (.fz k)] = .ok (.int r) [some o', some (.fz (.int most)), m, none, some (.fz k)] ∧ r.natAbs ≤ most.natAbs + 9 ∧ Bag o') :
    ∃ (ns : List Int) (o' : OD), lcL [false, false, false, false, true] (gN 4) kYes e (upto 0 n) [] [some o, some (.fz (.int most)), m, none, none] = .ok (ns.map .int) [some o', some (.fz (.int most)), m, none, none] ∧ ns.length = n ∧ (∀ a ∈ ns, a.natAbs ≤ most.natAbs + 9) ∧ Bag o' := by
  obtain ⟨ys, s', e', ⟨o', rfl, b'⟩, hl, hp⟩ := lcL_inv (ow := [false, false, false, false, true]) (g := gN 4) (e := e) (fun s => ∃ o, s = [some o, some (.fz (.int most)), m, none, none] ∧ Bag o) (fun d => ∃ n : Int, d = .int n ∧ n.natAbs ≤ most.natAbs + 9)
    (upto 0 n) [] [some o, some (.fz (.int most)), m, none, none] ⟨o, rfl, hb⟩ (by refine size_ok ?_; simp; omega) (by
      rintro d _ s ⟨o, rfl, hb⟩
      obtain ⟨r, o', e1, h1, b1⟩ := he o d hb
      exact ⟨_, _, _, rfl, e1, ⟨r, rfl, h1⟩, o', rfl, b1⟩)
  obtain ⟨ns, rfl, hb2⟩ := bounded hp
  exact ⟨ns, o', by simpa using e', by simpa using hl, hb2, b'⟩
theorem zero_loop {most : Int} {n : Nat} (hn : 0 < n) (hn2 : n ≤ 1000) {B : Nat} : ∀ (ds : List D) (o : OD) (L : List Int) (x : Option OD), Bag o → L.length = n → (∀ a ∈ L, a.natAbs ≤ B) →
    ∃ (o' : OD) (L' : List Int) (x' : Option OD), forL (gN 4) l__law_fall_1 ds [some o, some (.fz (.int most)), some (.fz (.int n)), some (.ol (L.map .int)), x] = .nx [some o', some (.fz (.int most)), some (.fz (.int n)), some (.ol (List.map PyData.int L')), x'] ∧ Bag o' ∧ L'.length = n ∧ ∀ a ∈ L', a.natAbs ≤ B
  | [], o, L, x, hb, hl, hB => ⟨o, L, x, rfl, hb, hl, hB⟩
  | d :: ds, o, L, x, hb, hl, hB => by
    obtain ⟨r, o1, e1, r0, r1, b1⟩ := drawS hb (below := n) (by omega) (by omega)
    obtain ⟨r, rfl⟩ := Int.eq_ofNat_of_zero_le r0
    obtain ⟨o', L', x', e, h1, h2, h3⟩ := zero_loop hn hn2 ds o1 (L.set r 0) (some (.fz d)) b1 (by simp [hl]) (fun a ha => by
      rcases List.mem_or_eq_of_mem_set ha with h | h
      · exact hB a h
      · subst h; simp)
    refine ⟨o', L', x', ?_, h1, h2, h3⟩
    rw [← e, forL_cons]
    simp [l__law_fall_1, e1, hl, ixpos (n := n) (j := r) rfl (by omega)]
theorem okf_of {L : List Int} {B : Nat} (hB : B < 2 ^ 100) (h1 : L.length ≤ 20) (h2 : ∀ a ∈ L, a.natAbs ≤ B) (h3 : Fit L) : Okf L := ⟨h1, fun a ha => Nat.lt_of_le_of_lt (h2 a ha) hB, h3⟩
theorem law_fall {o : OD} (hb : Bag o) {most : Int} (h0 : 0 < most) (hm : most ≤ 10 ^ 30) : ∃ (f : List Int) (o' : OD), m__law_fall [o, .fz (.int most)] = .ok (.fz (.tuple (f.map .int))) [some o', none] ∧ f.length ≤ 20 ∧ (∀ a ∈ f, a.natAbs ≤ most.natAbs + 9) ∧ Fit f ∧ Bag o' := by
  obtain ⟨a, o1, e1, a0, a1, b1⟩ := drawS hb (below := 21) (by omega) (by omega)
  obtain ⟨b, o2, e2, c0, c1, b2⟩ := drawS b1 (below := 21) (by omega) (by omega)
  obtain ⟨d, o3, e3, hd, b3⟩ := pick b2 (ds := [.int 0, .int 1, .int 2, .int 19, .int 20, .int 20, .int a, .int b]) (by simp) (by simp)
  obtain ⟨n, rfl, hn⟩ : ∃ n : Nat, d = .int n ∧ n ≤ 20 := by
    simp at hd
    rcases hd with rfl | rfl | rfl | rfl | rfl | rfl | rfl
    · exact ⟨0, rfl, by omega⟩
    · exact ⟨1, rfl, by omega⟩
    · exact ⟨2, rfl, by omega⟩
    · exact ⟨19, rfl, by omega⟩
    · exact ⟨20, rfl, by omega⟩
    · exact ⟨a.toNat, by rw [Int.toNat_of_nonneg a0], by omega⟩
    · exact ⟨b.toNat, by rw [Int.toNat_of_nonneg c0], by omega⟩
  obtain ⟨ns, o4, e4, hl, hB, b4⟩ := numbers b3 (most := most) (by omega) n (by omega) (some (.fz (.int n))) (e := eFrz (oCall [some 0, none] (aRef 0 (aCons (eVar 1) aNil)) (noexF m__law_number))) (fun o k hb => by
    obtain ⟨r, o', e, h1, b'⟩ := number hb (most := most) (by omega)
    exact ⟨r, o', by simp [e], h1, b'⟩)
  obtain ⟨c, o5, e5, c0, c1, b5⟩ := drawS b4 (below := (n : Int) + 1) (by omega) (by omega)
  obtain ⟨c, rfl⟩ := Int.eq_ofNat_of_zero_le c0
  have e2c : fdivD (.int (c : Int)) (.int 2) = some (.fz (.int ((c : Int) / 2))) := fdiv_ok 10 (by omega) (by omega)
  unfold m__law_fall b__law_fall
  by_cases hn0 : n = 0
  · subst hn0
    have : c = 0 := by omega
    subst this
    have hns : ns = [] := List.eq_nil_of_length_eq_zero hl
    subst hns
    refine ⟨[], o5, ?_, by simp, by simp, fun h => (h rfl).elim, b5⟩
    simp only [Int.natCast_zero] at e3 e4 e5 e2c
    rw [show (0 : Int) + 1 = 1 from rfl] at e5
    rw [show (0 : Int) / 2 = 0 from rfl] at e2c
    have hu : upto 0 0 = [] := rfl
    rw [hu] at e4
    simp [e1, e2, e3, rg_nat (n := 0) 0 rfl (by omega), -k_Rg1, e4, e5, -fdivD_int, e2c, hu]
  · obtain ⟨o6, L, x', e6, b6, hl6, hB6⟩ := zero_loop (most := most) (n := n) (by omega) (by omega) (upto 0 (c / 2)) o5 ns none b5 hl hB
    rcases List.eq_nil_or_concat L with rfl | ⟨ms, a, rfl⟩
    · simp at hl6; omega
    rw [List.concat_eq_append] at hl6 hB6 e6
    have el := neg1 (ns := ms) (a := a)
    have hms : ms.length + 1 = n := by simpa using hl6
    by_cases hz : a = 0
    · obtain ⟨d, o7, e7, hd, b7⟩ := pick b6 (ds := [.int 1, .int (-1), .int most, .int (-most)]) (by simp) (by simp)
      obtain ⟨r, rfl, hr, hr0⟩ : ∃ r : Int, d = .int r ∧ r.natAbs ≤ most.natAbs + 9 ∧ r ≠ 0 := by
        simp at hd
        rcases hd with rfl | rfl | rfl | rfl
        · exact ⟨1, rfl, by omega, by omega⟩
        · exact ⟨-1, rfl, by omega, by omega⟩
        · exact ⟨most, rfl, by omega, by omega⟩
        · exact ⟨-most, rfl, by omega, by omega⟩
      refine ⟨ms ++ [r], o7, ?_, by simp; omega, fun q hq => ?_, fun _ => by rw [List.getLast_append_of_ne_nil _ (by simp)]; simpa using hr0, b7⟩
      · subst hz
        have hix : ixN (ms.length + 1) (-1) = some ms.length := by rw [ixneg (by omega)]; rfl
        simp at el e6
        simp [e1, e2, e3, rg_nat n rfl (by omega), rg_nat (n := (c : Int) / 2) (c / 2) (by omega) (by omega), -k_Rg1, e4, e5, -fdivD_int, e2c, e6, show 0 < n by omega, el, e7, hix]
      · rcases List.mem_append.mp hq with h | h
        · exact hB6 q (by simp [h])
        · have : q = r := by simpa using h
          rw [this]; exact hr
    · refine ⟨ms ++ [a], o6, ?_, by simp; omega, hB6, fun _ => by rw [List.getLast_append_of_ne_nil _ (by simp)]; simpa using hz, b6⟩
      simp at el e6
      simp [e1, e2, e3, rg_nat n rfl (by omega), rg_nat (n := (c : Int) / 2) (c / 2) (by omega) (by omega), -k_Rg1, e4, e5, -fdivD_int, e2c, e6, show 0 < n by omega, el, hz]
theorem twin {o : OD} (hb : Bag o) {f : List Int} {most : Int} (h0 : 0 ≤ most) (hm : most ≤ 10 ^ 30) (hl : f.length ≤ 20) (hB : ∀ a ∈ f, a.natAbs ≤ most.natAbs + 9) (hf : Fit f) : ∃ (g : List Int) (o' : OD), m__law_twin [o, .fz (.tuple (f.map .int)), .fz (.int most)] = .ok (.fz (.tuple (g.map .int))) [some o', none, none] ∧ Okf g ∧ Bag o' := by
  have eq := eqD_tup f []
  simp only [List.map_nil] at eq
  unfold m__law_twin b__law_twin
  by_cases hn : f = []
  · subst hn
    simp at eq
    exact ⟨[1], o, by simp [eq], ⟨by simp, by simp, fun _ => by simp⟩, hb⟩
  · simp [hn] at eq
    have hp := List.length_pos_iff.mpr hn
    obtain ⟨r, o1, e1, r0, r1, b1⟩ := drawS hb (below := f.length) (by omega) (by omega)
    obtain ⟨r, rfl⟩ := Int.eq_ofNat_of_zero_le r0
    have hr : r < f.length := by omega
    have ea := atI_list hr
    obtain ⟨v, hv⟩ : ∃ v, v = if at0 f r < most then at0 f r + 1 else at0 f r - 1 := ⟨_, rfl⟩
    have hb0 : (at0 f r).natAbs ≤ most.natAbs + 9 := by
      unfold at0
      rw [List.getD_eq_getElem?_getD, List.getElem?_eq_getElem hr]
      exact hB _ (List.getElem_mem _)
    have hvb : v.natAbs ≤ most.natAbs + 10 := by rw [hv]; split <;> omega
    have hix := ixpos (n := f.length) (j := r) rfl hr
    have hsb : ∀ a ∈ f.set r v, a.natAbs ≤ most.natAbs + 10 := fun a ha => by
      rcases List.mem_or_eq_of_mem_set ha with h | h
      · exact Nat.le_succ_of_le (hB a h)
      · rw [h]; exact hvb
    generalize hg : f.set r v = g at hsb
    have hlg : g.length = f.length := by rw [← hg]; simp
    have hg2 : (f.map PyData.int).set r (.int v) = g.map PyData.int := by rw [← hg, List.map_set]
    rcases List.eq_nil_or_concat g with rfl | ⟨ms, a, rfl⟩
    · simp at hlg; omega
    rw [List.concat_eq_append] at hsb hlg hg2
    have el := neg1 (ns := ms) (a := a)
    have hms : ms.length + 1 = f.length := by simpa using hlg
    have hix2 : ixN (ms.length + 1) (-1) = some ms.length := by rw [ixneg (by omega)]; rfl
    have hB2 : most.natAbs + 10 < 2 ^ 100 := by omega
    by_cases hz : a = 0
    · refine ⟨ms ++ [2], o1, ?_, okf_of (B := most.natAbs + 10) hB2 (by simp; omega) (fun q hq => ?_) (fun _ => by rw [List.getLast_append_of_ne_nil _ (by simp)]; simp), b1⟩
      · subst hz
        simp at el hg2
        by_cases hlt : at0 f r < most
        · simp only [hlt, if_true] at hv
          simp [eq, e1, ea, hlt, ← hv, hix, hg2, el, hix2]
        · simp only [hlt, if_false] at hv
          simp [eq, e1, ea, hlt, ← hv, hix, hg2, el, hix2]
      · rcases List.mem_append.mp hq with h | h
        · exact hsb q (by simp [h])
        · have : q = 2 := by simpa using h
          rw [this]; omega
    · refine ⟨ms ++ [a], o1, ?_, okf_of (B := most.natAbs + 10) hB2 (by simp; omega) hsb (fun _ => by rw [List.getLast_append_of_ne_nil _ (by simp)]; simpa using hz), b1⟩
      simp at el hg2
      by_cases hlt : at0 f r < most
      · simp only [hlt, if_true] at hv
        simp [eq, e1, ea, hlt, ← hv, hix, hg2, el, hz]
      · simp only [hlt, if_false] at hv
        simp [eq, e1, ea, hlt, ← hv, hix, hg2, el, hz]
end G_k79

set_option Elab.async false
set_option linter.all false
set_option autoImplicit false
set_option maxRecDepth 100000
set_option exponentiation.threshold 100000
namespace G_k79
open PySem PySem.Spec L2 MI NW
theorem seq_fin {rf : List Bool} {f h : SF} {s s' : S} {r : Res OD} (e : f s = .nx s') (e2 : Out.fin rf (h s') = r) : Out.fin rf (sSeq f h s) = r := by
  rw [ev_sSeq, e]
  exact e2
/-- a step row -/
structure Rw (ns : List Int) : Prop where
  pos : 0 < ns.length
  len : ns.length ≤ 20
  bd : ∀ a ∈ ns, a.natAbs ≤ 10 ^ 12
theorem cp12 : CPowW 10 12 := by decide +kernel
theorem any_row {o : OD} (hb : Bag o) : ∃ (ns : List Int) (o' : OD), m__law_any_row [o] = .ok (.fz (.tuple (ns.map .int))) [some o'] ∧ Rw ns ∧ Bag o' := by
  obtain ⟨a, o1, e1, a0, a1, b1⟩ := drawS hb (below := 20) (by omega) (by omega)
  obtain ⟨b, o2, e2, c0, c1, b2⟩ := drawS b1 (below := 20) (by omega) (by omega)
  obtain ⟨d, o3, e3, hd, b3⟩ := pick b2 (ds := [.int 1, .int 2, .int 3, .int 20, .int 20, .int (1 + a), .int (1 + b)]) (by simp) (by simp)
  obtain ⟨n, rfl, hn0, hn⟩ : ∃ n : Nat, d = .int n ∧ 0 < n ∧ n ≤ 20 := by
    simp at hd
    rcases hd with rfl | rfl | rfl | rfl | rfl | rfl
    · exact ⟨1, rfl, by omega, by omega⟩
    · exact ⟨2, rfl, by omega, by omega⟩
    · exact ⟨3, rfl, by omega, by omega⟩
    · exact ⟨20, rfl, by omega, by omega⟩
    · exact ⟨(1 + a).toNat, by rw [Int.toNat_of_nonneg (by omega)], by omega, by omega⟩
    · exact ⟨(1 + b).toNat, by rw [Int.toNat_of_nonneg (by omega)], by omega, by omega⟩
  obtain ⟨ys, s', e4, ⟨o4, rfl, b4⟩, ly, py⟩ := lcL_inv (ow := [false, false, true]) (g := gN 2) (e := eFrz (oCall [some 0, none] (aRef 0 (aCons (eFrz (oOp2 powD (eC (.int 10)) (eC (.int 12)))) aNil)) (noexF m__law_number)))
    (fun s => ∃ o, s = [some o, some (.fz (.int (n : Int))), none] ∧ Bag o) (fun d => ∃ n : Int, d = .int n ∧ n.natAbs ≤ 10 ^ 12) (upto 0 n) [] [some o3, some (.fz (.int (n : Int))), none] ⟨o3, rfl, b3⟩ (by rw [List.length_nil, Nat.zero_add, upto_length]; exact size_ok (by omega)) (by
      rintro d _ s ⟨o, rfl, hb⟩
      obtain ⟨q, o', e, hq, b'⟩ := numberB hb (most := 1000000000000) (by decide)
      refine ⟨_, .int q, [some o', some (.fz (.int (n : Int))), some (.fz d)], rfl, ?_, ⟨q, rfl, hq⟩, o', rfl, b'⟩
      simp [cp12, e])
  obtain ⟨ns, rfl, hns⟩ := bounded py
  rw [upto_length, List.length_map] at ly
  refine ⟨ns, o4, ?_, ⟨by omega, by omega, hns⟩, b4⟩
  simp at e3 e4
  unfold m__law_any_row b__law_any_row
  simp [e1, e2, e3, rg_nat n rfl (by omega), -k_Rg1, e4]
theorem twin_row {o : OD} (hb : Bag o) {ns : List Int} (h : Rw ns) : ∃ (ms : List Int) (o' : OD), m__law_twin_row [o, .fz (.tuple (ns.map .int))] = .ok (.fz (.tuple (ms.map .int))) [some o', none] ∧ Rw ms ∧ Bag o' := by
  have h1 := h.pos
  have h2 := h.len
  obtain ⟨r, o1, e1, r0, r1, b1⟩ := drawS hb (below := (ns.length : Int)) (by omega) (by omega)
  obtain ⟨r, rfl⟩ := Int.eq_ofNat_of_zero_le r0
  have hr : r < ns.length := by omega
  have ea := atI_list hr
  have hix := ixpos (n := ns.length) (j := r) rfl hr
  have hb0 : (at0 ns r).natAbs ≤ 10 ^ 12 := by
    unfold at0
    rw [List.getD_eq_getElem?_getD, List.getElem?_eq_getElem hr]
    exact h.bd _ (List.getElem_mem _)
  refine ⟨ns.set r (if at0 ns r < 1000000000000 then at0 ns r + 1 else at0 ns r - 1), o1, ?_, ⟨by simpa using h1, by simpa using h2, fun a ha => ?_⟩, b1⟩
  · unfold m__law_twin_row b__law_twin_row
    by_cases hlt : at0 ns r < 1000000000000
    · simp [e1, ea, hlt, hix, cp12, List.map_set]
    · simp [e1, ea, hlt, hix, cp12, List.map_set]
  · rcases List.mem_or_eq_of_mem_set ha with h3 | h3
    · exact h.bd _ h3
    · rw [h3]; split <;> omega
theorem ff_19 (x : Nat) (hx : x ≤ 19) : ∀ i : Nat, i ≤ 19 → (ff (x : Int) i).natAbs ≤ 19 ^ i
  | 0, _ => by simp [ff]
  | i + 1, hi => by
    rw [ff, Int.natAbs_mul, Nat.pow_succ]
    exact Nat.mul_le_mul (ff_19 x hx i (by omega)) (by omega)
theorem val_19 (x : Nat) (hx : x ≤ 19) : ∀ (f : List Int) (k : Nat), k + f.length ≤ 6 → (∀ a ∈ f, a.natAbs ≤ 99) → (val f k (x : Int)).natAbs ≤ f.length * (99 * 19 ^ 5)
  | [], _, _, _ => by simp [val]
  | a :: f, k, hl, hf => by
    rw [List.length_cons] at hl
    have h1 := val_19 x hx f (k + 1) (by omega) fun b hb => hf b (by simp [hb])
    have h2 := hf a (by simp)
    have h3 := Nat.le_trans (bc_le (x : Int) k) (ff_19 x hx k (by omega))
    have h4 : 19 ^ k ≤ 19 ^ 5 := Nat.pow_le_pow_right (by decide) (by omega)
    rw [val, List.length_cons, Nat.succ_mul]
    have h5 := Int.natAbs_add_le (a * bc (x : Int) k) (val f (k + 1) (x : Int))
    have h6 : (a * bc (x : Int) k).natAbs ≤ 99 * 19 ^ 5 := by
      rw [Int.natAbs_mul]
      exact Nat.mul_le_mul h2 (Nat.le_trans h3 h4)
    omega
theorem law_rows {o : OD} (hb : Bag o) : ∃ (r1 r2 r3 r4 r5 : List Int) (o' : OD), m__law_rows [o] = .ok (.ol [.tuple (r1.map .int), .tuple (r2.map .int), .tuple (r3.map .int), .tuple (r4.map .int), .tuple (r5.map .int)]) [some o'] ∧ Rw r1 ∧ Rw r2 ∧ Rw r3 ∧ Rw r4 ∧ Rw r5 ∧ Bag o' := by
  obtain ⟨r1, o1, e1, h1, b1⟩ := any_row hb
  obtain ⟨q, o2, e2, q0, q1, b2⟩ := drawS b1 (below := 7) (by omega) (by omega)
  obtain ⟨q, rfl⟩ := Int.eq_ofNat_of_zero_le q0
  obtain ⟨a1, ha1⟩ : ∃ a : Option OD, a = some (.fz (.tuple (r1.map .int))) := ⟨_, rfl⟩
  obtain ⟨ys, s', e3, ⟨o3, rfl, b3⟩, ly, py⟩ := lcL_inv (ow := [false, false, false, true, false, false, false, false]) (g := gN 3) (e := eFrz (oOp2 subD (eFrz (oCall [some 0, none] (aRef 0 (aCons (eC (.int 199)) aNil)) (noexF m__law_draw))) (eC (.int 99))))
    (fun s => ∃ o, s = [some o, a1, none, none, none, none, none, none] ∧ Bag o) (fun d => ∃ n : Int, d = .int n ∧ n.natAbs ≤ 99) (upto 0 q) [] [some o2, a1, none, none, none, none, none, none] ⟨o2, rfl, b2⟩ (by rw [List.length_nil, Nat.zero_add, upto_length]; exact size_ok (by omega)) (by
      rintro d _ s ⟨o, rfl, hb⟩
      obtain ⟨q, o', e, h0, h1, b'⟩ := drawS hb (below := 199) (by omega) (by omega)
      refine ⟨_, .int (q - 99), [some o', a1, none, some (.fz d), none, none, none, none], rfl, ?_, ⟨q - 99, rfl, by omega⟩, o', rfl, b'⟩
      simp [e])
  obtain ⟨f, rfl, hf⟩ := bounded py
  rw [upto_length, List.length_map] at ly
  obtain ⟨m, o4, e4, m0, m1, b4⟩ := drawS b3 (below := 20) (by omega) (by omega)
  obtain ⟨m, rfl⟩ := Int.eq_ofNat_of_zero_le m0
  have e5 := (own_row (f := f) (n := 1 + m) (by omega) (by omega)).2
  obtain ⟨r3, hr3⟩ : ∃ r3, r3 = row (val f 0) 0 (1 + m) := ⟨_, rfl⟩
  rw [← hr3] at e5
  have h3 : Rw r3 := ⟨by rw [hr3, row_length]; omega, by rw [hr3, row_length]; omega, fun a ha => by
    rw [hr3] at ha
    obtain ⟨i, hi, rfl⟩ := List.mem_map.mp ha
    have hi := List.mem_range.mp hi
    rw [Int.zero_add]
    have := val_19 i (by omega) f 0 (by omega) hf
    have h2 : f.length * (99 * 19 ^ 5) ≤ 6 * (99 * 19 ^ 5) := Nat.mul_le_mul_right _ (by omega)
    have h3 : 6 * (99 * 19 ^ 5) ≤ 10 ^ 12 := by decide
    omega⟩
  obtain ⟨l, o5, e6, l0, l1, b5⟩ := drawS b4 (below := 20) (by omega) (by omega)
  obtain ⟨l, rfl⟩ := Int.eq_ofNat_of_zero_le l0
  obtain ⟨z, hz⟩ : ∃ z : List Int, z = (List.range (1 + l)).map fun _ => (0 : Int) := ⟨_, rfl⟩
  have hzl : z.length = 1 + l := by rw [hz]; simp
  have zeros : ∀ n : Nat, (List.replicate n [PyData.int 0]).flatten = ((List.range n).map fun _ => (0 : Int)).map PyData.int := fun n => by
    induction n with
    | zero => rfl
    | succ n ih => rw [List.replicate_succ, List.flatten_cons, ih, List.range_succ_eq_map]; simp
  have e7 : mulD (.list [.int 0]) (.int (1 + (l : Int))) = some (.ol (z.map PyData.int)) := by
    rw [mulD_list, if_pos ⟨by omega, by omega, by rw [show (1 + (l : Int)).toNat = 1 + l by omega]; refine size_ok ?_; simp; omega⟩, show (1 + (l : Int)).toNat = 1 + l by omega, zeros, hz]
  obtain ⟨c, o6, e8, hc, b6⟩ := numberB b5 (most := 1000000000000) (by decide)
  obtain ⟨p, o7, e9, p0, p1, b7⟩ := drawS b6 (below := ((1 + l : Nat) : Int)) (by omega) (by omega)
  obtain ⟨p, rfl⟩ := Int.eq_ofNat_of_zero_le p0
  have hix := ixpos (n := 1 + l) (j := p) rfl (by omega)
  have h4 : Rw (z.set p c) := ⟨by rw [List.length_set]; omega, by rw [List.length_set]; omega, fun a ha => by
    rcases List.mem_or_eq_of_mem_set ha with h | h
    · rw [hz] at h
      obtain ⟨_, _, rfl⟩ := List.mem_map.mp h
      simp
    · rw [h]; exact hc⟩
  obtain ⟨d, o8, e10, hd, b8⟩ := pick b7 (ds := [.int 1, .int (-1)]) (by simp) (by simp)
  obtain ⟨sg, rfl, hsg⟩ : ∃ sg : Int, d = .int sg ∧ (sg = 1 ∨ sg = -1) := by
    simp at hd
    rcases hd with rfl | rfl
    · exact ⟨1, rfl, .inl rfl⟩
    · exact ⟨-1, rfl, .inr rfl⟩
  obtain ⟨r5, hr5⟩ : ∃ r5 : List Int, r5 = (List.range 20).map fun k : Nat => 1000000000000 * sg * (if (k : Int) % 2 = 0 then 1 else -1) := ⟨_, rfl⟩
  have h5 : Rw r5 := ⟨by rw [hr5]; simp, by rw [hr5]; simp, fun a ha => by
    rw [hr5] at ha
    obtain ⟨k, _, rfl⟩ := List.mem_map.mp ha
    rcases hsg with rfl | rfl <;> split <;> decide⟩
  obtain ⟨r2, o9, e11, h2, b9⟩ := twin_row b8 h1
  refine ⟨r1, r2, r3, z.set p c, r5, o9, ?_, h1, h2, h3, h4, h5, b9⟩
  have ls : ∀ s0 s2 s4 s5, lcL [false, false, false, true, false, false, false, false] (gN 3) kYes (eFrz (oOp2 mulD (eFrz (oOp2 mulD (eFrz (oOp2 powD (eC (.int 10)) (eC (.int 12)))) (eVar 6))) (eIf (kCmp eqD (eFrz (oOp2 modD (eVar 3) (eC (.int 2)))) (eC (.int 0))) (eC (.int 1)) (eFrz (oOp1 negD (eC (.int 1))))))) (upto 0 20) [] [s0, a1, s2, none, s4, s5, some (.fz (.int sg)), none] = .ok (r5.map .int) [s0, a1, s2, none, s4, s5, some (.fz (.int sg)), none] := fun s0 s2 s4 s5 => by
    have eu : upto 0 20 = (List.range 20).map fun k : Nat => PyData.int (k : Int) := by simp [upto]
    rw [eu, lcL_map (fun k : Nat => PyData.int (1000000000000 * sg * (if (k : Int) % 2 = 0 then 1 else -1))) (fun k : Nat => PyData.int (k : Int)) _ [] (fun k hk => ⟨_, [s0, a1, s2, some (.fz (.int (k : Int))), s4, s5, some (.fz (.int sg)), none], rfl, by
      have l1 := mul_ok (x := 1000000000000) (y := sg) 64 64 (by decide) (by rcases hsg with rfl | rfl <;> decide)
      by_cases hk2 : (k : Int) % 2 = 0
      · have l2 := mul_ok (x := 1000000000000 * sg) (y := 1) 64 64 (by rcases hsg with rfl | rfl <;> decide) (by decide)
        simp [cp12, l1, hk2, l2]
      · have l2 := mul_ok (x := 1000000000000 * sg) (y := -1) 64 64 (by rcases hsg with rfl | rfl <;> decide) (by decide)
        simp [cp12, l1, hk2, l2], by simp⟩) (by rw [List.length_nil, Nat.zero_add, List.length_range]; exact size_ok (by omega))]
    rw [hr5, List.map_map, List.nil_append]; rfl
  show Out.fin [true] (b__law_rows [some o, none, none, none, none, none, none, none]) = _
  unfold b__law_rows
  refine seq_fin (s' := [some o1, a1, none, none, none, none, none, none]) (by simp [e1, ha1]) ?_
  refine seq_fin (s' := [some o3, a1, some (.fz (.list (f.map .int))), none, none, none, none, none]) (by
    simp at e3
    simp [e2, rg_nat q rfl (by omega), -k_Rg1, e3]) ?_
  refine seq_fin (s' := [some o4, a1, some (.fz (.list (f.map .int))), none, some (.fz (.tuple (r3.map .int))), none, none, none]) (by
    rw [Int.natCast_add, Int.natCast_one] at e5
    simp [e4, e5]) ?_
  refine seq_fin (s' := [some o5, a1, some (.fz (.list (f.map .int))), none, some (.fz (.tuple (r3.map .int))), some (.ol (z.map .int)), none, none]) (by
    simp [e6, -mulD_list, e7]) ?_
  refine seq_fin (s' := [some o7, a1, some (.fz (.list (f.map .int))), none, some (.fz (.tuple (r3.map .int))), some (.ol ((z.set p c).map .int)), none, none]) (by
    rw [Int.natCast_add, Int.natCast_one] at e9
    simp [cp12, e8, hzl, e9, hix, List.map_set]) ?_
  refine seq_fin (s' := [some o8, a1, some (.fz (.list (f.map .int))), none, some (.fz (.tuple (r3.map .int))), some (.ol ((z.set p c).map .int)), some (.fz (.int sg)), none]) (by
    simp [e10]) ?_
  refine seq_fin (s' := [some o8, a1, some (.fz (.list (f.map .int))), none, some (.fz (.tuple (r3.map .int))), some (.ol ((z.set p c).map .int)), some (.fz (.int sg)), some (.fz (.list (r5.map .int)))]) (by
    simp [rg_nat (n := 20) 20 rfl (by omega), -k_Rg1, ls]) ?_
  subst ha1
  simp [e11, -List.map_set]
end G_k79

set_option Elab.async false
set_option linter.all false
set_option autoImplicit false
set_option maxRecDepth 100000
set_option exponentiation.threshold 100000
namespace G_k79
open PySem PySem.Spec L2 MI NW
theorem cut_mem (ds : List D) (lo hi : Option Int) : (∀ d ∈ cutD ds lo hi, d ∈ ds) ∧ (cutD ds lo hi).length ≤ ds.length := by
  obtain ⟨a, b, e⟩ := cut_map id ds lo hi
  rw [List.map_id, List.map_id] at e
  rw [e]
  refine ⟨fun d hd => List.mem_of_mem_drop (List.mem_of_mem_take hd), ?_⟩
  simp; omega
theorem spoilt {ds : List D} (hl : ds.length ≤ 1000) {at' : Int} (h0 : 0 ≤ at') (h1 : at' ≤ 1000) (odd : D) : ∃ es, m__law_spoilt [.fz (.tuple ds), .fz (.int at'), .fz odd] = .ok (.fz (.tuple es)) [none, none, none] ∧ (∀ e ∈ es, e ∈ ds ∨ e = odd) ∧ es.length ≤ 2 * ds.length + 1 := by
  obtain ⟨a1, a2⟩ := cut_mem ds none (some at')
  obtain ⟨b1, b2⟩ := cut_mem ds (some (at' + 1)) none
  obtain ⟨A, hA⟩ : ∃ A, A = cutD ds none (some at') := ⟨_, rfl⟩
  obtain ⟨B, hB⟩ : ∃ B, B = cutD ds (some (at' + 1)) none := ⟨_, rfl⟩
  rw [← hA] at a1 a2
  rw [← hB] at b1 b2
  refine ⟨A ++ ([odd] ++ B), ?_, fun e he => ?_, by simp; omega⟩
  · unfold m__law_spoilt b__law_spoilt
    have s1 : A.length + 1 ≤ sizeLine := size_ok (by omega)
    have s2 : A.length + 1 + B.length ≤ sizeLine := size_ok (by omega)
    simp [← hA, ← hB, s1, s2]
  · rcases List.mem_append.mp he with h | h
    · exact .inl (a1 e h)
    · rcases List.mem_append.mp h with h | h
      · exact .inr (by simpa using h)
      · exact .inl (b1 e h)
theorem odd_ones : ∃ od, m__law_odd_ones [] = .ok (.ol od) [] ∧ od.length = 14 ∧ ∀ d ∈ od, Sml d 1 1 := by
  have c1 : CPowW 10 57 := by decide +kernel
  have c2 : CPowW (10 ^ 57) 7 := by decide +kernel
  have c3 : CPowW 10 24 := by decide +kernel
  refine ⟨[.bool true, .bool false, .none, .str "", .str "7", .tuple [], .tuple [.int 1], .list [], .list [.int 3], .dict [], .int (10 ^ 12 + 1), .int (-(10 ^ 12 + 1)), .int ((10 ^ 57) ^ 7), .int (-(10 ^ 24))], ?_, rfl, fun d hd => ?_⟩
  · unfold m__law_odd_ones b__law_odd_ones
    simp at c2
    simp [cp12, c1, c2, c3]
  · simp only [List.mem_cons, List.not_mem_nil, or_false] at hd
    rcases hd with rfl | rfl | rfl | rfl | rfl | rfl | rfl | rfl | rfl | rfl | rfl | rfl | rfl | rfl
    · exact sml_bool _ _ _
    · exact sml_bool _ _ _
    · exact sml_none _ _
    · exact sml_str (by decide +kernel) (by decide +kernel)
    · exact sml_str (by decide +kernel) (by decide +kernel)
    · exact sml_tup (n := 0) (k := 0) (by simp) (by simp) (by simp)
    · exact sml_tup (n := 0) (k := 0) (fun d hd => by simp at hd; subst hd; exact sml_int (by decide +kernel) _ _) (by simp) (by simp)
    · exact sml_lst (n := 0) (k := 0) (by simp) (by simp) (by simp)
    · exact sml_lst (n := 0) (k := 0) (fun d hd => by simp at hd; subst hd; exact sml_int (by decide +kernel) _ _) (by simp) (by simp)
    · exact sml_dict _ _ (by decide)
    · exact sml_int (by decide +kernel) _ _
    · exact sml_int (by decide +kernel) _ _
    · exact sml_int (by decide +kernel) _ _
    · exact sml_int (by decide +kernel) _ _
end G_k79

set_option Elab.async false
set_option linter.all false
set_option autoImplicit false
set_option maxRecDepth 100000
set_option exponentiation.threshold 100000
namespace G_k79
open PySem PySem.Spec L2 MI NW
def It (d : D) : Prop := Sml d 30 5
theorem it_int {x : Int} (h : x.natAbs < 10 ^ 499) : It (.int x) := sml_int h _ _
theorem vl_tup {ds : List D} (h : ∀ d ∈ ds, It d) (hl : ds.length ≤ 900) : Vl (.tuple ds) := sml_tup (n := 30) (k := 5) h (by omega) (by decide)
theorem vl_it {d : D} (h : It d) : Vl d := h.mono (by decide) (by decide)
theorem l1_loop {o0 : OD} {rs : List D} (hr0 : 0 < rs.length) (hrl : rs.length ≤ 20) (hr : ∀ d ∈ rs, It d) (f od : Option OD) : ∀ (ds : List D) (o : OD) (vs : List D) (x : Option OD), Bag o → (∀ d ∈ ds, It d) → (∀ d ∈ vs, Vl d) → vs.length + 2 * ds.length ≤ 1000 →
    ∃ o' vs' x', forL (gN 5) l__law_some_values_1 ds [some o, some (.fz (.tuple rs)), f, od, some (.ol vs), x, none, none, none, none, none, none, none] = .nx [some o', some (.fz (.tuple rs)), f, od, some (.ol vs'), x', none, none, none, none, none, none, none] ∧ Bag o' ∧ (∀ d ∈ vs', Vl d) ∧ vs'.length = vs.length + 2 * ds.length
  | [], o, vs, x, hb, _, hv, _ => ⟨o, vs, x, rfl, hb, hv, by simp⟩
  | d :: ds, o, vs, x, hb, hd, hv, hl => by
    rw [List.length_cons] at hl
    obtain ⟨r, o1, e1, r0, r1, b1⟩ := drawS hb (below := (rs.length : Int)) (by omega) (by omega)
    obtain ⟨es, e2, h1, h2⟩ := spoilt (ds := rs) (by omega) r0 (by omega) d
    obtain ⟨c1, c2⟩ := cut_mem rs none (some (-1))
    obtain ⟨A, hA⟩ : ∃ A, A = cutD rs none (some (-1)) := ⟨_, rfl⟩
    rw [← hA] at c1 c2
    have hdi := hd d (by simp)
    have v1 : Vl (.tuple es) := vl_tup (fun e he => by
      rcases h1 e he with h | h
      · exact hr e h
      · rw [h]; exact hdi) (by omega)
    have v2 : Vl (.tuple (A ++ [d])) := vl_tup (fun e he => by
      rcases List.mem_append.mp he with h | h
      · exact hr e (c1 e h)
      · rw [show e = d by simpa using h]; exact hdi) (by simp; omega)
    obtain ⟨o', vs', x', e, h3, h4, h5⟩ := l1_loop (o0 := o0) hr0 hrl hr f od ds o1 (vs ++ [.tuple es] ++ [.tuple (A ++ [d])]) (some (.fz d)) b1 (fun e he => hd e (by simp [he])) (fun e he => by
      simp only [List.mem_append, List.mem_singleton] at he
      rcases he with (h | rfl) | rfl
      · exact hv e h
      · exact v1
      · exact v2) (by simp; omega)
    refine ⟨o', vs', x', ?_, h3, h4, by rw [h5]; simp; omega⟩
    rw [← e, forL_cons2]
    have z1 : vs.length < sizeLine := size_lt (by omega)
    have z2 : vs.length + 1 < sizeLine := size_lt (by omega)
    have z3 : A.length + 1 ≤ sizeLine := size_ok (by omega)
    simp [l__law_some_values_1, e1, e2, ← hA, z1, z2, z3]
theorem wide_of {rs : List D} (hrl : rs.length ≤ 20) (hr : ∀ d ∈ rs, It d) : ∃ ws : List D, (∀ d ∈ ws, It d) ∧ ws.length ≤ 40 ∧ timesD (.tuple [.int 0]) (.int 20) = some (.fz (.tuple (List.replicate 20 (.int 0)))) ∧ addD (.tuple rs) (.tuple (List.replicate 20 (.int 0))) = some (.fz (.tuple (rs ++ List.replicate 20 (.int 0)))) ∧ ws = cutD (rs ++ List.replicate 20 (.int 0)) none (some 20) := by
  refine ⟨cutD (rs ++ List.replicate 20 (.int 0)) none (some 20), fun d hd => ?_, ?_, ?_, ?_, rfl⟩
  · have := (cut_mem _ _ _).1 d hd
    rcases List.mem_append.mp this with h | h
    · exact hr d h
    · rw [List.eq_of_mem_replicate h]; exact it_int (by decide +kernel)
  · have := (cut_mem (rs ++ List.replicate 20 (.int 0)) none (some 20)).2
    rw [List.length_append, List.length_replicate] at this
    omega
  · rfl
  · rw [addD_tup, if_pos (by refine size_ok ?_; simp; omega)]
theorem l2_turn {rs : List D} (hrl : rs.length ≤ 20) (hr : ∀ d ∈ rs, It d) {od : List D} (hod : ∀ d ∈ od, It d) (hod0 : od ≠ []) (hodl : od.length ≤ 100) (f u : Option OD) {o : OD} (hb : Bag o) {vs : List D} (hv : ∀ d ∈ vs, Vl d) (hl : vs.length ≤ 500) (t a b c d : Option OD) :
    ∃ o' vs' a' b' c' d', l__law_some_values_2 [some o, some (.fz (.tuple rs)), f, some (.fz (.list od)), some (.ol vs), u, t, a, b, c, d, none, none] = .nx [some o', some (.fz (.tuple rs)), f, some (.fz (.list od)), some (.ol vs'), u, t, a', b', c', d', none, none] ∧ Bag o' ∧ (∀ d ∈ vs', Vl d) ∧ vs'.length = vs.length + 7 := by
  obtain ⟨r, o1, e1, r0, r1, b1⟩ := drawS hb (below := 20) (by omega) (by omega)
  obtain ⟨q, o2, e2, q0, q1, b2⟩ := drawS b1 (below := 20) (by omega) (by omega)
  obtain ⟨ws, hw, hwl, t1, t2, hws⟩ := wide_of hrl hr
  obtain ⟨x, o3, e3, hx, b3⟩ := pick b2 hod0 (by omega)
  obtain ⟨es, e4, h1, h2⟩ := spoilt (ds := ws) (by omega) r0 (by omega) x
  obtain ⟨y, o4, e5, hy, b4⟩ := pick b3 hod0 (by omega)
  obtain ⟨gs, e6, h3, h4⟩ := spoilt (ds := es) (by omega) q0 (by omega) y
  have hes : ∀ e ∈ es, It e := fun e he => by
    rcases h1 e he with h | h
    · exact hw e h
    · rw [h]; exact hod _ hx
  have hgs : ∀ e ∈ gs, It e := fun e he => by
    rcases h3 e he with h | h
    · exact hes e h
    · rw [h]; exact hod _ hy
  have i0 : It (.int 0) := it_int (by decide +kernel)
  have i13 : It (.int (10 ^ 13)) := it_int (by decide +kernel)
  have cp13 : CPowW 10 13 := by decide +kernel
  have app : ∀ {xs ys : List D}, (∀ e ∈ xs, It e) → (∀ e ∈ ys, It e) → ∀ e ∈ xs ++ ys, It e := fun h1 h2 e he => by
    rcases List.mem_append.mp he with h | h
    · exact h1 e h
    · exact h2 e h
  refine ⟨o4, vs ++ [.tuple es, .tuple gs, .tuple (es ++ [.int 0]), .tuple ([.int (10 ^ 13)] ++ ws)] ++ [.tuple ws, .tuple (ws ++ [.int 0]), .tuple (ws ++ ws)], some (.fz (.int r)), some (.fz (.int q)), some (.fz (.tuple ws)), some (.fz (.tuple es)), ?_, b4, fun e he => ?_, by simp⟩
  · have s1 : es.length + 1 ≤ sizeLine := size_ok (by omega)
    have s2 : 1 + ws.length ≤ sizeLine := size_ok (by omega)
    have s2' : ws.length + 1 ≤ sizeLine := size_ok (by omega)
    have s3 : ws.length + ws.length ≤ sizeLine := size_ok (by omega)
    have s4 : vs.length + 4 ≤ sizeLine := size_ok (by omega)
    have s5 : vs.length + 4 + 3 ≤ sizeLine := size_ok (by omega)
    unfold l__law_some_values_2
    generalize List.replicate 20 (PyData.int 0) = Z20 at *
    simp [e1, e2, t1, -addD_tup, t2, ← hws]
    simp [e3, e4, e5, e6, s1, s2, s2', s3, s4, s5, cp13]
  · simp only [List.mem_append, List.mem_cons, List.not_mem_nil, or_false] at he
    rcases he with (h | h | h | h | h) | h | h | h
    · exact hv e h
    all_goals subst h
    · exact vl_tup hes (by omega)
    · exact vl_tup hgs (by omega)
    · exact vl_tup (app hes (by simpa using i0)) (by simp; omega)
    · exact vl_tup (app (by simpa using i13) hw) (by simp; omega)
    · exact vl_tup hw (by omega)
    · exact vl_tup (app hw (by simpa using i0)) (by simp; omega)
    · exact vl_tup (app hw hw) (by simp; omega)
end G_k79

set_option Elab.async false
set_option linter.all false
set_option autoImplicit false
set_option maxRecDepth 100000
set_option exponentiation.threshold 100000
namespace G_k79
open PySem PySem.Spec L2 MI NW
theorem rep_one {α : Type} (a : α) (n : Nat) : (List.replicate n [a]).flatten = List.replicate n a := by
  induction n with
  | zero => rfl
  | succ n ih => rw [List.replicate_succ, List.flatten_cons, ih, List.replicate_succ]; rfl
theorem times_one {d : D} {n : Nat} (hn : n ≤ 1000000) : timesD (.tuple [d]) (.int (n : Int)) = some (.fz (.tuple (List.replicate n d))) := by
  unfold timesD mulT2
  simp only
  rw [if_pos ⟨by omega, by omega, by simp; omega⟩, Int.toNat_natCast, rep_one]
  rfl
theorem fold_arr (a : Array Nat) (n : Nat) : ∀ acc : Array Nat, ((List.replicate n a).foldl (· ++ ·) acc).size = acc.size + n * a.size ∧ ((∀ c ∈ a.toList, c < 16 ^ 8) → (∀ c ∈ acc.toList, c < 16 ^ 8) → ∀ c ∈ ((List.replicate n a).foldl (· ++ ·) acc).toList, c < 16 ^ 8) := by
  induction n with
  | zero => intro acc; exact ⟨by simp, fun _ h => by simpa using h⟩
  | succ n ih =>
    intro acc
    rw [List.replicate_succ, List.foldl_cons]
    obtain ⟨h1, h2⟩ := ih (acc ++ a)
    refine ⟨by rw [h1, Array.size_append, Nat.succ_mul]; omega, fun ha hacc => h2 ha fun c hc => ?_⟩
    rw [Array.toList_append] at hc
    rcases List.mem_append.mp hc with h | h
    · exact hacc c h
    · exact ha c h
theorem mul_text (n : Nat) (hn : 1 < n) : Txt.mul "0" (n : Int) = ⟨(List.replicate n (Str.ofString "0").cps).foldl (· ++ ·) #[]⟩ := by
  unfold Txt.mul
  rw [if_neg (by omega), if_neg (by
    have : ((n : Int) == 1) = false := beq_eq_false_iff_ne.mpr (by omega)
    rw [this, Bool.false_or]
    decide +kernel), Int.toNat_natCast]
theorem text_ok (n : Nat) (h1 : 1 < n) (h2 : n ≤ 30000) : timesD (.str "0") (.int (n : Int)) = some (.fz (.str (Txt.mul "0" (n : Int)))) ∧ Vl (.str (Txt.mul "0" (n : Int))) := by
  have hs : (Str.ofString "0").cps.size = 1 := by decide +kernel
  have hl : (Str.ofString "0").length = 1 := by decide +kernel
  refine ⟨?_, ?_⟩
  · unfold timesD mulSt mulT2
    simp only [Option.none_or]
    rw [if_pos ⟨by rw [hl]; decide, by omega, by rw [hl]; omega⟩]
  · obtain ⟨q1, q2⟩ := fold_arr (Str.ofString "0").cps n #[]
    rw [mul_text n h1]
    generalize (List.replicate n (Str.ofString "0").cps).foldl (· ++ ·) #[] = arr at *
    exact sml_str (q2 (by decide +kernel) (by simp)) (by
      show arr.size ≤ 30000
      rw [q1, hs]; simp; exact h2)
theorem zeros_text : ∃ x : Str, timesD (.str "0") (.int 20000) = some (.fz (.str x)) ∧ Vl (.str x) := by
  obtain ⟨a, b⟩ := text_ok 20000 (by omega) (by omega)
  exact ⟨_, a, b⟩
theorem l2_loop {rs : List D} (hrl : rs.length ≤ 20) (hr : ∀ d ∈ rs, It d) {od : List D} (hod : ∀ d ∈ od, It d) (hod0 : od ≠ []) (hodl : od.length ≤ 100) (f u : Option OD) {o : OD} (hb : Bag o) {vs : List D} (hv : ∀ d ∈ vs, Vl d) (hl : vs.length ≤ 400) :
    ∃ o' vs' t a b c d, forL (gN 6) l__law_some_values_2 (upto 0 6) [some o, some (.fz (.tuple rs)), f, some (.fz (.list od)), some (.ol vs), u, none, none, none, none, none, none, none] = .nx [some o', some (.fz (.tuple rs)), f, some (.fz (.list od)), some (.ol vs'), u, t, a, b, c, d, none, none] ∧ Bag o' ∧ (∀ d ∈ vs', Vl d) ∧ vs'.length = vs.length + 42 := by
  obtain ⟨s', e, o', vs', t, a, b, c, d, rfl, h1, h2, h3⟩ := forL_inv (g := gN 6) (h := l__law_some_values_2)
    (fun i st => ∃ o' vs' t a b c d, st = [some o', some (.fz (.tuple rs)), f, some (.fz (.list od)), some (.ol vs'), u, t, a, b, c, d, none, none] ∧ Bag o' ∧ (∀ d ∈ vs', Vl d) ∧ vs'.length = vs.length + 7 * i)
    (upto 0 6) 0 [some o, some (.fz (.tuple rs)), f, some (.fz (.list od)), some (.ol vs), u, none, none, none, none, none, none, none] ⟨o, vs, none, none, none, none, none, rfl, hb, hv, rfl⟩ (by
      rintro i d st hd ⟨o, ws, t, a, b, c, e, rfl, hb, hw, hwl⟩
      obtain ⟨hi, rfl⟩ := upto_get hd
      obtain ⟨o', vs', a', b', c', d', e1, h1, h2, h3⟩ := l2_turn hrl hr hod hod0 hodl f u hb hw (by omega) (some (.fz (.int (i : Int)))) a b c e
      exact ⟨_, _, rfl, .inl e1, o', vs', _, a', b', c', d', rfl, h1, h2, by omega⟩)
  exact ⟨o', vs', t, a, b, c, d, e, h1, h2, by simp at h3; omega⟩
theorem l3_turn {v : Int} (hv0 : v.natAbs < 10 ^ 499) (a b c d u t p q r s : Option OD) {vs : List D} (hv : ∀ d ∈ vs, Vl d) (hl : vs.length ≤ 500) :
    ∃ vs', l__law_some_values_3 [a, b, c, d, some (.ol vs), u, t, p, q, r, s, some (.fz (.int v)), none] = .nx [a, b, c, d, some (.ol vs'), u, t, p, q, r, s, some (.fz (.int v)), none] ∧ (∀ d ∈ vs', Vl d) ∧ vs'.length = vs.length + 4 := by
  have t1 := times_one (d := .int v) (n := 20) (by omega)
  have t2 := times_one (d := .int v) (n := 21) (by omega)
  have t3 := times_one (d := .int 0) (n := 19) (by omega)
  have iv : It (.int v) := it_int hv0
  have i0 : It (.int 0) := it_int (by decide +kernel)
  refine ⟨vs ++ [.tuple [.int v], .tuple (List.replicate 20 (.int v)), .tuple (List.replicate 21 (.int v)), .tuple (List.replicate 19 (.int 0) ++ [.int v])], ?_, fun e he => ?_, by simp⟩
  · have h19 : (List.replicate 19 (PyData.int 0)).length + 1 ≤ sizeLine := size_ok (by simp)
    generalize List.replicate 20 (PyData.int v) = A at *
    generalize List.replicate 21 (PyData.int v) = B at *
    generalize List.replicate 19 (PyData.int 0) = C at *
    have s4 : vs.length + 4 ≤ sizeLine := size_ok (by omega)
    have t1 : timesD (.tuple [.int v]) (.int 20) = some (.fz (.tuple A)) := t1
    have t2 : timesD (.tuple [.int v]) (.int 21) = some (.fz (.tuple B)) := t2
    have t3 : timesD (.tuple [.int 0]) (.int 19) = some (.fz (.tuple C)) := t3
    unfold l__law_some_values_3
    simp [t1, t2, t3, s4, h19]
  · simp only [List.mem_append, List.mem_cons, List.not_mem_nil, or_false] at he
    rcases he with h | h | h | h | h
    · exact hv e h
    all_goals subst h
    · exact vl_tup (by simpa using iv) (by simp)
    · exact vl_tup (fun d hd => by rw [List.eq_of_mem_replicate hd]; exact iv) (by simp)
    · exact vl_tup (fun d hd => by rw [List.eq_of_mem_replicate hd]; exact iv) (by simp)
    · exact vl_tup (fun d hd => by
        rcases List.mem_append.mp hd with h | h
        · rw [List.eq_of_mem_replicate h]; exact i0
        · rw [show d = .int v by simpa using h]; exact iv) (by simp)
theorem vl_ints {ns : List Int} (h : ∀ a ∈ ns, a.natAbs < 10 ^ 499) (hl : ns.length ≤ 900) : Vl (.tuple (ns.map .int)) := vl_tup (fun d hd => by
  obtain ⟨a, ha, rfl⟩ := List.mem_map.mp hd
  exact it_int (h a ha)) (by simpa using hl)
theorem some_values {o : OD} (hb : Bag o) {ns f : List Int} (hn : Rw ns) (hf : Okf f) : ∃ vs o', m__law_some_values [o, .fz (.tuple (ns.map .int)), .fz (.tuple (f.map .int))] = .ok (.ol vs) [some o', none, none] ∧ (∀ d ∈ vs, Vl d) ∧ vs.length ≤ 1000 ∧ Bag o' := by
  obtain ⟨od, e1, hodl, hod⟩ := odd_ones
  have hod : ∀ d ∈ od, It d := fun d hd => (hod d hd).mono (by decide) (by decide)
  have hod0 : od ≠ [] := fun h => by rw [h] at hodl; simp at hodl
  have hp := hn.pos
  have hl := hn.len
  have hfl := hf.len
  have hri : ∀ d ∈ ns.map PyData.int, It d := fun d hd => by
    obtain ⟨a, ha, rfl⟩ := List.mem_map.mp hd
    exact it_int (Nat.lt_of_le_of_lt (hn.bd a ha) (by decide +kernel))
  obtain ⟨fo, hfo⟩ : ∃ fo : Option OD, fo = some (.fz (.tuple (f.map .int))) := ⟨_, rfl⟩
  obtain ⟨oo, hoo⟩ : ∃ oo : Option OD, oo = some (.fz (.list od)) := ⟨_, rfl⟩
  obtain ⟨v0, hv0⟩ : ∃ v0 : List D, v0 = [.none, .int 5, .int 0, .bool true, .str "form", .str "", .list [], .tuple [], .dict [], .dict [(.int 0, .int 1)], .list (ns.map .int), .tuple [.tuple (ns.map .int)]] := ⟨_, rfl⟩
  have hrow : Sml (.tuple (ns.map PyData.int)) 30 5 := sml_tup (n := 0) (k := 0) (fun d hd => by
    obtain ⟨a, ha, rfl⟩ := List.mem_map.mp hd
    exact sml_int (Nat.lt_of_le_of_lt (hn.bd a ha) (by decide +kernel)) _ _) (by simp; omega) (by decide)
  have g0 : ∀ d ∈ v0, Vl d := fun d hd => by
    rw [hv0] at hd
    simp only [List.mem_cons, List.not_mem_nil, or_false] at hd
    rcases hd with rfl | rfl | rfl | rfl | rfl | rfl | rfl | rfl | rfl | rfl | rfl | rfl
    · exact sml_none _ _
    · exact sml_int (by decide +kernel) _ _
    · exact sml_int (by decide +kernel) _ _
    · exact sml_bool _ _ _
    · exact sml_str (by decide +kernel) (by decide +kernel)
    · exact sml_str (by decide +kernel) (by decide +kernel)
    · exact sml_lst (n := 0) (k := 0) (by simp) (by simp) (by simp)
    · exact sml_tup (n := 0) (k := 0) (by simp) (by simp) (by simp)
    · exact sml_dict _ _ (by decide)
    · exact ⟨by decide +kernel, by decide +kernel, by decide +kernel, by decide +kernel⟩
    · exact sml_lst (n := 30) (k := 5) hri (by simp; omega) (by decide)
    · exact sml_tup (n := 30) (k := 5) (by simpa using hrow) (by simp) (by decide)
  have l0 : v0.length = 12 := by rw [hv0]; rfl
  obtain ⟨o1, v1, x1, e2, b1, g1, l1⟩ := l1_loop (o0 := o) (rs := ns.map .int) (by simpa using hp) (by simpa using hl) hri fo oo od o v0 none hb hod g0 (by rw [l0, hodl]; decide)
  obtain ⟨o2, v2, t, pa, pb, pc, pd, e3, b2, g2, l2⟩ := l2_loop (rs := ns.map .int) (by simpa using hl) hri hod hod0 (by omega) fo x1 b1 g1 (by omega)
  rw [← hoo] at e3
  obtain ⟨v3, e4, g3, l3⟩ := l3_turn (v := 1000000000000) (by decide +kernel) (some o2) (some (.fz (.tuple (ns.map .int)))) fo oo x1 t pa pb pc pd g2 (by omega)
  obtain ⟨v4, e5, g4, l4⟩ := l3_turn (v := -1000000000000) (by decide +kernel) (some o2) (some (.fz (.tuple (ns.map .int)))) fo oo x1 t pa pb pc pd g3 (by omega)
  obtain ⟨z, e6, gz⟩ := zeros_text
  have t1 : timesD (.tuple [.int 0]) (.int 30000) = some (.fz (.tuple (List.replicate 30000 (.int 0)))) := times_one (n := 30000) (by omega)
  have t2 : mulD (.list [.int 0]) (.int 20) = some (.ol (List.replicate 20 (.int 0))) := by rfl
  have t3 : timesD (.tuple [.tuple []]) (.int 20) = some (.fz (.tuple (List.replicate 20 (.tuple [])))) := times_one (n := 20) (by omega)
  have t4 : timesD (.tuple [.list []]) (.int 21) = some (.fz (.tuple (List.replicate 21 (.list [])))) := times_one (n := 21) (by omega)
  have w1 : Vl (.tuple (List.replicate 30000 (.int 0))) := sml_tup (n := 0) (k := 0) (fun d hd => by rw [List.eq_of_mem_replicate hd]; exact sml_int (by decide +kernel) _ _) (by simp) (by decide)
  have w2 : Vl (.list (List.replicate 20 (.int 0))) := sml_lst (n := 0) (k := 0) (fun d hd => by rw [List.eq_of_mem_replicate hd]; exact sml_int (by decide +kernel) _ _) (by simp) (by decide)
  have w3 : Vl (.tuple (List.replicate 20 (.tuple []))) := sml_tup (n := 0) (k := 1) (fun d hd => by rw [List.eq_of_mem_replicate hd]; exact sml_tup (n := 0) (k := 0) (by simp) (by simp) (by simp)) (by simp) (by decide)
  have w4 : Vl (.tuple (List.replicate 21 (.list []))) := sml_tup (n := 0) (k := 1) (fun d hd => by rw [List.eq_of_mem_replicate hd]; exact sml_lst (n := 0) (k := 0) (by simp) (by simp) (by simp)) (by simp) (by decide)
  have rb : ∀ n, n ≤ 100 → ∀ a ∈ row (val f 0) 0 n, a.natAbs < 10 ^ 499 := fun n hn a ha => by
    obtain ⟨i, hi, rfl⟩ := List.mem_map.mp ha
    have hi := List.mem_range.mp hi
    rw [Int.zero_add]
    exact Nat.lt_trans (val_row_bd (m := 100) (by decide) hf.fl (by omega)) (by decide +kernel)
  have e7 : m_row_of_fall [.fz (.tuple (f.map .int)), .fz (.int 20)] = .ok (.fz (.tuple ((row (val f 0) 0 20).map .int))) [none, none] := row_of_fall (m := 100) (by decide) hf.fl (n := 20) (by omega)
  have e8 : m_row_of_fall [.fz (.tuple (f.map .int)), .fz (.int 100)] = .ok (.fz (.tuple ((row (val f 0) 0 100).map .int))) [none, none] := row_of_fall (m := 100) (by decide) hf.fl (n := 100) (by omega)
  have e9 : m_row_of_fall [.fz (.tuple (f.map .int)), .fz (.int 0)] = .ok (.fz (.tuple ((row (val f 0) 0 0).map .int))) [none, none] := row_of_fall (m := 100) (by decide) hf.fl (n := 0) (by omega)
  have y1 := vl_ints (rb 20 (by omega)) (by rw [row_length]; omega)
  have y2 := vl_ints (rb 100 (by omega)) (by rw [row_length]; omega)
  have y3 := vl_ints (rb 0 (by omega)) (by rw [row_length]; omega)
  have e10 : cutD ((row (val f 0) 0 20).map PyData.int) none (some 3) = (row (val f 0) 0 3).map PyData.int := by
    have := cut_to PyData.int (row (val f 0) 0 20) 3
    rw [row_take _ _ _ _ (by omega)] at this
    exact this
  have y4 := vl_ints (rb 3 (by omega)) (by rw [row_length]; omega)
  have e11 := steps_of (ns := ns) (by omega) (.tuple (ns.map .int)) (.inr rfl)
  have e12 := fall_rowT (h := fn ns) (s := 0) (n := ns.length) (by omega)
  rw [row_fn] at e12
  have hfb : ∀ x, (fn ns x).natAbs ≤ 10 ^ 12 := fun x => fn_bd hn.bd x
  have y5 : Vl (.tuple ((stp ns).map .int)) := by
    obtain ⟨m, hm⟩ : ∃ m, ns.length = m + 1 := ⟨ns.length - 1, by omega⟩
    have hr := row_fn ns
    rw [hm] at hr
    have es : stp ns = row (dn 1 (fn ns)) 0 m := by
      rw [show dn 1 (fn ns) = dl (fn ns) from rfl, ← stp_row, hr]
    rw [es]
    refine vl_ints (fun a ha => ?_) (by rw [row_length]; omega)
    obtain ⟨i, _, rfl⟩ := List.mem_map.mp ha
    exact Nat.lt_trans (dn_small (n := 20) (by omega) hfb (by omega) _) (by decide +kernel)
  have y6 : Vl (.tuple ((trim (diffs (fn ns) 0 ns.length)).map .int)) := by
    refine vl_ints (fun a ha => ?_) (by
      have := trim_le (diffs (fn ns) 0 ns.length)
      rw [show (diffs (fn ns) 0 ns.length).length = ns.length by simp [diffs]] at this
      omega)
    obtain ⟨i, hi, rfl⟩ := List.mem_map.mp (trim_mem ha)
    have hi := List.mem_range.mp hi
    exact Nat.lt_trans (dn_small (n := 20) (by omega) hfb (by omega) _) (by decide +kernel)
  generalize List.replicate 30000 (PyData.int 0) = Z1 at *
  generalize List.replicate 20 (PyData.int 0) = Z2 at *
  generalize List.replicate 20 (PyData.tuple []) = Z3 at *
  generalize List.replicate 21 (PyData.list []) = Z4 at *
  generalize (row (val f 0) 0 20).map PyData.int = R1 at *
  generalize (row (val f 0) 0 100).map PyData.int = R2 at *
  generalize (row (val f 0) 0 0).map PyData.int = R3 at *
  generalize (row (val f 0) 0 3).map PyData.int = R4 at *
  generalize (stp ns).map PyData.int = R5 at *
  generalize (trim (diffs (fn ns) 0 ns.length)).map PyData.int = R6 at *
  obtain ⟨v5, hv5⟩ : ∃ v5, v5 = v4 ++ [.tuple Z1, .list Z2, .str z, .tuple Z3, .tuple Z4] := ⟨_, rfl⟩
  obtain ⟨v6, hv6⟩ : ∃ v6, v6 = v5 ++ [.tuple R1, .tuple R4, .tuple R2, .tuple R3] := ⟨_, rfl⟩
  have l5 : v5.length = v4.length + 5 := by rw [hv5]; simp
  have l6 : v6.length = v5.length + 4 := by rw [hv6]; simp
  refine ⟨v6 ++ [.tuple R5, .tuple R6], o2, ?_, fun d hd => ?_, by simp; omega, b2⟩
  · generalize ns.map PyData.int = rI at *
    show Out.fin [true, false, false] (b__law_some_values [some o, some (.fz (.tuple rI)), some (.fz (.tuple (f.map .int))), none, none, none, none, none, none, none, none, none, none]) = _
    rw [← hfo]
    unfold b__law_some_values
    refine seq_fin (s' := [some o, some (.fz (.tuple rI)), fo, oo, some (.ol v0), none, none, none, none, none, none, none, none]) (by
      rw [hv0, hoo]
      simp [e1]) ?_
    refine seq_fin (s' := [some o1, some (.fz (.tuple rI)), fo, oo, some (.ol v1), x1, none, none, none, none, none, none, none]) (by
      rw [← e2, hoo]
      generalize l__law_some_values_1 = LL
      simp) ?_
    refine seq_fin (s' := [some o2, some (.fz (.tuple rI)), fo, oo, some (.ol v2), x1, t, pa, pb, pc, pd, none, none]) (by
      rw [← e3]
      generalize l__law_some_values_2 = LL
      simp [rg_nat (n := 6) 6 rfl (by omega), -k_Rg1]) ?_
    refine seq_fin (s' := [some o2, some (.fz (.tuple rI)), fo, oo, some (.ol v4), x1, t, pa, pb, pc, pd, some (.fz (.int (-1000000000000))), none]) (by
      generalize l__law_some_values_3 = LL at *
      simp [cp12, forL_cons2, e4, e5]) ?_
    refine seq_fin (s' := [some o2, some (.fz (.tuple rI)), fo, oo, some (.ol v5), x1, t, pa, pb, pc, pd, some (.fz (.int (-1000000000000))), none]) (by
      rw [hv5]
      simp [t1, -mulD_list, t2, e6, t3, t4, show v4.length + 5 ≤ sizeLine from size_ok (by omega)]) ?_
    refine seq_fin (s' := [some o2, some (.fz (.tuple rI)), fo, oo, some (.ol v5), x1, t, pa, pb, pc, pd, some (.fz (.int (-1000000000000))), some (.fz (.tuple R1))]) (by
      subst hfo
      simp [e7]) ?_
    refine seq_fin (s' := [some o2, some (.fz (.tuple rI)), fo, oo, some (.ol v6), x1, t, pa, pb, pc, pd, some (.fz (.int (-1000000000000))), some (.fz (.tuple R1))]) (by
      subst hfo
      rw [hv6]
      simp [e10, e8, e9, show v5.length + 4 ≤ sizeLine from size_ok (by omega)]) ?_
    simp [e11, e12, show v6.length + 2 ≤ sizeLine from size_ok (by omega)]
  · rw [hv6, hv5] at hd
    simp only [List.mem_append, List.mem_cons, List.not_mem_nil, or_false] at hd
    rcases hd with ((h | h | h | h | h | h) | h | h | h | h) | h | h
    · exact g4 d h
    all_goals subst h; assumption
end G_k79

set_option Elab.async false
set_option linter.all false
set_option autoImplicit false
set_option maxRecDepth 100000
set_option exponentiation.threshold 100000
namespace G_k79
open PySem PySem.Spec L2 MI NW
theorem is_judge_right {o : OD} (hb : Bag o) {ns f : List Int} (hn : Rw ns) (hf : Okf f) : ∃ o', m__law_is_judge_right [o, .fz (.tuple (ns.map .int)), .fz (.tuple (f.map .int))] = .ok (.fz (.bool true)) [some o', none, none] ∧ Bag o' := by
  obtain ⟨vs, o1, e1, hv, hl, b1⟩ := some_values hb hn hf
  obtain ⟨x, e, g, e2⟩ := judge_loop (some o1) (some (.fz (.tuple (ns.map .int)))) (some (.fz (.tuple (f.map .int)))) (some (.fz (.list vs))) vs none none none hv
  refine ⟨o1, ?_, b1⟩
  unfold m__law_is_judge_right b__law_is_judge_right
  generalize l__law_is_judge_right_1 = LL at *
  simp [e1, e2]
theorem values_all {ps : List Int} (hp : ∀ x ∈ ps, Pl x) {ns : List Nat} {m : Nat} (hn : ∀ x ∈ ns, x ≤ 100) (hm : m ≤ 100) (a b c d e f j : Option OD) : ∀ (gs : List (List Int)) (w : Option OD), (∀ f ∈ gs, Okf f) →
    ∃ w', forL (gN 8) l_law_1 (gs.map fun f => .tuple (f.map .int)) [a, b, c, d, e, f, some (.fz (.list (ps.map .int))), some (.fz (.list ((ns ++ [m]).map fun n : Nat => PyData.int (n : Int)))), w, j] = .nx [a, b, c, d, e, f, some (.fz (.list (ps.map .int))), some (.fz (.list ((ns ++ [m]).map fun n : Nat => PyData.int (n : Int)))), w', j]
  | [], w, _ => ⟨w, rfl⟩
  | q :: gs, w, hq => by
    obtain ⟨w', e1⟩ := values_all hp hn hm a b c d e f j gs (some (.fz (.tuple (q.map .int)))) fun q hq' => hq q (by simp [hq'])
    have e2 := are_values_right (hq q (by simp)) hp hn hm
    refine ⟨w', ?_⟩
    rw [← e1, List.map_cons, forL_cons2]
    generalize (ns ++ [m]).map (fun n : Nat => PyData.int (n : Int)) = NS at *
    simp [l_law_1, e2]
theorem values_first {ps : List Int} (hp : ∀ x ∈ ps, Pl x) {ns : List Nat} {m : Nat} (hn : ∀ x ∈ ns, x ≤ 100) (hm : m ≤ 100) (a b c d e f j : Option OD) (q : List Int) (gs : List (List Int)) (w : Option OD) (hq : ∀ f ∈ q :: gs, Okf f) :
    ∃ w', forL (gN 8) l_law_1 ((q :: gs).map fun f => .tuple (f.map .int)) [a, b, c, d, e, f, some (.ol (ps.map .int)), some (.fz (.list ((ns ++ [m]).map fun n : Nat => PyData.int (n : Int)))), w, j] = .nx [a, b, c, d, e, f, some (.fz (.list (ps.map .int))), some (.fz (.list ((ns ++ [m]).map fun n : Nat => PyData.int (n : Int)))), w', j] := by
  obtain ⟨w', e1⟩ := values_all hp hn hm a b c d e f j gs (some (.fz (.tuple (q.map .int)))) fun q hq' => hq q (by simp [hq'])
  have e2 := are_values_right (hq q (by simp)) hp hn hm
  refine ⟨w', ?_⟩
  rw [← e1, List.map_cons, forL_cons2]
  generalize (ns ++ [m]).map (fun n : Nat => PyData.int (n : Int)) = NS at *
  simp [l_law_1, e2]
theorem steps_all (a b c d e f g h i : Option OD) : ∀ (gs : List (List Int)) (w : Option OD), (∀ f ∈ gs, Rw f) →
    ∃ w', forL (gN 9) l_law_2 (gs.map fun f => .tuple (f.map .int)) [a, b, c, d, e, f, g, h, i, w] = .nx [a, b, c, d, e, f, g, h, i, w']
  | [], w, _ => ⟨w, rfl⟩
  | q :: gs, w, hq => by
    obtain ⟨w', e1⟩ := steps_all a b c d e f g h i gs (some (.fz (.tuple (q.map .int)))) fun q hq' => hq q (by simp [hq'])
    have hr := hq q (by simp)
    have e2 := are_steps_right hr.pos hr.len hr.bd
    refine ⟨w', ?_⟩
    rw [← e1, List.map_cons, forL_cons2]
    simp [l_law_2, e2]
theorem law_holds (ns : List Int) (hl : ns.length ≤ 63) : ∃ s, m_law [.fz (lockD (ns.map PyData.int))] = .ok (.fz (.bool true)) s := by
  obtain ⟨sc, hsc⟩ : ∃ sc : Option OD, sc = some (.fz (lockD (ns.map PyData.int))) := ⟨_, rfl⟩
  obtain ⟨o, e1, hb⟩ := own_bag ns hl
  obtain ⟨r1, r2, r3, r4, r5, o1, e2, h1, h2, h3, h4, h5, b1⟩ := law_rows hb
  obtain ⟨f, o2, e3, f1, f2, f3, b2⟩ := law_fall b1 (most := 10 ^ 30) (by decide) (by decide)
  obtain ⟨g, o3, e4, g1, g2, g3, b3⟩ := law_fall b2 (most := 9) (by decide) (by decide)
  have hB9 : 10 ^ 30 + 9 < 2 ^ 100 := by decide
  have okf : Okf f := okf_of hB9 f1 f2 f3
  have okg : Okf g := okf_of hB9 g1 (fun a ha => Nat.le_trans (g2 a ha) (by decide)) g3
  have ok0 : Okf [] := ⟨by simp, by simp, fun h => (h rfl).elim⟩
  obtain ⟨t, o4, e5, okt, b4⟩ := twin b3 (most := 10 ^ 30) (by decide) (by decide) f1 f2 f3
  obtain ⟨p1, o5, e6, p10, p11, b5⟩ := drawS b4 (below := 60) (by omega) (by omega)
  obtain ⟨p2, o6, e7, p20, p21, b6⟩ := drawS b5 (below := 60) (by omega) (by omega)
  obtain ⟨p3, o7, e8, hp3, b7⟩ := number b6 (most := 10 ^ 30) (by decide)
  obtain ⟨d, o8, e9, hd, b8⟩ := pick b7 (ds := [.int (10 ^ 30), .int (-10 ^ 30)]) (by simp) (by simp)
  obtain ⟨p4, rfl, hp4⟩ : ∃ p4 : Int, d = .int p4 ∧ p4.natAbs ≤ 10 ^ 30 := by
    simp at hd
    rcases hd with rfl | rfl
    · exact ⟨_, rfl, by decide⟩
    · exact ⟨_, rfl, by decide⟩
  obtain ⟨q1, o9, e10, q10, q11, b9⟩ := drawS b8 (below := 2) (by omega) (by omega)
  obtain ⟨q1, rfl⟩ := Int.eq_ofNat_of_zero_le q10
  obtain ⟨q2, oA, e11, q20, q21, bA⟩ := drawS b9 (below := 101) (by omega) (by omega)
  obtain ⟨q2, rfl⟩ := Int.eq_ofNat_of_zero_le q20
  have hpl : ∀ x ∈ [0, -1, 1, p1, -1 - p2, p3, p4], Pl x := fun x hx => by
    unfold Pl
    have : ((10 : Int) ^ 30).natAbs = 10 ^ 30 := by decide
    simp only [List.mem_cons, List.not_mem_nil, or_false] at hx
    rcases hx with rfl | rfl | rfl | rfl | rfl | rfl | rfl <;> omega
  have hnl : ∀ x ∈ [q1, 100, 20], x ≤ 100 := fun x hx => by
    simp only [List.mem_cons, List.not_mem_nil, or_false] at hx
    rcases hx with rfl | rfl | rfl <;> omega
  obtain ⟨oB, e12, bB⟩ := is_judge_right bA h1 okf
  have e13 := are_steps_right h1.pos h1.len h1.bd
  have e14 := are_values_right okf hpl hnl (m := q2) (by omega)
  obtain ⟨PL, hPL⟩ : ∃ PL, PL = [0, -1, 1, p1, -1 - p2, p3, p4].map PyData.int := ⟨_, rfl⟩
  obtain ⟨NL, hNL⟩ : ∃ NL, NL = ([q1, 100, 20] ++ [q2]).map fun n : Nat => PyData.int (n : Int) := ⟨_, rfl⟩
  obtain ⟨RL, hRL⟩ : ∃ RL : List D, RL = [.tuple (r1.map .int), .tuple (r2.map .int), .tuple (r3.map .int), .tuple (r4.map .int), .tuple (r5.map .int)] := ⟨_, rfl⟩
  obtain ⟨FL, hFL⟩ : ∃ FL : List D, FL = [.tuple (f.map .int), .tuple (t.map .int), .tuple (g.map .int), .tuple []] := ⟨_, rfl⟩
  obtain ⟨w1, e15⟩ := values_first hpl hnl (m := q2) (by omega) sc (some oA) (some (.fz (.list RL))) (some (.fz (.tuple (f.map .int)))) (some (.fz (.tuple (g.map .int)))) (some (.fz (.list FL))) none f [t, g, []] none (fun q hq => by
    simp only [List.mem_cons, List.not_mem_nil, or_false] at hq
    rcases hq with rfl | rfl | rfl | rfl <;> assumption)
  rw [← hPL, ← hNL] at e15
  obtain ⟨w2, e16⟩ := steps_all sc (some oA) (some (.fz (.list RL))) (some (.fz (.tuple (f.map .int)))) (some (.fz (.tuple (g.map .int)))) (some (.fz (.list FL))) (some (.fz (.list PL))) (some (.fz (.list NL))) w1 [r1, r2, r3, r4, r5] none (fun q hq => by
    simp only [List.mem_cons, List.not_mem_nil, or_false] at hq
    rcases hq with rfl | rfl | rfl | rfl | rfl <;> assumption)
  have eF : [f, t, g, []].map (fun f : List Int => PyData.tuple (f.map .int)) = FL := by rw [hFL]; rfl
  have eR : [r1, r2, r3, r4, r5].map (fun f : List Int => PyData.tuple (f.map .int)) = RL := by rw [hRL]; rfl
  rw [eF] at e15
  rw [eR] at e16
  rw [← hPL, ← hNL] at e14
  have at0' : atI RL 0 = some (.tuple (r1.map .int)) := by rw [hRL]; rfl
  refine ⟨[none], ?_⟩
  unfold m_law b_law
  show Out.fin [false] (sSeq _ _ [some (.fz (lockD (ns.map PyData.int))), none, none, none, none, none, none, none, none, none]) = _
  rw [← hsc]
  refine seq_fin (s' := [sc, some o, none, none, none, none, none, none, none, none]) (by subst hsc; simp [e1]) ?_
  clear hsc e1
  refine seq_fin (s' := [sc, some o3, some (.fz (.list RL)), some (.fz (.tuple (f.map .int))), some (.fz (.tuple (g.map .int))), none, none, none, none, none]) (by
    simp at e3 e4
    rw [hRL]
    simp [e2, e3, e4]) ?_
  refine seq_fin (s' := [sc, some o4, some (.fz (.list RL)), some (.fz (.tuple (f.map .int))), some (.fz (.tuple (g.map .int))), some (.fz (.list FL)), none, none, none, none]) (by
    simp at e5
    rw [hFL]
    simp [e5]) ?_
  refine seq_fin (s' := [sc, some o6, some (.fz (.list RL)), some (.fz (.tuple (f.map .int))), some (.fz (.tuple (g.map .int))), some (.fz (.list FL)), some (.ol [.int 0, .int (-1), .int 1, .int p1, .int (-1 - p2)]), none, none, none]) (by
    simp [e6, e7]) ?_
  refine seq_fin (s' := [sc, some o8, some (.fz (.list RL)), some (.fz (.tuple (f.map .int))), some (.fz (.tuple (g.map .int))), some (.fz (.list FL)), some (.ol PL), none, none, none]) (by
    simp at e8 e9
    rw [hPL]
    simp [e8, e9, show 7 ≤ sizeLine from size_ok (by omega)]) ?_
  refine seq_fin (s' := [sc, some oA, some (.fz (.list RL)), some (.fz (.tuple (f.map .int))), some (.fz (.tuple (g.map .int))), some (.fz (.list FL)), some (.ol PL), some (.fz (.list NL)), none, none]) (by
    rw [hNL]
    simp [e10, e11]) ?_
  refine seq_fin (s' := [sc, some oA, some (.fz (.list RL)), some (.fz (.tuple (f.map .int))), some (.fz (.tuple (g.map .int))), some (.fz (.list FL)), some (.fz (.list PL)), some (.fz (.list NL)), w1, none]) (by
    rw [← e15]
    generalize l_law_1 = LL
    simp) ?_
  refine seq_fin (s' := [sc, some oA, some (.fz (.list RL)), some (.fz (.tuple (f.map .int))), some (.fz (.tuple (g.map .int))), some (.fz (.list FL)), some (.fz (.list PL)), some (.fz (.list NL)), w1, w2]) (by
    rw [← e16]
    generalize l_law_2 = LL
    simp) ?_
  refine seq_fin (s' := [sc, some oB, some (.fz (.list RL)), some (.fz (.tuple (f.map .int))), some (.fz (.tuple (g.map .int))), some (.fz (.list FL)), some (.fz (.list PL)), some (.fz (.list NL)), w1, w2]) (by
    simp [at0', e12, e13]) ?_
  simp [e14]
end G_k79

set_option Elab.async false
set_option linter.all false
set_option autoImplicit false
set_option maxRecDepth 100000
set_option maxHeartbeats 0
open PySem PySem.W PyProof.Rows
set_option maxHeartbeats 0 in
theorem PySem.Challenge.cw_leadterms_k79_whole_steps_and_values_holds : PySem.Challenge.rw_leadterms_k79_whole_steps_and_values.Holds := by
  w_on; o_law; k_head; (case hw => w_witness2)
  k_fill
  refine MI.ends_of (l := PySem.Challenge.rw_leadterms_k79_whole_steps_and_values) (n := 63) (k := 6) (x := "script") (sp := fun w => MI.spF _ MI.noEr false 1 G_k79.m_law) rfl (by decide) rfl ⟨rfl, by decide, by decide⟩ (fun w h Y => PySem.W.kIn_of Y) ?F (fun w H a ns hl hS => MI.law_true hS (G_k79.law_holds ns hl))
  case F =>
    intro w mg fa h KX G hmg
    refine' G_k79.all_mk KX G hmg ?a0 ?l0 ?c0 ?k0 ?a1 ?l1 ?c1 ?k1 ?a2 ?l2 ?c2 ?k2 ?a3 ?l3 ?c3 ?k3 ?a4 ?l4 ?c4 ?k4 ?a5 ?l5 ?c5 ?k5 ?a6 ?l6 ?c6 ?k6 ?a7 ?l7 ?c7 ?k7 ?a8 ?l8 ?c8 ?k8 ?a9 ?l9 ?c9 ?k9 ?a10 ?l10 ?c10 ?k10 ?a11 ?l11 ?c11 ?k11 ?a12 ?l12 ?c12 ?k12 ?a13 ?l13 ?c13 ?k13 ?a14 ?l14 ?c14 ?k14 ?a15 ?l15 ?c15 ?k15 ?a16 ?l16 ?c16 ?k16 ?a17 ?l17 ?c17 ?k17 ?a18 ?l18 ?c18 ?k18 ?a19 ?l19 ?c19 ?k19 ?a20 ?l20 ?c20 ?k20 ?a21 ?l21 ?c21 ?k21 ?a22 ?l22 ?c22 ?k22 ?a23 ?l23 ?c23 ?k23 ?a24 ?l24 ?c24 ?k24 ?a25 ?l25 ?c25 ?k25 ?a26 ?l26 ?c26 ?k26 ?a27 ?l27 ?c27 ?k27 ?a28 ?l28 ?c28 ?k28 ?a29 ?l29 ?c29 ?k29 ?a30 ?l30 ?c30 ?k30 ?dig ?z0 ?z1 ?z2 ?z3 ?z4 ?z5 ?z6 ?z7 ?z8 ?z9 ?z10 ?z11 ?z12 ?z13 ?z14 ?v0 ?v1
    (case a0 => k_is); (case l0 => k_is); (case c0 => k_is); (case k0 => k_is); (case a1 => k_is); (case l1 => k_is); (case c1 => k_is); (case k1 => k_is); (case a2 => k_is); (case l2 => k_is); (case c2 => k_is); (case k2 => k_is); (case a3 => k_is); (case l3 => k_is); (case c3 => k_is); (case k3 => k_is); (case a4 => k_is); (case l4 => k_is); (case c4 => k_is); (case k4 => k_is); (case a5 => k_is); (case l5 => k_is); (case c5 => k_is); (case k5 => k_is); (case a6 => k_is); (case l6 => k_is); (case c6 => k_is); (case k6 => k_is); (case a7 => k_is); (case l7 => k_is); (case c7 => k_is); (case k7 => k_is); (case a8 => k_is); (case l8 => k_is); (case c8 => k_is); (case k8 => k_is); (case a9 => k_is); (case l9 => k_is); (case c9 => k_is); (case k9 => k_is); (case a10 => k_is); (case l10 => k_is); (case c10 => k_is); (case k10 => k_is); (case a11 => k_is); (case l11 => k_is); (case c11 => k_is); (case k11 => k_is); (case a12 => k_is); (case l12 => k_is); (case c12 => k_is); (case k12 => k_is); (case a13 => k_is); (case l13 => k_is); (case c13 => k_is); (case k13 => k_is); (case a14 => k_is); (case l14 => k_is); (case c14 => k_is); (case k14 => k_is); (case a15 => k_is); (case l15 => k_is); (case c15 => k_is); (case k15 => k_is); (case a16 => k_is); (case l16 => k_is); (case c16 => k_is); (case k16 => k_is); (case a17 => k_is); (case l17 => k_is); (case c17 => k_is); (case k17 => k_is); (case a18 => k_is); (case l18 => k_is); (case c18 => k_is); (case k18 => k_is); (case a19 => k_is); (case l19 => k_is); (case c19 => k_is); (case k19 => k_is); (case a20 => k_is); (case l20 => k_is); (case c20 => k_is); (case k20 => k_is); (case a21 => k_is); (case l21 => k_is); (case c21 => k_is); (case k21 => k_is); (case a22 => k_is); (case l22 => k_is); (case c22 => k_is); (case k22 => k_is); (case a23 => k_is); (case l23 => k_is); (case c23 => k_is); (case k23 => k_is); (case a24 => k_is); (case l24 => k_is); (case c24 => k_is); (case k24 => k_is); (case a25 => k_is); (case l25 => k_is); (case c25 => k_is); (case k25 => k_is); (case a26 => k_is); (case l26 => k_is); (case c26 => k_is); (case k26 => k_is); (case a27 => k_is); (case l27 => k_is); (case c27 => k_is); (case k27 => k_is); (case a28 => k_is); (case l28 => k_is); (case c28 => k_is); (case k28 => k_is); (case a29 => k_is); (case l29 => k_is); (case c29 => k_is); (case k29 => k_is); (case a30 => k_is); (case l30 => k_is); (case c30 => k_is); (case k30 => k_is); (case dig => k_is); (case z0 => k_is); (case z1 => k_is); (case z2 => k_is); (case z3 => k_is); (case z4 => k_is); (case z5 => k_is); (case z6 => k_is); (case z7 => k_is); (case z8 => k_is); (case z9 => k_is); (case z10 => k_is); (case z11 => k_is); (case z12 => k_is); (case z13 => k_is); (case z14 => k_is); (case v0 => k_is); (case v1 => k_is)


