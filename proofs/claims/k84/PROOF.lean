import PyProof.Rows.All
import Wide.All
import OpenK.AllK
import Wide.FinOn
import HandS.ForMost
import HandS.Wide
import HandS.Exc
import HandS.CallSlots
import HandS.Style
import HandS.TupAny
import HandS.TupLe
import HandS.WideBits
import HandS.IsInst
import HandS.SortInts
import HandS.Conv
import HandS.RaiseMore
import HandS.TupMul
import HandS.Rev
import HandS.Zip
import HandS.Gcd
import KE.GoesEnum
import KE.GoesMore
import HandS.IterVal
import KE.GoesZip
import PyProof.Rows.Digits
import PyProof.ReprRoads
import HandS.Dict
import PyProof.ReprDict
import PyProof.StrBlock2
import HandS.ExcOwn
import HandS.ExcIs
import HandS.ExcField
import HandS.Small
import HandS.Text
import PyProof.ExcBaseAll.ValueError
import PyProof.ReprBulk
import PyProof.FitsReplace
import PySem.Challenge.RW_leadterms_k84_whole_series_turned
set_option Elab.async false
set_option linter.all false
set_option autoImplicit false
set_option maxRecDepth 100000
/-! MI: a functional layer over HandS. Data, representation, the frame relation. -/
namespace MI
open PySem PySem.Spec L2

abbrev D := PyData

/-! ### keys -/
def keyD : Key → D
  | .inl i => .int i
  | .inr x => .str x
def tkeyD (k : List Key) : D := .tuple (k.map keyD)

/-! ### data over a heap view -/
mutual
inductive Dr (K : PySem.W.Frag) (Y : Hp) : V → D → Prop
  | non : Dr K Y .non .none
  | bl (b : Bool) : Dr K Y (.bl b) (.bool b)
  | int (i : Int) : Dr K Y (.int i) (.int i)
  | str (x : Str) : Dr K Y (.str x) (.str x)
  | lst {a : Addr} {xs : List V} {ds : List D} : Y a = some (.lst xs) → DrAll K Y xs ds → Dr K Y (.ref a) (.list ds)
  /-- a list that is locked (the script) -/
  | lck {a : Addr} {xs : List V} {ds : List D} : SqL K Y a xs → DrAll K Y xs ds → Dr K Y (.ref a) (.dict [(.none, .list ds)])
  | tup {a : Addr} {xs : List V} {ds : List D} : SqT K Y a xs → DrAll K Y xs ds → Dr K Y (.ref a) (.tuple ds)
  | dk {a : Addr} {kvs : List (Key × V)} {ds : List D} : Y a = some (.dK kvs) → DrAll K Y (kvs.map (·.2)) ds → Dr K Y (.ref a) (.dict ((kvs.map fun p => keyD p.1).zip ds))
  | dt {a : Addr} {kvs : List (List Key × V)} {ds : List D} : Y a = some (.dT kvs) → DrAll K Y (kvs.map (·.2)) ds → Dr K Y (.ref a) (.dict ((kvs.map fun p => tkeyD p.1).zip ds))
inductive DrAll (K : PySem.W.Frag) (Y : Hp) : List V → List D → Prop
  | nil : DrAll K Y [] []
  | cons {v : V} {vs : List V} {d : D} {ds : List D} : Dr K Y v d → DrAll K Y vs ds → DrAll K Y (v :: vs) (d :: ds)
end

theorem Same.sqt {K : PySem.W.Frag} {H H' : Hp} {a : Addr} {xs : List V} (e : Same H H') (h : SqT K H a xs) : SqT K H' a xs := by
  rcases h with (h | ⟨o, h⟩) | h
  · exact .inl (.inl (e _ _ h))
  · exact .inl (.inr ⟨o, e _ _ h⟩)
  · exact .inr h

mutual
theorem Dr.mono {K : PySem.W.Frag} {Y Y' : Hp} (e : Same Y Y') : ∀ {v : V} {d : D}, Dr K Y v d → Dr K Y' v d
  | _, _, .non => .non
  | _, _, .bl b => .bl b
  | _, _, .int i => .int i
  | _, _, .str x => .str x
  | _, _, .lst h t => .lst (e _ _ h) (DrAll.mono e t)
  | _, _, .lck h t => .lck (e.seq h) (DrAll.mono e t)
  | _, _, .tup h t => .tup (Same.sqt e h) (DrAll.mono e t)
  | _, _, .dk h t => .dk (e _ _ h) (DrAll.mono e t)
  | _, _, .dt h t => .dt (e _ _ h) (DrAll.mono e t)
theorem DrAll.mono {K : PySem.W.Frag} {Y Y' : Hp} (e : Same Y Y') : ∀ {vs : List V} {ds : List D}, DrAll K Y vs ds → DrAll K Y' vs ds
  | _, _, .nil => .nil
  | _, _, .cons h t => .cons (h.mono e) (t.mono e)
end

theorem DrAll.length {K : PySem.W.Frag} {Y : Hp} : ∀ {vs : List V} {ds : List D}, DrAll K Y vs ds → vs.length = ds.length
  | _, _, .nil => rfl
  | _, _, .cons _ t => by rw [List.length_cons, List.length_cons, t.length]
theorem DrAll.append {K : PySem.W.Frag} {Y : Hp} : ∀ {vs ws : List V} {ds es : List D}, DrAll K Y vs ds → DrAll K Y ws es → DrAll K Y (vs ++ ws) (ds ++ es)
  | _, _, _, _, .nil, h => h
  | _, _, _, _, .cons a t, h => .cons a (t.append h)
theorem DrAll.get {K : PySem.W.Frag} {Y : Hp} : ∀ {vs : List V} {ds : List D} {i : Nat} {d : D}, DrAll K Y vs ds → ds[i]? = some d → ∃ v, vs[i]? = some v ∧ Dr K Y v d
  | _, _, _, _, .nil, e => by simp at e
  | _, _, 0, _, .cons h _, e => by simp at e; subst e; exact ⟨_, rfl, h⟩
  | _, _, i + 1, _, .cons _ t, e => by
    obtain ⟨v, h1, h2⟩ := t.get (i := i) (by simpa using e)
    exact ⟨v, by simpa using h1, h2⟩
theorem DrAll.getV {K : PySem.W.Frag} {Y : Hp} : ∀ {vs : List V} {ds : List D} {i : Nat} {v : V}, DrAll K Y vs ds → vs[i]? = some v → ∃ d, ds[i]? = some d ∧ Dr K Y v d
  | _, _, _, _, .nil, e => by simp at e
  | _, _, 0, _, .cons h _, e => by simp at e; subst e; exact ⟨_, rfl, h⟩
  | _, _, i + 1, _, .cons _ t, e => by
    obtain ⟨v, h1, h2⟩ := t.getV (i := i) (by simpa using e)
    exact ⟨v, by simpa using h1, h2⟩
theorem DrAll.set {K : PySem.W.Frag} {Y : Hp} {v : V} {d : D} (h : Dr K Y v d) : ∀ {vs : List V} {ds : List D} (i : Nat), DrAll K Y vs ds → DrAll K Y (vs.set i v) (ds.set i d)
  | _, _, _, .nil => .nil
  | _, _, 0, .cons _ t => .cons h t
  | _, _, i + 1, .cons a t => .cons a (t.set h i)
theorem DrAll.take {K : PySem.W.Frag} {Y : Hp} : ∀ {vs : List V} {ds : List D} (n : Nat), DrAll K Y vs ds → DrAll K Y (vs.take n) (ds.take n)
  | _, _, 0, _ => .nil
  | _, _, _ + 1, .nil => .nil
  | _, _, n + 1, .cons a t => .cons a (t.take n)
theorem DrAll.drop {K : PySem.W.Frag} {Y : Hp} : ∀ {vs : List V} {ds : List D} (n : Nat), DrAll K Y vs ds → DrAll K Y (vs.drop n) (ds.drop n)
  | _, _, 0, h => h
  | _, _, _ + 1, .nil => .nil
  | _, _, n + 1, .cons _ t => t.drop n
theorem DrAll.dropLast {K : PySem.W.Frag} {Y : Hp} : ∀ {vs : List V} {ds : List D}, DrAll K Y vs ds → DrAll K Y vs.dropLast ds.dropLast := fun {vs ds} h => by
  rw [List.dropLast_eq_take, List.dropLast_eq_take, h.length]
  exact h.take _
theorem DrAll.reverse {K : PySem.W.Frag} {Y : Hp} : ∀ {vs : List V} {ds : List D}, DrAll K Y vs ds → DrAll K Y vs.reverse ds.reverse
  | _, _, .nil => .nil
  | _, _, .cons a t => by
    rw [List.reverse_cons, List.reverse_cons]
    exact t.reverse.append (.cons a .nil)

/-! ### shapes told by the data -/
theorem Dr.int_inv {K : PySem.W.Frag} {Y : Hp} {v : V} {i : Int} (h : Dr K Y v (.int i)) : v = .int i := by cases h; rfl
theorem Dr.bool_inv {K : PySem.W.Frag} {Y : Hp} {v : V} {b : Bool} (h : Dr K Y v (.bool b)) : v = .bl b := by cases h; rfl
theorem Dr.str_inv {K : PySem.W.Frag} {Y : Hp} {v : V} {x : Str} (h : Dr K Y v (.str x)) : v = .str x := by cases h; rfl
theorem Dr.none_inv {K : PySem.W.Frag} {Y : Hp} {v : V} (h : Dr K Y v .none) : v = .non := by cases h; rfl
theorem Dr.list_inv {K : PySem.W.Frag} {Y : Hp} {v : V} {ds : List D} (h : Dr K Y v (.list ds)) : ∃ a xs, v = .ref a ∧ Y a = some (.lst xs) ∧ DrAll K Y xs ds := by
  cases h with | lst a b => exact ⟨_, _, rfl, a, b⟩
theorem Dr.tuple_inv {K : PySem.W.Frag} {Y : Hp} {v : V} {ds : List D} (h : Dr K Y v (.tuple ds)) : ∃ a xs, v = .ref a ∧ SqT K Y a xs ∧ DrAll K Y xs ds := by
  cases h with | tup a b => exact ⟨_, _, rfl, a, b⟩
theorem DrAll.ints {K : PySem.W.Frag} {Y : Hp} : ∀ {vs : List V} {ns : List Int}, DrAll K Y vs (ns.map PyData.int) → vs = ns.map V.int
  | _, [], h => by cases h; rfl
  | _, n :: ns, h => by
    cases h with
    | cons a t => rw [a.int_inv, t.ints]; rfl
theorem DrAll.of_ints {K : PySem.W.Frag} {Y : Hp} : ∀ (ns : List Int), DrAll K Y (ns.map V.int) (ns.map PyData.int)
  | [] => .nil
  | n :: ns => .cons (.int n) (.of_ints ns)

def lockD (ds : List D) : D := .dict [(.none, .list ds)]
theorem Dr.lock_inv {K : PySem.W.Frag} {Y : Hp} {v : V} {ds : List D} (h : Dr K Y v (lockD ds)) : ∃ a xs, v = .ref a ∧ SqL K Y a xs ∧ DrAll K Y xs ds := by
  have key : ∀ (p : Key), keyD p ≠ .none := fun p => by cases p <;> (intro z; cases z)
  unfold lockD at h
  generalize e : PyData.dict [(PyData.none, PyData.list ds)] = d at h
  cases h with
  | lck a b =>
    injection e with e
    injection e with e1 _
    injection e1 with _ e2
    injection e2 with e2
    subst e2
    exact ⟨_, _, rfl, a, b⟩
  | @dk a kvs ds' h1 h2 =>
    injection e with e
    cases kvs with
    | nil => cases e
    | cons q r =>
      cases ds' with
      | nil => cases e
      | cons d ds' =>
        injection e with e1 _
        injection e1 with e1 _
        exact (key _ e1.symm).elim
  | @dt a kvs ds' h1 h2 =>
    injection e with e
    cases kvs with
    | nil => cases e
    | cons q r =>
      cases ds' with
      | nil => cases e
      | cons d ds' =>
        injection e with e1 _
        injection e1 with e1 _
        cases e1
  | _ => cases e

/-! ### data without lists or dicts: it leans on tuples alone -/
mutual
def free : D → Bool
  | .none => true
  | .bool _ => true
  | .int _ => true
  | .str _ => true
  | .list _ => false
  | .dict _ => false
  | .tuple ds => freeAll ds
def freeAll : List D → Bool
  | [] => true
  | d :: ds => free d && freeAll ds
end
theorem freeAll_iff : ∀ {ds : List D}, freeAll ds = true ↔ ∀ d ∈ ds, free d = true
  | [] => by simp [freeAll]
  | d :: ds => by
    rw [freeAll, Bool.and_eq_true, freeAll_iff]
    simp
theorem freeAll_append {xs ys : List D} : freeAll (xs ++ ys) = (freeAll xs && freeAll ys) := by
  rw [Bool.eq_iff_iff, Bool.and_eq_true, freeAll_iff, freeAll_iff, freeAll_iff]
  simp only [List.mem_append]
  exact ⟨fun h => ⟨fun d q => h d (.inl q), fun d q => h d (.inr q)⟩, fun h d q => q.elim (h.1 d) (h.2 d)⟩
theorem freeAll_map {α : Type} {f : α → D} (h : ∀ a, free (f a) = true) (xs : List α) : freeAll (xs.map f) = true := by
  rw [freeAll_iff]
  intro d hd
  obtain ⟨a, _, rfl⟩ := List.mem_map.mp hd
  exact h a

/-! the view without the addresses in G -/
open Classical in
noncomputable def cut (Y : Hp) (G : Addr → Prop) : Hp := fun a => if G a then none else Y a
theorem cut_in {Y : Hp} {G : Addr → Prop} {a : Addr} (h : G a) : cut Y G a = none := by unfold cut; rw [if_pos h]
theorem cut_out {Y : Hp} {G : Addr → Prop} {a : Addr} (h : ¬ G a) : cut Y G a = Y a := by unfold cut; rw [if_neg h]
theorem cut_same {Y : Hp} {G : Addr → Prop} : Same (cut Y G) Y := fun a o h => by
  by_cases g : G a
  · rw [cut_in g] at h; cases h
  · rw [cut_out g] at h; exact h
/-- no tuple stands in G -/
def NoTup (Y : Hp) (G : Addr → Prop) : Prop := ∀ a xs, G a → ¬ Rd Y a (.tup xs)
theorem cut_sqt {K : PySem.W.Frag} {Y : Hp} {G : Addr → Prop} {a : Addr} {xs : List V} (n : NoTup Y G) (h : SqT K Y a xs) : SqT K (cut Y G) a xs := by
  rcases h with h | h
  · have g : ¬ G a := fun g => n a xs g h
    refine .inl ?_
    rcases h with h | ⟨o, h⟩
    · exact .inl (by rw [cut_out g]; exact h)
    · exact .inr ⟨o, by rw [cut_out g]; exact h⟩
  · exact .inr h
mutual
theorem Dr.cut {K : PySem.W.Frag} {Y : Hp} {G : Addr → Prop} (n : NoTup Y G) : ∀ {v : V} {d : D}, Dr K Y v d → free d = true → Dr K (cut Y G) v d
  | _, _, .non, _ => .non
  | _, _, .bl b, _ => .bl b
  | _, _, .int i, _ => .int i
  | _, _, .str x, _ => .str x
  | _, _, .lst _ _, f => by simp [free] at f
  | _, _, .lck _ _, f => by simp [free] at f
  | _, _, .tup h t, f => .tup (cut_sqt n h) (DrAll.cut n t (by simpa [free] using f))
  | _, _, .dk _ _, f => by simp [free] at f
  | _, _, .dt _ _, f => by simp [free] at f
theorem DrAll.cut {K : PySem.W.Frag} {Y : Hp} {G : Addr → Prop} (n : NoTup Y G) : ∀ {vs : List V} {ds : List D}, DrAll K Y vs ds → freeAll ds = true → DrAll K (cut Y G) vs ds
  | _, _, .nil, _ => .nil
  | _, _, .cons h t, f => by
    rw [freeAll, Bool.and_eq_true] at f
    exact .cons (h.cut n f.1) (t.cut n f.2)
end

/-! ### owned values -/
inductive OD where
  | fz (d : D)
  | ol (xs : List D)
  | on (xs : List OD)
  | od (kvs : List (D × D))
mutual
def OD.frz : OD → D
  | .fz d => d
  | .ol xs => .list xs
  | .on xs => .list (frzAll xs)
  | .od kvs => .dict kvs
def frzAll : List OD → List D
  | [] => []
  | o :: os => o.frz :: frzAll os
end
theorem frzAll_length : ∀ {os : List OD}, (frzAll os).length = os.length
  | [] => rfl
  | _ :: os => by rw [frzAll, List.length_cons, List.length_cons, frzAll_length]
theorem frzAll_get : ∀ {os : List OD} {i : Nat}, (frzAll os)[i]? = os[i]?.map OD.frz
  | [], _ => by simp [frzAll]
  | o :: os, 0 => by simp [frzAll]
  | o :: os, i + 1 => by
    rw [frzAll]
    simpa using frzAll_get (os := os) (i := i)
mutual
/-- the leaves are free data -/
def OD.free : OD → Bool
  | .fz d => MI.free d
  | .ol xs => freeAll xs
  | .on xs => ofreeAll xs
  | .od kvs => freeAll (kvs.map (·.1)) && freeAll (kvs.map (·.2))
def ofreeAll : List OD → Bool
  | [] => true
  | o :: os => o.free && ofreeAll os
end
theorem ofreeAll_iff : ∀ {os : List OD}, ofreeAll os = true ↔ ∀ o ∈ os, o.free = true
  | [] => by simp [ofreeAll]
  | o :: os => by
    rw [ofreeAll, Bool.and_eq_true, ofreeAll_iff]
    simp

/-- v is od: its leaves over Y, its own objects (F) at H -/
inductive RO (K : PySem.W.Frag) (Y H : Hp) : V → OD → (Addr → Prop) → Prop
  | fz {v : V} {d : D} : Dr K Y v d → RO K Y H v (.fz d) (fun _ => False)
  | ol {p : Addr} {vs : List V} {ds : List D} : H p = some (.lst vs) → DrAll K Y vs ds → RO K Y H (.ref p) (.ol ds) (fun a => a = p)
  | on {p : Addr} {vs : List V} {os : List OD} (g : Nat → Addr → Prop) : H p = some (.lst vs) → vs.length = os.length →
      (∀ i o v, os[i]? = some o → vs[i]? = some v → RO K Y H v o (g i)) → (∀ i, ¬ g i p) → (∀ i j a, g i a → g j a → i = j) → (∀ i a, g i a → i < os.length) →
      RO K Y H (.ref p) (.on os) (fun a => a = p ∨ ∃ i, g i a)
  | dk {p : Addr} {kvs : List (Key × V)} {ds : List D} : H p = some (.dK kvs) → DrAll K Y (kvs.map (·.2)) ds → RO K Y H (.ref p) (.od ((kvs.map fun q => keyD q.1).zip ds)) (fun a => a = p)
  | dt {p : Addr} {kvs : List (List Key × V)} {ds : List D} : H p = some (.dT kvs) → DrAll K Y (kvs.map (·.2)) ds → RO K Y H (.ref p) (.od ((kvs.map fun q => tkeyD q.1).zip ds)) (fun a => a = p)

/-- an object that may be owned -/
def Ownable : HO → Prop
  | .lst _ => True
  | .dK _ => True
  | .dT _ => True
  | _ => False
theorem RO.ownable {K : PySem.W.Frag} {Y H : Hp} {v : V} {o : OD} {F : Addr → Prop} (r : RO K Y H v o F) : ∀ a, F a → ∃ u, H a = some u ∧ Ownable u := by
  induction r with
  | fz h => intro a f; exact f.elim
  | ol h t => rintro a rfl; exact ⟨_, h, trivial⟩
  | on g h hl hi hp hd hb ih =>
    rintro a (rfl | ⟨i, f⟩)
    · exact ⟨_, h, trivial⟩
    · have hlt := hb i a f
      exact ih i _ _ (List.getElem?_eq_getElem hlt) (List.getElem?_eq_getElem (by omega)) a f
  | dk h t => rintro a rfl; exact ⟨_, h, trivial⟩
  | dt h t => rintro a rfl; exact ⟨_, h, trivial⟩

theorem RO.mono {K : PySem.W.Frag} {Y H Y' H' : Hp} {v : V} {o : OD} {F : Addr → Prop} (r : RO K Y H v o F) (e : Same Y Y') (k : ∀ a, F a → H' a = H a) : RO K Y' H' v o F := by
  induction r with
  | fz h => exact .fz (h.mono e)
  | ol h t => exact .ol ((k _ rfl).trans h) (t.mono e)
  | on g h hl hi hp hd hb ih => exact .on g ((k _ (.inl rfl)).trans h) hl (fun i o v ho hv => ih i o v ho hv fun a f => k a (.inr ⟨i, f⟩)) hp hd hb
  | dk h t => exact .dk ((k _ rfl).trans h) (t.mono e)
  | dt h t => exact .dt ((k _ rfl).trans h) (t.mono e)
theorem RO.toD {K : PySem.W.Frag} {Y H Y' : Hp} {v : V} {o : OD} {F : Addr → Prop} (r : RO K Y H v o F) (e : Same Y Y') (k : ∀ a, F a → Y' a = H a) : Dr K Y' v o.frz := by
  induction r with
  | fz h => exact h.mono e
  | ol h t => exact .lst ((k _ rfl).trans h) (t.mono e)
  | @on p vs os g h hl hi hp hd hb ih =>
    refine .lst ((k _ (.inl rfl)).trans h) ?_
    have all : ∀ (n : Nat) (ws : List V) (ps : List OD), ws = vs.drop n → ps = os.drop n → DrAll K Y' ws (frzAll ps) := by
      intro n ws
      induction ws generalizing n with
      | nil =>
        intro ps e1 e2
        have z : os.length ≤ n := by
          rw [← hl]
          have := congrArg List.length e1
          rw [List.length_nil, List.length_drop] at this
          omega
        rw [e2, List.drop_eq_nil_of_le z]
        exact .nil
      | cons w ws iw =>
        intro ps e1 e2
        have hn : n < vs.length := by
          have := congrArg List.length e1
          rw [List.length_cons, List.length_drop] at this
          omega
        have hn2 : n < os.length := by omega
        rw [List.drop_eq_getElem_cons hn] at e1
        rw [List.drop_eq_getElem_cons hn2] at e2
        injection e1 with a1 a2
        subst e2
        rw [frzAll]
        refine .cons ?_ (iw (n + 1) _ a2 rfl)
        rw [a1]
        exact ih n _ _ (List.getElem?_eq_getElem hn2) (List.getElem?_eq_getElem hn) fun a f => k a (.inr ⟨n, f⟩)
    exact all 0 vs os rfl rfl
  | dk h t => exact .dk ((k _ rfl).trans h) (t.mono e)
  | dt h t => exact .dt ((k _ rfl).trans h) (t.mono e)
theorem freeAll_zip : ∀ {xs ys : List D}, xs.length = ys.length → freeAll ((xs.zip ys).map (·.2)) = freeAll ys
  | [], [], _ => rfl
  | x :: xs, y :: ys, h => by
    rw [List.zip_cons_cons, List.map_cons, freeAll, freeAll, freeAll_zip (by simpa using h)]
  | [], _ :: _, h => by simp at h
  | _ :: _, [], h => by simp at h
theorem RO.cut {K : PySem.W.Frag} {Y H : Hp} {v : V} {o : OD} {F G : Addr → Prop} (r : RO K Y H v o F) (n : NoTup Y G) (f : o.free = true) : RO K (cut Y G) H v o F := by
  induction r with
  | fz h => exact .fz (h.cut n f)
  | ol h t => exact .ol h (t.cut n f)
  | on g h hl hi hp hd hb ih =>
    have fa := ofreeAll_iff.mp (show ofreeAll _ = true from f)
    exact .on g h hl (fun i o v ho hv => ih i o v ho hv (fa o (List.mem_of_getElem? ho))) hp hd hb
  | dk h t =>
    rw [OD.free, Bool.and_eq_true, freeAll_zip (by have := t.length; simp at this; simpa using this)] at f
    exact .dk h (t.cut n f.2)
  | dt h t =>
    rw [OD.free, Bool.and_eq_true, freeAll_zip (by have := t.length; simp at this; simpa using this)] at f
    exact .dt h (t.cut n f.2)

theorem RO.fz_inv {K : PySem.W.Frag} {Y H : Hp} {v : V} {d : D} {F : Addr → Prop} (r : RO K Y H v (.fz d) F) : Dr K Y v d := by
  cases r with
  | fz h => exact h
theorem RO.fz_own {K : PySem.W.Frag} {Y H : Hp} {v : V} {d : D} {F : Addr → Prop} (r : RO K Y H v (.fz d) F) {a : Addr} : ¬ F a := by
  cases r with
  | fz h => exact fun z => z
theorem RO.ol_inv {K : PySem.W.Frag} {Y H : Hp} {v : V} {ds : List D} {F : Addr → Prop} (r : RO K Y H v (.ol ds) F) : ∃ p vs, v = .ref p ∧ H p = some (.lst vs) ∧ DrAll K Y vs ds ∧ ∀ a, F a ↔ a = p := by
  cases r with
  | ol h t => exact ⟨_, _, rfl, h, t, fun _ => Iff.rfl⟩
theorem RO.on_inv {K : PySem.W.Frag} {Y H : Hp} {v : V} {os : List OD} {F : Addr → Prop} (r : RO K Y H v (.on os) F) : ∃ (p : Addr) (vs : List V) (g : Nat → Addr → Prop), v = .ref p ∧ H p = some (.lst vs) ∧ vs.length = os.length ∧
    (∀ i o v, os[i]? = some o → vs[i]? = some v → RO K Y H v o (g i)) ∧ (∀ i, ¬ g i p) ∧ (∀ i j a, g i a → g j a → i = j) ∧ (∀ i a, g i a → i < os.length) ∧ ∀ a, F a ↔ (a = p ∨ ∃ i, g i a) := by
  cases r with
  | on g h a b c d e => exact ⟨_, _, g, rfl, h, a, b, c, d, e, fun _ => Iff.rfl⟩
theorem RO.iff {K : PySem.W.Frag} {Y H : Hp} {v : V} {o : OD} {F G : Addr → Prop} (r : RO K Y H v o F) (e : ∀ a, F a ↔ G a) : RO K Y H v o G := by
  have : F = G := funext fun a => propext (e a)
  exact this ▸ r

/-! ### the frame relation -/
structure Fx where
  K : PySem.W.Frag
  H0 : Hp
  Z0 : Hp
  ma : Addr → Prop
abbrev S := List (Option OD)
abbrev Own := Nat ⊕ Nat → Addr → Prop
structure Rel (ξ : Fx) (Y H : Hp) (σ : St) (s : S) (tv : List V) (ts : List OD) (g : Own) : Prop where
  slot : ∀ i o, s[i]? = some (some o) → ∃ v, σ[i]? = some (some v) ∧ RO ξ.K Y H v o (g (.inl i))
  temp : ∀ j o, ts[j]? = some o → ∃ v, tv[j]? = some v ∧ RO ξ.K Y H v o (g (.inr j))
  own : ∀ i a, g i a → H a ≠ none ∧ Y a = none ∧ (ξ.H0 a = none ∨ ξ.ma a)
  sep : ∀ i j a, g i a → g j a → i = j
structure FS (ξ : Fx) (Y H : Hp) (σ : St) (s : S) (tv : List V) (ts : List OD) : Prop where
  sub : Same Y H
  z0 : Same ξ.Z0 Y
  fresh : ∀ a, Y a ≠ none → ξ.Z0 a ≠ none ∨ ξ.H0 a = none ∨ ξ.ma a
  keep : ∀ a o, ξ.H0 a = some o → ¬ ξ.ma a → H a = some o
  live : ∀ a, ξ.H0 a ≠ none → H a ≠ none
  len : s.length = σ.length
  tlen : ts.length = tv.length
  rel : ∃ g, Rel ξ Y H σ s tv ts g

section
variable {ξ : Fx} {Y H Y' H' : Hp} {σ : St} {s : S} {tv : List V} {ts : List OD} {v : V} {o : OD} {d : D} {p : Addr}
theorem same_none {A B : Hp} (e : Same A B) {a : Addr} (h : B a = none) : A a = none := e.free h
/-- the heap has grown, the view with it -/
theorem FS.grow (F : FS ξ Y H σ s tv ts) (hh : Same H H') (hy : Same Y Y') (hs : Same Y' H') (hf : ∀ a, Y' a ≠ none → Y a ≠ none ∨ H a = none) : FS ξ Y' H' σ s tv ts := by
  obtain ⟨g, R⟩ := F.rel
  refine ⟨hs, F.z0.trans hy, fun a h => ?_, fun a o h m => hh _ _ (F.keep a o h m), fun a h z => F.live a h (hh.free z), F.len, F.tlen, g, ?_⟩
  · rcases hf a h with q | q
    · exact F.fresh a q
    · by_cases m : ξ.H0 a = none
      · exact .inr (.inl m)
      · exact (F.live a m q).elim
  · have kk : ∀ i a, g i a → H' a = H a := fun i a f => by
      obtain ⟨h1, _, _⟩ := R.own i a f
      cases e : H a with
      | none => exact (h1 e).elim
      | some u => exact hh _ _ e
    refine ⟨fun i o h => ?_, fun j o h => ?_, fun i a f => ?_, R.sep⟩
    · obtain ⟨v, e, r⟩ := R.slot i o h
      exact ⟨v, e, r.mono hy fun a f => kk _ a f⟩
    · obtain ⟨v, e, r⟩ := R.temp j o h
      exact ⟨v, e, r.mono hy fun a f => kk _ a f⟩
    · obtain ⟨h1, h2, h3⟩ := R.own i a f
      refine ⟨fun z => h1 (hh.free z), ?_, h3⟩
      cases e : Y' a with
      | none => rfl
      | some u =>
        rcases hf a (by rw [e]; simp) with q | q
        · exact (q h2).elim
        · exact (h1 q).elim
theorem FS.frozen (F : FS ξ Y H σ s tv ts) {i : Nat} (h : s[i]? = some (some (.fz d))) : ∃ v, σ[i]? = some (some v) ∧ Dr ξ.K Y v d := by
  obtain ⟨g, R⟩ := F.rel
  obtain ⟨v, e, r⟩ := R.slot i _ h
  exact ⟨v, e, r.fz_inv⟩
/-- a new tuple -/
theorem same_upd {H : Hp} {p : Addr} {o : HO} (h : H p = none) : Same H (upd H p o) := fun b x e => by
  rw [upd_ne (ne_of_none e h)]
  exact e
theorem upd_mono {A B : Hp} {p : Addr} {o : HO} (e : Same A B) : Same (upd A p o) (upd B p o) := fun b x h => by
  by_cases q : b = p
  · subst q; rw [upd_same] at h ⊢; exact h
  · rw [upd_ne q] at h ⊢; exact e _ _ h
theorem FS.newF (F : FS ξ Y H σ s tv ts) (hp : H p = none) (u : HO) : FS ξ (upd Y p u) (upd H p u) σ s tv ts :=
  F.grow (same_upd hp) (same_upd (F.sub.free hp)) (upd_mono F.sub) fun a h => by
    by_cases q : a = p
    · subst q; exact .inr hp
    · rw [upd_ne q] at h; exact .inl h
/-- a new object that is not looked at any more -/
theorem FS.newJ (F : FS ξ Y H σ s tv ts) (hp : H p = none) (u : HO) : FS ξ Y (upd H p u) σ s tv ts :=
  F.grow (same_upd hp) (Same.refl _) (F.sub.trans (same_upd hp)) fun a h => .inl h

/-! the view Y with what stands in G -/
open Classical in
noncomputable def add (Y H : Hp) (G : Addr → Prop) : Hp := fun a => if G a then H a else Y a
theorem add_in {Y H : Hp} {G : Addr → Prop} {a : Addr} (h : G a) : add Y H G a = H a := by unfold add; rw [if_pos h]
theorem add_out {Y H : Hp} {G : Addr → Prop} {a : Addr} (h : ¬ G a) : add Y H G a = Y a := by unfold add; rw [if_neg h]
theorem add_sub {Y H : Hp} {G : Addr → Prop} (e : Same Y H) : Same (add Y H G) H := fun a o h => by
  by_cases g : G a
  · rw [add_in g] at h; exact h
  · rw [add_out g] at h; exact e _ _ h
theorem add_same {Y H : Hp} {G : Addr → Prop} (e : Same Y H) : Same Y (add Y H G) := fun a o h => by
  by_cases g : G a
  · rw [add_in g]; exact e _ _ h
  · rw [add_out g]; exact h

/-- the same heap, owned otherwise -/
theorem FS.re (F : FS ξ Y H σ s tv ts) {g : Own} (R : Rel ξ Y H σ s tv ts g) {Y' : Hp} {σ' : St} {s' : S} {tv' : List V} {ts' : List OD} (g' : Own) (hy : Same Y Y') (hs : Same Y' H) (hf : ∀ a, Y' a ≠ none → Y a ≠ none ∨ ∃ i, g i a)
    (hg : ∀ i a, g' i a → Y' a = none ∧ ∃ k, g k a) (sep : ∀ i j a, g' i a → g' j a → i = j) (len : s'.length = σ'.length) (tlen : ts'.length = tv'.length)
    (slot : ∀ i o, s'[i]? = some (some o) → ∃ v, σ'[i]? = some (some v) ∧ RO ξ.K Y' H v o (g' (.inl i))) (temp : ∀ j o, ts'[j]? = some o → ∃ v, tv'[j]? = some v ∧ RO ξ.K Y' H v o (g' (.inr j))) :
    FS ξ Y' H σ' s' tv' ts' := by
  refine ⟨hs, F.z0.trans hy, fun a h => ?_, F.keep, F.live, len, tlen, g', slot, temp, fun i a f => ?_, sep⟩
  · rcases hf a h with q | ⟨i, q⟩
    · exact F.fresh a q
    · exact .inr (R.own i a q).2.2
  · obtain ⟨h1, k, h2⟩ := hg i a f
    exact ⟨(R.own k a h2).1, h1, (R.own k a h2).2.2⟩

theorem getElem?_snoc {α : Type} {l : List α} {x : α} {i : Nat} {y : α} (h : (l ++ [x])[i]? = some y) : l[i]? = some y ∨ (i = l.length ∧ y = x) := by
  rw [List.getElem?_append] at h
  split at h
  · exact .inl h
  · rename_i q
    have : i - l.length = 0 := by
      cases e : i - l.length with
      | zero => rfl
      | succ n => rw [e] at h; simp at h
    rw [this] at h
    simp at h
    exact .inr ⟨by omega, h.symm⟩
theorem snoc_old {α : Type} {l : List α} {x y : α} {i : Nat} (h : l[i]? = some y) : (l ++ [x])[i]? = some y := by
  have : i < l.length := by
    rcases Nat.lt_or_ge i l.length with q | q
    · exact q
    · rw [List.getElem?_eq_none q] at h; cases h
  rw [List.getElem?_append_left this]
  exact h
theorem snoc_new {α : Type} {l : List α} {x : α} : (l ++ [x])[l.length]? = some x := by
  rw [List.getElem?_append_right (Nat.le_refl _), Nat.sub_self]; rfl
theorem lt_of_get {α : Type} {l : List α} {i : Nat} {y : α} (h : l[i]? = some y) : i < l.length := by
  rcases Nat.lt_or_ge i l.length with q | q
  · exact q
  · rw [List.getElem?_eq_none q] at h; cases h

/-- the temps' g without index k -/
def without (g : Own) (k : Nat ⊕ Nat) : Own := fun i a => i ≠ k ∧ g i a

/-- frozen data as a temp -/
theorem FS.pushD (F : FS ξ Y H σ s tv ts) (h : Dr ξ.K Y v d) : FS ξ Y H σ s (tv ++ [v]) (ts ++ [.fz d]) := by
  obtain ⟨g, R⟩ := F.rel
  refine F.re R (without g (.inr ts.length)) (Same.refl _) F.sub (fun a q => .inl q) (fun i a f => ⟨(R.own i a f.2).2.1, i, f.2⟩) (fun i j a f f' => R.sep i j a f.2 f'.2) F.len (by simp [F.tlen]) (fun i o e => ?_) fun j o e => ?_
  · obtain ⟨v, e1, r⟩ := R.slot i o e
    exact ⟨v, e1, r.iff fun a => ⟨fun f => ⟨(fun z => nomatch z), f⟩, fun f => f.2⟩⟩
  · rcases getElem?_snoc e with e | ⟨rfl, rfl⟩
    · obtain ⟨v, e1, r⟩ := R.temp j o e
      have hj := lt_of_get e
      exact ⟨v, snoc_old e1, r.iff fun a => ⟨fun f => ⟨fun z => by cases z; omega, f⟩, fun f => f.2⟩⟩
    · refine ⟨v, by rw [F.tlen]; exact snoc_new, (RO.fz h).iff fun a => ⟨fun f => f.elim, fun f => (f.1 rfl).elim⟩⟩
/-- a new owned object as a temp -/
theorem FS.pushN {u : HO} (F : FS ξ Y H σ s tv ts) (hp : H p = none) (h : RO ξ.K Y (upd H p u) v o (fun a => a = p)) : FS ξ Y (upd H p u) σ s (tv ++ [v]) (ts ++ [o]) := by
  have F1 := F.newJ hp u
  obtain ⟨g, R⟩ := F.rel
  have nog : ∀ i, ¬ g i p := fun i f => (R.own i p f).1 hp
  have kk : ∀ i a, g i a → upd H p u a = H a := fun i a f => upd_ne fun z => nog i (z ▸ f)
  refine ⟨F1.sub, F1.z0, F1.fresh, F1.keep, F1.live, F.len, by simp [F.tlen], fun i a => (i = .inr ts.length ∧ a = p) ∨ (i ≠ .inr ts.length ∧ g i a), fun i o e => ?_, fun j o e => ?_, fun i a f => ?_, fun i j a f f' => ?_⟩
  · obtain ⟨v, e1, r⟩ := R.slot i o e
    exact ⟨v, e1, (r.mono (Same.refl _) fun a f => kk _ a f).iff fun a => ⟨fun f => .inr ⟨(fun z => nomatch z), f⟩, fun f => f.elim (fun z => nomatch z.1) fun z => z.2⟩⟩
  · rcases getElem?_snoc e with e | ⟨rfl, rfl⟩
    · obtain ⟨v, e1, r⟩ := R.temp j o e
      have hj := lt_of_get e
      refine ⟨v, snoc_old e1, (r.mono (Same.refl _) fun a f => kk _ a f).iff fun a => ⟨fun f => .inr ⟨fun z => by cases z; omega, f⟩, fun f => f.elim (fun z => ?_) fun z => z.2⟩⟩
      obtain ⟨z, _⟩ := z
      cases z
      omega
    · exact ⟨v, by rw [F.tlen]; exact snoc_new, h.iff fun a => ⟨fun f => .inl ⟨rfl, f⟩, fun f => f.elim (fun z => z.2) fun z => (z.1 rfl).elim⟩⟩
  · rcases f with ⟨rfl, rfl⟩ | ⟨_, f⟩
    · refine ⟨by rw [upd_same]; simp, F.sub.free hp, ?_⟩
      by_cases m : ξ.H0 a = none
      · exact .inl m
      · exact (F.live a m hp).elim
    · have h1 := R.own i a f
      exact ⟨by rw [kk _ _ f]; exact h1.1, h1.2⟩
  · rcases f with ⟨rfl, rfl⟩ | ⟨n, f⟩
    · rcases f' with ⟨rfl, _⟩ | ⟨_, f'⟩
      · rfl
      · exact (nog j f').elim
    · rcases f' with ⟨rfl, rfl⟩ | ⟨_, f'⟩
      · exact (nog i f).elim
      · exact R.sep i j a f f'
theorem FS.pushL {vs : List V} {ds : List D} (F : FS ξ Y H σ s tv ts) (hp : H p = none) (h : DrAll ξ.K Y vs ds) : FS ξ Y (upd H p (.lst vs)) σ s (tv ++ [.ref p]) (ts ++ [.ol ds]) :=
  F.pushN hp (.ol upd_same h)
/-- the last temp is let go -/
theorem FS.freezeT (F : FS ξ Y H σ s (tv ++ [v]) (ts ++ [o])) : ∃ Y', Same Y Y' ∧ FS ξ Y' H σ s tv ts ∧ Dr ξ.K Y' v o.frz := by
  obtain ⟨g, R⟩ := F.rel
  have tl : ts.length = tv.length := by have := F.tlen; simpa using this
  obtain ⟨v', e, r⟩ := R.temp ts.length o snoc_new
  have ev : v' = v := by
    rw [tl, snoc_new] at e
    exact (Option.some.inj e).symm
  subst ev
  have hy : Same Y (add Y H (g (.inr ts.length))) := add_same F.sub
  have no : ∀ i a, i ≠ .inr ts.length → g i a → ¬ g (.inr ts.length) a := fun i a n f z => n (R.sep _ _ _ f z)
  refine ⟨_, hy, F.re R (without g (.inr ts.length)) hy (add_sub F.sub) (fun a q => ?_) (fun i a f => ⟨?_, i, f.2⟩) (fun i j a f f' => R.sep i j a f.2 f'.2) F.len tl (fun i o e => ?_) (fun j o e => ?_), r.toD hy fun a f => add_in f⟩
  · by_cases z : g (.inr ts.length) a
    · exact .inr ⟨_, z⟩
    · rw [add_out z] at q; exact .inl q
  · rw [add_out (no i a f.1 f.2)]; exact (R.own i a f.2).2.1
  · obtain ⟨v, e1, r⟩ := R.slot i o e
    exact ⟨v, e1, (r.mono hy fun a f => rfl).iff fun a => ⟨fun f => ⟨(fun z => nomatch z), f⟩, fun f => f.2⟩⟩
  · obtain ⟨v, e1, r⟩ := R.temp j o (snoc_old e)
    have hj := lt_of_get e
    refine ⟨v, ?_, (r.mono hy fun a f => rfl).iff fun a => ⟨fun f => ⟨fun z => by cases z; omega, f⟩, fun f => f.2⟩⟩
    rw [List.getElem?_append_left (by omega)] at e1
    exact e1
/-- the last temp goes to slot i -/
theorem FS.asgT (F : FS ξ Y H σ s (tv ++ [v]) (ts ++ [o])) (i : Nat) : FS ξ Y H (σ.set i (some v)) (s.set i (some o)) tv ts := by
  obtain ⟨g, R⟩ := F.rel
  have tl : ts.length = tv.length := by have := F.tlen; simpa using this
  obtain ⟨v', e, r⟩ := R.temp ts.length o snoc_new
  have ev : v' = v := by
    rw [tl, snoc_new] at e
    exact (Option.some.inj e).symm
  subst ev
  refine F.re R (fun k a => (k = .inl i ∧ g (.inr ts.length) a) ∨ (k ≠ .inl i ∧ k ≠ .inr ts.length ∧ g k a)) (Same.refl _) F.sub (fun a q => .inl q) (fun k a f => ?_) (fun k j a f f' => ?_) (by simp [F.len]) tl (fun j o e => ?_) (fun j o e => ?_)
  · rcases f with ⟨_, f⟩ | ⟨_, _, f⟩
    · exact ⟨(R.own _ a f).2.1, _, f⟩
    · exact ⟨(R.own _ a f).2.1, _, f⟩
  · rcases f with ⟨rfl, f⟩ | ⟨n1, n2, f⟩
    · rcases f' with ⟨rfl, _⟩ | ⟨_, n2, f'⟩
      · rfl
      · exact (n2 (R.sep _ _ _ f' f)).elim
    · rcases f' with ⟨rfl, f'⟩ | ⟨_, _, f'⟩
      · exact (n2 (R.sep _ _ _ f f')).elim
      · exact R.sep _ _ _ f f'
  · by_cases hj : j = i
    · subst hj
      have hlt : j < s.length := by
        have := lt_of_get e
        simpa using this
      rw [List.getElem?_set_self hlt] at e
      cases e
      refine ⟨v', List.getElem?_set_self (by rw [← F.len]; exact hlt), r.iff fun a => ⟨fun f => .inl ⟨rfl, f⟩, fun f => f.elim (fun z => z.2) fun z => (z.1 rfl).elim⟩⟩
    · rw [List.getElem?_set_ne (Ne.symm hj)] at e
      obtain ⟨v, e1, r⟩ := R.slot j o e
      refine ⟨v, by rw [List.getElem?_set_ne (Ne.symm hj)]; exact e1, r.iff fun a => ⟨fun f => .inr ⟨fun z => hj (Sum.inl.inj z), (fun z => nomatch z), f⟩, fun f => f.elim (fun z => (hj (Sum.inl.inj z.1)).elim) fun z => z.2.2⟩⟩
  · obtain ⟨v, e1, r⟩ := R.temp j o (snoc_old e)
    have hj := lt_of_get e
    refine ⟨v, ?_, r.iff fun a => ⟨fun f => .inr ⟨(fun z => nomatch z), fun z => by cases z; omega, f⟩, fun f => f.elim (fun z => nomatch z.1) fun z => z.2.2⟩⟩
    rw [List.getElem?_append_left (by omega)] at e1
    exact e1
theorem FS.asgD (F : FS ξ Y H σ s tv ts) (h : Dr ξ.K Y v d) (i : Nat) : FS ξ Y H (σ.set i (some v)) (s.set i (some (.fz d))) tv ts := (F.pushD h).asgT i
/-- a slot is let go -/
theorem FS.freezeS (F : FS ξ Y H σ s tv ts) {i : Nat} (h : s[i]? = some (some o)) : ∃ Y', Same Y Y' ∧ FS ξ Y' H σ (s.set i (some (.fz o.frz))) tv ts ∧ ∃ v, σ[i]? = some (some v) ∧ Dr ξ.K Y' v o.frz := by
  obtain ⟨g, R⟩ := F.rel
  obtain ⟨v, e, r⟩ := R.slot i o h
  have hy : Same Y (add Y H (g (.inl i))) := add_same F.sub
  have no : ∀ k a, k ≠ .inl i → g k a → ¬ g (.inl i) a := fun k a n f z => n (R.sep _ _ _ f z)
  have rd := r.toD hy fun a f => add_in f
  refine ⟨_, hy, F.re R (without g (.inl i)) hy (add_sub F.sub) (fun a q => ?_) (fun k a f => ⟨?_, k, f.2⟩) (fun k j a f f' => R.sep k j a f.2 f'.2) (by simp [F.len]) F.tlen (fun j o e => ?_) (fun j o e => ?_), v, e, rd⟩
  · by_cases z : g (.inl i) a
    · exact .inr ⟨_, z⟩
    · rw [add_out z] at q; exact .inl q
  · rw [add_out (no k a f.1 f.2)]; exact (R.own k a f.2).2.1
  · by_cases hj : j = i
    · subst hj
      rw [List.getElem?_set_self (lt_of_get h)] at e
      cases e
      exact ⟨v, ‹_›, (RO.fz rd).iff fun a => ⟨fun f => f.elim, fun f => (f.1 rfl).elim⟩⟩
    · rw [List.getElem?_set_ne (Ne.symm hj)] at e
      obtain ⟨v, e1, r⟩ := R.slot j o e
      exact ⟨v, e1, (r.mono hy fun a f => rfl).iff fun a => ⟨fun f => ⟨fun z => hj (Sum.inl.inj z), f⟩, fun f => f.2⟩⟩
  · obtain ⟨v, e1, r⟩ := R.temp j o e
    exact ⟨v, e1, (r.mono hy fun a f => rfl).iff fun a => ⟨fun f => ⟨(fun z => nomatch z), f⟩, fun f => f.2⟩⟩
/-- slots are forgotten -/
theorem FS.forget (F : FS ξ Y H σ s tv ts) {s' : S} (hl : s'.length = s.length) (h : ∀ (i : Nat) (o : OD), s'[i]? = some (some o) → s[i]? = some (some o)) : FS ξ Y H σ s' tv ts := by
  obtain ⟨g, R⟩ := F.rel
  exact F.re R g (Same.refl _) F.sub (fun a q => .inl q) (fun i a f => ⟨(R.own i a f).2.1, i, f⟩) R.sep (hl.trans F.len) F.tlen (fun i o e => R.slot i o (h i o e)) R.temp
/-- an owned list in slot i: read, and written -/
theorem FS.listS {ds : List D} (F : FS ξ Y H σ s tv ts) {i : Nat} (h : s[i]? = some (some (.ol ds))) : ∃ p vs, σ[i]? = some (some (.ref p)) ∧ H p = some (.lst vs) ∧ DrAll ξ.K Y vs ds ∧
    ∀ vs' ds', DrAll ξ.K Y vs' ds' → FS ξ Y (upd H p (.lst vs')) σ (s.set i (some (.ol ds'))) tv ts := by
  obtain ⟨g, R⟩ := F.rel
  obtain ⟨v, e, r⟩ := R.slot i _ h
  obtain ⟨p, vs, rfl, hp, hd, hF⟩ := r.ol_inv
  refine ⟨p, vs, e, hp, hd, fun vs' ds' h' => ?_⟩
  have gp : g (.inl i) p := (hF p).mpr rfl
  have no : ∀ k a, k ≠ .inl i → g k a → a ≠ p := fun k a n f z => n (R.sep _ _ _ f (z ▸ gp))
  have kk : ∀ k a, k ≠ .inl i → g k a → upd H p (.lst vs') a = H a := fun k a n f => upd_ne (no k a n f)
  obtain ⟨_, yp, op⟩ := R.own _ p gp
  refine ⟨fun a o q => ?_, F.z0, F.fresh, fun a o q m => ?_, fun a q => ?_, by simp [F.len], F.tlen, g, fun j o e => ?_, fun j o e => ?_, fun k a f => ?_, R.sep⟩
  · rw [upd_ne fun z => by rw [z, yp] at q; cases q]
    exact F.sub a o q
  · rw [upd_ne fun z => ?_]
    · exact F.keep a o q m
    · subst z
      rcases op with op | op
      · rw [op] at q; cases q
      · exact m op
  · by_cases z : a = p
    · subst z; rw [upd_same]; simp
    · rw [upd_ne z]; exact F.live a q
  · by_cases hj : j = i
    · subst hj
      rw [List.getElem?_set_self (lt_of_get h)] at e
      cases e
      exact ⟨.ref p, ‹_›, (RO.ol upd_same h').iff fun a => (hF a).symm⟩
    · rw [List.getElem?_set_ne (Ne.symm hj)] at e
      obtain ⟨v, e1, r⟩ := R.slot j o e
      exact ⟨v, e1, r.mono (Same.refl _) fun a f => kk _ a (fun z => hj (Sum.inl.inj z)) f⟩
  · obtain ⟨v, e1, r⟩ := R.temp j o e
    exact ⟨v, e1, r.mono (Same.refl _) fun a f => kk (.inr j) a (fun z => nomatch z) f⟩
  · have h1 := R.own k a f
    by_cases z : a = p
    · subst z; exact ⟨by rw [upd_same]; simp, h1.2⟩
    · exact ⟨by rw [upd_ne z]; exact h1.1, h1.2⟩
end
end MI

set_option Elab.async false
set_option linter.all false
set_option autoImplicit false
set_option maxRecDepth 100000
/-! MI: nested owned lists, lending, the judgements. -/
namespace MI
open PySem PySem.Spec L2
section
variable {ξ : Fx} {Y H Y' H' : Hp} {σ : St} {s : S} {tv : List V} {ts : List OD} {v : V} {o : OD} {d : D} {p : Addr}

/-- an owned object in slot i is written: general -/
theorem FS.writeS (F : FS ξ Y H σ s tv ts) {g : Own} (R : Rel ξ Y H σ s tv ts g) {i : Nat} {o' : OD} {u : HO} (hi : i < s.length) (hv : σ[i]? = some (some v)) (gp : g (.inl i) p)
    (h : RO ξ.K Y (upd H p u) v o' (g (.inl i))) : FS ξ Y (upd H p u) σ (s.set i (some o')) tv ts := by
  have no : ∀ k a, k ≠ .inl i → g k a → a ≠ p := fun k a n f z => n (R.sep _ _ _ f (z ▸ gp))
  have kk : ∀ k a, k ≠ .inl i → g k a → upd H p u a = H a := fun k a n f => upd_ne (no k a n f)
  obtain ⟨_, yp, op⟩ := R.own _ p gp
  refine ⟨fun a o q => ?_, F.z0, F.fresh, fun a o q m => ?_, fun a q => ?_, by simp [F.len], F.tlen, g, fun j o e => ?_, fun j o e => ?_, fun k a f => ?_, R.sep⟩
  · rw [upd_ne fun z => by rw [z, yp] at q; cases q]
    exact F.sub a o q
  · rw [upd_ne fun z => ?_]
    · exact F.keep a o q m
    · subst z
      rcases op with op | op
      · rw [op] at q; cases q
      · exact m op
  · by_cases z : a = p
    · subst z; rw [upd_same]; simp
    · rw [upd_ne z]; exact F.live a q
  · by_cases hj : j = i
    · subst hj
      rw [List.getElem?_set_self hi] at e
      cases e
      exact ⟨v, hv, h⟩
    · rw [List.getElem?_set_ne (Ne.symm hj)] at e
      obtain ⟨v, e1, r⟩ := R.slot j o e
      exact ⟨v, e1, r.mono (Same.refl _) fun a f => kk (.inl j) a (fun z => hj (Sum.inl.inj z)) f⟩
  · obtain ⟨v, e1, r⟩ := R.temp j o e
    exact ⟨v, e1, r.mono (Same.refl _) fun a f => kk (.inr j) a (fun z => nomatch z) f⟩
  · have h1 := R.own k a f
    by_cases z : a = p
    · subst z; exact ⟨by rw [upd_same]; simp, h1.2⟩
    · exact ⟨by rw [upd_ne z]; exact h1.1, h1.2⟩

theorem ro_same_index {K : PySem.W.Frag} {os : List OD} {vs : List V} {k : Nat} {o : OD} {v : V} {g : Nat → Addr → Prop} {P : V → OD → (Addr → Prop) → Prop} (ho : os[k]? = some o) (hv : vs[k]? = some v)
    (h : P v o (g k)) (h2 : ∀ i o v, i ≠ k → os[i]? = some o → vs[i]? = some v → P v o (g i)) : ∀ i o v, os[i]? = some o → vs[i]? = some v → P v o (g i) := fun i o' v' e1 e2 => by
  by_cases q : i = k
  · subst q
    rw [ho] at e1; rw [hv] at e2; cases e1; cases e2
    exact h
  · exact h2 i o' v' q e1 e2

/-- the k-th item of the owned list of owned things in slot i is read (a leaf) -/
theorem FS.nestGet {os : List OD} (F : FS ξ Y H σ s tv ts) {i k : Nat} (h : s[i]? = some (some (.on os))) (hk : os[k]? = some (.fz d)) :
    ∃ p vs v, σ[i]? = some (some (.ref p)) ∧ H p = some (.lst vs) ∧ vs.length = os.length ∧ vs[k]? = some v ∧ Dr ξ.K Y v d := by
  obtain ⟨g, R⟩ := F.rel
  obtain ⟨v, e, r⟩ := R.slot i _ h
  obtain ⟨p, vs, f, rfl, hp, hl, hi, hn, hd, hb, hF⟩ := r.on_inv
  have hkl : k < vs.length := by rw [hl]; exact lt_of_get hk
  exact ⟨p, vs, vs[k], e, hp, hl, List.getElem?_eq_getElem hkl, (hi k _ _ hk (List.getElem?_eq_getElem hkl)).fz_inv⟩
/-- .. is set to a leaf -/
theorem FS.nestSet {os : List OD} (F : FS ξ Y H σ s tv ts) {i k : Nat} (h : s[i]? = some (some (.on os))) (hk : k < os.length) (hd : Dr ξ.K Y v d) :
    ∃ p vs, σ[i]? = some (some (.ref p)) ∧ H p = some (.lst vs) ∧ vs.length = os.length ∧ FS ξ Y (upd H p (.lst (vs.set k v))) σ (s.set i (some (.on (os.set k (.fz d))))) tv ts := by
  obtain ⟨g, R⟩ := F.rel
  obtain ⟨v0, e, r⟩ := R.slot i _ h
  obtain ⟨p, vs, f, rfl, hp, hl, hi, hn, hs, hb, hF⟩ := r.on_inv
  refine ⟨p, vs, e, hp, hl, ?_⟩
  -- the child's own things are let go of (forgotten)
  let f' : Nat → Addr → Prop := fun j a => j ≠ k ∧ f j a
  let g' : Own := fun j a => (j = .inl i ∧ (a = p ∨ ∃ q, f' q a)) ∨ (j ≠ .inl i ∧ g j a)
  have up : ∀ q a, f q a → upd H p (.lst (vs.set k v)) a = H a := fun q a z => upd_ne fun w => hn q (w ▸ z)
  have R' : Rel ξ Y H σ (s.set i none) tv ts g' := by
    refine ⟨fun j o e => ?_, fun j o e => ?_, fun j a z => ?_, fun j l a z z' => ?_⟩
    · by_cases hj : j = i
      · subst hj
        rw [List.getElem?_set_self (lt_of_get h)] at e
        cases e
      · rw [List.getElem?_set_ne (Ne.symm hj)] at e
        obtain ⟨v, e1, r⟩ := R.slot j o e
        exact ⟨v, e1, r.iff fun a => ⟨fun z => .inr ⟨fun w => hj (Sum.inl.inj w), z⟩, fun z => z.elim (fun w => (hj (Sum.inl.inj w.1)).elim) fun w => w.2⟩⟩
    · obtain ⟨v, e1, r⟩ := R.temp j o e
      exact ⟨v, e1, r.iff fun a => ⟨fun z => .inr ⟨(fun w => nomatch w), z⟩, fun z => z.elim (fun w => nomatch w.1) fun w => w.2⟩⟩
    · rcases z with ⟨rfl, z⟩ | ⟨_, z⟩
      · refine R.own (.inl i) a ((hF a).mpr ?_)
        rcases z with z | ⟨q, z⟩
        · exact .inl z
        · exact .inr ⟨q, z.2⟩
      · exact R.own j a z
    · have low : ∀ j a, g' j a → g j a := fun j a z => by
        rcases z with ⟨rfl, z⟩ | ⟨_, z⟩
        · refine (hF a).mpr ?_
          rcases z with z | ⟨q, z⟩
          · exact .inl z
          · exact .inr ⟨q, z.2⟩
        · exact z
      exact R.sep _ _ _ (low _ _ z) (low _ _ z')
  have F2 : FS ξ Y H σ (s.set i none) tv ts := F.forget (by simp) fun j o e => by
    by_cases hj : j = i
    · subst hj
      rw [List.getElem?_set_self (lt_of_get h)] at e
      cases e
    · rw [List.getElem?_set_ne (Ne.symm hj)] at e
      exact e
  have w := F2.writeS (p := p) (u := .lst (vs.set k v)) (o' := .on (os.set k (.fz d))) R' (i := i) (by simpa using lt_of_get h) e (.inl ⟨rfl, .inl rfl⟩) ?_
  · rwa [List.set_set] at w
  · refine (RO.on f' upd_same (by simp [hl]) (fun j o w ho hw => ?_) (fun j z => hn j z.2) (fun j l a z z' => hs j l a z.2 z'.2) (fun j a z => by simpa using hb j a z.2)).iff fun a => ⟨fun z => .inl ⟨rfl, z⟩, fun z => z.elim (fun w => w.2) fun w => (w.1 rfl).elim⟩
    by_cases hj : j = k
    · subst hj
      rw [List.getElem?_set_self hk] at ho
      rw [List.getElem?_set_self (by omega)] at hw
      cases ho; cases hw
      exact (RO.fz hd).iff fun a => ⟨fun z => z.elim, fun z => (z.1 rfl).elim⟩
    · rw [List.getElem?_set_ne (Ne.symm hj)] at ho hw
      exact ((hi j o w ho hw).mono (Same.refl _) fun a z => up j a z).iff fun a => ⟨fun z => ⟨hj, z⟩, fun z => z.2⟩
/-- the k-th item is an owned list: read, and written -/
theorem FS.nestList {os : List OD} {ds : List D} (F : FS ξ Y H σ s tv ts) {i k : Nat} (h : s[i]? = some (some (.on os))) (hk : os[k]? = some (.ol ds)) :
    ∃ p vs q ws, σ[i]? = some (some (.ref p)) ∧ H p = some (.lst vs) ∧ vs.length = os.length ∧ vs[k]? = some (.ref q) ∧ H q = some (.lst ws) ∧ DrAll ξ.K Y ws ds ∧
      ∀ ws' ds', DrAll ξ.K Y ws' ds' → FS ξ Y (upd H q (.lst ws')) σ (s.set i (some (.on (os.set k (.ol ds'))))) tv ts := by
  obtain ⟨g, R⟩ := F.rel
  obtain ⟨v0, e, r⟩ := R.slot i _ h
  obtain ⟨p, vs, f, rfl, hp, hl, hi, hn, hs, hb, hF⟩ := r.on_inv
  have hkl : k < vs.length := by rw [hl]; exact lt_of_get hk
  obtain ⟨q, ws, ev, hq, hd, hf⟩ := (hi k _ _ hk (List.getElem?_eq_getElem hkl)).ol_inv
  have fq : f k q := (hf q).mpr rfl
  refine ⟨p, vs, q, ws, e, hp, hl, by rw [List.getElem?_eq_getElem hkl, ev], hq, hd, fun ws' ds' h' => ?_⟩
  refine F.writeS R (lt_of_get h) e ((hF q).mpr (.inr ⟨k, fq⟩)) ?_
  have np : p ≠ q := fun z => hn k (z ▸ fq)
  refine (RO.on f ((upd_ne np).trans hp) (by simp [hl]) (fun j o w ho hw => ?_) hn hs (fun j a z => by simpa using hb j a z)).iff fun a => (hF a).symm
  by_cases hj : j = k
  · subst hj
    rw [List.getElem?_set_self (lt_of_get hk)] at ho
    cases ho
    rw [List.getElem?_eq_getElem hkl] at hw
    cases hw
    rw [ev]
    exact (RO.ol upd_same h').iff fun a => (hf a).symm
  · rw [List.getElem?_set_ne (Ne.symm hj)] at ho
    exact (hi j o w ho hw).mono (Same.refl _) fun a z => upd_ne fun w => hj (hs _ _ _ z (w ▸ fq))

/-! ### lending: some slots are looked at as frozen, some are hidden -/
inductive Mode where
  | k | f | h
def b1 : Mode → Option OD → Option OD
  | .k, x => x
  | .f, x => x.map fun o => .fz o.frz
  | .h, some (.fz d) => some (.fz d)
  | .h, _ => none
def brw : List Mode → S → S
  | m :: ms, x :: xs => b1 m x :: brw ms xs
  | _, _ => []
def r1 : Mode → Option OD → Option OD → Option (Option OD)
  | .f, x, _ => some x
  | .h, x, _ => some x
  | .k, none, _ => some none
  | .k, some (.fz d), _ => some (some (.fz d))
  | .k, some _, some o => if o.free = true then some (some o) else none
  | .k, some _, none => none
def rst : List Mode → S → S → Option S
  | m :: ms, x :: xs, y :: ys => (r1 m x y).bind fun z => (rst ms xs ys).map fun zs => z :: zs
  | [], [], [] => some []
  | _, _, _ => none
theorem rst_get : ∀ {ms : List Mode} {xs ys zs : S}, rst ms xs ys = some zs → zs.length = xs.length ∧ ys.length = xs.length ∧ ms.length = xs.length ∧ ∀ (i : Nat) (m : Mode) (x : Option OD), ms[i]? = some m → xs[i]? = some x → ∃ y z, ys[i]? = some y ∧ r1 m x y = some z ∧ zs[i]? = some z
  | [], [], [], zs, h => by
    simp only [rst, Option.some.injEq] at h
    subst h
    exact ⟨rfl, rfl, rfl, fun i m x e => by simp at e⟩
  | m :: ms, x :: xs, y :: ys, zs, h => by
    simp only [rst] at h
    cases e1 : r1 m x y with
    | none => rw [e1] at h; simp at h
    | some z =>
      rw [e1] at h
      cases e2 : rst ms xs ys with
      | none => rw [e2] at h; simp at h
      | some zs' =>
        rw [e2] at h
        simp at h
        subst h
        obtain ⟨a, b, c, d⟩ := rst_get e2
        refine ⟨by simp [a], by simp [b], by simp [c], fun i m' x' h1 h2 => ?_⟩
        cases i with
        | zero =>
          simp at h1 h2
          subst h1; subst h2
          exact ⟨y, z, rfl, e1, rfl⟩
        | succ i =>
          simp at h1 h2
          obtain ⟨y', z', q1, q2, q3⟩ := d i m' x' h1 h2
          exact ⟨y', z', by simpa using q1, q2, by simpa using q3⟩
  | [], [], _ :: _, _, h => by simp [rst] at h
  | [], _ :: _, _, _, h => by simp [rst] at h
  | _ :: _, [], _, _, h => by simp [rst] at h
  | _ :: _, _ :: _, [], _, h => by simp [rst] at h
theorem brw_get : ∀ {ms : List Mode} {xs : S} {i : Nat} {y : Option OD}, (brw ms xs)[i]? = some y → ∃ m x, ms[i]? = some m ∧ xs[i]? = some x ∧ y = b1 m x
  | [], _, _, _, h => by simp [brw] at h
  | _ :: _, [], _, _, h => by simp [brw] at h
  | m :: ms, x :: xs, 0, y, h => by
    simp [brw] at h
    exact ⟨m, x, rfl, rfl, h.symm⟩
  | m :: ms, x :: xs, i + 1, y, h => by
    simp only [brw, List.getElem?_cons_succ] at h
    obtain ⟨m', x', a, b, c⟩ := brw_get h
    exact ⟨m', x', by simpa using a, by simpa using b, c⟩
theorem brw_length : ∀ {ms : List Mode} {xs : S}, ms.length = xs.length → (brw ms xs).length = xs.length
  | [], [], _ => rfl
  | [], _ :: _, h => by simp at h
  | _ :: _, [], h => by simp at h
  | m :: ms, x :: xs, h => by
    simp only [brw, List.length_cons]
    rw [brw_length (by simpa using h)]

/-- the frame lent: f's frozen, k's kept, h's hidden; and taken back -/
theorem FS.lend (F : FS ξ Y H σ s tv ts) {ms : List Mode} (hm : ms.length = s.length) : ∃ ξ' Y1, ξ'.K = ξ.K ∧ Same Y Y1 ∧ FS ξ' Y1 H σ (brw ms s) [] [] ∧
    ∀ Y' H' s' r tv' ts', Same Y1 Y' → FS ξ' Y' H' σ s' tv' ts' → rst ms s s' = some r → ofreeAll ts' = true → ∃ Y2, Same Y Y2 ∧ FS ξ Y2 H' σ r (tv ++ tv') (ts ++ ts') ∧ ∀ v d, Dr ξ.K Y' v d → free d = true → Dr ξ.K Y2 v d := by
  obtain ⟨g, R⟩ := F.rel
  let G : Addr → Prop := fun a => ∃ (i : Nat) (o : OD), ms[i]? = some .f ∧ s[i]? = some (some o) ∧ g (.inl i) a
  let M : Addr → Prop := fun a => ∃ (i : Nat) (o : OD), ms[i]? = some .k ∧ s[i]? = some (some o) ∧ g (.inl i) a
  have hGM : ∀ a, G a → ¬ M a := by
    rintro a ⟨i, o, a1, _, a3⟩ ⟨j, u, b1, _, b3⟩
    have e : i = j := Sum.inl.inj (R.sep _ _ _ a3 b3)
    subst e
    rw [a1] at b1
    cases b1
  have own_of : ∀ a, G a ∨ M a → H a ≠ none ∧ Y a = none ∧ (ξ.H0 a = none ∨ ξ.ma a) := by
    rintro a (⟨i, o, _, _, z⟩ | ⟨i, o, _, _, z⟩)
    · exact R.own _ a z
    · exact R.own _ a z
  have hy : Same Y (add Y H G) := add_same F.sub
  refine ⟨⟨ξ.K, H, add Y H G, M⟩, add Y H G, rfl, hy, ⟨add_sub F.sub, Same.refl _, fun a h => .inl h, fun a o h _ => h, fun a h => h, by rw [brw_length hm]; exact F.len, rfl, ?_⟩, ?_⟩
  · refine ⟨fun i a => ∃ (n : Nat) (o : OD), i = .inl n ∧ ms[n]? = some .k ∧ s[n]? = some (some o) ∧ g (.inl n) a, fun i o e => ?_, fun j o e => by simp at e, ?_, ?_⟩
    · obtain ⟨m, x, e1, e2, e3⟩ := brw_get e
      cases x with
      | none => cases m <;> simp [b1] at e3
      | some u =>
        obtain ⟨v, f1, r⟩ := R.slot i u e2
        refine ⟨v, f1, ?_⟩
        cases m with
        | k =>
          simp only [b1, Option.some.injEq] at e3
          subst e3
          exact (r.mono hy fun a _ => rfl).iff fun a => ⟨fun z => ⟨i, o, rfl, e1, e2, z⟩, fun z => by
            obtain ⟨n, o', q1, _, _, q4⟩ := z
            cases q1
            exact q4⟩
        | f =>
          simp only [b1, Option.map_some, Option.some.injEq] at e3
          subst e3
          refine (RO.fz (r.toD hy fun a z => add_in ⟨i, u, e1, e2, z⟩)).iff fun a => ⟨fun z => z.elim, fun z => ?_⟩
          obtain ⟨n, o', q1, q2, _, _⟩ := z
          cases q1
          rw [e1] at q2; cases q2
        | h =>
          cases u with
          | fz d =>
            simp only [b1, Option.some.injEq] at e3
            subst e3
            exact (RO.fz (r.fz_inv.mono hy)).iff fun a => ⟨fun z => z.elim, fun z => by
              obtain ⟨n, o', q1, q2, _, _⟩ := z
              cases q1
              rw [e1] at q2; cases q2⟩
          | ol _ => simp [b1] at e3
          | on _ => simp [b1] at e3
          | od _ => simp [b1] at e3
    · rintro i a ⟨n, o, rfl, q1, q2, q3⟩
      have hM : M a := ⟨n, o, q1, q2, q3⟩
      obtain ⟨h1, h2, h3⟩ := R.own _ a q3
      refine ⟨h1, ?_, .inr hM⟩
      rw [add_out fun z => hGM a z hM]
      exact h2
    · rintro i j a ⟨n, o, rfl, _, _, q3⟩ ⟨n', o', rfl, _, _, q3'⟩
      exact R.sep _ _ _ q3 q3'
  · intro Y' H' s' r tv' ts' hy' F' hr hfr
    have hfr := ofreeAll_iff.mp hfr
    obtain ⟨g', R'⟩ := F'.rel
    obtain ⟨l1, l2, l3, get⟩ := rst_get hr
    have nt : NoTup Y' G := by
      rintro a xs ⟨i, o, q1, q2, q3⟩ rd
      obtain ⟨v, _, r⟩ := R.slot i o q2
      obtain ⟨u, hu, ow⟩ := r.ownable a q3
      have y1 : Y' a = some u := hy' _ _ (by rw [add_in ⟨i, o, q1, q2, q3⟩]; exact hu)
      rcases rd with rd | ⟨ob, rd⟩
      · rw [y1] at rd; cases rd; exact ow
      · rw [y1] at rd; cases rd; exact ow
    have yG : ∀ a, G a → Y' a = H a := fun a z => by
      cases e : H a with
      | none => exact ((own_of a (.inl z)).1 e).elim
      | some u => exact hy' _ _ (by rw [add_in z]; exact e)
    have hG' : ∀ a, G a → H' a = H a := fun a z => by
      cases e : H a with
      | none => exact ((own_of a (.inl z)).1 e).elim
      | some u => exact F'.sub _ _ ((yG a z).trans e)
    -- what is not lent for writing stands
    have kk : ∀ i a, g i a → ¬ M a → H' a = H a := fun i a z nm => by
      cases e : H a with
      | none => exact ((R.own i a z).1 e).elim
      | some u => exact F'.keep a u e nm
    have y2 : Same Y (cut Y' G) := fun a o h => by
      have na : ¬ G a := fun z => by rw [(own_of a (.inl z)).2.1] at h; cases h
      rw [cut_out na]
      exact hy' _ _ (hy _ _ h)
    refine ⟨cut Y' G, y2, ⟨cut_same.trans F'.sub, F.z0.trans y2, fun a h => ?_, fun a o h m => ?_, fun a h => F'.live a (F.live a h), by rw [l1]; exact F.len, by rw [List.length_append, List.length_append, F.tlen, F'.tlen], ?_⟩, fun v d h f => h.cut nt f⟩
    · have na : ¬ G a := fun z => h (cut_in z)
      rw [cut_out na] at h
      rcases F'.fresh a h with q | q | q
      · rw [show (Fx.mk ξ.K H (add Y H G) M).Z0 a = Y a from add_out na] at q
        exact F.fresh a q
      · by_cases m : ξ.H0 a = none
        · exact .inr (.inl m)
        · exact (F.live a m q).elim
      · exact .inr (own_of a (.inr q)).2.2
    · refine F'.keep a o (F.keep a o h m) fun z => ?_
      rcases (own_of a (.inr z)).2.2 with q | q
      · rw [q] at h; cases h
      · exact m q
    · -- which slots are told anew
      let up : Nat ⊕ Nat → Nat ⊕ Nat := fun i => match i with
        | .inl n => .inl n
        | .inr j => .inr (j + ts.length)
      have upi : ∀ i j, up i = up j → i = j := by
        rintro (n | n) (m | m) h
        · exact congrArg Sum.inl (Sum.inl.inj h)
        · cases h
        · cases h
        · have : n + ts.length = m + ts.length := Sum.inr.inj h
          exact congrArg Sum.inr (by omega)
      let A : Nat ⊕ Nat → Prop := fun i => (∃ (n : Nat) (o : OD), i = .inl n ∧ ms[n]? = some .k ∧ s[n]? = some (some o) ∧ ∀ d, o ≠ .fz d) ∨ ∃ j, i = .inr (j + ts.length)
      let g2 : Own := fun i a => (A i ∧ ∃ i', up i' = i ∧ g' i' a) ∨ (¬ A i ∧ g i a)
      have notM : ∀ i a, ¬ A i → g i a → ¬ M a := by
        rintro i a nA z ⟨n, o, q1, q2, q3⟩
        have e := R.sep _ _ _ z q3
        subst e
        refine nA (.inl ⟨n, o, rfl, q1, q2, fun d e => ?_⟩)
        subst e
        obtain ⟨v, _, r⟩ := R.slot n _ q2
        exact r.fz_own q3
      have old : ∀ i a, ¬ A i → g i a → H' a = H a := fun i a nA z => kk i a z (notM i a nA z)
      refine ⟨g2, fun i o e => ?_, fun j o e => ?_, fun i a z => ?_, fun i j a z z' => ?_⟩
      · have hi : i < s.length := by rw [← l1]; exact lt_of_get e
        obtain ⟨y, z, e1, e2, e3⟩ := get i _ _ (List.getElem?_eq_getElem (by omega)) (List.getElem?_eq_getElem hi)
        rw [e] at e3
        cases e3
        generalize hx : s[i] = x at e2
        generalize hmm : ms[i]'(by omega) = m at e2
        have sx : s[i]? = some x := by rw [List.getElem?_eq_getElem hi, hx]
        have mx : ms[i]? = some m := by rw [List.getElem?_eq_getElem (by omega), hmm]
        have usual : ∀ (nA : ¬ A (.inl i)), s[i]? = some (some o) → ∃ v, σ[i]? = some (some v) ∧ RO ξ.K (cut Y' G) H' v o (g2 (.inl i)) := fun nA e => by
          obtain ⟨v, f1, r⟩ := R.slot i o e
          exact ⟨v, f1, (r.mono y2 fun a z => old _ a nA z).iff fun a => ⟨fun z => .inr ⟨nA, z⟩, fun z => z.elim (fun w => (nA w.1).elim) fun w => w.2⟩⟩
        have noA : (∀ o, m = .k → x = some o → ∃ d, o = .fz d) → ¬ A (.inl i) := by
          rintro h (⟨n, o', q1, q2, q3, q4⟩ | ⟨_, q⟩)
          rotate_left
          · cases q
          cases q1
          rw [mx] at q2
          rw [sx] at q3
          cases q2; cases q3
          obtain ⟨d, e⟩ := h o' rfl rfl
          exact q4 d e
        cases m with
        | f =>
          simp only [r1, Option.some.injEq] at e2
          subst e2
          exact usual (noA fun _ z => nomatch z) sx
        | h =>
          simp only [r1, Option.some.injEq] at e2
          subst e2
          exact usual (noA fun _ z => nomatch z) sx
        | k =>
          cases x with
          | none => simp [r1] at e2
          | some u =>
            by_cases hu : ∃ d, u = .fz d
            · obtain ⟨d, rfl⟩ := hu
              simp only [r1, Option.some.injEq] at e2
              subst e2
              exact usual (noA fun o _ z => ⟨d, by cases z; rfl⟩) sx
            · have hA : A (.inl i) := .inl ⟨i, u, rfl, mx, sx, fun d e => hu ⟨d, e⟩⟩
              cases y with
              | none =>
                cases u with
                | fz d => exact (hu ⟨d, rfl⟩).elim
                | ol _ => simp [r1] at e2
                | on _ => simp [r1] at e2
                | od _ => simp [r1] at e2
              | some w =>
                have e4 : w.free = true ∧ o = w := by
                  cases u with
                  | fz d => exact (hu ⟨d, rfl⟩).elim
                  | ol _ =>
                    simp only [r1] at e2
                    split at e2
                    · exact ⟨‹_›, by simpa using e2.symm⟩
                    · cases e2
                  | on _ =>
                    simp only [r1] at e2
                    split at e2
                    · exact ⟨‹_›, by simpa using e2.symm⟩
                    · cases e2
                  | od _ =>
                    simp only [r1] at e2
                    split at e2
                    · exact ⟨‹_›, by simpa using e2.symm⟩
                    · cases e2
                obtain ⟨wf, rfl⟩ := e4
                obtain ⟨v, f1, r⟩ := R'.slot i o e1
                exact ⟨v, f1, (r.cut nt wf).iff fun a => ⟨fun z => .inl ⟨hA, .inl i, rfl, z⟩, fun z => z.elim (fun w => by
                  obtain ⟨_, i', e', w⟩ := w
                  have : i' = .inl i := upi _ _ e'
                  subst this
                  exact w) fun w => (w.1 hA).elim⟩⟩
      · by_cases hj : j < ts.length
        rotate_left
        · rw [List.getElem?_append_right (by omega)] at e
          obtain ⟨v, f1, r⟩ := R'.temp (j - ts.length) o e
          have hA : A (.inr j) := .inr ⟨j - ts.length, by congr 1; omega⟩
          have hu : up (.inr (j - ts.length)) = .inr j := by
            show Sum.inr (j - ts.length + ts.length) = Sum.inr j
            congr 1; omega
          refine ⟨v, by rw [List.getElem?_append_right (by have := F.tlen; omega), ← F.tlen]; exact f1, (r.cut nt (hfr o (List.mem_of_getElem? e))).iff fun a => ⟨fun z => .inl ⟨hA, .inr (j - ts.length), hu, z⟩, fun z => z.elim (fun w => by
            obtain ⟨_, i', e', w⟩ := w
            have : i' = .inr (j - ts.length) := upi _ _ (e'.trans hu.symm)
            subst this
            exact w) fun w => (w.1 hA).elim⟩⟩
        rw [List.getElem?_append_left hj] at e
        obtain ⟨v, f1, r⟩ := R.temp j o e
        have nA : ¬ A (.inr j) := by
          rintro (⟨_, _, q, _⟩ | ⟨l, q⟩)
          · cases q
          · have : j = l + ts.length := Sum.inr.inj q
            omega
        have f1 : (tv ++ tv')[j]? = some v := by rw [List.getElem?_append_left (by have := F.tlen; omega)]; exact f1
        exact ⟨v, f1, (r.mono y2 fun a z => old _ a nA z).iff fun a => ⟨fun z => .inr ⟨nA, z⟩, fun z => z.elim (fun w => (nA w.1).elim) fun w => w.2⟩⟩
      · rcases z with ⟨hA, i', _, z⟩ | ⟨nA, z⟩
        · obtain ⟨h1, h2, h3⟩ := R'.own i' a z
          refine ⟨h1, ?_, ?_⟩
          · by_cases q : G a
            · exact cut_in q
            · rw [cut_out q]; exact h2
          · rcases h3 with h3 | h3
            · by_cases m : ξ.H0 a = none
              · exact .inl m
              · exact (F.live a m h3).elim
            · exact (own_of a (.inr h3)).2.2
        · obtain ⟨h1, h2, h3⟩ := R.own i a z
          refine ⟨by rw [old i a nA z]; exact h1, ?_, h3⟩
          by_cases q : G a
          · exact cut_in q
          · rw [cut_out q]
            cases e : Y' a with
            | none => rfl
            | some u =>
              rcases F'.fresh a (by rw [e]; simp) with w | w | w
              · rw [show (Fx.mk ξ.K H (add Y H G) M).Z0 a = Y a from add_out q] at w
                exact (w h2).elim
              · exact (h1 w).elim
              · exact (notM i a nA z w).elim
      · have mixed : ∀ i j, g' i a → ¬ A j → g j a → False := fun i j z nA z' => by
          rcases (R'.own i a z).2.2 with w | w
          · exact (R.own j a z').1 w
          · exact notM j a nA z' w
        rcases z with ⟨hA, i', e', z⟩ | ⟨nA, z⟩
        · rcases z' with ⟨hA', j', e2', z'⟩ | ⟨nA', z'⟩
          · rw [← e', ← e2', R'.sep _ _ _ z z']
          · exact (mixed _ _ z nA' z').elim
        · rcases z' with ⟨hA', j', e2', z'⟩ | ⟨nA', z'⟩
          · exact (mixed _ _ z' nA z).elim
          · exact R.sep _ _ _ z z'
end
end MI

set_option Elab.async false
set_option linter.all false
set_option autoImplicit false
set_option maxRecDepth 100000
/-! MI: the judgements; expressions. -/
namespace MI
open PySem PySem.Spec L2

/-- an own error: its class's name, its fields -/
structure Exn where
  cls : Str
  fs : List (Str × D)
inductive Res (α : Type) where
  | ok (a : α) (s : S)
  | ex (e : Exn) (s : S)
  | bad
def Res.bind {α β : Type} : Res α → (α → S → Res β) → Res β
  | .ok a s, f => f a s
  | .ex e s, _ => .ex e s
  | .bad, _ => .bad
@[simp] theorem Res.bind_ok {α β : Type} {a : α} {s : S} {f : α → S → Res β} : (Res.ok a s).bind f = f a s := Eq.trans rfl rfl
@[simp] theorem Res.bind_ex {α β : Type} {e : Exn} {s : S} {f : α → S → Res β} : (Res.ex e s).bind f = .ex e s := Eq.trans rfl rfl
@[simp] theorem Res.bind_bad {α β : Type} {f : α → S → Res β} : Res.bad.bind f = .bad := Eq.trans rfl rfl
def ofO {α : Type} (x : Option α) (s : S) : Res α := match x with
  | some a => .ok a s
  | none => .bad
abbrev EF := S → Res D
abbrev OF := S → Res OD
abbrev TF := S → Res Bool
abbrev AF := S → Res (List D)

structure Ct where
  K : PySem.W.Frag
  er : Exn → Value → Option Addr → Hp → Prop
  W : L2.WX

section
variable (c : Ct)
/-- what a result must give: at ok G, at an error the wish -/
def out (ξ : Fx) (Y : Hp) (σ : St) (tv : List V) (ts : List OD) {α : Type} (G : α → S → Prop) : Res α → Prop
  | .ok a s' => G a s'
  | .ex e s' => ∀ Y' H' cl x, Same Y Y' → FS ξ Y' H' σ s' tv ts → c.er e cl x H' → c.W cl x σ H'
  | .bad => False
theorem out.mono {ξ : Fx} {Y Y1 : Hp} {σ : St} {tv : List V} {ts : List OD} {α : Type} {G G' : α → S → Prop} {r : Res α} (h : out c ξ Y σ tv ts G r) (e : Same Y Y1) (g : ∀ a s, G a s → G' a s) : out c ξ Y1 σ tv ts G' r := by
  cases r with
  | ok a s => exact g a s h
  | ex x s => exact fun Y' H' cl q e' F er => h Y' H' cl q (e.trans e') F er
  | bad => exact h
/-- an expression's reading: data -/
def tE (f : EF) : TE := fun σ H Q => ∃ ξ Y s tv ts, ξ.K = c.K ∧ FS ξ Y H σ s tv ts ∧
  out c ξ Y σ tv ts (fun d s' => ∀ Y' H' v, Same Y Y' → FS ξ Y' H' σ s' tv ts → Dr c.K Y' v d → Q v H') (f s)
/-- .. owned -/
def tO (f : OF) : TE := fun σ H Q => ∃ ξ Y s tv ts, ξ.K = c.K ∧ FS ξ Y H σ s tv ts ∧
  out c ξ Y σ tv ts (fun o s' => ∀ Y' H' v, Same Y Y' → FS ξ Y' H' σ s' (tv ++ [v]) (ts ++ [o]) → Q v H') (f s)
def tT (f : TF) : TT := fun σ H Q => ∃ ξ Y s tv ts, ξ.K = c.K ∧ FS ξ Y H σ s tv ts ∧
  out c ξ Y σ tv ts (fun b s' => ∀ Y' H', Same Y Y' → FS ξ Y' H' σ s' tv ts → Q b H') (f s)
def tA (f : AF) : TA := fun σ H Q => ∃ ξ Y s tv ts, ξ.K = c.K ∧ FS ξ Y H σ s tv ts ∧
  out c ξ Y σ tv ts (fun ds s' => ∀ Y' H' vs, Same Y Y' → FS ξ Y' H' σ s' tv ts → DrAll c.K Y' vs ds → Q vs H') (f s)
end

structure ME (X : Cx) (c : Ct) (f : EF) (e : Expr) : Prop where
  run : PE X e (tE c f)
structure MO (X : Cx) (c : Ct) (f : OF) (e : Expr) : Prop where
  run : PE X e (tO c f)
structure MT (X : Cx) (c : Ct) (f : TF) (e : Expr) : Prop where
  run : PT X e (tT c f)
structure MA (X : Cx) (c : Ct) (f : AF) (es : List Expr) : Prop where
  run : PA X es (tA c f)

theorem PE.imp {X : Cx} {e : Expr} {t t' : TE} (h : PE X e t) (i : ∀ σ H Q, t' σ H Q → t σ H Q) : PE X e t' := ⟨fun pins s σ H Q I q => h.run pins s σ H Q I (i σ H Q q)⟩
theorem PT.imp {X : Cx} {e : Expr} {t t' : TT} (h : PT X e t) (i : ∀ σ H Q, t' σ H Q → t σ H Q) : PT X e t' := ⟨fun pins s σ H Q I q => h.run pins s σ H Q I (i σ H Q q)⟩
theorem PA.imp {X : Cx} {e : List Expr} {t t' : TA} (h : PA X e t) (i : ∀ σ H Q, t' σ H Q → t σ H Q) : PA X e t' := ⟨fun pos pins s σ H Q I q => h.run pos pins s σ H Q I (i σ H Q q)⟩

section
variable {X : Cx} {c : Ct} {ξ : Fx} {Y H : Hp} {σ : St} {s : S} {tv : List V} {ts : List OD}

/-- one part, then the rest -/
theorem tE_seq {β : Type} {fa : EF} {k : D → S → Res β} {G : β → S → Prop} {R : VK} (hK : ξ.K = c.K) (F : FS ξ Y H σ s tv ts) (h : out c ξ Y σ tv ts G ((fa s).bind k))
    (hR : ∀ d s1 Y1 H1 v, Same Y Y1 → FS ξ Y1 H1 σ s1 tv ts → Dr c.K Y1 v d → out c ξ Y σ tv ts G (k d s1) → R v H1) : tE c fa σ H R := by
  refine ⟨ξ, Y, s, tv, ts, hK, F, ?_⟩
  cases e : fa s with
  | ok d s1 => rw [e] at h; exact fun Y1 H1 v e1 F1 r1 => hR d s1 Y1 H1 v e1 F1 r1 h
  | ex x s1 => rw [e] at h; exact h
  | bad => rw [e] at h; exact h
theorem tO_seq {β : Type} {fa : OF} {k : OD → S → Res β} {G : β → S → Prop} {R : VK} (hK : ξ.K = c.K) (F : FS ξ Y H σ s tv ts) (h : out c ξ Y σ tv ts G ((fa s).bind k))
    (hR : ∀ o s1 Y1 H1 v, Same Y Y1 → FS ξ Y1 H1 σ s1 (tv ++ [v]) (ts ++ [o]) → out c ξ Y σ tv ts G (k o s1) → R v H1) : tO c fa σ H R := by
  refine ⟨ξ, Y, s, tv, ts, hK, F, ?_⟩
  cases e : fa s with
  | ok d s1 => rw [e] at h; exact fun Y1 H1 v e1 F1 => hR d s1 Y1 H1 v e1 F1 h
  | ex x s1 => rw [e] at h; exact h
  | bad => rw [e] at h; exact h
theorem tT_seq {β : Type} {fa : TF} {k : Bool → S → Res β} {G : β → S → Prop} {R : Bool → Hp → Prop} (hK : ξ.K = c.K) (F : FS ξ Y H σ s tv ts) (h : out c ξ Y σ tv ts G ((fa s).bind k))
    (hR : ∀ b s1 Y1 H1, Same Y Y1 → FS ξ Y1 H1 σ s1 tv ts → out c ξ Y σ tv ts G (k b s1) → R b H1) : tT c fa σ H R := by
  refine ⟨ξ, Y, s, tv, ts, hK, F, ?_⟩
  cases e : fa s with
  | ok d s1 => rw [e] at h; exact fun Y1 H1 e1 F1 => hR d s1 Y1 H1 e1 F1 h
  | ex x s1 => rw [e] at h; exact h
  | bad => rw [e] at h; exact h
theorem tA_seq {β : Type} {fa : AF} {k : List D → S → Res β} {G : β → S → Prop} {R : List V → Hp → Prop} (hK : ξ.K = c.K) (F : FS ξ Y H σ s tv ts) (h : out c ξ Y σ tv ts G ((fa s).bind k))
    (hR : ∀ ds s1 Y1 H1 vs, Same Y Y1 → FS ξ Y1 H1 σ s1 tv ts → DrAll c.K Y1 vs ds → out c ξ Y σ tv ts G (k ds s1) → R vs H1) : tA c fa σ H R := by
  refine ⟨ξ, Y, s, tv, ts, hK, F, ?_⟩
  cases e : fa s with
  | ok d s1 => rw [e] at h; exact fun Y1 H1 v e1 F1 r1 => hR d s1 Y1 H1 v e1 F1 r1 h
  | ex x s1 => rw [e] at h; exact h
  | bad => rw [e] at h; exact h

/-! ### how a value comes -/
inductive Gives (K : PySem.W.Frag) (Y : Hp) : Hp → V → Hp → Hp → OD → Prop
  | old {H : Hp} {v : V} {d : D} : Dr K Y v d → Gives K Y H v Y H (.fz d)
  | tup {H : Hp} {p : Addr} {vs : List V} {ds : List D} : H p = none → DrAll K Y vs ds → Gives K Y H (.ref p) (upd Y p (.tup vs)) (upd H p (.tup vs)) (.fz (.tuple ds))
  | lst {H : Hp} {p : Addr} {vs : List V} {ds : List D} : H p = none → DrAll K Y vs ds → Gives K Y H (.ref p) Y (upd H p (.lst vs)) (.ol ds)
  | junk {H H' Y' : Hp} {p : Addr} {u : HO} {v : V} {o : OD} : H p = none → Gives K Y (upd H p u) v Y' H' o → Gives K Y H v Y' H' o
theorem Gives.fs {K : PySem.W.Frag} {Y H : Hp} {v : V} {Y' H' : Hp} {o : OD} (g : Gives K Y H v Y' H' o) (hK : ξ.K = K) (F : FS ξ Y H σ s tv ts) : Same Y Y' ∧ FS ξ Y' H' σ s (tv ++ [v]) (ts ++ [o]) := by
  subst hK
  induction g with
  | old h => exact ⟨Same.refl _, F.pushD h⟩
  | @tup H p vs ds hp h =>
    have F1 := F.newF hp (.tup vs)
    have e : Same Y (upd Y p (.tup vs)) := same_upd (F.sub.free hp)
    exact ⟨e, F1.pushD (.tup (.inl (.inl upd_same)) (h.mono e))⟩
  | lst hp h => exact ⟨Same.refl _, F.pushL hp h⟩
  | junk hp g ih => exact ih (F.newJ hp _)

/-- an owned value frozen -/
def eFrz (f : OF) : EF := fun s => (f s).bind fun o s => .ok o.frz s
/-- data as an owned value -/
def oFz (f : EF) : OF := fun s => (f s).bind fun d s => .ok (.fz d) s
theorem me_frz {f : OF} {e : Expr} (h : MO X c f e) : ME X c (eFrz f) e := by
  refine ⟨PE.imp h.run fun σ H Q q => ?_⟩
  obtain ⟨ξ, Y, s, tv, ts, hK, F, q⟩ := q
  refine tO_seq hK F q fun o s1 Y1 H1 v e1 F1 q1 => ?_
  obtain ⟨Y2, e2, F2, r2⟩ := F1.freezeT
  exact q1 Y2 H1 v (e1.trans e2) F2 (hK ▸ r2)
theorem mo_fz {f : EF} {e : Expr} (h : ME X c f e) : MO X c (oFz f) e := by
  refine ⟨PE.imp h.run fun σ H Q q => ?_⟩
  obtain ⟨ξ, Y, s, tv, ts, hK, F, q⟩ := q
  refine tE_seq hK F q fun d s1 Y1 H1 v e1 F1 r1 q1 => ?_
  exact q1 Y1 H1 v e1 (F1.pushD (hK ▸ r1))

/-! ### names, constants -/
def eVar (i : Nat) : EF := fun s => match s[i]? with
  | some (some (.fz d)) => .ok d s
  | some (some o) => .ok o.frz (s.set i (some (.fz o.frz)))
  | _ => .bad
theorem me_var {i : Nat} {e : Expr} (h : PE X e (tVar i)) : ME X c (eVar i) e := by
  refine ⟨PE.imp h fun σ H Q q => ?_⟩
  obtain ⟨ξ, Y, s, tv, ts, hK, F, q⟩ := q
  have other : ∀ o, s[i]? = some (some o) → out c ξ Y σ tv ts (fun d s' => ∀ Y' H' v, Same Y Y' → FS ξ Y' H' σ s' tv ts → Dr c.K Y' v d → Q v H') (.ok o.frz (s.set i (some (.fz o.frz)))) → tVar i σ H Q := fun o e q => by
    obtain ⟨Y', e', F', v, hv, r⟩ := F.freezeS e
    exact ⟨v, hv, q Y' H v e' F' (hK ▸ r)⟩
  unfold eVar at q
  split at q
  · rename_i d e
    obtain ⟨v, hv, r⟩ := F.frozen e
    exact ⟨v, hv, q Y H v (Same.refl _) F (hK ▸ r)⟩
  · rename_i o _ e
    exact other o e q
  · exact q.elim
/-- the owned value of a slot goes (the slot is empty then): for return -/
def eC (d : D) : EF := fun s => .ok d s
theorem me_c {d : D} {v : V} {e : Expr} (h : PE X e (tC v)) (r : ∀ Y, Dr c.K Y v d) : ME X c (eC d) e := by
  refine ⟨PE.imp h fun σ H Q q => ?_⟩
  obtain ⟨ξ, Y, s, tv, ts, hK, F, q⟩ := q
  exact q Y H v (Same.refl _) F (r Y)
theorem me_int {i : Int} {j : Nat} {pos : Pos} : ME X c (eC (.int i)) (.Constant (.int i) j pos) := me_c pe_int fun _ => .int i
theorem me_bl {b : Bool} {j : Nat} {pos : Pos} : ME X c (eC (.bool b)) (.Constant (.bool b) j pos) := me_c pe_bl fun _ => .bl b
theorem me_non {j : Nat} {pos : Pos} : ME X c (eC .none) (.Constant .none j pos) := me_c pe_non fun _ => .non
theorem me_str {x : Str} {j : Nat} {pos : Pos} : ME X c (eC (.str x)) (.Constant (.str x) j pos) := me_c pe_str fun _ => .str x

/-! ### operators -/
/-- F says what r asks and gives -/
def OpL (K : PySem.W.Frag) (r : R2) (F : D → D → Option OD) : Prop := ∀ (Y H : Hp) (Q : VK) (x y : V) (a b : D) (o : OD), Same Y H → Dr K Y x a → Dr K Y y b → F a b = some o → (∀ v Y' H', Gives K Y H v Y' H' o → Q v H') → r x y H Q
def oOp2 (F : D → D → Option OD) (fa fb : EF) : OF := fun s => (fa s).bind fun a s => (fb s).bind fun b s => ofO (F a b) s
theorem op2_core {r : R2} {F : D → D → Option OD} (hF : OpL c.K r F) {fa fb : EF} {σ : St} {H : Hp} {Q : VK} (q : tO c (oOp2 F fa fb) σ H Q) : tOp r (tE c fa) (tE c fb) σ H Q := by
  obtain ⟨ξ, Y, s, tv, ts, hK, Fr, q⟩ := q
  refine tE_seq hK Fr q fun a s1 Y1 H1 x e1 F1 r1 q1 => ?_
  refine tE_seq hK F1 (out.mono c q1 e1 (fun _ _ z => z)) fun b s2 Y2 H2 y e2 F2 r2 q2 => ?_
  unfold ofO at q2
  split at q2
  · rename_i o eo
    refine hF Y2 H2 Q x y a b o F2.sub (r1.mono e2) r2 eo fun v Y' H' g => ?_
    obtain ⟨e3, F3⟩ := g.fs hK F2
    exact q2 Y' H' v ((e1.trans e2).trans e3) F3
  · exact q2.elim
theorem mo_op2 {op : Operator} {r : R2} {F : D → D → Option OD} {fa fb : EF} {a b : Expr} {pos : Pos} (ho : OpR X (binaryOp op) r) (hF : OpL c.K r F) (ha : ME X c fa a) (hb : ME X c fb b) : MO X c (oOp2 F fa fb) (.BinOp a op b pos) :=
  ⟨PE.imp (pe_op ho ha.run hb.run) fun _ _ _ q => op2_core hF q⟩
/-- several ways for one operator, by the data -/
def orR (r r' : R2) : R2 := fun x y H Q => r x y H Q ∨ r' x y H Q
theorem OpR.or {f : Value → Value → Sem Value} {r r' : R2} (h : OpR X f r) (h' : OpR X f r') : OpR X f (orR r r') := fun pins s σ H x y v u Q I rx ry q => q.elim (h pins s σ H x y v u Q I rx ry) (h' pins s σ H x y v u Q I rx ry)

def UnL (K : PySem.W.Frag) (r : V → Hp → VK → Prop) (F : D → Option OD) : Prop := ∀ (Y H : Hp) (Q : VK) (x : V) (a : D) (o : OD), Same Y H → Dr K Y x a → F a = some o → (∀ v Y' H', Gives K Y H v Y' H' o → Q v H') → r x H Q
def oOp1 (F : D → Option OD) (fa : EF) : OF := fun s => (fa s).bind fun a s => ofO (F a) s
theorem op1_core {r : V → Hp → VK → Prop} {F : D → Option OD} (hF : UnL c.K r F) {fa : EF} {σ : St} {H : Hp} {Q : VK} (q : tO c (oOp1 F fa) σ H Q) : tUn r (tE c fa) σ H Q := by
  obtain ⟨ξ, Y, s, tv, ts, hK, Fr, q⟩ := q
  refine tE_seq hK Fr q fun a s1 Y1 H1 x e1 F1 r1 q1 => ?_
  unfold ofO at q1
  split at q1
  · rename_i o eo
    refine hF Y1 H1 Q x a o F1.sub r1 eo fun v Y' H' g => ?_
    obtain ⟨e3, F3⟩ := g.fs hK F1
    exact q1 Y' H' v (e1.trans e3) F3
  · exact q1.elim
theorem mo_un {op : UnaryOp} {r : V → Hp → VK → Prop} {F : D → Option OD} {fa : EF} {a : Expr} {pos : Pos} (ho : UnR X (unaryOp op) r) (hF : UnL c.K r F) (ha : ME X c fa a) : MO X c (oOp1 F fa) (.UnaryOp op a pos) :=
  ⟨PE.imp (pe_un ho ha.run) fun _ _ _ q => op1_core hF q⟩

/-! ### comparisons -/
def CmpL (K : PySem.W.Frag) (r : R2) (F : D → D → Option Bool) : Prop := ∀ (Y H : Hp) (Q : VK) (x y : V) (a b : D) (k : Bool), Same Y H → Dr K Y x a → Dr K Y y b → F a b = some k → Q (.bl k) H → r x y H Q
def eCmp (F : D → D → Option Bool) (fa fb : EF) : EF := fun s => (fa s).bind fun a s => (fb s).bind fun b s => (ofO (F a b) s).bind fun k s => .ok (.bool k) s
def kCmp (F : D → D → Option Bool) (fa fb : EF) : TF := fun s => (fa s).bind fun a s => (fb s).bind fun b s => ofO (F a b) s
theorem me_cmp {op : CmpOp} {r : R2} {F : D → D → Option Bool} {fa fb : EF} {a b : Expr} {pos : Pos} (ho : OpR X (compareOp op) r) (hF : CmpL c.K r F) (ha : ME X c fa a) (hb : ME X c fb b) (hm : behindInMarks op b = false) : ME X c (eCmp F fa fb) (.Compare a [op] [b] pos) := by
  refine ⟨PE.imp (pe_cmpR ho ha.run hb.run hm) fun σ H Q q => ?_⟩
  obtain ⟨ξ, Y, s, tv, ts, hK, Fr, q⟩ := q
  refine tE_seq hK Fr q fun a s1 Y1 H1 x e1 F1 r1 q1 => ?_
  refine tE_seq hK F1 (out.mono c q1 e1 (fun _ _ z => z)) fun b s2 Y2 H2 y e2 F2 r2 q2 => ?_
  unfold ofO at q2
  split at q2
  · rename_i o eo
    exact hF Y2 H2 Q x y a b o F2.sub (r1.mono e2) r2 eo (q2 Y2 H2 _ (e1.trans e2) F2 (.bl o))
  · exact q2.elim
theorem mt_cmp {op : CmpOp} {r : R2} {F : D → D → Option Bool} {fa fb : EF} {a b : Expr} {pos : Pos} (ho : OpR X (compareOp op) r) (hF : CmpL c.K r F) (ha : ME X c fa a) (hb : ME X c fb b) (hm : behindInMarks op b = false) : MT X c (kCmp F fa fb) (.Compare a [op] [b] pos) := by
  refine ⟨PT.imp (pt_cmpR ho ha.run hb.run hm) fun σ H Q q => ?_⟩
  obtain ⟨ξ, Y, s, tv, ts, hK, Fr, q⟩ := q
  refine tE_seq hK Fr q fun a s1 Y1 H1 x e1 F1 r1 q1 => ?_
  refine tE_seq hK F1 (out.mono c q1 e1 (fun _ _ z => z)) fun b s2 Y2 H2 y e2 F2 r2 q2 => ?_
  unfold ofO at q2
  split at q2
  · rename_i o eo
    exact hF Y2 H2 _ x y a b o F2.sub (r1.mono e2) r2 eo ⟨o, rfl, q2 Y2 H2 (e1.trans e2) F2⟩
  · exact q2.elim
/-- a op b op' c -/
def eChn (F F' : D → D → Option Bool) (fa fb fc : EF) : EF := fun s => (fa s).bind fun a s => (fb s).bind fun b s => (ofO (F a b) s).bind fun k s => if k = true then (fc s).bind fun z s => (ofO (F' b z) s).bind fun k s => .ok (.bool k) s else .ok (.bool false) s
def kChn (F F' : D → D → Option Bool) (fa fb fc : EF) : TF := fun s => (fa s).bind fun a s => (fb s).bind fun b s => (ofO (F a b) s).bind fun k s => if k = true then (fc s).bind fun z s => ofO (F' b z) s else .ok false s
theorem me_chain {op op' : CmpOp} {r r' : R2} {F F' : D → D → Option Bool} {fa fb fc : EF} {a b z : Expr} {pos : Pos} (ho : OpR X (compareOp op) r) (ho' : OpR X (compareOp op') r') (hF : CmpL c.K r F) (hF' : CmpL c.K r' F')
    (ha : ME X c fa a) (hb : ME X c fb b) (hc : ME X c fc z) (hm : lastMarks [op, op'] [b, z] = false := by with_unfolding_all rfl) : ME X c (eChn F F' fa fb fc) (.Compare a [op, op'] [b, z] pos) := by
  refine ⟨PE.imp (pe_chain ho ho' ha.run hb.run hc.run hm) fun σ H Q q => ?_⟩
  obtain ⟨ξ, Y, s, tv, ts, hK, Fr, q⟩ := q
  refine tE_seq hK Fr q fun a s1 Y1 H1 x e1 F1 r1 q1 => ?_
  refine tE_seq hK F1 (out.mono c q1 e1 (fun _ _ z => z)) fun b s2 Y2 H2 y e2 F2 r2 q2 => ?_
  cases eo : F a b with
  | none => rw [eo] at q2; exact q2.elim
  | some k =>
    rw [eo] at q2
    refine hF Y2 H2 _ x y a b k F2.sub (r1.mono e2) r2 eo ⟨k, rfl, ?_⟩
    cases k with
    | false => exact iteF (q2 Y2 H2 _ (e1.trans e2) F2 (.bl false))
    | true =>
      refine iteT (tE_seq hK F2 (out.mono c q2 e2 (fun _ _ z => z)) fun z s3 Y3 H3 w e3 F3 r3 q3 => ?_)
      cases eo' : F' b z with
      | none => rw [eo'] at q3; exact q3.elim
      | some k => rw [eo'] at q3; exact hF' Y3 H3 Q y w b z k F3.sub (r2.mono e3) r3 eo' (q3 Y3 H3 _ ((e1.trans e2).trans e3) F3 (.bl k))
theorem mt_chain {op op' : CmpOp} {r r' : R2} {F F' : D → D → Option Bool} {fa fb fc : EF} {a b z : Expr} {pos : Pos} (ho : OpR X (compareOp op) r) (ho' : OpR X (compareOp op') r') (hF : CmpL c.K r F) (hF' : CmpL c.K r' F')
    (ha : ME X c fa a) (hb : ME X c fb b) (hc : ME X c fc z) (hm : lastMarks [op, op'] [b, z] = false := by with_unfolding_all rfl) : MT X c (kChn F F' fa fb fc) (.Compare a [op, op'] [b, z] pos) := by
  refine ⟨PT.imp (pt_chain ho ho' ha.run hb.run hc.run hm) fun σ H Q q => ?_⟩
  obtain ⟨ξ, Y, s, tv, ts, hK, Fr, q⟩ := q
  refine tE_seq hK Fr q fun a s1 Y1 H1 x e1 F1 r1 q1 => ?_
  refine tE_seq hK F1 (out.mono c q1 e1 (fun _ _ z => z)) fun b s2 Y2 H2 y e2 F2 r2 q2 => ?_
  cases eo : F a b with
  | none => rw [eo] at q2; exact q2.elim
  | some k =>
    rw [eo] at q2
    refine hF Y2 H2 _ x y a b k F2.sub (r1.mono e2) r2 eo ⟨k, rfl, ?_⟩
    cases k with
    | false => exact iteF ⟨false, rfl, q2 Y2 H2 (e1.trans e2) F2⟩
    | true =>
      refine iteT (tE_seq hK F2 (out.mono c q2 e2 (fun _ _ z => z)) fun z s3 Y3 H3 w e3 F3 r3 q3 => ?_)
      cases eo' : F' b z with
      | none => rw [eo'] at q3; exact q3.elim
      | some k => rw [eo'] at q3; exact hF' Y3 H3 _ y w b z k F3.sub (r2.mono e3) r3 eo' ⟨k, rfl, q3 Y3 H3 ((e1.trans e2).trans e3) F3⟩

/-! ### truth, and, or, not -/
def kVal (f : EF) : TF := fun s => (f s).bind fun d s => match d with
  | .bool b => .ok b s
  | _ => .bad
theorem mt_val {f : EF} {e : Expr} (h : ME X c f e) (he : ∀ whole, isTrue e X.env whole = (do let v ← whole; standAt e.pos; holding [v] (truthy v)) := by intro _; rfl) : MT X c (kVal f) e := by
  refine ⟨PT.imp (pt_val h.run he) fun σ H Q q => ?_⟩
  obtain ⟨ξ, Y, s, tv, ts, hK, F, q⟩ := q
  refine tE_seq hK F q fun d s1 Y1 H1 v e1 F1 r1 q1 => ?_
  cases d with
  | bool b => exact ⟨b, r1.bool_inv, q1 Y1 H1 e1 F1⟩
  | none => exact q1.elim
  | int _ => exact q1.elim
  | str _ => exact q1.elim
  | list _ => exact q1.elim
  | tuple _ => exact q1.elim
  | dict _ => exact q1.elim
def kAnd (f g : TF) : TF := fun s => (f s).bind fun b s => if b = true then g s else .ok false s
def kOr (f g : TF) : TF := fun s => (f s).bind fun b s => if b = true then .ok true s else g s
def kNot (f : TF) : TF := fun s => (f s).bind fun b s => .ok (!b) s
/-- and, or as tests: over several items -/
structure MW (X : Cx) (c : Ct) (f : TF) (e : Expr) : Prop where
  run : PW X e (tT c f)
theorem MW.mt {f : TF} {e : Expr} (h : MW X c f e) : MT X c f e := ⟨h.run.pt⟩
theorem mw_and1 {f : TF} {a : Expr} {pos : Pos} (h : MT X c f a) : MW X c f (.BoolOp .And [a] pos) := ⟨pw_and1 h.run⟩
theorem mw_or1 {f : TF} {a : Expr} {pos : Pos} (h : MT X c f a) : MW X c f (.BoolOp .Or [a] pos) := ⟨pw_or1 h.run⟩
theorem mw_and {f g : TF} {a b : Expr} {rest : List Expr} {pos : Pos} (h : MT X c f a) (h2 : MW X c g (.BoolOp .And (b :: rest) pos)) : MW X c (kAnd f g) (.BoolOp .And (a :: b :: rest) pos) := by
  refine ⟨⟨fun wh pins s σ H Q I q => (pw_and h.run h2.run).run wh pins s σ H Q I ?_⟩⟩
  obtain ⟨ξ, Y, s, tv, ts, hK, F, q⟩ := q
  refine tT_seq hK F q fun b s1 Y1 H1 e1 F1 q1 => ?_
  cases b with
  | false => exact iteF (q1 Y1 H1 e1 F1)
  | true => exact iteT ⟨ξ, Y1, s1, tv, ts, hK, F1, out.mono c (show out c ξ Y σ tv ts _ (g s1) from q1) e1 fun b s z Y' H' e2 F2 => z Y' H' (e1.trans e2) F2⟩
theorem mw_or {f g : TF} {a b : Expr} {rest : List Expr} {pos : Pos} (h : MT X c f a) (h2 : MW X c g (.BoolOp .Or (b :: rest) pos)) : MW X c (kOr f g) (.BoolOp .Or (a :: b :: rest) pos) := by
  refine ⟨⟨fun wh pins s σ H Q I q => (pw_or h.run h2.run).run wh pins s σ H Q I ?_⟩⟩
  obtain ⟨ξ, Y, s, tv, ts, hK, F, q⟩ := q
  refine tT_seq hK F q fun b s1 Y1 H1 e1 F1 q1 => ?_
  cases b with
  | true => exact iteT (q1 Y1 H1 e1 F1)
  | false => exact iteF ⟨ξ, Y1, s1, tv, ts, hK, F1, out.mono c (show out c ξ Y σ tv ts _ (g s1) from q1) e1 fun b s z Y' H' e2 F2 => z Y' H' (e1.trans e2) F2⟩
theorem mt_not {f : TF} {a : Expr} {pos : Pos} (h : MT X c f a) : MT X c (kNot f) (.UnaryOp .Not a pos) := by
  refine ⟨PT.imp (pt_not h.run) fun σ H Q q => ?_⟩
  obtain ⟨ξ, Y, s, tv, ts, hK, F, q⟩ := q
  exact tT_seq hK F q fun b s1 Y1 H1 e1 F1 q1 => q1 Y1 H1 e1 F1
/-- .. as values -/
def eAnd (f g : EF) : EF := fun s => (f s).bind fun d s => match d with
  | .bool true => g s
  | .bool false => .ok (.bool false) s
  | _ => .bad
def eOr (f g : EF) : EF := fun s => (f s).bind fun d s => match d with
  | .bool true => .ok (.bool true) s
  | .bool false => g s
  | _ => .bad
def eNot (f : EF) : EF := fun s => (f s).bind fun d s => match d with
  | .bool b => .ok (.bool !b) s
  | _ => .bad
theorem me_one {op : BoolOp} {f : EF} {a : Expr} {pos : Pos} (h : ME X c f a) : ME X c f (.BoolOp op [a] pos) := ⟨pe_one h.run⟩
theorem me_and {f g : EF} {a b : Expr} {rest : List Expr} {pos : Pos} (h : ME X c f a) (h2 : ME X c g (.BoolOp .And (b :: rest) pos)) : ME X c (eAnd f g) (.BoolOp .And (a :: b :: rest) pos) := by
  refine ⟨PE.imp (pe_and h.run h2.run) fun σ H Q q => ?_⟩
  obtain ⟨ξ, Y, s, tv, ts, hK, F, q⟩ := q
  refine tE_seq hK F q fun d s1 Y1 H1 v e1 F1 r1 q1 => ?_
  cases d with
  | bool b =>
    refine ⟨b, r1.bool_inv, ?_⟩
    cases b with
    | true => exact iteT ⟨ξ, Y1, s1, tv, ts, hK, F1, out.mono c (show out c ξ Y σ tv ts _ (g s1) from q1) e1 fun b s z Y' H' v e2 F2 => z Y' H' v (e1.trans e2) F2⟩
    | false => exact iteF (q1 Y1 H1 _ e1 F1 (.bl false))
  | none => exact q1.elim
  | int _ => exact q1.elim
  | str _ => exact q1.elim
  | list _ => exact q1.elim
  | tuple _ => exact q1.elim
  | dict _ => exact q1.elim
theorem me_or {f g : EF} {a b : Expr} {rest : List Expr} {pos : Pos} (h : ME X c f a) (h2 : ME X c g (.BoolOp .Or (b :: rest) pos)) : ME X c (eOr f g) (.BoolOp .Or (a :: b :: rest) pos) := by
  refine ⟨PE.imp (pe_or h.run h2.run) fun σ H Q q => ?_⟩
  obtain ⟨ξ, Y, s, tv, ts, hK, F, q⟩ := q
  refine tE_seq hK F q fun d s1 Y1 H1 v e1 F1 r1 q1 => ?_
  cases d with
  | bool b =>
    refine ⟨b, r1.bool_inv, ?_⟩
    cases b with
    | false => exact iteF ⟨ξ, Y1, s1, tv, ts, hK, F1, out.mono c (show out c ξ Y σ tv ts _ (g s1) from q1) e1 fun b s z Y' H' v e2 F2 => z Y' H' v (e1.trans e2) F2⟩
    | true => exact iteT (q1 Y1 H1 _ e1 F1 (.bl true))
  | none => exact q1.elim
  | int _ => exact q1.elim
  | str _ => exact q1.elim
  | list _ => exact q1.elim
  | tuple _ => exact q1.elim
  | dict _ => exact q1.elim
theorem me_not {f : EF} {a : Expr} {pos : Pos} (h : ME X c f a) : ME X c (eNot f) (.UnaryOp .Not a pos) := by
  refine ⟨PE.imp (pe_not h.run) fun σ H Q q => ?_⟩
  obtain ⟨ξ, Y, s, tv, ts, hK, F, q⟩ := q
  refine tE_seq hK F q fun d s1 Y1 H1 v e1 F1 r1 q1 => ?_
  cases d with
  | bool b => exact ⟨b, r1.bool_inv, q1 Y1 H1 _ e1 F1 (.bl _)⟩
  | none => exact q1.elim
  | int _ => exact q1.elim
  | str _ => exact q1.elim
  | list _ => exact q1.elim
  | tuple _ => exact q1.elim
  | dict _ => exact q1.elim
def eIf (t : TF) (f g : EF) : EF := fun s => (t s).bind fun b s => if b = true then f s else g s
def oIf (t : TF) (f g : OF) : OF := fun s => (t s).bind fun b s => if b = true then f s else g s
theorem me_if {t : TF} {f g : EF} {x a b : Expr} {pos : Pos} (ht : MT X c t x) (hf : ME X c f a) (hg : ME X c g b) : ME X c (eIf t f g) (.IfExp x a b pos) := by
  refine ⟨PE.imp (pe_ifExp ht.run hf.run hg.run) fun σ H Q q => ?_⟩
  obtain ⟨ξ, Y, s, tv, ts, hK, F, q⟩ := q
  refine tT_seq hK F q fun b s1 Y1 H1 e1 F1 q1 => ?_
  cases b with
  | true => exact iteT ⟨ξ, Y1, s1, tv, ts, hK, F1, out.mono c (show out c ξ Y σ tv ts _ (f s1) from q1) e1 fun b s z Y' H' v e2 F2 => z Y' H' v (e1.trans e2) F2⟩
  | false => exact iteF ⟨ξ, Y1, s1, tv, ts, hK, F1, out.mono c (show out c ξ Y σ tv ts _ (g s1) from q1) e1 fun b s z Y' H' v e2 F2 => z Y' H' v (e1.trans e2) F2⟩
theorem mo_if {t : TF} {f g : OF} {x a b : Expr} {pos : Pos} (ht : MT X c t x) (hf : MO X c f a) (hg : MO X c g b) : MO X c (oIf t f g) (.IfExp x a b pos) := by
  refine ⟨PE.imp (pe_ifExp ht.run hf.run hg.run) fun σ H Q q => ?_⟩
  obtain ⟨ξ, Y, s, tv, ts, hK, F, q⟩ := q
  refine tT_seq hK F q fun b s1 Y1 H1 e1 F1 q1 => ?_
  cases b with
  | true => exact iteT ⟨ξ, Y1, s1, tv, ts, hK, F1, out.mono c (show out c ξ Y σ tv ts _ (f s1) from q1) e1 fun b s z Y' H' v e2 F2 => z Y' H' v (e1.trans e2) F2⟩
  | false => exact iteF ⟨ξ, Y1, s1, tv, ts, hK, F1, out.mono c (show out c ξ Y σ tv ts _ (g s1) from q1) e1 fun b s z Y' H' v e2 F2 => z Y' H' v (e1.trans e2) F2⟩

/-! ### argument lists, displays -/
def aNil : AF := fun s => .ok [] s
def aCons (f : EF) (g : AF) : AF := fun s => (f s).bind fun d s => (g s).bind fun ds s => .ok (d :: ds) s
theorem ma_nil : MA X c aNil [] := by
  refine ⟨PA.imp pa_nil fun σ H Q q => ?_⟩
  obtain ⟨ξ, Y, s, tv, ts, hK, F, q⟩ := q
  exact q Y H [] (Same.refl _) F .nil
theorem ma_cons {f : EF} {g : AF} {e : Expr} {es : List Expr} (h : ME X c f e) (h2 : MA X c g es) (hs : starEach (e :: es) X.env = (false, eval e X.env) :: starEach es X.env := by rfl) : MA X c (aCons f g) (e :: es) := by
  refine ⟨PA.imp (pa_cons h.run h2.run hs) fun σ H Q q => ?_⟩
  obtain ⟨ξ, Y, s, tv, ts, hK, F, q⟩ := q
  refine tE_seq hK F q fun d s1 Y1 H1 v e1 F1 r1 q1 => ?_
  refine tA_seq hK F1 (out.mono c q1 e1 (fun _ _ z => z)) fun ds s2 Y2 H2 vs e2 F2 r2 q2 => ?_
  exact q2 Y2 H2 (v :: vs) (e1.trans e2) F2 (.cons (r1.mono e2) r2)
def eTup (g : AF) : EF := fun s => (g s).bind fun ds s => if ds.length ≤ sizeLine then .ok (.tuple ds) s else .bad
def oLst (g : AF) : OF := fun s => (g s).bind fun ds s => if ds.length ≤ sizeLine then .ok (.ol ds) s else .bad
theorem me_tup {g : AF} {es : List Expr} {k} {pos : Pos} (h : MA X c g es) : ME X c (eTup g) (.Tuple es k pos) := by
  refine ⟨PE.imp (pe_tup h.run) fun σ H Q q => ?_⟩
  obtain ⟨ξ, Y, s, tv, ts, hK, F, q⟩ := q
  refine tA_seq hK F q fun ds s1 Y1 H1 vs e1 F1 r1 q1 => ?_
  split at q1
  · rename_i hl
    refine ⟨by rw [r1.length]; exact hl, fun p hp => ?_⟩
    obtain ⟨e2, F2⟩ := (Gives.tup hp r1).fs hK F1
    obtain ⟨Y3, e3, F3, r3⟩ := F2.freezeT
    exact q1 Y3 _ _ ((e1.trans e2).trans e3) F3 (hK ▸ r3)
  · exact q1.elim
theorem mo_lst {g : AF} {es : List Expr} {pos : Pos} (h : MA X c g es) : MO X c (oLst g) (.List es pos) := by
  refine ⟨PE.imp (pe_lst h.run) fun σ H Q q => ?_⟩
  obtain ⟨ξ, Y, s, tv, ts, hK, F, q⟩ := q
  refine tA_seq hK F q fun ds s1 Y1 H1 vs e1 F1 r1 q1 => ?_
  split at q1
  · rename_i hl
    refine ⟨by rw [r1.length]; exact hl, fun p hp => ?_⟩
    obtain ⟨e2, F2⟩ := (Gives.lst hp r1).fs hK F1
    exact q1 _ _ _ (e1.trans e2) F2
  · exact q1.elim

/-! ### lending -/
def eLend (ms : List Mode) (f : EF) : EF := fun s => if ms.length = s.length then match f (brw ms s) with
    | .ok d s' => match rst ms s s' with
      | some r => if free d = true then .ok d r else .bad
      | none => .bad
    | .ex e s' => match rst ms s s' with
      | some r => .ex e r
      | none => .bad
    | .bad => .bad
  else .bad
def oLend (ms : List Mode) (f : OF) : OF := fun s => if ms.length = s.length then match f (brw ms s) with
    | .ok (.ol ds) s' => match rst ms s s' with
      | some r => if freeAll ds = true then .ok (.ol ds) r else .bad
      | none => .bad
    | .ex e s' => match rst ms s s' with
      | some r => .ex e r
      | none => .bad
    | _ => .bad
  else .bad
theorem me_lend {ms : List Mode} {f : EF} {e : Expr} (h : ME X c f e) : ME X c (eLend ms f) e := by
  refine ⟨PE.imp h.run fun σ H Q q => ?_⟩
  obtain ⟨ξ, Y, s, tv, ts, hK, F, q⟩ := q
  unfold eLend at q
  split at q
  · rename_i hm
    obtain ⟨ξ', Y1, hK', e1, F1, back⟩ := F.lend hm
    refine ⟨ξ', Y1, brw ms s, [], [], hK'.trans hK, F1, ?_⟩
    cases ef : f (brw ms s) with
    | ok d s' =>
      rw [ef] at q
      intro Y' H' v e2 F2 r2
      simp only at q
      split at q
      · rename_i r er
        split at q
        · rename_i hf
          obtain ⟨Y2, e3, F3, r3⟩ := back Y' H' s' r [] [] e2 F2 er rfl
          rw [List.append_nil, List.append_nil] at F3
          exact q Y2 H' v e3 F3 (hK ▸ r3 v d (hK ▸ r2) hf)
        · exact q.elim
      · exact q.elim
    | ex x s' =>
      rw [ef] at q
      intro Y' H' cl y e2 F2 er2
      simp only at q
      split at q
      · rename_i r er
        obtain ⟨Y2, e3, F3, _⟩ := back Y' H' s' r [] [] e2 F2 er rfl
        rw [List.append_nil, List.append_nil] at F3
        exact q Y2 H' cl y e3 F3 er2
      · exact q.elim
    | bad => rw [ef] at q; exact q.elim
  · exact q.elim
theorem mo_lend {ms : List Mode} {f : OF} {e : Expr} (h : MO X c f e) : MO X c (oLend ms f) e := by
  refine ⟨PE.imp h.run fun σ H Q q => ?_⟩
  obtain ⟨ξ, Y, s, tv, ts, hK, F, q⟩ := q
  unfold oLend at q
  split at q
  · rename_i hm
    obtain ⟨ξ', Y1, hK', e1, F1, back⟩ := F.lend hm
    refine ⟨ξ', Y1, brw ms s, [], [], hK'.trans hK, F1, ?_⟩
    cases ef : f (brw ms s) with
    | ok o s' =>
      rw [ef] at q
      cases o with
      | ol ds =>
        intro Y' H' v e2 F2
        simp only at q
        split at q
        · rename_i r er
          split at q
          · rename_i hf
            obtain ⟨Y2, e3, F3, r3⟩ := back Y' H' s' r _ _ e2 F2 er (by simpa [ofreeAll, OD.free] using hf)
            exact q Y2 H' v e3 F3
          · exact q.elim
        · exact q.elim
      | fz _ => exact q.elim
      | on _ => exact q.elim
      | od _ => exact q.elim
    | ex x s' =>
      rw [ef] at q
      intro Y' H' cl y e2 F2 er2
      simp only at q
      split at q
      · rename_i r er
        obtain ⟨Y2, e3, F3, _⟩ := back Y' H' s' r [] [] e2 F2 er rfl
        rw [List.append_nil, List.append_nil] at F3
        exact q Y2 H' cl y e3 F3 er2
      · exact q.elim
    | bad => rw [ef] at q; exact q.elim
  · exact q.elim
end
end MI

set_option Elab.async false
set_option linter.all false
set_option autoImplicit false
set_option maxRecDepth 100000
/-! MI: statements, loops. -/
namespace MI
open PySem PySem.Spec L2

inductive Out where
  | nx (s : S)
  | bk (s : S)
  | ct (s : S)
  | rt (o : OD) (s : S)
  | ex (e : Exn) (s : S)
  | bad
abbrev SF := S → Out
def Res.toS {α : Type} : Res α → (α → S → Out) → Out
  | .ok a s, f => f a s
  | .ex e s, _ => .ex e s
  | .bad, _ => .bad
@[simp] theorem Res.toS_ok {α : Type} {a : α} {s : S} {f : α → S → Out} : (Res.ok a s).toS f = f a s := Eq.trans rfl rfl
@[simp] theorem Res.toS_ex {α : Type} {e : Exn} {s : S} {f : α → S → Out} : (Res.ex e s).toS f = .ex e s := Eq.trans rfl rfl
@[simp] theorem Res.toS_bad {α : Type} {f : α → S → Out} : Res.bad.toS f = .bad := Eq.trans rfl rfl

/-- the slots of parameters that are handed in by their objects stay -/
def Keep (rf : List Bool) (σ σ' : St) : Prop := σ'.length = σ.length ∧ ∀ j : Nat, rf[j]? = some true → σ'[j]? = σ[j]?
theorem Keep.refl (rf : List Bool) (σ : St) : Keep rf σ σ := ⟨rfl, fun _ _ => rfl⟩
theorem Keep.trans {rf : List Bool} {σ σ' σ'' : St} (a : Keep rf σ σ') (b : Keep rf σ' σ'') : Keep rf σ σ'' := ⟨b.1.trans a.1, fun j h => (b.2 j h).trans (a.2 j h)⟩
theorem Keep.set {rf : List Bool} {σ : St} {i : Nat} {v : Option V} (h : rf[i]? ≠ some true) : Keep rf σ (σ.set i v) := ⟨by simp, fun j hj => by
  rw [List.getElem?_set_ne]
  rintro rfl
  exact h hj⟩

section
variable (c : Ct) (rf : List Bool)
def outS (ξ : Fx) (Y : Hp) (σ : St) (D : Ends) : Out → Prop
  | .nx s' => ∀ Y' H' σ', Same Y Y' → Keep rf σ σ' → FS ξ Y' H' σ' s' [] [] → D.nx σ' H'
  | .bk s' => ∀ Y' H' σ', Same Y Y' → Keep rf σ σ' → FS ξ Y' H' σ' s' [] [] → D.bk σ' H'
  | .ct s' => ∀ Y' H' σ', Same Y Y' → Keep rf σ σ' → FS ξ Y' H' σ' s' [] [] → D.ct σ' H'
  | .rt o s' => ∀ Y' H' σ' v, Same Y Y' → Keep rf σ σ' → FS ξ Y' H' σ' s' [v] [o] → D.rt v H'
  | .ex e s' => ∀ Y' H' σ' cl x, Same Y Y' → Keep rf σ σ' → FS ξ Y' H' σ' s' [] [] → c.er e cl x H' → c.W cl x σ' H'
  | .bad => False
theorem outS.mono {ξ : Fx} {Y Y1 : Hp} {σ σ1 : St} {D : Ends} {r : Out} (h : outS c rf ξ Y σ D r) (e : Same Y Y1) (k : Keep rf σ σ1) : outS c rf ξ Y1 σ1 D r := by
  cases r with
  | nx s => exact fun Y' H' σ' e' k' F => h Y' H' σ' (e.trans e') (k.trans k') F
  | bk s => exact fun Y' H' σ' e' k' F => h Y' H' σ' (e.trans e') (k.trans k') F
  | ct s => exact fun Y' H' σ' e' k' F => h Y' H' σ' (e.trans e') (k.trans k') F
  | rt o s => exact fun Y' H' σ' v e' k' F => h Y' H' σ' v (e.trans e') (k.trans k') F
  | ex x s => exact fun Y' H' σ' cl q e' k' F er => h Y' H' σ' cl q (e.trans e') (k.trans k') F er
  | bad => exact h
def tS (f : SF) : TS := fun D σ H => ∃ ξ Y s, ξ.K = c.K ∧ FS ξ Y H σ s [] [] ∧ outS c rf ξ Y σ D (f s)
end
structure MS (X : Cx) (c : Ct) (rf : List Bool) (f : SF) (st : Stmt) : Prop where
  run : PS X st (tS c rf f)
structure MSs (X : Cx) (c : Ct) (rf : List Bool) (f : SF) (st : List Stmt) : Prop where
  run : PSs X st (tS c rf f)
theorem PS.imp {X : Cx} {e : Stmt} {t t' : TS} (h : PS X e t) (i : ∀ D σ H, t' D σ H → t D σ H) : PS X e t' := ⟨fun pins s σ H D I q => h.run pins s σ H D I (i D σ H q)⟩
theorem PSs.imp {X : Cx} {e : List Stmt} {t t' : TS} (h : PSs X e t) (i : ∀ D σ H, t' D σ H → t D σ H) : PSs X e t' := ⟨fun pins s σ H D I q => h.run pins s σ H D I (i D σ H q)⟩

section
variable {X : Cx} {c : Ct} {rf : List Bool} {ξ : Fx} {Y H : Hp} {σ : St} {s : S}

/-- an expression ahead of the rest of a statement -/
theorem sE_seq {fa : EF} {k : D → S → Out} {D : Ends} {R : VK} (hK : ξ.K = c.K) (F : FS ξ Y H σ s [] []) (h : outS c rf ξ Y σ D ((fa s).toS k))
    (hR : ∀ d s1 Y1 H1 v, Same Y Y1 → FS ξ Y1 H1 σ s1 [] [] → Dr c.K Y1 v d → outS c rf ξ Y σ D (k d s1) → R v H1) : tE c fa σ H R := by
  refine ⟨ξ, Y, s, [], [], hK, F, ?_⟩
  cases e : fa s with
  | ok d s1 => rw [e] at h; exact fun Y1 H1 v e1 F1 r1 => hR d s1 Y1 H1 v e1 F1 r1 h
  | ex x s1 => rw [e] at h; exact fun Y' H' cl q e' F' er => h Y' H' σ cl q e' (.refl _ _) F' er
  | bad => rw [e] at h; exact h
theorem sO_seq {fa : OF} {k : OD → S → Out} {D : Ends} {R : VK} (hK : ξ.K = c.K) (F : FS ξ Y H σ s [] []) (h : outS c rf ξ Y σ D ((fa s).toS k))
    (hR : ∀ o s1 Y1 H1 v, Same Y Y1 → FS ξ Y1 H1 σ s1 [v] [o] → outS c rf ξ Y σ D (k o s1) → R v H1) : tO c fa σ H R := by
  refine ⟨ξ, Y, s, [], [], hK, F, ?_⟩
  cases e : fa s with
  | ok d s1 => rw [e] at h; exact fun Y1 H1 v e1 F1 => hR d s1 Y1 H1 v e1 F1 h
  | ex x s1 => rw [e] at h; exact fun Y' H' cl q e' F' er => h Y' H' σ cl q e' (.refl _ _) F' er
  | bad => rw [e] at h; exact h
theorem sT_seq {fa : TF} {k : Bool → S → Out} {D : Ends} {R : Bool → Hp → Prop} (hK : ξ.K = c.K) (F : FS ξ Y H σ s [] []) (h : outS c rf ξ Y σ D ((fa s).toS k))
    (hR : ∀ b s1 Y1 H1, Same Y Y1 → FS ξ Y1 H1 σ s1 [] [] → outS c rf ξ Y σ D (k b s1) → R b H1) : tT c fa σ H R := by
  refine ⟨ξ, Y, s, [], [], hK, F, ?_⟩
  cases e : fa s with
  | ok d s1 => rw [e] at h; exact fun Y1 H1 e1 F1 => hR d s1 Y1 H1 e1 F1 h
  | ex x s1 => rw [e] at h; exact fun Y' H' cl q e' F' er => h Y' H' σ cl q e' (.refl _ _) F' er
  | bad => rw [e] at h; exact h

/-! ### blocks -/
def sNx : SF := fun s => .nx s
def sBk : SF := fun s => .bk s
def sCt : SF := fun s => .ct s
def sSeq (f g : SF) : SF := fun s => match f s with
  | .nx s => g s
  | o => o
theorem mss_nil : MSs X c rf sNx [] := by
  refine ⟨PSs.imp pss_nil fun D σ H q => ?_⟩
  obtain ⟨ξ, Y, s, hK, F, q⟩ := q
  exact q Y H σ (Same.refl _) (.refl _ _) F
theorem mss_one {f : SF} {st : Stmt} (h : MS X c rf f st) : MSs X c rf f [st] := ⟨pss_one h.run⟩
theorem mss_cons {f g : SF} {st : Stmt} {r : List Stmt} (h : MS X c rf f st) (h2 : MSs X c rf g r) : MSs X c rf (sSeq f g) (st :: r) := by
  refine ⟨PSs.imp (pss_cons h.run h2.run) fun D σ H q => ?_⟩
  obtain ⟨ξ, Y, s, hK, F, q⟩ := q
  refine ⟨ξ, Y, s, hK, F, ?_⟩
  unfold sSeq at q
  cases e : f s with
  | nx s1 => rw [e] at q; exact fun Y1 H1 σ1 e1 k1 F1 => ⟨ξ, Y1, s1, hK, F1, outS.mono c rf q e1 k1⟩
  | bk s1 => rw [e] at q; exact q
  | ct s1 => rw [e] at q; exact q
  | rt o s1 => rw [e] at q; exact q
  | ex x s1 => rw [e] at q; exact q
  | bad => rw [e] at q; exact q
theorem ms_pass {pos : Pos} : MS X c rf sNx (.Pass pos) := by
  refine ⟨PS.imp ps_pass fun D σ H q => ?_⟩
  obtain ⟨ξ, Y, s, hK, F, q⟩ := q
  exact q Y H σ (Same.refl _) (.refl _ _) F
theorem ms_break {pos : Pos} : MS X c rf sBk (.Break pos) := by
  refine ⟨PS.imp ps_break fun D σ H q => ?_⟩
  obtain ⟨ξ, Y, s, hK, F, q⟩ := q
  exact q Y H σ (Same.refl _) (.refl _ _) F
theorem ms_continue {pos : Pos} : MS X c rf sCt (.Continue pos) := by
  refine ⟨PS.imp ps_continue fun D σ H q => ?_⟩
  obtain ⟨ξ, Y, s, hK, F, q⟩ := q
  exact q Y H σ (Same.refl _) (.refl _ _) F
/-- code that is never come to -/
def sBad : SF := fun _ => .bad
theorem ms_never {st : Stmt} : MS X c rf sBad st := ⟨PS.imp ps_never fun D σ H q => by
  obtain ⟨ξ, Y, s, hK, F, q⟩ := q
  exact q.elim⟩
def sExp (f : EF) : SF := fun s => (f s).toS fun _ s => .nx s
theorem ms_expr {f : EF} {e : Expr} {pos : Pos} (h : ME X c f e) (hs : swapsWith e none pos.line X.env = pure false := by rfl) : MS X c rf (sExp f) (.Expr e pos) := by
  refine ⟨PS.imp (ps_expr h.run hs) fun D σ H q => ?_⟩
  obtain ⟨ξ, Y, s, hK, F, q⟩ := q
  exact sE_seq hK F q fun d s1 Y1 H1 v e1 F1 r1 q1 => q1 Y1 H1 σ e1 (.refl _ _) F1
def sRet (f : OF) : SF := fun s => (f s).toS fun o s => .rt o s
theorem ms_ret {f : OF} {e : Expr} {pos : Pos} (h : MO X c f e) : MS X c rf (sRet f) (.Return (some e) pos) := by
  refine ⟨PS.imp (ps_ret h.run) fun D σ H q => ?_⟩
  obtain ⟨ξ, Y, s, hK, F, q⟩ := q
  exact sO_seq hK F q fun o s1 Y1 H1 v e1 F1 q1 => q1 Y1 H1 σ v e1 (.refl _ _) F1
def sRetN : SF := fun s => .rt (.fz .none) s
theorem ms_retN {pos : Pos} : MS X c rf sRetN (.Return none pos) := by
  refine ⟨PS.imp ps_retN fun D σ H q => ?_⟩
  obtain ⟨ξ, Y, s, hK, F, q⟩ := q
  exact q Y H σ .non (Same.refl _) (.refl _ _) (F.pushD .non)
def sIf (t : TF) (f g : SF) : SF := fun s => (t s).toS fun b s => if b = true then f s else g s
theorem ms_if {t : TF} {f g : SF} {x : Expr} {a b : List Stmt} {pos : Pos} (ht : MT X c t x) (hf : MSs X c rf f a) (hg : MSs X c rf g b) : MS X c rf (sIf t f g) (.If x a b pos) := by
  refine ⟨PS.imp (ps_if ht.run hf.run hg.run) fun D σ H q => ?_⟩
  obtain ⟨ξ, Y, s, hK, F, q⟩ := q
  refine sT_seq hK F q fun b s1 Y1 H1 e1 F1 q1 => ?_
  cases b with
  | true => exact iteT ⟨ξ, Y1, s1, hK, F1, outS.mono c rf (show outS c rf ξ Y σ D (f s1) from q1) e1 (.refl _ _)⟩
  | false => exact iteF ⟨ξ, Y1, s1, hK, F1, outS.mono c rf (show outS c rf ξ Y σ D (g s1) from q1) e1 (.refl _ _)⟩

/-! ### targets -/
/-- a frozen value to a target -/
abbrev GF := D → S → Option S
def tG (rf : List Bool) (K : PySem.W.Frag) (g : GF) : TG := fun v σ H Q => ∃ ξ Y s d tv ts, ξ.K = K ∧ FS ξ Y H σ s tv ts ∧ Dr K Y v d ∧ ∃ s', g d s = some s' ∧ ∀ Y' H' σ', Same Y Y' → Keep rf σ σ' → FS ξ Y' H' σ' s' tv ts → Q σ' H'
def tGs (rf : List Bool) (K : PySem.W.Frag) (g : List D → S → Option S) : TGs := fun vs σ H Q => ∃ ξ Y s ds tv ts, ξ.K = K ∧ FS ξ Y H σ s tv ts ∧ DrAll K Y vs ds ∧ ∃ s', g ds s = some s' ∧ ∀ Y' H' σ', Same Y Y' → Keep rf σ σ' → FS ξ Y' H' σ' s' tv ts → Q σ' H'
structure MG (X : Cx) (c : Ct) (rf : List Bool) (g : GF) (t : Expr) : Prop where
  run : PG X t (tG rf c.K g)
structure MGs (X : Cx) (c : Ct) (rf : List Bool) (g : List D → S → Option S) (t : List Expr) : Prop where
  run : PGs X t (tGs rf c.K g)
theorem PG.imp {X : Cx} {e : Expr} {t t' : TG} (h : PG X e t) (i : ∀ v σ H Q, t' v σ H Q → t v σ H Q) : PG X e t' := ⟨fun pins s σ H v u Q I r q => h.run pins s σ H v u Q I r (i v σ H Q q)⟩
theorem PGs.imp {X : Cx} {e : List Expr} {t t' : TGs} (h : PGs X e t) (i : ∀ v σ H Q, t' v σ H Q → t v σ H Q) : PGs X e t' := ⟨fun pins s σ H v u Q I r q => h.run pins s σ H v u Q I r (i v σ H Q q)⟩
def gN (i : Nat) : GF := fun d s => some (s.set i (some (.fz d)))
theorem mg_name {i : Nat} {x : Str} {pos : Pos} (hN : X.N.Nodup) (hi : X.N[i]? = some x) (hx : Loc X.env.scope x) (hr : rf[i]? ≠ some true := by decide) (hf : X.fn x = true ∨ X.env.scope.names.lookup x = some .local := by first | exact .inl rfl | exact .inr rfl | assumption) : MG X c rf (gN i) (.Name x pos) := by
  refine ⟨PG.imp (pg_name hN hi hx hf) fun v σ H Q q => ?_⟩
  obtain ⟨ξ, Y, s, d, tv, ts, hK, F, r, s', e, q⟩ := q
  cases e
  exact q Y H _ (Same.refl _) (.set hr) (F.asgD (hK ▸ r) i)
def gsNil : List D → S → Option S := fun ds s => match ds with
  | [] => some s
  | _ => none
def gsCons (g : GF) (gs : List D → S → Option S) : List D → S → Option S := fun ds s => match ds with
  | d :: r => (g d s).bind (gs r)
  | [] => none
theorem mgs_nil : MGs X c rf gsNil [] := by
  refine ⟨PGs.imp pgs_nil fun v σ H Q q => ?_⟩
  obtain ⟨ξ, Y, s, ds, tv, ts, hK, F, r, s', e, q⟩ := q
  cases r with
  | nil => cases e; exact ⟨rfl, q Y H σ (Same.refl _) (.refl _ _) F⟩
  | cons _ _ => cases e
theorem mgs_cons {g : GF} {gs : List D → S → Option S} {e : Expr} {es : List Expr} (h : MG X c rf g e) (h2 : MGs X c rf gs es)
    (hs : (assignEach (e :: es) X.env).map (·.2) = assign e X.env :: (assignEach es X.env).map (·.2) := by rfl) : MGs X c rf (gsCons g gs) (e :: es) := by
  refine ⟨PGs.imp (pgs_cons h.run h2.run hs) fun v σ H Q q => ?_⟩
  obtain ⟨ξ, Y, s, ds, tv, ts, hK, F, r, s', e, q⟩ := q
  cases r with
  | nil => cases e
  | @cons v vs d ds r rr =>
    unfold gsCons at e
    cases e1 : g d s with
    | none => simp only [e1] at e; cases e
    | some s1 =>
      simp only [e1] at e
      refine ⟨v, vs, rfl, ξ, Y, s, d, tv, ts, hK, F, r, s1, e1, fun Y1 H1 σ1 y1 k1 F1 => ?_⟩
      exact ⟨ξ, Y1, s1, ds, tv, ts, hK, F1, rr.mono y1, s', e, fun Y2 H2 σ2 y2 k2 F2 => q Y2 H2 σ2 (y1.trans y2) (k1.trans k2) F2⟩
def gT (n : Nat) (gs : List D → S → Option S) : GF := fun d s => match d with
  | .tuple ds => if ds.length = n then gs ds s else none
  | _ => none
theorem mg_tup {es : List Expr} {k : Nat} {n : Nat} {pos : Pos} {gs : List D → S → Option S} (hc : X.calm = true) (hXK : X.K = c.K) (h : MGs X c rf gs es) (hn : (assignEach es X.env).length = n := by rfl) (hst : (assignEach es X.env).findIdx? (·.1) = none := by rfl) : MG X c rf (gT n gs) (.Tuple es k pos) := by
  refine ⟨PG.imp (pg_tup hc h.run hn hst) fun v σ H Q q => ?_⟩
  obtain ⟨ξ, Y, s, d, tv, ts, hK, F, r, s', e, q⟩ := q
  unfold gT at e
  split at e
  · rename_i ds
    split at e
    · rename_i hl
      obtain ⟨a, xs, rfl, hq, hd⟩ := r.tuple_inv
      refine ⟨a, xs, rfl, hXK ▸ Same.sqt F.sub hq, by rw [hd.length]; exact hl, ?_⟩
      exact ⟨ξ, Y, s, ds, tv, ts, hK, F, hd, s', e, q⟩
    · cases e
  · cases e

/-! ### assignments -/
def sAsg (f : EF) (g : GF) : SF := fun s => (f s).toS fun d s => match g d s with
  | some s => .nx s
  | none => .bad
theorem sAsg_core {f : EF} {g : GF} {D : Ends} {σ : St} {H : Hp} (q : tS c rf (sAsg f g) D σ H) : tAsg (tE c f) (tG rf c.K g) D σ H := by
  obtain ⟨ξ, Y, s, hK, F, q⟩ := q
  refine sE_seq hK F q fun d s1 Y1 H1 v e1 F1 r1 q1 => ?_
  split at q1
  · rename_i s2 eg
    exact ⟨ξ, Y1, s1, d, [], [], hK, F1, r1, s2, eg, fun Y2 H2 σ2 e2 k2 F2 => q1 Y2 H2 σ2 (e1.trans e2) k2 F2⟩
  · exact q1.elim
theorem ms_asg {f : EF} {g : GF} {tg e : Expr} {pos : Pos} (h : ME X c f e) (hg : MG X c rf g tg) (hs : swapsWithSole [tg] e pos.line X.env = pure false := by rfl) (hw : swappedStores [tg] e X.env = pure none := by rfl)
    (h1 : (assignEach [tg] X.env).map (·.2) = [assign tg X.env] := by rfl) : MS X c rf (sAsg f g) (.Assign [tg] e pos) :=
  ⟨PS.imp (ps_asg h.run hg.run hs hw h1) fun D σ H q => sAsg_core q⟩
/-- name = value, owned -/
def sSet (i : Nat) (f : OF) : SF := fun s => (f s).toS fun o s => .nx (s.set i (some o))
theorem sSet_core {i : Nat} {f : OF} {D : Ends} {σ : St} {H : Hp} (hr : rf[i]? ≠ some true) (q : tS c rf (sSet i f) D σ H) : tAsg (tO c f) (gName i) D σ H := by
  obtain ⟨ξ, Y, s, hK, F, q⟩ := q
  refine sO_seq hK F q fun o s1 Y1 H1 v e1 F1 q1 => ?_
  exact q1 Y1 H1 _ e1 (.set hr) (F1.asgT (tv := []) (ts := []) i)
theorem ms_set {i : Nat} {x : Str} {f : OF} {e : Expr} {pos pos' : Pos} (hN : X.N.Nodup) (hi : X.N[i]? = some x) (hx : Loc X.env.scope x) (h : MO X c f e) (hr : rf[i]? ≠ some true := by decide) (hs : swapsWith e (some (.Name x pos')) pos.line X.env = pure false := by rfl) (hf : X.fn x = true ∨ X.env.scope.names.lookup x = some .local := by first | exact .inl rfl | exact .inr rfl | assumption) :
    MS X c rf (sSet i f) (.Assign [.Name x pos'] e pos) := ⟨PS.imp (ps_set hN hi hx h.run hs hf) fun D σ H q => sSet_core hr q⟩

/-- a middle temp to a slot -/
theorem FS.asgF {tv vs : List V} {ts os : List OD} {v : V} {o : OD} (F : FS ξ Y H σ s (tv ++ v :: vs) (ts ++ o :: os)) (hl : ts.length = tv.length) (i : Nat) : FS ξ Y H (σ.set i (some v)) (s.set i (some o)) (tv ++ vs) (ts ++ os) := by
  obtain ⟨g, R⟩ := F.rel
  have tl : os.length = vs.length := by have := F.tlen; simp at this; omega
  obtain ⟨v', e, r⟩ := R.temp ts.length o (by rw [List.getElem?_append_right (Nat.le_refl _), Nat.sub_self]; rfl)
  have ev : v' = v := by
    rw [hl, List.getElem?_append_right (Nat.le_refl _), Nat.sub_self] at e
    exact (Option.some.inj e).symm
  subst ev
  let sh : Nat → Nat := fun j => if j < ts.length then j else j + 1
  have shi : ∀ j k, sh j = sh k → j = k := fun j k h => by
    simp only [sh] at h
    split at h <;> split at h <;> omega
  have shn : ∀ j, sh j ≠ ts.length := fun j h => by
    simp only [sh] at h
    split at h <;> omega
  refine F.re R (fun k a => match k with
    | .inl j => (j = i ∧ g (.inr ts.length) a) ∨ (j ≠ i ∧ g (.inl j) a)
    | .inr j => g (.inr (sh j)) a) (Same.refl _) F.sub (fun a q => .inl q) (fun k a f => ?_) (fun k j a f f' => ?_) (by simp [F.len]) (by simp [hl, tl]) (fun j o e => ?_) (fun j u e => ?_)
  · cases k with
    | inl j =>
      rcases f with ⟨_, f⟩ | ⟨_, f⟩
      · exact ⟨(R.own _ a f).2.1, _, f⟩
      · exact ⟨(R.own _ a f).2.1, _, f⟩
    | inr j => exact ⟨(R.own _ a f).2.1, _, f⟩
  · cases k with
    | inl k =>
      cases j with
      | inl j =>
        rcases f with ⟨rfl, f⟩ | ⟨n1, f⟩
        · rcases f' with ⟨rfl, _⟩ | ⟨_, f'⟩
          · rfl
          · cases R.sep _ _ _ f' f
        · rcases f' with ⟨rfl, f'⟩ | ⟨_, f'⟩
          · cases R.sep _ _ _ f f'
          · exact R.sep _ _ _ f f'
      | inr j =>
        rcases f with ⟨rfl, f⟩ | ⟨n1, f⟩
        · exact (shn j (Sum.inr.inj (R.sep _ _ _ f' f))).elim
        · cases R.sep _ _ _ f f'
    | inr k =>
      cases j with
      | inl j =>
        rcases f' with ⟨rfl, f'⟩ | ⟨_, f'⟩
        · exact (shn k (Sum.inr.inj (R.sep _ _ _ f f'))).elim
        · cases R.sep _ _ _ f f'
      | inr j => exact congrArg Sum.inr (shi _ _ (Sum.inr.inj (R.sep _ _ _ f f')))
  · by_cases hj : j = i
    · subst hj
      have hlt : j < s.length := by
        have := lt_of_get e
        simpa using this
      rw [List.getElem?_set_self hlt] at e
      cases e
      refine ⟨v', List.getElem?_set_self (by rw [← F.len]; exact hlt), r.iff fun a => ⟨fun f => .inl ⟨rfl, f⟩, fun f => f.elim (fun z => z.2) fun z => (z.1 rfl).elim⟩⟩
    · rw [List.getElem?_set_ne (Ne.symm hj)] at e
      obtain ⟨v, e1, r⟩ := R.slot j o e
      exact ⟨v, by rw [List.getElem?_set_ne (Ne.symm hj)]; exact e1, r.iff fun a => ⟨fun f => .inr ⟨hj, f⟩, fun f => f.elim (fun z => (hj z.1).elim) fun z => z.2⟩⟩
  · have e2 : (ts ++ o :: os)[sh j]? = (ts ++ os)[j]? := by
      simp only [sh]
      split
      · rename_i q
        rw [List.getElem?_append_left q, List.getElem?_append_left q]
      · rename_i q
        rw [List.getElem?_append_right (by omega), List.getElem?_append_right (by omega), show j + 1 - ts.length = (j - ts.length) + 1 by omega, List.getElem?_cons_succ]
    have e3 : (tv ++ v' :: vs)[sh j]? = (tv ++ vs)[j]? := by
      simp only [sh, hl]
      split
      · rename_i q
        rw [List.getElem?_append_left q, List.getElem?_append_left q]
      · rename_i q
        rw [List.getElem?_append_right (by omega), List.getElem?_append_right (by omega), show j + 1 - tv.length = (j - tv.length) + 1 by omega, List.getElem?_cons_succ]
    obtain ⟨v, e1, r⟩ := R.temp (sh j) u (e2.trans e)
    exact ⟨v, e3 ▸ e1, r⟩

/-! ### a, b = x, y : owned -/
abbrev AOF := S → Res (List OD)
def tAO (c : Ct) (f : AOF) : TA := fun σ H Q => ∃ ξ Y s tv ts, ξ.K = c.K ∧ FS ξ Y H σ s tv ts ∧
  out c ξ Y σ tv ts (fun os s' => ∀ Y' H' vs, Same Y Y' → FS ξ Y' H' σ s' (tv ++ vs) (ts ++ os) → Q vs H') (f s)
structure MAO (X : Cx) (c : Ct) (f : AOF) (es : List Expr) : Prop where
  run : PA X es (tAO c f)
theorem out.drop {α : Type} {ξ : Fx} {Y Y1 H1 : Hp} {σ : St} {tv vs : List V} {ts os : List OD} {G G' : α → S → Prop} {r : Res α} (h : out c ξ Y σ tv ts G r) (e : Same Y Y1) (hl : ts.length = tv.length) (hd : ∀ Y' H' s', FS ξ Y' H' σ s' (tv ++ vs) (ts ++ os) → FS ξ Y' H' σ s' tv ts) (g : ∀ a s, G a s → G' a s) : out c ξ Y1 σ (tv ++ vs) (ts ++ os) G' r := by
  cases r with
  | ok a s => exact g a s h
  | ex x s => exact fun Y' H' cl q e' F er => h Y' H' cl q (e.trans e') (hd _ _ _ F) er
  | bad => exact h
/-- temps at the end are let go of -/
theorem FS.dropT {tv vs : List V} {ts os : List OD} (F : FS ξ Y H σ s (tv ++ vs) (ts ++ os)) (hl : ts.length = tv.length) : FS ξ Y H σ s tv ts := by
  obtain ⟨g, R⟩ := F.rel
  refine F.re R g (Same.refl _) F.sub (fun a q => .inl q) (fun i a f => ⟨(R.own i a f).2.1, i, f⟩) R.sep F.len hl R.slot (fun j o e => ?_)
  have hj := lt_of_get e
  obtain ⟨v, e1, r⟩ := R.temp j o (by rw [List.getElem?_append_left hj]; exact e)
  exact ⟨v, by rw [List.getElem?_append_left (by omega)] at e1; exact e1, r⟩
def aoNil : AOF := fun s => .ok [] s
def aoCons (f : OF) (g : AOF) : AOF := fun s => (f s).bind fun o s => (g s).bind fun os s => .ok (o :: os) s
theorem mao_nil : MAO X c aoNil [] := by
  refine ⟨PA.imp pa_nil fun σ H Q q => ?_⟩
  obtain ⟨ξ, Y, s, tv, ts, hK, F, q⟩ := q
  exact q Y H [] (Same.refl _) (by rw [List.append_nil, List.append_nil]; exact F)
theorem mao_cons {f : OF} {g : AOF} {e : Expr} {es : List Expr} (h : MO X c f e) (h2 : MAO X c g es) (hs : starEach (e :: es) X.env = (false, eval e X.env) :: starEach es X.env := by rfl) : MAO X c (aoCons f g) (e :: es) := by
  refine ⟨PA.imp (pa_cons h.run h2.run hs) fun σ H Q q => ?_⟩
  obtain ⟨ξ, Y, s, tv, ts, hK, F, q⟩ := q
  refine tO_seq hK F q fun o s1 Y1 H1 v e1 F1 q1 => ?_
  refine ⟨ξ, Y1, s1, tv ++ [v], ts ++ [o], hK, F1, ?_⟩
  cases eg : g s1 with
  | ok os s2 =>
    rw [eg] at q1
    intro Y2 H2 vs e2 F2
    rw [List.append_assoc, List.append_assoc] at F2
    exact q1 Y2 H2 (v :: vs) (e1.trans e2) F2
  | ex x s2 =>
    rw [eg] at q1
    exact fun Y2 H2 cl x2 e2 F2 er => q1 Y2 H2 cl x2 (e1.trans e2) (F2.dropT F.tlen) er
  | bad => rw [eg] at q1; exact q1
def setAll : List Nat → List OD → S → S
  | i :: is, o :: os, s => setAll is os (s.set i (some o))
  | _, _, s => s
def setAllV : List Nat → List V → St → St
  | i :: is, v :: vs, σ => setAllV is vs (σ.set i (some v))
  | _, _, σ => σ
theorem FS.asgAll : ∀ {is : List Nat} {vs : List V} {os : List OD} {σ : St} {s : S}, is.length = os.length → FS ξ Y H σ s vs os → FS ξ Y H (setAllV is vs σ) (setAll is os s) [] []
  | [], [], [], σ, s, _, F => F
  | i :: is, v :: vs, o :: os, σ, s, h, F => by
    show FS ξ Y H (setAllV is vs (σ.set i (some v))) (setAll is os (s.set i (some o))) [] []
    exact FS.asgAll (by simpa using h) (F.asgF (tv := []) (ts := []) rfl i)
  | [], _, _ :: _, _, _, h, _ => by simp at h
  | _ :: _, _, [], _, _, h, _ => by simp at h
  | [], _ :: _, [], _, _, _, F => by have := F.tlen; simp at this
  | _ :: _, [], _ :: _, _, _, _, F => by have := F.tlen; simp at this
theorem Keep.setAllV {rf : List Bool} : ∀ {is : List Nat} {vs : List V} {σ : St}, (∀ i ∈ is, rf[i]? ≠ some true) → Keep rf σ (setAllV is vs σ)
  | [], _, _, _ => .refl _ _
  | _ :: _, [], _, _ => .refl _ _
  | i :: is, v :: vs, σ, h => (Keep.set (h i (by simp))).trans (Keep.setAllV fun j hj => h j (by simp [hj]))
/-- names = a display of as many values -/
def sPar (is : List Nat) (f : AOF) : SF := fun s => (f s).toS fun os s => if os.length = is.length then .nx (setAll is os s) else .bad
theorem sAO_seq {fa : AOF} {k : List OD → S → Out} {D : Ends} {R : List V → Hp → Prop} (hK : ξ.K = c.K) (F : FS ξ Y H σ s [] []) (h : outS c rf ξ Y σ D ((fa s).toS k))
    (hR : ∀ os s1 Y1 H1 vs, Same Y Y1 → FS ξ Y1 H1 σ s1 vs os → outS c rf ξ Y σ D (k os s1) → R vs H1) : tAO c fa σ H R := by
  refine ⟨ξ, Y, s, [], [], hK, F, ?_⟩
  cases e : fa s with
  | ok d s1 => rw [e] at h; exact fun Y1 H1 v e1 F1 => hR d s1 Y1 H1 v e1 F1 h
  | ex x s1 => rw [e] at h; exact fun Y' H' cl q e' F' er => h Y' H' σ cl q e' (.refl _ _) F' er
  | bad => rw [e] at h; exact h
theorem ms_par2 {i j : Nat} {x y : Str} {f : AOF} {a b : Expr} {px py pt pos : Pos} {kt k2 pt2} (hc : X.calm = true) (hN : X.N.Nodup) (hi : X.N[i]? = some x) (hj : X.N[j]? = some y) (hij : i ≠ j)
    (hx : X.env.scope.names.lookup x = some .local) (hy : X.env.scope.names.lookup y = some .local) (ha : MAO X c f [a, b]) (hri : rf[i]? ≠ some true) (hrj : rf[j]? ≠ some true)
    (hw : swappedStores [.Tuple [.Name x px, .Name y py] kt pt] (.Tuple [a, b] k2 pt2) X.env = pure (some [x, y]))
    (hs : swapsWithSole [.Tuple [.Name x px, .Name y py] kt pt] (.Tuple [a, b] k2 pt2) pos.line X.env = pure false := by rfl) :
    MS X c rf (sPar [i, j] f) (.Assign [.Tuple [.Name x px, .Name y py] kt pt] (.Tuple [a, b] k2 pt2) pos) := by
  refine ⟨PS.imp (ps_par hc hN hi hj hij hx hy ha.run hw hs) fun D σ H q => ?_⟩
  obtain ⟨ξ, Y, s, hK, F, q⟩ := q
  refine sAO_seq hK F q fun os s1 Y1 H1 vs e1 F1 q1 => ?_
  split at q1
  · rename_i hl
    have hl2 : vs.length = 2 := F1.tlen.symm.trans hl
    obtain ⟨v, w, rfl⟩ : ∃ v w, vs = [v, w] := by
      match vs, hl2 with
      | [v, w], _ => exact ⟨v, w, rfl⟩
    exact ⟨v, w, rfl, q1 Y1 H1 _ e1 ((Keep.set hri).trans (.set hrj)) (FS.asgAll (is := [i, j]) hl.symm F1)⟩
  · exact q1.elim
/-- the same through a tuple -/
def gSlots (is : List Nat) : TGs := fun vs σ H Q => vs.length = is.length ∧ Q (setAllV is vs σ) H
theorem pgs_slots0 {X : Cx} : PGs X [] (gSlots []) := by
  refine ⟨fun pins s σ H vs us Q I r h => pgs_nil.run pins s σ H vs us Q I r ?_⟩
  obtain ⟨h1, h2⟩ := h
  match vs, h1 with
  | [], _ => exact ⟨rfl, h2⟩
theorem pgs_slots {X : Cx} {i : Nat} {is : List Nat} {e : Expr} {es : List Expr} (h : PG X e (gName i)) (h2 : PGs X es (gSlots is)) (hs : (assignEach (e :: es) X.env).map (·.2) = assign e X.env :: (assignEach es X.env).map (·.2) := by rfl) : PGs X (e :: es) (gSlots (i :: is)) := by
  refine ⟨fun pins s σ H vs us Q I r q => (pgs_cons h h2 hs).run pins s σ H vs us Q I r ?_⟩
  obtain ⟨h1, h2⟩ := q
  match vs, h1 with
  | v :: vs, h1 => exact ⟨v, vs, rfl, by simpa using h1, h2⟩
theorem ms_parT {is : List Nat} {f : AOF} {ns es : List Expr} {kt k2 : Nat} {pt pt2 pos : Pos} {n : Nat} (hc : X.calm = true) (ha : MAO X c f es) (hg : PGs X ns (gSlots is)) (hr : ∀ i ∈ is, rf[i]? ≠ some true) (hsz : is.length ≤ 1000 := by decide)
    (hs : swapsWithSole [.Tuple ns kt pt] (.Tuple es k2 pt2) pos.line X.env = pure false := by rfl) (hw : swappedStores [.Tuple ns kt pt] (.Tuple es k2 pt2) X.env = pure none := by rfl)
    (h1 : (assignEach [.Tuple ns kt pt] X.env).map (·.2) = [assign (.Tuple ns kt pt) X.env] := by rfl) (hn : (assignEach ns X.env).length = is.length := by rfl) (hst : (assignEach ns X.env).findIdx? (·.1) = none := by rfl) :
    MS X c rf (sPar is f) (.Assign [.Tuple ns kt pt] (.Tuple es k2 pt2) pos) := by
  refine ⟨PS.imp (ps_asg (pe_tup ha.run) (pg_tup hc hg hn hst) hs hw h1) fun D σ H q => ?_⟩
  obtain ⟨ξ, Y, s, hK, F, q⟩ := q
  refine sAO_seq hK F q fun os s1 Y1 H1 vs e1 F1 q1 => ?_
  split at q1
  · rename_i hl
    have hl2 : vs.length = is.length := F1.tlen.symm.trans hl
    refine ⟨by rw [hl2]; exact Nat.le_of_lt (small1000 hsz), fun p hp => ?_⟩
    refine ⟨p, vs, rfl, .inl (.inl upd_same), hl2, hl2, ?_⟩
    exact q1 Y1 _ _ e1 (Keep.setAllV hr) (FS.asgAll hl.symm (F1.newJ hp _))
  · exact q1.elim
end
end MI

set_option Elab.async false
set_option linter.all false
set_option autoImplicit false
set_option maxRecDepth 100000
/-! MI: loops, comprehensions. -/
namespace MI
open PySem PySem.Spec L2
section
variable {X : Cx} {c : Ct} {rf : List Bool} {ξ : Fx} {Y H : Hp} {σ : St} {s : S} {tv : List V} {ts : List OD}

/-- the last temp is an owned list: written -/
theorem FS.listT {ds : List D} {v : V} (F : FS ξ Y H σ s (tv ++ [v]) (ts ++ [.ol ds])) (hl : ts.length = tv.length) : ∃ p vs, v = .ref p ∧ H p = some (.lst vs) ∧ DrAll ξ.K Y vs ds ∧
    ∀ vs' ds', DrAll ξ.K Y vs' ds' → FS ξ Y (upd H p (.lst vs')) σ s (tv ++ [v]) (ts ++ [.ol ds']) := by
  obtain ⟨g, R⟩ := F.rel
  obtain ⟨v', e, r⟩ := R.temp ts.length _ snoc_new
  have ev : v' = v := by
    rw [hl, snoc_new] at e
    exact (Option.some.inj e).symm
  subst ev
  obtain ⟨p, vs, rfl, hp, hd, hF⟩ := r.ol_inv
  refine ⟨p, vs, rfl, hp, hd, fun vs' ds' h' => ?_⟩
  have gp : g (.inr ts.length) p := (hF p).mpr rfl
  have no : ∀ k a, k ≠ .inr ts.length → g k a → a ≠ p := fun k a n f z => n (R.sep _ _ _ f (z ▸ gp))
  have kk : ∀ k a, k ≠ .inr ts.length → g k a → upd H p (.lst vs') a = H a := fun k a n f => upd_ne (no k a n f)
  obtain ⟨_, yp, op⟩ := R.own _ p gp
  refine ⟨fun a o q => ?_, F.z0, F.fresh, fun a o q m => ?_, fun a q => ?_, F.len, by simp [hl], g, fun j o e => ?_, fun j o e => ?_, fun k a f => ?_, R.sep⟩
  · rw [upd_ne fun z => by rw [z, yp] at q; cases q]
    exact F.sub a o q
  · rw [upd_ne fun z => ?_]
    · exact F.keep a o q m
    · subst z
      rcases op with op | op
      · rw [op] at q; cases q
      · exact m op
  · by_cases z : a = p
    · subst z; rw [upd_same]; simp
    · rw [upd_ne z]; exact F.live a q
  · obtain ⟨v, e1, r⟩ := R.slot j o e
    exact ⟨v, e1, r.mono (Same.refl _) fun a f => kk (.inl j) a (fun z => nomatch z) f⟩
  · rcases getElem?_snoc e with e' | ⟨rfl, rfl⟩
    · obtain ⟨v, e1, r⟩ := R.temp j o (snoc_old e')
      have hj := lt_of_get e'
      exact ⟨v, e1, r.mono (Same.refl _) fun a f => kk (.inr j) a (fun z => by cases z; omega) f⟩
    · exact ⟨.ref p, by rw [hl]; exact snoc_new, (RO.ol upd_same h').iff fun a => (hF a).symm⟩
  · have h1 := R.own k a f
    by_cases z : a = p
    · subst z; exact ⟨by rw [upd_same]; simp, h1.2⟩
    · exact ⟨by rw [upd_ne z]; exact h1.1, h1.2⟩
/-- other values where nothing is told -/
theorem FS.resig (F : FS ξ Y H σ s tv ts) {σ' : St} (hl : σ'.length = σ.length) (h : ∀ (i : Nat) (o : OD), s[i]? = some (some o) → σ'[i]? = σ[i]?) : FS ξ Y H σ' s tv ts := by
  obtain ⟨g, R⟩ := F.rel
  refine F.re R g (Same.refl _) F.sub (fun a q => .inl q) (fun i a f => ⟨(R.own i a f).2.1, i, f⟩) R.sep (F.len.trans hl.symm) F.tlen (fun i o e => ?_) R.temp
  obtain ⟨v, e1, r⟩ := R.slot i o e
  exact ⟨v, (h i o e).trans e1, r⟩

/-! ### what is walked -/
abbrev IF := S → Res (List D)
/-- J yields ds -/
structure Walks (K : PySem.W.Frag) (Y : Hp) (J : It) (ds : List D) : Prop where
  go : ∀ i H, Same Y H → i < ds.length → J.go i H
  stop : ∀ H, Same Y H → J.stop ds.length H
  yld : ∀ i H x H' d, Same Y H → ds[i]? = some d → J.yld i H x H' → ∀ Y2, Same Y Y2 → Same Y2 H → ∃ Y3, Gives K Y2 H x Y3 H' (.fz d)
theorem Walks.mono {K : PySem.W.Frag} {Y Y' : Hp} {J : It} {ds : List D} (w : Walks K Y J ds) (e : Same Y Y') : Walks K Y' J ds :=
  ⟨fun i H h => w.go i H (e.trans h), fun H h => w.stop H (e.trans h), fun i H x H' d h h1 h2 Y2 h3 h4 => w.yld i H x H' d (e.trans h) h1 h2 Y2 (e.trans h3) h4⟩
def tI (c : Ct) (f : IF) : TI := fun σ H R => ∃ ξ Y s tv ts, ξ.K = c.K ∧ FS ξ Y H σ s tv ts ∧
  out c ξ Y σ tv ts (fun ds s' => ∀ Y' H' J, Same Y Y' → FS ξ Y' H' σ s' tv ts → Walks c.K Y' J ds → R J H') (f s)
structure MI_ (X : Cx) (c : Ct) (f : IF) (tg iter : Expr) : Prop where
  run : PI X tg iter (tI c f)
theorem PI.imp {X : Cx} {tg e : Expr} {t t' : TI} (h : PI X tg e t) (i : ∀ σ H R, t' σ H R → t σ H R) : PI X tg e t' := ⟨fun pins s σ H R I q => h.run pins s σ H R I (i σ H R q)⟩
theorem PI.or {X : Cx} {tg e : Expr} {t t' : TI} (h : PI X tg e t) (h' : PI X tg e t') : PI X tg e (fun σ H R => t σ H R ∨ t' σ H R) := ⟨fun pins s σ H R I q => q.elim (h.run pins s σ H R I) (h'.run pins s σ H R I)⟩
theorem tI_seq {β : Type} {fa : IF} {k : List D → S → Res β} {G : β → S → Prop} {R : It → Hp → Prop} (hK : ξ.K = c.K) (F : FS ξ Y H σ s tv ts) (h : out c ξ Y σ tv ts G ((fa s).bind k))
    (hR : ∀ ds s1 Y1 H1 J, Same Y Y1 → FS ξ Y1 H1 σ s1 tv ts → Walks c.K Y1 J ds → out c ξ Y σ tv ts G (k ds s1) → R J H1) : tI c fa σ H R := by
  refine ⟨ξ, Y, s, tv, ts, hK, F, ?_⟩
  cases e : fa s with
  | ok d s1 => rw [e] at h; exact fun Y1 H1 v e1 F1 r1 => hR d s1 Y1 H1 v e1 F1 r1 h
  | ex x s1 => rw [e] at h; exact h
  | bad => rw [e] at h; exact h
theorem sI_seq {fa : IF} {k : List D → S → Out} {D : Ends} {R : It → Hp → Prop} (hK : ξ.K = c.K) (F : FS ξ Y H σ s [] []) (h : outS c rf ξ Y σ D ((fa s).toS k))
    (hR : ∀ ds s1 Y1 H1 J, Same Y Y1 → FS ξ Y1 H1 σ s1 [] [] → Walks c.K Y1 J ds → outS c rf ξ Y σ D (k ds s1) → R J H1) : tI c fa σ H R := by
  refine ⟨ξ, Y, s, [], [], hK, F, ?_⟩
  cases e : fa s with
  | ok d s1 => rw [e] at h; exact fun Y1 H1 v e1 F1 r1 => hR d s1 Y1 H1 v e1 F1 r1 h
  | ex x s1 => rw [e] at h; exact fun Y' H' cl q e' F' er => h Y' H' σ cl q e' (.refl _ _) F' er
  | bad => rw [e] at h; exact h
theorem walks_list {K : PySem.W.Frag} {Y : Hp} {a : Addr} {xs : List V} {ds : List D} (h : SqL K Y a xs) (r : DrAll K Y xs ds) (uniq : ∀ H xs', Same Y H → SqL K H a xs' → xs' = xs) : Walks K Y (Itl K a) ds where
  go i H e hi := ⟨xs, xs[i]'(by rw [r.length]; exact hi), e.seq h, List.getElem?_eq_getElem _⟩
  stop H e := ⟨xs, e.seq h, by rw [r.length]; exact Nat.le_refl _⟩
  yld i H x H' d e hd hy Y2 e2 e3 := by
    obtain ⟨rfl, hx⟩ := hy
    obtain ⟨v, hv, rv⟩ := r.get hd
    have := hx xs (e.seq h)
    rw [hv] at this
    cases this
    exact ⟨Y2, .old (rv.mono e2)⟩
theorem walks_tup {K : PySem.W.Frag} {Y : Hp} {a : Addr} {xs : List V} {ds : List D} (h : SqT K Y a xs) (r : DrAll K Y xs ds) : Walks K Y (Itt K a) ds where
  go i H e hi := ⟨xs, xs[i]'(by rw [r.length]; exact hi), Same.sqt e h, List.getElem?_eq_getElem _⟩
  stop H e := ⟨xs, Same.sqt e h, by rw [r.length]; exact Nat.le_refl _⟩
  yld i H x H' d e hd hy Y2 e2 e3 := by
    obtain ⟨rfl, hx⟩ := hy
    obtain ⟨v, hv, rv⟩ := r.get hd
    have := hx xs (Same.sqt e h)
    rw [hv] at this
    cases this
    exact ⟨Y2, .old (rv.mono e2)⟩
/-- a list or a tuple -/
def itemsD : D → Option (List D)
  | .list ds => some ds
  | .tuple ds => some ds
  | _ => none
def iSeq (f : EF) : IF := fun s => (f s).bind fun d s => ofO (itemsD d) s
theorem mi_seq {f : EF} {tg e : Expr} (hXK : X.K = c.K) (h : ME X c f e) : MI_ X c (iSeq f) tg e := by
  refine ⟨PI.imp (PI.or (pi_list h.run) (pi_tup h.run)) fun σ H R q => ?_⟩
  obtain ⟨ξ, Y, s, tv, ts, hK, F, q⟩ := q
  unfold iSeq at q
  cases e : f s with
  | bad => rw [e] at q; exact q.elim
  | ex x s1 =>
    rw [e] at q
    exact .inl ⟨ξ, Y, s, tv, ts, hK, F, by rw [e]; exact q⟩
  | ok d s1 =>
    rw [e, Res.bind_ok] at q
    cases d with
    | list ds =>
      refine .inl ⟨ξ, Y, s, tv, ts, hK, F, ?_⟩
      rw [e]
      intro Y1 H1 v e1 F1 r1
      obtain ⟨a, xs, rfl, hq, hd⟩ := r1.list_inv
      have hq : SqL c.K Y1 a xs := .inl (.inl hq)
      refine ⟨a, rfl, ⟨xs, hXK ▸ F1.sub.seq hq⟩, ?_⟩
      rw [hXK]
      exact q Y1 H1 _ e1 F1 ⟨fun i H e hi => ⟨xs, xs[i]'(by rw [hd.length]; exact hi), e.seq hq, List.getElem?_eq_getElem _⟩, fun H e => ⟨xs, e.seq hq, by rw [hd.length]; exact Nat.le_refl _⟩, fun i H x H' d e hd' hy Y2 e2 e3 => by
        obtain ⟨rfl, hx⟩ := hy
        obtain ⟨v, hv, rv⟩ := hd.get hd'
        have := hx xs (e.seq hq)
        rw [hv] at this
        cases this
        exact ⟨Y2, .old (rv.mono e2)⟩⟩
    | tuple ds =>
      refine .inr ⟨ξ, Y, s, tv, ts, hK, F, ?_⟩
      rw [e]
      intro Y1 H1 v e1 F1 r1
      obtain ⟨a, xs, rfl, hq, hd⟩ := r1.tuple_inv
      refine ⟨a, rfl, ⟨xs, hXK ▸ Same.sqt F1.sub hq⟩, ?_⟩
      rw [hXK]
      exact q Y1 H1 _ e1 F1 (walks_tup hq hd)
    | none => exact q.elim
    | bool _ => exact q.elim
    | int _ => exact q.elim
    | str _ => exact q.elim
    | dict _ => exact q.elim
/-- range -/
def upto (lo : Int) (n : Nat) : List D := (List.range n).map fun i : Nat => PyData.int (lo + (i : Int))
theorem walks_range {K : PySem.W.Frag} {Y : Hp} {lo : Int} {n : Nat} : Walks K Y (Itr lo n) (upto lo n) where
  go i H e hi := by
    show i < n
    simpa [upto] using hi
  stop H e := by show n ≤ _; simp [upto]
  yld i H x H' d e hd hy Y2 e2 e3 := by
    obtain ⟨rfl, rfl⟩ := hy
    have hi := lt_of_get hd
    have e4 : d = .int (lo + (i : Int)) := by
      rw [List.getElem?_eq_getElem hi] at hd
      simp [upto] at hd
      exact hd.symm
    subst e4
    exact ⟨Y2, .old (.int _)⟩
def iRange1 (f : EF) : IF := fun s => (f s).bind fun d s => match d with
  | .int n => if -(2 ^ 62) ≤ n ∧ n < 2 ^ 62 then .ok (upto 0 n.toNat) s else .bad
  | _ => .bad
theorem mi_range1 {f : EF} {tg a : Expr} {p pos : Pos} (hg : Gl X "range") (hm : X.mg "range" = none) (h : ME X c f a) (hs : starEach [a] X.env = [(false, eval a X.env)] := by rfl) : MI_ X c (iRange1 f) tg (.Call (.Name "range" p) [a] [] pos) := by
  refine ⟨PI.imp (pi_range1 hg hm (ma_cons h ma_nil hs).run hs) fun σ H R q => ?_⟩
  obtain ⟨ξ, Y, s, tv, ts, hK, F, q⟩ := q
  refine ⟨ξ, Y, s, tv, ts, hK, F, ?_⟩
  unfold iRange1 at q
  unfold aCons aNil
  cases e : f s with
  | bad => rw [e] at q; exact q.elim
  | ex x s1 => rw [e] at q; exact q
  | ok d s1 =>
    rw [e, Res.bind_ok] at q
    rw [Res.bind_ok, Res.bind_ok]
    intro Y1 H1 vs e1 F1 r1
    cases d with
    | int n =>
      simp only at q
      split at q
      · rename_i hn
        cases r1 with
        | cons ra rb =>
          cases rb
          obtain rfl := ra.int_inv
          exact ⟨n, rfl, hn.1, hn.2, q Y1 H1 _ e1 F1 walks_range⟩
      · exact q.elim
    | none => exact q.elim
    | bool _ => exact q.elim
    | str _ => exact q.elim
    | list _ => exact q.elim
    | tuple _ => exact q.elim
    | dict _ => exact q.elim
def iRange2 (f g : EF) : IF := fun s => (f s).bind fun d s => (g s).bind fun e s => match d, e with
  | .int m, .int n => if -(2 ^ 62) ≤ m ∧ m < 2 ^ 62 ∧ -(2 ^ 62) ≤ n ∧ n < 2 ^ 62 then .ok (upto m (n - m).toNat) s else .bad
  | _, _ => .bad
theorem mi_range2 {f g : EF} {tg a b : Expr} {p pos : Pos} (hg : Gl X "range") (hm : X.mg "range" = none) (h : ME X c f a) (h2 : ME X c g b) (hs : starEach [a, b] X.env = [(false, eval a X.env), (false, eval b X.env)] := by rfl) (hs2 : starEach [b] X.env = [(false, eval b X.env)] := by rfl) : MI_ X c (iRange2 f g) tg (.Call (.Name "range" p) [a, b] [] pos) := by
  refine ⟨PI.imp (pi_range2 hg hm (ma_cons h (ma_cons h2 ma_nil hs2) (by rw [hs, hs2])).run hs hs2) fun σ H R q => ?_⟩
  obtain ⟨ξ, Y, s, tv, ts, hK, F, q⟩ := q
  refine ⟨ξ, Y, s, tv, ts, hK, F, ?_⟩
  unfold iRange2 at q
  unfold aCons aNil
  cases e : f s with
  | bad => rw [e] at q; exact q.elim
  | ex x s1 => rw [e] at q; exact q
  | ok d s1 =>
    rw [e, Res.bind_ok] at q
    rw [Res.bind_ok]
    cases e' : g s1 with
    | bad => rw [e'] at q; exact q.elim
    | ex x s1 => rw [e'] at q; exact q
    | ok d' s2 =>
      rw [e', Res.bind_ok] at q
      rw [Res.bind_ok, Res.bind_ok, Res.bind_ok]
      intro Y1 H1 vs e1 F1 r1
      split at q
      · rename_i m n
        split at q
        · rename_i hn
          cases r1 with
          | cons ra rb =>
            cases rb with
            | cons rb rc =>
              cases rc
              obtain rfl := ra.int_inv
              obtain rfl := rb.int_inv
              exact ⟨m, n, rfl, ⟨hn.1, hn.2.1, hn.2.2.1, hn.2.2.2⟩, q Y1 H1 _ e1 F1 walks_range⟩
        · exact q.elim
      · exact q.elim

/-! ### for -/
def forL (g : GF) (body : SF) : List D → S → Out
  | [], s => .nx s
  | d :: ds, s => match g d s with
    | none => .bad
    | some s1 => match body s1 with
      | .nx s2 => forL g body ds s2
      | .ct s2 => forL g body ds s2
      | .bk s2 => .nx s2
      | .rt o s2 => .rt o s2
      | .ex e s2 => .ex e s2
      | .bad => .bad
def sFor (it : IF) (g : GF) (body : SF) : SF := fun s => (it s).toS fun ds s => forL g body ds s
theorem ms_for {it : IF} {g : GF} {f : SF} {tg iter : Expr} {body : List Stmt} {pos : Pos} (hp : PassesOwn (model X.prog X.w) X.A X.env X.xe) (hc : X.calm = true) (hi : MI_ X c it tg iter) (hg : MG X c rf g tg) (hb : MSs X c rf f body)
    (hs : ∀ x, foldedSetIterable iter X.env x = pure x := by intro _; rfl) : MS X c rf (sFor it g f) (.For tg iter body [] pos) := by
  refine ⟨PS.imp (ps_for hp hc hi.run hg.run hb.run hs) fun D σ H q => ?_⟩
  obtain ⟨ξ, Y, s, hK, F, q⟩ := q
  refine sI_seq hK F q fun ds s1 Y1 H1 J e1 F1 w q1 => ?_
  refine ⟨fun i m σ' H' => ∃ Y' s', i ≤ ds.length ∧ m = ds.length - i ∧ Same Y1 Y' ∧ FS ξ Y' H' σ' s' [] [] ∧ outS c rf ξ Y' σ' D (forL g f (ds.drop i) s'),
    ⟨ds.length, Y1, s1, Nat.zero_le _, by omega, Same.refl _, F1, outS.mono c rf q1 e1 (.refl _ _)⟩, ?_⟩
  rintro i m σ' H' ⟨Y', s', hle, rfl, e2, F2, q2⟩
  rcases Nat.lt_or_ge i ds.length with hlt | hge
  · have hd : ds[i]? = some ds[i] := List.getElem?_eq_getElem hlt
    rw [List.drop_eq_getElem_cons hlt] at q2
    refine .inr ⟨w.go i H' (e2.trans F2.sub) hlt, fun σ3 H3 => ∃ Y3 s3, Same Y1 Y3 ∧ FS ξ Y3 H3 σ3 s3 [] [] ∧ outS c rf ξ Y3 σ3 D (forL g f (ds.drop (i + 1)) s3), ?_, ?_⟩
    · rintro σ3 H3 ⟨Y3, s3, e3, F3, q3⟩
      exact ⟨ds.length - (i + 1), by omega, Y3, s3, by omega, rfl, e3, F3, q3⟩
    · intro x H3 hy
      obtain ⟨Y3, gv⟩ := w.yld i H' x H3 _ (e2.trans F2.sub) hd hy Y' e2 F2.sub
      obtain ⟨e3, F3⟩ := gv.fs hK F2
      obtain ⟨Y4, e4, F4, r4⟩ := F3.freezeT
      have e5 : Same Y' Y4 := e3.trans e4
      simp only [forL] at q2
      split at q2
      · exact q2.elim
      · rename_i s5 eg
        refine ⟨ξ, Y4, s', ds[i], [], [], hK, F4, hK ▸ r4, s5, eg, fun Y6 H6 σ6 e6 k6 F6 => ?_⟩
        refine ⟨ξ, Y6, s5, hK, F6, ?_⟩
        have all : Same Y1 Y6 := (e2.trans e5).trans e6
        cases ef : f s5 with
        | nx s7 => rw [ef] at q2; exact fun Y7 H7 σ7 e7 k7 F7 => ⟨Y7, s7, all.trans e7, F7, outS.mono c rf q2 ((e5.trans e6).trans e7) (k6.trans k7)⟩
        | ct s7 => rw [ef] at q2; exact fun Y7 H7 σ7 e7 k7 F7 => ⟨Y7, s7, all.trans e7, F7, outS.mono c rf q2 ((e5.trans e6).trans e7) (k6.trans k7)⟩
        | bk s7 => rw [ef] at q2; exact fun Y7 H7 σ7 e7 k7 F7 => q2 Y7 H7 σ7 ((e5.trans e6).trans e7) (k6.trans k7) F7
        | rt o s7 => rw [ef] at q2; exact fun Y7 H7 σ7 v e7 k7 F7 => q2 Y7 H7 σ7 v ((e5.trans e6).trans e7) (k6.trans k7) F7
        | ex x s7 => rw [ef] at q2; exact fun Y7 H7 σ7 cl z e7 k7 F7 er => q2 Y7 H7 σ7 cl z ((e5.trans e6).trans e7) (k6.trans k7) F7 er
        | bad => rw [ef] at q2; exact q2.elim
  · have hi : i = ds.length := by omega
    subst hi
    rw [List.drop_length] at q2
    exact .inl ⟨w.stop H' (e2.trans F2.sub), q2 Y' H' σ' (Same.refl _) (.refl _ _) F2⟩

/-! ### while -/
def whileL (t : TF) (body : SF) : Nat → S → Out
  | 0, _ => .bad
  | n + 1, s => (t s).toS fun b s1 => if b = true then (match body s1 with
      | .nx s2 => whileL t body n s2
      | .ct s2 => whileL t body n s2
      | .bk s2 => .nx s2
      | .rt o s2 => .rt o s2
      | .ex e s2 => .ex e s2
      | .bad => .bad) else .nx s1
def sWhile (n : Nat) (t : TF) (body : SF) : SF := fun s => whileL t body n s
theorem ms_while {n : Nat} {t : TF} {f : SF} {x : Expr} {body : List Stmt} {pos : Pos} (hp : PassesOwn (model X.prog X.w) X.A X.env X.xe) (ht : MT X c t x) (hb : MSs X c rf f body) : MS X c rf (sWhile n t f) (.While x body [] pos) := by
  refine ⟨PS.imp (ps_while hp ht.run hb.run) fun D σ H q => ?_⟩
  obtain ⟨ξ, Y, s, hK, F, q⟩ := q
  refine ⟨fun m σ' H' => ∃ Y' s', FS ξ Y' H' σ' s' [] [] ∧ outS c rf ξ Y' σ' D (whileL t f m s'), ⟨n, Y, s, F, q⟩, ?_⟩
  rintro m σ' H' ⟨Y', s', F2, q2⟩
  cases m with
  | zero => exact q2.elim
  | succ m =>
    refine sT_seq hK F2 q2 fun b s3 Y3 H3 e3 F3 q3 => ?_
    cases b with
    | false => exact iteF (q3 Y3 H3 σ' e3 (.refl _ _) F3)
    | true =>
      refine iteT ⟨fun σ4 H4 => ∃ Y4 s4, FS ξ Y4 H4 σ4 s4 [] [] ∧ outS c rf ξ Y4 σ4 D (whileL t f m s4), fun σ4 H4 h => ⟨m, Nat.lt_succ_self m, h⟩, ?_⟩
      refine ⟨ξ, Y3, s3, hK, F3, ?_⟩
      rw [if_pos rfl] at q3
      cases ef : f s3 with
      | nx s7 => rw [ef] at q3; exact fun Y7 H7 σ7 e7 k7 F7 => ⟨Y7, s7, F7, outS.mono c rf q3 (e3.trans e7) k7⟩
      | ct s7 => rw [ef] at q3; exact fun Y7 H7 σ7 e7 k7 F7 => ⟨Y7, s7, F7, outS.mono c rf q3 (e3.trans e7) k7⟩
      | bk s7 => rw [ef] at q3; exact fun Y7 H7 σ7 e7 k7 F7 => q3 Y7 H7 σ7 (e3.trans e7) k7 F7
      | rt o s7 => rw [ef] at q3; exact fun Y7 H7 σ7 v e7 k7 F7 => q3 Y7 H7 σ7 v (e3.trans e7) k7 F7
      | ex x s7 => rw [ef] at q3; exact fun Y7 H7 σ7 cl z e7 k7 F7 er => q3 Y7 H7 σ7 cl z (e3.trans e7) k7 F7 er
      | bad => rw [ef] at q3; exact q3.elim

/-! ### list comprehensions -/
def Res.noex {α : Type} : Res α → Res α
  | .ok a s => .ok a s
  | _ => .bad
@[simp] theorem Res.noex_ok {α : Type} {a : α} {s : S} : (Res.ok a s).noex = .ok a s := Eq.trans rfl rfl
/-- the comprehension's own slots (flags) emptied; put back -/
def wipeF : List Bool → S → S
  | b :: bs, x :: xs => (if b = true then none else x) :: wipeF bs xs
  | [], xs => xs
  | _, [] => []
def backF : List Bool → S → S → S
  | b :: bs, x :: xs, y :: ys => (if b = true then (match x with
      | some (.fz d) => some (.fz d)
      | _ => none) else y) :: backF bs xs ys
  | [], _, ys => ys
  | _, _, _ => []
def lcL (ow : List Bool) (g : GF) (t : TF) (e : EF) : List D → List D → S → Res (List D)
  | [], acc, s => .ok acc s
  | d :: ds, acc, s => match g d s with
    | none => .bad
    | some s1 => (t s1).noex.bind fun b s2 => if b = true then (e s2).noex.bind fun y s3 => if acc.length < sizeLine then lcL ow g t e ds (acc ++ [y]) (wipeF ow s3) else .bad
        else lcL ow g t e ds acc (wipeF ow s2)
def oLc (ow : List Bool) (it : IF) (g : GF) (t : TF) (e : EF) : OF := fun s => (it s).bind fun ds s1 => if ow.length = s1.length then (lcL ow g t e ds [] (wipeF ow s1)).bind fun acc s2 => .ok (.ol acc) (backF ow s1 s2) else .bad
def kYes : TF := fun s => .ok true s

theorem wipeF_length : ∀ {ow : List Bool} {s : S}, (wipeF ow s).length = s.length
  | [], _ => by simp [wipeF]
  | _ :: _, [] => by simp [wipeF]
  | b :: bs, x :: xs => by simp [wipeF, wipeF_length (ow := bs) (s := xs)]
theorem wipeF_get : ∀ {ow : List Bool} {s : S} {i : Nat} {o : OD}, (wipeF ow s)[i]? = some (some o) → s[i]? = some (some o) ∧ ow[i]? ≠ some true
  | [], s, i, o, h => by simpa [wipeF] using h
  | _ :: _, [], i, o, h => by simp [wipeF] at h
  | b :: bs, x :: xs, 0, o, h => by
    cases b <;> simp [wipeF] at h ⊢
    exact h
  | b :: bs, x :: xs, i + 1, o, h => by
    simp only [wipeF, List.getElem?_cons_succ] at h ⊢
    exact wipeF_get h
theorem backF_length : ∀ {ow : List Bool} {s s' : S}, s'.length = s.length → (backF ow s s').length = s'.length
  | [], _, _, _ => by simp [backF]
  | _ :: _, [], [], _ => by simp [backF]
  | _ :: _, [], _ :: _, h => by simp at h
  | _ :: _, _ :: _, [], h => by simp at h
  | b :: bs, x :: xs, y :: ys, h => by simp [backF, backF_length (ow := bs) (s := xs) (s' := ys) (by simpa using h)]
theorem backF_get : ∀ {ow : List Bool} {s s' : S} {i : Nat} {o : OD}, (backF ow s s')[i]? = some (some o) → (ow[i]? = some true ∧ ∃ d, o = .fz d ∧ s[i]? = some (some (.fz d))) ∨ (ow[i]? ≠ some true ∧ s'[i]? = some (some o))
  | [], s, s', i, o, h => by
    right
    simpa [backF] using h
  | _ :: _, [], _, i, o, h => by simp [backF] at h
  | _ :: _, _ :: _, [], i, o, h => by simp [backF] at h
  | b :: bs, x :: xs, y :: ys, 0, o, h => by
    cases b with
    | false =>
      right
      simpa [backF] using h
    | true =>
      left
      refine ⟨by simp, ?_⟩
      simp only [backF, List.getElem?_cons_zero, Option.some.injEq, if_true] at h
      split at h
      · rename_i d
        cases h
        exact ⟨d, rfl, by simp⟩
      · cases h
  | b :: bs, x :: xs, y :: ys, i + 1, o, h => by
    simp only [backF, List.getElem?_cons_succ] at h ⊢
    exact backF_get h
theorem wipe_get {σ : St} {j : Nat} : ∀ {vs : List Nat}, j ∉ vs → (wipe σ vs)[j]? = σ[j]?
  | [], _ => rfl
  | v :: vs, h => by
    unfold wipe
    rw [List.getElem?_set_ne fun e => h (by simp [e]), wipe_get fun z => h (by simp [z])]
theorem wipe_in {σ : St} {j : Nat} : ∀ {vs : List Nat}, j ∈ vs → j < σ.length → (wipe σ vs)[j]? = some none
  | [], h, _ => by simp at h
  | v :: vs, h, hj => by
    unfold wipe
    by_cases e : v = j
    · subst e
      rw [List.getElem?_set_self (by rw [wipe_length]; exact hj)]
    · rw [List.getElem?_set_ne e]
      exact wipe_in ((List.mem_cons.mp h).resolve_left (fun z => e z.symm)) hj
/-- the flags are the places -/
def Flags (ow : List Bool) (n : Nat) (vs : List Nat) : Prop := ow = (List.range n).map fun j => decide (j ∈ vs)
theorem Flags.get {ow : List Bool} {n : Nat} {vs : List Nat} (h : Flags ow n vs) {j : Nat} (hj : j < n) : ow[j]? = some (decide (j ∈ vs)) := by
  rw [h, List.getElem?_map, List.getElem?_range hj]
  rfl
theorem Flags.nin {ow : List Bool} {n : Nat} {vs : List Nat} (h : Flags ow n vs) {j : Nat} (hj : j < n) (hn : ow[j]? ≠ some true) : j ∉ vs := fun z => by
  rw [h.get hj] at hn
  simp [z] at hn
theorem wipe_eq {σ σ2 : St} {vs : List Nat} (hl : σ2.length = σ.length) (h : ∀ j, j < σ.length → j ∉ vs → σ2[j]? = (wipe σ vs)[j]?) : wipe σ2 vs = wipe σ vs := by
  apply List.ext_getElem?
  intro j
  by_cases hj : j < σ.length
  · by_cases hm : j ∈ vs
    · rw [wipe_in hm (by omega), wipe_in hm hj]
    · rw [wipe_get hm, h j hj hm]
  · rw [List.getElem?_eq_none (by rw [wipe_length]; omega), List.getElem?_eq_none (by rw [wipe_length]; omega)]
/-- into the block -/
theorem FS.toBlk {ow : List Bool} {n : Nat} {vs : List Nat} (F : FS ξ Y H σ s tv ts) (hf : Flags ow n vs) (hn : s.length = n) {σ2 : St} (hl : σ2.length = σ.length) (h : ∀ j, j < σ.length → j ∉ vs → σ2[j]? = σ[j]?) : FS ξ Y H σ2 (wipeF ow s) tv ts := by
  refine (F.forget wipeF_length fun i o e => (wipeF_get e).1).resig hl fun i o e => ?_
  obtain ⟨h1, h2⟩ := wipeF_get e
  have hi := lt_of_get h1
  exact h i (by rw [← F.len]; exact hi) (hf.nin (by omega) h2)
/-- out of the block -/
theorem FS.ofBlk {ow : List Bool} {n : Nat} {vs : List Nat} {Y1 H1 : Hp} {s1 : S} {tv1 : List V} {ts1 : List OD} (F1 : FS ξ Y1 H1 σ s1 tv1 ts1) (F : FS ξ Y H (wipe σ vs) s tv ts) (e : Same Y1 Y) (hf : Flags ow n vs) (hn : s1.length = n) : FS ξ Y H σ (backF ow s1 s) tv ts := by
  obtain ⟨g, R⟩ := F.rel
  have hl : s.length = s1.length := by rw [F.len, wipe_length, F1.len]
  let g2 : Own := fun i a => match i with
    | .inl j => ow[j]? ≠ some true ∧ g (.inl j) a
    | .inr j => g (.inr j) a
  have low : ∀ i a, g2 i a → g i a := fun i a z => by
    cases i with
    | inl j => exact z.2
    | inr j => exact z
  refine F.re R g2 (Same.refl _) F.sub (fun a q => .inl q) (fun i a z => ⟨(R.own i a (low i a z)).2.1, i, low i a z⟩) (fun i j a z z' => R.sep i j a (low i a z) (low j a z')) (by rw [backF_length hl, hl, F1.len]) F.tlen (fun j o q => ?_) R.temp
  rcases backF_get q with ⟨h1, d, rfl, h2⟩ | ⟨h1, h2⟩
  · obtain ⟨v, hv, r⟩ := F1.frozen h2
    exact ⟨v, hv, (RO.fz (r.mono e)).iff fun a => ⟨fun z => z.elim, fun z => (z.1 h1).elim⟩⟩
  · obtain ⟨v, hv, r⟩ := R.slot j o h2
    have hj := lt_of_get h2
    rw [wipe_get (hf.nin (by omega) h1)] at hv
    exact ⟨v, hv, r.iff fun a => ⟨fun z => ⟨h1, z⟩, fun z => z.2⟩⟩

/-- within a comprehension nothing is raised -/
abbrev Ct.blk (c : Ct) : Ct := { c with W := fun _ _ _ _ => False }
theorem noex_ok {α : Type} {r : Res α} {β : Type} {k : α → S → Res β} {G : β → S → Prop} {ξ : Fx} {Y : Hp} {σ : St} {tv : List V} {ts : List OD} (h : out c ξ Y σ tv ts G (r.noex.bind k)) : ∃ a s', r = .ok a s' ∧ out c ξ Y σ tv ts G (k a s') := by
  cases r with
  | ok a s => exact ⟨a, s, rfl, h⟩
  | ex x s => exact h.elim
  | bad => exact h.elim
theorem lc_reads {ow : List Bool} {it : IF} {g : GF} {t : TF} {f : EF} {own : List (Str × Nat)} {σ : St} {H : Hp} {Q : VK} {N : List Str} (hf : Flags ow N.length (own.map (·.2)))
    (q : tO c (oLc ow it g t f) σ H Q) : tLc (tI c it) (tG (ow.map not) c.K g) (tT c.blk t) (tE c.blk f) (own.map (·.2)) σ H Q := by
  obtain ⟨ξ, Y, s, tv, ts, hK, F, q⟩ := q
  refine tI_seq hK F q fun ds s1 Y1 H1 J e1 F1 w q1 => ?_
  intro L hL
  split at q1
  rotate_left
  · exact q1.elim
  rename_i hlen
  have hn : s1.length = N.length := by rw [← hlen, hf]; simp
  have F2 := (F1.pushL hL (.nil : DrAll ξ.K Y1 [] [])).toBlk hf hn (wipe_length σ (own.map (·.2))) fun j hj hm => wipe_get hm
  refine ⟨fun i m H' => ∃ Y' s' acc, i ≤ ds.length ∧ m = ds.length - i ∧ Same Y1 Y' ∧ s'.length = N.length ∧ FS ξ Y' H' (wipe σ (own.map (·.2))) s' (tv ++ [.ref L]) (ts ++ [.ol acc]) ∧
      out c ξ Y1 σ tv ts (fun o s' => ∀ Y' H' v, Same Y Y' → FS ξ Y' H' σ s' (tv ++ [v]) (ts ++ [o]) → Q v H') ((lcL ow g t f (ds.drop i) acc s').bind fun acc s2 => .ok (.ol acc) (backF ow s1 s2)),
    ⟨ds.length, Y1, wipeF ow s1, [], Nat.zero_le _, by omega, Same.refl _, by rw [wipeF_length, hn], F2, out.mono c q1 e1 fun _ _ z => z⟩, ?_⟩
  rintro i m H' ⟨Y', s', acc, hle, rfl, e2, hn2, F3, q2⟩
  rcases Nat.lt_or_ge i ds.length with hlt | hge
  · have hd : ds[i]? = some ds[i] := List.getElem?_eq_getElem hlt
    rw [List.drop_eq_getElem_cons hlt] at q2
    refine .inr ⟨w.go i H' (e2.trans F3.sub) hlt, fun H3 => ∃ Y3 s3 acc3, Same Y1 Y3 ∧ s3.length = N.length ∧ FS ξ Y3 H3 (wipe σ (own.map (·.2))) s3 (tv ++ [.ref L]) (ts ++ [.ol acc3]) ∧
      out c ξ Y1 σ tv ts (fun o s' => ∀ Y' H' v, Same Y Y' → FS ξ Y' H' σ s' (tv ++ [v]) (ts ++ [o]) → Q v H') ((lcL ow g t f (ds.drop (i + 1)) acc3 s3).bind fun acc s2 => .ok (.ol acc) (backF ow s1 s2)), ?_, ?_⟩
    · rintro H3 ⟨Y3, s3, acc3, e3, n3, F3, q3⟩
      exact ⟨ds.length - (i + 1), by omega, Y3, s3, acc3, by omega, rfl, e3, n3, F3, q3⟩
    · intro x H3 hy
      obtain ⟨Y3, gv⟩ := w.yld i H' x H3 _ (e2.trans F3.sub) hd hy Y' e2 F3.sub
      obtain ⟨e3, F4⟩ := gv.fs hK F3
      obtain ⟨Y4, e4, F5, r5⟩ := F4.freezeT
      have e5 : Same Y' Y4 := e3.trans e4
      simp only [lcL] at q2
      split at q2
      · exact q2.elim
      · rename_i s5 eg
        refine ⟨ξ, Y4, s', ds[i], tv ++ [.ref L], ts ++ [.ol acc], hK, F5, hK ▸ r5, s5, eg, fun Y6 H6 σ6 e6 k6 F6 => ?_⟩
        have l6 : σ6.length = σ.length := by rw [k6.1, wipe_length]
        have c6 : ∀ j, j < σ.length → j ∉ own.map (·.2) → σ6[j]? = (wipe σ (own.map (·.2)))[j]? := fun j hj hm => by
          refine k6.2 j ?_
          rw [List.getElem?_map, hf.get (by rw [← hn, F1.len]; exact hj)]
          simp [hm]
        refine ⟨wipe_eq l6 c6, ?_⟩
        have back : ∀ {Y8 H8 s8 acc8}, FS ξ Y8 H8 σ6 s8 (tv ++ [.ref L]) (ts ++ [.ol acc8]) → s8.length = N.length ∧ FS ξ Y8 H8 (wipe σ (own.map (·.2))) (wipeF ow s8) (tv ++ [.ref L]) (ts ++ [.ol acc8]) := fun {Y8 H8 s8 acc8} F8 => by
          have n8 : s8.length = N.length := by rw [F8.len, l6, ← F1.len, hn]
          exact ⟨n8, F8.toBlk hf n8 (by rw [wipe_length, l6]) fun j hj hm => (c6 j (by omega) hm).symm⟩
        refine ⟨ξ, Y6, s5, _, _, hK, F6, ?_⟩
        rw [show ∀ (a : Res Bool) (k : Bool → S → Res (List D)) (k' : List D → S → Res OD), ((a.noex.bind k).bind k') = a.noex.bind fun b s => (k b s).bind k' from fun a k k' => by cases a <;> rfl] at q2
        obtain ⟨b, s7, et, q3⟩ := noex_ok q2
        rw [et]
        intro Y7 H7 e7 F7
        have all7 : Same Y1 Y7 := ((e2.trans e5).trans e6).trans e7
        cases b with
        | false =>
          rw [if_neg Bool.false_ne_true] at q3
          refine iteF ⟨Y7, wipeF ow s7, acc, all7, ?_, (back F7).2, q3⟩
          rw [wipeF_length]; exact (back F7).1
        | true =>
          rw [if_pos rfl] at q3
          refine iteT ⟨ξ, Y7, s7, _, _, hK, F7, ?_⟩
          rw [show ∀ (a : Res D) (k : D → S → Res (List D)) (k' : List D → S → Res OD), ((a.noex.bind k).bind k') = a.noex.bind fun b s => (k b s).bind k' from fun a k k' => by cases a <;> rfl] at q3
          obtain ⟨y, s8, ee, q4⟩ := noex_ok q3
          rw [ee]
          intro Y8 H8 v8 e8 F8 r8
          obtain ⟨p, vs, ep, hp, hdr, wr⟩ := F8.listT F1.tlen
          cases ep
          split at q4
          · rename_i hsz
            refine ⟨vs, hp, by rw [hdr.length]; exact hsz, Y8, wipeF ow s8, acc ++ [y], all7.trans e8, ?_, ?_, q4⟩
            · rw [wipeF_length]; exact (back F8).1
            · exact (back (wr (vs ++ [v8]) (acc ++ [y]) (hdr.append (.cons (hK ▸ r8) .nil)))).2
          · exact q4.elim
  · have hi : i = ds.length := by omega
    subst hi
    rw [List.drop_length] at q2
    exact .inl ⟨w.stop H' (e2.trans F3.sub), q2 Y' H' _ (e1.trans e2) (F1.ofBlk F3 e2 hf hn)⟩
theorem mo_lc {ow : List Bool} {it : IF} {g : GF} {t : TF} {f : EF} {elt tg iter : Expr} {ifs : List Expr} {scope : Scope} {own : List (Str × Nat)} {pos : Pos} (hc : X.calm = true) (hN : X.N.Nodup) (ok : BlkOk X.N X.env.scope scope own) (hf : Flags ow X.N.length (own.map (·.2)))
    (hi : MI_ X c it tg iter) (hg : ∀ (s : Shared) (H : Hp) (C : Addr) (cl : List (Str × Addr)) (fp : List Addr), MG (X.blk s H scope (compEnvC scope cl C X.env) fp) c.blk (ow.map not) g tg)
    (ht : ∀ (s : Shared) (H : Hp) (C : Addr) (cl : List (Str × Addr)) (fp : List Addr), PTs (X.blk s H scope (compEnvC scope cl C X.env) fp) ifs (tT c.blk t))
    (he : ∀ (s : Shared) (H : Hp) (C : Addr) (cl : List (Str × Addr)) (fp : List Addr), ME (X.blk s H scope (compEnvC scope cl C X.env) fp) c.blk f elt) (hs : ∀ x, foldedSetIterable iter X.env x = pure x := by intro _; rfl) :
    MO X c (oLc ow it g t f) (.ListComp elt [⟨tg, iter, ifs, 0⟩] scope pos) :=
  ⟨PE.imp (pe_lc hc hN hi.run ok (fun s H C cl fp => (hg s H C cl fp).run) ht (fun s H C cl fp => (he s H C cl fp).run) hs) fun σ H Q q => lc_reads hf q⟩
/-- y = [..]: stored while the comprehension's frame stands -/
theorem ms_setLc {rf : List Bool} {ow : List Bool} {it : IF} {g : GF} {t : TF} {f : EF} {elt tg iter : Expr} {ifs : List Expr} {scope : Scope} {own : List (Str × Nat)} {pos spos py : Pos} {i : Nat} {y : Str} (hc : X.calm = true) (hN : X.N.Nodup) (hy : X.N[i]? = some y) (hyl : X.env.scope.names.lookup y = some .local)
    (hsw : swapsWith (.ListComp elt [⟨tg, iter, ifs, 0⟩] scope pos) (some (.Name y py)) spos.line X.env = pure true) (ok : BlkOk X.N X.env.scope scope own) (hf : Flags ow X.N.length (own.map (·.2)))
    (hi : MI_ X c it tg iter) (hg : ∀ (s : Shared) (H : Hp) (C : Addr) (cl : List (Str × Addr)) (fp : List Addr), MG (X.blk s H scope (compEnvC scope cl C X.env) fp) c.blk (ow.map not) g tg)
    (ht : ∀ (s : Shared) (H : Hp) (C : Addr) (cl : List (Str × Addr)) (fp : List Addr), PTs (X.blk s H scope (compEnvC scope cl C X.env) fp) ifs (tT c.blk t))
    (he : ∀ (s : Shared) (H : Hp) (C : Addr) (cl : List (Str × Addr)) (fp : List Addr), ME (X.blk s H scope (compEnvC scope cl C X.env) fp) c.blk f elt) (hr : rf[i]? ≠ some true := by decide) (hs : ∀ x, foldedSetIterable iter X.env x = pure x := by intro _; rfl) :
    MS X c rf (sSet i (oLc ow it g t f)) (.Assign [.Name y py] (.ListComp elt [⟨tg, iter, ifs, 0⟩] scope pos) spos) :=
  ⟨PS.imp (ps_setLc hc hN hy hyl hsw hi.run ok (fun s H C cl fp => (hg s H C cl fp).run) ht (fun s H C cl fp => (he s H C cl fp).run) hs) fun D σ H q => by
    obtain ⟨ξ, Y, s, hK, F, q⟩ := sSet_core hr q
    exact lc_reads hf ⟨ξ, Y, s, hK, F, q⟩⟩
theorem pts_no : PTs X [] (tT c kYes) := ⟨fun pins s σ H Q I q => pts_nil.run pins s σ H Q I (by
  obtain ⟨ξ, Y, s, tv, ts, hK, F, q⟩ := q
  exact q Y H (Same.refl _) F)⟩
theorem pts_if {t : TF} {e : Expr} (h : MT X c t e) : PTs X [e] (tT c t) := pts_one h.run
end
end MI

set_option Elab.async false
set_option linter.all false
set_option autoImplicit false
set_option maxRecDepth 100000
/-! MI: what a def promises; calls. -/
namespace MI
open PySem PySem.Spec L2
/-! ### defs that run where no repr is under way -/
section
variable {P : Program} {w : World} {K : PySem.W.Frag} {mg : Str → Option Value} {base : Heap} {CX : CXT}
structure FnG (P : Program) (w : World) (K : PySem.W.Frag) (mg : Str → Option Value) (base : Heap) (CX : CXT) (k : Nat) (f : Addr) (fd : FuncData) (ps : List Str) (sp : Sp) : Prop where
  len : ∀ vs H Q E, sp vs H Q E → vs.length = ps.length
  run : ∀ (A : Around) (outer : List Env) (s : Shared) (H : Hp) (args : Args) (us : List Value) (vs : List V) (Q : VK) (E : XK), A.guards = some [] → Room k A →
    Env0 P w K mg base A outer s H → BindsTo s fd args (ps.zip us) → Vals vs us → sp vs H Q E → codeAny (model P w) A (.call (.ref f) args) (CR CX outer P w H s Q E) s
theorem FnG.mono {j k : Nat} {f : Addr} {fd : FuncData} {ps : List Str} {sp : Sp} (F : FnG P w K mg base CX j f fd ps sp) (h : j ≤ k) : FnG P w K mg base CX k f fd ps sp :=
  ⟨F.len, fun A outer s H args us vs Q E hG hr => F.run A outer s H args us vs Q E hG (hr.mono h)⟩
open PyProof.Rows in
theorem Fun.okG {x qual : Str} {st : Stmt} {f : Addr} {fd : FuncData} {N ps : List Str} {k : Nat} {sp : Sp} (F : Fun K x qual st f fd) (S : FnScope N ps (defScope st)) (len : ∀ vs H Q E, sp vs H Q E → vs.length = ps.length)
    (hb : ∀ (cdv : Value) (A : Around) (outer : List Env) (s : Shared) (H : Hp) (vs : List V) (Q : VK) (E : XK), A.guards = some [] → Room k (A.deeper (envOfC qual (defScope st) s.heap.objs.size f cdv)) → sp vs H Q E →
      ∃ t, PSs (cxOf CX P w K mg base N qual (defScope st) f cdv A outer s H E) (defBody st) t ∧ t { nx := fun _ H' => Q .non H', rt := Q } (start N vs) H) :
    FnG P w K mg base CX (k + 1) f fd ps sp := by
  obtain ⟨oc, od, kV, doc, pm, an, cdv, ct, osl, rfl, lk, hcd⟩ := F.ex
  refine ⟨len, ?_⟩
  intro A outer s H args us vs Q E hG hr e0 bd rel pr
  have num := len _ _ _ _ pr
  have KX : K.In s.heap := e0.mod.kin.keeps fun b o e => (e0.bs b o e).1
  have unlim : s.heap.NoLimit := e0.mod.nolimit.keeps fun b o e => (e0.bs b o e).1
  refine codeAny_call_function hr.depth (KX _ _ lk) rfl S.co S.gen rfl (PySem.W.codeRec_of KX hcd) (bd _ _ _ _ ?_)
  refine wpAny_newFunctionEnv_cells S.kind ?_ ?_
  · rintro ⟨n, v⟩ hy
    rcases S.par n (List.of_mem_zip hy).1 with q | q
    · exact .inl q
    · exact .inr ⟨q, PySem.W.cellsFrom_some _ _ _ (.inl q)⟩
  · intro env he s1 x
    subst he
    refine ⟨unlim.keeps x.toInCall.keep, codeAny_func ?_⟩
    obtain ⟨t, ht, hq⟩ := hb cdv A outer s H vs Q E hG (hr.deeper _) pr
    have I0 : Inv (cxOf CX P w K mg base N qual (defScope st) f cdv A outer s H E) [] (start N vs) H s1 := inv_start S hr.hd e0 num rel x
    refine wpAny_mono (ht.run [] s1 (start N vs) H _ I0 hq) (fun fl s' ends => ?_) fun e s' hs => hs
    have done : ∀ {σ' : L2.St} {H' : Hp} {v : V} {u : Value}, Inv (cxOf CX P w K mg base N qual (defScope st) f cdv A outer s H E) [] σ' H' s' → RelV v u → Q v H' → CE outer P w H s Q u s' := by
      intro σ' H' v u J rv q
      exact ⟨v, H', J.os, J.bare, J.base, J.hok, rv, q⟩
    cases fl with
    | ret u =>
      obtain ⟨v, σ', H', J, rv, q⟩ := ends
      exact done J rv q
    | next =>
      obtain ⟨σ', H', J, q⟩ := ends
      exact done (v := V.non) (u := Value.none) J rfl q
    | brk => exact ends.elim fun _ z => z.elim fun _ y => y.2.elim
    | cont => exact ends.elim fun _ z => z.elim fun _ y => y.2.elim
end
section
variable {X : Cx} {CX : CXT} {k : Nat} {f : Addr} {fd : FuncData} {ps : List Str} {sp : Sp} {E : L2.St → XK} {x : Str} {p pos : Pos} {e : Expr} {es : List Expr} {t : TA}
theorem run_fnG {pins : List (Addr × Obj)} {σ : L2.St} {H : Hp} {s : Shared} {Q : VK} {args : Args} {us : List Value} {vs : List V} {E : XK} (F : FnG X.prog X.w X.K X.mg X.base CX k f fd ps sp) (hG : X.A.guards = some []) (hr : Room k X.A) (hb : BindsTo s fd args (ps.zip us))
    (hx : PassesAt CX X σ E) (I : Inv X pins σ H s) (r : Vals vs us) (h : sp vs H Q E) : codeAny (model X.prog X.w) X.A (.call (.ref f) args) (fun r s' => match r with
      | .ok (.ret u) => EP X pins σ Q u s'
      | .ok _ => False
      | .error e => X.xe e s') s := by
  refine codeAny_mono (F.run X.A X.stack s H args us vs Q E hG hr I.env0 hb r h) fun res s' got => ?_
  cases res with
  | error e => exact hx pins H s e s' I got
  | ok fl =>
    cases fl with
    | ret u => exact I.after got
    | next => exact got.elim
    | brk => exact got.elim
    | cont => exact got.elim
theorem call_of {pins : List (Addr × Obj)} {σ : L2.St} {s : Shared} {Q : VK} {args : List Value} {kw : List (Str × Value)} (h : codeAny (model X.prog X.w) X.A (.call (.ref f) ⟨args, kw⟩) (fun r s' => match r with
      | .ok (.ret u) => EP X pins σ Q u s'
      | .ok _ => False
      | .error e => X.xe e s') s) : wpAny (model X.prog X.w) X.A (call (.ref f) args kw) (EP X pins σ Q) X.xe s := by
  refine wpAny_call (codeAny_mono h fun res s' got => ?_)
  cases res with
  | error e => exact got
  | ok fl =>
    cases fl with
    | ret u => exact got
    | next => exact got.elim
    | brk => exact got.elim
    | cont => exact got.elim
def tCallG (sp : Sp) (E : L2.St → XK) (t : TA) : TE := fun σ H Q => t σ H fun vs H1 => sp vs H1 Q (E σ)
theorem pe_callG (F : FnG X.prog X.w X.K X.mg X.base CX k f fd ps sp) (hG : X.A.guards = some []) (hr : Room k X.A) (hg : Gl X x) (hm : X.mg x = some (.ref f)) (hk : PySem.W.keepIn X.K (.ref f) = true) (hb : Binds X.K fd ps []) (hx : ∀ σ, PassesAt CX X σ (E σ))
    (ha : PA X (e :: es) t) (hdb : (x == ("__debug__" : Str)) = false := by decide) (he : starEach (e :: es) X.env = (false, eval e X.env) :: starEach es X.env := by rfl) (hpl : (backTo pos (starEach es X.env)).any (·.1) = false := by rfl) :
    PE X (.Call (.Name x p) (e :: es) [] pos) (tCallG sp E t) := by
  constructor
  intro pins s σ H Q I h
  refine wpAny_Call_Name_kw (ld_glob I hg hm ?_ hdb)
  refine PySem.W.callWith_K (h₀ := X.base) I.ok.mod.kin hk (thn (ha.run pos pins s σ H _ I h) ?_) he hpl
  rintro us s1 ⟨vs, H1, I1, rel, pr⟩
  refine ⟨I1.kIn, call_of (run_fnG F hG hr ?_ (hx σ) I1 rel pr)⟩
  have b := hb s1 us I1.kIn (by rw [List.append_nil, ← rel.length]; exact F.len _ _ _ _ pr)
  rwa [List.append_nil] at b
theorem pe_callG0 (F : FnG X.prog X.w X.K X.mg X.base CX k f fd ps sp) (hG : X.A.guards = some []) (hr : Room k X.A) (hg : Gl X x) (hm : X.mg x = some (.ref f)) (hk : PySem.W.keepIn X.K (.ref f) = true) (hb : Binds X.K fd ps []) (hx : ∀ σ, PassesAt CX X σ (E σ))
    (hdb : (x == ("__debug__" : Str)) = false := by decide) : PE X (.Call (.Name x p) [] [] pos) (tCallG sp E tNil) := by
  constructor
  intro pins s σ H Q I h
  refine wpAny_Call_Name_kw (ld_glob I hg hm ?_ hdb)
  refine PySem.W.callWith_K0 I.kIn hk (call_of (run_fnG F hG hr ?_ (hx σ) I .nil h))
  have b := hb s [] I.kIn (by simpa using F.len _ _ _ _ h)
  rwa [List.append_nil] at b
variable {kws : List Keyword} {ks : List Str} {g : List Value → List Value → List Value} {gV : List V → List V → List V} {tk : TA}
def tCallGK (sp : Sp) (gV : List V → List V → List V) (E : L2.St → XK) (t tk : TA) : TE := fun σ H Q => t σ H fun vs H1 => tk σ H1 fun zs H2 => sp (gV vs zs) H2 Q (E σ)
theorem pe_callGK (F : FnG X.prog X.w X.K X.mg X.base CX k f fd ps sp) (hG : X.A.guards = some []) (hr : Room k X.A) (hg : Gl X x) (hm : X.mg x = some (.ref f)) (hk : PySem.W.keepIn X.K (.ref f) = true) (hb : KBinds X.K fd ps ks g gV) (hx : ∀ σ, PassesAt CX X σ (E σ))
    (ha : PA X (e :: es) t) (hkw : PK X kws tk) (hall : (backToKw pos (keywordEach kws X.env)).all (·.1.isSome) = true := by rfl) (hks : (backToKw pos (keywordEach kws X.env)).filterMap (·.1) = ks := by rfl)
    (hdb : (x == ("__debug__" : Str)) = false := by decide) (he : starEach (e :: es) X.env = (false, eval e X.env) :: starEach es X.env := by rfl)
    (hpl : ((backTo pos (starEach (e :: es) X.env)).any (·.1) || (backToKw pos (keywordEach kws X.env)).any (·.1.isNone)) = false := by rfl) :
    PE X (.Call (.Name x p) (e :: es) kws pos) (tCallGK sp gV E t tk) := by
  constructor
  intro pins s σ H Q I h
  refine wpAny_Call_Name_kw (ld_glob I hg hm ?_ hdb)
  refine PySem.W.callWith_KW (h₀ := X.base) I.ok.mod.kin hk hall (thn (ha.run pos pins s σ H _ I h) ?_) hpl he
  rintro us s1 ⟨vs, H1, I1, rel, q⟩
  refine thn (hkw.run pos pins s1 σ H1 _ I1 q) ?_
  rintro ws s2 ⟨zs, H2, I2, rz, pr⟩
  refine ⟨I2.kIn, ?_⟩
  rw [hks]
  exact call_of (run_fnG F hG hr (hb.to s2 us ws I2.kIn (by rw [← (hb.rel rel rz).length]; exact F.len _ _ _ _ pr)) (hx σ) I2 (hb.rel rel rz) pr)
end
section
variable {X : Cx} {c : Ct} {rf : List Bool} {ξ : Fx} {Y H : Hp} {σ : St} {s : S} {tv : List V} {ts : List OD}

/-- a def's promise: its value is F's; xs: it may raise -/
def spF (K : PySem.W.Frag) (er : Exn → Value → Option Addr → Hp → Prop) (xs : Bool) (n : Nat) (F : List OD → Res OD) : Sp := fun vs H Q E => ∃ ξ Y ods, ξ.K = K ∧ ξ.H0 = H ∧ ξ.Z0 = Y ∧ vs.length = n ∧ FS ξ Y H (vs.map some) (ods.map some) [] [] ∧
  match F ods with
  | .ok o s' => ∀ Y' H' v, Same Y Y' → FS ξ Y' H' (vs.map some) s' [v] [o] → Q v H'
  | .ex e s' => xs = true ∧ ∀ Y' H' cl x, Same Y Y' → FS ξ Y' H' (vs.map some) s' [] [] → er e cl x H' → E cl x H'
  | .bad => False
def keepR : List Bool → S → S
  | b :: bs, x :: xs => (if b = true then x else none) :: keepR bs xs
  | _, _ => []
def mkF (N : Nat) (rf : List Bool) (body : SF) (ods : List OD) : Res OD := match body (ods.map some ++ List.replicate (N - ods.length) none) with
  | .rt o s' => .ok o (keepR rf s')
  | .nx s' => .ok (.fz .none) (keepR rf s')
  | .ex e s' => .ex e (keepR rf s')
  | .bk _ => .bad
  | .ct _ => .bad
  | .bad => .bad
theorem keepR_length : ∀ {rf : List Bool} {s : S}, rf.length ≤ s.length → (keepR rf s).length = rf.length
  | [], _, _ => by simp [keepR]
  | _ :: _, [], h => by simp at h
  | b :: bs, x :: xs, h => by simp [keepR, keepR_length (rf := bs) (s := xs) (by simpa using h)]
theorem keepR_get : ∀ {rf : List Bool} {s : S} {i : Nat} {o : OD}, (keepR rf s)[i]? = some (some o) → rf[i]? = some true ∧ s[i]? = some (some o)
  | [], _, _, _, h => by simp [keepR] at h
  | _ :: _, [], _, _, h => by simp [keepR] at h
  | b :: bs, x :: xs, 0, o, h => by
    cases b <;> simp [keepR] at h ⊢
    exact h
  | b :: bs, x :: xs, i + 1, o, h => by
    simp only [keepR, List.getElem?_cons_succ] at h ⊢
    exact keepR_get h
theorem start_eq (N : List Str) (vs : List V) : start N vs = vs.map some ++ List.replicate (N.length - vs.length) none := rfl
theorem start_FS {N : List Str} {vs : List V} {ods : List OD} (F : FS ξ Y H (vs.map some) (ods.map some) [] []) : FS ξ Y H (start N vs) (ods.map some ++ List.replicate (N.length - ods.length) none) [] [] := by
  obtain ⟨g, R⟩ := F.rel
  have hl : ods.length = vs.length := by have := F.len; simpa using this
  have cutg : ∀ i o, (ods.map some ++ List.replicate (N.length - ods.length) (none : Option OD))[i]? = some (some o) → (ods.map some)[i]? = some (some o) := fun i o e => by
    rw [List.getElem?_append] at e
    split at e
    · exact e
    · rw [List.getElem?_replicate] at e
      split at e <;> cases e
  refine F.re R g (Same.refl _) F.sub (fun a q => .inl q) (fun i a f => ⟨(R.own i a f).2.1, i, f⟩) R.sep (by rw [start_eq]; simp [hl]) rfl (fun i o e => ?_) R.temp
  have e1 := cutg i o e
  obtain ⟨v, hv, r⟩ := R.slot i o e1
  refine ⟨v, ?_, r⟩
  rw [start_eq, List.getElem?_append_left (lt_of_get hv)]
  exact hv
theorem end_FS {N : List Str} {vs : List V} {σ' : St} {s' : S} (F : FS ξ Y H σ' s' tv ts) (k : Keep rf (start N vs) σ') (hn : rf.length = vs.length) : FS ξ Y H (vs.map some) (keepR rf s') tv ts := by
  obtain ⟨g, R⟩ := F.rel
  have hl : s'.length = vs.length + (N.length - vs.length) := by rw [F.len, k.1, start_eq]; simp
  refine F.re R g (Same.refl _) F.sub (fun a q => .inl q) (fun i a f => ⟨(R.own i a f).2.1, i, f⟩) R.sep (by rw [keepR_length (by omega)]; simp [hn]) F.tlen (fun i o e => ?_) R.temp
  obtain ⟨h1, h2⟩ := keepR_get e
  obtain ⟨v, hv, r⟩ := R.slot i o h2
  refine ⟨v, ?_, r⟩
  have hi : i < vs.length := by rw [← hn]; exact lt_of_get h1
  rw [k.2 i h1, start_eq, List.getElem?_append_left (by simpa using hi)] at hv
  exact hv
theorem body_reads {K : PySem.W.Frag} {er : Exn → Value → Option Addr → Hp → Prop} {xs : Bool} {W : L2.WX} {N : List Str} {n : Nat} {body : SF} {vs : List V} {H : Hp} {Q : VK} {E : XK} (hn : rf.length = n) (h : spF K er xs n (mkF N.length rf body) vs H Q E)
    (hW : xs = true → ∀ cl x σ H, E cl x H → W cl x σ H) : tS ⟨K, er, W⟩ rf body { nx := fun _ H' => Q .non H', rt := Q } (start N vs) H := by
  obtain ⟨ξ, Y, ods, hK, h0, hz, hl, F, q⟩ := h
  refine ⟨ξ, Y, _, hK, start_FS F, ?_⟩
  unfold mkF at q
  cases e : body (ods.map some ++ List.replicate (N.length - ods.length) none) with
  | nx s' =>
    rw [e] at q
    exact fun Y' H' σ' e1 k F' => q Y' H' .non e1 ((end_FS F' k (by omega)).pushD .non)
  | rt o s' =>
    rw [e] at q
    exact fun Y' H' σ' v e1 k F' => q Y' H' v e1 (end_FS F' k (by omega))
  | ex x s' =>
    rw [e] at q
    exact fun Y' H' σ' cl z e1 k F' er => hW q.1 _ _ _ _ (q.2 Y' H' cl z e1 (end_FS F' k (by omega)) er)
  | bk s' => rw [e] at q; exact q.elim
  | ct s' => rw [e] at q; exact q.elim
  | bad => rw [e] at q; exact q.elim
end
section
variable {P : Program} {w : World} {K : PySem.W.Frag} {mg : Str → Option Value} {base : Heap} {er : Exn → Value → Option Addr → Hp → Prop}
/-- THE RULE for a def that lets nothing out -/
theorem okF {x qual : Str} {st : Stmt} {f : Addr} {fd : FuncData} {N ps : List Str} {k : Nat} {rf : List Bool} {body : SF} (F : Fun K x qual st f fd) (S : FnScope N ps (defScope st)) (hn : rf.length = ps.length)
    (hb : ∀ (cdv : Value) (A : Around) (outer : List Env) (s : Shared) (H : Hp) (E : XK), A.guards = some [] → Room k (A.deeper (PyProof.Rows.envOfC qual (defScope st) s.heap.objs.size f cdv)) →
      MSs (cxOf CX0 P w K mg base N qual (defScope st) f cdv A outer s H E).nox ⟨K, er, fun _ _ _ _ => False⟩ rf body (defBody st)) :
    FnG P w K mg base CX0 (k + 1) f fd ps (spF K er false ps.length (mkF N.length rf body)) := by
  refine Fun.okG F S (fun vs H Q E h => ?_) (fun cdv A outer s H vs Q E hG hr h => ?_)
  · obtain ⟨_, _, _, _, _, _, hl, _⟩ := h
    exact hl
  · exact ⟨_, (hb cdv A outer s H E hG hr).run.nox, body_reads hn h fun z => nomatch z⟩
end

/-! ### calls -/
section
variable {X : Cx} {c : Ct} {ξ : Fx} {Y H : Hp} {σ : St} {s : S} {tv : List V} {ts : List OD}
inductive ArgsR (K : PySem.W.Frag) (Y : Hp) (σ : St) : List (Option Nat) → List V → List D → Prop
  | nil : ArgsR K Y σ [] [] []
  | val {ks : List (Option Nat)} {v : V} {vs : List V} {d : D} {ds : List D} : Dr K Y v d → ArgsR K Y σ ks vs ds → ArgsR K Y σ (none :: ks) (v :: vs) (d :: ds)
  | ref {ks : List (Option Nat)} {v : V} {vs : List V} {ds : List D} {i : Nat} : σ[i]? = some (some v) → ArgsR K Y σ ks vs ds → ArgsR K Y σ (some i :: ks) (v :: vs) (.none :: ds)
theorem ArgsR.mono {K : PySem.W.Frag} {Y Y' : Hp} {σ : St} {ks : List (Option Nat)} {vs : List V} {ds : List D} (r : ArgsR K Y σ ks vs ds) (e : Same Y Y') : ArgsR K Y' σ ks vs ds := by
  induction r with
  | nil => exact .nil
  | val h _ ih => exact .val (h.mono e) ih
  | ref h _ ih => exact .ref h ih
def tR (c : Ct) (ks : List (Option Nat)) (f : AF) : TA := fun σ H Q => ∃ ξ Y s tv ts, ξ.K = c.K ∧ FS ξ Y H σ s tv ts ∧
  out c ξ Y σ tv ts (fun ds s' => ∀ Y' H' vs, Same Y Y' → FS ξ Y' H' σ s' tv ts → ArgsR c.K Y' σ ks vs ds → Q vs H') (f s)
structure MR (X : Cx) (c : Ct) (ks : List (Option Nat)) (f : AF) (es : List Expr) : Prop where
  run : PA X es (tR c ks f)
theorem tR_seq {β : Type} {ks : List (Option Nat)} {fa : AF} {k : List D → S → Res β} {G : β → S → Prop} {R : List V → Hp → Prop} (hK : ξ.K = c.K) (F : FS ξ Y H σ s tv ts) (h : out c ξ Y σ tv ts G ((fa s).bind k))
    (hR : ∀ ds s1 Y1 H1 vs, Same Y Y1 → FS ξ Y1 H1 σ s1 tv ts → ArgsR c.K Y1 σ ks vs ds → out c ξ Y σ tv ts G (k ds s1) → R vs H1) : tR c ks fa σ H R := by
  refine ⟨ξ, Y, s, tv, ts, hK, F, ?_⟩
  cases e : fa s with
  | ok d s1 => rw [e] at h; exact fun Y1 H1 v e1 F1 r1 => hR d s1 Y1 H1 v e1 F1 r1 h
  | ex x s1 => rw [e] at h; exact h
  | bad => rw [e] at h; exact h
theorem mr_nil : MR X c [] aNil [] := by
  refine ⟨PA.imp pa_nil fun σ H Q q => ?_⟩
  obtain ⟨ξ, Y, s, tv, ts, hK, F, q⟩ := q
  exact q Y H [] (Same.refl _) F .nil
theorem mr_val {ks : List (Option Nat)} {f : EF} {g : AF} {e : Expr} {es : List Expr} (h : ME X c f e) (h2 : MR X c ks g es) (hs : starEach (e :: es) X.env = (false, eval e X.env) :: starEach es X.env := by rfl) : MR X c (none :: ks) (aCons f g) (e :: es) := by
  refine ⟨PA.imp (pa_cons h.run h2.run hs) fun σ H Q q => ?_⟩
  obtain ⟨ξ, Y, s, tv, ts, hK, F, q⟩ := q
  refine tE_seq hK F q fun d s1 Y1 H1 v e1 F1 r1 q1 => ?_
  refine tR_seq hK F1 (out.mono c q1 e1 (fun _ _ z => z)) fun ds s2 Y2 H2 vs e2 F2 r2 q2 => ?_
  exact q2 Y2 H2 (v :: vs) (e1.trans e2) F2 (.val (r1.mono e2) r2)
/-- an object of our own is handed in -/
def aRef (i : Nat) (g : AF) : AF := fun s => match s[i]? with
  | some (some _) => (g s).bind fun ds s => .ok (.none :: ds) s
  | _ => .bad
theorem mr_ref {ks : List (Option Nat)} {i : Nat} {g : AF} {e : Expr} {es : List Expr} (h : PE X e (tVar i)) (h2 : MR X c ks g es) (hs : starEach (e :: es) X.env = (false, eval e X.env) :: starEach es X.env := by rfl) : MR X c (some i :: ks) (aRef i g) (e :: es) := by
  refine ⟨PA.imp (pa_cons h h2.run hs) fun σ H Q q => ?_⟩
  obtain ⟨ξ, Y, s, tv, ts, hK, F, q⟩ := q
  unfold aRef at q
  split at q
  · rename_i o eo
    obtain ⟨g0, R⟩ := F.rel
    obtain ⟨v, hv, _⟩ := R.slot i o eo
    refine ⟨v, hv, ?_⟩
    refine tR_seq hK F q fun ds s2 Y2 H2 vs e2 F2 r2 q2 => ?_
    exact q2 Y2 H2 (v :: vs) e2 F2 (.ref hv r2)
  · exact q.elim
def odsOf : List (Option Nat) → List D → S → Option (List OD)
  | [], [], _ => some []
  | none :: ks, d :: ds, s => (odsOf ks ds s).map fun os => .fz d :: os
  | some i :: ks, _ :: ds, s => match s[i]? with
    | some (some o) => (odsOf ks ds s).map fun os => o :: os
    | _ => none
  | _, _, _ => none
def backR : List (Option Nat) → S → S → S
  | some i :: ks, x :: xs, s => backR ks xs (s.set i x)
  | none :: ks, _ :: xs, s => backR ks xs s
  | _, _, s => s
def oCall (ks : List (Option Nat)) (args : AF) (F : List OD → Res OD) : OF := fun s => (args s).bind fun ds s1 => match odsOf ks ds s1 with
  | none => .bad
  | some ods => match F ods with
    | .ok o s2 => .ok o (backR ks s2 s1)
    | .ex e s2 => .ex e (backR ks s2 s1)
    | .bad => .bad
theorem odsOf_get {K : PySem.W.Frag} {Y : Hp} {σ : St} {s : S} : ∀ {ks : List (Option Nat)} {vs : List V} {ds : List D} {ods : List OD}, ArgsR K Y σ ks vs ds → odsOf ks ds s = some ods → ods.length = vs.length ∧ ks.length = vs.length ∧
    ∀ (j : Nat) (o : OD), ods[j]? = some o → ∃ v, vs[j]? = some v ∧ ((ks[j]? = some none ∧ ∃ d : D, o = OD.fz d ∧ Dr K Y v d) ∨ ∃ i : Nat, ks[j]? = some (some i) ∧ s[i]? = some (some o) ∧ σ[i]? = some (some v))
  | _, _, _, ods, .nil, h => by
    simp only [odsOf, Option.some.injEq] at h
    subst h
    exact ⟨rfl, rfl, fun j o e => by simp at e⟩
  | _, _, _, ods, .val (ks := ks) (vs := vs) (ds := ds) (v := v) (d := d) hd r, h => by
    simp only [odsOf, Option.map_eq_some_iff] at h
    obtain ⟨os, h1, rfl⟩ := h
    obtain ⟨a, b, q⟩ := odsOf_get r h1
    refine ⟨by simp [a], by simp [b], fun j o e => ?_⟩
    cases j with
    | zero =>
      simp at e
      exact ⟨v, rfl, .inl ⟨rfl, d, e.symm, hd⟩⟩
    | succ j => simpa using q j o (by simpa using e)
  | _, _, _, ods, .ref (ks := ks) (vs := vs) (ds := ds) (v := v) (i := i) hv r, h => by
    simp only [odsOf] at h
    split at h
    · rename_i o eo
      simp only [Option.map_eq_some_iff] at h
      obtain ⟨os, h1, rfl⟩ := h
      obtain ⟨a, b, q⟩ := odsOf_get r h1
      refine ⟨by simp [a], by simp [b], fun j o' e => ?_⟩
      cases j with
      | zero =>
        simp at e
        subst e
        exact ⟨v, rfl, .inr ⟨i, rfl, eo, hv⟩⟩
      | succ j => simpa using q j o' (by simpa using e)
    · cases h
def RefsOk (ks : List (Option Nat)) : Prop := ∀ (j j' i : Nat), ks[j]? = some (some i) → ks[j']? = some (some i) → j = j'
theorem RefsOk.tail {k : Option Nat} {ks : List (Option Nat)} (h : RefsOk (k :: ks)) : RefsOk ks := fun j j' i a b => by
  have := h (j + 1) (j' + 1) i (by simpa using a) (by simpa using b)
  omega
theorem refsOk_of : ∀ {ks : List (Option Nat)}, (ks.filterMap id).Nodup → RefsOk ks
  | [], _ => fun j j' i a _ => by simp at a
  | none :: ks, h => fun j j' i a b => by
    have ih := refsOk_of (ks := ks) (by simpa using h)
    cases j with
    | zero => simp at a
    | succ j =>
      cases j' with
      | zero => simp at b
      | succ j' => exact congrArg (· + 1) (ih j j' i (by simpa using a) (by simpa using b))
  | some k :: ks, h => fun j j' i a b => by
    have h2 : k ∉ ks.filterMap id ∧ (ks.filterMap id).Nodup := by simpa using h
    have ih := refsOk_of (ks := ks) h2.2
    have nin : ∀ j : Nat, ks[j]? ≠ some (some k) := fun j e => h2.1 (List.mem_filterMap.mpr ⟨some k, List.mem_of_getElem? e, rfl⟩)
    cases j with
    | zero =>
      cases j' with
      | zero => rfl
      | succ j' =>
        simp at a b
        subst a
        exact (nin j' b).elim
    | succ j =>
      cases j' with
      | zero =>
        simp at a b
        subst b
        exact (nin j a).elim
      | succ j' => exact congrArg (· + 1) (ih j j' i (by simpa using a) (by simpa using b))
theorem backR_length : ∀ {ks : List (Option Nat)} {xs s : S}, (backR ks xs s).length = s.length
  | [], _, _ => by simp [backR]
  | none :: ks, [], _ => by simp [backR]
  | some _ :: ks, [], _ => by simp [backR]
  | none :: ks, x :: xs, s => by simp [backR, backR_length (ks := ks) (xs := xs) (s := s)]
  | some i :: ks, x :: xs, s => by simp [backR, backR_length (ks := ks) (xs := xs) (s := s.set i x)]
theorem backR_other {i : Nat} : ∀ {ks : List (Option Nat)} {xs s : S}, (∀ j : Nat, ks[j]? ≠ some (some i)) → (backR ks xs s)[i]? = s[i]?
  | [], _, _, _ => by simp [backR]
  | none :: ks, [], _, _ => by simp [backR]
  | some _ :: ks, [], _, _ => by simp [backR]
  | none :: ks, x :: xs, s, h => by
    simp only [backR]
    exact backR_other fun j e => h (j + 1) (by simpa using e)
  | some k :: ks, x :: xs, s, h => by
    simp only [backR]
    rw [backR_other fun j e => h (j + 1) (by simpa using e), List.getElem?_set_ne fun e => h 0 (by simp [e])]
theorem backR_at {i : Nat} : ∀ {ks : List (Option Nat)} {xs s : S} {j : Nat} {o : OD}, RefsOk ks → ks[j]? = some (some i) → j < xs.length → (backR ks xs s)[i]? = some (some o) → xs[j]? = some (some o)
  | [], _, _, _, _, _, h, _, _ => by simp at h
  | _ :: _, [], _, _, _, _, _, h, _ => by simp at h
  | none :: ks, x :: xs, s, 0, o, r, h, _, _ => by simp at h
  | none :: ks, x :: xs, s, j + 1, o, r, h, hl, q => by
    simp only [backR] at q
    simpa using backR_at r.tail (by simpa using h) (by simpa using hl) q
  | some k :: ks, x :: xs, s, 0, o, r, h, hl, q => by
    simp at h
    subst h
    simp only [backR] at q
    rw [backR_other fun j e => by
      have := r 0 (j + 1) k (by simp) (by simpa using e)
      omega] at q
    have hk := lt_of_get q
    rw [List.getElem?_set_self (by simpa using hk)] at q
    simpa using q
  | some k :: ks, x :: xs, s, j + 1, o, r, h, hl, q => by
    simp only [backR] at q
    simpa using backR_at r.tail (by simpa using h) (by simpa using hl) q

/-- into the callee, and back -/
theorem FS.enter {ks : List (Option Nat)} {vs : List V} {ds : List D} {ods : List OD} (F : FS ξ Y H σ s tv ts) (ar : ArgsR ξ.K Y σ ks vs ds) (ho : odsOf ks ds s = some ods) (hr : RefsOk ks) :
    ∃ ξ', ξ'.K = ξ.K ∧ ξ'.H0 = H ∧ ξ'.Z0 = Y ∧ FS ξ' Y H (vs.map some) (ods.map some) [] [] ∧
      ∀ Y' H' s' tv' ts', Same Y Y' → FS ξ' Y' H' (vs.map some) s' tv' ts' → FS ξ Y' H' σ (backR ks s' s) (tv ++ tv') (ts ++ ts') := by
  obtain ⟨g, R⟩ := F.rel
  obtain ⟨hl1, hl2, get⟩ := odsOf_get ar ho
  let M : Addr → Prop := fun a => ∃ (j i : Nat), ks[j]? = some (some i) ∧ g (.inl i) a
  refine ⟨⟨ξ.K, H, Y, M⟩, rfl, rfl, rfl, ⟨F.sub, Same.refl _, fun a h => .inl h, fun a o h _ => h, fun a h => h, by simp [hl1], rfl, fun k a => ∃ (j i : Nat), k = .inl j ∧ ks[j]? = some (some i) ∧ g (.inl i) a, fun j o e => ?_, fun j o e => by simp at e, ?_, ?_⟩, ?_⟩
  · rw [List.getElem?_map, Option.map_eq_some_iff] at e
    obtain ⟨o', e, e'⟩ := e
    cases e'
    obtain ⟨v, hv, h | ⟨i, h1, h2, h3⟩⟩ := get j o e
    · obtain ⟨h1, d, rfl, h2⟩ := h
      refine ⟨v, by rw [List.getElem?_map, hv]; rfl, (RO.fz h2).iff fun a => ⟨fun z => z.elim, fun z => ?_⟩⟩
      obtain ⟨j', i', z1, z2, _⟩ := z
      cases z1
      rw [h1] at z2; cases z2
    · obtain ⟨v', hv', r⟩ := R.slot i o h2
      rw [h3] at hv'
      cases hv'
      refine ⟨v, by rw [List.getElem?_map, hv]; rfl, r.iff fun a => ⟨fun z => ⟨j, i, rfl, h1, z⟩, fun z => ?_⟩⟩
      obtain ⟨j', i', z1, z2, z3⟩ := z
      cases z1
      rw [h1] at z2; cases z2
      exact z3
  · rintro k a ⟨j, i, rfl, h1, h2⟩
    obtain ⟨q1, q2, _⟩ := R.own _ a h2
    exact ⟨q1, q2, .inr ⟨j, i, h1, h2⟩⟩
  · rintro k l a ⟨j, i, rfl, h1, h2⟩ ⟨j', i', rfl, h1', h2'⟩
    have e : i = i' := Sum.inl.inj (R.sep _ _ _ h2 h2')
    subst e
    rw [hr j j' i h1 h1']
  · intro Y' H' s' tv' ts' hy F'
    obtain ⟨g', R'⟩ := F'.rel
    have hsl : s'.length = vs.length := by rw [F'.len]; simp
    have own_of : ∀ a, M a → H a ≠ none ∧ Y a = none ∧ (ξ.H0 a = none ∨ ξ.ma a) := by
      rintro a ⟨j, i, _, z⟩
      exact R.own _ a z
    have kk : ∀ i a, g i a → ¬ M a → H' a = H a := fun i a z nm => by
      cases e : H a with
      | none => exact ((R.own i a z).1 e).elim
      | some u => exact F'.keep a u e nm
    let up : Nat ⊕ Nat → Nat ⊕ Nat → Prop := fun i' i => match i', i with
      | .inl j, .inl i => ks[j]? = some (some i)
      | .inr j, .inr k => k = j + ts.length
      | _, _ => False
    let A : Nat ⊕ Nat → Prop := fun i => (∃ (j n : Nat), i = .inl n ∧ ks[j]? = some (some n)) ∨ ∃ j, i = .inr (j + ts.length)
    have upI : ∀ i' i'' i, up i' i → up i'' i → i' = i'' := by
      rintro (j | j) (k | k) (i | i) h h'
      · exact congrArg Sum.inl (hr j k i h h')
      all_goals first | exact h.elim | exact h'.elim | skip
      have h : i = j + ts.length := h
      have h' : i = k + ts.length := h'
      exact congrArg Sum.inr (by omega)
    have upO : ∀ i' i i2, up i' i → up i' i2 → i = i2 := by
      rintro (j | j) (k | k) (i | i) h h'
      · have h : ks[j]? = some (some k) := h
        have h' : ks[j]? = some (some i) := h'
        rw [h] at h'; cases h'; rfl
      all_goals first | exact h.elim | exact h'.elim | skip
      have h : k = j + ts.length := h
      have h' : i = j + ts.length := h'
      exact congrArg Sum.inr (by omega)
    let g2 : Own := fun i a => (A i ∧ ∃ i', up i' i ∧ g' i' a) ∨ (¬ A i ∧ g i a)
    have notM : ∀ i a, ¬ A i → g i a → ¬ M a := by
      rintro i a nA z ⟨j, n, q1, q2⟩
      have e := R.sep _ _ _ z q2
      subst e
      exact nA (.inl ⟨j, n, rfl, q1⟩)
    have old : ∀ i a, ¬ A i → g i a → H' a = H a := fun i a nA z => kk i a z (notM i a nA z)
    refine ⟨F'.sub, F.z0.trans hy, fun a h => ?_, fun a o h m => ?_, fun a h => F'.live a (F.live a h), by rw [backR_length, F.len], by rw [List.length_append, List.length_append, F.tlen, F'.tlen], g2, fun i o e => ?_, fun j o e => ?_, fun i a z => ?_, fun i j a z z' => ?_⟩
    · rcases F'.fresh a h with q | q | q
      · exact F.fresh a q
      · by_cases m : ξ.H0 a = none
        · exact .inr (.inl m)
        · exact (F.live a m q).elim
      · exact .inr (own_of a q).2.2
    · refine F'.keep a o (F.keep a o h m) fun z => ?_
      rcases (own_of a z).2.2 with q | q
      · rw [q] at h; cases h
      · exact m q
    · by_cases hA : ∃ j : Nat, ks[j]? = some (some i)
      · obtain ⟨j, hj⟩ := hA
        have e1 := backR_at hr hj (by rw [hsl, ← hl2]; exact lt_of_get hj) e
        obtain ⟨v, hv, r⟩ := R'.slot j o e1
        have hA' : A (.inl i) := .inl ⟨j, i, rfl, hj⟩
        have hvi : σ[i]? = some (some v) := by
          rw [List.getElem?_map, Option.map_eq_some_iff] at hv
          obtain ⟨v', hv, e'⟩ := hv
          cases e'
          have hjo : j < ods.length := by rw [hl1]; exact lt_of_get hv
          obtain ⟨v2, q1, q2 | ⟨i2, q2, _, q3⟩⟩ := get j _ (List.getElem?_eq_getElem hjo)
          · rw [hj] at q2; cases q2.1
          · rw [hj] at q2; cases q2
            rw [hv] at q1; cases q1
            exact q3
        exact ⟨v, hvi, r.iff fun a => ⟨fun z => .inl ⟨hA', .inl j, hj, z⟩, fun z => z.elim (fun w => by
          obtain ⟨_, i', e', w⟩ := w
          have : i' = .inl j := upI _ _ (.inl i) e' hj
          subst this
          exact w) fun w => (w.1 hA').elim⟩⟩
      · have hn : ∀ j : Nat, ks[j]? ≠ some (some i) := fun j e => hA ⟨j, e⟩
        rw [backR_other hn] at e
        obtain ⟨v, hv, r⟩ := R.slot i o e
        have nA : ¬ A (.inl i) := by
          rintro (⟨j, n, q, z⟩ | ⟨j, q⟩)
          · cases q; exact hn j z
          · cases q
        exact ⟨v, hv, (r.mono hy fun a z => old _ a nA z).iff fun a => ⟨fun z => .inr ⟨nA, z⟩, fun z => z.elim (fun w => (nA w.1).elim) fun w => w.2⟩⟩
    · by_cases hj : j < ts.length
      · rw [List.getElem?_append_left hj] at e
        obtain ⟨v, hv, r⟩ := R.temp j o e
        have nA : ¬ A (.inr j) := by
          rintro (⟨_, _, q, _⟩ | ⟨l, q⟩)
          · cases q
          · have : j = l + ts.length := Sum.inr.inj q
            omega
        exact ⟨v, by rw [List.getElem?_append_left (by have := F.tlen; omega)]; exact hv, (r.mono hy fun a z => old _ a nA z).iff fun a => ⟨fun z => .inr ⟨nA, z⟩, fun z => z.elim (fun w => (nA w.1).elim) fun w => w.2⟩⟩
      · rw [List.getElem?_append_right (by omega)] at e
        obtain ⟨v, hv, r⟩ := R'.temp (j - ts.length) o e
        have hA : A (.inr j) := .inr ⟨j - ts.length, by congr 1; omega⟩
        have hu : up (.inr (j - ts.length)) (.inr j) := by
          show j = j - ts.length + ts.length
          omega
        exact ⟨v, by rw [List.getElem?_append_right (by have := F.tlen; omega), ← F.tlen]; exact hv, r.iff fun a => ⟨fun z => .inl ⟨hA, .inr (j - ts.length), hu, z⟩, fun z => z.elim (fun w => by
          obtain ⟨_, i', e', w⟩ := w
          have : i' = .inr (j - ts.length) := upI _ _ _ e' hu
          subst this
          exact w) fun w => (w.1 hA).elim⟩⟩
    · rcases z with ⟨hA, i', _, z⟩ | ⟨nA, z⟩
      · obtain ⟨h1, h2, h3⟩ := R'.own i' a z
        refine ⟨h1, h2, ?_⟩
        rcases h3 with h3 | h3
        · by_cases m : ξ.H0 a = none
          · exact .inl m
          · exact (F.live a m h3).elim
        · exact (own_of a h3).2.2
      · obtain ⟨h1, h2, h3⟩ := R.own i a z
        refine ⟨by rw [old i a nA z]; exact h1, ?_, h3⟩
        cases e : Y' a with
        | none => rfl
        | some u =>
          rcases F'.fresh a (by rw [e]; simp) with w | w | w
          · exact (w h2).elim
          · exact (h1 w).elim
          · exact (notM i a nA z w).elim
    · have mixed : ∀ i j, g' i a → ¬ A j → g j a → False := fun i j z nA z' => by
        rcases (R'.own i a z).2.2 with w | w
        · exact (R.own j a z').1 w
        · exact notM j a nA z' w
      rcases z with ⟨hA, i', e', z⟩ | ⟨nA, z⟩
      · rcases z' with ⟨hA', j', e2', z'⟩ | ⟨nA', z'⟩
        · have : i' = j' := R'.sep _ _ _ z z'
          subst this
          exact upO _ _ _ e' e2'
        · exact (mixed _ _ z nA' z').elim
      · rcases z' with ⟨hA', j', e2', z'⟩ | ⟨nA', z'⟩
        · exact (mixed _ _ z' nA z).elim
        · exact R.sep _ _ _ z z'

theorem call_core {ks : List (Option Nat)} {g : AF} {F : List OD → Res OD} {xs : Bool} {n : Nat} {σ : St} {H : Hp} {Q : VK} (hr : RefsOk ks) (hn : ks.length = n) (q : tO c (oCall ks g F) σ H Q) :
    tR c ks g σ H fun vs H1 => spF c.K c.er true n F vs H1 Q (fun cl x H => c.W cl x σ H) := by
  obtain ⟨ξ, Y, s, tv, ts, hK, Fr, q⟩ := q
  refine tR_seq hK Fr q fun ds s1 Y1 H1 vs e1 F1 r1 q1 => ?_
  cases eo : odsOf ks ds s1 with
  | none => rw [eo] at q1; exact q1.elim
  | some ods =>
    rw [eo] at q1
    obtain ⟨ξ', hK', h0, hz, F2, back⟩ := F1.enter (hK ▸ r1) eo hr
    refine ⟨ξ', Y1, ods, hK'.trans hK, h0, hz, by rw [← (odsOf_get r1 eo).2.1]; exact hn, F2, ?_⟩
    simp only at q1
    cases ef : F ods with
    | ok o s2 =>
      rw [ef] at q1
      exact fun Y3 H3 v e3 F3 => q1 Y3 H3 v (e1.trans e3) (back Y3 H3 s2 [v] [o] e3 F3)
    | ex x s2 =>
      rw [ef] at q1
      refine ⟨rfl, fun Y3 H3 cl z e3 F3 er => ?_⟩
      have F4 := back Y3 H3 s2 [] [] e3 F3
      rw [List.append_nil, List.append_nil] at F4
      exact q1 Y3 H3 cl z (e1.trans e3) F4 er
    | bad => rw [ef] at q1; exact q1.elim
def noexF (F : List OD → Res OD) : List OD → Res OD := fun os => (F os).noex
theorem spF_noex {K : PySem.W.Frag} {er : Exn → Value → Option Addr → Hp → Prop} {n : Nat} {F : List OD → Res OD} {vs : List V} {H : Hp} {Q : VK} {E : XK} (h : spF K er true n (noexF F) vs H Q E) : spF K er false n F vs H Q E := by
  obtain ⟨ξ, Y, ods, a, b, c, d, f, q⟩ := h
  refine ⟨ξ, Y, ods, a, b, c, d, f, ?_⟩
  unfold noexF at q
  cases e : F ods with
  | ok o s => rw [e] at q; exact q
  | ex x s => rw [e] at q; exact q.elim
  | bad => rw [e] at q; exact q.elim
variable {CX : CXT} {k : Nat} {f : Addr} {fd : FuncData} {ps : List Str} {x : Str} {p pos : Pos} {e : Expr} {es : List Expr} {F : List OD → Res OD} {n : Nat} {ks : List (Option Nat)} {g : AF}
theorem tR_imp {σ : St} {H : Hp} {R R' : List V → Hp → Prop} (h : tR c ks g σ H R) (i : ∀ vs H, R vs H → R' vs H) : tR c ks g σ H R' := by
  obtain ⟨ξ, Y, s, tv, ts, hK, Fr, q⟩ := h
  exact ⟨ξ, Y, s, tv, ts, hK, Fr, out.mono c q (Same.refl _) fun ds s z Y' H' vs a b d => i vs H' (z Y' H' vs a b d)⟩
/-- a call of a def that raises nothing -/
theorem mo_call (Fo : FnG X.prog X.w X.K X.mg X.base CX0 k f fd ps (spF c.K c.er false n F)) (hG : X.A.guards = some []) (hr : Room k X.A) (hg : Gl X x) (hm : X.mg x = some (.ref f)) (hk : PySem.W.keepIn X.K (.ref f) = true) (hb : Binds X.K fd ps []) (ha : MR X c ks g (e :: es))
    (hn : ks.length = n := by rfl) (hrf : (ks.filterMap id).Nodup := by decide) (hdb : (x == ("__debug__" : Str)) = false := by decide) (he : starEach (e :: es) X.env = (false, eval e X.env) :: starEach es X.env := by rfl) (hpl : (backTo pos (starEach es X.env)).any (·.1) = false := by rfl) :
    MO X c (oCall ks g (noexF F)) (.Call (.Name x p) (e :: es) [] pos) := by
  refine ⟨PE.imp (pe_callG (E := fun σ cl x H => False) Fo hG hr hg hm hk hb (fun σ => fun _ _ _ _ _ _ z => z.elim) ha.run hdb he hpl) fun σ H Q q => ?_⟩
  refine tR_imp (call_core (xs := true) (refsOk_of hrf) hn q) fun vs H1 h => ?_
  have h2 := spF_noex h
  obtain ⟨ξ, Y, ods, a1, b1, c1, d1, f1, q1⟩ := h2
  refine ⟨ξ, Y, ods, a1, b1, c1, d1, f1, ?_⟩
  cases ef : F ods with
  | ok o s => rw [ef] at q1; exact q1
  | ex x s => rw [ef] at q1; exact (nomatch q1.1)
  | bad => rw [ef] at q1; exact q1
theorem mo_call0 (Fo : FnG X.prog X.w X.K X.mg X.base CX0 k f fd ps (spF c.K c.er false 0 F)) (hG : X.A.guards = some []) (hr : Room k X.A) (hg : Gl X x) (hm : X.mg x = some (.ref f)) (hk : PySem.W.keepIn X.K (.ref f) = true) (hb : Binds X.K fd ps [])
    (hdb : (x == ("__debug__" : Str)) = false := by decide) : MO X c (oCall [] aNil (noexF F)) (.Call (.Name x p) [] [] pos) := by
  refine ⟨PE.imp (pe_callG0 (E := fun σ cl x H => False) Fo hG hr hg hm hk hb (fun σ => fun _ _ _ _ _ _ z => z.elim) hdb) fun σ H Q q => ?_⟩
  have h := call_core (xs := true) (n := 0) (refsOk_of (ks := []) (by decide)) rfl q
  obtain ⟨ξ, Y, s, tv, ts, hK, Fr, q⟩ := h
  have h2 := spF_noex (q Y H [] (Same.refl _) Fr .nil)
  obtain ⟨ξ, Y, ods, a1, b1, c1, d1, f1, q1⟩ := h2
  refine ⟨ξ, Y, ods, a1, b1, c1, d1, f1, ?_⟩
  cases ef : F ods with
  | ok o s => rw [ef] at q1; exact q1
  | ex x s => rw [ef] at q1; exact (nomatch q1.1)
  | bad => rw [ef] at q1; exact q1
/-- a call with keywords: the values handed in are data; perm puts them in the parameters' order -/
def oCallK (g h : AF) (perm : List D → List D → List D) (F : List OD → Res OD) : OF := fun s => (g s).bind fun ds s1 => (h s1).bind fun es s2 => match F ((perm ds es).map .fz) with
  | .ok o _ => .ok o s2
  | _ => .bad
structure MK (X : Cx) (c : Ct) (f : AF) (kws : List Keyword) : Prop where
  run : PK X kws (tA c f)
theorem mk_nil : MK X c aNil [] := by
  refine ⟨⟨fun pos pins s σ H Q I q => pk_nil.run pos pins s σ H Q I ?_⟩⟩
  obtain ⟨ξ, Y, s, tv, ts, hK, F, q⟩ := q
  exact q Y H [] (Same.refl _) F .nil
theorem mk_cons {f : EF} {g : AF} {e : Expr} {nm : Option Str} {kpos : Pos} {kws : List Keyword} (h : ME X c f e) (h2 : MK X c g kws) : MK X c (aCons f g) (⟨nm, e, kpos⟩ :: kws) := by
  refine ⟨⟨fun pos pins s σ H Q I q => (pk_cons h.run h2.run).run pos pins s σ H Q I ?_⟩⟩
  obtain ⟨ξ, Y, s, tv, ts, hK, F, q⟩ := q
  refine tE_seq hK F q fun d s1 Y1 H1 v e1 F1 r1 q1 => ?_
  refine tA_seq hK F1 (out.mono c q1 e1 (fun _ _ z => z)) fun ds s2 Y2 H2 vs e2 F2 r2 q2 => ?_
  exact q2 Y2 H2 (v :: vs) (e1.trans e2) F2 (.cons (r1.mono e2) r2)
theorem FS.enterD {vs : List V} {ds : List D} (F : FS ξ Y H σ s tv ts) (r : DrAll ξ.K Y vs ds) : ∃ ξ', ξ'.K = ξ.K ∧ ξ'.H0 = H ∧ ξ'.Z0 = Y ∧ FS ξ' Y H (vs.map some) ((ds.map OD.fz).map some) [] [] ∧
      ∀ Y' H' s' tv' ts', Same Y Y' → FS ξ' Y' H' (vs.map some) s' tv' ts' → FS ξ Y' H' σ s (tv ++ tv') (ts ++ ts') := by
  have ar : ∀ {vs : List V} {ds : List D}, DrAll ξ.K Y vs ds → ArgsR ξ.K Y σ (ds.map fun _ => none) vs ds ∧ odsOf (ds.map fun _ => none) ds s = some (ds.map OD.fz) := by
    intro vs ds r
    induction ds generalizing vs with
    | nil => cases r; exact ⟨.nil, rfl⟩
    | cons d ds ih =>
      cases r with
      | cons a b => exact ⟨.val a (ih b).1, by simp [odsOf, (ih b).2]⟩
  have none_ : ∀ (ds : List D) (xs s : S), backR (ds.map fun _ => none) xs s = s := by
    intro ds
    induction ds with
    | nil => intro xs s; simp [backR]
    | cons d ds ih =>
      intro xs s
      cases xs with
      | nil => simp [backR]
      | cons x xs => simpa [backR] using ih xs s
  have hr : RefsOk (ds.map fun _ => (none : Option Nat)) := fun j j' i a _ => by
    rw [List.getElem?_map] at a
    cases e : ds[j]? with
    | none => rw [e] at a; cases a
    | some _ => rw [e] at a; cases a
  obtain ⟨ξ', a, b, c, d, e⟩ := F.enter (ar r).1 (ar r).2 hr
  refine ⟨ξ', a, b, c, d, fun Y' H' s' tv' ts' h1 h2 => ?_⟩
  have := e Y' H' s' tv' ts' h1 h2
  rwa [none_] at this
theorem mo_callK {k2 : List Str} {gv : List Value → List Value → List Value} {gV : List V → List V → List V} {perm : List D → List D → List D} {h : AF} {kws : List Keyword} (Fo : FnG X.prog X.w X.K X.mg X.base CX0 k f fd ps (spF c.K c.er false n F)) (hG : X.A.guards = some []) (hr : Room k X.A) (hg : Gl X x) (hm : X.mg x = some (.ref f)) (hk : PySem.W.keepIn X.K (.ref f) = true)
    (hb : KBinds X.K fd ps k2 gv gV) (hperm : ∀ (Y : Hp) vs ds ws es, DrAll c.K Y vs ds → DrAll c.K Y ws es → (gV vs ws).length = n ∧ DrAll c.K Y (gV vs ws) (perm ds es)) (ha : MA X c g (e :: es)) (hkw : MK X c h kws)
    (hall : (backToKw pos (keywordEach kws X.env)).all (·.1.isSome) = true := by rfl) (hks : (backToKw pos (keywordEach kws X.env)).filterMap (·.1) = k2 := by rfl)
    (hdb : (x == ("__debug__" : Str)) = false := by decide) (he : starEach (e :: es) X.env = (false, eval e X.env) :: starEach es X.env := by rfl)
    (hpl : ((backTo pos (starEach (e :: es) X.env)).any (·.1) || (backToKw pos (keywordEach kws X.env)).any (·.1.isNone)) = false := by rfl) :
    MO X c (oCallK g h perm F) (.Call (.Name x p) (e :: es) kws pos) := by
  refine ⟨PE.imp (pe_callGK (E := fun σ cl x H => False) Fo hG hr hg hm hk hb (fun σ => fun _ _ _ _ _ _ z => z.elim) ha.run hkw.run hall hks hdb he hpl) fun σ H Q q => ?_⟩
  obtain ⟨ξ, Y, s, tv, ts, hK, Fr, q⟩ := q
  refine tA_seq hK Fr q fun ds s1 Y1 H1 vs e1 F1 r1 q1 => ?_
  refine tA_seq hK F1 (out.mono c q1 e1 (fun _ _ z => z)) fun es s2 Y2 H2 ws e2 F2 r2 q2 => ?_
  obtain ⟨l1, r3⟩ := hperm Y2 vs ds ws es (r1.mono e2) r2
  obtain ⟨ξ', a1, b1, c1, d1, back⟩ := F2.enterD (hK ▸ r3)
  refine ⟨ξ', Y2, (perm ds es).map OD.fz, a1.trans hK, b1, c1, l1, d1, ?_⟩
  cases ef : F ((perm ds es).map OD.fz) with
  | ok o s3 =>
    rw [ef] at q2
    exact fun Y3 H3 v e3 F3 => q2 Y3 H3 v ((e1.trans e2).trans e3) (back Y3 H3 s3 [v] [o] e3 F3)
  | ex x s3 => rw [ef] at q2; exact q2.elim
  | bad => rw [ef] at q2; exact q2.elim
end
end MI

set_option Elab.async false
set_option linter.all false
set_option autoImplicit false
set_option maxRecDepth 100000
/-! MI: what the operators and built-ins do to data. -/
namespace MI
open PySem PySem.Spec L2
section
variable {X : Cx} {c : Ct} {K : PySem.W.Frag}

/-! ### links -/
theorem OpL.or {r r' : R2} {F F' : D → D → Option OD} (h : OpL K r F) (h' : OpL K r' F') : OpL K (orR r r') (fun a b => (F a b).or (F' a b)) := fun Y H Q x y a b o e ra rb q g => by
  have q : (F a b).or (F' a b) = some o := q
  cases ef : F a b with
  | some z =>
    rw [ef] at q
    cases q
    exact .inl (h Y H Q x y a b o e ra rb ef g)
  | none =>
    rw [ef] at q
    exact .inr (h' Y H Q x y a b o e ra rb (by simpa using q) g)
theorem CmpL.or {r r' : R2} {F F' : D → D → Option Bool} (h : CmpL K r F) (h' : CmpL K r' F') : CmpL K (orR r r') (fun a b => (F a b).or (F' a b)) := fun Y H Q x y a b k e ra rb q g => by
  have q : (F a b).or (F' a b) = some k := q
  cases ef : F a b with
  | some z =>
    rw [ef] at q
    cases q
    exact .inl (h Y H Q x y a b k e ra rb ef g)
  | none =>
    rw [ef] at q
    exact .inr (h' Y H Q x y a b k e ra rb (by simpa using q) g)

/-! ### + -/
def addI : D → D → Option OD
  | .int i, .int j => some (.fz (.int (i + j)))
  | _, _ => none
def addT : D → D → Option OD
  | .tuple xs, .tuple ys => if xs.length + ys.length ≤ sizeLine then some (.fz (.tuple (xs ++ ys))) else none
  | _, _ => none
def addLs : D → D → Option OD
  | .list xs, .list ys => if xs.length + ys.length ≤ sizeLine then some (.ol (xs ++ ys)) else none
  | _, _ => none
def addS : D → D → Option OD
  | .str x, .str y => if x.length + y.length ≤ sizeLine then some (.fz (.str (x ++ y))) else none
  | _, _ => none
theorem addI_ok : OpL K (rI0 fun i j => .int (i + j)) addI := fun Y H Q x y a b o e ra rb q g => by
  unfold addI at q
  split at q
  · cases q
    rw [ra.int_inv, rb.int_inv]
    exact ⟨_, _, rfl, rfl, g _ _ _ (.old (.int _))⟩
  · cases q
theorem addT_ok : OpL K (rCatA K) addT := fun Y H Q x y a b o e ra rb q g => by
  unfold addT at q
  split at q
  · rename_i xs ys
    split at q
    · rename_i hl
      cases q
      obtain ⟨p, us, rfl, h1, d1⟩ := ra.tuple_inv
      obtain ⟨p2, ws, rfl, h2, d2⟩ := rb.tuple_inv
      refine ⟨p, p2, us, ws, rfl, rfl, Same.sqt e h1, Same.sqt e h2, by rw [d1.length, d2.length]; exact hl, fun z => ?_, fun _ z => ?_, fun _ _ n hn => g _ _ _ (.tup hn (d1.append d2))⟩
      · subst z
        cases d1
        exact g _ _ _ (.old rb)
      · subst z
        cases d2
        rw [List.append_nil] at g
        exact g _ _ _ (.old ra)
    · cases q
  · cases q
theorem addL_ok : OpL K rCat addLs := fun Y H Q x y a b o e ra rb q g => by
  unfold addLs at q
  split at q
  · split at q
    · rename_i hl
      cases q
      obtain ⟨p, us, rfl, h1, d1⟩ := ra.list_inv
      obtain ⟨p2, ws, rfl, h2, d2⟩ := rb.list_inv
      exact ⟨p, p2, us, ws, rfl, rfl, e _ _ h1, e _ _ h2, by rw [d1.length, d2.length]; exact hl, fun n hn => g _ _ _ (.lst hn (d1.append d2))⟩
    · cases q
  · cases q
theorem addS_ok : OpL K (fun x y H Q => ∃ i j, x = .str i ∧ y = .str j ∧ i.length + j.length ≤ sizeLine ∧ Q (.str (i ++ j)) H) addS := fun Y H Q x y a b o e ra rb q g => by
  unfold addS at q
  split at q
  · split at q
    · rename_i hl
      cases q
      rw [ra.str_inv, rb.str_inv]
      exact ⟨_, _, rfl, rfl, hl, g _ _ _ (.old (.str _))⟩
    · cases q
  · cases q
def addD (a b : D) : Option OD := (addI a b).or ((addT a b).or ((addLs a b).or (addS a b)))
variable {fa fb : EF} {a b : Expr} {pos : Pos}
theorem mo_add (hXK : X.K = c.K) (ha : ME X c fa a) (hb : ME X c fb b) : MO X c (oOp2 addD fa fb) (.BinOp a .Add b pos) :=
  mo_op2 (OpR.or op_add (OpR.or (hXK ▸ op_catA) (OpR.or op_cat op_add_str))) (addI_ok.or (addT_ok.or (addL_ok.or addS_ok))) ha hb
/-! ### - * % // ** -/
def subD : D → D → Option OD
  | .int i, .int j => some (.fz (.int (i - j)))
  | _, _ => none
theorem mo_sub (ha : ME X c fa a) (hb : ME X c fb b) : MO X c (oOp2 subD fa fb) (.BinOp a .Sub b pos) :=
  mo_op2 op_sub (fun Y H Q x y a b o e ra rb q g => by
    unfold subD at q
    split at q
    · cases q
      rw [ra.int_inv, rb.int_inv]
      exact ⟨_, _, rfl, rfl, g _ _ _ (.old (.int _))⟩
    · cases q) ha hb
def mulI : D → D → Option OD
  | .int i, .int j => if i.natAbs.log2 + j.natAbs.log2 < 1000000 then some (.fz (.int (i * j))) else none
  | _, _ => none
def mulL : D → D → Option OD
  | .list xs, .int k => if -(2 ^ 63) ≤ k ∧ k < 2 ^ 63 ∧ xs.length * k.toNat ≤ sizeLine then some (.ol (List.replicate k.toNat xs).flatten) else none
  | _, _ => none
theorem DrAll.rep {Y : Hp} {vs : List V} {ds : List D} (h : DrAll K Y vs ds) : ∀ n : Nat, DrAll K Y (List.replicate n vs).flatten (List.replicate n ds).flatten
  | 0 => .nil
  | n + 1 => by
    rw [List.replicate_succ, List.replicate_succ, List.flatten_cons, List.flatten_cons]
    exact h.append (h.rep n)
def mulT : D → D → Option OD
  | .tuple xs, .int k => if xs.isEmpty = false ∧ 2 ≤ k ∧ k ≤ 1000 ∧ xs.length ≤ 1000 then some (.fz (.tuple (List.replicate k.toNat xs).flatten)) else none
  | _, _ => none
def mulD (a b : D) : Option OD := (mulI a b).or ((mulL a b).or (mulT a b))
theorem mo_mul (hXK : X.K = c.K) (ha : ME X c fa a) (hb : ME X c fb b) : MO X c (oOp2 mulD fa fb) (.BinOp a .Mult b pos) :=
  mo_op2 (OpR.or op_mulW (OpR.or op_rep (hXK ▸ op_repT))) (OpL.or (fun Y H Q x y a b o e ra rb q g => by
    unfold mulI at q
    split at q
    · split at q
      · rename_i hl
        cases q
        rw [ra.int_inv, rb.int_inv]
        exact ⟨_, _, rfl, rfl, hl, g _ _ _ (.old (.int _))⟩
      · cases q
    · cases q) (OpL.or (fun Y H Q x y a b o e ra rb q g => by
    unfold mulL at q
    split at q
    · split at q
      · rename_i hl
        cases q
        obtain ⟨p, us, rfl, h1, d1⟩ := ra.list_inv
        rw [rb.int_inv]
        exact ⟨p, _, us, rfl, rfl, e _ _ h1, hl.1, hl.2.1, by rw [d1.length]; exact hl.2.2, fun n hn => g _ _ _ (.lst hn (d1.rep _))⟩
      · cases q
    · cases q) (fun Y H Q x y a b o e ra rb q g => by
    unfold mulT at q
    split at q
    · split at q
      · rename_i xs k hl
        cases q
        obtain ⟨p, us, rfl, h1, d1⟩ := ra.tuple_inv
        rw [rb.int_inv]
        refine ⟨p, _, us, rfl, rfl, Same.sqt e h1, ?_, hl.2.1, hl.2.2.1, by rw [d1.length]; exact hl.2.2.2, fun n hn => g _ _ _ (.tup hn (d1.rep _))⟩
        rintro rfl
        cases d1
        simp at hl
      · cases q
    · cases q))) ha hb
def modD : D → D → Option OD
  | .int i, .int j => if 0 < j then some (.fz (.int (i % j))) else none
  | _, _ => none
theorem mo_mod (ha : ME X c fa a) (hb : ME X c fb b) : MO X c (oOp2 modD fa fb) (.BinOp a .Mod b pos) :=
  mo_op2 op_mod (fun Y H Q x y a b o e ra rb q g => by
    unfold modD at q
    split at q
    · split at q
      · rename_i hl
        cases q
        rw [ra.int_inv, rb.int_inv]
        exact ⟨_, _, rfl, rfl, hl, g _ _ _ (.old (.int _))⟩
      · cases q
    · cases q) ha hb
def fdivD : D → D → Option OD
  | .int i, .int j => if 0 < j ∧ j.natAbs.log2 < 9000 then some (.fz (.int (i / j))) else none
  | _, _ => none
theorem mo_fdiv (ha : ME X c fa a) (hb : ME X c fb b) : MO X c (oOp2 fdivD fa fb) (.BinOp a .FloorDiv b pos) :=
  mo_op2 op_fdivW (fun Y H Q x y a b o e ra rb q g => by
    unfold fdivD at q
    split at q
    · split at q
      · rename_i hl
        cases q
        rw [ra.int_inv, rb.int_inv]
        exact ⟨_, _, rfl, rfl, hl, g _ _ _ (.old (.int _))⟩
      · cases q
    · cases q) ha hb
def CPowW (i j : Int) : Prop := 0 ≤ j ∧ (Builtin.Int.intBits i : Int) * j ≤ 2 ^ 27
instance (i j : Int) : Decidable (CPowW i j) := inferInstanceAs (Decidable (_ ∧ _))
theorem op_powW : OpR X (binaryOp .Pow) (rI CPowW fun i j => .int (i ^ j.toNat)) := opI fun _ _ _ _ _ _ _ hc q => PyProof.Rows.pow_int hc.1 hc.2 q
def powD : D → D → Option OD
  | .int i, .int j => if CPowW i j then some (.fz (.int (i ^ j.toNat))) else none
  | _, _ => none
theorem mo_pow (ha : ME X c fa a) (hb : ME X c fb b) : MO X c (oOp2 powD fa fb) (.BinOp a .Pow b pos) :=
  mo_op2 op_powW (fun Y H Q x y a b o e ra rb q g => by
    unfold powD at q
    split at q
    · split at q
      · rename_i hl
        cases q
        rw [ra.int_inv, rb.int_inv]
        exact ⟨_, _, rfl, rfl, hl, g _ _ _ (.old (.int _))⟩
      · cases q
    · cases q) ha hb
def negD : D → Option OD
  | .int i => some (.fz (.int (-i)))
  | _ => none
theorem mo_neg (ha : ME X c fa a) : MO X c (oOp1 negD fa) (.UnaryOp .USub a pos) :=
  mo_un un_neg (fun Y H Q x a o e ra q g => by
    unfold negD at q
    split at q
    · cases q
      rw [ra.int_inv]
      exact ⟨_, rfl, g _ _ _ (.old (.int _))⟩
    · cases q) ha

/-! ### comparisons -/
mutual
/-- no dict in it -/
def plain : D → Bool
  | .none => true
  | .bool _ => true
  | .int _ => true
  | .str _ => true
  | .dict _ => false
  | .list ds => plainAll ds
  | .tuple ds => plainAll ds
def plainAll : List D → Bool
  | [] => true
  | d :: ds => plain d && plainAll ds
end
mutual
theorem Dr.dp {Y H : Hp} (e : Same Y H) : ∀ {v : V} {d : D}, Dr K Y v d → plain d = true → Dp K H v d
  | _, _, .non, _ => .non
  | _, _, .bl b, _ => .bl b
  | _, _, .int i, _ => .int i
  | _, _, .str x, _ => .str x
  | _, _, .lst h t, f => .lst (.inl (.inl (e _ _ h))) (DrAll.dp e t (by simpa [plain] using f))
  | _, _, .lck _ _, f => by simp [plain] at f
  | _, _, .tup h t, f => .tup (Same.sqt e h) (DrAll.dp e t (by simpa [plain] using f))
  | _, _, .dk _ _, f => by simp [plain] at f
  | _, _, .dt _ _, f => by simp [plain] at f
theorem DrAll.dp {Y H : Hp} (e : Same Y H) : ∀ {vs : List V} {ds : List D}, DrAll K Y vs ds → plainAll ds = true → DpAll K H vs ds
  | _, _, .nil, _ => .nil
  | _, _, .cons h t, f => by
    rw [plainAll, Bool.and_eq_true] at f
    exact .cons (h.dp e f.1) (t.dp e f.2)
end
/-- texts are compared whatever they are -/
def eqS : D → D → Option Bool
  | .str x, .str y => some (decide (x = y))
  | _, _ => none
def eqP (a b : D) : Option Bool := if plain a = true ∧ plain b = true ∧ SeqAt.shaped a = true ∧ SeqAt.shaped b = true then some (PyData.eqv a b) else none
def eqD (a b : D) : Option Bool := (eqS a b).or (eqP a b)
def neD (a b : D) : Option Bool := ((eqS a b).map not).or ((eqP a b).map not)
theorem eqS_ok : CmpL K rEq eqS := fun Y H Q x y a b k e ra rb q g => by
  unfold eqS at q
  split at q
  · cases q
    rw [ra.str_inv, rb.str_inv]
    refine ⟨rfl, ?_⟩
    rename_i x y
    rw [show decide (V.str x = V.str y) = decide (x = y) by
      by_cases z : x = y
      · subst z; simp
      · rw [decide_eq_false z, decide_eq_false fun w => z (V.str.inj w)]]
    exact g
  · cases q
theorem eqP_ok : CmpL K (rEqD K) eqP := fun Y H Q x y a b k e ra rb q g => by
  unfold eqP at q
  split at q
  · rename_i h
    cases q
    exact ⟨a, b, ra.dp e h.1, rb.dp e h.2.1, h.2.2.1, h.2.2.2, g⟩
  · cases q
theorem neS_ok : CmpL K rNe fun a b => (eqS a b).map not := fun Y H Q x y a b k e ra rb q g => by
  simp only [Option.map_eq_some_iff] at q
  obtain ⟨k', q, rfl⟩ := q
  have := eqS_ok Y H (fun v H' => Q (match v with
    | .bl z => .bl (!z)
    | v => v) H') x y a b k' e ra rb q g
  exact this
theorem neP_ok : CmpL K (rNeD K) fun a b => (eqP a b).map not := fun Y H Q x y a b k e ra rb q g => by
  simp only [Option.map_eq_some_iff] at q
  obtain ⟨k', q, rfl⟩ := q
  unfold eqP at q
  split at q
  · rename_i h
    cases q
    exact ⟨a, b, ra.dp e h.1, rb.dp e h.2.1, h.2.2.1, h.2.2.2, g⟩
  · cases q
theorem me_eq (hXK : X.K = c.K) (hu : X.A.units + 64 < cLine) (ha : ME X c fa a) (hb : ME X c fb b) (hm : behindInMarks .Eq b = false) : ME X c (eCmp eqD fa fb) (.Compare a [.Eq] [b] pos) :=
  me_cmp (OpR.or op_eq (hXK ▸ op_eqD hu)) (eqS_ok.or eqP_ok) ha hb hm
theorem mt_eq (hXK : X.K = c.K) (hu : X.A.units + 64 < cLine) (ha : ME X c fa a) (hb : ME X c fb b) (hm : behindInMarks .Eq b = false) : MT X c (kCmp eqD fa fb) (.Compare a [.Eq] [b] pos) :=
  mt_cmp (OpR.or op_eq (hXK ▸ op_eqD hu)) (eqS_ok.or eqP_ok) ha hb hm
theorem me_ne (hXK : X.K = c.K) (hu : X.A.units + 64 < cLine) (ha : ME X c fa a) (hb : ME X c fb b) (hm : behindInMarks .NotEq b = false) : ME X c (eCmp neD fa fb) (.Compare a [.NotEq] [b] pos) :=
  me_cmp (OpR.or op_ne (hXK ▸ op_neD hu)) (neS_ok.or neP_ok) ha hb hm
theorem mt_ne (hXK : X.K = c.K) (hu : X.A.units + 64 < cLine) (ha : ME X c fa a) (hb : ME X c fb b) (hm : behindInMarks .NotEq b = false) : MT X c (kCmp neD fa fb) (.Compare a [.NotEq] [b] pos) :=
  mt_cmp (OpR.or op_ne (hXK ▸ op_neD hu)) (neS_ok.or neP_ok) ha hb hm
def ltI : D → D → Option Bool
  | .int i, .int j => some (decide (i < j))
  | _, _ => none
def leI : D → D → Option Bool
  | .int i, .int j => some (decide (i ≤ j))
  | _, _ => none
def gtI : D → D → Option Bool
  | .int i, .int j => some (decide (j < i))
  | _, _ => none
def geI : D → D → Option Bool
  | .int i, .int j => some (decide (j ≤ i))
  | _, _ => none
theorem ltI_ok : CmpL K (rI0 fun i j => .bl (decide (i < j))) ltI := fun Y H Q x y a b k e ra rb q g => by
  unfold ltI at q
  split at q
  · cases q
    rw [ra.int_inv, rb.int_inv]
    exact ⟨_, _, rfl, rfl, g⟩
  · cases q
theorem leI_ok : CmpL K (rI0 fun i j => .bl (decide (i ≤ j))) leI := fun Y H Q x y a b k e ra rb q g => by
  unfold leI at q
  split at q
  · cases q
    rw [ra.int_inv, rb.int_inv]
    exact ⟨_, _, rfl, rfl, g⟩
  · cases q
theorem gtI_ok : CmpL K (rI0 fun i j => .bl (decide (j < i))) gtI := fun Y H Q x y a b k e ra rb q g => by
  unfold gtI at q
  split at q
  · cases q
    rw [ra.int_inv, rb.int_inv]
    exact ⟨_, _, rfl, rfl, g⟩
  · cases q
theorem geI_ok : CmpL K (rI0 fun i j => .bl (decide (j ≤ i))) geI := fun Y H Q x y a b k e ra rb q g => by
  unfold geI at q
  split at q
  · cases q
    rw [ra.int_inv, rb.int_inv]
    exact ⟨_, _, rfl, rfl, g⟩
  · cases q
def isN : D → D → Option Bool
  | a, .none => some (match a with
    | .none => true
    | _ => false)
  | _, _ => none
theorem isN_ok : CmpL K (fun x y H Q => y = .non ∧ Q (.bl (decide (x = .non))) H) isN := fun Y H Q x y a b k e ra rb q g => by
  unfold isN at q
  split at q
  · cases q
    refine ⟨rb.none_inv, ?_⟩
    cases ra <;> exact g
  · cases q
def isntN (a b : D) : Option Bool := (isN a b).map not
theorem isntN_ok : CmpL K (fun x y H Q => y = .non ∧ Q (.bl (!decide (x = .non))) H) isntN := fun Y H Q x y a b k e ra rb q g => by
  unfold isntN at q
  simp only [Option.map_eq_some_iff] at q
  obtain ⟨k', q, rfl⟩ := q
  unfold isN at q
  split at q
  · cases q
    refine ⟨rb.none_inv, ?_⟩
    cases ra <;> exact g
  · cases q
theorem me_isN (ha : ME X c fa a) (hb : ME X c fb b) (hm : behindInMarks .Is b = false) : ME X c (eCmp isN fa fb) (.Compare a [.Is] [b] pos) := me_cmp op_isN isN_ok ha hb hm
theorem mt_isN (ha : ME X c fa a) (hb : ME X c fb b) (hm : behindInMarks .Is b = false) : MT X c (kCmp isN fa fb) (.Compare a [.Is] [b] pos) := mt_cmp op_isN isN_ok ha hb hm
theorem me_isnt (ha : ME X c fa a) (hb : ME X c fb b) (hm : behindInMarks .IsNot b = false) : ME X c (eCmp isntN fa fb) (.Compare a [.IsNot] [b] pos) := me_cmp op_notN isntN_ok ha hb hm
theorem mt_isnt (ha : ME X c fa a) (hb : ME X c fb b) (hm : behindInMarks .IsNot b = false) : MT X c (kCmp isntN fa fb) (.Compare a [.IsNot] [b] pos) := mt_cmp op_notN isntN_ok ha hb hm
/-- x is True, x is not True -/
def isB : D → D → Option Bool
  | .bool a, .bool b => some (decide (a = b))
  | _, _ => none
theorem mt_isntB (ha : ME X c fa a) (hb : ME X c fb b) (hm : behindInMarks .IsNot b = false) : MT X c (kCmp (fun a b => (isB a b).map not) fa fb) (.Compare a [.IsNot] [b] pos) := mt_cmp op_isnot_bl (fun Y H Q x y a b k e ra rb q g => by
  simp only [Option.map_eq_some_iff] at q
  obtain ⟨k', q, rfl⟩ := q
  unfold isB at q
  split at q
  · cases q
    exact ⟨_, _, ra.bool_inv, rb.bool_inv, g⟩
  · cases q) ha hb hm
theorem mt_lt (ha : ME X c fa a) (hb : ME X c fb b) (hm : behindInMarks .Lt b = false) : MT X c (kCmp ltI fa fb) (.Compare a [.Lt] [b] pos) := mt_cmp op_lt ltI_ok ha hb hm
theorem mt_le (ha : ME X c fa a) (hb : ME X c fb b) (hm : behindInMarks .LtE b = false) : MT X c (kCmp leI fa fb) (.Compare a [.LtE] [b] pos) := mt_cmp op_le leI_ok ha hb hm
theorem mt_gt (ha : ME X c fa a) (hb : ME X c fb b) (hm : behindInMarks .Gt b = false) : MT X c (kCmp gtI fa fb) (.Compare a [.Gt] [b] pos) := mt_cmp op_gt gtI_ok ha hb hm
theorem mt_ge (ha : ME X c fa a) (hb : ME X c fb b) (hm : behindInMarks .GtE b = false) : MT X c (kCmp geI fa fb) (.Compare a [.GtE] [b] pos) := mt_cmp op_ge geI_ok ha hb hm
theorem me_lt (ha : ME X c fa a) (hb : ME X c fb b) (hm : behindInMarks .Lt b = false) : ME X c (eCmp ltI fa fb) (.Compare a [.Lt] [b] pos) := me_cmp op_lt ltI_ok ha hb hm
theorem me_le (ha : ME X c fa a) (hb : ME X c fb b) (hm : behindInMarks .LtE b = false) : ME X c (eCmp leI fa fb) (.Compare a [.LtE] [b] pos) := me_cmp op_le leI_ok ha hb hm
theorem me_gt (ha : ME X c fa a) (hb : ME X c fb b) (hm : behindInMarks .Gt b = false) : ME X c (eCmp gtI fa fb) (.Compare a [.Gt] [b] pos) := me_cmp op_gt gtI_ok ha hb hm
theorem me_ge (ha : ME X c fa a) (hb : ME X c fb b) (hm : behindInMarks .GtE b = false) : ME X c (eCmp geI fa fb) (.Compare a [.GtE] [b] pos) := me_cmp op_ge geI_ok ha hb hm
theorem me_chLL {fz : EF} {z : Expr} (ha : ME X c fa a) (hb : ME X c fb b) (hz : ME X c fz z) (hm : lastMarks [.LtE, .LtE] [b, z] = false := by with_unfolding_all rfl) : ME X c (eChn leI leI fa fb fz) (.Compare a [.LtE, .LtE] [b, z] pos) := me_chain op_le op_le leI_ok leI_ok ha hb hz hm
theorem mt_chLL {fz : EF} {z : Expr} (ha : ME X c fa a) (hb : ME X c fb b) (hz : ME X c fz z) (hm : lastMarks [.LtE, .LtE] [b, z] = false := by with_unfolding_all rfl) : MT X c (kChn leI leI fa fb fz) (.Compare a [.LtE, .LtE] [b, z] pos) := mt_chain op_le op_le leI_ok leI_ok ha hb hz hm

/-! ### subscripts, slices -/
def ixL : D → D → Option OD
  | .list xs, .int i => (atI xs i).map .fz
  | _, _ => none
def ixT : D → D → Option OD
  | .tuple xs, .int i => (atI xs i).map .fz
  | _, _ => none
theorem atI_len {α β : Type} {xs : List α} {ys : List β} {i : Int} {y : β} (hl : xs.length = ys.length) (h : atI ys i = some y) : ∃ (j : Nat) (x : α), xs[j]? = some x ∧ ys[j]? = some y ∧ atI xs i = some x := by
  unfold atI at h ⊢
  rw [hl]
  cases e : ixN ys.length i with
  | none => rw [e] at h; cases h
  | some j =>
    rw [e] at h
    have hy : ys[j]? = some y := h
    have hj := lt_of_get hy
    exact ⟨j, xs[j]'(by omega), List.getElem?_eq_getElem _, hy, List.getElem?_eq_getElem _⟩
theorem DrAll.at {Y : Hp} {vs : List V} {ds : List D} {i : Int} {d : D} (r : DrAll K Y vs ds) (h : atI ds i = some d) : ∃ v, atI vs i = some v ∧ Dr K Y v d := by
  obtain ⟨j, v, h1, h2, h3⟩ := atI_len r.length h
  obtain ⟨v', h4, h5⟩ := r.get h2
  rw [h1] at h4
  cases h4
  exact ⟨v, h3, h5⟩
def ixD (a b : D) : Option OD := (ixL a b).or (ixT a b)
theorem me_ix (hXK : X.K = c.K) (ha : ME X c fa a) (hb : ME X c fb b) (hs : PlainIx b) : ME X c (eFrz (oOp2 ixD fa fb)) (.Subscript a b pos) := by
  refine me_frz ⟨PE.imp (pe_ix (IxR.or ix_list ix_tup) ha.run hb.run hs) fun σ H Q q => op2_core (OpL.or (r := rIxL X.K) (r' := rIxT X.K) ?_ ?_) q⟩
  · intro Y H Q x y a b o e ra rb q g
    unfold ixL at q
    split at q
    · simp only [Option.map_eq_some_iff] at q
      obtain ⟨d, q, rfl⟩ := q
      obtain ⟨p, us, rfl, h1, d1⟩ := ra.list_inv
      rw [rb.int_inv]
      obtain ⟨v, hv, r⟩ := d1.at q
      exact ⟨p, us, _, v, rfl, rfl, .inl (.inl (e _ _ h1)), hv, g _ _ _ (.old r)⟩
    · cases q
  · intro Y H Q x y a b o e ra rb q g
    unfold ixT at q
    split at q
    · simp only [Option.map_eq_some_iff] at q
      obtain ⟨d, q, rfl⟩ := q
      obtain ⟨p, us, rfl, h1, d1⟩ := ra.tuple_inv
      rw [rb.int_inv]
      obtain ⟨v, hv, r⟩ := d1.at q
      exact ⟨p, us, _, v, rfl, rfl, hXK ▸ Same.sqt e h1, hv, g _ _ _ (.old r)⟩
    · cases q
end
end MI

set_option Elab.async false
set_option linter.all false
set_option autoImplicit false
set_option maxRecDepth 100000
/-! MI: list(reversed(a list)). -/
namespace MI
open PySem PySem.Spec L2 PySem.AutoSeq1
section
variable {prog : Program} {w : World} {A : Around} {E : Value → Shared → Prop} {s : Shared}
theorem list_of_rev {it l : Addr} {items : Array Value} {Q : Value → Shared → Prop} (hh : A.handled = none) (hit : s.heap.IsRevIter it l ((items.size : Int) - 1)) (hl : s.heap.IsList l items) (hne : l ≠ it) (hn : items.size ≤ sizeLine)
    (hQ : ∀ (h' : Heap) (tk : Nat) (acc : Array Value) (c' : Nat), (∀ b o, b ≠ it → s.heap.get? b = some o → h'.get? b = some o) → h'.get? s.heap.objs.size = some { cls := .type "list", dict := none, data := .seq acc c', slots := #[] } →
      ItemsOf (fun i v => items[items.size - 1 - i]? = some v) acc items.size → Q (.ref s.heap.objs.size) { s with heap := h', toks := tk }) : wpAny (model prog w) A (call (.type "list") [.ref it]) Q E s := by
  obtain ⟨oi, hoi, _⟩ := id hit
  obtain ⟨ol, hol, _⟩ := id hl
  have ni : s.heap.objs.size ≠ it := Nat.ne_of_gt (Heap.lt_size hoi)
  have nl : s.heap.objs.size ≠ l := Nat.ne_of_gt (Heap.lt_size hol)
  have nf : s.heap.objs.size ∉ [it, l] := by
    intro z
    rcases List.mem_cons.mp z with z | z
    · exact ni z
    · exact nl (List.mem_singleton.mp z)
  refine callType_codes (Q₁ := fun o s₁ => o = .ref s.heap.objs.size ∧ s₁ = { s with heap := s.heap.push { cls := .type "list", data := .seq #[] } }) F.called_list (F.typeCall_list_1 _) F.entry_list_init (code_list_new _ ⟨rfl, rfl⟩) ?_
  rintro o s₁ ⟨rfl, rfl⟩
  have at0 : (s.heap.push { cls := .type "list", data := .seq #[] }).get? s.heap.objs.size = some { cls := .type "list", data := .seq #[] } := Heap.get?_push_size _ rfl
  refine ⟨⟨_, at0, rfl⟩, F.args_list_init_2 _ _, ?_⟩
  let h1 := s.heap.push { cls := .type "list", data := .seq #[] }
  let h2 := h1.update s.heap.objs.size (Obj.mapSeq fun _ => (#[] : Array Value))
  show wpAny _ _ (Builtin.List.listItems (.ref s.heap.objs.size) >>= fun old => (Builtin.List.listUpdate (.ref s.heap.objs.size) fun _ => #[]) >>= fun _ => letGo old.toList.reverse >>= fun _ => Builtin.List.listExtendWith (.ref s.heap.objs.size) (.ref it) .none) _ _ _
  refine wpAny_bind ?_
  unfold Builtin.List.listItems
  refine wpAny_bind (wpAny_seqItems at0 rfl (wpAny_pure ?_))
  show wpAny _ _ ((updateSeq s.heap.objs.size fun _ => #[]) >>= fun _ => letGo ([] : List Value) >>= fun _ => Builtin.List.listExtendWith (.ref s.heap.objs.size) (.ref it) .none) _ _ _
  refine wpAny_bind (wpAny_updateSeq at0 rfl (wpAny_bind (wpAny_letGo ?_)))
  have at2 := Heap.get?_update_self (Obj.mapSeq fun _ => (#[] : Array Value)) at0 rfl
  have far : ∀ b o, s.heap.get? b = some o → h2.get? b = some o := fun b o e => (Heap.get?_update_other _ _ (Nat.ne_of_gt (Heap.lt_size e))).trans (Heap.get?_push_of_some _ e)
  have it2 : h2.IsRevIter it l ((items.size : Int) - 1) := hit.at fun o e => far _ _ e
  have l2 : h2.IsList l items := by
    obtain ⟨o, e, r⟩ := hl
    exact ⟨o, far _ _ e, r⟩
  have ty : ({ s with heap := h2 } : Shared).TypeIs (.ref it) "list_reverseiterator" := Heap.IsRevIter.typeIs (s := { s with heap := h2 }) it2
  have ns : Builtin.List.listSameRef (.ref s.heap.objs.size) (.ref it) = false := by simp [Builtin.List.listSameRef, ni]
  have W := (Walks.listRev (prog := prog) (w := w) (A := A.in1.in1) hh it l hne items).toS
  unfold Builtin.List.listExtendWith
  refine wpAny_bind (wpAny_typeOf ty ?_)
  rw [if_neg (by rw [ns]; decide)]
  refine wpAny_bind (wpAny_pyIter_revIter (s := { s with heap := h2 }) it2 (wpAny_bind (wpAny_holding ?_)))
  unfold Builtin.List.listLengthHint
  refine wpAny_bind (wpAny_specialOf ty RT.nolen_lri ?_)
  show wpAny _ _ (specialOf (Value.ref it) (Str.ofString "__length_hint__") >>= _) _ _ _
  refine wpAny_bind (wpAny_specialOf ty RT.hint_lri ?_)
  generalize hq : ("list_reverseiterator.__length_hint__" : String) = nm
  wp_delta
  rw [show splitId nm = some ("list_reverseiterator", "__length_hint__") by subst hq; decide +kernel]
  subst hq
  refine wpAny_bind (wpAny_isInstance (b := true) ty (by rw [isSubtype_type]; kernel_rfl) (wpAny_pure ?_))
  rw [if_neg (by decide)]
  have e0 : ((items.size : Nat) : Int) - 1 - ((0 : Nat) : Int) = (items.size : Int) - 1 := by omega
  refine wpAny_pure ⟨plainId_quiet F.plain_extend_loop _, ?_⟩
  refine codeAny_extend_loopS W hn _ nf _ items.size 0 _ _ _ rfl (Nat.zero_le _) ⟨Nat.zero_le _, by rw [e0]; exact it2, l2⟩ at2 (ItemsOf.nil _) ?_
  intro s' acc' c' hm hS' hacc
  refine ⟨rfl, ?_⟩
  rw [Moved.eq_with hm]
  refine hQ s'.heap s'.toks acc' c' (fun b o hb e => hm.heap b o (fun z => ?_) (far b o e)) hS' hacc
  rcases List.mem_cons.mp z with z | z
  · exact absurd (Heap.lt_size e) (by rw [z]; exact Nat.lt_irrefl _)
  · exact hb (List.mem_singleton.mp z)
end
end MI

set_option Elab.async false
set_option linter.all false
set_option autoImplicit false
set_option maxRecDepth 100000
/-! MI: slices, built-ins, methods, items stored. -/
namespace MI
open PySem PySem.Spec L2
section
variable {X : Cx} {c : Ct} {K : PySem.W.Frag} {ξ : Fx} {Y H : Hp} {σ : St} {s : S} {tv : List V} {ts : List OD}
variable {fa fb : EF} {a b : Expr} {p pos : Pos}

/-! ### slices -/
def cutD (xs : List D) (lo hi : Option Int) : List D := (xs.drop (HT.sIx xs.length 0 lo)).take (HT.sIx xs.length xs.length hi - HT.sIx xs.length 0 lo)
theorem DrAll.cutV {vs : List V} {ds : List D} (h : DrAll K Y vs ds) (lo hi : Option Int) : DrAll K Y (L2.cutV vs lo hi) (cutD ds lo hi) := by
  unfold L2.cutV cutD
  rw [h.length]
  exact (h.drop _).take _
/-- a part of a slice -/
abbrev PF := S → Res (Option Int)
def pNo : PF := fun s => .ok none s
def pSome (f : EF) : PF := fun s => (f s).bind fun d s => match d with
  | .int i => .ok (some i) s
  | _ => .bad
def tP (c : Ct) (f : PF) : TO := fun σ H Q => ∃ ξ Y s tv ts, ξ.K = c.K ∧ FS ξ Y H σ s tv ts ∧
  out c ξ Y σ tv ts (fun o s' => ∀ Y' H', Same Y Y' → FS ξ Y' H' σ s' tv ts → Q o H') (f s)
structure MP (X : Cx) (c : Ct) (f : PF) (e : Option Expr) : Prop where
  run : PO X e (tP c f)
theorem PO.imp {X : Cx} {e : Option Expr} {t t' : TO} (h : PO X e t) (i : ∀ σ H Q, t' σ H Q → t σ H Q) : PO X e t' := ⟨fun pins s σ H Q I q => h.run pins s σ H Q I (i σ H Q q)⟩
theorem mp_no : MP X c pNo none := by
  refine ⟨PO.imp po_none fun σ H Q q => ?_⟩
  obtain ⟨ξ, Y, s, tv, ts, hK, F, q⟩ := q
  exact q Y H (Same.refl _) F
theorem mp_some {f : EF} {e : Expr} (h : ME X c f e) : MP X c (pSome f) (some e) := by
  refine ⟨PO.imp (po_some h.run) fun σ H Q q => ?_⟩
  obtain ⟨ξ, Y, s, tv, ts, hK, F, q⟩ := q
  refine tE_seq hK F q fun d s1 Y1 H1 v e1 F1 r1 q1 => ?_
  cases d with
  | int i => exact ⟨i, r1.int_inv, q1 Y1 H1 e1 F1⟩
  | none => exact q1.elim
  | bool _ => exact q1.elim
  | str _ => exact q1.elim
  | list _ => exact q1.elim
  | tuple _ => exact q1.elim
  | dict _ => exact q1.elim
theorem tP_seq {β : Type} {fa : PF} {k : Option Int → S → Res β} {G : β → S → Prop} {R : Option Int → Hp → Prop} (hK : ξ.K = c.K) (F : FS ξ Y H σ s tv ts) (h : out c ξ Y σ tv ts G ((fa s).bind k))
    (hR : ∀ o s1 Y1 H1, Same Y Y1 → FS ξ Y1 H1 σ s1 tv ts → out c ξ Y σ tv ts G (k o s1) → R o H1) : tP c fa σ H R := by
  refine ⟨ξ, Y, s, tv, ts, hK, F, ?_⟩
  cases e : fa s with
  | ok d s1 => rw [e] at h; exact fun Y1 H1 e1 F1 => hR d s1 Y1 H1 e1 F1 h
  | ex x s1 => rw [e] at h; exact h
  | bad => rw [e] at h; exact h
def sliceD : D → Option Int → Option Int → Option OD
  | .list xs, lo, hi => some (.ol (cutD xs lo hi))
  | .tuple xs, lo, hi => some (.fz (.tuple (cutD xs lo hi)))
  | .dict [(.none, .list xs)], lo, hi => some (.ol (cutD xs lo hi))
  | _, _, _ => none
def oSlice (f : EF) (l h : PF) : OF := fun s => (f s).bind fun d s => (l s).bind fun lo s => (h s).bind fun hi s => ofO (sliceD d lo hi) s
theorem cut_whole {xs : List V} {ds : List D} (r : DrAll K Y xs ds) {lo hi : Option Int} (h : HT.sIx xs.length 0 lo = 0 ∧ HT.sIx xs.length xs.length hi = xs.length) : cutD ds lo hi = ds := by
  unfold cutD
  rw [← r.length, h.1, h.2, r.length]
  simp
theorem mo_slice {f : EF} {l h : PF} {e : Expr} {lo hi : Option Expr} {p2 : Pos} (hXK : X.K = c.K) (he : ME X c f e) (hl : MP X c l lo) (hh : MP X c h hi) : MO X c (oSlice f l h) (.Subscript e (.Slice lo hi none p2) pos) := by
  refine ⟨PE.imp (pe_slice (SlR.or sl_list sl_tupA) he.run hl.run hh.run) fun σ H Q q => ?_⟩
  obtain ⟨ξ, Y, s, tv, ts, hK, F, q⟩ := q
  refine tE_seq hK F q fun d s1 Y1 H1 v e1 F1 r1 q1 => ?_
  refine tP_seq hK F1 (out.mono c q1 e1 (fun _ _ z => z)) fun o s2 Y2 H2 e2 F2 q2 => ?_
  refine tP_seq hK F2 (out.mono c q2 e2 (fun _ _ z => z)) fun u s3 Y3 H3 e3 F3 q3 => ?_
  have r3 := (r1.mono e2).mono e3
  have lst : ∀ {p : Addr} {xs : List V} {ds : List D}, v = .ref p → SqL X.K H3 p xs → DrAll c.K Y3 xs ds → out c ξ Y2 σ tv ts (fun o s' => ∀ Y' H' v, Same Y Y' → FS ξ Y' H' σ s' (tv ++ [v]) (ts ++ [o]) → Q v H') (.ok (.ol (cutD ds o u)) s3) →
      rSlL X.K v o u H3 Q ∨ rSlA X.K v o u H3 Q := fun {p xs ds} ev hq hd q3 => by
    refine .inl ⟨p, xs, ev, hq, fun n hn => ?_⟩
    obtain ⟨e4, F4⟩ := (Gives.lst hn (hd.cutV o u)).fs hK F3
    exact q3 _ _ _ (((e1.trans e2).trans e3).trans e4) F4
  unfold sliceD at q3
  split at q3
  · obtain ⟨p, xs, ev, hq, hd⟩ := r3.list_inv
    exact lst ev (.inl (.inl (F3.sub _ _ hq))) hd q3
  · obtain ⟨p, xs, ev, hq, hd⟩ := r3.tuple_inv
    refine .inr ⟨p, xs, ev, hXK ▸ Same.sqt F3.sub hq, fun hw => ?_, fun hw n hn => ?_⟩
    · rw [cut_whole hd hw] at q3
      obtain ⟨e4, F4⟩ := (Gives.old r3).fs hK F3
      subst ev
      exact q3 _ _ _ (((e1.trans e2).trans e3).trans e4) F4
    · obtain ⟨e4, F4⟩ := (Gives.tup hn (hd.cutV o u)).fs hK F3
      exact q3 _ _ _ (((e1.trans e2).trans e3).trans e4) F4
  · obtain ⟨p, xs, ev, hq, hd⟩ := Dr.lock_inv r3
    exact lst ev (hXK ▸ F3.sub.seq hq) hd q3
  · exact q3.elim

/-! ### built-ins by values -/
def CallL (K : PySem.W.Frag) (r : List V → Hp → VK → Prop) (F : List D → Option OD) : Prop := ∀ (Y H : Hp) (Q : VK) (xs : List V) (ds : List D) (o : OD), Same Y H → DrAll K Y xs ds → F ds = some o → (∀ v Y' H', Gives K Y H v Y' H' o → Q v H') → r xs H Q
def oBlt (F : List D → Option OD) (g : AF) : OF := fun s => (g s).bind fun ds s => ofO (F ds) s
theorem blt_core {r : List V → Hp → VK → Prop} {F : List D → Option OD} (hF : CallL c.K r F) {g : AF} {σ : St} {H : Hp} {Q : VK} (q : tO c (oBlt F g) σ H Q) : tCB r (tA c g) σ H Q := by
  obtain ⟨ξ, Y, s, tv, ts, hK, Fr, q⟩ := q
  refine tA_seq hK Fr q fun ds s1 Y1 H1 vs e1 F1 r1 q1 => ?_
  unfold ofO at q1
  split at q1
  · rename_i o eo
    refine hF Y1 H1 Q vs ds o F1.sub r1 eo fun v Y' H' g => ?_
    obtain ⟨e3, F3⟩ := g.fs hK F1
    exact q1 Y' H' v (e1.trans e3) F3
  · exact q1.elim
section
variable {x : Str} {e : Expr} {es : List Expr} {g : AF} {id T : String} {r : List V → Hp → VK → Prop} {F : List D → Option OD}
theorem mo_blt (hc : CallR X (.builtin id) r) (hF : CallL c.K r F) (hg : Gl X x) (hm : X.mg x = none) (hv : bootBuiltins x = some (.builtin id)) (ha : MA X c g (e :: es)) (hn : x ≠ "__name__" := by decide) (hdb : (x == ("__debug__" : Str)) = false := by decide)
    (he : starEach (e :: es) X.env = (false, eval e X.env) :: starEach es X.env := by rfl) (hpl : (backTo pos (starEach es X.env)).any (·.1) = false := by rfl) : MO X c (oBlt F g) (.Call (.Name x p) (e :: es) [] pos) :=
  ⟨PE.imp (pe_callB hc hg hm hv ha.run hn hdb he hpl) fun _ _ _ q => blt_core hF q⟩
theorem mo_bty (hc : CallR X (.type T) r) (hF : CallL c.K r F) (hg : Gl X x) (hm : X.mg x = none) (hv : bootBuiltins x = some (.type T)) (ha : MA X c g (e :: es)) (hn : x ≠ "__name__" := by decide) (hdb : (x == ("__debug__" : Str)) = false := by decide)
    (he : starEach (e :: es) X.env = (false, eval e X.env) :: starEach es X.env := by rfl) (hpl : (backTo pos (starEach es X.env)).any (·.1) = false := by rfl) : MO X c (oBlt F g) (.Call (.Name x p) (e :: es) [] pos) :=
  ⟨PE.imp (pe_callTy hc hg hm hv ha.run hn hdb he hpl) fun _ _ _ q => blt_core hF q⟩
end
def one (F : D → Option OD) : List D → Option OD
  | [d] => F d
  | _ => none
theorem CallL.one {r : List V → Hp → VK → Prop} {F : D → Option OD} (h : ∀ (Y H : Hp) (Q : VK) (x : V) (d : D) (o : OD), Same Y H → Dr K Y x d → F d = some o → (∀ v Y' H', Gives K Y H v Y' H' o → Q v H') → r [x] H Q) : CallL K r (one F) := fun Y H Q xs ds o e ra q g => by
  cases ra with
  | nil => cases q
  | cons r1 rr =>
    cases rr with
    | nil => exact h Y H Q _ _ o e r1 q g
    | cons _ _ => cases q
def lenD : D → Option OD
  | .list xs => some (.fz (.int xs.length))
  | .tuple xs => some (.fz (.int xs.length))
  | .str x => if x.length ≤ sizeLine then some (.fz (.int x.length)) else none
  | _ => none
theorem lenD_ok (hXK : X.K = c.K) : CallL c.K (fun xs H Q => ∃ x n, xs = [x] ∧ LenV X.K x H n ∧ Q (.int n) H) (one lenD) := CallL.one fun Y H Q x d o e r q g => by
  unfold lenD at q
  split at q
  · cases q
    obtain ⟨p, us, rfl, h1, d1⟩ := r.list_inv
    exact ⟨_, us.length, rfl, .inl ⟨us, .inl (.inl (e _ _ h1)), rfl⟩, by rw [d1.length]; exact g _ _ _ (.old (.int _))⟩
  · cases q
    obtain ⟨p, us, rfl, h1, d1⟩ := r.tuple_inv
    exact ⟨_, us.length, rfl, .inr ⟨us, hXK ▸ Same.sqt e h1, rfl⟩, by rw [d1.length]; exact g _ _ _ (.old (.int _))⟩
  · split at q
    · rename_i hl
      cases q
      rw [r.str_inv]
      exact ⟨_, _, rfl, ⟨hl, rfl⟩, g _ _ _ (.old (.int _))⟩
    · cases q
  · cases q
theorem mo_len (hXK : X.K = c.K) (hg : Gl X "len") (hm : X.mg "len" = none) (ha : ME X c fa a) (he : starEach [a] X.env = (false, eval a X.env) :: starEach [] X.env := by rfl) (hpl : (backTo pos (starEach [] X.env)).any (·.1) = false := by rfl) :
    MO X c (oBlt (one lenD) (aCons fa aNil)) (.Call (.Name "len" p) [a] [] pos) := mo_blt call_len (lenD_ok hXK) hg hm PySem.boot_len (ma_cons ha ma_nil he) (by decide) (by decide) he hpl
def intB : D → Option OD
  | .int i => some (.fz (.int i))
  | .bool b => some (.fz (.int (if b = true then 1 else 0)))
  | _ => none
theorem mo_int (hg : Gl X "int") (hm : X.mg "int" = none) (ha : ME X c fa a) (he : starEach [a] X.env = (false, eval a X.env) :: starEach [] X.env := by rfl) (hpl : (backTo pos (starEach [] X.env)).any (·.1) = false := by rfl) :
    MO X c (oBlt (one intB) (aCons fa aNil)) (.Call (.Name "int" p) [a] [] pos) := mo_bty call_int1 (CallL.one fun Y H Q x d o e r q g => by
  unfold intB at q
  split at q
  · cases q
    rw [r.int_inv]
    exact .inl ⟨_, rfl, g _ _ _ (.old (.int _))⟩
  · cases q
    rw [r.bool_inv]
    exact .inr ⟨_, rfl, g _ _ _ (.old (.int _))⟩
  · cases q) hg hm (by decide +kernel) (ma_cons ha ma_nil he) (by decide) (by decide) he hpl
def absD : D → Option OD
  | .int i => some (.fz (.int (if i < 0 then -i else i)))
  | _ => none
theorem mo_abs (hg : Gl X "abs") (hm : X.mg "abs" = none) (ha : ME X c fa a) (he : starEach [a] X.env = (false, eval a X.env) :: starEach [] X.env := by rfl) (hpl : (backTo pos (starEach [] X.env)).any (·.1) = false := by rfl) :
    MO X c (oBlt (one absD) (aCons fa aNil)) (.Call (.Name "abs" p) [a] [] pos) := mo_blt call_abs (CallL.one fun Y H Q x d o e r q g => by
  unfold absD at q
  split at q
  · cases q
    rw [r.int_inv]
    exact ⟨_, rfl, g _ _ _ (.old (.int _))⟩
  · cases q) hg hm (by decide +kernel) (ma_cons ha ma_nil he) (by decide) (by decide) he hpl
def listD : D → Option OD
  | .list xs => some (.ol xs)
  | .tuple xs => some (.ol xs)
  | _ => none
theorem mo_list (hXK : X.K = c.K) (hg : Gl X "list") (hm : X.mg "list" = none) (ha : ME X c fa a) (he : starEach [a] X.env = (false, eval a X.env) :: starEach [] X.env := by rfl) (hpl : (backTo pos (starEach [] X.env)).any (·.1) = false := by rfl) :
    MO X c (oBlt (one listD) (aCons fa aNil)) (.Call (.Name "list" p) [a] [] pos) := mo_bty call_list_of (CallL.one fun Y H Q x d o e r q g => by
  unfold listD at q
  split at q
  · cases q
    obtain ⟨p, us, rfl, h1, d1⟩ := r.list_inv
    exact ⟨p, us, rfl, .inl (.inl (.inl (e _ _ h1))), fun n hn => g _ _ _ (.lst hn d1)⟩
  · cases q
    obtain ⟨p, us, rfl, h1, d1⟩ := r.tuple_inv
    exact ⟨p, us, rfl, .inr (hXK ▸ Same.sqt e h1), fun n hn => g _ _ _ (.lst hn d1)⟩
  · cases q) hg hm (by decide +kernel) (ma_cons ha ma_nil he) (by decide) (by decide) he hpl
def tupleD : D → Option OD
  | .list xs => some (.fz (.tuple xs))
  | .tuple xs => some (.fz (.tuple xs))
  | _ => none
theorem mo_tuple (hXK : X.K = c.K) (hg : Gl X "tuple") (hm : X.mg "tuple" = none) (ha : ME X c fa a) (he : starEach [a] X.env = (false, eval a X.env) :: starEach [] X.env := by rfl) (hpl : (backTo pos (starEach [] X.env)).any (·.1) = false := by rfl) :
    MO X c (oBlt (one tupleD) (aCons fa aNil)) (.Call (.Name "tuple" p) [a] [] pos) := mo_bty call_tuple_of (CallL.one fun Y H Q x d o e r q g => by
  unfold tupleD at q
  split at q
  · cases q
    obtain ⟨p, us, rfl, h1, d1⟩ := r.list_inv
    exact ⟨p, us, rfl, .inl ⟨.inl (.inl (e _ _ h1)), fun n hn => g _ _ _ (.tup hn d1)⟩⟩
  · cases q
    obtain ⟨p, us, rfl, h1, d1⟩ := r.tuple_inv
    exact ⟨p, us, rfl, .inr ⟨hXK ▸ Same.sqt e h1, g _ _ _ (.old r)⟩⟩
  · cases q) hg hm (by decide +kernel) (ma_cons ha ma_nil he) (by decide) (by decide) he hpl
/-! lists of ints, of bools -/
def asInts : List D → Option (List Int)
  | [] => some []
  | .int i :: r => (asInts r).map fun ns => i :: ns
  | _ => none
def asBools : List D → Option (List Bool)
  | [] => some []
  | .bool b :: r => (asBools r).map fun ns => b :: ns
  | _ => none
theorem asInts_map : ∀ ns : List Int, asInts (ns.map PyData.int) = some ns
  | [] => rfl
  | n :: ns => by rw [List.map_cons, asInts, asInts_map ns]; rfl
theorem asBools_map : ∀ ns : List Bool, asBools (ns.map PyData.bool) = some ns
  | [] => rfl
  | n :: ns => by rw [List.map_cons, asBools, asBools_map ns]; rfl
theorem asInts_vals : ∀ {vs : List V} {ds : List D} {ns : List Int}, DrAll K Y vs ds → asInts ds = some ns → vs = ns.map V.int
  | _, _, _, .nil, h => by cases h; rfl
  | _, _, _, .cons (d := d) a t, h => by
    cases d with
    | int i =>
      simp only [asInts, Option.map_eq_some_iff] at h
      obtain ⟨ms, h, rfl⟩ := h
      rw [a.int_inv, asInts_vals t h]; rfl
    | none => cases h
    | bool _ => cases h
    | str _ => cases h
    | list _ => cases h
    | tuple _ => cases h
    | dict _ => cases h
theorem asBools_vals : ∀ {vs : List V} {ds : List D} {ns : List Bool}, DrAll K Y vs ds → asBools ds = some ns → vs = ns.map V.bl
  | _, _, _, .nil, h => by cases h; rfl
  | _, _, _, .cons (d := d) a t, h => by
    cases d with
    | bool i =>
      simp only [asBools, Option.map_eq_some_iff] at h
      obtain ⟨ms, h, rfl⟩ := h
      rw [a.bool_inv, asBools_vals t h]; rfl
    | none => cases h
    | int _ => cases h
    | str _ => cases h
    | list _ => cases h
    | tuple _ => cases h
    | dict _ => cases h
def sumD : D → Option OD
  | .list xs => (asInts xs).map fun ns => .fz (.int ns.sum)
  | _ => none
theorem mo_sum (hc : X.calm = true) (hg : Gl X "sum") (hm : X.mg "sum" = none) (ha : ME X c fa a) (he : starEach [a] X.env = (false, eval a X.env) :: starEach [] X.env := by rfl) (hpl : (backTo pos (starEach [] X.env)).any (·.1) = false := by rfl) :
    MO X c (oBlt (one sumD) (aCons fa aNil)) (.Call (.Name "sum" p) [a] [] pos) := mo_blt (cr_sum hc) (CallL.one fun Y H Q x d o e r q g => by
  unfold sumD at q
  split at q
  · simp only [Option.map_eq_some_iff] at q
    obtain ⟨ns, q, rfl⟩ := q
    obtain ⟨p, us, rfl, h1, d1⟩ := r.list_inv
    have h2 := e _ _ h1
    rw [asInts_vals d1 q] at h2
    exact ⟨p, ns, rfl, .inl (.inl h2), g _ _ _ (.old (.int _))⟩
  · cases q) hg hm (by decide +kernel) (ma_cons ha ma_nil he) (by decide) (by decide) he hpl
/-- the greatest, the least of some ints -/
def maxI : Int → List Int → Int
  | m, [] => m
  | m, n :: ns => maxI (if m < n then n else m) ns
def minI : Int → List Int → Int
  | m, [] => m
  | m, n :: ns => minI (if n < m then n else m) ns
theorem maxI_ge : ∀ (ns : List Int) (m : Int), m ≤ maxI m ns ∧ ∀ n ∈ ns, n ≤ maxI m ns
  | [], m => ⟨Int.le_refl _, fun n h => by simp at h⟩
  | n :: ns, m => by
    have ih := maxI_ge ns (if m < n then n else m)
    have up : m ≤ (if m < n then n else m) ∧ n ≤ (if m < n then n else m) := by split <;> omega
    rw [maxI]
    refine ⟨Int.le_trans up.1 ih.1, fun k hk => ?_⟩
    rcases List.mem_cons.mp hk with rfl | hk
    · exact Int.le_trans up.2 ih.1
    · exact ih.2 k hk
theorem maxI_mem : ∀ (ns : List Int) (m : Int), maxI m ns = m ∨ maxI m ns ∈ ns
  | [], m => .inl rfl
  | n :: ns, m => by
    rw [maxI]
    rcases maxI_mem ns (if m < n then n else m) with h | h
    · rw [h]
      split
      · exact .inr (by simp)
      · exact .inl rfl
    · exact .inr (by simp [h])
theorem minI_le : ∀ (ns : List Int) (m : Int), minI m ns ≤ m ∧ ∀ n ∈ ns, minI m ns ≤ n
  | [], m => ⟨Int.le_refl _, fun n h => by simp at h⟩
  | n :: ns, m => by
    have ih := minI_le ns (if n < m then n else m)
    have up : (if n < m then n else m) ≤ m ∧ (if n < m then n else m) ≤ n := by split <;> omega
    rw [minI]
    refine ⟨Int.le_trans ih.1 up.1, fun k hk => ?_⟩
    rcases List.mem_cons.mp hk with rfl | hk
    · exact Int.le_trans ih.1 up.2
    · exact ih.2 k hk
theorem minI_mem : ∀ (ns : List Int) (m : Int), minI m ns = m ∨ minI m ns ∈ ns
  | [], m => .inl rfl
  | n :: ns, m => by
    rw [minI]
    rcases minI_mem ns (if n < m then n else m) with h | h
    · rw [h]
      split
      · exact .inr (by simp)
      · exact .inl rfl
    · exact .inr (by simp [h])
def extD (f : Int → List Int → Int) : D → Option OD
  | .list xs => match asInts xs with
    | some (n :: ns) => some (.fz (.int (f n ns)))
    | _ => none
  | _ => none
theorem mo_max (hc : X.calm = true) (hg : Gl X "max") (hm : X.mg "max" = none) (ha : ME X c fa a) (he : starEach [a] X.env = (false, eval a X.env) :: starEach [] X.env := by rfl) (hpl : (backTo pos (starEach [] X.env)).any (·.1) = false := by rfl) :
    MO X c (oBlt (one (extD maxI)) (aCons fa aNil)) (.Call (.Name "max" p) [a] [] pos) := mo_blt (cr_max hc) (CallL.one fun Y H Q x d o e r q g => by
  unfold extD at q
  split at q
  · rename_i xs
    split at q
    · rename_i n ns ei
      cases q
      obtain ⟨p, us, rfl, h1, d1⟩ := r.list_inv
      have h2 := e _ _ h1
      rw [asInts_vals d1 ei] at h2
      refine ⟨p, n :: ns, rfl, .inl (.inl h2), by simp, fun m hm hall => ?_⟩
      have e : m = maxI n ns := by
        have h3 := maxI_ge ns n
        have h4 : maxI n ns ≤ m := by
          rcases maxI_mem ns n with z | z
          · rw [z]; exact hall n (by simp)
          · exact hall _ (by simp [z])
        have h5 : m ≤ maxI n ns := by
          rcases List.mem_cons.mp hm with z | z
          · rw [z]; exact h3.1
          · exact h3.2 m z
        omega
      rw [e]
      exact g _ _ _ (.old (.int _))
    · cases q
  · cases q) hg hm (by decide +kernel) (ma_cons ha ma_nil he) (by decide) (by decide) he hpl
theorem mo_min (hc : X.calm = true) (hg : Gl X "min") (hm : X.mg "min" = none) (ha : ME X c fa a) (he : starEach [a] X.env = (false, eval a X.env) :: starEach [] X.env := by rfl) (hpl : (backTo pos (starEach [] X.env)).any (·.1) = false := by rfl) :
    MO X c (oBlt (one (extD minI)) (aCons fa aNil)) (.Call (.Name "min" p) [a] [] pos) := mo_blt (cr_min hc) (CallL.one fun Y H Q x d o e r q g => by
  unfold extD at q
  split at q
  · rename_i xs
    split at q
    · rename_i n ns ei
      cases q
      obtain ⟨p, us, rfl, h1, d1⟩ := r.list_inv
      have h2 := e _ _ h1
      rw [asInts_vals d1 ei] at h2
      refine ⟨p, n :: ns, rfl, .inl (.inl h2), by simp, fun m hm hall => ?_⟩
      have e : m = minI n ns := by
        have h3 := minI_le ns n
        have h4 : m ≤ minI n ns := by
          rcases minI_mem ns n with z | z
          · rw [z]; exact hall n (by simp)
          · exact hall _ (by simp [z])
        have h5 : minI n ns ≤ m := by
          rcases List.mem_cons.mp hm with z | z
          · rw [z]; exact h3.1
          · exact h3.2 m z
        omega
      rw [e]
      exact g _ _ _ (.old (.int _))
    · cases q
  · cases q) hg hm (by decide +kernel) (ma_cons ha ma_nil he) (by decide) (by decide) he hpl
def two (F : D → D → Option OD) : List D → Option OD
  | [d, e] => F d e
  | _ => none
theorem CallL.two {r : List V → Hp → VK → Prop} {F : D → D → Option OD} (h : ∀ (Y H : Hp) (Q : VK) (x y : V) (d d' : D) (o : OD), Same Y H → Dr K Y x d → Dr K Y y d' → F d d' = some o → (∀ v Y' H', Gives K Y H v Y' H' o → Q v H') → r [x, y] H Q) : CallL K r (two F) := fun Y H Q xs ds o e ra q g => by
  cases ra with
  | nil => cases q
  | cons r1 rr =>
    cases rr with
    | nil => cases q
    | cons r2 rr =>
      cases rr with
      | nil => exact h Y H Q _ _ _ _ o e r1 r2 q g
      | cons _ _ => cases q
def max2D : D → D → Option OD
  | .int i, .int j => some (.fz (.int (if j > i then j else i)))
  | _, _ => none
def min2D : D → D → Option OD
  | .int i, .int j => some (.fz (.int (if j < i then j else i)))
  | _, _ => none
theorem mo_max2 (hc : X.calm = true) (hg : Gl X "max") (hm : X.mg "max" = none) (ha : ME X c fa a) (hb : ME X c fb b) (he : starEach [a, b] X.env = (false, eval a X.env) :: starEach [b] X.env := by rfl) (he2 : starEach [b] X.env = (false, eval b X.env) :: starEach [] X.env := by rfl) (hpl : (backTo pos (starEach [b] X.env)).any (·.1) = false := by rfl) :
    MO X c (oBlt (two max2D) (aCons fa (aCons fb aNil))) (.Call (.Name "max" p) [a, b] [] pos) := mo_blt (call_max2 hc) (CallL.two fun Y H Q x y d d' o e r r' q g => by
  unfold max2D at q
  split at q
  · cases q
    rw [r.int_inv, r'.int_inv]
    exact ⟨_, _, rfl, g _ _ _ (.old (.int _))⟩
  · cases q) hg hm (by decide +kernel) (ma_cons ha (ma_cons hb ma_nil he2) he) (by decide) (by decide) he hpl
theorem mo_min2 (hc : X.calm = true) (hg : Gl X "min") (hm : X.mg "min" = none) (ha : ME X c fa a) (hb : ME X c fb b) (he : starEach [a, b] X.env = (false, eval a X.env) :: starEach [b] X.env := by rfl) (he2 : starEach [b] X.env = (false, eval b X.env) :: starEach [] X.env := by rfl) (hpl : (backTo pos (starEach [b] X.env)).any (·.1) = false := by rfl) :
    MO X c (oBlt (two min2D) (aCons fa (aCons fb aNil))) (.Call (.Name "min" p) [a, b] [] pos) := mo_blt (call_min2 hc) (CallL.two fun Y H Q x y d d' o e r r' q g => by
  unfold min2D at q
  split at q
  · cases q
    rw [r.int_inv, r'.int_inv]
    exact ⟨_, _, rfl, g _ _ _ (.old (.int _))⟩
  · cases q) hg hm (by decide +kernel) (ma_cons ha (ma_cons hb ma_nil he2) he) (by decide) (by decide) he hpl
def boolsD (f : List Bool → Bool) : D → Option OD
  | .list xs => (asBools xs).map fun bs => .fz (.bool (f bs))
  | _ => none
theorem mo_all (hc : X.calm = true) (hg : Gl X "all") (hm : X.mg "all" = none) (ha : ME X c fa a) (he : starEach [a] X.env = (false, eval a X.env) :: starEach [] X.env := by rfl) (hpl : (backTo pos (starEach [] X.env)).any (·.1) = false := by rfl) :
    MO X c (oBlt (one (boolsD fun bs => bs.all id)) (aCons fa aNil)) (.Call (.Name "all" p) [a] [] pos) := mo_blt (cr_all hc) (CallL.one fun Y H Q x d o e r q g => by
  unfold boolsD at q
  split at q
  · simp only [Option.map_eq_some_iff] at q
    obtain ⟨ns, q, rfl⟩ := q
    obtain ⟨p, us, rfl, h1, d1⟩ := r.list_inv
    have h2 := e _ _ h1
    rw [asBools_vals d1 q] at h2
    exact ⟨p, ns, rfl, .inl (.inl h2), g _ _ _ (.old (.bl _))⟩
  · cases q) hg hm (by decide +kernel) (ma_cons ha ma_nil he) (by decide) (by decide) he hpl
theorem mo_any (hc : X.calm = true) (hg : Gl X "any") (hm : X.mg "any" = none) (ha : ME X c fa a) (he : starEach [a] X.env = (false, eval a X.env) :: starEach [] X.env := by rfl) (hpl : (backTo pos (starEach [] X.env)).any (·.1) = false := by rfl) :
    MO X c (oBlt (one (boolsD fun bs => bs.any id)) (aCons fa aNil)) (.Call (.Name "any" p) [a] [] pos) := mo_blt (cr_any hc) (CallL.one fun Y H Q x d o e r q g => by
  unfold boolsD at q
  split at q
  · simp only [Option.map_eq_some_iff] at q
    obtain ⟨ns, q, rfl⟩ := q
    obtain ⟨p, us, rfl, h1, d1⟩ := r.list_inv
    have h2 := e _ _ h1
    rw [asBools_vals d1 q] at h2
    exact ⟨p, ns, rfl, .inl (.inl h2), g _ _ _ (.old (.bl _))⟩
  · cases q) hg hm (by decide +kernel) (ma_cons ha ma_nil he) (by decide) (by decide) he hpl

/-! ### repr -/
mutual
theorem plain_noDict : ∀ d : D, plain d = true → d.hasDict = false
  | .none, _ => by simp [PyData.hasDict]
  | .bool _, _ => by simp [PyData.hasDict]
  | .int _, _ => by simp [PyData.hasDict]
  | .str _, _ => by simp [PyData.hasDict]
  | .list ds, h => by
    simp only [PyData.hasDict]
    exact plainAll_noDict ds (by simpa [plain] using h)
  | .tuple ds, h => by
    simp only [PyData.hasDict]
    exact plainAll_noDict ds (by simpa [plain] using h)
  | .dict _, h => by simp [plain] at h
theorem plainAll_noDict : ∀ ds : List D, plainAll ds = true → PyData.hasDictAll ds = false
  | [], _ => by simp [PyData.hasDictAll]
  | d :: ds, h => by
    rw [plainAll, Bool.and_eq_true] at h
    simp only [PyData.hasDictAll]
    rw [plain_noDict d h.1, plainAll_noDict ds h.2]
    rfl
end
def ReprOk (d : D) : Prop := plain d = true ∧ PyData.showable d = true ∧ d.depth ≤ 60 ∧ d.shown.length ≤ sizeLine
instance (d : D) : Decidable (ReprOk d) := inferInstanceAs (Decidable (_ ∧ _ ∧ _ ∧ _))
theorem call_repr_data (hG : X.A.guards = some []) (hu : X.A.units + 64 < cLine) : CallR X (.builtin "repr") (fun xs H Q => ∃ x d, xs = [x] ∧ Dp X.K H x d ∧ ReprOk d ∧ Q (.str d.shown) H) := by
  intro pins s σ H xs us Q I r h
  obtain ⟨x, d, rfl, hd, ⟨hp, hs, hdp, hz⟩, q⟩ := h
  cases r with
  | cons rx rr =>
    cases rr
    obtain ⟨as, rd⟩ := Dp.reads I d x _ hd rx
    have obj : ∀ a, x = .ref a → wpAny (model X.prog X.w) X.A (call (.builtin "repr") [.ref a]) (EP X pins σ Q) X.xe s := by
      rintro a rfl
      cases rx
      exact repr_of_reads' rd hs (PyData.noDict_hsm (plain_noDict d hp)) hG (by omega) (fun _ _ e => e) (fun h' u tk hk => ⟨.str _, H, I.kept hk, ⟨_, rfl⟩, q⟩) hz
    cases hd with
    | non =>
      cases rx
      exact PySem.P.repr_of_none ⟨.str _, H, I.tok _, ⟨_, rfl⟩, q⟩
    | bl b =>
      cases rx
      exact PySem.P.repr_of_bool ⟨.str _, H, I.tok _, ⟨_, rfl⟩, by
        simp only [PyData.shown] at q
        cases b <;> exact q⟩
    | int i =>
      obtain ⟨t, rfl⟩ := rx
      exact PySem.P.repr_of_int (by simpa [PyData.showable] using hs) ⟨.str _, H, I.tok _, ⟨_, rfl⟩, q⟩
    | str y =>
      obtain ⟨t, rfl⟩ := rx
      exact PySem.P.repr_of_str ⟨.str _, H, I.tok _, ⟨_, rfl⟩, q⟩ hz
    | lst _ _ =>
      cases rx
      exact obj _ rfl
    | tup _ _ =>
      cases rx
      exact obj _ rfl
def reprD (d : D) : Option OD := if ReprOk d then some (.fz (.str d.shown)) else none
theorem mo_repr (hXK : X.K = c.K) (hG : X.A.guards = some []) (hu : X.A.units + 64 < cLine) (hg : Gl X "repr") (hm : X.mg "repr" = none) (ha : ME X c fa a) (he : starEach [a] X.env = (false, eval a X.env) :: starEach [] X.env := by rfl) (hpl : (backTo pos (starEach [] X.env)).any (·.1) = false := by rfl) :
    MO X c (oBlt (one reprD) (aCons fa aNil)) (.Call (.Name "repr" p) [a] [] pos) := mo_blt (call_repr_data hG hu) (CallL.one fun Y H Q x d o e r q g => by
  unfold reprD at q
  split at q
  · rename_i hk
    cases q
    exact ⟨x, d, rfl, hXK ▸ r.dp e hk.1, hk, g _ _ _ (.old (.str _))⟩
  · cases q) hg hm (by decide +kernel) (ma_cons ha ma_nil he) (by decide) (by decide) he hpl

/-! ### isinstance -/
def kindS : D → String
  | .none => "NoneType"
  | .bool _ => "bool"
  | .int _ => "int"
  | .str _ => "str"
  | .list _ => "list"
  | .tuple _ => "tuple"
  | .dict [(.none, .list _)] => "?"
  | .dict _ => "dict"
def isiF (T : String) (d : D) : Option Bool := match d with
  | .dict _ => none
  | d => kitB (kindS d) T
theorem Dr.tyx {v : V} {d : D} {T : String} {b : Bool} (e : Same Y H) (r : Dr K Y v d) (h : isiF T d = some b) : TyX K H v (.type (kindS d)) ∧ kitB (kindS d) T = some b := by
  cases r with
  | non => exact ⟨.base .non, h⟩
  | bl b => exact ⟨.base (.bl b), h⟩
  | int i => exact ⟨.base (.int i), h⟩
  | str x => exact ⟨.base (.str x), h⟩
  | lst h1 _ => exact ⟨.base (.lst (e _ _ h1)), h⟩
  | lck _ _ => cases h
  | tup h1 _ =>
    refine ⟨?_, h⟩
    rcases h1 with (h1 | ⟨o, h1⟩) | ⟨o, its, n, h1, h2, _⟩
    · exact .base (.tup (e _ _ h1))
    · exact .fTuple (e _ _ h1)
    · exact .kTuple h1 h2
  | dk _ _ => cases h
  | dt _ _ => cases h
def eIsi (T : String) (f : EF) : EF := fun s => (f s).bind fun d s => (ofO (isiF T d) s).bind fun b s => .ok (.bool b) s
theorem me_isi {T : String} {x : Str} {p2 : Pos} (hXK : X.K = c.K) (hg : Gl X "isinstance") (hm : X.mg "isinstance" = none) (hg2 : Gl X x) (hm2 : X.mg x = none) (hv : bootBuiltins x = some (.type T)) (hn : x ≠ "__name__") (hdb : (x == ("__debug__" : Str)) = false) (ha : ME X c fa a)
    (he : starEach [a, .Name x p2] X.env = (false, eval a X.env) :: starEach [.Name x p2] X.env := by rfl) (he2 : starEach [.Name x p2] X.env = (false, eval (.Name x p2) X.env) :: starEach [] X.env := by rfl) (hpl : (backTo pos (starEach [.Name x p2] X.env)).any (·.1) = false := by rfl) :
    ME X c (eIsi T fa) (.Call (.Name "isinstance" p) [a, .Name x p2] [] pos) := by
  refine ⟨PE.imp (pe_callB call_isi hg hm (by decide +kernel) (pa_cons ha.run (pa_cons (pe_bltn (v := .ty T) hg2 hm2 hv rfl hn hdb) pa_nil he2) he) (by decide) (by decide) he hpl) fun σ H Q q => ?_⟩
  obtain ⟨ξ, Y, s, tv, ts, hK, F, q⟩ := q
  refine tE_seq hK F q fun d s1 Y1 H1 v e1 F1 r1 q1 => ?_
  cases eb : isiF T d with
  | none => rw [eb] at q1; exact q1.elim
  | some b =>
    rw [eb] at q1
    obtain ⟨t1, t2⟩ := r1.tyx F1.sub eb
    exact ⟨v, .ty T, .type (kindS d), .type T, b, rfl, .ty T, hXK ▸ t1, kit_ty t2, q1 Y1 H1 _ e1 F1 (.bl b)⟩

end
/-! ### list(reversed(x)) -/
section
open PyProof.Rows
theorem get_push_ne {h : Heap} {b : Addr} {o u : Obj} (n : b ≠ h.objs.size) (e : (h.push u).get? b = some o) : h.get? b = some o := by
  obtain ⟨e1, e2⟩ := Heap.get?_some_iff.mp e
  refine Heap.get?_some_iff.mpr ⟨?_, e2⟩
  cases h
  simpa [Heap.push, Array.getElem?_push, n] using e1
theorem pe_listRev {X : Cx} {e : Expr} {te : TE} {p p2 pos pos2 : Pos} (hc : X.calm = true) (hg : Gl X "list") (hm : X.mg "list" = none) (hg2 : Gl X "reversed") (hm2 : X.mg "reversed" = none) (he : PE X e te)
    (hs : starEach [e] X.env = (false, eval e X.env) :: starEach [] X.env := by rfl)
    (hs2 : starEach [.Call (.Name "reversed" p2) [e] [] pos2] X.env = (false, eval (.Call (.Name "reversed" p2) [e] [] pos2) X.env) :: starEach [] X.env := by rfl) :
    PE X (.Call (.Name "list" p) [.Call (.Name "reversed" p2) [e] [] pos2] [] pos) (fun σ H Q => te σ H fun v H1 => ∃ (a : Addr) (xs : List V), v = .ref a ∧ SqL X.K H1 a xs ∧ ∀ q, H1 q = none → Q (.ref q) (upd H1 q (.lst xs.reverse))) := by
  constructor
  intro pins s σ H Q I h
  refine Call_ (ld_blt I hg hm boot_list (callWith_type1 (args_cons (Call_ (ld_blt I hg2 hm2 boot_reversed (callWith_type1 (args_cons (thn (he.run pins s σ H _ I h) ?_) hs) hs rfl))) hs2) hs2 rfl))
  rintro u s1 ⟨v, H1, I1, r1, a, xs, ev, hq, q⟩
  subst ev
  obtain rfl : u = Value.ref a := r1
  obtain ⟨its, rv, p', hz⟩ := I1.list hq
  have isl := p'.isList
  refine args_nil (call_reversed_list isl (args_nil ?_))
  let sp := s1.heap.push (revObj a ((its.toArray.size : Int) - 1))
  have I2 : Inv X pins σ H1 { s1 with heap := sp } := I1.kept (t' := s1.toks) fun b o e => Heap.get?_push_of_some _ e
  obtain ⟨f0, f1, f2, f3, f4, f5⟩ := I1.fpOk (H' := H1) (b := s1.heap.objs.size) (Nat.le_refl _) (I1.hok.fresh (Nat.le_refl _))
  obtain ⟨ol, hol, _⟩ := id isl
  have ne : a ≠ s1.heap.objs.size := Nat.ne_of_lt (Heap.lt_size hol)
  have few : its.toArray.size ≤ sizeLine := by rw [List.size_toArray, ← rv.length]; exact hz
  refine list_of_rev (s := { s1 with heap := sp }) (I1.ok.hd hc) ⟨_, Heap.get?_push_size _ rfl, rfl, rfl⟩ (isl.push _) ne few ?_
  intro h' tk acc c' hk hS hi
  have fr : H1 sp.objs.size = none := I2.hok.fresh (Nat.le_refl _)
  have nS : sp.objs.size ≠ s1.heap.objs.size := by
    show (s1.heap.push _).objs.size ≠ _
    rw [Heap.size_push]; omega
  let o1 : Obj := { cls := .type "list", dict := none, data := .seq acc c', slots := #[] }
  have I4 : Inv X pins σ (upd H1 sp.objs.size (.lst xs.reverse)) { s1 with heap := sp.push o1 } := I2.laid (t' := s1.toks) (fun b o e => Heap.get?_push_of_some _ e) (Nat.le_refl _)
    ⟨by rw [List.length_reverse]; exact hz, acc.toList, c', RT.vals_rev rv hi, by rw [Array.toArray_toList]; exact Heap.get?_push_size _ rfl⟩
  have kept : ∀ b o, b ≠ s1.heap.objs.size → (sp.push o1).get? b = some o → h'.get? b = some o := fun b o hb e => by
    by_cases z : b = sp.objs.size
    · subst z
      rw [Heap.get?_push_size _ rfl] at e
      cases e
      exact hS
    · refine hk b o hb ?_
      show sp.get? b = some o
      exact get_push_ne z e
  have I5 := Inv.turned (s := { s1 with heap := sp.push o1 }) (h' := h') (it := s1.heap.objs.size) (t' := tk) I4 kept (by rw [upd_ne nS.symm]; exact f0) f1 f3 f4 f5
  exact ⟨.ref sp.objs.size, _, I5, rfl, q _ fr⟩
end
section
variable {X : Cx} {c : Ct} {K : PySem.W.Frag} {ξ : Fx} {Y H : Hp} {σ : St} {s : S} {tv : List V} {ts : List OD}
variable {fa fb : EF} {a b : Expr} {p pos : Pos}
def revD : D → Option OD
  | .list xs => some (.ol xs.reverse)
  | _ => none
theorem mo_listRev {p2 pos2 : Pos} (hc : X.calm = true) (hg : Gl X "list") (hm : X.mg "list" = none) (hg2 : Gl X "reversed") (hm2 : X.mg "reversed" = none) (ha : ME X c fa a)
    (hs : starEach [a] X.env = (false, eval a X.env) :: starEach [] X.env := by rfl)
    (hs2 : starEach [.Call (.Name "reversed" p2) [a] [] pos2] X.env = (false, eval (.Call (.Name "reversed" p2) [a] [] pos2) X.env) :: starEach [] X.env := by rfl) :
    MO X c (oOp1 revD fa) (.Call (.Name "list" p) [.Call (.Name "reversed" p2) [a] [] pos2] [] pos) := by
  refine ⟨PE.imp (pe_listRev hc hg hm hg2 hm2 ha.run hs hs2) fun σ H Q q => ?_⟩
  obtain ⟨ξ, Y, s, tv, ts, hK, F, q⟩ := q
  refine tE_seq hK F q fun d s1 Y1 H1 v e1 F1 r1 q1 => ?_
  unfold ofO revD at q1
  cases d with
  | list ds =>
    obtain ⟨p, us, rfl, h1, d1⟩ := r1.list_inv
    refine ⟨p, us, rfl, .inl (.inl (F1.sub _ _ h1)), fun n hn => ?_⟩
    obtain ⟨e4, F4⟩ := (Gives.lst hn d1.reverse).fs hK F1
    exact q1 _ _ _ (e1.trans e4) F4
  | none => exact q1.elim
  | bool _ => exact q1.elim
  | int _ => exact q1.elim
  | str _ => exact q1.elim
  | tuple _ => exact q1.elim
  | dict _ => exact q1.elim
/-! ### list(range(..)) -/
instance (a b : Int) : Decidable (RgOk a b) := inferInstanceAs (Decidable (_ ∧ _ ∧ _ ∧ _ ∧ _))
def oListRg1 (f : EF) : OF := fun s => (f s).bind fun d s => match d with
  | .int n => if RgOk 0 n then .ok (.ol (upto 0 n.toNat)) s else .bad
  | _ => .bad
theorem DrAll.upto {lo : Int} : ∀ (l : List Nat), DrAll K Y (l.map fun i : Nat => V.int (lo + (i : Int))) (l.map fun i : Nat => PyData.int (lo + (i : Int)))
  | [] => .nil
  | i :: l => .cons (.int _) (DrAll.upto l)
theorem mo_listRg1 {p2 pos2 : Pos} (hc : X.calm = true) (hg : Gl X "list") (hm : X.mg "list" = none) (hg2 : Gl X "range") (hm2 : X.mg "range" = none) (ha : ME X c fa a)
    (na : starEach [a] X.env = (false, eval a X.env) :: starEach [] X.env := by rfl) (na2 : starEach [.Call (.Name "range" p2) [a] [] pos2] X.env = (false, eval (.Call (.Name "range" p2) [a] [] pos2) X.env) :: starEach [] X.env := by rfl) :
    MO X c (oListRg1 fa) (.Call (.Name "list" p) [.Call (.Name "range" p2) [a] [] pos2] [] pos) := by
  refine ⟨PE.imp (pe_listRg hc hg hm (prg_1 hg2 hm2 ha.run na) na2) fun σ H Q q => ?_⟩
  obtain ⟨ξ, Y, s, tv, ts, hK, F, q⟩ := q
  refine tE_seq hK F q fun d s1 Y1 H1 v e1 F1 r1 q1 => ?_
  cases d with
  | int n =>
    simp only at q1
    split at q1
    · rename_i hn
      refine ⟨n, r1.int_inv, hn, fun k hk => ?_⟩
      have e2 : rgV 0 n = (List.range n.toNat).map fun i : Nat => V.int (0 + (i : Int)) := by unfold rgV; simp
      rw [e2]
      obtain ⟨e4, F4⟩ := (Gives.lst hk (DrAll.upto (lo := 0) (List.range n.toNat))).fs hK F1
      exact q1 _ _ _ (e1.trans e4) F4
    · exact q1.elim
  | none => exact q1.elim
  | bool _ => exact q1.elim
  | str _ => exact q1.elim
  | list _ => exact q1.elim
  | tuple _ => exact q1.elim
  | dict _ => exact q1.elim

/-! ### methods of owned lists -/
def eAppend (i : Nat) (f : EF) : EF := fun s => match s[i]? with
  | some (some (.ol _)) => (f s).bind fun d s1 => match s1[i]? with
    | some (some (.ol ds)) => if ds.length < sizeLine then .ok .none (s1.set i (some (.ol (ds ++ [d])))) else .bad
    | _ => .bad
  | _ => .bad
theorem me_append {i : Nat} {o : Expr} {apos : Pos} (ho : PE X o (tVar i)) (ha : ME X c fa a)
    (hbase : attributeBase o "append" X.env (eval o X.env) = eval o X.env := by rfl)
    (hfew : ((backTo pos (starEach [a] X.env)).all (fun x => !x.1) && (backToKw pos (keywordEach [] X.env)).all (fun x => x.1.isSome)
      && decide (([a] : List Expr).length + ([] : List Keyword).length + (if ([] : List Keyword).isEmpty then 0 else 1) < 30)) = true := by rfl)
    (hline : (apos.endLine == pos.line) = true := by rfl) (hs : starEach [a] X.env = (false, eval a X.env) :: starEach [] X.env := by rfl) (hplain : (backTo pos (starEach [] X.env)).any (·.1) = false := by rfl) :
    ME X c (eAppend i fa) (.Call (.Attribute o "append" apos) [a] [] pos) := by
  refine ⟨PE.imp (pe_bm PySem.F.plainAttrs_list PySem.F.slot_list_append PySem.F.type_list_append mt_append ho (pa_cons ha.run pa_nil hs) hbase hfew hline hs hplain) fun σ H Q q => ?_⟩
  obtain ⟨ξ, Y, s, tv, ts, hK, F, q⟩ := q
  unfold eAppend at q
  split at q
  rotate_left
  · exact q.elim
  rename_i ds0 e0
  obtain ⟨p, vs, hv, hp, _, _⟩ := F.listS e0
  refine ⟨.ref p, hv, .inl ⟨rfl, vs, .inl (.inl hp)⟩, ?_⟩
  refine tE_seq hK F q fun d s1 Y1 H1 v e1 F1 r1 q1 => ?_
  split at q1
  rotate_left
  · exact q1.elim
  rename_i ds1 e2
  split at q1
  rotate_left
  · exact q1.elim
  rename_i hsz
  obtain ⟨p', vs', hv', hp', hd', wr⟩ := F1.listS e2
  rw [hv] at hv'
  cases hv'
  exact ⟨p, vs', v, rfl, rfl, hp', by rw [hd'.length]; exact hsz, q1 Y1 _ _ e1 (wr _ _ (hd'.append (.cons (hK ▸ r1) .nil))) .non⟩
def eExtend (i : Nat) (f : EF) : EF := fun s => match s[i]? with
  | some (some (.ol _)) => (f s).bind fun d s1 => match d, s1[i]? with
    | .list es, some (some (.ol ds)) => if ds.length + es.length ≤ sizeLine then .ok .none (s1.set i (some (.ol (ds ++ es)))) else .bad
    | _, _ => .bad
  | _ => .bad
theorem me_extend {i : Nat} {o : Expr} {apos : Pos} (ho : PE X o (tVar i)) (ha : ME X c fa a)
    (hbase : attributeBase o "extend" X.env (eval o X.env) = eval o X.env := by rfl)
    (hfew : ((backTo pos (starEach [a] X.env)).all (fun x => !x.1) && (backToKw pos (keywordEach [] X.env)).all (fun x => x.1.isSome)
      && decide (([a] : List Expr).length + ([] : List Keyword).length + (if ([] : List Keyword).isEmpty then 0 else 1) < 30)) = true := by rfl)
    (hline : (apos.endLine == pos.line) = true := by rfl) (hs : starEach [a] X.env = (false, eval a X.env) :: starEach [] X.env := by rfl) (hplain : (backTo pos (starEach [] X.env)).any (·.1) = false := by rfl) :
    ME X c (eExtend i fa) (.Call (.Attribute o "extend" apos) [a] [] pos) := by
  refine ⟨PE.imp (pe_bm PySem.F.plainAttrs_list PySem.F.slot_list_extend PySem.F.type_list_extend mt_extend ho (pa_cons ha.run pa_nil hs) hbase hfew hline hs hplain) fun σ H Q q => ?_⟩
  obtain ⟨ξ, Y, s, tv, ts, hK, F, q⟩ := q
  unfold eExtend at q
  split at q
  rotate_left
  · exact q.elim
  rename_i ds0 e0
  obtain ⟨p, vs, hv, hp, _, _⟩ := F.listS e0
  refine ⟨.ref p, hv, .inl ⟨rfl, vs, .inl (.inl hp)⟩, ?_⟩
  refine tE_seq hK F q fun d s1 Y1 H1 v e1 F1 r1 q1 => ?_
  split at q1
  rotate_left
  · exact q1.elim
  rename_i es ds1 e2
  split at q1
  rotate_left
  · exact q1.elim
  rename_i hsz
  obtain ⟨p', vs', hv', hp', hd', wr⟩ := F1.listS e2
  rw [hv] at hv'
  cases hv'
  obtain ⟨b, zs, rfl, hb, hz⟩ := r1.list_inv
  exact ⟨p, b, vs', zs, rfl, rfl, hp', F1.sub _ _ hb, by rw [hd'.length, hz.length]; exact hsz, q1 Y1 _ _ e1 (wr _ _ (hd'.append (hK ▸ hz))) .non⟩
/-- x.pop() -/
def ePop (i : Nat) : EF := fun s => match s[i]? with
  | some (some (.ol ds)) => match ds[ds.length - 1]? with
    | some d => .ok d (s.set i (some (.ol ds.dropLast)))
    | none => .bad
  | _ => .bad
theorem me_pop {i : Nat} {o : Expr} {apos : Pos} (ho : PE X o (tVar i)) (hbase : attributeBase o "pop" X.env (eval o X.env) = eval o X.env := by rfl) (hline : (apos.endLine == pos.line) = true := by rfl) :
    ME X c (ePop i) (.Call (.Attribute o "pop" apos) [] [] pos) := by
  refine ⟨PE.imp (pe_bm0 PySem.F.plainAttrs_list PySem.F.slot_list_pop PySem.F.type_list_pop mt_pop ho hbase hline) fun σ H Q q => ?_⟩
  obtain ⟨ξ, Y, s, tv, ts, hK, F, q⟩ := q
  unfold ePop at q
  split at q
  rotate_left
  · exact q.elim
  rename_i ds e0
  split at q
  rotate_left
  · exact q.elim
  rename_i d ed
  obtain ⟨p, vs, hv, hp, hd, wr⟩ := F.listS e0
  obtain ⟨v, ev, rv⟩ := hd.get ed
  exact ⟨.ref p, hv, .inl ⟨rfl, vs, .inl (.inl hp)⟩, p, vs, v, rfl, rfl, hp, by rw [hd.length]; exact ev, q Y _ _ (Same.refl _) (wr _ _ hd.dropLast) (hK ▸ rv)⟩
/-! ### items of owned lists of owned things: x[k], k written -/
/-- x[k] as a place -/
theorem pe_place {i : Nat} {k : Int} {o : Expr} {j : Nat} {kp : Pos} (ho : PE X o (tVar i)) : PE X (.Subscript o (.Constant (.int k) j kp) pos) (fun σ H Q => ∃ p vs v, σ[i]? = some (some (.ref p)) ∧ H p = some (.lst vs) ∧ atI vs k = some v ∧ Q v H) :=
  PE.imp (pe_ix ix_list ho pe_int (fun _ _ => rfl)) fun σ H Q ⟨p, vs, v, h1, h2, h3, q⟩ => ⟨.ref p, h1, p, vs, k, v, rfl, rfl, .inl (.inl h2), h3, q⟩
def ePopN (i k : Nat) : EF := fun s => match s[i]? with
  | some (some (.on os)) => match os[k]? with
    | some (.ol ds) => match ds[ds.length - 1]? with
      | some d => .ok d (s.set i (some (.on (os.set k (.ol ds.dropLast)))))
      | none => .bad
    | _ => .bad
  | _ => .bad
theorem me_popN {i k : Nat} {o : Expr} {apos : Pos} (ho : PE X o (fun σ H Q => ∃ p vs v, σ[i]? = some (some (.ref p)) ∧ H p = some (.lst vs) ∧ atI vs (k : Int) = some v ∧ Q v H)) (hbase : attributeBase o "pop" X.env (eval o X.env) = eval o X.env := by rfl) (hline : (apos.endLine == pos.line) = true := by rfl) :
    ME X c (ePopN i k) (.Call (.Attribute o "pop" apos) [] [] pos) := by
  refine ⟨PE.imp (pe_bm0 PySem.F.plainAttrs_list PySem.F.slot_list_pop PySem.F.type_list_pop mt_pop ho hbase hline) fun σ H Q q => ?_⟩
  obtain ⟨ξ, Y, s, tv, ts, hK, F, q⟩ := q
  unfold ePopN at q
  split at q
  rotate_left
  · exact q.elim
  rename_i os e0
  split at q
  rotate_left
  · exact q.elim
  rename_i ds e1
  split at q
  rotate_left
  · exact q.elim
  rename_i d ed
  obtain ⟨p, vs, n, ws, h1, h2, h3, h4, h5, hd, wr⟩ := F.nestList e0 e1
  obtain ⟨v, ev, rv⟩ := hd.get ed
  exact ⟨p, vs, .ref n, h1, h2, atI_nat h4, .inl ⟨rfl, ws, .inl (.inl h5)⟩, n, ws, v, rfl, rfl, h5, by rw [hd.length]; exact ev, q Y _ _ (Same.refl _) (wr _ _ hd.dropLast) (hK ▸ rv)⟩
/-- x[k] of a leaf -/
def eItemN (i k : Nat) : EF := fun s => match s[i]? with
  | some (some (.on os)) => match os[k]? with
    | some (.fz d) => .ok d s
    | _ => .bad
  | _ => .bad
theorem me_itemN {i k : Nat} {o : Expr} (ho : PE X o (fun σ H Q => ∃ p vs v, σ[i]? = some (some (.ref p)) ∧ H p = some (.lst vs) ∧ atI vs (k : Int) = some v ∧ Q v H)) : ME X c (eItemN i k) o := by
  refine ⟨PE.imp ho fun σ H Q q => ?_⟩
  obtain ⟨ξ, Y, s, tv, ts, hK, F, q⟩ := q
  unfold eItemN at q
  split at q
  rotate_left
  · exact q.elim
  rename_i os e0
  split at q
  rotate_left
  · exact q.elim
  rename_i d e1
  obtain ⟨p, vs, v, h1, h2, h3, h4, r⟩ := F.nestGet e0 e1
  exact ⟨p, vs, v, h1, h2, atI_nat h4, q Y H v (Same.refl _) F (hK ▸ r)⟩
/-- x[k] of an owned list, looked at within an operator that keeps nothing of it: its data -/
def eLookN (i k : Nat) : EF := fun s => match s[i]? with
  | some (some (.on os)) => match os[k]? with
    | some (.ol ds) => .ok (.list ds) s
    | _ => .bad
  | _ => .bad
/-- x[k] != [] and x[k] == [] -/
def kEmptyN (neg : Bool) (i k : Nat) : TF := fun s => match s[i]? with
  | some (some (.on os)) => match os[k]? with
    | some (.ol ds) => if plainAll ds = true ∧ SeqAt.shaped (.list ds) = true then .ok (if neg = true then !(PyData.eqv (.list ds) (.list [])) else PyData.eqv (.list ds) (.list [])) s else .bad
    | _ => .bad
  | _ => .bad
theorem mt_emptyN {i k : Nat} {o : Expr} {lp : Pos} (hXK : X.K = c.K) (hu : X.A.units + 64 < cLine) (ho : PE X o (fun σ H Q => ∃ p vs v, σ[i]? = some (some (.ref p)) ∧ H p = some (.lst vs) ∧ atI vs (k : Int) = some v ∧ Q v H)) (hm : behindInMarks .NotEq (.List [] lp) = false := by rfl) :
    MT X c (kEmptyN true i k) (.Compare o [.NotEq] [.List [] lp] pos) := by
  refine ⟨PT.imp (pt_cmpR (op_neD hu) ho (pe_lst pa_nil) hm) fun σ H Q q => ?_⟩
  obtain ⟨ξ, Y, s, tv, ts, hK, F, q⟩ := q
  unfold kEmptyN at q
  split at q
  rotate_left
  · exact q.elim
  rename_i os e0
  split at q
  rotate_left
  · exact q.elim
  rename_i ds e1
  split at q
  rotate_left
  · exact q.elim
  rename_i hds
  obtain ⟨p, vs, n, ws, h1, h2, h3, h4, h5, hd, wr⟩ := F.nestList e0 e1
  refine ⟨p, vs, .ref n, h1, h2, atI_nat h4, Nat.zero_le _, fun w hw => ?_⟩
  have nw : n ≠ w := ne_of_none h5 hw
  have F2 := F.newJ hw (.lst [])
  refine ⟨.list ds, .list [], .lst (.inl (.inl (by rw [upd_ne nw]; exact h5))) (by rw [hXK, ← hK]; exact hd.dp F2.sub hds.1), .lst (.inl (.inl upd_same)) .nil, hds.2, by decide, _, rfl, q Y _ (Same.refl _) F2⟩

/-! ### x[i] = value -/
/-- an int that only looks at frozen slots and written numbers; nothing changes -/
abbrev JF := S → Option Int
def t0 (K : PySem.W.Frag) (f : JF) : TE := fun σ H Q => ∃ ξ Y s tv ts, ξ.K = K ∧ FS ξ Y H σ s tv ts ∧ ∃ n, f s = some n ∧ Q (.int n) H
structure MJ (X : Cx) (c : Ct) (f : JF) (e : Expr) : Prop where
  run : PE X e (t0 c.K f)
def jVar (i : Nat) : JF := fun s => match s[i]? with
  | some (some (.fz (.int n))) => some n
  | _ => none
def jC (n : Int) : JF := fun _ => some n
def jAdd (f g : JF) : JF := fun s => (f s).bind fun a => (g s).map fun b => a + b
def jSub (f g : JF) : JF := fun s => (f s).bind fun a => (g s).map fun b => a - b
def jNeg (f : JF) : JF := fun s => (f s).map fun a => -a
theorem mj_var {i : Nat} {e : Expr} (h : PE X e (tVar i)) : MJ X c (jVar i) e := by
  refine ⟨PE.imp h fun σ H Q q => ?_⟩
  obtain ⟨ξ, Y, s, tv, ts, hK, F, n, en, q⟩ := q
  unfold jVar at en
  split at en
  · rename_i m em
    cases en
    obtain ⟨v, hv, r⟩ := F.frozen em
    rw [r.int_inv] at hv
    exact ⟨_, hv, q⟩
  · cases en
theorem mj_int {i : Int} {j : Nat} : MJ X c (jC i) (.Constant (.int i) j pos) := by
  refine ⟨PE.imp pe_int fun σ H Q q => ?_⟩
  obtain ⟨ξ, Y, s, tv, ts, hK, F, n, en, q⟩ := q
  cases en
  exact q
theorem mj_add {f g : JF} (ha : MJ X c f a) (hb : MJ X c g b) : MJ X c (jAdd f g) (.BinOp a .Add b pos) := by
  refine ⟨PE.imp (pe_op op_add ha.run hb.run) fun σ H Q q => ?_⟩
  obtain ⟨ξ, Y, s, tv, ts, hK, F, n, en, q⟩ := q
  simp only [jAdd, Option.bind_eq_some_iff, Option.map_eq_some_iff] at en
  obtain ⟨x, hx, y, hy, rfl⟩ := en
  exact ⟨ξ, Y, s, tv, ts, hK, F, x, hx, ξ, Y, s, tv, ts, hK, F, y, hy, x, y, rfl, rfl, q⟩
theorem mj_sub {f g : JF} (ha : MJ X c f a) (hb : MJ X c g b) : MJ X c (jSub f g) (.BinOp a .Sub b pos) := by
  refine ⟨PE.imp (pe_op op_sub ha.run hb.run) fun σ H Q q => ?_⟩
  obtain ⟨ξ, Y, s, tv, ts, hK, F, n, en, q⟩ := q
  simp only [jSub, Option.bind_eq_some_iff, Option.map_eq_some_iff] at en
  obtain ⟨x, hx, y, hy, rfl⟩ := en
  exact ⟨ξ, Y, s, tv, ts, hK, F, x, hx, ξ, Y, s, tv, ts, hK, F, y, hy, x, y, rfl, rfl, q⟩
theorem mj_neg {f : JF} (ha : MJ X c f a) : MJ X c (jNeg f) (.UnaryOp .USub a pos) := by
  refine ⟨PE.imp (pe_un un_neg ha.run) fun σ H Q q => ?_⟩
  obtain ⟨ξ, Y, s, tv, ts, hK, F, n, en, q⟩ := q
  simp only [jNeg, Option.map_eq_some_iff] at en
  obtain ⟨x, hx, rfl⟩ := en
  exact ⟨ξ, Y, s, tv, ts, hK, F, x, hx, x, rfl, q⟩
/-- an item of an owned list (slot i) -/
def gItem (i : Nat) (f : EF) : D → S → Res Unit := fun d s => match s[i]? with
  | some (some (.ol _)) => (f s).bind fun k s1 => match k, s1[i]? with
    | .int n, some (some (.ol ds)) => match ixN ds.length n with
      | some j => .ok () (s1.set i (some (.ol (ds.set j d))))
      | none => .bad
    | _, _ => .bad
  | some (some (.on _)) => (f s).bind fun k s1 => match k, s1[i]? with
    | .int n, some (some (.on os)) => match ixN os.length n with
      | some j => .ok () (s1.set i (some (.on (os.set j (.fz d)))))
      | none => .bad
    | _, _ => .bad
  | _ => .bad
def sItem (i : Nat) (idx : EF) (f : EF) : SF := fun s => (f s).toS fun d s => (gItem i idx d s).toS fun _ s => .nx s
theorem item_read (F : FS ξ Y H σ s tv ts) {i : Nat} {o : OD} (h : s[i]? = some (some o)) (ho : (∃ ds, o = .ol ds) ∨ ∃ os, o = .on os) : ∃ p, σ[i]? = some (some (.ref p)) := by
  rcases ho with ⟨ds, rfl⟩ | ⟨os, rfl⟩
  · obtain ⟨p, vs, hv, _⟩ := F.listS h
    exact ⟨p, hv⟩
  · obtain ⟨g, R⟩ := F.rel
    obtain ⟨v, hv, r⟩ := R.slot i _ h
    obtain ⟨p, _, _, rfl, _⟩ := r.on_inv
    exact ⟨p, hv⟩
theorem ms_item {rf : List Bool} {i : Nat} {fi fv : EF} {o ix e : Expr} {tpos : Pos} (h : ME X c fv e) (ho : PE X o (tVar i)) (hi : ME X c fi ix)
    (ha : ∀ v, assign (.Subscript o ix tpos) X.env v = (do
      let ov ← holding [v] (eval o X.env)
      let iv ← holding [v, ov] (eval ix X.env)
      standAt tpos
      holding [v, ov, iv] (setItem ov iv v)
      release [v, ov, iv] []) := by intro _; rfl)
    (hs : swapsWithSole [.Subscript o ix tpos] e pos.line X.env = pure false := by rfl) (hw : swappedStores [.Subscript o ix tpos] e X.env = pure none := by rfl)
    (h1 : (assignEach [.Subscript o ix tpos] X.env).map (·.2) = [assign (.Subscript o ix tpos) X.env] := by rfl) : MS X c rf (sItem i fi fv) (.Assign [.Subscript o ix tpos] e pos) := by
  refine ⟨PS.imp (ps_asg h.run (pg_sub ho hi.run set_list ha) hs hw h1) fun D σ H q => ?_⟩
  obtain ⟨ξ, Y, s, hK, F, q⟩ := q
  refine sE_seq hK F q fun d s1 Y1 H1 v e1 F1 r1 q1 => ?_
  have go : ∀ (hp : ∃ p, σ[i]? = some (some (.ref p))) (k : PyData → S → Res Unit), outS c rf ξ Y σ D ((((fi s1).bind k).toS fun _ s => .nx s)) →
      (∀ p n s2 Y2 H2, σ[i]? = some (some (.ref p)) → Same Y1 Y2 → FS ξ Y2 H2 σ s2 [] [] → outS c rf ξ Y σ D ((k (PyData.int n) s2).toS fun _ s => .nx s) → rSetL (.ref p) (.int n) v H2 (fun H3 => D.nx σ H3)) →
      (∀ d s, (∀ n, d ≠ PyData.int n) → k d s = .bad) → gSub (tVar i) (tE c fi) rSetL v σ H1 D.nx := by
    rintro ⟨p, hp⟩ k q2 fin no
    refine ⟨.ref p, hp, ?_⟩
    refine ⟨ξ, Y1, s1, [], [], hK, F1, ?_⟩
    cases ef : fi s1 with
    | bad => rw [ef] at q2; exact q2.elim
    | ex x s2 => rw [ef] at q2; exact fun Y' H' cl z e' F' er => q2 Y' H' σ cl z (e1.trans e') (.refl _ _) F' er
    | ok d2 s2 =>
      rw [ef, Res.bind_ok] at q2
      intro Y2 H2 v2 e2 F2 r2
      by_cases hn : ∃ n, d2 = .int n
      · obtain ⟨n, rfl⟩ := hn
        rw [r2.int_inv]
        exact fin p n s2 Y2 H2 hp e2 F2 q2
      · rw [no d2 s2 fun n e => hn ⟨n, e⟩] at q2
        exact q2.elim
  unfold gItem at q1
  split at q1
  · rename_i ds0 e0
    refine go (item_read F1 e0 (.inl ⟨_, rfl⟩)) _ q1 (fun p n s2 Y2 H2 hp e2 F2 q2 => ?_) (fun d s hd => ?_)
    · split at q2
      · rename_i n' ds en em
        cases en
        split at q2
        · rename_i j ej
          obtain ⟨p', vs', hv', hp', hd', wr⟩ := F2.listS em
          rw [hp] at hv'
          cases hv'
          refine ⟨p, vs', n, j, rfl, rfl, hp', by rw [hd'.length]; exact ej, ?_⟩
          exact q2 Y2 _ σ (e1.trans e2) (.refl _ _) (wr _ _ (hd'.set (hK ▸ r1.mono e2) j))
        · exact q2.elim
      · exact q2.elim
    · cases d <;> first | rfl | exact (hd _ rfl).elim
  · rename_i os0 e0
    refine go (item_read F1 e0 (.inr ⟨_, rfl⟩)) _ q1 (fun p n s2 Y2 H2 hp e2 F2 q2 => ?_) (fun d s hd => ?_)
    · split at q2
      · rename_i n' os en em
        cases en
        split at q2
        · rename_i j ej
          have hj : j < os.length := by
            have := (ixN_seq ej)
            omega
          obtain ⟨p', vs', hv', hp', hl, F3⟩ := F2.nestSet em hj (hK ▸ r1.mono e2)
          rw [hp] at hv'
          cases hv'
          exact ⟨p, vs', n, j, rfl, rfl, hp', by rw [hl]; exact ej, q2 Y2 _ σ (e1.trans e2) (.refl _ _) F3⟩
        · exact q2.elim
      · exact q2.elim
    · cases d <;> first | rfl | exact (hd _ rfl).elim
  · exact q1.elim
end
end MI

set_option Elab.async false
set_option linter.all false
set_option autoImplicit false
set_option maxRecDepth 100000
/-! MI: the end of a law. -/
namespace MI
open PySem PySem.Spec L2
open PyProof.Rows (AllBare)
/-- the law's call over an abstract heap that tracks the script at most -/
theorem ends_core {P : Program} {w : World} {K : PySem.W.Frag} {mg mb : Str → Option Value} {k : Nat} {fa a : Addr} {fd : FuncData} {x : Str} {sp : Sp} {s : Shared} {vs : List Value} {H : Hp}
    (KX : K.In s.heap) (hns : s.heap.Ns mainGlobals mg) (hb : s.heap.Ns builtinsNs mb) (hbb : ∀ x : Str, x ≠ "__name__" → mb x = bootBuiltins x) (hlim : s.heap.NoLimit) (hg : s.gens = #[])
    (ha : s.heap.get? a = some { cls := .type "list", data := .seq vs.toArray }) (hr : Room k callerA) (F : ∀ base : Heap, K.In base → base.Ns mainGlobals mg → FnG P w K mg base CX0 k fa fd [x] sp)
    (hbind : ∀ (s : Shared) (u : Value), BindsTo s fd ⟨[u], []⟩ [(x, u)]) (hsp : sp [.ref a] H (fun v _ => v = .bl true) fun _ _ _ => False)
    (ok : HOk P w H s.heap) (only : ∀ b, H b = none ∨ (b = a ∧ K.lookup a = none ∧ ∃ o xs, H b = some (.frz o (.lst xs)))) :
    codeAny (model P w) callerA (.call (.ref fa) ⟨[.ref a], []⟩) (fun r s' => r = .ok (.ret (.bool true)) ∧ OldK s.heap s'.heap ∧ s'.os = s.os ∧ AllBare s'.gens) s := by
  have notdict : ∀ {b : Addr} {o : Obj} {es : Array DictEntry} {ep : Nat}, s.heap.get? b = some o → o.data = .dict es ep → H b = none := by
    intro b o es ep e d
    rcases only b with z | ⟨rfl, _, _⟩
    · exact z
    · rw [e] at ha
      cases ha
      cases d
  have ns : ∀ {b : Addr} {m : Str → Option Value}, s.heap.Ns b m → (hidT s.heap H).Ns b m := by
    rintro b m ⟨o, es, ep, e, d, r⟩
    exact ⟨o, es, ep, hidT_get e (notdict e d), d, r⟩
  have inK : K.In (hidT s.heap H) := fun b o e => hidT_get (KX b o e) (by
    rcases only b with z | ⟨rfl, z, _⟩
    · exact z
    · rw [z] at e; cases e)
  obtain ⟨mc, l1, l2⟩ := hlim
  have md : Mod K mg (hidT s.heap H) := ⟨inK, ns hns, ⟨mb, ns hb, hbb⟩, ⟨mc, ns l1, l2⟩⟩
  have e0 : Env0 P w K mg (hidT s.heap H) callerA [] s H := by
    refine ⟨rfl, md, fun b o e => of_hidT e, Nat.le_of_eq (hidT_size _ _), trivial, fun b hb => ?_, ok, .of_eq hg⟩
    cases hb
  refine codeAny_mono ((F _ inK (ns hns)).run callerA [] s H ⟨[.ref a], []⟩ [.ref a] [.ref a] _ _ rfl hr e0 (hbind s (.ref a)) (.cons rfl .nil) hsp) ?_
  intro r s' h
  cases r with
  | error e => exact h.elim
  | ok fl =>
    cases fl with
    | next => exact False.elim h
    | brk => exact False.elim h
    | cont => exact False.elim h
    | ret u =>
      obtain ⟨v, H', os, bare, un, ok', rv, rfl⟩ := h
      obtain rfl : u = Value.bool true := rv
      refine ⟨rfl, OldK.of_keep fun b o e => ?_, os, bare⟩
      rcases only b with z | ⟨_, _, ob, xs, z⟩
      · exact un.keep b o e z (by intro q; cases q) (by intro q; cases q)
      · obtain ⟨e1, _⟩ := ok b _ z
        obtain ⟨e2, _⟩ := ok' b _ (un.frzs b ob _ z)
        rw [e] at e1
        cases e1
        exact e2
theorem ends_of {l : PySem.W.OpenLaw} {n k : Nat} {q : Program} {loose : List Str} {XP : (Str → Option Value) → Heap → Prop} {YP : World → Heap → Prop} {d : DefRec} {K : Params → PySem.W.Frag} {sp : World → Sp} {x : Str}
    (hn : l.most = some n) (hn2 : n ≤ sizeLine) (hdf : d.params.defaults = []) (hr : Room k callerA) (hY : ∀ (w : World) (h : Heap), YP w h → (K w.params).In h)
    (F : ∀ (w : World) (mg : Str → Option Value) (fa : Addr) (h : Heap), (K w.params).In h → h.Ns mainGlobals mg → mg d.name = some (.ref fa) → ∃ fd : FuncData, (∀ (s : Shared) (u : Value), BindsTo s fd ⟨[u], []⟩ [(x, u)]) ∧
      ∀ base : Heap, (K w.params).In base → base.Ns mainGlobals mg → FnG l.prog w (K w.params) mg base CX0 k fa fd [x] (sp w))
    (hsp : ∀ (w : World) (H : Hp) (a : Addr) (ns : List Int), ns.length ≤ n → SqL (K w.params) H a (ns.map V.int) → sp w [.ref a] H (fun v _ => v = .bl true) fun _ _ _ => False) :
    PySem.W.WalkO q loose XP YP l.row.toRowW d [] (fun f vs => PySem.call f vs) := by
  refine Att.attach_call hn hdf ?_
  intro w s₀ s₁ mg mb fa o pm cd doc a vs ns G Y ho hd hcd hmg hobj hints hlen hg
  have KX := hY w _ Y
  obtain ⟨fd, hb, hF⟩ := F w mg fa _ KX G.T.g hmg
  have rv := vals_ints hints
  have lenV := hints.length
  have hsz : ns.length ≤ sizeLine := Nat.le_trans hlen hn2
  cases hk : (K w.params).lookup a with
  | some o =>
    have e := KX a o hk
    rw [hobj] at e
    cases e
    refine ends_core (H := fun _ => none) KX G.T.g G.T.b G.T.builtins G.T.nolimit hg hobj hr hF hb (hsp w _ a ns hlen ?_) (fun b u z => nomatch z) fun _ => .inl rfl
    exact .inr ⟨_, vs.toArray, _, hk, rfl, rfl, rfl, by rw [List.size_toArray, lenV]; exact hsz, by simpa using rv⟩
  | none =>
    let u : HO := .frz { cls := .type "list", data := .seq vs.toArray } (.lst (ns.map V.int))
    refine ends_core (H := upd (fun _ => none) a u) KX G.T.g G.T.b G.T.builtins G.T.nolimit hg hobj hr hF hb (hsp w _ a ns hlen (.inl (.inr ⟨_, upd_same⟩))) (fun b z e => ?_) fun b => ?_
    · by_cases hb : b = a
      · subst hb
        rw [upd_same] at e
        cases e
        exact ⟨hobj, by rw [List.length_map]; exact hsz, vs, _, rv, hobj⟩
      · rw [upd_ne hb] at e
        cases e
    · by_cases hb : b = a
      · exact .inr ⟨hb, hk, _, _, by rw [hb]; exact upd_same⟩
      · exact .inl (upd_ne hb)
/-- the law's promise holds where its function tells True of each script -/
theorem law_true {K : PySem.W.Frag} {er : Exn → Value → Option Addr → Hp → Prop} {F : List OD → Res OD} {H : Hp} {a : Addr} {ns : List Int} (hS : SqL K H a (ns.map V.int)) (hF : ∃ s, F [.fz (lockD (ns.map PyData.int))] = .ok (.fz (.bool true)) s) :
    spF K er false 1 F [.ref a] H (fun v _ => v = .bl true) (fun _ _ _ => False) := by
  obtain ⟨s, e⟩ := hF
  refine ⟨⟨K, H, H, fun _ => False⟩, H, [.fz (lockD (ns.map PyData.int))], rfl, rfl, rfl, rfl, ?_, ?_⟩
  · refine ⟨Same.refl _, Same.refl _, fun a h => .inl h, fun _ _ h _ => h, fun _ h => h, rfl, rfl, fun _ _ => False, fun i o e => ?_, fun j o e => ?_, fun i a f => f.elim, fun _ _ _ f => f.elim⟩
    · cases i with
      | zero =>
        cases e
        exact ⟨.ref a, rfl, .fz (.lck hS (DrAll.of_ints ns))⟩
      | succ i => cases e
    · cases e
  · rw [e]
    intro Y' H' v _ F'
    obtain ⟨g, R⟩ := F'.rel
    obtain ⟨v', e1, r⟩ := R.temp 0 _ rfl
    cases e1
    exact r.fz_inv.bool_inv
end MI

set_option Elab.async false
set_option linter.all false
set_option autoImplicit false
set_option maxRecDepth 100000
/-! MI: written tables, more walks. -/
namespace MI
open PySem PySem.Spec L2
section
variable {X : Cx} {c : Ct} {K : PySem.W.Frag} {ξ : Fx} {Y H : Hp} {σ : St} {s : S} {tv : List V} {ts : List OD}
variable {fa fb : EF} {a b : Expr} {p pos : Pos}
/-- {k: n, ..}[i], all ints written -/
def tabV (kvs : List (Int × Int)) : List (Key × V) := kvs.map fun q => (Sum.inl q.1, V.int q.2)
def eTab (kvs : List (Int × Int)) (f : EF) : EF := fun s => (f s).bind fun d s => match d with
  | .int i => match valV (mergeK [] (tabV kvs)) (Sum.inl i) with
    | some (.int n) => .ok (.int n) s
    | _ => .bad
  | _ => .bad
inductive TabE : List (Int × Int) → List (Option Expr) → List Expr → Prop
  | nil : TabE [] [] []
  | cons {k n : Int} {j j' : Nat} {q q' : Pos} {kvs : List (Int × Int)} {ks : List (Option Expr)} {vs : List Expr} : TabE kvs ks vs → TabE ((k, n) :: kvs) (some (.Constant (.int k) j q) :: ks) (.Constant (.int n) j' q' :: vs)
theorem TabE.pps {kvs : List (Int × Int)} {ks : List (Option Expr)} {vs : List Expr} (t : TabE kvs ks vs) : PPs X pos ks vs (kvs.map fun q => (tC (.int q.1), tC (.int q.2))) := by
  induction t with
  | nil => exact pps_nil
  | cons t ih => exact pps_cons pe_int pe_int ih
theorem tab_pairs {σ : St} {H : Hp} {Q : List (V × V) → Hp → Prop} : ∀ (kvs : List (Int × Int)), Q (kvs.map fun q => (V.int q.1, V.int q.2)) H → tPairs (kvs.map fun q => (tC (.int q.1), tC (.int q.2))) σ H Q
  | [], h => h
  | q :: kvs, h => tab_pairs (Q := fun ps H3 => Q ((V.int q.1, V.int q.2) :: ps) H3) kvs h
theorem me_tab {kvs : List (Int × Int)} {ks : List (Option Expr)} {vs : List Expr} {dp : Pos} (hu : X.A.units + 1 < cLine) (t : TabE kvs ks vs) (ha : ME X c fa a) (hall : ks.all (·.isSome) = true := by rfl) (hl : ks.length = vs.length := by rfl) (h0 : ks ≠ [] := by exact fun z => nomatch z)
    (h15 : ks.length ≤ 15 := by decide) (h15' : kvs.length ≤ 15 := by decide) (hs : NoSl a := by exact fun _ _ => rfl) : ME X c (eTab kvs fa) (.Subscript (.Dict ks vs dp) a pos) := by
  refine ⟨PE.imp (pe_dget hu (pe_disp t.pps hall hl h0 h15) ha.run hs) fun σ H Q q => ?_⟩
  obtain ⟨ξ, Y, s, tv, ts, hK, F, q⟩ := q
  intro n hn
  refine tab_pairs kvs ⟨upd_same, tabV kvs, ?_, by simpa [tabV] using h15', ?_⟩
  · unfold tabV
    rw [List.map_map]
    rfl
  · rw [upd_upd]
    have F1 := F.newF hn (.dK (mergeK [] (tabV kvs)))
    have e0 : Same Y (upd Y n (.dK (mergeK [] (tabV kvs)))) := same_upd (F.sub.free hn)
    refine tE_seq hK F1 (out.mono c q e0 (fun _ _ z => z)) fun d s1 Y1 H1 v e1 F2 r1 q1 => ?_
    split at q1
    · rename_i i
      split at q1
      · rename_i m em
        refine ⟨n, .int m, rfl, ?_, q1 Y1 H1 _ (e0.trans e1) F2 (.int m)⟩
        rw [r1.int_inv, ← em]
        exact .inl ⟨_, Sum.inl i, .inl (F2.sub _ _ (e1 _ _ upd_same)), rfl, rfl⟩
      · exact q1.elim
    · exact q1.elim
/-! ### reversed -/
def iRev (f : EF) : IF := fun s => (f s).bind fun d s => ofO ((itemsD d).map List.reverse) s
theorem mi_rev {tg : Expr} (hXK : X.K = c.K) (hg : Gl X "reversed") (hm : X.mg "reversed" = none) (ha : ME X c fa a) (hs : starEach [a] X.env = (false, eval a X.env) :: starEach [] X.env := by rfl) : MI_ X c (iRev fa) tg (.Call (.Name "reversed" p) [a] [] pos) := by
  refine ⟨PI.imp (RT.pi_revA hg hm ha.run hs) fun σ H R q => ?_⟩
  obtain ⟨ξ, Y, s, tv, ts, hK, F, q⟩ := q
  refine ⟨ξ, Y, s, tv, ts, hK, F, ?_⟩
  unfold iRev at q
  cases e : fa s with
  | bad => rw [e] at q; exact q.elim
  | ex x s1 => rw [e] at q; exact q
  | ok d s1 =>
    rw [e, Res.bind_ok] at q
    intro Y1 H1 v e1 F1 r1
    have item : ∀ {xs : List V} {ds : List D}, DrAll c.K Y1 xs ds → ∀ i d, ds.reverse[i]? = some d → i < xs.length ∧ ∃ v, xs[xs.length - 1 - i]? = some v ∧ Dr c.K Y1 v d := fun {xs ds} h i d hd => by
      have hi := lt_of_get hd
      rw [List.length_reverse] at hi
      rw [List.getElem?_reverse hi] at hd
      obtain ⟨v, h1, h2⟩ := h.get hd
      exact ⟨by rw [h.length]; exact hi, v, by rw [h.length]; exact h1, h2⟩
    cases d with
    | list ds =>
      obtain ⟨a, xs, rfl, hq, hd⟩ := r1.list_inv
      have hq : SqL c.K Y1 a xs := .inl (.inl hq)
      refine ⟨a, xs, rfl, .inl ⟨hXK ▸ F1.sub.seq hq, ?_⟩⟩
      rw [hXK]
      refine q Y1 H1 _ e1 F1 ⟨fun i H e hi => ⟨by rw [hd.length]; simpa using hi, xs, xs[xs.length - 1 - i]'(by have := hd.length; simp at hi; omega), e.seq hq, List.getElem?_eq_getElem _⟩, fun H e => ?_, fun i H x H' d e hd' hy Y2 e2 e3 => ?_⟩
      · show xs.length ≤ _
        rw [List.length_reverse, hd.length]; exact Nat.le_refl _
      · obtain ⟨rfl, hx⟩ := hy
        obtain ⟨_, v, hv, rv⟩ := item hd i d hd'
        have := hx xs (e.seq hq)
        rw [hv] at this
        cases this
        exact ⟨Y2, .old (rv.mono e2)⟩
    | tuple ds =>
      obtain ⟨a, xs, rfl, hq, hd⟩ := r1.tuple_inv
      refine ⟨a, xs, rfl, .inr ⟨hXK ▸ Same.sqt F1.sub hq, ?_⟩⟩
      rw [hXK]
      refine q Y1 H1 _ e1 F1 ⟨fun i H e hi => ⟨by rw [hd.length]; simpa using hi, xs, xs[xs.length - 1 - i]'(by have := hd.length; simp at hi; omega), Same.sqt e hq, List.getElem?_eq_getElem _⟩, fun H e => ?_, fun i H x H' d e hd' hy Y2 e2 e3 => ?_⟩
      · show xs.length ≤ _
        rw [List.length_reverse, hd.length]; exact Nat.le_refl _
      · obtain ⟨rfl, hx⟩ := hy
        obtain ⟨_, v, hv, rv⟩ := item hd i d hd'
        have := hx xs (Same.sqt e hq)
        rw [hv] at this
        cases this
        exact ⟨Y2, .old (rv.mono e2)⟩
    | none => exact q.elim
    | bool _ => exact q.elim
    | int _ => exact q.elim
    | str _ => exact q.elim
    | dict _ => exact q.elim
/-! ### zip, enumerate -/
def pairUp : List D → List D → List D
  | x :: xs, y :: ys => .tuple [x, y] :: pairUp xs ys
  | _, _ => []
theorem pairUp_length : ∀ (xs ys : List D), (pairUp xs ys).length = min xs.length ys.length
  | [], _ => by simp [pairUp]
  | _ :: _, [] => by simp [pairUp]
  | x :: xs, y :: ys => by simp [pairUp, pairUp_length xs ys]
theorem pairUp_get : ∀ {xs ys : List D} {i : Nat} {d : D}, (pairUp xs ys)[i]? = some d → ∃ x y, xs[i]? = some x ∧ ys[i]? = some y ∧ d = .tuple [x, y]
  | [], _, _, _, h => by simp [pairUp] at h
  | _ :: _, [], _, _, h => by simp [pairUp] at h
  | x :: xs, y :: ys, 0, d, h => by simp [pairUp] at h; exact ⟨x, y, rfl, rfl, h.symm⟩
  | x :: xs, y :: ys, i + 1, d, h => by
    simp only [pairUp, List.getElem?_cons_succ] at h
    obtain ⟨x', y', h1, h2, h3⟩ := pairUp_get h
    exact ⟨x', y', by simpa using h1, by simpa using h2, h3⟩
def sameKind : D → D → Option (List D)
  | .list xs, .list ys => some (pairUp xs ys)
  | .tuple xs, .tuple ys => some (pairUp xs ys)
  | _, _ => none
def iZip (f g : EF) : IF := fun s => (f s).bind fun d s => (g s).bind fun e s => ofO (sameKind d e) s
theorem mi_zip {elts : List Expr} {kk : Nat} {tpos : Pos} (hXK : X.K = c.K) (hg : Gl X "zip") (hm : X.mg "zip" = none) (ha : ME X c fa a) (hb : ME X c fb b)
    (hs : starEach [a, b] X.env = (false, eval a X.env) :: starEach [b] X.env := by rfl) (hs2 : starEach [b] X.env = (false, eval b X.env) :: starEach [] X.env := by rfl) (hpl : (backTo pos (starEach [b] X.env)).any (·.1) = false := by rfl) :
    MI_ X c (iZip fa fb) (.Tuple elts kk tpos) (.Call (.Name "zip" p) [a, b] [] pos) := by
  refine ⟨PI.imp (RZ.pi_zipA hg hm (ma_cons ha (ma_cons hb ma_nil hs2) hs).run hs hpl) fun σ H R q => ?_⟩
  obtain ⟨ξ, Y, s, tv, ts, hK, F, q⟩ := q
  refine ⟨ξ, Y, s, tv, ts, hK, F, ?_⟩
  unfold iZip at q
  unfold aCons aNil
  cases e : fa s with
  | bad => rw [e] at q; exact q.elim
  | ex x s1 => rw [e] at q; exact q
  | ok d s1 =>
    rw [e, Res.bind_ok] at q
    rw [Res.bind_ok]
    cases e' : fb s1 with
    | bad => rw [e'] at q; exact q.elim
    | ex x s1 => rw [e'] at q; exact q
    | ok d' s2 =>
      rw [e', Res.bind_ok] at q
      rw [Res.bind_ok, Res.bind_ok, Res.bind_ok]
      intro Y1 H1 vs e1 F1 r1
      cases r1 with
      | cons ra rb =>
        cases rb with
        | cons rb rc =>
          cases rc
          unfold ofO sameKind at q
          split at q
          · rename_i ds eds
            split at eds
            · rename_i xs ys
              cases eds
              obtain ⟨a1, us, rfl, hq, hd⟩ := ra.list_inv
              obtain ⟨a2, ws, rfl, hq2, hd2⟩ := rb.list_inv
              have hq : SqL c.K Y1 a1 us := .inl (.inl hq)
              have hq2 : SqL c.K Y1 a2 ws := .inl (.inl hq2)
              refine ⟨a1, a2, us, ws, rfl, .inl ⟨hXK ▸ F1.sub.seq hq, hXK ▸ F1.sub.seq hq2, ?_⟩⟩
              rw [hXK]
              refine q Y1 H1 _ e1 F1 ⟨fun i H e hi => ?_, fun H e => ?_, fun i H x H' d e hd' hy Y2 e2 e3 => ?_⟩
              · rw [pairUp_length] at hi
                have h1 := hd.length
                have h2 := hd2.length
                exact ⟨us, ws, us[i]'(by omega), ws[i]'(by omega), e.seq hq, e.seq hq2, List.getElem?_eq_getElem _, List.getElem?_eq_getElem _⟩
              · refine ⟨us, ws, e.seq hq, e.seq hq2, ?_⟩
                rw [pairUp_length]
                have h1 := hd.length
                have h2 := hd2.length
                omega
              · obtain ⟨T, x1, x2, rfl, nT, rfl, f1, f2⟩ := hy
                obtain ⟨dx, dy, g1, g2, rfl⟩ := pairUp_get hd'
                obtain ⟨v1, h1, r1⟩ := hd.get g1
                obtain ⟨v2, h2, r2⟩ := hd2.get g2
                have z1 := f1 us (e.seq hq)
                have z2 := f2 ws (e.seq hq2)
                rw [h1] at z1
                rw [h2] at z2
                cases z1; cases z2
                exact ⟨_, .tup nT (.cons (r1.mono e2) (.cons (r2.mono e2) .nil))⟩
            · rename_i xs ys
              cases eds
              obtain ⟨a1, us, rfl, hq, hd⟩ := ra.tuple_inv
              obtain ⟨a2, ws, rfl, hq2, hd2⟩ := rb.tuple_inv
              refine ⟨a1, a2, us, ws, rfl, .inr ⟨hXK ▸ Same.sqt F1.sub hq, hXK ▸ Same.sqt F1.sub hq2, ?_⟩⟩
              rw [hXK]
              refine q Y1 H1 _ e1 F1 ⟨fun i H e hi => ?_, fun H e => ?_, fun i H x H' d e hd' hy Y2 e2 e3 => ?_⟩
              · rw [pairUp_length] at hi
                have h1 := hd.length
                have h2 := hd2.length
                exact ⟨us, ws, us[i]'(by omega), ws[i]'(by omega), Same.sqt e hq, Same.sqt e hq2, List.getElem?_eq_getElem _, List.getElem?_eq_getElem _⟩
              · refine ⟨us, ws, Same.sqt e hq, Same.sqt e hq2, ?_⟩
                rw [pairUp_length]
                have h1 := hd.length
                have h2 := hd2.length
                omega
              · obtain ⟨T, x1, x2, rfl, nT, rfl, f1, f2⟩ := hy
                obtain ⟨dx, dy, g1, g2, rfl⟩ := pairUp_get hd'
                obtain ⟨v1, h1, r1⟩ := hd.get g1
                obtain ⟨v2, h2, r2⟩ := hd2.get g2
                have z1 := f1 us (Same.sqt e hq)
                have z2 := f2 ws (Same.sqt e hq2)
                rw [h1] at z1
                rw [h2] at z2
                cases z1; cases z2
                exact ⟨_, .tup nT (.cons (r1.mono e2) (.cons (r2.mono e2) .nil))⟩
            · cases eds
          · exact q.elim
def numbered : Nat → List D → List D
  | _, [] => []
  | i, x :: xs => .tuple [.int (i : Int), x] :: numbered (i + 1) xs
theorem numbered_length : ∀ (xs : List D) (i : Nat), (numbered i xs).length = xs.length
  | [], _ => rfl
  | x :: xs, i => by simp [numbered, numbered_length xs]
theorem numbered_get : ∀ {xs : List D} {k i : Nat} {d : D}, (numbered k xs)[i]? = some d → ∃ x, xs[i]? = some x ∧ d = .tuple [.int ((k + i : Nat) : Int), x]
  | [], _, _, _, h => by simp [numbered] at h
  | x :: xs, k, 0, d, h => by simp [numbered] at h; exact ⟨x, rfl, h.symm⟩
  | x :: xs, k, i + 1, d, h => by
    simp only [numbered, List.getElem?_cons_succ] at h
    obtain ⟨x', h1, h2⟩ := numbered_get h
    exact ⟨x', by simpa using h1, by rw [h2]; congr 4; omega⟩
def iEnumL (f : EF) : IF := fun s => (f s).bind fun d s => match d with
  | .list xs => .ok (numbered 0 xs) s
  | _ => .bad
theorem mi_enumL {elts : List Expr} {kk : Nat} {tpos : Pos} (hXK : X.K = c.K) (hg : Gl X "enumerate") (hm : X.mg "enumerate" = none) (ha : ME X c fa a) (hs : starEach [a] X.env = [(false, eval a X.env)] := by rfl) (hs2 : starEach [a] X.env = (false, eval a X.env) :: starEach [] X.env := by rfl) :
    MI_ X c (iEnumL fa) (.Tuple elts kk tpos) (.Call (.Name "enumerate" p) [a] [] pos) := by
  refine ⟨PI.imp (pi_enum hg hm (ma_cons ha ma_nil hs2).run hs) fun σ H R q => ?_⟩
  obtain ⟨ξ, Y, s, tv, ts, hK, F, q⟩ := q
  refine ⟨ξ, Y, s, tv, ts, hK, F, ?_⟩
  unfold iEnumL at q
  unfold aCons aNil
  cases e : fa s with
  | bad => rw [e] at q; exact q.elim
  | ex x s1 => rw [e] at q; exact q
  | ok d s1 =>
    rw [e, Res.bind_ok] at q
    rw [Res.bind_ok, Res.bind_ok]
    intro Y1 H1 vs e1 F1 r1
    cases r1 with
    | cons ra rb =>
      cases rb
      cases d with
      | list ds =>
        obtain ⟨a, us, rfl, hq, hd⟩ := ra.list_inv
        have hq : SqL c.K Y1 a us := .inl (.inl hq)
        refine ⟨a, us, rfl, hXK ▸ F1.sub.seq hq, ?_⟩
        rw [hXK]
        refine q Y1 H1 _ e1 F1 ⟨fun i H e hi => ?_, fun H e => ?_, fun i H x H' d e hd' hy Y2 e2 e3 => ?_⟩
        · rw [numbered_length] at hi
          have h1 := hd.length
          exact ⟨us, us[i]'(by omega), e.seq hq, List.getElem?_eq_getElem _⟩
        · refine ⟨us, e.seq hq, ?_⟩
          rw [numbered_length, hd.length]
          exact Nat.le_refl _
        · obtain ⟨T, x1, rfl, nT, rfl, f1⟩ := hy
          obtain ⟨dx, g1, rfl⟩ := numbered_get hd'
          obtain ⟨v1, h1, r1⟩ := hd.get g1
          have z1 := f1 us (e.seq hq)
          rw [h1] at z1
          cases z1
          refine ⟨_, .tup nT (.cons ?_ (.cons (r1.mono e2) .nil))⟩
          rw [Nat.zero_add]
          exact .int _
      | none => exact q.elim
      | bool _ => exact q.elim
      | int _ => exact q.elim
      | str _ => exact q.elim
      | tuple _ => exact q.elim
      | dict _ => exact q.elim
end
end MI

set_option Elab.async false
set_option linter.all false
set_option autoImplicit false
set_option maxRecDepth 100000
/-! MI: owned names handed on, places, more assignments. -/
namespace MI
open PySem PySem.Spec L2
section
variable {X : Cx} {c : Ct} {K : PySem.W.Frag} {ξ : Fx} {Y H : Hp} {σ : St} {s : S} {tv : List V} {ts : List OD}
variable {fa fb : EF} {a b : Expr} {p pos : Pos}
/-- what slot i owns becomes a temp's -/
theorem FS.takeS {o : OD} (F : FS ξ Y H σ s tv ts) {i : Nat} (h : s[i]? = some (some o)) : ∃ v, σ[i]? = some (some v) ∧ FS ξ Y H σ (s.set i none) (tv ++ [v]) (ts ++ [o]) := by
  obtain ⟨g, R⟩ := F.rel
  obtain ⟨v, hv, r⟩ := R.slot i o h
  refine ⟨v, hv, F.re R (fun k a => (k = .inr ts.length ∧ g (.inl i) a) ∨ (k ≠ .inl i ∧ k ≠ .inr ts.length ∧ g k a)) (Same.refl _) F.sub (fun a q => .inl q) (fun k a f => ?_) (fun k j a f f' => ?_) (by simp [F.len]) (by simp [F.tlen]) (fun j o e => ?_) (fun j o e => ?_)⟩
  · rcases f with ⟨_, f⟩ | ⟨_, _, f⟩
    · exact ⟨(R.own _ a f).2.1, _, f⟩
    · exact ⟨(R.own _ a f).2.1, _, f⟩
  · rcases f with ⟨rfl, f⟩ | ⟨n1, n2, f⟩
    · rcases f' with ⟨rfl, _⟩ | ⟨n1, _, f'⟩
      · rfl
      · exact (n1 (R.sep _ _ _ f' f)).elim
    · rcases f' with ⟨rfl, f'⟩ | ⟨_, _, f'⟩
      · exact (n1 (R.sep _ _ _ f f')).elim
      · exact R.sep _ _ _ f f'
  · by_cases hj : j = i
    · subst hj
      rw [List.getElem?_set_self (lt_of_get h)] at e
      cases e
    · rw [List.getElem?_set_ne (Ne.symm hj)] at e
      obtain ⟨v, e1, r⟩ := R.slot j o e
      exact ⟨v, e1, r.iff fun a => ⟨fun f => .inr ⟨fun z => hj (Sum.inl.inj z), (fun z => nomatch z), f⟩, fun f => f.elim (fun z => nomatch z.1) fun z => z.2.2⟩⟩
  · rcases getElem?_snoc e with e | ⟨rfl, rfl⟩
    · obtain ⟨v, e1, r⟩ := R.temp j o e
      have hj := lt_of_get e
      refine ⟨v, snoc_old e1, r.iff fun a => ⟨fun f => .inr ⟨(fun z => nomatch z), (fun z => by cases z; omega), f⟩, fun f => f.elim (fun z => ?_) fun z => z.2.2⟩⟩
      obtain ⟨z, _⟩ := z
      cases z
      omega
    · exact ⟨v, by rw [F.tlen]; exact snoc_new, r.iff fun a => ⟨fun f => .inl ⟨rfl, f⟩, fun f => f.elim (fun z => z.2) fun z => (z.2.1 rfl).elim⟩⟩
/-- a name, with what it owns -/
def oVar (i : Nat) : OF := fun s => match s[i]? with
  | some (some (.fz d)) => .ok (.fz d) s
  | some (some o) => .ok o (s.set i none)
  | _ => .bad
theorem mo_var {i : Nat} {e : Expr} (h : PE X e (tVar i)) : MO X c (oVar i) e := by
  refine ⟨PE.imp h fun σ H Q q => ?_⟩
  obtain ⟨ξ, Y, s, tv, ts, hK, F, q⟩ := q
  unfold oVar at q
  split at q
  · rename_i d e
    obtain ⟨v, hv, r⟩ := F.frozen e
    exact ⟨v, hv, q Y H v (Same.refl _) (F.pushD r)⟩
  · rename_i o _ e
    obtain ⟨v, hv, F2⟩ := F.takeS e
    exact ⟨v, hv, q Y H v (Same.refl _) F2⟩
  · exact q.elim
/-- x[e] for a name x, frozen or owning a list -/
def eAt (i : Nat) (f : EF) : EF := fun s => match s[i]? with
  | some (some (.fz d)) => (f s).bind fun k s1 => match ixD d k with
    | some (.fz d') => .ok d' s1
    | _ => .bad
  | some (some (.ol _)) => (f s).bind fun k s1 => match k, s1[i]? with
    | .int n, some (some (.ol ds)) => match atI ds n with
      | some d => .ok d s1
      | none => .bad
    | _, _ => .bad
  | _ => .bad
theorem me_at {i : Nat} (hXK : X.K = c.K) (ho : PE X a (tVar i)) (hb : ME X c fb b) (hs : PlainIx b) : ME X c (eAt i fb) (.Subscript a b pos) := by
  refine ⟨PE.imp (pe_ix (IxR.or ix_list ix_tup) ho hb.run hs) fun σ H Q q => ?_⟩
  obtain ⟨ξ, Y, s, tv, ts, hK, F, q⟩ := q
  unfold eAt at q
  split at q
  · rename_i d e0
    obtain ⟨x, hx, r0⟩ := F.frozen e0
    refine ⟨x, hx, tE_seq hK F q fun k s1 Y1 H1 v e1 F1 r1 q1 => ?_⟩
    split at q1
    · rename_i d' ed
      have r0 : Dr c.K Y1 x d := hK ▸ r0.mono e1
      unfold ixD at ed
      cases el : ixL d k with
      | some o =>
        rw [el] at ed
        cases ed
        unfold ixL at el
        split at el
        · simp only [Option.map_eq_some_iff] at el
          obtain ⟨d2, el, z⟩ := el
          cases z
          obtain ⟨p, us, rfl, h1, d1⟩ := r0.list_inv
          rw [r1.int_inv]
          obtain ⟨w, hw, r⟩ := d1.at el
          exact .inl ⟨p, us, _, w, rfl, rfl, .inl (.inl (F1.sub _ _ h1)), hw, q1 Y1 H1 _ e1 F1 r⟩
        · cases el
      | none =>
        rw [el] at ed
        have ed : ixT d k = some (.fz d') := by simpa using ed
        unfold ixT at ed
        split at ed
        · simp only [Option.map_eq_some_iff] at ed
          obtain ⟨d2, ed, z⟩ := ed
          cases z
          obtain ⟨p, us, rfl, h1, d1⟩ := r0.tuple_inv
          rw [r1.int_inv]
          obtain ⟨w, hw, r⟩ := d1.at ed
          exact .inr ⟨p, us, _, w, rfl, rfl, hXK ▸ Same.sqt F1.sub h1, hw, q1 Y1 H1 _ e1 F1 r⟩
        · cases ed
    · exact q1.elim
  · rename_i ds0 e0
    obtain ⟨p, vs0, hx, _⟩ := F.listS e0
    refine ⟨.ref p, hx, tE_seq hK F q fun k s1 Y1 H1 v e1 F1 r1 q1 => ?_⟩
    split at q1
    · rename_i n ds en
      split at q1
      · rename_i d ed
        obtain ⟨p', vs, hx', hp, hd, _⟩ := F1.listS en
        rw [hx] at hx'
        cases hx'
        obtain ⟨w, hw, r⟩ := hd.at ed
        rw [r1.int_inv]
        exact .inl ⟨p, vs, n, w, rfl, rfl, .inl (.inl hp), hw, q1 Y1 H1 _ e1 F1 (hK ▸ r)⟩
      · exact q1.elim
    · exact q1.elim
  · exact q.elim
/-- a list display of owned items -/
theorem FS.joinN {vs : List V} {os : List OD} {p : Addr} (F : FS ξ Y H σ s (tv ++ vs) (ts ++ os)) (hl : ts.length = tv.length) (hp : H p = none) : FS ξ Y (upd H p (.lst vs)) σ s (tv ++ [.ref p]) (ts ++ [.on os]) := by
  have F1 := F.newJ hp (.lst vs)
  have tl : os.length = vs.length := by have := F.tlen; simp at this; omega
  obtain ⟨g, R⟩ := F.rel
  have nog : ∀ i, ¬ g i p := fun i f => (R.own i p f).1 hp
  have kk : ∀ i a, g i a → upd H p (.lst vs) a = H a := fun i a f => upd_ne fun z => nog i (z ▸ f)
  let lo : Nat ⊕ Nat → Prop := fun k => match k with
    | .inl _ => True
    | .inr j => j < ts.length
  let gi : Nat → Addr → Prop := fun i a => i < os.length ∧ g (.inr (ts.length + i)) a
  let hi : Addr → Prop := fun a => a = p ∨ ∃ i, gi i a
  have nlo : ¬ lo (.inr ts.length) := Nat.lt_irrefl _
  have nlo2 : ∀ i, ¬ lo (.inr (ts.length + i)) := fun i (z : ts.length + i < ts.length) => by omega
  refine ⟨F1.sub, F1.z0, F1.fresh, F1.keep, F1.live, F.len, by simp [hl], fun k a => (k = .inr ts.length ∧ hi a) ∨ (lo k ∧ g k a), fun i o e => ?_, fun j o e => ?_, fun k a f => ?_, fun k j a f f' => ?_⟩
  · obtain ⟨v, e1, r⟩ := R.slot i o e
    exact ⟨v, e1, (r.mono (Same.refl _) fun a f => kk _ a f).iff fun a => ⟨fun f => .inr ⟨trivial, f⟩, fun f => f.elim (fun z => nomatch z.1) fun z => z.2⟩⟩
  · rcases getElem?_snoc e with e | ⟨rfl, rfl⟩
    · have hj := lt_of_get e
      obtain ⟨v, e1, r⟩ := R.temp j o (by rw [List.getElem?_append_left hj]; exact e)
      rw [List.getElem?_append_left (by omega)] at e1
      refine ⟨v, snoc_old e1, (r.mono (Same.refl _) fun a f => kk _ a f).iff fun a => ⟨fun f => .inr ⟨hj, f⟩, fun f => f.elim (fun z => ?_) fun z => z.2⟩⟩
      obtain ⟨z, _⟩ := z
      cases z
      omega
    · refine ⟨.ref p, by rw [hl]; exact snoc_new, (RO.on gi upd_same tl.symm (fun i o v ho hv => ?_) (fun i z => nog _ z.2) (fun i j a z z' => ?_) fun i a z => z.1).iff fun a => ⟨fun f => .inl ⟨rfl, f⟩, fun f => f.elim (fun z => z.2) fun z => (nlo z.1).elim⟩⟩
      · have hio := lt_of_get ho
        obtain ⟨v', e1, r⟩ := R.temp (ts.length + i) o (by rw [List.getElem?_append_right (by omega), Nat.add_sub_cancel_left]; exact ho)
        rw [hl, List.getElem?_append_right (by omega), Nat.add_sub_cancel_left, hv] at e1
        cases e1
        refine (r.mono (Same.refl _) fun a f => kk _ a (hl ▸ f)).iff fun a => ⟨fun f => ⟨hio, f⟩, fun f => f.2⟩
      · have := R.sep _ _ _ z.2 z'.2
        have := Sum.inr.inj this
        omega
  · rcases f with ⟨rfl, rfl | ⟨i, f⟩⟩ | ⟨_, f⟩
    · refine ⟨by rw [upd_same]; simp, F.sub.free hp, ?_⟩
      by_cases m : ξ.H0 a = none
      · exact .inl m
      · exact (F.live a m hp).elim
    · have h1 := R.own _ a f.2
      exact ⟨by rw [kk _ _ f.2]; exact h1.1, h1.2⟩
    · have h1 := R.own _ a f
      exact ⟨by rw [kk _ _ f]; exact h1.1, h1.2⟩
  · rcases f with ⟨rfl, f⟩ | ⟨l1, f⟩
    · rcases f' with ⟨rfl, _⟩ | ⟨l2, f'⟩
      · rfl
      · rcases f with rfl | ⟨i, f⟩
        · exact (nog _ f').elim
        · have := R.sep _ _ _ f.2 f'
          subst this
          exact (nlo2 _ l2).elim
    · rcases f' with ⟨rfl, f'⟩ | ⟨l2, f'⟩
      · rcases f' with rfl | ⟨i, f'⟩
        · exact (nog _ f).elim
        · have := R.sep _ _ _ f f'.2
          subst this
          exact (nlo2 _ l1).elim
      · exact R.sep _ _ _ f f'
def oNest (g : AOF) : OF := fun s => (g s).bind fun os s => if os.length ≤ sizeLine then .ok (.on os) s else .bad
theorem mo_nest {g : AOF} {es : List Expr} (h : MAO X c g es) : MO X c (oNest g) (.List es pos) := by
  refine ⟨PE.imp (pe_lst h.run) fun σ H Q q => ?_⟩
  obtain ⟨ξ, Y, s, tv, ts, hK, F, q⟩ := q
  refine ⟨ξ, Y, s, tv, ts, hK, F, ?_⟩
  unfold oNest at q
  cases e : g s with
  | bad => rw [e] at q; exact q.elim
  | ex x s1 => rw [e] at q; exact q
  | ok os s1 =>
    rw [e, Res.bind_ok] at q
    split at q
    · rename_i hsz
      intro Y1 H1 vs e1 F1
      have tl : os.length = vs.length := by have h1 := F1.tlen; have h2 := F.tlen; simp at h1; omega
      exact ⟨by rw [← tl]; exact hsz, fun p hp => q Y1 _ _ e1 (F1.joinN F.tlen hp)⟩
    · exact q.elim
/-- three names = three values -/
theorem ms_par3 {rf : List Bool} {i j l : Nat} {x y z : Str} {f : AOF} {a b d : Expr} {px py pz pt pos : Pos} {kt k2 pt2} (hc : X.calm = true) (hN : X.N.Nodup) (hi : X.N[i]? = some x) (hj : X.N[j]? = some y) (hl : X.N[l]? = some z) (hij : i ≠ j) (hil : i ≠ l) (hjl : j ≠ l)
    (hx : X.env.scope.names.lookup x = some .local) (hy : X.env.scope.names.lookup y = some .local) (hz : X.env.scope.names.lookup z = some .local) (ha : MAO X c f [a, b, d]) (hri : rf[i]? ≠ some true) (hrj : rf[j]? ≠ some true) (hrl : rf[l]? ≠ some true)
    (hw : swappedStores [.Tuple [.Name x px, .Name y py, .Name z pz] kt pt] (.Tuple [a, b, d] k2 pt2) X.env = pure (some [x, y, z]))
    (hs : swapsWithSole [.Tuple [.Name x px, .Name y py, .Name z pz] kt pt] (.Tuple [a, b, d] k2 pt2) pos.line X.env = pure false := by rfl) :
    MS X c rf (sPar [i, j, l] f) (.Assign [.Tuple [.Name x px, .Name y py, .Name z pz] kt pt] (.Tuple [a, b, d] k2 pt2) pos) := by
  refine ⟨PS.imp (ps_par3 hc hN hi hj hl hij hil hjl hx hy hz ha.run hw hs) fun D σ H q => ?_⟩
  obtain ⟨ξ, Y, s, hK, F, q⟩ := q
  refine sAO_seq hK F q fun os s1 Y1 H1 vs e1 F1 q1 => ?_
  split at q1
  · rename_i hl
    have hl2 : vs.length = 3 := F1.tlen.symm.trans hl
    obtain ⟨u, v, w, rfl⟩ : ∃ u v w, vs = [u, v, w] := by
      match vs, hl2 with
      | [u, v, w], _ => exact ⟨u, v, w, rfl⟩
    exact ⟨u, v, w, rfl, q1 Y1 H1 _ e1 (((Keep.set hri).trans (.set hrj)).trans (.set hrl)) (FS.asgAll (is := [i, j, l]) hl.symm F1)⟩
  · exact q1.elim
end
end MI

set_option Elab.async false
set_option linter.all false
set_option autoImplicit false
set_option maxRecDepth 100000
/-! MI: calls by names, lending in tests, comprehensions frozen at once. -/
namespace MI
open PySem PySem.Spec L2
def pickL {α : Type} (z : α) (ix : List Nat) (l : List α) : List α := ix.map fun j => l.getD j z
def pickIf {α : Type} (z : α) (m n : Nat) (ix : List Nat) (us ws : List α) : List α := if us.length = m ∧ ws.length = n then pickL z ix (us ++ ws) else []
theorem Vals.append' {xs ys : List V} {us ws : List Value} (r : Vals xs us) (r2 : Vals ys ws) : Vals (xs ++ ys) (us ++ ws) := by
  induction r with
  | nil => exact r2
  | cons a _ ih => exact .cons a ih
theorem Vals.pick {xs : List V} {us : List Value} (r : Vals xs us) : ∀ ix : List Nat, Vals (pickL .non ix xs) (pickL .none ix us)
  | [] => .nil
  | j :: ix => by
    refine .cons ?_ (Vals.pick r ix)
    cases e : xs[j]? with
    | none =>
      have h := r.length
      have : us[j]? = none := by
        rw [List.getElem?_eq_none_iff] at e ⊢
        omega
      simp only [List.getD, e, this, Option.getD_none]
      rfl
    | some x =>
      obtain ⟨u, e2, q⟩ := r.get e
      simp only [List.getD, e, e2, Option.getD_some]
      exact q
theorem DrAll.pick {K : PySem.W.Frag} {Y : Hp} {xs : List V} {ds : List D} (r : DrAll K Y xs ds) : ∀ ix : List Nat, DrAll K Y (pickL .non ix xs) (pickL .none ix ds)
  | [] => .nil
  | j :: ix => by
    refine .cons ?_ (DrAll.pick r ix)
    cases e : xs[j]? with
    | none =>
      have h := r.length
      have : ds[j]? = none := by
        rw [List.getElem?_eq_none_iff] at e ⊢
        omega
      simp only [List.getD, e, this, Option.getD_none]
      exact .non
    | some x =>
      obtain ⟨d, e2, q⟩ := r.getV e
      simp only [List.getD, e, e2, Option.getD_some]
      exact q
theorem kb_of {K : PySem.W.Frag} {x qual : Str} {st : Stmt} {f : Addr} {fd : FuncData} {ps ks : List Str} {m : Nat} {ix : List Nat} (F : Fun K x qual st f fd) (hne : ps ≠ [])
    (h : ∀ (kV doc pm : Value) (an : Option Addr) (cdv ct : Value) (us ws : List Value), us.length = m → ws.length = ks.length →
      bindArgs (PySem.W.fnOf x qual (defArgs st) (defBody st) (defScope st) .none kV doc pm an cdv ct) ⟨us, ks.zip ws⟩ = pure (ps.zip (pickL .none ix (us ++ ws)))) :
    KBinds K fd ps ks (pickIf .none m ks.length ix) (pickIf .non m ks.length ix) := by
  obtain ⟨oc, od, kV, doc, pm, an, cdv, ct, osl, rfl, lk, hcd⟩ := F.ex
  refine ⟨fun s us ws KX hl => ?_, fun {vs us zs ws} r rz => ?_⟩
  · unfold pickIf at hl ⊢
    split at hl
    · rename_i hh
      rw [if_pos hh]
      exact .of_eq (h kV doc pm an cdv ct us ws hh.1 hh.2)
    · exact (hne (List.eq_nil_of_length_eq_zero hl.symm)).elim
  · unfold pickIf
    rw [r.length, rz.length]
    split
    · exact Vals.pick (Vals.append' r rz) ix
    · exact .nil
section
variable {CX : CXT} {X : Cx} {k : Nat} {f : Addr} {fd : FuncData} {ps ks : List Str} {sp : Sp} {E : L2.St → XK} {x : Str} {p pos : Pos} {kws : List Keyword} {g : List Value → List Value → List Value} {gV : List V → List V → List V} {tk : TA}
def tCallGK0 (sp : Sp) (gV : List V → List V → List V) (E : L2.St → XK) (tk : TA) : TE := fun σ H Q => tk σ H fun zs H2 => sp (gV [] zs) H2 Q (E σ)
theorem pe_callGK0 (F : FnG X.prog X.w X.K X.mg X.base CX k f fd ps sp) (hG : X.A.guards = some []) (hr : Room k X.A) (hg : Gl X x) (hm : X.mg x = some (.ref f)) (hk : PySem.W.keepIn X.K (.ref f) = true) (hb : KBinds X.K fd ps ks g gV) (hx : ∀ σ, PassesAt CX X σ (E σ))
    (hkw : PK X kws tk) (hall : (backToKw pos (keywordEach kws X.env)).all (·.1.isSome) = true := by rfl) (hks : (backToKw pos (keywordEach kws X.env)).filterMap (·.1) = ks := by rfl)
    (hdb : (x == ("__debug__" : Str)) = false := by decide)
    (hpl : ((backTo pos (starEach [] X.env)).any (·.1) || (backToKw pos (keywordEach kws X.env)).any (·.1.isNone)) = false := by rfl) :
    PE X (.Call (.Name x p) [] kws pos) (tCallGK0 sp gV E tk) := by
  constructor
  intro pins s σ H Q I h
  refine wpAny_Call_Name_kw (ld_glob I hg hm ?_ hdb)
  refine PySem.W.callWith_KW0 (h₀ := X.base) I.ok.mod.kin hk hall (thn (hkw.run pos pins s σ H _ I h) ?_) hpl
  rintro ws s2 ⟨zs, H2, I2, rz, pr⟩
  refine ⟨I2.kIn, ?_⟩
  rw [hks]
  exact call_of (run_fnG F hG hr (hb.to s2 [] ws I2.kIn (by rw [← (hb.rel .nil rz).length]; exact F.len _ _ _ _ pr)) (hx σ) I2 (hb.rel .nil rz) pr)
end
section
variable {X : Cx} {c : Ct} {K : PySem.W.Frag} {ξ : Fx} {Y H : Hp} {σ : St} {s : S} {tv : List V} {ts : List OD}
variable {k : Nat} {f : Addr} {fd : FuncData} {ps ks : List Str} {x : Str} {p pos : Pos} {e : Expr} {es : List Expr} {F : List OD → Res OD} {n : Nat} {g h : AF} {kws : List Keyword} {m : Nat} {ix : List Nat}
/-- f(.., k = v): ix tells for each parameter its place among the values handed in -/
def oCallP (m n : Nat) (ix : List Nat) (g h : AF) (F : List OD → Res OD) : OF := fun s => (g s).bind fun ds s1 => (h s1).bind fun es s2 => if ds.length = m ∧ es.length = n then (match F ((pickL .none ix (ds ++ es)).map .fz) with
  | .ok o _ => .ok o s2
  | _ => .bad) else .bad
theorem callP_core {vs ws : List V} {ds es : List D} {Q : VK} (hK : ξ.K = c.K) (F2 : FS ξ Y H σ s tv ts) (r1 : DrAll c.K Y vs ds) (r2 : DrAll c.K Y ws es) (hn : ix.length = n)
    (q2 : out c ξ Y σ tv ts (fun o s' => ∀ Y' H' v, Same Y Y' → FS ξ Y' H' σ s' (tv ++ [v]) (ts ++ [o]) → Q v H') (if ds.length = m ∧ es.length = ks.length then (match F ((pickL .none ix (ds ++ es)).map .fz) with
      | .ok o _ => .ok o s
      | _ => .bad) else .bad)) : spF c.K c.er false n F (pickIf .non m ks.length ix vs ws) H Q (fun cl x H => False) := by
  split at q2
  · rename_i hh
    have r3 : DrAll c.K Y (pickL .non ix (vs ++ ws)) (pickL .none ix (ds ++ es)) := (r1.append r2).pick ix
    unfold pickIf
    rw [if_pos ⟨r1.length.trans hh.1, r2.length.trans hh.2⟩]
    obtain ⟨ξ', a1, b1, c1, d1, back⟩ := F2.enterD (hK ▸ r3)
    refine ⟨ξ', Y, (pickL .none ix (ds ++ es)).map OD.fz, a1.trans hK, b1, c1, by simp [pickL, hn], d1, ?_⟩
    cases ef : F ((pickL .none ix (ds ++ es)).map OD.fz) with
    | ok o s3 =>
      rw [ef] at q2
      exact fun Y3 H3 v e3 F3 => q2 Y3 H3 v e3 (back Y3 H3 s3 [v] [o] e3 F3)
    | ex x s3 => rw [ef] at q2; exact q2.elim
    | bad => rw [ef] at q2; exact q2.elim
  · exact q2.elim
theorem mo_callP0 (Fo : FnG X.prog X.w X.K X.mg X.base CX0 k f fd ps (spF c.K c.er false n F)) (hG : X.A.guards = some []) (hr : Room k X.A) (hg : Gl X x) (hm : X.mg x = some (.ref f)) (hk : PySem.W.keepIn X.K (.ref f) = true)
    (hb : KBinds X.K fd ps ks (pickIf .none 0 ks.length ix) (pickIf .non 0 ks.length ix)) (hn : ix.length = n) (hkw : MK X c h kws)
    (hall : (backToKw pos (keywordEach kws X.env)).all (·.1.isSome) = true := by rfl) (hks : (backToKw pos (keywordEach kws X.env)).filterMap (·.1) = ks := by rfl)
    (hdb : (x == ("__debug__" : Str)) = false := by decide)
    (hpl : ((backTo pos (starEach [] X.env)).any (·.1) || (backToKw pos (keywordEach kws X.env)).any (·.1.isNone)) = false := by rfl) :
    MO X c (oCallP 0 ks.length ix aNil h F) (.Call (.Name x p) [] kws pos) := by
  refine ⟨PE.imp (pe_callGK0 (E := fun σ cl x H => False) Fo hG hr hg hm hk hb (fun σ => fun _ _ _ _ _ _ z => z.elim) hkw.run hall hks hdb hpl) fun σ H Q q => ?_⟩
  obtain ⟨ξ, Y, s, tv, ts, hK, Fr, q⟩ := q
  refine tA_seq hK Fr q fun es s2 Y2 H2 ws e2 F2 r2 q2 => ?_
  exact callP_core (vs := []) (ds := []) hK F2 .nil r2 hn (out.mono c q2 e2 fun o s z Y' H' v a b => z Y' H' v (e2.trans a) b)
theorem mo_callP (Fo : FnG X.prog X.w X.K X.mg X.base CX0 k f fd ps (spF c.K c.er false n F)) (hG : X.A.guards = some []) (hr : Room k X.A) (hg : Gl X x) (hm : X.mg x = some (.ref f)) (hk : PySem.W.keepIn X.K (.ref f) = true)
    (hb : KBinds X.K fd ps ks (pickIf .none m ks.length ix) (pickIf .non m ks.length ix)) (hn : ix.length = n) (ha : MA X c g (e :: es)) (hkw : MK X c h kws)
    (hall : (backToKw pos (keywordEach kws X.env)).all (·.1.isSome) = true := by rfl) (hks : (backToKw pos (keywordEach kws X.env)).filterMap (·.1) = ks := by rfl)
    (hdb : (x == ("__debug__" : Str)) = false := by decide) (he : starEach (e :: es) X.env = (false, eval e X.env) :: starEach es X.env := by rfl)
    (hpl : ((backTo pos (starEach (e :: es) X.env)).any (·.1) || (backToKw pos (keywordEach kws X.env)).any (·.1.isNone)) = false := by rfl) :
    MO X c (oCallP m ks.length ix g h F) (.Call (.Name x p) (e :: es) kws pos) := by
  refine ⟨PE.imp (pe_callGK (E := fun σ cl x H => False) Fo hG hr hg hm hk hb (fun σ => fun _ _ _ _ _ _ z => z.elim) ha.run hkw.run hall hks hdb he hpl) fun σ H Q q => ?_⟩
  obtain ⟨ξ, Y, s, tv, ts, hK, Fr, q⟩ := q
  refine tA_seq hK Fr q fun ds s1 Y1 H1 vs e1 F1 r1 q1 => ?_
  refine tA_seq hK F1 (out.mono c q1 e1 (fun _ _ z => z)) fun es s2 Y2 H2 ws e2 F2 r2 q2 => ?_
  exact callP_core hK F2 (r1.mono e2) r2 hn (out.mono c q2 e2 fun o s z Y' H' v a b => z Y' H' v ((e1.trans e2).trans a) b)
/-! ### lending in tests -/
def kLend (ms : List Mode) (f : TF) : TF := fun s => if ms.length = s.length then match f (brw ms s) with
    | .ok d s' => match rst ms s s' with
      | some r => .ok d r
      | none => .bad
    | .ex e s' => match rst ms s s' with
      | some r => .ex e r
      | none => .bad
    | .bad => .bad
  else .bad
theorem mt_lend {ms : List Mode} {f : TF} {e : Expr} (h : MT X c f e) : MT X c (kLend ms f) e := by
  refine ⟨PT.imp h.run fun σ H Q q => ?_⟩
  obtain ⟨ξ, Y, s, tv, ts, hK, F, q⟩ := q
  unfold kLend at q
  split at q
  · rename_i hm
    obtain ⟨ξ', Y1, hK', e1, F1, back⟩ := F.lend hm
    refine ⟨ξ', Y1, brw ms s, [], [], hK'.trans hK, F1, ?_⟩
    cases ef : f (brw ms s) with
    | ok d s' =>
      rw [ef] at q
      intro Y' H' e2 F2
      simp only at q
      split at q
      · rename_i r er
        obtain ⟨Y2, e3, F3, r3⟩ := back Y' H' s' r [] [] e2 F2 er rfl
        rw [List.append_nil, List.append_nil] at F3
        exact q Y2 H' e3 F3
      · exact q.elim
    | ex x s' =>
      rw [ef] at q
      intro Y' H' cl y e2 F2 er2
      simp only at q
      split at q
      · rename_i r er
        obtain ⟨Y2, e3, F3, _⟩ := back Y' H' s' r [] [] e2 F2 er rfl
        rw [List.append_nil, List.append_nil] at F3
        exact q Y2 H' cl y e3 F3 er2
      · exact q.elim
    | bad => rw [ef] at q; exact q.elim
  · exact q.elim
/-! ### y = [..], frozen -/
theorem sAsgFrz_core {rf : List Bool} {i : Nat} {f : OF} {D : Ends} {σ : St} {H : Hp} (hr : rf[i]? ≠ some true) (q : tS c rf (sAsg (eFrz f) (gN i)) D σ H) : tAsg (tO c f) (gName i) D σ H := by
  obtain ⟨ξ, Y, s, hK, F, q⟩ := q
  unfold sAsg eFrz at q
  refine ⟨ξ, Y, s, [], [], hK, F, ?_⟩
  cases e : f s with
  | ok o s1 =>
    rw [e] at q
    intro Y1 H1 v e1 F1
    obtain ⟨Y2, e2, F2, r2⟩ := FS.freezeT (tv := []) (ts := []) F1
    exact q Y2 H1 _ (e1.trans e2) (.set hr) (F2.asgD r2 i)
  | ex x s1 => rw [e] at q; exact fun Y' H' cl y e' F' er => q Y' H' σ cl y e' (.refl _ _) F' er
  | bad => rw [e] at q; exact q
theorem ms_asgLc {rf : List Bool} {ow : List Bool} {it : IF} {g : GF} {t : TF} {f : EF} {elt tg iter : Expr} {ifs : List Expr} {scope : Scope} {own : List (Str × Nat)} {pos spos py : Pos} {i : Nat} {y : Str} (hc : X.calm = true) (hN : X.N.Nodup) (hy : X.N[i]? = some y) (hyl : X.env.scope.names.lookup y = some .local)
    (hsw : swapsWith (.ListComp elt [⟨tg, iter, ifs, 0⟩] scope pos) (some (.Name y py)) spos.line X.env = pure true) (ok : BlkOk X.N X.env.scope scope own) (hf : Flags ow X.N.length (own.map (·.2)))
    (hi : MI_ X c it tg iter) (hg : ∀ (s : Shared) (H : Hp) (C : Addr) (cl : List (Str × Addr)) (fp : List Addr), MG (X.blk s H scope (compEnvC scope cl C X.env) fp) c.blk (ow.map not) g tg)
    (ht : ∀ (s : Shared) (H : Hp) (C : Addr) (cl : List (Str × Addr)) (fp : List Addr), PTs (X.blk s H scope (compEnvC scope cl C X.env) fp) ifs (tT c.blk t))
    (he : ∀ (s : Shared) (H : Hp) (C : Addr) (cl : List (Str × Addr)) (fp : List Addr), ME (X.blk s H scope (compEnvC scope cl C X.env) fp) c.blk f elt) (hr : rf[i]? ≠ some true := by decide) (hs : ∀ x, foldedSetIterable iter X.env x = pure x := by intro _; rfl) :
    MS X c rf (sAsg (eFrz (oLc ow it g t f)) (gN i)) (.Assign [.Name y py] (.ListComp elt [⟨tg, iter, ifs, 0⟩] scope pos) spos) :=
  ⟨PS.imp (ps_setLc hc hN hy hyl hsw hi.run ok (fun s H C cl fp => (hg s H C cl fp).run) ht (fun s H C cl fp => (he s H C cl fp).run) hs) fun D σ H q => by
    obtain ⟨ξ, Y, s, hK, F, q⟩ := sAsgFrz_core hr q
    exact lc_reads hf ⟨ξ, Y, s, hK, F, q⟩⟩
end
/-- nothing is raised -/
def noEr : Exn → Value → Option Addr → Hp → Prop := fun _ _ _ _ => False
/-- turns that a while loop may take -/
def fuel : Nat := 10000000
end MI

set_option Elab.async false
set_option linter.all false
set_option autoImplicit false
set_option maxRecDepth 100000
/-! MI: more built-ins, module constants. -/
namespace MI
open PySem PySem.Spec L2
section
variable {X : Cx} {c : Ct} {K : PySem.W.Frag} {ξ : Fx} {Y H : Hp} {σ : St} {s : S} {tv : List V} {ts : List OD}
variable {fa fb : EF} {a b : Expr} {p pos : Pos}
def gcdD : D → D → Option OD
  | .int i, .int j => some (.fz (.int ((Nat.gcd i.natAbs j.natAbs : Nat) : Int)))
  | _, _ => none
theorem mo_gcd {x : Str} (hg : Gl X x) (hm : X.mg x = some (.builtin "math.gcd")) (ha : ME X c fa a) (hb : ME X c fb b) (hdb : (x == ("__debug__" : Str)) = false := by decide) (he : starEach [a, b] X.env = (false, eval a X.env) :: starEach [b] X.env := by rfl) (he2 : starEach [b] X.env = (false, eval b X.env) :: starEach [] X.env := by rfl) (hpl : (backTo pos (starEach [b] X.env)).any (·.1) = false := by rfl) :
    MO X c (oBlt (two gcdD) (aCons fa (aCons fb aNil))) (.Call (.Name x p) [a, b] [] pos) :=
  ⟨PE.imp (pe_callBfun cr_gcd hg hm (ma_cons ha (ma_cons hb ma_nil he2) he).run hdb he hpl) fun _ _ _ q => blt_core (CallL.two fun Y H Q x y d d' o e r r' q g => by
    unfold gcdD at q
    split at q
    · cases q
      rw [r.int_inv, r'.int_inv]
      exact ⟨_, _, rfl, g _ _ _ (.old (.int _))⟩
    · cases q) q⟩
/-- a module's constant: a number -/
theorem me_glI {x : Str} {i : Int} {t : Tok} (hg : Gl X x) (hm : X.mg x = some (.int i t)) (hd : (x == ("__debug__" : Str)) = false := by decide) : ME X c (eC (.int i)) (.Name x p) := me_c (pe_glob (v := .int i) hg hm ⟨t, rfl⟩ hd) fun _ => .int i
end
end MI

set_option Elab.async false
set_option linter.all false
set_option autoImplicit false
set_option maxRecDepth 100000
/-! MI: enumerate of a tuple. -/
namespace MI
open PySem PySem.Spec L2
section
open PyProof.Rows
set_option maxHeartbeats 1000000 in
theorem meets_enum_begins {v : Value} {o : Obj} {H : Heap → Prop} (B : Begins v o H) :
    Meets (Builtin.«enumerate.__new__» ⟨[.type "enumerate", v], []⟩) (fun _ R s => H s.heap ∧
      R (.ok (.ret (.ref (s.heap.push o).objs.size))) { s with heap := (s.heap.push o).push { cls := .type "enumerate", data := .fields #[.none, .bool false, .ref s.heap.objs.size, rawInt 0, .none, .none] } }) :=
  .of_wp fun prog w A R s h => by
    obtain ⟨hp, g, d, tk, os⟩ := s; obtain ⟨h1, h⟩ := h
    have hsub := sub_enumerate
    have q1 : ∀ {A' : Around} {E : Value → Shared → Prop} {Q : Value → Shared → Prop}, Q (.ref hp.objs.size) ⟨hp.push o, g, d, tk, os⟩ → wpAny (model prog w) A' (pyIter v) Q E ⟨hp, g, d, tk, os⟩ :=
      fun q => B.iter prog w _ _ ⟨hp, g, d, tk, os⟩ _ h1 q
    wp_walk using q1
    refine wpAny_stack_any fun st => wpAny_pure ?_
    split
    · rename_i c _ _ _ _ _
      cases (c == Value.type "enumerate")
      · wp_walk using q1
        exact ⟨_, rfl, h⟩
      · wp_walk using q1
        exact ⟨_, rfl, h⟩
    · wp_walk using q1
      exact ⟨_, rfl, h⟩
/-- the tuple at a as it stands, each item in a new pair -/
def IteT (K : PySem.W.Frag) (a : Addr) : It :=
  ⟨fun i H => ∃ (xs : List V) (x : V), SqT K H a xs ∧ xs[i]? = some x, fun i H v H' => ∃ T x, v = .ref T ∧ H T = none ∧ H' = upd H T (.tup [.int (i : Nat), x]) ∧ ∀ xs, SqT K H a xs → xs[i]? = some x, fun i H => ∃ xs : List V, SqT K H a xs ∧ xs.length ≤ i⟩
theorem turn_enumT {P : Program} {w : World} {K : PySem.W.Frag} {elts : List Expr} {kk : Nat} {tpos : Pos} (a e it : Addr) :
    Turn P w K (.Tuple elts kk tpos) (IteT K a) [e, it] e (fun i h => (∃ old, IsEnum h e it ((i : Nat) : Int) old) ∧ h.IsTupleIter it a i ∧ e ≠ it ∧ e ≠ a ∧ a ≠ it) where
  mem := by simp
  obj := fun i h st b hb => by
    obtain ⟨⟨old, he⟩, ⟨o, ho, hc, hd⟩, _⟩ := st
    have e' : b = e ∨ b = it := by simpa using hb
    rcases e' with z | z
    · rw [z]; exact ⟨_, he, fun v q => nomatch q⟩
    · rw [z]; exact ⟨o, ho, fun v q => by rw [hd] at q; cases q⟩
  keep := fun i h h' st k => let ⟨⟨old, he⟩, hi, hne⟩ := st; ⟨⟨old, k e (by simp) _ he⟩, hi.at fun o q => k it (by simp) o q, hne⟩
  item := by
    intro X hP hw hK hc i pins s σ H E I hf st hg
    subst hP hw hK
    obtain ⟨⟨old, he⟩, hit, hne, hea, hai⟩ := st
    obtain ⟨xs, x, hq, hx⟩ := hg
    obtain ⟨its, rv, p, hz⟩ := I.tuple hq
    obtain ⟨u, hu, ru⟩ := rv.get hx
    have hel : e < s.heap.objs.size := Heap.lt_size he
    have hil : it < s.heap.objs.size := by obtain ⟨_, q, _⟩ := hit; exact Heap.lt_size q
    have hlt : i < its.toArray.size := by simpa using lt_of_get hu
    refine wpAny_pyNext_enum_itemD (Draws.tuple (show X.A.in1.handled = none from I.ok.hd hc) it a hai its.toArray) he ⟨hit, p⟩ hlt hne (by simp [hne, hea]) fun y h' tk hy ho hst hT hsz hk => ?_
    obtain rfl : y = u := by
      have : its[i]? = some y := by simpa using hy
      rw [hu] at this
      exact (Option.some.inj this).symm
    refine ⟨_, rfl, wpAny_letOwnedTupleGo_enum (s := { s with heap := h', toks := tk + 1 }) ho fun h'' he' sb => ?_⟩
    have hT2 : h''.get? s.heap.objs.size = some { cls := .type "tuple", data := .seq #[.int i tk, y] } := (sb.2 _ (Nat.ne_of_gt hel)).trans hT
    have new : ObjOk X.prog X.w (upd H s.heap.objs.size (.tup [.int (i : Nat), x])) h'' s.heap.objs.size (.tup [.int (i : Nat), x]) :=
      ⟨by show 2 ≤ sizeLine; decide, [.int i tk, y], .cons ⟨_, rfl⟩ (.cons ru .nil), ⟨_, hT2, rfl, _, rfl⟩⟩
    have I1 : Inv X pins σ (upd H s.heap.objs.size (.tup [.int (i : Nat), x])) { s with heap := h'', toks := tk + 1 } :=
      I.turnedNew (ch := [e, it]) (fun b ob hb q => (sb.2 b (fun z => hb (by simp [z]))).trans (hk b ob (fun z => hb (by simp [z])) (fun z => hb (by simp [z])) q)) hf (Nat.le_refl _) new
    refine ⟨.ref s.heap.objs.size, _, I1, rfl, ⟨_, x, rfl, I.hok.fresh (Nat.le_refl _), rfl, fun ys hy => by rw [I.tuple_inj hy hq]; exact hx⟩, ⟨⟨y, ?_⟩, hst.1.at fun o q => (sb.2 it (Ne.symm hne)).trans q, hne, hea, hai⟩, fun b hb => ?_⟩
    · have e1 : ((i + 1 : Nat) : Int) = (i : Int) + 1 := by omega
      rw [e1]; exact he'
    · have hb' : b < s.heap.objs.size := by
        have e' : b = e ∨ b = it := by simpa using hb
        rcases e' with z | z
        · rw [z]; exact hel
        · rw [z]; exact hil
      rw [upd_ne (Nat.ne_of_lt hb')]
      exact (hf b hb).1
  done := by
    intro X hP hw hK hc i pins s σ H E I hf st hg
    subst hP hw hK
    obtain ⟨⟨old, he⟩, hit, hne, hea, hai⟩ := st
    obtain ⟨xs, hq, hx⟩ := hg
    obtain ⟨its, rv, p, hz⟩ := I.tuple hq
    obtain ⟨f0, f1, f2, f3, f4, f5⟩ := hf it (by simp)
    have hl := rv.length
    have hx' : its.toArray[i]? = none := by simp; omega
    have hT : s.TypeIs (.ref e) "enumerate" := ⟨_, he, rfl⟩
    unfold pyNext
    refine wpAny_bind (wpAny_attempt (wpAny_callSpecial?_slot (name := Str.ofString "__next__") hT F.slot_enumerate_next
      (wpAny_call_entry F.slot_enumerate_next hT F.entry_enumerate_next ?_ (F.args_enumerate_next_1 _))))
    show wpAny _ _ (field (.ref e) 2 >>= _) _ _ _
    refine wpAny_bind (wpAny_field he rfl (x := .ref it) rfl ?_)
    refine wpAny_bind (wpAny_nextOf_tuple_end (I.ok.hd hc) hit p hx' fun h' x he' hx' => ?_)
    obtain ⟨o, ho, hcl⟩ := hx'
    refine wpAny_bind (wpAny_isInstance (T := "StopIteration") (b := true) ⟨o, ho, hcl⟩ isSubtype_stop ?_)
    exact wpAny_pure ⟨rfl, I.turned (t' := s.toks) (fun b o hb q => he' b o hb q) f0 f1 f3 f4 f5⟩
  self := fun A i s Q E st h => let ⟨⟨_, he⟩, _⟩ := st; wpAny_pyIter_enum he h
end
end MI

set_option Elab.async false
set_option linter.all false
set_option autoImplicit false
set_option maxRecDepth 100000
/-! MI: rows = zip(a, b); return f([.. for .. in rows]). -/
namespace MI
open PySem PySem.Spec L2
section
open PyProof.Rows
def ExO (a : Addr) (o : Obj) : HO := .ext fun h => h.get? a = some o
def layE (H : Hp) (l : List (Addr × Obj)) : Hp := fun b => match l.lookup b with
  | some o => some (ExO b o)
  | none => H b
theorem lookup_mem {l : List (Addr × Obj)} {b : Addr} {o : Obj} (h : l.lookup b = some o) : (b, o) ∈ l := by
  induction l with
  | nil => cases h
  | cons p l ih =>
    obtain ⟨c, q⟩ := p
    rw [List.lookup_cons] at h
    split at h
    · rename_i e
      have : b = c := by simpa using e
      subst this
      cases h
      exact List.mem_cons_self
    · exact List.mem_cons_of_mem _ (ih h)
theorem layE_old {P : Program} {w : World} {H : Hp} {h : Heap} {l : List (Addr × Obj)} (x : HOk P w H h) (hp : ∀ p ∈ l, h.objs.size ≤ p.1) {c : Addr} {u : HO} (e : H c = some u) : layE H l c = some u := by
  unfold layE
  cases q : l.lookup c with
  | none => exact e
  | some o =>
    have h1 : h.objs.size ≤ c := hp _ (lookup_mem q)
    exact absurd (Nat.lt_of_lt_of_le (x.lt e) h1) (Nat.lt_irrefl _)
theorem hok_layE {P : Program} {w : World} {H : Hp} {h h' : Heap} {l : List (Addr × Obj)} (x : HOk P w H h) (k : ∀ b u, h.get? b = some u → h'.get? b = some u) (hp : ∀ p ∈ l, h.objs.size ≤ p.1) (hg : ∀ p ∈ l, h'.get? p.1 = some p.2) : HOk P w (layE H l) h' := fun b u e => by
  cases q : l.lookup b with
  | some o =>
    have e2 : layE H l b = some (ExO b o) := by unfold layE; rw [q]
    rw [e2] at e
    cases e
    have g := hg _ (lookup_mem q)
    exact ⟨g, ⟨_, g⟩, fun h1 h2 q k => k _ q⟩
  | none =>
    have e2 : layE H l b = H b := by unfold layE; rw [q]
    rw [e2] at e
    exact (x b u e).stay (fun c v _ q => k c v q) (fun c q => layE_old x hp q) fun c xs q => layE_old x hp q
theorem un_layE {P : Program} {w : World} {fs ex : List Addr} {H : Hp} {h h' : Heap} {l : List (Addr × Obj)} (x : HOk P w H h) (k : ∀ b u, h.get? b = some u → h'.get? b = some u) (hp : ∀ p ∈ l, h.objs.size ≤ p.1) : Un fs ex H (layE H l) h h' where
  keep := fun b u q _ _ _ => k b u q
  slot := fun b u q _ _ _ => ⟨u.slots, k b u q⟩
  free := fun b u q n _ => by
    unfold layE
    cases e : l.lookup b with
    | none => exact n
    | some o =>
      have h1 : h.objs.size ≤ b := hp _ (lookup_mem e)
      exact absurd (Nat.lt_of_lt_of_le (Heap.lt_size q) h1) (Nat.lt_irrefl _)
  there := fun b u q _ => ⟨u, k b u q⟩
  tups := fun b xs q => layE_old x hp q
  frzs := fun b u xs q => layE_old x hp q
  tbls := fun b ps q => ⟨#[], by rw [layE_old x hp q]; simp⟩
def StZ (l : Bool) (h : Heap) (z TI TO i1 i2 a b : Addr) : Prop := IsZip h z TI TO .none ∧ IsPair h TI (.ref i1) (.ref i2) ∧ (∃ x y, IsPair h TO x y) ∧ if l = true then h.IsListIter i1 a 0 ∧ h.IsListIter i2 b 0 else h.IsTupleIter i1 a 0 ∧ h.IsTupleIter i2 b 0
def Itq (K : PySem.W.Frag) (l : Bool) (a b : Addr) : It := if l = true then Itz K a b else RZ.ItzT K a b
/-- a zip as a value -/
def tZip (K : PySem.W.Frag) (n : Nat) (ta : TA) : TE := fun σ H Q => ta σ H fun vs H1 => ∃ a b l, vs = [.ref a, .ref b] ∧ (if l = true then (∃ xs, SqL K H1 a xs) ∧ ∃ ys, SqL K H1 b ys else (∃ xs, SqT K H1 a xs) ∧ ∃ ys, SqT K H1 b ys) ∧
  ∀ z TI TO i1 i2 oz oTI oTO o1 o2, ZipApart z TI TO i1 i2 a b → (∀ p ∈ [z, TI, TO, i1, i2], H1 p = none ∧ n ≤ p) →
    (∀ h : Heap, h.get? z = some oz → h.get? TI = some oTI → h.get? TO = some oTO → h.get? i1 = some o1 → h.get? i2 = some o2 → StZ l h z TI TO i1 i2 a b) →
    Q (.ref z) (layE H1 [(z, oz), (TI, oTI), (TO, oTO), (i1, o1), (i2, o2)])
theorem pe_zipV {X : Cx} {e e2 : Expr} {ta : TA} {p pos : Pos} (hg : Gl X "zip") (hm : X.mg "zip" = none) (ha : PA X [e, e2] ta)
    (hs : starEach [e, e2] X.env = (false, eval e X.env) :: starEach [e2] X.env := by rfl) (hpl : (backTo pos (starEach [e2] X.env)).any (·.1) = false := by rfl) :
    PE X (.Call (.Name "zip" p) [e, e2] [] pos) (tZip X.K X.s_0.heap.objs.size ta) := by
  refine ⟨fun pins s σ H Q I h => ?_⟩
  refine wpAny_Call_Name_kw (ld_blt I hg hm PyProof.Rows.boot_zip (PyProof.Rows.callWith_type1 (thn (ha.run pos pins s σ H _ I h) fun us s1 ⟨vs, H1, I1, r1, q1⟩ => ?_) hs hpl))
  obtain ⟨a, b, l, ex, hq, q⟩ := q1
  subst ex
  cases r1 with
  | cons r rr =>
    cases rr with
    | cons r' rr =>
      cases rr
      cases r
      cases r'
      have fin : ∀ (h' : Heap) (oz oTI oTO o1 o2 : Obj), ZipApart (s1.heap.objs.size + 4) (s1.heap.objs.size + 2) (s1.heap.objs.size + 3) s1.heap.objs.size (s1.heap.objs.size + 1) a b → h'.get? (s1.heap.objs.size + 4) = some oz → h'.get? (s1.heap.objs.size + 2) = some oTI → h'.get? (s1.heap.objs.size + 3) = some oTO → h'.get? s1.heap.objs.size = some o1 → h'.get? (s1.heap.objs.size + 1) = some o2 →
          (∀ c o, s1.heap.get? c = some o → h'.get? c = some o) →
          (∀ h : Heap, h.get? (s1.heap.objs.size + 4) = some oz → h.get? (s1.heap.objs.size + 2) = some oTI → h.get? (s1.heap.objs.size + 3) = some oTO → h.get? s1.heap.objs.size = some o1 → h.get? (s1.heap.objs.size + 1) = some o2 → StZ l h (s1.heap.objs.size + 4) (s1.heap.objs.size + 2) (s1.heap.objs.size + 3) s1.heap.objs.size (s1.heap.objs.size + 1) a b) →
          EP X pins σ Q (.ref (s1.heap.objs.size + 4)) { s1 with heap := h' } := fun h' oz oTI oTO o1 o2 D g1 g2 g3 g4 g5 k st => by
        have fr : ∀ p ∈ [s1.heap.objs.size + 4, s1.heap.objs.size + 2, s1.heap.objs.size + 3, s1.heap.objs.size, s1.heap.objs.size + 1], s1.heap.objs.size ≤ p := fun p hp => by
          simp only [List.mem_cons, List.not_mem_nil, or_false] at hp
          omega
        have hp : ∀ p ∈ [(s1.heap.objs.size + 4, oz), (s1.heap.objs.size + 2, oTI), (s1.heap.objs.size + 3, oTO), (s1.heap.objs.size, o1), (s1.heap.objs.size + 1, o2)], s1.heap.objs.size ≤ p.1 := fun p hp => fr p.1 (by
          have := List.mem_map_of_mem (f := Prod.fst) hp
          simpa using this)
        have hgt : ∀ p ∈ [(s1.heap.objs.size + 4, oz), (s1.heap.objs.size + 2, oTI), (s1.heap.objs.size + 3, oTO), (s1.heap.objs.size, o1), (s1.heap.objs.size + 1, o2)], h'.get? p.1 = some p.2 := fun p hp => by
          simp only [List.mem_cons, List.not_mem_nil, or_false] at hp
          rcases hp with rfl | rfl | rfl | rfl | rfl <;> assumption
        have I2 := I1.un (t' := s1.toks) (un_layE I1.hok k hp) (hok_layE I1.hok k hp hgt)
        exact ⟨.ref (s1.heap.objs.size + 4), _, I2, rfl, q _ _ _ _ _ oz oTI oTO o1 o2 D (fun p hp => ⟨I1.hok.fresh (fr p hp), Nat.le_trans I1.sz (fr p hp)⟩) st⟩
      cases l with
      | true =>
        obtain ⟨⟨xs, hqx⟩, ys, hqy⟩ := hq
        obtain ⟨its, rv, p1, _⟩ := I1.list hqx
        obtain ⟨its2, rv2, p2, _⟩ := I1.list hqy
        refine call_zip_2 p1.isList p2.isList fun h' hz hTI hTO h1 h2 hsz hk => ?_
        obtain ⟨o1, e1, c1⟩ := id h1
        obtain ⟨o2, e2, c2⟩ := id h2
        exact fin h' _ _ _ o1 o2 (PySem.W.ktu_apart s1.heap.objs.size a b p1.lt p2.lt) hz hTI hTO e1 e2 hk fun h z1 z2 z3 z4 z5 => ⟨z1, z2, ⟨_, _, z3⟩, ⟨o1, z4, c1⟩, o2, z5, c2⟩
      | false =>
        obtain ⟨⟨xs, hqx⟩, ys, hqy⟩ := hq
        obtain ⟨its, rv, p1, _⟩ := I1.tuple hqx
        obtain ⟨its2, rv2, p2, _⟩ := I1.tuple hqy
        obtain ⟨oa, ha1, _⟩ := id p1
        obtain ⟨ob, hb1, _⟩ := id p2
        refine RZ.call_zipT (show s1.heap.IsTuple a its.toArray from p1) (show s1.heap.IsTuple b its2.toArray from p2) fun h' hz hTI hTO h1 h2 hsz hk => ?_
        obtain ⟨o1, e1, c1⟩ := id h1
        obtain ⟨o2, e2, c2⟩ := id h2
        exact fin h' _ _ _ o1 o2 (PySem.W.ktu_apart s1.heap.objs.size a b (Heap.lt_size ha1) (Heap.lt_size hb1)) hz hTI hTO e1 e2 hk fun h z1 z2 z3 z4 z5 => ⟨z1, z2, ⟨_, _, z3⟩, ⟨o1, z4, c1⟩, o2, z5, c2⟩
def iZv (K : PySem.W.Frag) (n k : Nat) : TI := fun σ H R => ∃ z TI TO i1 i2 a b l oz oTI oTO o1 o2 H1, ZipApart z TI TO i1 i2 a b ∧ (∀ p ∈ [z, TI, TO, i1, i2], H1 p = none ∧ n ≤ p) ∧
    (∀ h : Heap, h.get? z = some oz → h.get? TI = some oTI → h.get? TO = some oTO → h.get? i1 = some o1 → h.get? i2 = some o2 → StZ l h z TI TO i1 i2 a b) ∧
    σ[k]? = some (some (.ref z)) ∧ H = layE H1 [(z, oz), (TI, oTI), (TO, oTO), (i1, o1), (i2, o2)] ∧ R (Itq K l a b) H1
theorem dropN {H : Hp} {a b : Addr} (h : H b = none) : ItX.dropH H a b = none := by
  by_cases e : b = a
  · rw [e, ItX.dropH_same]
  · rw [ItX.dropH_ne e]; exact h
theorem pi_zipV {X : Cx} {x : Str} {k : Nat} {elts : List Expr} {kk : Nat} {tpos pos : Pos} (hN : X.N[k]? = some x) (hv : Vis X.env.scope x) (hd : (x == ("__debug__" : Str)) = false := by decide) (hcd : (x == ("__classdict__" : Str)) = false := by decide) :
    PI X (.Tuple elts kk tpos) (.Name x pos) (iZv X.K X.s_0.heap.objs.size k) := by
  refine ⟨fun pins s σ H R I h => ?_⟩
  obtain ⟨z, TI, TO, i1, i2, a, b, l, oz, oTI, oTO, o1, o2, H0, D, fr, st, hs, eH0, q⟩ := h
  refine thn ((pe_var (pos := pos) (i := k) hN hv hd hcd).run pins s σ H (fun v H1 => v = .ref z ∧ H1 = H) I ⟨.ref z, hs, rfl, rfl⟩) fun u s1 ⟨v, H1, I1, r1, ev, eH⟩ => ?_
  subst ev
  rw [eH] at I1
  cases r1
  have fz := fr z (by simp)
  have fTI := fr TI (by simp)
  have fTO := fr TO (by simp)
  have f1 := fr i1 (by simp)
  have f2 := fr i2 (by simp)
  have b1 : ∀ {x y : Addr}, x ≠ y → (x == y) = false := fun h => by simpa using h
  have Hz : H z = some (ExO z oz) := by subst eH0; simp [layE]
  have HTI : H TI = some (ExO TI oTI) := by subst eH0; simp [layE, b1 D.TIz, List.lookup_cons]
  have HTO : H TO = some (ExO TO oTO) := by subst eH0; simp [layE, b1 D.TOz, b1 D.TITO.symm, List.lookup_cons]
  have H1' : H i1 = some (ExO i1 o1) := by subst eH0; simp [layE, b1 D.i1z, b1 D.TIi1.symm, b1 D.TOi1.symm, List.lookup_cons]
  have H2' : H i2 = some (ExO i2 o2) := by subst eH0; simp [layE, b1 D.i2z, b1 D.TIi2.symm, b1 D.TOi2.symm, b1 D.i12.symm, List.lookup_cons]
  have S := st s1.heap (I1.hok z _ Hz).1 (I1.hok TI _ HTI).1 (I1.hok TO _ HTO).1 (I1.hok i1 _ H1').1 (I1.hok i2 _ H2').1
  have J1 := ItX.inv_drop I1 Hz
  have J2 := ItX.inv_drop J1 (a := TI) ((ItX.dropH_ne D.TIz).trans HTI)
  have J3 := ItX.inv_drop J2 (a := TO) ((ItX.dropH_ne D.TITO.symm).trans ((ItX.dropH_ne D.TOz).trans HTO))
  have J4 := ItX.inv_drop J3 (a := i1) ((ItX.dropH_ne D.TOi1.symm).trans ((ItX.dropH_ne D.TIi1.symm).trans ((ItX.dropH_ne D.i1z).trans H1')))
  have J5 := ItX.inv_drop J4 (a := i2) ((ItX.dropH_ne D.i12.symm).trans ((ItX.dropH_ne D.TOi2.symm).trans ((ItX.dropH_ne D.TIi2.symm).trans ((ItX.dropH_ne D.i2z).trans H2'))))
  have eH5 : ItX.dropH (ItX.dropH (ItX.dropH (ItX.dropH (ItX.dropH H z) TI) TO) i1) i2 = H0 := by
    funext c
    by_cases c5 : c = i2
    · subst c5; rw [ItX.dropH_same, f2.1]
    rw [ItX.dropH_ne c5]
    by_cases c4 : c = i1
    · subst c4; rw [ItX.dropH_same, f1.1]
    rw [ItX.dropH_ne c4]
    by_cases c3 : c = TO
    · subst c3; rw [ItX.dropH_same, fTO.1]
    rw [ItX.dropH_ne c3]
    by_cases c2 : c = TI
    · subst c2; rw [ItX.dropH_same, fTI.1]
    rw [ItX.dropH_ne c2]
    by_cases c1 : c = z
    · subst c1; rw [ItX.dropH_same, fz.1]
    rw [ItX.dropH_ne c1, eH0]
    simp [layE, List.lookup_cons, b1 c1, b1 c2, b1 c3, b1 c4, b1 c5]
  rw [eH5] at J5
  have fp : ∀ c ∈ [z, TI, TO, i1, i2], FpOk X pins H0 c := fun c hc => by
    have hn := (fr c hc)
    have hH : ∃ u, H c = some u := by
      simp only [List.mem_cons, List.not_mem_nil, or_false] at hc
      rcases hc with rfl | rfl | rfl | rfl | rfl
      · exact ⟨_, Hz⟩
      · exact ⟨_, HTI⟩
      · exact ⟨_, HTO⟩
      · exact ⟨_, H1'⟩
      · exact ⟨_, H2'⟩
    obtain ⟨u, hu⟩ := hH
    have := ItX.inv_fp I1 hu hn.2
    exact ⟨hn.1, this.2⟩
  refine wpAny_pyIter_zip S.1 ?_
  cases l with
  | true => exact ⟨z, [z, TI, TO, i1, i2], _, _, H0, rfl, J5, turn_zip D, ⟨S.1, S.2.1, S.2.2.1, S.2.2.2⟩, fp, q⟩
  | false => exact ⟨z, [z, TI, TO, i1, i2], _, _, H0, rfl, J5, RZ.turn_zipT D, ⟨S.1, S.2.1, S.2.2.1, S.2.2.2⟩, fp, q⟩
end
end MI

set_option Elab.async false
set_option linter.all false
set_option autoImplicit false
set_option maxRecDepth 100000
/-! MI: a comprehension over what is told; rows = zip(..), return f([.. in rows]). -/
namespace MI
open PySem PySem.Spec L2
section
variable {X : Cx} {c : Ct} {rf : List Bool}
theorem lc_body {ow : List Bool} {g : GF} {t : TF} {f : EF} {own : List (Str × Nat)} {σ : St} {H0 : Hp} {Q : VK} {N : List Str} {ξ : Fx} {Y1 H1 : Hp} {s1 : S} {tv : List V} {ts : List OD} {J : It} {ds : List D} (hf : Flags ow N.length (own.map (·.2))) (hK : ξ.K = c.K) (F1 : FS ξ Y1 H1 σ s1 tv ts) (w : Walks c.K Y1 J ds) (hlen : ow.length = s1.length)
    (q1 : out c ξ Y1 σ tv ts (fun o s' => ∀ Y' H' v, Same Y1 Y' → FS ξ Y' H' σ s' (tv ++ [v]) (ts ++ [o]) → Q v H') ((lcL ow g t f ds [] (wipeF ow s1)).bind fun acc s2 => .ok (.ol acc) (backF ow s1 s2))) :
    tLc (fun _ _ R => R J H1) (tG (ow.map not) c.K g) (tT c.blk t) (tE c.blk f) (own.map (·.2)) σ H0 Q := by
  intro L hL
  have hn : s1.length = N.length := by rw [← hlen, hf]; simp
  have F2 := (F1.pushL hL (.nil : DrAll ξ.K Y1 [] [])).toBlk hf hn (wipe_length σ (own.map (·.2))) fun j hj hm => wipe_get hm
  refine ⟨fun i m H' => ∃ Y' s' acc, i ≤ ds.length ∧ m = ds.length - i ∧ Same Y1 Y' ∧ s'.length = N.length ∧ FS ξ Y' H' (wipe σ (own.map (·.2))) s' (tv ++ [.ref L]) (ts ++ [.ol acc]) ∧
      out c ξ Y1 σ tv ts (fun o s' => ∀ Y' H' v, Same Y1 Y' → FS ξ Y' H' σ s' (tv ++ [v]) (ts ++ [o]) → Q v H') ((lcL ow g t f (ds.drop i) acc s').bind fun acc s2 => .ok (.ol acc) (backF ow s1 s2)),
    ⟨ds.length, Y1, wipeF ow s1, [], Nat.zero_le _, by omega, Same.refl _, by rw [wipeF_length, hn], F2, q1⟩, ?_⟩
  rintro i m H' ⟨Y', s', acc, hle, rfl, e2, hn2, F3, q2⟩
  rcases Nat.lt_or_ge i ds.length with hlt | hge
  · have hd : ds[i]? = some ds[i] := List.getElem?_eq_getElem hlt
    rw [List.drop_eq_getElem_cons hlt] at q2
    refine .inr ⟨w.go i H' (e2.trans F3.sub) hlt, fun H3 => ∃ Y3 s3 acc3, Same Y1 Y3 ∧ s3.length = N.length ∧ FS ξ Y3 H3 (wipe σ (own.map (·.2))) s3 (tv ++ [.ref L]) (ts ++ [.ol acc3]) ∧
      out c ξ Y1 σ tv ts (fun o s' => ∀ Y' H' v, Same Y1 Y' → FS ξ Y' H' σ s' (tv ++ [v]) (ts ++ [o]) → Q v H') ((lcL ow g t f (ds.drop (i + 1)) acc3 s3).bind fun acc s2 => .ok (.ol acc) (backF ow s1 s2)), ?_, ?_⟩
    · rintro H3 ⟨Y3, s3, acc3, e3, n3, F3, q3⟩
      exact ⟨ds.length - (i + 1), by omega, Y3, s3, acc3, by omega, rfl, e3, n3, F3, q3⟩
    · intro x H3 hy
      obtain ⟨Y3, gv⟩ := w.yld i H' x H3 _ (e2.trans F3.sub) hd hy Y' e2 F3.sub
      obtain ⟨e3, F4⟩ := gv.fs hK F3
      obtain ⟨Y4, e4, F5, r5⟩ := F4.freezeT
      have e5 : Same Y' Y4 := e3.trans e4
      simp only [lcL] at q2
      split at q2
      · exact q2.elim
      · rename_i s5 eg
        refine ⟨ξ, Y4, s', ds[i], tv ++ [.ref L], ts ++ [.ol acc], hK, F5, hK ▸ r5, s5, eg, fun Y6 H6 σ6 e6 k6 F6 => ?_⟩
        have l6 : σ6.length = σ.length := by rw [k6.1, wipe_length]
        have c6 : ∀ j, j < σ.length → j ∉ own.map (·.2) → σ6[j]? = (wipe σ (own.map (·.2)))[j]? := fun j hj hm => by
          refine k6.2 j ?_
          rw [List.getElem?_map, hf.get (by rw [← hn, F1.len]; exact hj)]
          simp [hm]
        refine ⟨wipe_eq l6 c6, ?_⟩
        have back : ∀ {Y8 H8 s8 acc8}, FS ξ Y8 H8 σ6 s8 (tv ++ [.ref L]) (ts ++ [.ol acc8]) → s8.length = N.length ∧ FS ξ Y8 H8 (wipe σ (own.map (·.2))) (wipeF ow s8) (tv ++ [.ref L]) (ts ++ [.ol acc8]) := fun {Y8 H8 s8 acc8} F8 => by
          have n8 : s8.length = N.length := by rw [F8.len, l6, ← F1.len, hn]
          exact ⟨n8, F8.toBlk hf n8 (by rw [wipe_length, l6]) fun j hj hm => (c6 j (by omega) hm).symm⟩
        refine ⟨ξ, Y6, s5, _, _, hK, F6, ?_⟩
        rw [show ∀ (a : Res Bool) (k : Bool → S → Res (List D)) (k' : List D → S → Res OD), ((a.noex.bind k).bind k') = a.noex.bind fun b s => (k b s).bind k' from fun a k k' => by cases a <;> rfl] at q2
        obtain ⟨b, s7, et, q3⟩ := noex_ok q2
        rw [et]
        intro Y7 H7 e7 F7
        have all7 : Same Y1 Y7 := ((e2.trans e5).trans e6).trans e7
        cases b with
        | false =>
          rw [if_neg Bool.false_ne_true] at q3
          refine iteF ⟨Y7, wipeF ow s7, acc, all7, ?_, (back F7).2, q3⟩
          rw [wipeF_length]; exact (back F7).1
        | true =>
          rw [if_pos rfl] at q3
          refine iteT ⟨ξ, Y7, s7, _, _, hK, F7, ?_⟩
          rw [show ∀ (a : Res D) (k : D → S → Res (List D)) (k' : List D → S → Res OD), ((a.noex.bind k).bind k') = a.noex.bind fun b s => (k b s).bind k' from fun a k k' => by cases a <;> rfl] at q3
          obtain ⟨y, s8, ee, q4⟩ := noex_ok q3
          rw [ee]
          intro Y8 H8 v8 e8 F8 r8
          obtain ⟨p, vs, ep, hp, hdr, wr⟩ := F8.listT F1.tlen
          cases ep
          split at q4
          · rename_i hsz
            refine ⟨vs, hp, by rw [hdr.length]; exact hsz, Y8, wipeF ow s8, acc ++ [y], all7.trans e8, ?_, ?_, q4⟩
            · rw [wipeF_length]; exact (back F8).1
            · exact (back (wr (vs ++ [v8]) (acc ++ [y]) (hdr.append (.cons (hK ▸ r8) .nil)))).2
          · exact q4.elim
  · have hi : i = ds.length := by omega
    subst hi
    rw [List.drop_length] at q2
    exact .inl ⟨w.stop H' (e2.trans F3.sub), q2 Y' H' _ e2 (F1.ofBlk F3 e2 hf hn)⟩
/-- the pairs, the name forgotten -/
def iZipN (i : Nat) (f g : EF) : IF := fun s => (iZip f g s).bind fun ds s => .ok ds (s.set i none)
def sZipRet (ow : List Bool) (i : Nat) (fa fb : EF) (g : GF) (f : EF) (F : List OD → Res OD) : SF := sRet (oCall [none] (aCons (eFrz (oLc ow (iZipN i fa fb) g kYes f)) aNil) (noexF F))

theorem setNone_get {s : S} {i j : Nat} {o : OD} (h : (s.set i none)[j]? = some (some o)) : s[j]? = some (some o) ∧ j ≠ i := by
  by_cases e : j = i
  · subst e
    by_cases hj : j < s.length
    · rw [List.getElem?_set_self hj] at h
      cases h
    · rw [List.getElem?_eq_none (by simp; omega)] at h
      cases h
  · rw [List.getElem?_set_ne (Ne.symm e)] at h
    exact ⟨h, e⟩
theorem FS.setNone {ξ : Fx} {Y H : Hp} {σ : St} {s : S} {tv : List V} {ts : List OD} (F : FS ξ Y H σ s tv ts) (i : Nat) (v : Option V) : FS ξ Y H (σ.set i v) (s.set i none) tv ts := by
  refine (F.forget (by simp) fun j o h => (setNone_get h).1).resig (by simp) fun j o h => ?_
  rw [List.getElem?_set_ne (Ne.symm (setNone_get h).2)]
theorem outS_out {ξ : Fx} {Y : Hp} {σ : St} {D : Ends} {x : Exn} {s : S} {α : Type} {G : α → S → Prop} (h : outS c rf ξ Y σ D (.ex x s)) : out c ξ Y σ [] [] G (.ex x s : Res α) := fun Y' H' cl q e' F' er => h Y' H' σ cl q e' (.refl _ _) F' er
variable {CX : CXT} {k : Nat} {f : Addr} {fd : FuncData} {ps : List Str} {x : Str} {p pos : Pos} {F : List OD → Res OD}
theorem mss_zipRet {ow : List Bool} {i : Nat} {xr fn : Str} {a b : Expr} {fa fb : EF} {g : GF} {fe : EF} {elts : List Expr} {kk : Nat} {tpos p1 p2 p3 p4 p5 p6 p7 p8 : Pos} {elt : Expr} {scope : Scope} {own : List (Str × Nat)}
    (hXK : X.K = c.K) (hc : X.calm = true) (hN : X.N.Nodup) (hi : X.N[i]? = some xr) (hx : Loc X.env.scope xr) (hvis : Vis X.env.scope xr) (hrf : rf[i]? ≠ some true) (hli : X.N.length > i)
    (hgz : Gl X "zip") (hmz : X.mg "zip" = none) (ha : ME X c fa a) (hb : ME X c fb b)
    (Fo : FnG X.prog X.w X.K X.mg X.base CX0 k f fd ps (spF c.K c.er false 1 F)) (hG : X.A.guards = some []) (hr : Room k X.A) (hgf : Gl X fn) (hmf : X.mg fn = some (.ref f)) (hk : PySem.W.keepIn X.K (.ref f) = true) (hbd : Binds X.K fd ps [])
    (ok : BlkOk X.N X.env.scope scope own) (hf : Flags ow X.N.length (own.map (·.2)))
    (hg : ∀ (s : Shared) (H : Hp) (C : Addr) (cl : List (Str × Addr)) (fp : List Addr), MG (X.blk s H scope (compEnvC scope cl C X.env) fp) c.blk (ow.map not) g (.Tuple elts kk tpos))
    (ht : ∀ (s : Shared) (H : Hp) (C : Addr) (cl : List (Str × Addr)) (fp : List Addr), PTs (X.blk s H scope (compEnvC scope cl C X.env) fp) [] (tT c.blk kYes))
    (he : ∀ (s : Shared) (H : Hp) (C : Addr) (cl : List (Str × Addr)) (fp : List Addr), ME (X.blk s H scope (compEnvC scope cl C X.env) fp) c.blk fe elt)
    (hfn : X.fn xr = true ∨ X.env.scope.names.lookup xr = some .local)
    (hd1 : (xr == ("__debug__" : Str)) = false := by decide) (hd2 : (xr == ("__classdict__" : Str)) = false := by decide) (hd3 : (fn == ("__debug__" : Str)) = false := by decide)
    (hs : starEach [a, b] X.env = (false, eval a X.env) :: starEach [b] X.env := by rfl) (hs2 : starEach [b] X.env = (false, eval b X.env) :: starEach [] X.env := by rfl) (hpl : (backTo p3 (starEach [b] X.env)).any (·.1) = false := by rfl)
    (hsw : swapsWith (.Call (.Name "zip" p2) [a, b] [] p3) (some (.Name xr p1)) p4.line X.env = pure false := by rfl)
    (hfi : ∀ x, foldedSetIterable (.Name xr p5) X.env x = pure x := by intro _; rfl)
    (hst : starEach [.ListComp elt [⟨.Tuple elts kk tpos, .Name xr p5, [], 0⟩] scope pos] X.env = (false, eval (.ListComp elt [⟨.Tuple elts kk tpos, .Name xr p5, [], 0⟩] scope pos) X.env) :: starEach [] X.env := by rfl)
    (hpl2 : (backTo p7 (starEach [] X.env)).any (·.1) = false := by rfl) :
    MSs X c rf (sZipRet ow i fa fb g fe F) [.Assign [.Name xr p1] (.Call (.Name "zip" p2) [a, b] [] p3) p4, .Return (some (.Call (.Name fn p6) [.ListComp elt [⟨.Tuple elts kk tpos, .Name xr p5, [], 0⟩] scope pos] [] p7)) p8] := by
  refine ⟨PSs.imp (pss_cons (ps_set hN hi hx (pe_zipV hgz hmz (ma_cons ha (ma_cons hb ma_nil hs2) hs).run hs hpl) hsw hfn)
    (pss_one (ps_ret (pe_callG (E := fun σ cl x H => False) Fo hG hr hgf hmf hk hbd (fun σ => fun _ _ _ _ _ _ z => z.elim) (pa_cons (pe_lc hc hN (pi_zipV hi hvis hd1 hd2) ok (fun s H C cl fp => (hg s H C cl fp).run) ht (fun s H C cl fp => (he s H C cl fp).run) hfi) pa_nil hst) hd3 hst hpl2)))) fun D σ H q => ?_⟩
  obtain ⟨ξ, Y, s, hK, Fr, q⟩ := q
  unfold tSeq tAsg tZip
  refine ⟨ξ, Y, s, [], [], hK, Fr, ?_⟩
  unfold sZipRet sRet oCall aCons eFrz oLc iZipN iZip at q
  unfold aCons aNil
  cases e : fa s with
  | bad => rw [e] at q; exact q.elim
  | ex x s1 => rw [e] at q; exact outS_out q
  | ok d s1 =>
    rw [e] at q
    rw [Res.bind_ok]
    simp only [Res.bind_ok] at q
    cases e' : fb s1 with
    | bad => rw [e'] at q; exact q.elim
    | ex x s1 => rw [e'] at q; exact outS_out q
    | ok d' s2 =>
      rw [e'] at q
      rw [Res.bind_ok, Res.bind_ok, Res.bind_ok]
      simp only [Res.bind_ok] at q
      intro Y1 H1 vs e1 F1 r1
      cases r1 with
      | cons ra rb =>
        cases rb with
        | cons rb rc =>
          cases rc
          cases eds : sameKind d d' with
          | none => rw [eds] at q; exact q.elim
          | some ds =>
            rw [eds] at q
            simp only [ofO, Res.bind_ok] at q
            split at q
            rotate_left
            · exact q.elim
            rename_i hlen
            have fin : ∀ (l : Bool) (a b z TI TO i1 i2 : Addr) (oz oTI oTO o1 o2 : Obj), Walks c.K Y1 (Itq X.K l a b) ds → PySem.ZipApart z TI TO i1 i2 a b → (∀ p ∈ [z, TI, TO, i1, i2], H1 p = none ∧ X.s_0.heap.objs.size ≤ p) →
                (∀ h : Heap, h.get? z = some oz → h.get? TI = some oTI → h.get? TO = some oTO → h.get? i1 = some o1 → h.get? i2 = some o2 → StZ l h z TI TO i1 i2 a b) →
                tRet (tCallG (spF c.K c.er false 1 F) (fun σ cl x H => False) (tCons (tLc (iZv X.K X.s_0.heap.objs.size i) (tG (ow.map not) c.K g) (tT c.blk kYes) (tE c.blk fe) (own.map (·.2))) tNil)) D (σ.set i (some (.ref z))) (layE H1 [(z, oz), (TI, oTI), (TO, oTO), (i1, o1), (i2, o2)]) := by
              intro l a b z TI TO i1 i2 oz oTI oTO o1 o2 w Da fr st
              have F2 := F1.setNone i (some (.ref z))
              have hσ : (σ.set i (some (.ref z)))[i]? = some (some (.ref z)) := by
                rw [List.getElem?_set_self]
                rw [← F1.len]
                have : s2.length = ow.length := by simpa using hlen.symm
                rw [this, hf]
                simpa using hli
              unfold tRet tCallG tCons tLc
              refine ⟨z, TI, TO, i1, i2, a, b, l, oz, oTI, oTO, o1, o2, H1, Da, fr, st, hσ, rfl, ?_⟩
              suffices hb : out c ξ Y1 (σ.set i (some (.ref z))) [] [] (fun o s' => ∀ Y' H' v, Same Y1 Y' → FS ξ Y' H' (σ.set i (some (.ref z))) s' ([] ++ [v]) ([] ++ [o]) → spF c.K c.er false 1 F [v] H' D.rt (fun cl x H => False)) ((lcL ow g kYes fe ds [] (wipeF ow (s2.set i none))).bind fun acc s3 => .ok (.ol acc) (backF ow (s2.set i none) s3)) by
                have hb2 := lc_body (H0 := H) (Q := fun x H1 => spF c.K c.er false 1 F [x] H1 D.rt (fun cl x H => False)) hf hK F2 w hlen hb
                unfold tLc at hb2
                exact hb2
              cases el : lcL ow g kYes fe ds [] (wipeF ow (s2.set i none)) with
              | bad => rw [el] at q; exact q.elim
              | ex y s3 =>
                rw [el] at q
                exact fun Y' H' cl q' e' F' er => q Y' H' _ cl q' (e1.trans e') (.set hrf) F' er
              | ok acc s3 =>
                rw [el] at q
                simp only [Res.bind_ok] at q ⊢
                intro Y' H' v e2 F3
                obtain ⟨Y4, e4, F5, r5⟩ := F3.freezeT
                have eo : odsOf [none] [(OD.ol acc).frz] (backF ow (s2.set i none) s3) = some [.fz (OD.ol acc).frz] := rfl
                simp only [aNil, Res.bind_ok] at q
                rw [eo] at q
                obtain ⟨ξ', hK', h0, hz, F6, back⟩ := F5.enter (.val r5 .nil) eo (refsOk_of (by decide))
                refine ⟨ξ', Y4, _, hK'.trans hK, h0, hz, rfl, F6, ?_⟩
                unfold noexF at q
                simp only at q
                cases ef : F [OD.fz (OD.ol acc).frz] with
                | ok o s4 =>
                  rw [ef] at q
                  exact fun Y5 H5 v e5 F7 => q Y5 H5 _ v (((e1.trans e2).trans e4).trans e5) (.set hrf) (back Y5 H5 s4 [v] [o] e5 F7)
                | ex y s4 => rw [ef] at q; exact q.elim
                | bad => rw [ef] at q; exact q.elim
            unfold sameKind at eds
            split at eds
            · rename_i xs ys
              cases eds
              obtain ⟨a1, us, rfl, hq, hd⟩ := ra.list_inv
              obtain ⟨a2, ws, rfl, hq2, hd2⟩ := rb.list_inv
              have hq : SqL c.K Y1 a1 us := .inl (.inl hq)
              have hq2 : SqL c.K Y1 a2 ws := .inl (.inl hq2)
              refine ⟨a1, a2, true, rfl, ⟨⟨us, hXK ▸ F1.sub.seq hq⟩, ws, hXK ▸ F1.sub.seq hq2⟩, fun z TI TO i1 i2 oz oTI oTO o1 o2 Da fr st => fin true a1 a2 z TI TO i1 i2 oz oTI oTO o1 o2 ?_ Da fr st⟩
              rw [hXK]
              refine ⟨fun i H e hi => ?_, fun H e => ?_, fun i H x H' d e hd' hy Y2 e2 e3 => ?_⟩
              · rw [pairUp_length] at hi
                have h1 := hd.length
                have h2 := hd2.length
                exact ⟨us, ws, us[i]'(by omega), ws[i]'(by omega), e.seq hq, e.seq hq2, List.getElem?_eq_getElem _, List.getElem?_eq_getElem _⟩
              · refine ⟨us, ws, e.seq hq, e.seq hq2, ?_⟩
                rw [pairUp_length]
                have h1 := hd.length
                have h2 := hd2.length
                omega
              · obtain ⟨T, x1, x2, rfl, nT, rfl, f1, f2⟩ := hy
                obtain ⟨dx, dy, g1, g2, rfl⟩ := pairUp_get hd'
                obtain ⟨v1, h1, r1⟩ := hd.get g1
                obtain ⟨v2, h2, r2⟩ := hd2.get g2
                have z1 := f1 us (e.seq hq)
                have z2 := f2 ws (e.seq hq2)
                rw [h1] at z1
                rw [h2] at z2
                cases z1; cases z2
                exact ⟨_, .tup nT (.cons (r1.mono e2) (.cons (r2.mono e2) .nil))⟩
            · rename_i xs ys
              cases eds
              obtain ⟨a1, us, rfl, hq, hd⟩ := ra.tuple_inv
              obtain ⟨a2, ws, rfl, hq2, hd2⟩ := rb.tuple_inv
              refine ⟨a1, a2, false, rfl, ⟨⟨us, hXK ▸ Same.sqt F1.sub hq⟩, ws, hXK ▸ Same.sqt F1.sub hq2⟩, fun z TI TO i1 i2 oz oTI oTO o1 o2 Da fr st => fin false a1 a2 z TI TO i1 i2 oz oTI oTO o1 o2 ?_ Da fr st⟩
              rw [hXK]
              refine ⟨fun i H e hi => ?_, fun H e => ?_, fun i H x H' d e hd' hy Y2 e2 e3 => ?_⟩
              · rw [pairUp_length] at hi
                have h1 := hd.length
                have h2 := hd2.length
                exact ⟨us, ws, us[i]'(by omega), ws[i]'(by omega), Same.sqt e hq, Same.sqt e hq2, List.getElem?_eq_getElem _, List.getElem?_eq_getElem _⟩
              · refine ⟨us, ws, Same.sqt e hq, Same.sqt e hq2, ?_⟩
                rw [pairUp_length]
                have h1 := hd.length
                have h2 := hd2.length
                omega
              · obtain ⟨T, x1, x2, rfl, nT, rfl, f1, f2⟩ := hy
                obtain ⟨dx, dy, g1, g2, rfl⟩ := pairUp_get hd'
                obtain ⟨v1, h1, r1⟩ := hd.get g1
                obtain ⟨v2, h2, r2⟩ := hd2.get g2
                have z1 := f1 us (Same.sqt e hq)
                have z2 := f2 ws (Same.sqt e hq2)
                rw [h1] at z1
                rw [h2] at z2
                cases z1; cases z2
                exact ⟨_, .tup nT (.cons (r1.mono e2) (.cons (r2.mono e2) .nil))⟩
            · cases eds
end
end MI

set_option Elab.async false
set_option linter.all false
set_option autoImplicit false
set_option maxRecDepth 100000
/-! MI: enumerate of a list or a tuple. -/
namespace MI
open PySem PySem.Spec L2
section
open PyProof.Rows
theorem call_enum_begins {prog : Program} {w : World} {A : Around} {E : Value → Shared → Prop} {s : Shared} {v : Value} {o : Obj} {H : Heap → Prop} {Q : Value → Shared → Prop} (B : Begins v o H) (h1 : H s.heap)
    (h : ∀ h', IsEnum h' (s.heap.objs.size + 1) s.heap.objs.size 0 .none → h'.get? s.heap.objs.size = some o → h'.objs.size = s.heap.objs.size + 2 →
      (∀ b o, s.heap.get? b = some o → h'.get? b = some o) → Q (.ref (s.heap.objs.size + 1)) { s with heap := h' }) :
    wpAny (model prog w) A (call (.type "enumerate") [v]) Q E s := by
  refine callType_new F.called_enumerate (by decide) (F.typeCall_enumerate_1 _) (F.newCall_enumerate_1 _) (fun obj => F.args_object_init_2 obj _) F.entry_enumerate_new
    (meets_enum_begins B) ⟨h1, ?_⟩
  have hz : (s.heap.push o).objs.size = s.heap.objs.size + 1 := Heap.size_push ..
  show _ ∧ _
  rw [hz]
  have he : IsEnum ((s.heap.push o).push { cls := .type "enumerate", data := .fields #[.none, .bool false, .ref s.heap.objs.size, rawInt 0, .none, .none] }) (s.heap.objs.size + 1) s.heap.objs.size 0 .none := by
    have := Heap.get?_push_size (s.heap.push o) (o := { cls := .type "enumerate", data := .fields #[.none, .bool false, .ref s.heap.objs.size, rawInt 0, .none, .none] }) rfl
    rw [hz] at this; exact this
  exact ⟨⟨_, he, rfl⟩, h _ he (Heap.get?_push_of_some _ (Heap.get?_push_size _ B.free)) (by rw [Heap.size_push, hz]) fun b o x => Heap.get?_push_of_some _ (Heap.get?_push_of_some _ x)⟩
def iEnumA (K : PySem.W.Frag) (ta : TA) : TI := fun σ H R => ta σ H fun vs H1 => ∃ a xs, vs = [.ref a] ∧ ((SqL K H1 a xs ∧ R (Ite K a) H1) ∨ (SqT K H1 a xs ∧ R (IteT K a) H1))
theorem pi_enumA {X : Cx} {e : Expr} {ta : TA} {p pos tpos : Pos} {elts : List Expr} {kk : Nat} (hg : Gl X "enumerate") (hm : X.mg "enumerate" = none) (ha : PA X [e] ta) (hs : starEach [e] X.env = [(false, eval e X.env)] := by rfl) :
    PI X (.Tuple elts kk tpos) (.Call (.Name "enumerate" p) [e] [] pos) (iEnumA X.K ta) := by
  refine ⟨fun pins s σ H R I h => ?_⟩
  refine Call_ (ld_blt I hg hm boot_enumerate (PyProof.Rows.callWith_type1 (thn (ha.run pos pins s σ H _ I h) fun us s1 ⟨vs, H1, I1, r1, q1⟩ => ?_) hs rfl))
  obtain ⟨a, xs, ex, q⟩ := q1
  subst ex
  have fr : ∀ b ∈ [s1.heap.objs.size + 1, s1.heap.objs.size], FpOk X pins H1 b := fun b hb => by
    have e' : b = s1.heap.objs.size + 1 ∨ b = s1.heap.objs.size := by simpa using hb
    have hle : s1.heap.objs.size ≤ b := by
      rcases e' with z | z
      · rw [z]; exact Nat.le_add_right _ _
      · rw [z]; exact Nat.le_refl _
    exact I1.fpOk hle (I1.hok.fresh hle)
  cases r1 with
  | cons r rr =>
    cases rr
    cases r
    rcases q with ⟨hq, q⟩ | ⟨hq, q⟩
    · obtain ⟨its, rv, p', hz⟩ := I1.list hq
      refine call_enumerate_list p'.isList fun h' he hit hsz hk => wpAny_pyIter_enum he ?_
      have I2 : Inv X pins σ H1 { s1 with heap := h' } := I1.kept (t' := s1.toks) hk
      exact ⟨s1.heap.objs.size + 1, [s1.heap.objs.size + 1, s1.heap.objs.size], _, _, H1, rfl, I2, turn_enum a (s1.heap.objs.size + 1) s1.heap.objs.size, ⟨⟨.none, he⟩, hit, Nat.succ_ne_self _⟩, fr, q⟩
    · obtain ⟨its, rv, p', hz⟩ := I1.tuple hq
      have hal : a < s1.heap.objs.size := by
        obtain ⟨_, ho, _⟩ := id p'
        exact Heap.lt_size ho
      refine call_enum_begins (begins_tuple a its.toArray) p' fun h' he hit hsz hk => wpAny_pyIter_enum he ?_
      have I2 : Inv X pins σ H1 { s1 with heap := h' } := I1.kept (t' := s1.toks) hk
      exact ⟨s1.heap.objs.size + 1, [s1.heap.objs.size + 1, s1.heap.objs.size], _, _, H1, rfl, I2, turn_enumT a (s1.heap.objs.size + 1) s1.heap.objs.size, ⟨⟨.none, he⟩, ⟨_, hit, rfl, rfl⟩, Nat.succ_ne_self _, Nat.ne_of_gt (Nat.lt_succ_of_lt hal), Nat.ne_of_lt hal⟩, fr, q⟩
end
section
variable {X : Cx} {c : Ct} {ξ : Fx} {Y H : Hp} {σ : St} {s : S} {tv : List V} {ts : List OD} {fa : EF} {a : Expr} {p pos : Pos}
def numD : D → Option (List D)
  | .list xs => some (numbered 0 xs)
  | .tuple xs => some (numbered 0 xs)
  | _ => none
def iEnum2 (f : EF) : IF := fun s => (f s).bind fun d s => ofO (numD d) s
theorem mi_enum {elts : List Expr} {kk : Nat} {tpos : Pos} (hXK : X.K = c.K) (hg : Gl X "enumerate") (hm : X.mg "enumerate" = none) (ha : ME X c fa a) (hs : starEach [a] X.env = [(false, eval a X.env)] := by rfl) (hs2 : starEach [a] X.env = (false, eval a X.env) :: starEach [] X.env := by rfl) :
    MI_ X c (iEnum2 fa) (.Tuple elts kk tpos) (.Call (.Name "enumerate" p) [a] [] pos) := by
  refine ⟨PI.imp (pi_enumA hg hm (ma_cons ha ma_nil hs2).run hs) fun σ H R q => ?_⟩
  obtain ⟨ξ, Y, s, tv, ts, hK, F, q⟩ := q
  refine ⟨ξ, Y, s, tv, ts, hK, F, ?_⟩
  unfold iEnum2 at q
  unfold aCons aNil
  cases e : fa s with
  | bad => rw [e] at q; exact q.elim
  | ex x s1 => rw [e] at q; exact q
  | ok d s1 =>
    rw [e, Res.bind_ok] at q
    rw [Res.bind_ok, Res.bind_ok]
    intro Y1 H1 vs e1 F1 r1
    cases r1 with
    | cons ra rb =>
      cases rb
      cases d with
      | list ds =>
        obtain ⟨a, us, rfl, hq, hd⟩ := ra.list_inv
        have hq : SqL c.K Y1 a us := .inl (.inl hq)
        refine ⟨a, us, rfl, .inl ⟨hXK ▸ F1.sub.seq hq, ?_⟩⟩
        rw [hXK]
        refine q Y1 H1 _ e1 F1 ⟨fun i H e hi => ?_, fun H e => ?_, fun i H x H' d e hd' hy Y2 e2 e3 => ?_⟩
        · rw [numbered_length] at hi
          have h1 := hd.length
          exact ⟨us, us[i]'(by omega), e.seq hq, List.getElem?_eq_getElem _⟩
        · refine ⟨us, e.seq hq, ?_⟩
          rw [numbered_length, hd.length]
          exact Nat.le_refl _
        · obtain ⟨T, x1, rfl, nT, rfl, f1⟩ := hy
          obtain ⟨dx, g1, rfl⟩ := numbered_get hd'
          obtain ⟨v1, h1, r1⟩ := hd.get g1
          have z1 := f1 us (e.seq hq)
          rw [h1] at z1
          cases z1
          refine ⟨_, .tup nT (.cons ?_ (.cons (r1.mono e2) .nil))⟩
          rw [Nat.zero_add]
          exact .int _
      | tuple ds =>
        obtain ⟨a, us, rfl, hq, hd⟩ := ra.tuple_inv
        refine ⟨a, us, rfl, .inr ⟨hXK ▸ Same.sqt F1.sub hq, ?_⟩⟩
        rw [hXK]
        refine q Y1 H1 _ e1 F1 ⟨fun i H e hi => ?_, fun H e => ?_, fun i H x H' d e hd' hy Y2 e2 e3 => ?_⟩
        · rw [numbered_length] at hi
          have h1 := hd.length
          exact ⟨us, us[i]'(by omega), Same.sqt e hq, List.getElem?_eq_getElem _⟩
        · refine ⟨us, Same.sqt e hq, ?_⟩
          rw [numbered_length, hd.length]
          exact Nat.le_refl _
        · obtain ⟨T, x1, rfl, nT, rfl, f1⟩ := hy
          obtain ⟨dx, g1, rfl⟩ := numbered_get hd'
          obtain ⟨v1, h1, r1⟩ := hd.get g1
          have z1 := f1 us (Same.sqt e hq)
          rw [h1] at z1
          cases z1
          refine ⟨_, .tup nT (.cons ?_ (.cons (r1.mono e2) .nil))⟩
          rw [Nat.zero_add]
          exact .int _
      | none => exact q.elim
      | bool _ => exact q.elim
      | int _ => exact q.elim
      | str _ => exact q.elim
      | dict _ => exact q.elim
end
end MI

set_option Elab.async false
set_option linter.all false
set_option autoImplicit false
set_option maxRecDepth 100000
/-! MI: zip of two, each a list or a tuple. -/
namespace MI
open PySem PySem.Spec L2
section
open PyProof.Rows
def SqX (K : PySem.W.Frag) (l : Bool) (H : Hp) (a : Addr) (xs : List V) : Prop := if l = true then SqL K H a xs else SqT K H a xs
def HasX (l : Bool) (h : Heap) (a : Addr) (its : Array Value) : Prop := if l = true then h.IsList a its else h.IsTuple a its
def IterX (l : Bool) (h : Heap) (it a : Addr) (i : Nat) : Prop := if l = true then h.IsListIter it a i else h.IsTupleIter it a i
def ItzX (K : PySem.W.Frag) (l1 l2 : Bool) (a b : Addr) : It :=
  ⟨fun i H => ∃ (xs ys : List V) (x y : V), SqX K l1 H a xs ∧ SqX K l2 H b ys ∧ xs[i]? = some x ∧ ys[i]? = some y,
    fun i H v H' => ∃ T x y, v = .ref T ∧ H T = none ∧ H' = upd H T (.tup [x, y]) ∧ (∀ xs, SqX K l1 H a xs → xs[i]? = some x) ∧ ∀ ys, SqX K l2 H b ys → ys[i]? = some y,
    fun i H => ∃ xs ys : List V, SqX K l1 H a xs ∧ SqX K l2 H b ys ∧ (xs.length ≤ i ∨ ys.length ≤ i) ∧ i ≤ xs.length ∧ i ≤ ys.length⟩
theorem IterX.at {l : Bool} {h h' : Heap} {it a : Addr} {i : Nat} (x : IterX l h it a i) (k : ∀ o, h.get? it = some o → h'.get? it = some o) : IterX l h' it a i := by
  cases l with
  | true => exact Heap.IsListIter.at x fun o q => k o q
  | false => exact Heap.IsTupleIter.at x fun o q => k o q
theorem HasX.at {l : Bool} {h h' : Heap} {a : Addr} {its : Array Value} (x : HasX l h a its) (k : ∀ o, h.get? a = some o → h'.get? a = some o) : HasX l h' a its := by
  cases l with
  | true => exact Heap.IsList.at x fun o q => k o q
  | false => exact Heap.IsTuple.at x fun o q => k o q
theorem IterX.obj {l : Bool} {h : Heap} {it a : Addr} {i : Nat} (x : IterX l h it a i) : ∃ o, h.get? it = some o ∧ ∀ v, o.data ≠ .cell v := by
  cases l with
  | true =>
    obtain ⟨o, ho, hc, hd⟩ := (show h.IsListIter it a i from x)
    exact ⟨o, ho, fun v q => by rw [hd] at q; cases q⟩
  | false =>
    obtain ⟨o, ho, hc, hd⟩ := (show h.IsTupleIter it a i from x)
    exact ⟨o, ho, fun v q => by rw [hd] at q; cases q⟩
theorem draws_X {prog : Program} {w : World} {A : Around} (hh : A.handled = none) (l : Bool) (it a : Addr) (hne : a ≠ it) (items : Array Value) :
    Draws prog w A it [it, a] items.size (fun i v => items[i]? = some v) (fun i h => IterX l h it a i ∧ HasX l h a items) := by
  cases l with
  | true => exact Draws.list hh it a hne items
  | false => exact Draws.tuple hh it a hne items
theorem sqX_its {X : Cx} {pins : List (Addr × Obj)} {σ : L2.St} {H : Hp} {s : Shared} (I : Inv X pins σ H s) {l : Bool} {a : Addr} {xs : List V} (h : SqX X.K l H a xs) : ∃ its, Vals xs its ∧ HasX l s.heap a its.toArray := by
  cases l with
  | true =>
    obtain ⟨its, rv, p, _⟩ := I.list (show SqL X.K H a xs from h)
    exact ⟨its, rv, p.isList⟩
  | false =>
    obtain ⟨its, rv, p, _⟩ := I.tuple (show SqT X.K H a xs from h)
    exact ⟨its, rv, p⟩
theorem sqX_inj {X : Cx} {pins : List (Addr × Obj)} {σ : L2.St} {H : Hp} {s : Shared} (I : Inv X pins σ H s) {l : Bool} {a : Addr} {xs ys : List V} (h : SqX X.K l H a xs) (h' : SqX X.K l H a ys) : xs = ys := by
  cases l with
  | true => exact I.list_inj h h'
  | false => exact I.tuple_inj h h'
theorem HasX.lt {l : Bool} {h : Heap} {a : Addr} {its : Array Value} (x : HasX l h a its) : a < h.objs.size := by
  cases l with
  | true =>
    obtain ⟨o, ho, _⟩ := (show h.IsList a its from x)
    exact Heap.lt_size ho
  | false =>
    obtain ⟨o, ho, _⟩ := (show h.IsTuple a its from x)
    exact Heap.lt_size ho
theorem sep_of {z TI TO i1 i2 a b : Addr} (D : ZipApart z TI TO i1 i2 a b) : ZipSep2 z TI TO i1 i2 [i1, a] [i2, b] where
  TIz := D.TIz
  TOz := D.TOz
  TITO := D.TITO
  TIi1 := D.TIi1
  mem1 := by simp
  zf1 := by simp [D.i1z.symm, D.l1z.symm]
  Tf1 := by simp [D.TOi1, D.l1TO.symm]
  TIi2 := D.TIi2
  mem2 := by simp
  zf2 := by simp [D.i2z.symm, D.l2z.symm]
  Tf2 := by simp [D.TOi2, D.l2TO.symm]
  sep1_2 := by simp [D.i12, D.l2i1.symm]
  sep2_1 := by simp [D.i12.symm, D.l1i2.symm]
set_option maxHeartbeats 1000000 in
theorem turn_zipX {P : Program} {w : World} {K : PySem.W.Frag} {elts : List Expr} {kk : Nat} {tpos : Pos} (l1 l2 : Bool) {a b z TI TO i1 i2 : Addr} (D : ZipApart z TI TO i1 i2 a b) :
    Turn P w K (.Tuple elts kk tpos) (ItzX K l1 l2 a b) [z, TI, TO, i1, i2] z (fun i h => IsZip h z TI TO .none ∧ IsPair h TI (.ref i1) (.ref i2) ∧ (∃ x y, IsPair h TO x y) ∧ IterX l1 h i1 a i ∧ IterX l2 h i2 b i) where
  mem := by simp
  obj := fun i h st c hc => by
    obtain ⟨hz, hTI, ⟨x, y, hTO⟩, h1, h2⟩ := st
    have e' : c = z ∨ c = TI ∨ c = TO ∨ c = i1 ∨ c = i2 := by simpa using hc
    rcases e' with q | q | q | q | q
    · rw [q]; exact ⟨_, hz, fun v q => nomatch q⟩
    · rw [q]; exact ⟨_, hTI, fun v q => nomatch q⟩
    · rw [q]; exact ⟨_, hTO, fun v q => nomatch q⟩
    · rw [q]; exact h1.obj
    · rw [q]; exact h2.obj
  keep := fun i h h' st k => by
    obtain ⟨hz, hTI, ⟨x, y, hTO⟩, h1, h2⟩ := st
    exact ⟨k z (by simp) _ hz, k TI (by simp) _ hTI, ⟨x, y, k TO (by simp) _ hTO⟩, h1.at fun o q => k i1 (by simp) o q, h2.at fun o q => k i2 (by simp) o q⟩
  item := by
    intro X hP hw hK hc i pins s σ H E I hf st hg
    subst hP hw hK
    obtain ⟨hz, hTI, ⟨x0, y0, hTO⟩, h1, h2⟩ := st
    obtain ⟨xs, ys, x, y, hqx, hqy, hx, hy⟩ := hg
    obtain ⟨its, rv, p⟩ := sqX_its I hqx
    obtain ⟨its2, rv2, p2⟩ := sqX_its I hqy
    obtain ⟨u, hu, ru⟩ := rv.get hx
    obtain ⟨u2, hu2, ru2⟩ := rv2.get hy
    have hzl : z < s.heap.objs.size := Heap.lt_size hz
    have lt1 : i < its.toArray.size := by simpa using lt_of_get hu
    have lt2 : i < its2.toArray.size := by simpa using lt_of_get hu2
    have hh : X.A.in1.handled = none := I.ok.hd hc
    refine wpAny_pyNext_zipD2_item (sep_of D) (draws_X hh l1 i1 a D.l1i1 its.toArray) (draws_X hh l2 i2 b D.l2i2 its2.toArray) hz hTI hTO ⟨h1, p⟩ ⟨h2, p2⟩ lt1 lt2 fun v1 v2 h' tk y1 y2 z' TO' h1' h2' hT hsz hk => ?_
    obtain rfl : v1 = u := by
      have : its[i]? = some v1 := by simpa using y1
      rw [hu] at this
      exact (Option.some.inj this).symm
    obtain rfl : v2 = u2 := by
      have : its2[i]? = some v2 := by simpa using y2
      rw [hu2] at this
      exact (Option.some.inj this).symm
    refine ⟨_, rfl, wpAny_letOwnedTupleGo_zip (s := { s with heap := h', toks := tk }) z' fun h'' z'' sb => ?_⟩
    have hT2 : h''.get? s.heap.objs.size = some { cls := .type "tuple", data := .seq #[v1, v2] } := (sb.2 _ (Nat.ne_of_gt hzl)).trans hT
    have new : ObjOk X.prog X.w (upd H s.heap.objs.size (.tup [x, y])) h'' s.heap.objs.size (.tup [x, y]) :=
      ⟨by show 2 ≤ sizeLine; decide, [v1, v2], .cons ru (.cons ru2 .nil), ⟨_, hT2, rfl, _, rfl⟩⟩
    have I1 : Inv X pins σ (upd H s.heap.objs.size (.tup [x, y])) { s with heap := h'', toks := tk } :=
      I.turnedNew (ch := [z, TI, TO, i1, i2]) (fun c o hb q => (sb.2 c (fun q' => hb (by simp [q']))).trans (hk c o (fun q' => hb (by simp [q'])) (fun q' => hb (by simp [q'])) (fun q' => hb (by simp [q'])) (fun q' => hb (by simp [q'])) q)) hf (Nat.le_refl _) new
    refine ⟨.ref s.heap.objs.size, _, I1, rfl, ⟨_, x, y, rfl, I.hok.fresh (Nat.le_refl _), rfl, fun l hl => by rw [sqX_inj I hl hqx]; exact hx, fun l hl => by rw [sqX_inj I hl hqy]; exact hy⟩, ⟨z'', ?_, ⟨v1, v2, ?_⟩, ?_, ?_⟩, fun c hcm => ?_⟩
    · exact (sb.2 _ D.TIz).trans (hk _ _ D.TIz D.TITO D.TIi1 D.TIi2 hTI)
    · exact (sb.2 _ D.TOz).trans TO'
    · exact h1'.1.at fun o q => (sb.2 _ D.i1z).trans q
    · exact h2'.1.at fun o q => (sb.2 _ D.i2z).trans q
    · have hlt : c < s.heap.objs.size := by
        have e' : c = z ∨ c = TI ∨ c = TO ∨ c = i1 ∨ c = i2 := by simpa using hcm
        rcases e' with q | q | q | q | q
        · rw [q]; exact hzl
        · rw [q]; exact Heap.lt_size hTI
        · rw [q]; exact Heap.lt_size hTO
        · rw [q]; obtain ⟨_, e1, _⟩ := h1.obj; exact Heap.lt_size e1
        · rw [q]; obtain ⟨_, e2, _⟩ := h2.obj; exact Heap.lt_size e2
      rw [upd_ne (Nat.ne_of_lt hlt)]
      exact (hf c hcm).1
  done := by
    intro X hP hw hK hc i pins s σ H E I hf st hg
    subst hP hw hK
    obtain ⟨hz, hTI, ⟨x0, y0, hTO⟩, h1, h2⟩ := st
    obtain ⟨xs, ys, hqx, hqy, hend, hle1, hle2⟩ := hg
    obtain ⟨its, rv, p⟩ := sqX_its I hqx
    obtain ⟨its2, rv2, p2⟩ := sqX_its I hqy
    have e1 := rv.length
    have e2 := rv2.length
    have hh : X.A.in1.handled = none := I.ok.hd hc
    refine wpAny_pyNext_zipD2_end (sep_of D) (draws_X hh l1 i1 a D.l1i1 its.toArray) (draws_X hh l2 i2 b D.l2i2 its2.toArray) hz hTI hTO ⟨h1, p⟩ ⟨h2, p2⟩ (by simp; omega) (by simp; omega) (by simp; omega) fun h' tk hk => ⟨rfl, I.turnedL (t' := tk) (ch := [z, TI, TO, i1, i2]) (fun c o hb q =>
      hk c o (fun q' => hb (by simp [q'])) (fun q' => hb (by simp [q'])) (fun q' => hb (by simp [q'])) (fun q' => hb (by simp [q'])) q) hf⟩
  self := fun A i s Q E st h => wpAny_pyIter_zip st.1 h
def begO (l : Bool) (a : Addr) : Obj := if l = true then { cls := .type "list_iterator", data := .fields #[.ref a, .int 0 0] } else { cls := .type "tuple_iterator", data := .fields #[.ref a, .int 0 0] }
theorem begins_X (l : Bool) (a : Addr) (items : Array Value) : Begins (.ref a) (begO l a) fun h => HasX l h a items := by
  cases l with
  | true => exact begins_list a items
  | false => exact begins_tuple a items
theorem beg_iter {l : Bool} {h : Heap} {it a : Addr} (e : h.get? it = some (begO l a)) : IterX l h it a 0 := by
  cases l with
  | true => exact ⟨_, e, rfl, rfl⟩
  | false => exact ⟨_, e, rfl, rfl⟩
def iZipX (K : PySem.W.Frag) (ta : TA) : TI := fun σ H R => ta σ H fun vs H1 => ∃ a b l1 l2 xs ys, vs = [.ref a, .ref b] ∧ SqX K l1 H1 a xs ∧ SqX K l2 H1 b ys ∧ R (ItzX K l1 l2 a b) H1
theorem pi_zipX {X : Cx} {e e2 : Expr} {ta : TA} {p pos tpos : Pos} {elts : List Expr} {kk : Nat} (hg : Gl X "zip") (hm : X.mg "zip" = none) (ha : PA X [e, e2] ta)
    (hs : starEach [e, e2] X.env = (false, eval e X.env) :: starEach [e2] X.env := by rfl) (hpl : (backTo pos (starEach [e2] X.env)).any (·.1) = false := by rfl) :
    PI X (.Tuple elts kk tpos) (.Call (.Name "zip" p) [e, e2] [] pos) (iZipX X.K ta) := by
  refine ⟨fun pins s σ H R I h => ?_⟩
  refine Call_ (ld_blt I hg hm PyProof.Rows.boot_zip (PyProof.Rows.callWith_type1 (thn (ha.run pos pins s σ H _ I h) fun us s1 ⟨vs, H1, I1, r1, q1⟩ => ?_) hs hpl))
  obtain ⟨a, b, l1, l2, xs, ys, ex, hqx, hqy, q⟩ := q1
  subst ex
  cases r1 with
  | cons r rr =>
    cases rr with
    | cons r' rr =>
      cases rr
      cases r
      cases r'
      have fresh5 : ∀ c, c ∈ [s1.heap.objs.size + 4, s1.heap.objs.size + 2, s1.heap.objs.size + 3, s1.heap.objs.size, s1.heap.objs.size + 1] → FpOk X pins H1 c := fun c hcm => by
        have e' : c = s1.heap.objs.size + 4 ∨ c = s1.heap.objs.size + 2 ∨ c = s1.heap.objs.size + 3 ∨ c = s1.heap.objs.size ∨ c = s1.heap.objs.size + 1 := by simpa using hcm
        have hle : s1.heap.objs.size ≤ c := by
          rcases e' with z | z | z | z | z
          · rw [z]; exact Nat.le_add_right _ _
          · rw [z]; exact Nat.le_add_right _ _
          · rw [z]; exact Nat.le_add_right _ _
          · rw [z]; exact Nat.le_refl _
          · rw [z]; exact Nat.le_add_right _ _
        exact I1.fpOk hle (I1.hok.fresh hle)
      obtain ⟨its, rv, p1⟩ := sqX_its I1 hqx
      obtain ⟨its2, rv2, p2⟩ := sqX_its I1 hqy
      refine zip_begins2 (begins_X l1 a its.toArray) (begins_X l2 b its2.toArray) p1 p2 fun h' hz hTI hTO h1 h2 hsz hk => wpAny_pyIter_zip hz ?_
      have I2 : Inv X pins σ H1 { s1 with heap := h' } := I1.kept (t' := s1.toks) hk
      exact ⟨s1.heap.objs.size + 4, [s1.heap.objs.size + 4, s1.heap.objs.size + 2, s1.heap.objs.size + 3, s1.heap.objs.size, s1.heap.objs.size + 1], _, _, H1, rfl, I2, turn_zipX l1 l2 (PySem.W.ktu_apart s1.heap.objs.size a b p1.lt p2.lt), ⟨hz, hTI, ⟨_, _, hTO⟩, beg_iter h1, beg_iter h2⟩, fresh5, q⟩
end
section
variable {X : Cx} {c : Ct} {ξ : Fx} {Y H : Hp} {σ : St} {s : S} {tv : List V} {ts : List OD} {fa fb : EF} {a b : Expr} {p pos : Pos}
theorem Dr.seqX {K : PySem.W.Frag} {Y : Hp} {v : V} {d : D} {ds : List D} (h : Dr K Y v d) (e : itemsD d = some ds) : ∃ a l vs, v = .ref a ∧ SqX K l Y a vs ∧ DrAll K Y vs ds := by
  cases d with
  | list xs =>
    cases e
    obtain ⟨a, us, rfl, hq, hd⟩ := h.list_inv
    exact ⟨a, true, us, rfl, .inl (.inl hq), hd⟩
  | tuple xs =>
    cases e
    obtain ⟨a, us, rfl, hq, hd⟩ := h.tuple_inv
    exact ⟨a, false, us, rfl, hq, hd⟩
  | none => cases e
  | bool _ => cases e
  | int _ => cases e
  | str _ => cases e
  | dict _ => cases e
theorem SqX.mono {K : PySem.W.Frag} {l : Bool} {H H' : Hp} {a : Addr} {xs : List V} (h : SqX K l H a xs) (e : Same H H') : SqX K l H' a xs := by
  cases l with
  | true => exact e.seq (show SqL K H a xs from h)
  | false => exact Same.sqt e (show SqT K H a xs from h)
def pairD2 (d e : D) : Option (List D) := (itemsD d).bind fun xs => (itemsD e).map fun ys => pairUp xs ys
def iZip2 (f g : EF) : IF := fun s => (f s).bind fun d s => (g s).bind fun e s => ofO (pairD2 d e) s
theorem mi_zip2 {elts : List Expr} {kk : Nat} {tpos : Pos} (hXK : X.K = c.K) (hg : Gl X "zip") (hm : X.mg "zip" = none) (ha : ME X c fa a) (hb : ME X c fb b)
    (hs : starEach [a, b] X.env = (false, eval a X.env) :: starEach [b] X.env := by rfl) (hs2 : starEach [b] X.env = (false, eval b X.env) :: starEach [] X.env := by rfl) (hpl : (backTo pos (starEach [b] X.env)).any (·.1) = false := by rfl) :
    MI_ X c (iZip2 fa fb) (.Tuple elts kk tpos) (.Call (.Name "zip" p) [a, b] [] pos) := by
  refine ⟨PI.imp (pi_zipX hg hm (ma_cons ha (ma_cons hb ma_nil hs2) hs).run hs hpl) fun σ H R q => ?_⟩
  obtain ⟨ξ, Y, s, tv, ts, hK, F, q⟩ := q
  refine ⟨ξ, Y, s, tv, ts, hK, F, ?_⟩
  unfold iZip2 at q
  unfold aCons aNil
  cases e : fa s with
  | bad => rw [e] at q; exact q.elim
  | ex x s1 => rw [e] at q; exact q
  | ok d s1 =>
    rw [e, Res.bind_ok] at q
    rw [Res.bind_ok]
    cases e' : fb s1 with
    | bad => rw [e'] at q; exact q.elim
    | ex x s1 => rw [e'] at q; exact q
    | ok d' s2 =>
      rw [e', Res.bind_ok] at q
      rw [Res.bind_ok, Res.bind_ok, Res.bind_ok]
      intro Y1 H1 vs e1 F1 r1
      cases r1 with
      | cons ra rb =>
        cases rb with
        | cons rb rc =>
          cases rc
          unfold pairD2 at q
          cases ed : itemsD d with
          | none => rw [ed] at q; exact q.elim
          | some xs =>
            cases ed' : itemsD d' with
            | none => rw [ed, ed'] at q; exact q.elim
            | some ys =>
              rw [ed, ed'] at q
              obtain ⟨a1, l1, us, rfl, hq, hd⟩ := ra.seqX ed
              obtain ⟨a2, l2, ws, rfl, hq2, hd2⟩ := rb.seqX ed'
              refine ⟨a1, a2, l1, l2, us, ws, rfl, hXK ▸ hq.mono F1.sub, hXK ▸ hq2.mono F1.sub, ?_⟩
              rw [hXK]
              have h1 := hd.length
              have h2 := hd2.length
              refine q Y1 H1 _ e1 F1 ⟨fun i H e hi => ?_, fun H e => ?_, fun i H x H' d e hd' hy Y2 e2 e3 => ?_⟩
              · rw [pairUp_length] at hi
                exact ⟨us, ws, us[i]'(by omega), ws[i]'(by omega), hq.mono e, hq2.mono e, List.getElem?_eq_getElem _, List.getElem?_eq_getElem _⟩
              · refine ⟨us, ws, hq.mono e, hq2.mono e, ?_⟩
                rw [pairUp_length]
                omega
              · obtain ⟨T, x1, x2, rfl, nT, rfl, f1, f2⟩ := hy
                obtain ⟨dx, dy, g1, g2, rfl⟩ := pairUp_get hd'
                obtain ⟨v1, h1, r1⟩ := hd.get g1
                obtain ⟨v2, h2, r2⟩ := hd2.get g2
                have z1 := f1 us (hq.mono e)
                have z2 := f2 ws (hq2.mono e)
                rw [h1] at z1
                rw [h2] at z2
                cases z1; cases z2
                exact ⟨_, .tup nT (.cons (r1.mono e2) (.cons (r2.mono e2) .nil))⟩
end
end MI

set_option Elab.async false
set_option linter.all false
set_option autoImplicit false
set_option maxRecDepth 100000
/-! MI: repr of data with great numbers. -/
namespace MI
open PySem PySem.Spec L2
mutual
/-- no dict, numbers of fewer than 4300 figures -/
def wideOk : D → Bool
  | .none => true
  | .bool _ => true
  | .int i => decide (i.natAbs.log2 < 12900)
  | .str _ => true
  | .list ds => wideAll ds
  | .tuple ds => wideAll ds
  | .dict _ => false
def wideAll : List D → Bool
  | [] => true
  | d :: ds => wideOk d && wideAll ds
end
theorem wide10 {i : Int} (h : i.natAbs.log2 < 12900) : i.natAbs < 10 ^ 4300 := Nat.lt_of_lt_of_le (PyProof.Rows.lt_of_log2 h) PyProof.Rows.pow_lo
theorem noDigits_of {K : PySem.W.Frag} {h : Heap} (hK : K.In h) (hl : h.NoLimit) (e : PySem.W.nsIn K cStatics "sys.int_max_str_digits" = some none) : h.NoDigits := by
  obtain ⟨mc, G, _⟩ := hl
  refine ⟨mc, G, ?_⟩
  obtain ⟨o, es, ep, ho, hd, _, hf⟩ := G
  unfold PySem.W.nsIn at e
  split at e
  · rename_i c d es' n' sl q
    have this := hK _ _ q
    rw [ho] at this
    cases this
    cases hd
    split at e
    · cases e
    · rename_i he
      rw [← hf]
      unfold nsFind findBy
      rw [← Array.find?_toList, he]
      rfl
  · cases e
section
variable {prog : Program} {w : World} {A : Around} {E : Value → Shared → Prop} {s : Shared}
open PyProof.Rows in
set_option maxRecDepth 100000 in
theorem int_reprW {a : Int} {t : Tok} {Q : Value → Shared → Prop} (hn : s.heap.NoDigits) (ha : a.natAbs < 10 ^ 4300) (h : Q (.str (toString a) s.toks) { s with toks := s.toks + 1 }) : wpAny (model prog w) A (call (.builtin "int.__repr__") [.int a t]) Q E s := by
  refine wpAny_call_entry F.slot_int_repr (typeIs_int s a t) F.entry_int_repr ?_ (F.args_int_repr_1 _)
  unfold Builtin.«int.__repr__»
  show wpAny _ _ (do let r ← Builtin.overDigitLimit? a; _) _ _ s
  exact wpAny_bind (overDigitLimit_any hn (fun _ => wpAny_bind (wpAny_mkStr (wpAny_pure ⟨_, rfl, h⟩) (int_text_fits10 ha))) fun z => absurd ha (Nat.not_lt.mpr z))
theorem reprK_int {h₀ : Heap} {as : List Addr} {d : Nat} {a : Int} {t : Tok} (hn : h₀.NoDigits) (ha : a.natAbs < 10 ^ 4300) : ReprK prog w as h₀ d (.int a t) (toString a) := by
  intro base hb A g E s Q hg hcl hu hk0 hQ
  have hle : base ≤ sizeLine := by omega
  rw [pyReprUnder_leaf (v := .int a t) hle (fun _ e => nomatch e)]
  unfold pyRepr
  refine wpAny_bind (wpAny_pyReprObj_slot (by omega) (typeIs_int s a t) F.slot_int_repr.toG (int_reprW (hn.keeps hk0) ha ⟨_, _, rfl, ?_⟩))
  exact wpAny_pure (hQ s.heap _ fun _ _ e => e)
variable {h₀ : Heap}
mutual
theorem reprK2 (hn : h₀.NoDigits) : ∀ {v : Value} {d : PyData} {as : List Addr}, Reads h₀ v d as → wideOk d = true → d.shown.length ≤ sizeLine → ∃ bs, ReadAtMost h₀ d.depth bs ∧ ReprK prog w bs h₀ d.depth v d.shown
  | _, _, _, .none, _, _ => ⟨[], (fun _ h => nomatch h), by rw [PyData.shown]; exact .of_is ReprIs.none _ _ _⟩
  | _, _, _, .bool b, _, _ => ⟨[], (fun _ h => nomatch h), by rw [PyData.shown]; exact .of_is (ReprIs.bool b) _ _ _⟩
  | _, _, _, .int i t, hs, _ => ⟨[], (fun _ h => nomatch h), by rw [PyData.shown]; exact reprK_int hn (wide10 (by simpa [wideOk] using hs))⟩
  | _, _, _, .str x t, _, hz => ⟨[], (fun _ h => nomatch h), by rw [PyData.shown]; exact .of_is (ReprIs.str x t (by rw [PyData.shown] at hz; exact hz)) _ _ _⟩
  | _, _, _, .list (a := a) (vs := vs) (xs := xs) h1 h2 h3 h4, hs, hz => by
    rw [PyData.shown] at hz
    obtain ⟨bs, hb, hk⟩ := reprAllK2 hn h4 (by rw [wideOk] at hs; exact hs) fun t ht => Nat.le_trans (listText_mem_le ht) hz
    have hna : a ∉ bs := not_mem_of_deeper (.list h1 h2 h3 h4) (by simp only [PyData.depth]; omega) hb
    refine ⟨a :: bs, ReadAtMost.cons (.list h1 h2 h3 h4) (by simp only [PyData.depth]; omega) hb, ?_⟩
    rw [PyData.depth, PyData.shown]
    obtain ⟨l⟩ := vs
    cases l with
    | nil =>
      have h5 : ReadsAll h₀ [] xs _ := h4
      cases h5
      rw [PyData.shownAll, listText_nil]
      exact .listEmpty h1 h2 h3
    | cons x l => exact .list h1 h2 h3 hna (by simpa using hk.length_eq) fun i y e => hk.item i y (by simpa using e)
  | _, _, _, .tuple (a := a) (xs := xs) h1 h2 h3 h4, hs, hz => by
    rw [PyData.shown] at hz
    obtain ⟨bs, hb, hk⟩ := reprAllK2 hn h4 (by rw [wideOk] at hs; exact hs) fun t ht => Nat.le_trans (tupleText_mem_le ht) hz
    have hna : a ∉ bs := not_mem_of_deeper (.tuple h1 h2 h3 h4) (by simp only [PyData.depth]; omega) hb
    refine ⟨a :: bs, ReadAtMost.cons (.tuple h1 h2 h3 h4) (by simp only [PyData.depth]; omega) hb, ?_⟩
    rw [PyData.depth, PyData.shown]
    exact .tuple h1 h2 h3 hna hk
  | _, _, _, .dict _ _ _ _ _, hs, _ => by simp [wideOk] at hs
theorem reprAllK2 (hn : h₀.NoDigits) : ∀ {vs : List Value} {ds : List PyData} {as : List Addr}, ReadsAll h₀ vs ds as → wideAll ds = true → (∀ t ∈ PyData.shownAll ds, t.length ≤ sizeLine) →
    ∃ bs, ReadAtMost h₀ (PyData.depthAll ds) bs ∧ ReprAllK prog w bs h₀ (PyData.depthAll ds) vs (PyData.shownAll ds)
  | _, _, _, .nil, _, _ => ⟨[], (fun _ h => nomatch h), by rw [PyData.shownAll]; exact .nil⟩
  | _, _, _, .cons (d := d) (ds := ds) r rs, hs, hz => by
    rw [wideAll, Bool.and_eq_true] at hs
    rw [PyData.shownAll] at hz
    obtain ⟨b1, hb1, k1⟩ := reprK2 hn r hs.1 (hz _ (List.mem_cons_self ..))
    obtain ⟨b2, hb2, k2⟩ := reprAllK2 hn rs hs.2 fun t ht => hz t (List.mem_cons_of_mem _ ht)
    rw [PyData.depthAll, PyData.shownAll]
    exact ⟨b1 ++ b2, (hb1.mono (Nat.le_max_left _ _)).append (hb2.mono (Nat.le_max_right _ _)), .cons ((k1.more fun b hb => List.mem_append_left _ hb).level_le (Nat.le_max_left _ _)) (k2.more_le (fun b hb => List.mem_append_right _ hb) (Nat.le_max_right _ _))⟩
end
end
def ReprOkW (d : D) : Prop := wideOk d = true ∧ d.depth ≤ 60 ∧ d.shown.length ≤ sizeLine
instance (d : D) : Decidable (ReprOkW d) := inferInstanceAs (Decidable (_ ∧ _ ∧ _))
mutual
theorem wide_plain : ∀ d : D, wideOk d = true → plain d = true
  | .none, _ => rfl
  | .bool _, _ => rfl
  | .int _, _ => rfl
  | .str _, _ => rfl
  | .list ds, h => by rw [plain]; exact wide_plainAll ds (by rw [wideOk] at h; exact h)
  | .tuple ds, h => by rw [plain]; exact wide_plainAll ds (by rw [wideOk] at h; exact h)
  | .dict _, h => by simp [wideOk] at h
theorem wide_plainAll : ∀ ds : List D, wideAll ds = true → plainAll ds = true
  | [], _ => rfl
  | d :: ds, h => by
    rw [wideAll, Bool.and_eq_true] at h
    rw [plainAll, wide_plain d h.1, wide_plainAll ds h.2]; rfl
end
theorem call_reprW {X : Cx} (hD : PySem.W.nsIn X.K cStatics "sys.int_max_str_digits" = some none) (hG : X.A.guards = some []) (hu : X.A.units + 64 < cLine) : CallR X (.builtin "repr") (fun xs H Q => ∃ x d, xs = [x] ∧ Dp X.K H x d ∧ ReprOkW d ∧ Q (.str d.shown) H) := by
  intro pins s σ H xs us Q I r h
  obtain ⟨x, d, rfl, hd, ⟨hw, hdp, hz⟩, q⟩ := h
  have hn : s.heap.NoDigits := noDigits_of I.kIn I.nolimit hD
  cases r with
  | cons rx rr =>
    cases rr
    obtain ⟨as, rd⟩ := Dp.reads I d x _ hd rx
    cases hd with
    | non =>
      cases rx
      exact PySem.P.repr_of_none ⟨.str _, H, I.tok _, ⟨_, rfl⟩, q⟩
    | bl b =>
      cases rx
      exact PySem.P.repr_of_bool ⟨.str _, H, I.tok _, ⟨_, rfl⟩, by
        simp only [PyData.shown] at q
        cases b <;> exact q⟩
    | int i =>
      obtain ⟨t, rfl⟩ := rx
      exact call_repr_slot (by omega) (typeIs_int s i t) F.slot_int_repr.toG (int_reprW hn (wide10 (by simpa [wideOk] using hw)) ⟨_, _, rfl, .str _, H, I.tok _, ⟨_, rfl⟩, q⟩)
    | str y =>
      obtain ⟨t, rfl⟩ := rx
      exact PySem.P.repr_of_str ⟨.str _, H, I.tok _, ⟨_, rfl⟩, q⟩ hz
    | lst _ _ =>
      cases rx
      cases rd with
      | list h1 h2 h3 h4 =>
        rename_i a zs p t2 ht o vs n bs0
        rw [PyData.shown] at hz q
        rw [PyData.depth] at hdp
        obtain ⟨bs, hb, hk⟩ := reprAllK2 (prog := X.prog) (w := X.w) hn h4 (by rw [wideOk] at hw; exact hw) fun t ht => Nat.le_trans (listText_mem_le ht) hz
        have hna : a ∉ bs := not_mem_of_deeper (.list h1 h2 h3 h4) (by simp only [PyData.depth]; omega) hb
        refine call_repr_slot (by omega) ⟨_, h1, h2⟩ F.slot_list_repr.toG ?_
        obtain ⟨l⟩ := vs
        cases l with
        | nil =>
          have h5 : ReadsAll s.heap [] _ _ := h4
          cases h5
          rw [PyData.shownAll, listText_nil] at q
          exact call_list_repr_empty ⟨_, h1, h2⟩ h1 h3 ⟨_, _, rfl, .str _, H, I.tok _, ⟨_, rfl⟩, q⟩
        | cons x l => exact call_list_reprK h1 h2 h3 hna (by simpa using hk.length_eq) (fun i y e => hk.item i y (by simpa using e)) (g := []) hG (fun b _ => Clear.nil b) (by show X.A.units + 1 + _ < cLine; omega) (fun _ _ e => e) (fun h' u tk k => ⟨_, _, rfl, .str _, H, I.kept k, ⟨_, rfl⟩, q⟩) hz
    | tup _ _ =>
      cases rx
      cases rd with
      | tuple h1 h2 h3 h4 =>
        rename_i a zs p t2 ht o vs n
        rw [PyData.shown] at hz q
        rw [PyData.depth] at hdp
        obtain ⟨bs, hb, hk⟩ := reprAllK2 (prog := X.prog) (w := X.w) hn h4 (by rw [wideOk] at hw; exact hw) fun t ht => Nat.le_trans (tupleText_mem_le ht) hz
        have hna : a ∉ bs := not_mem_of_deeper (.tuple h1 h2 h3 h4) (by simp only [PyData.depth]; omega) hb
        exact call_repr_slot (by omega) ⟨_, h1, h2⟩ F.slot_tuple_repr (call_tuple_reprK h1 h2 h3 hna hk (g := []) hG (fun b _ => Clear.nil b) (by show X.A.units + 1 + _ < cLine; omega) (fun _ _ e => e) (fun h' u tk k => ⟨_, _, rfl, .str _, H, I.kept k, ⟨_, rfl⟩, q⟩) hz)
def reprW (d : D) : Option OD := if ReprOkW d then some (.fz (.str d.shown)) else none
section
variable {X : Cx} {c : Ct} {fa : EF} {a : Expr} {p pos : Pos}
theorem mo_reprW (hXK : X.K = c.K) (hG : X.A.guards = some []) (hu : X.A.units + 64 < cLine) (hD : PySem.W.nsIn X.K cStatics "sys.int_max_str_digits" = some none) (hg : Gl X "repr") (hm : X.mg "repr" = none) (ha : ME X c fa a) (he : starEach [a] X.env = (false, eval a X.env) :: starEach [] X.env := by rfl) (hpl : (backTo pos (starEach [] X.env)).any (·.1) = false := by rfl) :
    MO X c (oBlt (one reprW) (aCons fa aNil)) (.Call (.Name "repr" p) [a] [] pos) := mo_blt (call_reprW hD hG hu) (CallL.one fun Y H Q x d o e r q g => by
  unfold reprW at q
  split at q
  · rename_i hk
    cases q
    exact ⟨x, d, rfl, hXK ▸ r.dp e (wide_plain d hk.1), hk, g _ _ _ (.old (.str _))⟩
  · cases q) hg hm (by decide +kernel) (ma_cons ha ma_nil he) (by decide) (by decide) he hpl
end
end MI

set_option Elab.async false
set_option linter.all false
set_option autoImplicit false
set_option maxRecDepth 100000
/-! MI: dicts written in a line; repr of data with dicts in it. -/
namespace MI
open PySem PySem.Spec L2
section
variable {X : Cx} {c : Ct}
/-- {} as data -/
theorem me_dnew {pos : Pos} : ME X c (eC (.dict [])) (.Dict [] [] pos) := by
  refine ⟨PE.imp pe_dnewK fun σ H Q q => ?_⟩
  obtain ⟨ξ, Y, s, tv, ts, hK, F, q⟩ := q
  intro p hp
  have F1 := F.newF hp (.dK [])
  have e : Same Y (upd Y p (.dK [])) := same_upd (F.sub.free hp)
  exact q _ _ (.ref p) e F1 (hK ▸ .dk (kvs := []) (ds := []) upd_same .nil)
theorem tPairs_c (σ : L2.St) (H : Hp) (Q : List (V × V) → Hp → Prop) : ∀ (l : List (V × V)) (R : List (V × V) → List (V × V)), (∀ ps, R ps = R ps) → tPairs (l.map fun p => (tC p.1, tC p.2)) σ H (fun ps H => Q (R ps) H) = Q (R l) H
  | [], R, _ => rfl
  | p :: l, R, _ => by
    show tPairs (l.map fun p => (tC p.1, tC p.2)) σ H (fun ps H => Q (R ((p.1, p.2) :: ps)) H) = _
    exact tPairs_c σ H Q l (fun ps => R (p :: ps)) fun _ => rfl
/-- {k: v, ..}: keys and values are constants -/
theorem me_disp {pos : Pos} {keys : List (Option Expr)} {values : List Expr} {l : List (Key × V)} {ds : List D} (h : PPs X pos keys values (l.map fun p => (tC (kV p.1), tC p.2))) (hm : mergeK [] l = l) (hd : ∀ Y, DrAll c.K Y (l.map (·.2)) ds)
    (hall : keys.all (·.isSome) = true := by rfl) (hl : keys.length = values.length := by rfl) (h0 : keys ≠ [] := by simp) (h15 : keys.length ≤ 15 := by decide) (h15' : l.length ≤ 15 := by decide) :
    ME X c (eC (.dict ((l.map fun p => keyD p.1).zip ds))) (.Dict keys values pos) := by
  refine ⟨PE.imp (pe_disp h hall hl h0 h15) fun σ H Q q => ?_⟩
  obtain ⟨ξ, Y, s, tv, ts, hK, F, q⟩ := q
  intro p hp
  have key := tPairs_c σ (upd H p (.dK [])) (fun ps H2 => H2 p = some (.dK []) ∧ ∃ kvs : List (Key × V), ps = kvs.map (fun kv => (kV kv.1, kv.2)) ∧ kvs.length ≤ 15 ∧ Q (.ref p) (upd H2 p (.dK (mergeK [] kvs)))) (l.map fun p => (kV p.1, p.2)) id fun _ => rfl
  rw [List.map_map] at key
  refine cast key.symm ?_
  refine ⟨upd_same, l, rfl, h15', ?_⟩
  rw [hm]
  have eu : upd (upd H p (.dK [])) p (.dK l) = upd H p (.dK l) := by
    funext a
    by_cases h : a = p
    · subst h; rw [upd_same, upd_same]
    · rw [upd_ne h, upd_ne h, upd_ne h]
  rw [eu]
  have F1 := F.newF hp (.dK l)
  have e : Same Y (upd Y p (.dK l)) := same_upd (F.sub.free hp)
  exact q _ _ (.ref p) e F1 (hK ▸ .dk upd_same (hK ▸ hd _))
end
def keyWD : D → Bool
  | .int i => decide (i.natAbs.log2 < 12900)
  | .str _ => true
  | _ => false
mutual
/-- numbers of fewer than 4300 figures; dicts by ints and texts -/
def wideV : D → Bool
  | .none => true
  | .bool _ => true
  | .int i => decide (i.natAbs.log2 < 12900)
  | .str _ => true
  | .list ds => wideVs ds
  | .tuple ds => wideVs ds
  | .dict kvs => wideKv kvs
def wideVs : List D → Bool
  | [] => true
  | d :: ds => wideV d && wideVs ds
def wideKv : List (D × D) → Bool
  | [] => true
  | (k, d) :: r => keyWD k && (wideV d && wideKv r)
end
def keyW : Key → Bool
  | .inl i => decide (i.natAbs.log2 < 12900)
  | .inr _ => true
theorem wideKv_zip : ∀ {kvs : List (Key × V)} {ds : List D}, kvs.length = ds.length → wideKv ((kvs.map fun p => keyD p.1).zip ds) = true → (∀ p ∈ kvs, keyW p.1 = true) ∧ wideVs ds = true
  | [], [], _, _ => ⟨fun p h => by simp at h, rfl⟩
  | p :: kvs, d :: ds, h, hw => by
    rw [List.map_cons, List.zip_cons_cons, wideKv, Bool.and_eq_true, Bool.and_eq_true] at hw
    obtain ⟨a, b⟩ := wideKv_zip (kvs := kvs) (ds := ds) (by simpa using h) hw.2.2
    refine ⟨fun q hq => ?_, by rw [wideVs, hw.2.1, b]; rfl⟩
    rcases List.mem_cons.mp hq with rfl | hq
    · have := hw.1
      obtain ⟨k, x⟩ := q
      cases k <;> exact this
    · exact a q hq
  | [], _ :: _, h, _ => by simp at h
  | _ :: _, [], h, _ => by simp at h
theorem zip_fst {α β : Type} : ∀ {xs : List α} {ys : List β}, xs.length = ys.length → (xs.zip ys).map (·.1) = xs
  | [], [], _ => rfl
  | x :: xs, y :: ys, h => by rw [List.zip_cons_cons, List.map_cons, zip_fst (by simpa using h)]
  | [], _ :: _, h => by simp at h
  | _ :: _, [], h => by simp at h
theorem zip_snd {α β : Type} : ∀ {xs : List α} {ys : List β}, xs.length = ys.length → (xs.zip ys).map (·.2) = ys
  | [], [], _ => rfl
  | x :: xs, y :: ys, h => by rw [List.zip_cons_cons, List.map_cons, zip_snd (by simpa using h)]
  | [], _ :: _, h => by simp at h
  | _ :: _, [], h => by simp at h
section
variable {X : Cx} {pins : List (Addr × Obj)} {σ : L2.St} {H : Hp} {s : Shared}
theorem keys_shown {P : Program} {w : World} {h : Heap} (hn : h.NoDigits) : ∀ {kvs : List (Key × V)} {vs : List (Key × Value)} {es : List DictEntry}, KV kvs vs → Pairs (mixKind P w) es vs → (∀ p ∈ kvs, keyW p.1 = true) → (∀ t ∈ PyData.shownAll (kvs.map fun p => keyD p.1), t.length ≤ sizeLine) →
    ReadsAll h (es.map (·.key)) (kvs.map fun p => keyD p.1) [] ∧ ReprAllK P w [] h (PyData.depthAll (kvs.map fun p => keyD p.1)) (es.map (·.key)) (PyData.shownAll (kvs.map fun p => keyD p.1))
  | _, _, _, .nil, .nil, _, _ => by
    refine ⟨.nil, ?_⟩
    rw [List.map_nil, List.map_nil, PyData.shownAll]
    exact .nil
  | _, _, _, .cons (a := p) hp hr, .cons (e := e) h1 h2 hs, hw, hz => by
    rw [List.map_cons, PyData.shownAll] at hz
    obtain ⟨a, b⟩ := keys_shown hn hr hs (fun q hq => hw q (by simp [hq])) fun t ht => hz t (List.mem_cons_of_mem _ ht)
    have hz0 := hz _ (List.mem_cons_self ..)
    have hw0 := hw p (by simp)
    rw [← hp.1] at h1
    rw [List.map_cons, List.map_cons, PyData.shownAll, PyData.depthAll]
    rcases keyIs_shape h1 with ⟨i, t, e1, e2⟩ | ⟨x, t, e1, e2⟩
    · rw [e1] at hw0 hz0
      rw [e1, e2]
      refine ⟨.cons (.int i t) a, .cons (.level_le (d := 0) ?_ (Nat.zero_le _)) (b.more_le (fun _ h => h) (Nat.le_max_right _ _))⟩
      show ReprK P w [] h 0 (.int i t) (PyData.shown (.int i))
      rw [PyData.shown]
      exact reprK_int hn (wide10 (by simpa [keyW] using hw0))
    · rw [e1] at hz0
      rw [e1, e2]
      refine ⟨.cons (.str x t) a, .cons (.level_le (d := 0) ?_ (Nat.zero_le _)) (b.more_le (fun _ h => h) (Nat.le_max_right _ _))⟩
      show ReprK P w [] h 0 (.str x t) (PyData.shown (.str x))
      rw [PyData.shown]
      exact .of_is (ReprIs.str x t (by
        have : (PyData.shown (.str x)).length ≤ sizeLine := hz0
        rwa [PyData.shown] at this)) _ _ _
theorem vals_of {P : Program} {w : World} : ∀ {kvs : List (Key × V)} {vs : List (Key × Value)} {es : List DictEntry}, KV kvs vs → Pairs (mixKind P w) es vs → Vals (kvs.map (·.2)) (es.map (·.val))
  | _, _, _, .nil, .nil => .nil
  | _, _, _, .cons hp hr, .cons h1 h2 hs => by
    rw [List.map_cons, List.map_cons, h2]
    exact .cons hp.2 (vals_of hr hs)
mutual
theorem reprK3 (I : Inv X pins σ H s) (hn : s.heap.NoDigits) : ∀ {x : V} {d : D}, Dr X.K H x d → ∀ {v : Value}, RelV x v → wideV d = true → d.shown.length ≤ sizeLine →
    ∃ as, Reads s.heap v d as ∧ ∃ bs, ReadAtMost s.heap d.depth bs ∧ ReprK X.prog X.w bs s.heap d.depth v d.shown
  | _, _, .non, _, r, _, _ => by
    cases r
    exact ⟨_, .none, [], (fun _ h => nomatch h), by rw [PyData.shown]; exact .of_is ReprIs.none _ _ _⟩
  | _, _, .bl b, _, r, _, _ => by
    cases r
    exact ⟨_, .bool b, [], (fun _ h => nomatch h), by rw [PyData.shown]; exact .of_is (ReprIs.bool b) _ _ _⟩
  | _, _, .int i, _, r, hw, _ => by
    obtain ⟨t, rfl⟩ := r
    exact ⟨_, .int i t, [], (fun _ h => nomatch h), by rw [PyData.shown]; exact reprK_int hn (wide10 (by simpa [wideV] using hw))⟩
  | _, _, .str x, _, r, _, hz => by
    obtain ⟨t, rfl⟩ := r
    exact ⟨_, .str x t, [], (fun _ h => nomatch h), by rw [PyData.shown]; exact .of_is (ReprIs.str x t (by rw [PyData.shown] at hz; exact hz)) _ _ _⟩
  | _, _, .lst (a := a) (ds := ds) h1 h2, _, r, hw, hz => by
    cases r
    obtain ⟨its, rv, ⟨o, n, ho, hc, _, hd⟩, _⟩ := I.list (.inl (.inl h1))
    rw [PyData.shown] at hz
    obtain ⟨as, h4, bs, hb, hk⟩ := reprAllK3 I hn h2 rv (by rw [wideV] at hw; exact hw) fun t ht => Nat.le_trans (listText_mem_le ht) hz
    have rd : Reads s.heap (.ref a) (.list ds) (a :: as) := .list ho hc hd h4
    have hna : a ∉ bs := not_mem_of_deeper rd (by simp only [PyData.depth]; omega) hb
    refine ⟨_, rd, a :: bs, ReadAtMost.cons rd (by simp only [PyData.depth]; omega) hb, ?_⟩
    rw [PyData.depth, PyData.shown]
    cases its with
    | nil =>
      cases h4
      rw [PyData.shownAll, listText_nil]
      exact .listEmpty ho hc hd
    | cons x l => exact .list ho hc hd hna (by simpa using hk.length_eq) fun i y e => hk.item i y (by simpa using e)
  | _, _, .lck _ _, _, _, hw, _ => by simp [wideV, wideKv, keyWD] at hw
  | _, _, .tup (a := a) (ds := ds) h1 h2, _, r, hw, hz => by
    cases r
    obtain ⟨its, rv, ⟨o, ho, hc, n, hd⟩, _⟩ := I.tuple h1
    rw [PyData.shown] at hz
    obtain ⟨as, h4, bs, hb, hk⟩ := reprAllK3 I hn h2 rv (by rw [wideV] at hw; exact hw) fun t ht => Nat.le_trans (tupleText_mem_le ht) hz
    have rd : Reads s.heap (.ref a) (.tuple ds) as := .tuple ho hc hd h4
    have hna : a ∉ bs := not_mem_of_deeper rd (by simp only [PyData.depth]; omega) hb
    refine ⟨_, rd, a :: bs, ReadAtMost.cons rd (by simp only [PyData.depth]; omega) hb, ?_⟩
    rw [PyData.depth, PyData.shown]
    exact .tuple ho hc hd hna hk
  | _, _, .dk (a := a) (kvs := kvs) (ds := ds) h1 h2, _, r, hw, hz => by
    cases r
    obtain ⟨_, hsys, vs, rk, o, es, ep, ho, hx, hd, _, hp, _⟩ := dk_of I.hok h1
    have hl : kvs.length = ds.length := by have := h2.length; simpa using this
    have hl2 : (kvs.map fun p => keyD p.1).length = ds.length := by simpa using hl
    obtain ⟨w1, w2⟩ := wideKv_zip hl (by rw [wideV] at hw; exact hw)
    obtain ⟨kv, hkv⟩ : ∃ kv, kv = (kvs.map fun p => keyD p.1).zip ds := ⟨_, rfl⟩
    have k1 : kv.map (·.1) = kvs.map fun p => keyD p.1 := by rw [hkv]; exact zip_fst hl2
    have k2 : kv.map (·.2) = ds := by rw [hkv]; exact zip_snd hl2
    rw [← hkv] at hz ⊢
    rw [PyData.shown] at hz
    obtain ⟨r1, q1⟩ := keys_shown (h := s.heap) hn rk hp w1 fun t ht => by
      rw [← k1] at ht
      obtain ⟨p, hp, hl⟩ := PyData.shownKv_key_le kv t ht
      exact Nat.le_trans hl (Nat.le_trans (dictText_mem_le hp) hz)
    obtain ⟨as, r2, bs, hb, q2⟩ := reprAllK3 I hn h2 (vals_of rk hp) w2 fun t ht => by
      rw [← k2] at ht
      obtain ⟨p, hp, hl⟩ := PyData.shownKv_val_le kv t ht
      exact Nat.le_trans hl (Nat.le_trans (dictText_mem_le hp) hz)
    rw [← k1] at r1 q1
    rw [← k2] at r2 q2
    have rd : Reads s.heap (.ref a) (.dict kv) (a :: [] ++ as) := .dict ho hx.1 hd r1 r2
    have hb2 : ReadAtMost s.heap (PyData.depthKv kv) bs := hb.mono (by rw [← k2]; exact PyData.depthAll_vals_le kv)
    have hna : a ∉ bs := not_mem_of_deeper rd (by simp only [PyData.depth]; omega) hb2
    refine ⟨_, rd, a :: bs, ReadAtMost.cons rd (by simp only [PyData.depth]; omega) hb2, ?_⟩
    simp only [PyData.depth, PyData.shown, PyData.shownKv_eq]
    exact ReprK.dict ho hx.1 hd hsys hna (ReprEntriesK.of_two es.toList _ _
      (q1.more_le (fun _ h => (List.not_mem_nil h).elim) (PyData.depthAll_keys_le kv)) (q2.more_le (fun _ h => h) (PyData.depthAll_vals_le kv)))
  | _, _, .dt (a := a) (kvs := kvs) (ds := ds) h1 h2, _, r, hw, hz => by
    cases r
    cases kvs with
    | cons p kvs =>
      have hl := h2.length
      cases ds with
      | nil => simp at hl
      | cons d ds =>
        rw [wideV, List.map_cons, List.zip_cons_cons, wideKv] at hw
        simp [tkeyD, keyWD] at hw
    | nil =>
      have h3 := h2.length
      cases ds with
      | cons d ds => simp at h3
      | nil =>
        obtain ⟨_, hsys, xs, rk, o, es, ep, ho, hx, hd, hp, _⟩ := dt_of I.hok h1
        cases rk
        have he : es.toList = [] := hp
        have rd : Reads s.heap (.ref a) (.dict []) (a :: [] ++ []) := .dict ho hx.1 hd (by rw [he]; exact .nil) (by rw [he]; exact .nil)
        have hna : a ∉ ([] : List Addr) := fun h => nomatch h
        refine ⟨_, rd, a :: [], ReadAtMost.cons rd (by simp only [PyData.depth]; omega) (n := 0) (fun _ h => nomatch h), ?_⟩
        show ReprK X.prog X.w [a] s.heap (PyData.depthKv [] + 1) (.ref a) (PyData.shown (.dict []))
        simp only [PyData.shown, PyData.shownKv_eq]
        exact ReprK.dict ho hx.1 hd hsys hna (by rw [he]; exact .nil)
theorem reprAllK3 (I : Inv X pins σ H s) (hn : s.heap.NoDigits) : ∀ {xs : List V} {ds : List D}, DrAll X.K H xs ds → ∀ {vs : List Value}, Vals xs vs → wideVs ds = true → (∀ t ∈ PyData.shownAll ds, t.length ≤ sizeLine) →
    ∃ as, ReadsAll s.heap vs ds as ∧ ∃ bs, ReadAtMost s.heap (PyData.depthAll ds) bs ∧ ReprAllK X.prog X.w bs s.heap (PyData.depthAll ds) vs (PyData.shownAll ds)
  | _, _, .nil, _, r, _, _ => by
    cases r
    exact ⟨_, .nil, [], (fun _ h => nomatch h), by rw [PyData.shownAll]; exact .nil⟩
  | _, _, .cons (d := d) (ds := ds) h t, _, r, hw, hz => by
    cases r with
    | cons r1 r2 =>
      rw [wideVs, Bool.and_eq_true] at hw
      rw [PyData.shownAll] at hz
      obtain ⟨a1, q1, b1, hb1, k1⟩ := reprK3 I hn h r1 hw.1 (hz _ (List.mem_cons_self ..))
      obtain ⟨a2, q2, b2, hb2, k2⟩ := reprAllK3 I hn t r2 hw.2 fun t ht => hz t (List.mem_cons_of_mem _ ht)
      rw [PyData.depthAll, PyData.shownAll]
      exact ⟨_, .cons q1 q2, b1 ++ b2, (hb1.mono (Nat.le_max_left _ _)).append (hb2.mono (Nat.le_max_right _ _)), .cons ((k1.more fun b hb => List.mem_append_left _ hb).level_le (Nat.le_max_left _ _)) (k2.more_le (fun b hb => List.mem_append_right _ hb) (Nat.le_max_right _ _))⟩
end
end
def ReprOkV (d : D) : Prop := wideV d = true ∧ d.depth ≤ 60 ∧ d.shown.length ≤ sizeLine
instance (d : D) : Decidable (ReprOkV d) := inferInstanceAs (Decidable (_ ∧ _ ∧ _))
theorem call_reprV {X : Cx} (hD : PySem.W.nsIn X.K cStatics "sys.int_max_str_digits" = some none) (hG : X.A.guards = some []) (hu : X.A.units + 64 < cLine) : CallR X (.builtin "repr") (fun xs H Q => ∃ x d, xs = [x] ∧ Dr X.K H x d ∧ ReprOkV d ∧ Q (.str d.shown) H) := by
  intro pins s σ H xs us Q I r h
  obtain ⟨x, d, rfl, hd, ⟨hw, hdp, hz⟩, q⟩ := h
  have hn : s.heap.NoDigits := noDigits_of I.kIn I.nolimit hD
  cases r with
  | cons rx rr =>
    cases rr
    cases hd with
    | non =>
      cases rx
      exact PySem.P.repr_of_none ⟨.str _, H, I.tok _, ⟨_, rfl⟩, q⟩
    | bl b =>
      cases rx
      exact PySem.P.repr_of_bool ⟨.str _, H, I.tok _, ⟨_, rfl⟩, by
        simp only [PyData.shown] at q
        cases b <;> exact q⟩
    | int i =>
      obtain ⟨t, rfl⟩ := rx
      exact call_repr_slot (by omega) (typeIs_int s i t) F.slot_int_repr.toG (int_reprW hn (wide10 (by simpa [wideV] using hw)) ⟨_, _, rfl, .str _, H, I.tok _, ⟨_, rfl⟩, q⟩)
    | str y =>
      obtain ⟨t, rfl⟩ := rx
      exact PySem.P.repr_of_str ⟨.str _, H, I.tok _, ⟨_, rfl⟩, q⟩ hz
    | @lst a xs ds h1 h2 =>
      cases rx
      obtain ⟨its, rv, ⟨o, n, ho, hc, _, hd⟩, _⟩ := I.list (.inl (.inl h1))
      rw [PyData.shown] at hz q
      rw [PyData.depth] at hdp
      obtain ⟨as, h4, bs, hb, hk⟩ := reprAllK3 I hn h2 rv (by rw [wideV] at hw; exact hw) fun t ht => Nat.le_trans (listText_mem_le ht) hz
      have rd : Reads s.heap (.ref a) (.list ds) (a :: as) := .list ho hc hd h4
      have hna : a ∉ bs := not_mem_of_deeper rd (by simp only [PyData.depth]; omega) hb
      refine call_repr_slot (by omega) ⟨_, ho, hc⟩ F.slot_list_repr.toG ?_
      cases its with
      | nil =>
        cases h4
        rw [PyData.shownAll, listText_nil] at q
        exact call_list_repr_empty ⟨_, ho, hc⟩ ho hd ⟨_, _, rfl, .str _, H, I.tok _, ⟨_, rfl⟩, q⟩
      | cons x l => exact call_list_reprK ho hc hd hna (by simpa using hk.length_eq) (fun i y e => hk.item i y (by simpa using e)) (g := []) hG (fun b _ => Clear.nil b) (by show X.A.units + 1 + _ < cLine; omega) (fun _ _ e => e) (fun h' u tk k => ⟨_, _, rfl, .str _, H, I.kept k, ⟨_, rfl⟩, q⟩) hz
    | lck _ _ => simp [wideV, wideKv, keyWD] at hw
    | @tup a xs ds h1 h2 =>
      cases rx
      obtain ⟨its, rv, ⟨o, ho, hc, n, hd⟩, _⟩ := I.tuple h1
      rw [PyData.shown] at hz q
      rw [PyData.depth] at hdp
      obtain ⟨as, h4, bs, hb, hk⟩ := reprAllK3 I hn h2 rv (by rw [wideV] at hw; exact hw) fun t ht => Nat.le_trans (tupleText_mem_le ht) hz
      have rd : Reads s.heap (.ref a) (.tuple ds) as := .tuple ho hc hd h4
      have hna : a ∉ bs := not_mem_of_deeper rd (by simp only [PyData.depth]; omega) hb
      exact call_repr_slot (by omega) ⟨_, ho, hc⟩ F.slot_tuple_repr (call_tuple_reprK ho hc hd hna hk (g := []) hG (fun b _ => Clear.nil b) (by show X.A.units + 1 + _ < cLine; omega) (fun _ _ e => e) (fun h' u tk k => ⟨_, _, rfl, .str _, H, I.kept k, ⟨_, rfl⟩, q⟩) hz)
    | @dk a kvs ds h1 h2 =>
      cases rx
      obtain ⟨_, hsys, vs, rk, o, es, ep, ho, hx, hd, _, hp, _⟩ := dk_of I.hok h1
      have hl : kvs.length = ds.length := by have := h2.length; simpa using this
      have hl2 : (kvs.map fun p => keyD p.1).length = ds.length := by simpa using hl
      obtain ⟨w1, w2⟩ := wideKv_zip hl (by rw [wideV] at hw; exact hw)
      obtain ⟨kv, hkv⟩ : ∃ kv, kv = (kvs.map fun p => keyD p.1).zip ds := ⟨_, rfl⟩
      have k1 : kv.map (·.1) = kvs.map fun p => keyD p.1 := by rw [hkv]; exact zip_fst hl2
      have k2 : kv.map (·.2) = ds := by rw [hkv]; exact zip_snd hl2
      rw [← hkv] at hz q hdp
      rw [PyData.shown] at hz q
      rw [PyData.depth] at hdp
      obtain ⟨r1, q1⟩ := keys_shown (P := X.prog) (w := X.w) (h := s.heap) hn rk hp w1 fun t ht => by
        rw [← k1] at ht
        obtain ⟨p, hp, hl⟩ := PyData.shownKv_key_le kv t ht
        exact Nat.le_trans hl (Nat.le_trans (dictText_mem_le hp) hz)
      obtain ⟨as, r2, bs, hb, q2⟩ := reprAllK3 I hn h2 (vals_of rk hp) w2 fun t ht => by
        rw [← k2] at ht
        obtain ⟨p, hp, hl⟩ := PyData.shownKv_val_le kv t ht
        exact Nat.le_trans hl (Nat.le_trans (dictText_mem_le hp) hz)
      rw [← k1] at r1 q1
      rw [← k2] at r2 q2
      have rd : Reads s.heap (.ref a) (.dict kv) (a :: [] ++ as) := .dict ho hx.1 hd r1 r2
      have hb2 : ReadAtMost s.heap (PyData.depthKv kv) bs := hb.mono (by rw [← k2]; exact PyData.depthAll_vals_le kv)
      have hna : a ∉ bs := not_mem_of_deeper rd (by simp only [PyData.depth]; omega) hb2
      rw [PyData.shownKv_eq] at hz q
      exact call_repr_slot (by omega) ⟨_, ho, hx.1⟩ F.slot_dict_repr (call_dict_reprK ho hx.1 hd hsys hna (ReprEntriesK.of_two es.toList _ _
        (q1.more_le (fun _ h => (List.not_mem_nil h).elim) (PyData.depthAll_keys_le kv)) (q2.more_le (fun _ h => h) (PyData.depthAll_vals_le kv))) (g := []) hG (fun b _ => Clear.nil b) (by show X.A.units + 1 + _ < cLine; omega) (fun _ _ e => e) (fun h' u tk k => ⟨_, _, rfl, .str _, H, I.kept k, ⟨_, rfl⟩, q⟩) hz)
    | @dt a kvs ds h1 h2 =>
      cases rx
      cases kvs with
      | cons p kvs =>
        have hl := h2.length
        cases ds with
        | nil => simp at hl
        | cons d ds =>
          rw [wideV, List.map_cons, List.zip_cons_cons, wideKv] at hw
          simp [tkeyD, keyWD] at hw
      | nil =>
        have h3 := h2.length
        cases ds with
        | cons d ds => simp at h3
        | nil =>
          obtain ⟨_, hsys, xs, rk, o, es, ep, ho, hx, hd, hp, _⟩ := dt_of I.hok h1
          cases rk
          have he : es.toList = [] := hp
          have hna : a ∉ ([] : List Addr) := fun h => nomatch h
          have hz : (PyData.shown (.dict [])).length ≤ sizeLine := hz
          have q : Q (.str (PyData.shown (.dict []))) H := q
          have hdp : (PyData.depth (.dict [])) ≤ 60 := hdp
          rw [PyData.shown, PyData.shownKv_eq] at hz q
          rw [PyData.depth] at hdp
          exact call_repr_slot (by omega) ⟨_, ho, hx.1⟩ F.slot_dict_repr (call_dict_reprK (d := 0) ho hx.1 hd hsys hna (by rw [he]; exact .nil) (g := []) hG (fun b _ => Clear.nil b) (by show X.A.units + 1 + _ < cLine; omega) (fun _ _ e => e) (fun h' u tk k => ⟨_, _, rfl, .str _, H, I.kept k, ⟨_, rfl⟩, q⟩) hz)
def reprV (d : D) : Option OD := if ReprOkV d then some (.fz (.str d.shown)) else none
section
variable {X : Cx} {c : Ct} {fa : EF} {a : Expr} {p pos : Pos}
theorem mo_reprV (hXK : X.K = c.K) (hG : X.A.guards = some []) (hu : X.A.units + 64 < cLine) (hD : PySem.W.nsIn X.K cStatics "sys.int_max_str_digits" = some none) (hg : Gl X "repr") (hm : X.mg "repr" = none) (ha : ME X c fa a) (he : starEach [a] X.env = (false, eval a X.env) :: starEach [] X.env := by rfl) (hpl : (backTo pos (starEach [] X.env)).any (·.1) = false := by rfl) :
    MO X c (oBlt (one reprV) (aCons fa aNil)) (.Call (.Name "repr" p) [a] [] pos) := mo_blt (call_reprV hD hG hu) (CallL.one fun Y H Q x d o e r q g => by
  unfold reprV at q
  split at q
  · rename_i hk
    cases q
    exact ⟨x, d, rfl, hXK ▸ r.mono e, hk, g _ _ _ (.old (.str _))⟩
  · cases q) hg hm (by decide +kernel) (ma_cons ha ma_nil he) (by decide) (by decide) he hpl
end
end MI

set_option Elab.async false
set_option linter.all false
set_option autoImplicit false
set_option maxRecDepth 100000
set_option maxHeartbeats 4000000
/-! MI: any tuple times a number; texts times a number. -/
namespace MI
open PySem PySem.Spec L2 PyProof.Rows
theorem tuple_mul_same (l : Addr) (items : Array Value) (n : Nat) (dd : Option Addr) (sl : Array (Option Value)) (x : Int) (u : Tok) (c0 : (decide (x < -(2 ^ 63)) || decide (x ≥ 2 ^ 63)) = false) (c1 : (items.isEmpty || x == 1) = true) :
    Meets (Builtin.«tuple.__mul__» ⟨[.ref l, .int x u], []⟩) (fun _ R s => s.heap.get? l = some { cls := .type "tuple", dict := dd, data := .seq items n, slots := sl } ∧ R (.ok (.ret (Value.ref l))) s) :=
  .of_wp fun prog w A R s h => by
    obtain ⟨hp, g, d, tk, os⟩ := s
    obtain ⟨hl, h⟩ := h
    have f1 := AutoSeq1.idx_int
    wp_walk using wpAny_loadPart' hl
    repeat (first
      | (refine wpAny_ite_false (decide_eq_false (by rw [c0]; exact Bool.false_ne_true)) ?_; wp_walk using wpAny_loadPart' hl)
      | (refine wpAny_ite_true (decide_eq_true c1) ?_; wp_walk using wpAny_loadPart' hl))
    exact ⟨_, rfl, h⟩
theorem tuple_mul_none (l : Addr) (items : Array Value) (n : Nat) (dd : Option Addr) (sl : Array (Option Value)) (x : Int) (u : Tok) (c0 : (decide (x < -(2 ^ 63)) || decide (x ≥ 2 ^ 63)) = false) (c1 : (items.isEmpty || x == 1) = false) (c2 : (decide (x ≤ 0) || items.isEmpty) = true) :
    Meets (Builtin.«tuple.__mul__» ⟨[.ref l, .int x u], []⟩) (fun _ R s => s.heap.get? l = some { cls := .type "tuple", dict := dd, data := .seq items n, slots := sl } ∧
      R (.ok (.ret (Value.ref s.heap.objs.size))) { s with heap := s.heap.push { cls := Value.type "tuple", data := Data.seq #[] }, toks := s.toks }) :=
  .of_wp fun prog w A R s h => by
    obtain ⟨hp, g, d, tk, os⟩ := s
    obtain ⟨hl, h⟩ := h
    have f1 := AutoSeq1.idx_int
    wp_walk using wpAny_loadPart' hl
    repeat (first
      | (refine wpAny_ite_false (decide_eq_false (by rw [c0]; exact Bool.false_ne_true)) ?_; wp_walk using wpAny_loadPart' hl)
      | (refine wpAny_ite_false (decide_eq_false (by rw [c1]; exact Bool.false_ne_true)) ?_; wp_walk using wpAny_loadPart' hl)
      | (refine wpAny_ite_true (decide_eq_true c2) ?_; wp_walk using wpAny_loadPart' hl))
    exact ⟨_, rfl, h⟩
def rRepT2 (K : PySem.W.Frag) : R2 := fun x y H Q => ∃ l k xs, x = .ref l ∧ y = .int k ∧ SqT K H l xs ∧ -(2 ^ 63) ≤ k ∧ k < 2 ^ 63 ∧
  ((xs = [] ∨ k = 1) → Q (.ref l) H) ∧ (¬(xs = [] ∨ k = 1) → (xs.length : Int) * k ≤ 1000000 ∧ ∀ p, H p = none → Q (.ref p) (upd H p (.tup (List.replicate k.toNat xs).flatten)))
section
variable {X : Cx}
theorem op_repT2 : OpR X (binaryOp .Mult) (rRepT2 X.K) := by
  intro pins s σ H x y v u Q I rx ry h
  obtain ⟨l, k, xs, rfl, rfl, hT, h1, h2, q1, q2⟩ := h
  cases rx
  obtain ⟨t, rfl⟩ := ry
  obtain ⟨its, r, ⟨⟨cls, dd, data, sl⟩, ho, hc, n, hd⟩, hs⟩ := I.tuple hT
  simp only at hc hd
  subst hc hd
  have hle : its.length = xs.length := r.length.symm
  have c0 : (decide (k < -(2 ^ 63)) || decide (k ≥ 2 ^ 63)) = false := by
    rw [decide_eq_false (by omega), decide_eq_false (by omega)] <;> rfl
  have base : ∀ Q' : Value → Shared → Prop, wpAny (model X.prog X.w) X.A (call (.builtin "tuple.__mul__") [.ref l, .int k t]) Q' X.xe s → wpAny (model X.prog X.w) X.A (binaryOp .Mult (.ref l) (.int k t)) Q' X.xe s := fun Q' h =>
    wpAny_binaryOp_repeat_ref (T := "tuple") (U := "int") (by decide) ⟨_, ho, rfl⟩ (fun s' => typeIs_int s' k t) noFill_tuple_mul F.fills_int_mul F.slot_int_rmul repeat_tuple F.slot_int_index.lookup
      (call_meets F.slot_int_rmul (typeIs_int s k t) F.entry_int_rmul (F.args_int_rmul_2 _ _) (int_rmul_tuple k t l its.toArray n dd sl) ⟨ho, rfl, ⟨_, ho, rfl⟩, h⟩)
  have hemp : its.toArray.isEmpty = decide (xs = []) := by
    cases its with
    | nil => cases r; rfl
    | cons a b => cases r; rfl
  refine base _ ?_
  by_cases hsame : xs = [] ∨ k = 1
  · have c1 : (its.toArray.isEmpty || k == 1) = true := by
      rw [hemp]
      rcases hsame with h | h
      · rw [decide_eq_true h]; rfl
      · subst h; simp
    exact call_meets F.slot_tuple_mul ⟨_, ho, rfl⟩ F.entry_tuple_mul (F.args_tuple_mul_2 _ _) (tuple_mul_same l its.toArray n dd sl k t c0 c1) ⟨ho, .ref l, H, I, rfl, q1 hsame⟩
  · obtain ⟨q3, q4⟩ := q2 hsame
    have hne : xs ≠ [] := fun e => hsame (.inl e)
    have hk1 : k ≠ 1 := fun e => hsame (.inr e)
    have hi : its.toArray.isEmpty = false := by rw [hemp, decide_eq_false hne]
    have c1 : (its.toArray.isEmpty || k == 1) = false := by
      rw [hi, Bool.false_or]
      exact beq_eq_false_iff_ne.mpr hk1
    by_cases hk0 : k ≤ 0
    · have c2 : (decide (k ≤ 0) || its.toArray.isEmpty) = true := by rw [decide_eq_true hk0]; rfl
      refine call_meets F.slot_tuple_mul ⟨_, ho, rfl⟩ F.entry_tuple_mul (F.args_tuple_mul_2 _ _) (tuple_mul_none l its.toArray n dd sl k t c0 c1 c2) ⟨ho, ?_⟩
      have hz : k.toNat = 0 := by omega
      rw [hz] at q4
      refine ⟨.ref s.heap.objs.size, _, I.laid (t' := s.toks) (o := .tup []) (fun b ob q => Heap.get?_push_of_some _ q) (Nat.le_refl _) ?_, rfl, q4 _ (I.hok.fresh (Nat.le_refl _))⟩
      exact ⟨Nat.zero_le _, [], .nil, IsTup.new _ _⟩
    · have c2 : (decide (k ≤ 0) || its.toArray.isEmpty) = false := by
        rw [hi, Bool.or_false]
        exact decide_eq_false hk0
      have hsz0 : its.toArray.size = xs.length := by rw [List.size_toArray, hle]
      have hm : ((its.toArray.size : Nat) : Int) * k ≤ 1000000 := by rw [hsz0]; exact q3
      have hN : k.toNat * xs.length ≤ 1000000 := by
        obtain ⟨m, rfl⟩ := Int.eq_ofNat_of_zero_le (show 0 ≤ k by omega)
        rw [Int.toNat_natCast, Nat.mul_comm]
        have : ((xs.length * m : Nat) : Int) ≤ 1000000 := by rw [Int.natCast_mul]; exact q3
        omega
      have flen : (List.replicate k.toNat its).flatten.length ≤ sizeLine := by
        rw [PyProof.Rows.lm_len_rep_flat, hle, sizeLine_eq]
        omega
      have c4 : Builtin.Tuple.tupleTooMany (((its.toArray.size : Nat) : Int) * k) = false := by
        unfold Builtin.Tuple.tupleTooMany
        rw [sizeLine_eq]
        exact decide_eq_false (by omega)
      refine call_meets F.slot_tuple_mul ⟨_, ho, rfl⟩ F.entry_tuple_mul (F.args_tuple_mul_2 _ _) (tuple_mulW l its.toArray n dd sl k t c0 c1 c2 (by omega) c4 (by rw [size_rep, List.size_toArray]; exact flen)) ⟨ho, ?_⟩
      rw [size_rep]
      refine ⟨.ref s.heap.objs.size, _, I.laid (t' := s.toks) (o := .tup (List.replicate k.toNat xs).flatten) (fun b ob q => Heap.get?_push_of_some _ q) (Nat.le_refl _) ?_, rfl, q4 _ (I.hok.fresh (Nat.le_refl _))⟩
      exact ⟨by rw [PyProof.Rows.lm_len_rep_flat, sizeLine_eq]; omega, _, r.rep k.toNat, IsTup.new _ _⟩
def rMulS : R2 := fun x y H Q => ∃ z k, x = .str z ∧ y = .int k ∧ 0 < z.length ∧ 1 < k ∧ (z.length : Int) * k ≤ 1000000 ∧ Q (.str (Txt.mul z k)) H
theorem op_mulS : OpR X (binaryOp .Mult) rMulS := by
  intro pins s σ H x y v u Q I rx ry h
  obtain ⟨z, k, rfl, rfl, hz0, hk, hz, q⟩ := h
  obtain ⟨t, rfl⟩ := rx
  obtain ⟨t', rfl⟩ := ry
  obtain ⟨m, rfl⟩ := Int.eq_ofNat_of_zero_le (show 0 ≤ k by omega)
  have hz' : z.length * m ≤ 1000000 := by
    have : ((z.length * m : Nat) : Int) ≤ 1000000 := by rw [Int.natCast_mul]; exact hz
    omega
  have hm : m ≤ 1000000 := Nat.le_trans (Nat.le_mul_of_pos_left m hz0) hz'
  refine SB.mul ⟨?_, fun _ _ => ?_, fun _ _ => ?_⟩ fun t' k' => ⟨.str _, H, I.tok _, ⟨_, rfl⟩, q⟩
  · rw [decide_eq_false (by omega), decide_eq_false (by omega)]; rfl
  · refine Int.not_lt.mpr ?_
    refine (Int.le_ediv_iff_mul_le (by omega)).mpr ?_
    omega
  · rw [Int.toNat_natCast]
    unfold Builtin.Str.tooLong
    rw [sizeLine_eq]
    exact decide_eq_false (by omega)
end
def mulT2 : D → D → Option OD
  | .tuple xs, .int k => if -(2 ^ 63) ≤ k ∧ k < 2 ^ 63 ∧ (xs.length : Int) * k ≤ 1000000 then some (.fz (.tuple (List.replicate k.toNat xs).flatten)) else none
  | _, _ => none
def mulSt : D → D → Option OD
  | .str z, .int k => if 0 < z.length ∧ 1 < k ∧ (z.length : Int) * k ≤ 1000000 then some (.fz (.str (Txt.mul z k))) else none
  | _, _ => none
def timesD (a b : D) : Option OD := (mulT2 a b).or (mulSt a b)
theorem rep_nil {α : Type} (n : Nat) : (List.replicate n ([] : List α)).flatten = [] := by
  induction n with
  | zero => rfl
  | succ n ih => rw [List.replicate_succ, List.flatten_cons, ih]; rfl
section
variable {X : Cx} {c : Ct} {fa fb : EF} {a b : Expr} {pos : Pos}
theorem mo_times (hXK : X.K = c.K) (ha : ME X c fa a) (hb : ME X c fb b) : MO X c (oOp2 timesD fa fb) (.BinOp a .Mult b pos) :=
  mo_op2 (OpR.or (hXK ▸ op_repT2) op_mulS) (OpL.or (fun Y H Q x y a b o e ra rb q g => by
    unfold mulT2 at q
    split at q
    · split at q
      · rename_i xs k hl
        cases q
        obtain ⟨p, us, rfl, h1, d1⟩ := ra.tuple_inv
        rw [rb.int_inv]
        refine ⟨p, _, us, rfl, rfl, Same.sqt e h1, hl.1, hl.2.1, fun z => ?_, fun z => ⟨by rw [d1.length]; exact hl.2.2, fun n hn => g _ _ _ (.tup hn (d1.rep _))⟩⟩
        have e2 : (List.replicate k.toNat xs).flatten = xs := by
          rcases z with z | z
          · subst z
            cases d1
            exact rep_nil _
          · subst z
            show (List.replicate 1 xs).flatten = xs
            simp
        rw [e2] at g
        exact g _ _ _ (.old ra)
      · cases q
    · cases q) (fun Y H Q x y a b o e ra rb q g => by
    unfold mulSt at q
    split at q
    · split at q
      · rename_i z k hl
        cases q
        rw [ra.str_inv, rb.int_inv]
        exact ⟨_, _, rfl, rfl, hl.1, hl.2.1, hl.2.2, g _ _ _ (.old (.str _))⟩
      · cases q
    · cases q)) ha hb
end
/-! ### isinstance, dicts too -/
def noneKey : D → Bool
  | .none => true
  | _ => false
def isiV (T : String) (d : D) : Option Bool := match d with
  | .dict kvs => if kvs.any (fun p => noneKey p.1) = true then none else kitB "dict" T
  | d => kitB (kindS d) T
def kindV : D → String
  | .dict _ => "dict"
  | d => kindS d
section
variable {K : PySem.W.Frag} {Y H : Hp}
theorem Dr.tyxV {v : V} {d : D} {T : String} {b : Bool} (e : Same Y H) (r : Dr K Y v d) (h : isiV T d = some b) : TyX K H v (.type (kindV d)) ∧ kitB (kindV d) T = some b := by
  cases r with
  | non => exact ⟨.base .non, h⟩
  | bl b => exact ⟨.base (.bl b), h⟩
  | int i => exact ⟨.base (.int i), h⟩
  | str x => exact ⟨.base (.str x), h⟩
  | lst h1 _ => exact ⟨.base (.lst (e _ _ h1)), h⟩
  | lck _ _ => simp [isiV, noneKey] at h
  | tup h1 _ =>
    refine ⟨?_, h⟩
    rcases h1 with (h1 | ⟨o, h1⟩) | ⟨o, its, n, h1, h2, _⟩
    · exact .base (.tup (e _ _ h1))
    · exact .fTuple (e _ _ h1)
    · exact .kTuple h1 h2
  | @dk a kvs ds h1 _ =>
    have h : (if (((kvs.map fun p => keyD p.1).zip ds).any fun p => noneKey p.1) = true then none else kitB "dict" T) = some b := h
    split at h
    · cases h
    · exact ⟨.base (.dK (e _ _ h1)), h⟩
  | @dt a kvs ds h1 _ =>
    have h : (if (((kvs.map fun p => tkeyD p.1).zip ds).any fun p => noneKey p.1) = true then none else kitB "dict" T) = some b := h
    split at h
    · cases h
    · exact ⟨.base (.dT (e _ _ h1)), h⟩
variable {X : Cx} {c : Ct} {fa : EF} {a : Expr} {p pos : Pos}
def eIsiV (T : String) (f : EF) : EF := fun s => (f s).bind fun d s => (ofO (isiV T d) s).bind fun b s => .ok (.bool b) s
theorem me_isiV {T : String} {x : Str} {p2 : Pos} (hXK : X.K = c.K) (hg : Gl X "isinstance") (hm : X.mg "isinstance" = none) (hg2 : Gl X x) (hm2 : X.mg x = none) (hv : bootBuiltins x = some (.type T)) (hn : x ≠ "__name__") (hdb : (x == ("__debug__" : Str)) = false) (ha : ME X c fa a)
    (he : starEach [a, .Name x p2] X.env = (false, eval a X.env) :: starEach [.Name x p2] X.env := by rfl) (he2 : starEach [.Name x p2] X.env = (false, eval (.Name x p2) X.env) :: starEach [] X.env := by rfl) (hpl : (backTo pos (starEach [.Name x p2] X.env)).any (·.1) = false := by rfl) :
    ME X c (eIsiV T fa) (.Call (.Name "isinstance" p) [a, .Name x p2] [] pos) := by
  refine ⟨PE.imp (pe_callB call_isi hg hm (by decide +kernel) (pa_cons ha.run (pa_cons (pe_bltn (v := .ty T) hg2 hm2 hv rfl hn hdb) pa_nil he2) he) (by decide) (by decide) he hpl) fun σ H Q q => ?_⟩
  obtain ⟨ξ, Y, s, tv, ts, hK, F, q⟩ := q
  refine tE_seq hK F q fun d s1 Y1 H1 v e1 F1 r1 q1 => ?_
  cases eb : isiV T d with
  | none => rw [eb] at q1; exact q1.elim
  | some b =>
    rw [eb] at q1
    obtain ⟨t1, t2⟩ := r1.tyxV F1.sub eb
    exact ⟨v, .ty T, .type (kindV d), .type T, b, rfl, .ty T, hXK ▸ t1, kit_ty t2, q1 Y1 H1 _ e1 F1 (.bl b)⟩
end
end MI

set_option Elab.async false
set_option linter.all false
set_option autoImplicit false
set_option maxRecDepth 100000
/-! MI: a frame over the heap at hand; dicts written with values; in, not in. -/
namespace MI
open PySem PySem.Spec L2
section
variable {ξ : Fx} {Y H : Hp} {σ : St} {s : S} {tv : List V} {ts : List OD}
/-- the same frame, over the heap at hand: what is not our own there stays -/
theorem FS.rebase (F : FS ξ Y H σ s tv ts) : ∃ ξ' : Fx, ξ'.K = ξ.K ∧ ξ'.H0 = H ∧ (∀ a, ξ'.ma a → ∃ u, H a = some u ∧ Ownable u) ∧ FS ξ' Y H σ s tv ts ∧
    ∀ (Y2 H2 : Hp) (σ2 : St) (s2 : S) (tv2 : List V) (ts2 : List OD), Same Y Y2 → FS ξ' Y2 H2 σ2 s2 tv2 ts2 → FS ξ Y2 H2 σ2 s2 tv2 ts2 := by
  obtain ⟨g, R⟩ := F.rel
  obtain ⟨liv, hliv⟩ : ∃ liv : Nat ⊕ Nat → Prop, ∀ k, liv k ↔ (match k with | .inl i => ∃ o, s[i]? = some (some o) | .inr j => ∃ o, ts[j]? = some o) := ⟨_, fun _ => Iff.rfl⟩
  have ok1 : ∀ k a, liv k → g k a → ∃ u, H a = some u ∧ Ownable u := fun k a hk f => by
    have hk := (hliv k).mp hk
    cases k with
    | inl i =>
      obtain ⟨o, e⟩ := hk
      obtain ⟨v, _, r⟩ := R.slot i o e
      exact r.ownable a f
    | inr j =>
      obtain ⟨o, e⟩ := hk
      obtain ⟨v, _, r⟩ := R.temp j o e
      exact r.ownable a f
  refine ⟨⟨ξ.K, H, Y, fun a => ∃ k, liv k ∧ g k a⟩, rfl, rfl, fun a ⟨k, hk, f⟩ => ok1 k a hk f, ?_, ?_⟩
  · refine ⟨F.sub, Same.refl _, fun a h => .inl h, fun a o h _ => h, fun a h => h, F.len, F.tlen, fun k a => liv k ∧ g k a, ⟨fun i o e => ?_, fun j o e => ?_, fun k a f => ?_, fun i j a f f' => R.sep i j a f.2 f'.2⟩⟩
    · obtain ⟨v, e1, r⟩ := R.slot i o e
      exact ⟨v, e1, r.iff fun a => ⟨fun f => ⟨(hliv (.inl i)).mpr ⟨o, e⟩, f⟩, fun f => f.2⟩⟩
    · obtain ⟨v, e1, r⟩ := R.temp j o e
      exact ⟨v, e1, r.iff fun a => ⟨fun f => ⟨(hliv (.inr j)).mpr ⟨o, e⟩, f⟩, fun f => f.2⟩⟩
    · exact ⟨(R.own k a f.2).1, (R.own k a f.2).2.1, .inr ⟨k, f⟩⟩
  · intro Y2 H2 σ2 s2 tv2 ts2 e F2
    have h0 : ∀ a, H a = none ∨ (∃ k, liv k ∧ g k a) → ξ.H0 a = none ∨ ξ.ma a := fun a h => by
      rcases h with h | ⟨k, _, f⟩
      · refine .inl ?_
        cases q : ξ.H0 a with
        | none => rfl
        | some u => exact absurd h (F.live a (by rw [q]; simp))
      · exact (R.own k a f).2.2
    refine ⟨F2.sub, F.z0.trans e, fun a h => ?_, fun a o h m => ?_, fun a h => F2.live a (F.live a h), F2.len, F2.tlen, ?_⟩
    · rcases F2.fresh a h with q | q
      · exact F.fresh a q
      · exact .inr (h0 a q)
    · refine F2.keep a o (F.keep a o h m) fun q => ?_
      rcases h0 a (.inr q) with z | z
      · rw [h] at z; cases z
      · exact m z
    · obtain ⟨g2, R2⟩ := F2.rel
      exact ⟨g2, R2.slot, R2.temp, fun k a f => ⟨(R2.own k a f).1, (R2.own k a f).2.1, h0 a (R2.own k a f).2.2⟩, R2.sep⟩
/-- a new object is held by us alone while parts are evaluated; then it is written and frozen -/
theorem FS.held {p : Addr} (F : FS ξ Y H σ s tv ts) (hp : H p = none) (u : HO) : ∃ ξ' : Fx, ξ'.K = ξ.K ∧ FS ξ' Y (upd H p u) σ s tv ts ∧
    ∀ (Y2 H2 : Hp) (σ2 : St) (s2 : S) (tv2 : List V) (ts2 : List OD), Same Y Y2 → FS ξ' Y2 H2 σ2 s2 tv2 ts2 → H2 p = some u ∧ ∀ o : HO, Same Y2 (upd Y2 p o) ∧ FS ξ (upd Y2 p o) (upd H2 p o) σ2 s2 tv2 ts2 := by
  obtain ⟨g, R⟩ := F.rel
  obtain ⟨liv, hliv⟩ : ∃ liv : Nat ⊕ Nat → Prop, ∀ k, liv k ↔ (match k with | .inl i => ∃ o, s[i]? = some (some o) | .inr j => ∃ o, ts[j]? = some o) := ⟨_, fun _ => Iff.rfl⟩
  have ok1 : ∀ k a, g k a → a ≠ p := fun k a f z => (R.own k a f).1 (z ▸ hp)
  have kk : ∀ k a, g k a → upd H p u a = H a := fun k a f => upd_ne (ok1 k a f)
  have nm : ¬ (∃ k, liv k ∧ g k p) := fun ⟨k, _, f⟩ => ok1 k p f rfl
  refine ⟨⟨ξ.K, upd H p u, Y, fun a => ∃ k, liv k ∧ g k a⟩, rfl, ?_, ?_⟩
  · refine ⟨F.sub.trans (same_upd hp), Same.refl _, fun a h => .inl h, fun a o h _ => h, fun a h => h, F.len, F.tlen, fun k a => liv k ∧ g k a, ⟨fun i o e => ?_, fun j o e => ?_, fun k a f => ?_, fun i j a f f' => R.sep i j a f.2 f'.2⟩⟩
    · obtain ⟨v, e1, r⟩ := R.slot i o e
      exact ⟨v, e1, (r.mono (Same.refl _) fun a f => kk _ a f).iff fun a => ⟨fun f => ⟨(hliv (.inl i)).mpr ⟨o, e⟩, f⟩, fun f => f.2⟩⟩
    · obtain ⟨v, e1, r⟩ := R.temp j o e
      exact ⟨v, e1, (r.mono (Same.refl _) fun a f => kk _ a f).iff fun a => ⟨fun f => ⟨(hliv (.inr j)).mpr ⟨o, e⟩, f⟩, fun f => f.2⟩⟩
    · exact ⟨by rw [kk k a f.2]; exact (R.own k a f.2).1, (R.own k a f.2).2.1, .inr ⟨k, f⟩⟩
  · intro Y2 H2 σ2 s2 tv2 ts2 e F2
    have hup : upd H p u p = some u := upd_same
    have h2p : H2 p = some u := F2.keep p u hup nm
    have hx0 : ξ.H0 p = none := by
      cases q : ξ.H0 p with
      | none => rfl
      | some z => exact absurd hp (F.live p (by rw [q]; simp))
    have y2p : Y2 p = none := by
      cases q : Y2 p with
      | none => rfl
      | some z =>
        rcases F2.fresh p (by rw [q]; simp) with h | h | h
        · exact absurd (F.sub.free hp) h
        · rw [show (upd H p u) p = none from h] at hup; cases hup
        · exact absurd h nm
    have h0 : ∀ a, upd H p u a = none ∨ (∃ k, liv k ∧ g k a) → ξ.H0 a = none ∨ ξ.ma a := fun a h => by
      rcases h with h | ⟨k, _, f⟩
      · refine .inl ?_
        cases q : ξ.H0 a with
        | none => rfl
        | some z =>
          have hH : H a ≠ none := F.live a (by rw [q]; simp)
          have ne : a ≠ p := fun w => hH (w ▸ hp)
          rw [upd_ne ne] at h
          exact absurd h hH
      · exact (R.own k a f).2.2
    refine ⟨h2p, fun o => ⟨same_upd y2p, ?_⟩⟩
    obtain ⟨g2, R2⟩ := F2.rel
    have no2 : ∀ k a, g2 k a → a ≠ p := fun k a f z => by
      rcases (R2.own k a f).2.2 with h | h
      · rw [z] at h
        rw [show (upd H p u) p = none from h] at hup; cases hup
      · rw [z] at h; exact nm h
    refine ⟨upd_mono F2.sub, (F.z0.trans e).trans (same_upd y2p), fun a h => ?_, fun a o' h m => ?_, fun a h => ?_, F2.len, F2.tlen, g2, ⟨fun i o' e' => ?_, fun j o' e' => ?_, fun k a f => ?_, R2.sep⟩⟩
    · by_cases z : a = p
      · subst z; exact .inr (.inl hx0)
      · rw [upd_ne z] at h
        rcases F2.fresh a h with q | q
        · exact F.fresh a q
        · exact .inr (h0 a q)
    · have ne : a ≠ p := fun w => by rw [w, hx0] at h; cases h
      rw [upd_ne ne]
      refine F2.keep a o' ?_ fun q => ?_
      · show upd H p u a = some o'
        rw [upd_ne ne]; exact F.keep a o' h m
      · rcases h0 a (.inr q) with z | z
        · rw [h] at z; cases z
        · exact m z
    · by_cases z : a = p
      · subst z; rw [upd_same]; simp
      · rw [upd_ne z]
        exact F2.live a (by show upd H p u a ≠ none; rw [upd_ne z]; exact F.live a h)
    · obtain ⟨v, e1, r⟩ := R2.slot i o' e'
      exact ⟨v, e1, r.mono (same_upd y2p) fun a f => upd_ne (no2 _ a f)⟩
    · obtain ⟨v, e1, r⟩ := R2.temp j o' e'
      exact ⟨v, e1, r.mono (same_upd y2p) fun a f => upd_ne (no2 _ a f)⟩
    · exact ⟨by rw [upd_ne (no2 k a f)]; exact (R2.own k a f).1, by rw [upd_ne (no2 k a f)]; exact (R2.own k a f).2.1, h0 a (R2.own k a f).2.2⟩
end
/-! ### {k: e, ..}: keys are constants -/
section
variable {X : Cx} {c : Ct}
def dVals : List (Key × EF) → AF
  | [] => fun s => .ok [] s
  | (_, f) :: r => fun s => (f s).bind fun d s => (dVals r s).bind fun ds s => .ok (d :: ds) s
def eDisp (l : List (Key × EF)) : EF := fun s => (dVals l s).bind fun ds s => .ok (.dict ((l.map fun p => keyD p.1).zip ds)) s
theorem dVals_pairs {ξ : Fx} {σ : L2.St} {G : List D → S → Prop} : ∀ (l : List (Key × EF)) {Y H : Hp} {s : S} {tv : List V} {ts : List OD} {R : List (V × V) → Hp → Prop}, ξ.K = c.K → FS ξ Y H σ s tv ts → out c ξ Y σ tv ts G (dVals l s) →
    (∀ ds vs s1 Y1 H1, Same Y Y1 → FS ξ Y1 H1 σ s1 tv ts → DrAll c.K Y1 vs ds → vs.length = l.length → G ds s1 → R ((l.map (·.1)).zip vs |>.map fun q => (kV q.1, q.2)) H1) →
    tPairs (l.map fun p => (tC (kV p.1), tE c p.2)) σ H R
  | [], Y, H, s, tv, ts, R, hK, F, q, hR => hR [] [] s Y H (Same.refl _) F .nil rfl q
  | (k, f) :: l, Y, H, s, tv, ts, R, hK, F, q, hR => by
    show tE c f σ H fun y H2 => tPairs (l.map fun p => (tC (kV p.1), tE c p.2)) σ H2 fun ps H3 => R ((kV k, y) :: ps) H3
    have q' : out c ξ Y σ tv ts G ((f s).bind fun d s => (dVals l s).bind fun ds s => .ok (d :: ds) s) := q
    refine tE_seq hK F q' fun d s1 Y1 H1 v e1 F1 r1 q1 => ?_
    cases e : dVals l s1 with
    | ok ds s2 =>
      rw [e] at q1
      refine dVals_pairs (G := fun ds' s' => ds' = ds ∧ s' = s2) l hK F1 (by rw [e]; exact ⟨rfl, rfl⟩) fun ds' vs s2' Y2 H2 e2 F2 r2 hl hds => ?_
      obtain ⟨rfl, rfl⟩ := hds
      exact hR (d :: ds') (v :: vs) s2' Y2 H2 (e1.trans e2) F2 (.cons (r1.mono e2) r2) (by simp [hl]) q1
    | ex x s2 =>
      rw [e] at q1
      refine dVals_pairs (G := fun _ _ => False) l hK F1 (by rw [e]; exact fun Y' H' cl z e' F' er => q1 Y' H' cl z (e1.trans e') F' er) fun _ _ _ _ _ _ _ _ _ z => z.elim
    | bad => rw [e] at q1; exact q1.elim
theorem me_dispE {pos : Pos} {keys : List (Option Expr)} {values : List Expr} {l : List (Key × EF)} (h : PPs X pos keys values (l.map fun p => (tC (kV p.1), tE c p.2))) (hm : ∀ vs : List V, vs.length = l.length → mergeK [] ((l.map (·.1)).zip vs) = (l.map (·.1)).zip vs)
    (hall : keys.all (·.isSome) = true := by rfl) (hl : keys.length = values.length := by rfl) (h0 : keys ≠ [] := by simp) (h15 : keys.length ≤ 15 := by decide) (h15' : l.length ≤ 15 := by decide) :
    ME X c (eDisp l) (.Dict keys values pos) := by
  refine ⟨PE.imp (pe_disp h hall hl h0 h15) fun σ H Q q => ?_⟩
  obtain ⟨ξ, Y, s, tv, ts, hK, F, q⟩ := q
  intro p hp
  obtain ⟨ξ', hK', F1, back⟩ := F.held hp (.dK [])
  cases e : dVals l s with
  | ok ds s1 =>
    have q1 : ∀ Y' H' v, Same Y Y' → FS ξ Y' H' σ s1 tv ts → Dr c.K Y' v (.dict ((l.map fun p => keyD p.1).zip ds)) → Q v H' := by
      unfold eDisp at q
      rw [e] at q
      exact q
    refine dVals_pairs (G := fun ds' s' => ds' = ds ∧ s' = s1) l (hK'.trans hK) F1 (by rw [e]; exact ⟨rfl, rfl⟩) fun ds' vs s2 Y2 H2 e2 F2 r2 hlv hds => ?_
    obtain ⟨rfl, rfl⟩ := hds
    obtain ⟨b1, b2⟩ := back Y2 H2 σ s2 tv ts e2 F2
    refine ⟨b1, (l.map (·.1)).zip vs, rfl, by simp [hlv]; exact h15', ?_⟩
    rw [hm vs hlv]
    obtain ⟨b3, b4⟩ := b2 (.dK ((l.map (·.1)).zip vs))
    refine q1 _ _ _ (e2.trans b3) b4 ?_
    have hz : ((l.map (·.1)).zip vs).map (·.2) = vs := zip_snd (by simp [hlv])
    have hz1 : ((l.map (·.1)).zip vs).map (fun p => keyD p.1) = l.map fun p => keyD p.1 := by
      have : ((l.map (·.1)).zip vs).map (fun p => keyD p.1) = (((l.map (·.1)).zip vs).map (·.1)).map keyD := by rw [List.map_map]; rfl
      rw [this, zip_fst (by simp [hlv]), List.map_map]; rfl
    have := Dr.dk (K := c.K) (Y := upd Y2 p (.dK ((l.map (·.1)).zip vs))) (a := p) upd_same (by rw [hz]; exact r2.mono b3)
    rw [hz1] at this
    exact this
  | ex x s1 =>
    have q1 : ∀ Y' H' cl z, Same Y Y' → FS ξ Y' H' σ s1 tv ts → c.er x cl z H' → c.W cl z σ H' := by
      unfold eDisp at q
      rw [e] at q
      exact q
    refine dVals_pairs (G := fun _ _ => False) l (hK'.trans hK) F1 (by
      rw [e]
      intro Y' H' cl z e' F' er
      obtain ⟨b1, b2⟩ := back Y' H' σ s1 tv ts e' F'
      obtain ⟨b3, b4⟩ := b2 (.dK [])
      have eH : upd H' p (.dK []) = H' := by
        funext a
        by_cases w : a = p
        · subst w; rw [upd_same, b1]
        · rw [upd_ne w]
      rw [eH] at b4
      exact q1 _ H' cl z (e'.trans b3) b4 er) fun _ _ _ _ _ _ _ _ _ z => z.elim
  | bad =>
    unfold eDisp at q
    rw [e] at q
    exact q.elim
end
end MI

set_option Elab.async false
set_option linter.all false
set_option autoImplicit false
set_option maxRecDepth 100000
/-! MI: in, not in (flat items), is True, join. -/
namespace MI
open PySem PySem.Spec L2
def flatD : D → Bool
  | .none => true
  | .bool _ => true
  | .int _ => true
  | .str _ => true
  | _ => false
def toV : D → V
  | .bool b => .bl b
  | .int i => .int i
  | .str x => .str x
  | _ => .non
section
variable {K : PySem.W.Frag} {Y H : Hp}
theorem Dr.toV_eq {v : V} {d : D} (r : Dr K Y v d) (f : flatD d = true) : v = toV d ∧ flatV v = true := by
  cases r with
  | non => exact ⟨rfl, rfl⟩
  | bl b => exact ⟨rfl, rfl⟩
  | int i => exact ⟨rfl, rfl⟩
  | str x => exact ⟨rfl, rfl⟩
  | _ => simp [flatD] at f
theorem DrAll.toV_eq : ∀ {vs : List V} {ds : List D}, DrAll K Y vs ds → ds.all flatD = true → vs = ds.map toV ∧ vs.all flatV = true
  | _, _, .nil, _ => ⟨rfl, rfl⟩
  | _, _, .cons h t, f => by
    rw [List.all_cons, Bool.and_eq_true] at f
    obtain ⟨a, b⟩ := h.toV_eq f.1
    obtain ⟨c, d⟩ := DrAll.toV_eq t f.2
    refine ⟨?_, by rw [List.all_cons, b, d]; rfl⟩
    rw [List.map_cons, ← c, ← a]
/-- x in a list or tuple of flat items -/
def inF (a : D) (ds : List D) : Option Bool := if flatD a = true ∧ ds.all flatD = true then some (inV (toV a) (ds.map toV)) else none
def inD (a b : D) : Option Bool := (itemsD b).bind (inF a)
def notInD (a b : D) : Option Bool := (inD a b).map not
theorem Dr.seq_of {v : V} {d : D} {ds : List D} (e : Same Y H) (r : Dr K Y v d) (h : itemsD d = some ds) : ∃ p xs, v = .ref p ∧ (SqL K H p xs ∨ SqT K H p xs) ∧ DrAll K Y xs ds := by
  obtain ⟨a, l, vs, rfl, h1, h2⟩ := r.seqX h
  refine ⟨a, vs, rfl, ?_, h2⟩
  have := h1.mono e
  unfold SqX at this
  cases l
  · exact .inr (by simpa using this)
  · exact .inl (by simpa using this)
theorem inD_ok : CmpL K (rIn K false) inD := fun Y H Q x y a b k e ra rb q g => by
  unfold inD at q
  obtain ⟨ds, hds, q⟩ := Option.bind_eq_some_iff.mp q
  unfold inF at q
  split at q
  · rename_i hf
    cases q
    obtain ⟨p, xs, rfl, hs, hd⟩ := rb.seq_of e hds
    obtain ⟨rfl, f1⟩ := ra.toV_eq hf.1
    obtain ⟨rfl, f2⟩ := hd.toV_eq hf.2
    exact ⟨p, _, rfl, hs, f1, f2, g⟩
  · cases q
theorem notInD_ok : CmpL K (rIn K true) notInD := fun Y H Q x y a b k e ra rb q g => by
  unfold notInD at q
  simp only [Option.map_eq_some_iff] at q
  obtain ⟨k', q, rfl⟩ := q
  unfold inD at q
  obtain ⟨ds, hds, q⟩ := Option.bind_eq_some_iff.mp q
  unfold inF at q
  split at q
  · rename_i hf
    cases q
    obtain ⟨p, xs, rfl, hs, hd⟩ := rb.seq_of e hds
    obtain ⟨rfl, f1⟩ := ra.toV_eq hf.1
    obtain ⟨rfl, f2⟩ := hd.toV_eq hf.2
    exact ⟨p, _, rfl, hs, f1, f2, g⟩
  · cases q
theorem isB_ok : CmpL K (fun x y H Q => ∃ a b, x = .bl a ∧ y = .bl b ∧ Q (.bl (decide (a = b))) H) isB := fun Y H Q x y a b k e ra rb q g => by
  unfold isB at q
  split at q
  · cases q
    exact ⟨_, _, ra.bool_inv, rb.bool_inv, g⟩
  · cases q
end
section
variable {X : Cx} {c : Ct} {fa fb : EF} {a b : Expr} {pos apos : Pos}
theorem me_in (hXK : X.K = c.K) (ha : ME X c fa a) (hb : ME X c fb b) (hm : behindInMarks .In b = false) : ME X c (eCmp inD fa fb) (.Compare a [.In] [b] pos) := me_cmp (hXK ▸ op_in_seq) inD_ok ha hb hm
theorem mt_in (hXK : X.K = c.K) (ha : ME X c fa a) (hb : ME X c fb b) (hm : behindInMarks .In b = false) : MT X c (kCmp inD fa fb) (.Compare a [.In] [b] pos) := mt_cmp (hXK ▸ op_in_seq) inD_ok ha hb hm
theorem me_notIn (hXK : X.K = c.K) (ha : ME X c fa a) (hb : ME X c fb b) (hm : behindInMarks .NotIn b = false) : ME X c (eCmp notInD fa fb) (.Compare a [.NotIn] [b] pos) := me_cmp (hXK ▸ op_notIn_seq) notInD_ok ha hb hm
theorem mt_notIn (hXK : X.K = c.K) (ha : ME X c fa a) (hb : ME X c fb b) (hm : behindInMarks .NotIn b = false) : MT X c (kCmp notInD fa fb) (.Compare a [.NotIn] [b] pos) := mt_cmp (hXK ▸ op_notIn_seq) notInD_ok ha hb hm
/-- x is True: of any data -/
def isTF (a b : D) : Option Bool := match b with
  | .bool q => some (match a with
    | .bool p => decide (p = q)
    | _ => false)
  | _ => none
def rIsTF : R2 := fun x y H Q => ∃ q : Bool, y = .bl q ∧ ((∃ p : Bool, x = .bl p ∧ Q (.bl (decide (p = q))) H) ∨ ((x = .non ∨ (∃ i, x = .int i) ∨ (∃ z, x = .str z) ∨ ∃ r, x = .ref r) ∧ Q (.bl false) H))
theorem op_isTF : OpR X (compareOp .Is) rIsTF := by
  intro pins s σ H x y v u Q I rx ry h
  obtain ⟨q, rfl, h⟩ := h
  cases (show u = Value.bool q from ry)
  rcases h with ⟨p, rfl, h⟩ | ⟨hx, h⟩
  · cases (show v = Value.bool p from rx)
    by_cases e : p = q
    · subst e
      exact wpAny_is_self rfl ⟨.bl true, H, I, rfl, by simpa using h⟩
    · exact wpAny_is_other rfl (fun z => e (Value.bool.inj z)) ⟨.bl false, H, I, rfl, by simpa [e] using h⟩
  · rcases hx with rfl | ⟨i, rfl⟩ | ⟨z, rfl⟩ | ⟨r, rfl⟩
    · cases rx
      exact wpAny_is_other rfl (fun z => nomatch z) ⟨.bl false, H, I, rfl, h⟩
    · obtain ⟨t, rfl⟩ := rx
      exact wpAny_is_other rfl (fun z => nomatch z) ⟨.bl false, H, I, rfl, h⟩
    · obtain ⟨t, rfl⟩ := rx
      exact wpAny_is_other rfl (fun z => nomatch z) ⟨.bl false, H, I, rfl, h⟩
    · cases rx
      exact wpAny_is_other rfl (fun z => nomatch z) ⟨.bl false, H, I, rfl, h⟩
theorem isTF_ok {K : PySem.W.Frag} : CmpL K rIsTF isTF := fun Y H Q x y a b k e ra rb q g => by
  unfold isTF at q
  split at q
  · rename_i qq
    cases q
    refine ⟨qq, rb.bool_inv, ?_⟩
    cases ra with
    | bl b => exact .inl ⟨b, rfl, g⟩
    | non => exact .inr ⟨.inl rfl, g⟩
    | int i => exact .inr ⟨.inr (.inl ⟨i, rfl⟩), g⟩
    | str z => exact .inr ⟨.inr (.inr (.inl ⟨z, rfl⟩)), g⟩
    | _ => exact .inr ⟨.inr (.inr (.inr ⟨_, rfl⟩)), g⟩
  · cases q
theorem me_isTF (ha : ME X c fa a) (hb : ME X c fb b) (hm : behindInMarks .Is b = false) : ME X c (eCmp isTF fa fb) (.Compare a [.Is] [b] pos) := me_cmp op_isTF isTF_ok ha hb hm
theorem mt_isTF (ha : ME X c fa a) (hb : ME X c fb b) (hm : behindInMarks .Is b = false) : MT X c (kCmp isTF fa fb) (.Compare a [.Is] [b] pos) := mt_cmp op_isTF isTF_ok ha hb hm
/-! ### s.join(a list of texts) -/
def asStrs : List D → Option (List Str)
  | [] => some []
  | .str x :: r => (asStrs r).map fun ns => x :: ns
  | _ :: _ => none
theorem asStrs_vals {K : PySem.W.Frag} {Y : Hp} : ∀ {vs : List V} {ds : List D} {ns : List Str}, DrAll K Y vs ds → asStrs ds = some ns → vs = ns.map V.str
  | _, _, _, .nil, e => by cases e; rfl
  | _, _, _, .cons (d := d) h t, e => by
    cases d with
    | str x =>
      simp only [asStrs, Option.map_eq_some_iff] at e
      obtain ⟨ns, e1, rfl⟩ := e
      rw [h.str_inv, asStrs_vals t e1]; rfl
    | _ => simp [asStrs] at e
def joinD (a b : D) : Option OD := match a with
  | .str x => (itemsD b).bind fun ds => (asStrs ds).bind fun ys => if (ys.map (·.length)).sum + ys.length * x.length ≤ 16777216 then some (.fz (.str (Txt.join x ys))) else none
  | _ => none
def oJoin (fa fb : EF) : OF := fun s => (fa s).bind fun a s => match a with
  | .str _ => (fb s).bind fun b s => ofO (joinD a b) s
  | _ => .bad
theorem mo_join (hXK : X.K = c.K) (ha : ME X c fa a) (hb : ME X c fb b) (hs : starEach [b] X.env = [(false, eval b X.env)] := by rfl) (hbase : attributeBase a "join" X.env (eval a X.env) = eval a X.env := by rfl) (hline : (apos.endLine == pos.line) = true := by rfl) :
    MO X c (oJoin fa fb) (.Call (.Attribute a "join" apos) [b] [] pos) := by
  refine ⟨PE.imp (pe_join ha.run hb.run hs hbase hline) fun σ H Q q => ?_⟩
  obtain ⟨ξ, Y, s, tv, ts, hK, F, q⟩ := q
  refine tE_seq hK F q fun d s1 Y1 H1 v e1 F1 r1 q1 => ?_
  cases d with
  | str x =>
    have hv := r1.str_inv
    subst hv
    refine ⟨⟨x, rfl⟩, ?_⟩
    refine tE_seq hK F1 (out.mono c q1 e1 (fun _ _ z => z)) fun d2 s2 Y2 H2 v2 e2 F2 r2 q2 => ?_
    cases eo : joinD (.str x) d2 with
    | none => rw [eo] at q2; exact q2.elim
    | some o =>
      rw [eo] at q2
      have eo' : ((itemsD d2).bind fun ds => (asStrs ds).bind fun ys => if (ys.map (·.length)).sum + ys.length * x.length ≤ 16777216 then some (OD.fz (.str (Txt.join x ys))) else none) = some o := eo
      obtain ⟨ds, h1, eo'⟩ := Option.bind_eq_some_iff.mp eo'
      obtain ⟨ys, h2, eo'⟩ := Option.bind_eq_some_iff.mp eo'
      split at eo'
      · rename_i hz
        cases eo'
        obtain ⟨p, xs, rfl, hsq, hd⟩ := r2.seq_of F2.sub h1
        have hxs := asStrs_vals hd h2
        subst hxs
        refine ⟨x, p, ys, rfl, rfl, hXK ▸ hsq, hz, ?_⟩
        exact q2 Y2 H2 _ (e1.trans e2) (F2.pushD (.str _))
      · cases eo'
  | _ => exact q1.elim
end
end MI

set_option Elab.async false
set_option linter.all false
set_option autoImplicit false
set_option maxRecDepth 100000
/-! MI: own errors: raise, try, defs that raise. -/
namespace MI
open PySem PySem.Spec L2 PyProof.Rows
/-! ### new objects that nobody looks at -/
inductive Grow : Hp → Hp → Prop
  | refl (H : Hp) : Grow H H
  | step {H H' : Hp} {p : Addr} {u : HO} : H p = none → Grow (upd H p u) H' → Grow H H'
theorem Grow.trans {A B C : Hp} (g : Grow A B) (h : Grow B C) : Grow A C := by
  induction g with
  | refl => exact h
  | step e _ ih => exact .step e (ih h)
theorem Grow.same {A B : Hp} (g : Grow A B) : Same A B := by
  induction g with
  | refl => exact Same.refl _
  | step e _ ih => exact (same_upd e).trans ih
theorem FS.grows {ξ : Fx} {Y H H' : Hp} {σ : L2.St} {s : S} {tv : List V} {ts : List OD} (F : FS ξ Y H σ s tv ts) (g : Grow H H') : FS ξ Y H' σ s tv ts := by
  induction g with
  | refl => exact F
  | step e _ ih => exact ih (F.newJ e _)
/-! ### what an except suite does: values that are known -/
section
variable {X : Cx} {C : L2.St → Hp → Prop}
structure HE (X : Cx) (C : L2.St → Hp → Prop) (v : V) (e : Expr) : Prop where
  run : PE X e (fun σ H Q => C σ H ∧ ∀ H', Grow H H' → Q v H')
structure HT (X : Cx) (C : L2.St → Hp → Prop) (b : Bool) (e : Expr) : Prop where
  run : PT X e (fun σ H Q => C σ H ∧ ∀ H', Grow H H' → Q b H')
structure HW (X : Cx) (C : L2.St → Hp → Prop) (b : Bool) (e : Expr) : Prop where
  run : PW X e (fun σ H Q => C σ H ∧ ∀ H', Grow H H' → Q b H')
structure HA (X : Cx) (C : L2.St → Hp → Prop) (vs : List V) (es : List Expr) : Prop where
  run : PA X es (fun σ H Q => C σ H ∧ ∀ H', Grow H H' → Q vs H')
def Stb (C : L2.St → Hp → Prop) : Prop := ∀ σ H H', C σ H → Grow H H' → C σ H'
theorem PW.imp {X : Cx} {e : Expr} {t t' : TT} (h : PW X e t) (i : ∀ σ H Q, t' σ H Q → t σ H Q) : PW X e t' := ⟨fun wh pins s σ H Q I q => h.run wh pins s σ H Q I (i σ H Q q)⟩
theorem he_c {v : V} {e : Expr} (h : PE X e (tC v)) : HE X C v e := ⟨PE.imp h fun σ H Q q => q.2 H (.refl H)⟩
theorem ht_val {b : Bool} {e : Expr} (h : HE X C (.bl b) e) (he : ∀ whole, isTrue e X.env whole = (do let v ← whole; standAt e.pos; holding [v] (truthy v)) := by intro _; rfl) : HT X C b e :=
  ⟨PT.imp (pt_val h.run he) fun σ H Q q => ⟨q.1, fun H' g => ⟨b, rfl, q.2 H' g⟩⟩⟩
theorem ht_not {b : Bool} {e : Expr} {pos : Pos} (h : HT X C b e) : HT X C (!b) (.UnaryOp .Not e pos) := ⟨PT.imp (pt_not h.run) fun σ H Q q => q⟩
theorem hw_or1 {b : Bool} {e : Expr} {pos : Pos} (h : HT X C b e) : HW X C b (.BoolOp .Or [e] pos) := ⟨pw_or1 h.run⟩
theorem hw_and1 {b : Bool} {e : Expr} {pos : Pos} (h : HT X C b e) : HW X C b (.BoolOp .And [e] pos) := ⟨pw_and1 h.run⟩
theorem hw_or {a b : Bool} {x y : Expr} {rest : List Expr} {pos : Pos} (st : Stb C) (h : HT X C a x) (h2 : HW X C b (.BoolOp .Or (y :: rest) pos)) : HW X C (a || b) (.BoolOp .Or (x :: y :: rest) pos) := by
  refine ⟨PW.imp (pw_or h.run h2.run) fun σ H Q q => ⟨q.1, fun H1 g1 => ?_⟩⟩
  cases a with
  | true => exact q.2 H1 g1
  | false => exact ⟨st σ H H1 q.1 g1, fun H2 g2 => q.2 H2 (g1.trans g2)⟩
theorem hw_and {a b : Bool} {x y : Expr} {rest : List Expr} {pos : Pos} (st : Stb C) (h : HT X C a x) (h2 : HW X C b (.BoolOp .And (y :: rest) pos)) : HW X C (a && b) (.BoolOp .And (x :: y :: rest) pos) := by
  refine ⟨PW.imp (pw_and h.run h2.run) fun σ H Q q => ⟨q.1, fun H1 g1 => ?_⟩⟩
  cases a with
  | false => exact q.2 H1 g1
  | true => exact ⟨st σ H H1 q.1 g1, fun H2 g2 => q.2 H2 (g1.trans g2)⟩
theorem ht_w {b : Bool} {e : Expr} (h : HW X C b e) : HT X C b e := ⟨h.run.pt⟩
theorem he_if {b : Bool} {v w : V} {x y z : Expr} {pos : Pos} (st : Stb C) (h : HT X C b x) (hy : HE X C v y) (hz : HE X C w z) : HE X C (if b = true then v else w) (.IfExp x y z pos) := by
  refine ⟨PE.imp (pe_ifExp h.run hy.run hz.run) fun σ H Q q => ⟨q.1, fun H1 g1 => ?_⟩⟩
  cases b with
  | true => exact ⟨st σ H H1 q.1 g1, fun H2 g2 => q.2 H2 (g1.trans g2)⟩
  | false => exact ⟨st σ H H1 q.1 g1, fun H2 g2 => q.2 H2 (g1.trans g2)⟩
theorem ha_nil : HA X C [] [] := ⟨PA.imp pa_nil fun σ H Q q => q.2 H (.refl H)⟩
theorem ha_cons {v : V} {vs : List V} {e : Expr} {es : List Expr} (st : Stb C) (h : HE X C v e) (h2 : HA X C vs es) (hs : starEach (e :: es) X.env = (false, eval e X.env) :: starEach es X.env := by rfl) : HA X C (v :: vs) (e :: es) := by
  refine ⟨PA.imp (pa_cons h.run h2.run hs) fun σ H Q q => ⟨q.1, fun H1 g1 => ?_⟩⟩
  exact ⟨st σ H H1 q.1 g1, fun H2 g2 => q.2 H2 (g1.trans g2)⟩
/-- what the suite gives back -/
inductive HR where
  | val (d : D)
  | lst (ds : List D)
  | tup (ds : List D)
def HR.od : HR → OD
  | .val d => .fz d
  | .lst ds => .ol ds
  | .tup ds => .fz (.tuple ds)
def HR.flat : HR → Bool
  | .val d => flatD d
  | .lst ds => ds.all flatD && decide (ds.length ≤ 1000)
  | .tup ds => ds.all flatD && decide (ds.length ≤ 1000)
def hdR (r : HR) (D : Ends) (H : Hp) : Prop := match r with
  | .val d => D.rt (toV d) H
  | .lst ds => ∀ p, H p = none → D.rt (.ref p) (upd H p (.lst (ds.map toV)))
  | .tup ds => ∀ p, H p = none → D.rt (.ref p) (upd H p (.tup (ds.map toV)))
structure HS (X : Cx) (C : L2.St → Hp → Prop) (r : HR) (sts : List Stmt) : Prop where
  run : PSs X sts (fun D σ H => C σ H ∧ ∀ H', Grow H H' → hdR r D H')
theorem pss_false {sts : List Stmt} : PSs X sts (fun _ _ _ => False) := ⟨fun _ _ _ _ _ _ h => h.elim⟩
theorem hs_val {d : D} {e : Expr} {pos : Pos} (h : HE X C (toV d) e) : HS X C (.val d) [.Return (some e) pos] := ⟨PSs.imp (pss_one (ps_ret h.run)) fun D σ H q => ⟨q.1, fun H' g => q.2 H' g⟩⟩
theorem hs_lst {ds : List D} {es : List Expr} {pos pos' : Pos} (h : HA X C (ds.map toV) es) (hl : ds.length ≤ 1000 := by decide) : HS X C (.lst ds) [.Return (some (.List es pos)) pos'] :=
  ⟨PSs.imp (pss_one (ps_ret (pe_lst h.run))) fun D σ H q => ⟨q.1, fun H' g => ⟨by rw [List.length_map]; exact size_okC hl, fun p hp => q.2 H' g p hp⟩⟩⟩
where size_okC {n : Nat} (h : n ≤ 1000) : n ≤ sizeLine := by unfold sizeLine; omega
theorem hs_skip {c : Expr} {a rest : List Stmt} {r : HR} {pos : Pos} (st : Stb C) (hc : HT X C false c) (h : HS X C r rest) : HS X C r (.If c a [] pos :: rest) := by
  refine ⟨PSs.imp (pss_cons (ps_if hc.run pss_false pss_nil) h.run) fun D σ H q => ⟨q.1, fun H1 g1 => ?_⟩⟩
  exact ⟨st σ H H1 q.1 g1, fun H2 g2 => q.2 H2 (g1.trans g2)⟩
theorem hs_take {c : Expr} {a rest : List Stmt} {r : HR} {pos : Pos} (st : Stb C) (hc : HT X C true c) (h : HS X C r a) : HS X C r (.If c a [] pos :: rest) := by
  refine ⟨PSs.imp (pss_cons (ps_if hc.run h.run pss_nil) pss_false) fun D σ H q => ⟨q.1, fun H1 g1 => ?_⟩⟩
  exact ⟨st σ H H1 q.1 g1, fun H2 g2 => q.2 H2 (g1.trans g2)⟩
end
/-! ### isinstance of the error in hand -/
section
variable {X : Cx} {a E : Addr} {oe : Obj} {pn : List (Addr × Obj)} {i : Nat} {C : L2.St → Hp → Prop}
theorem call_isET (T : ExcC X.K E) (hz : Zc (.ref E) none oe) (hf : ∃ vs, oe.data = .fields vs) : CallR (X.suite a ((a, oe) :: pn)) (.builtin "isinstance") (fun xs H Q => ∃ (tp : Addr) (cs : List V) (us : List Value) (b : Bool), xs = [.ref a, .ref tp] ∧ H tp = some (.tup cs) ∧ Paired ClsV cs us ∧ PySem.W.kitAny X.K (.ref E) us = some b ∧ Q (.bl b) H) := by
  intro pins s σ H xs us0 Q I r h
  obtain ⟨tp, cs, ws, b, rfl, hT, k, e, q⟩ := h
  obtain ⟨u1, u2, rfl, r1, r2⟩ := vals2 r
  cases (show u1 = Value.ref a from r1)
  cases (show u2 = Value.ref tp from r2)
  obtain ⟨_, its, rv, o, h1, h2, n, h3⟩ := (show ObjOk X.prog X.w H s.heap tp (.tup cs) from I.hok tp _ hT)
  have e3 := ClsV.all k rv
  subst e3
  obtain ⟨oc, od, dt, sl⟩ := o
  simp only at h2 h3
  subst h2 h3
  obtain ⟨hget, _⟩ := I.pin (a, oe) (List.mem_append.mpr (.inl List.mem_cons_self))
  obtain ⟨vs, hv⟩ := hf
  have J : PySem.W.InstAt s.heap a oe E none := by
    obtain ⟨oc, od, oda, osl⟩ := oe
    obtain ⟨h1, h2⟩ := hz
    dsimp only at h1 h2 hv
    subst h1 h2 hv
    exact ⟨hget, rfl, rfl, trivial⟩
  exact PySem.W.kia_tup (PySem.W.handS_kitx_exc T.hg T.hk T.hs T.hd T.ha T.hn T.ht T.hm) I.kIn J h1 e (fun z => nomatch z) fun tk => ⟨.bl b, H, I.kept (t' := tk) fun _ _ z => z, rfl, q⟩
structure Hold (X : Cx) (a E : Addr) (oe : Obj) (i : Nat) (n : Str) (C : L2.St → Hp → Prop) : Prop where
  cls : ExcC X.K E
  zc : Zc (.ref E) none oe
  fld : ∃ vs, oe.data = .fields vs
  slot : ∀ σ H, C σ H → σ[i]? = some (some (.ref a))
  stb : Stb C
theorem he_isE {n : Str} {c : V} {cv : Value} {b : Bool} {p p2 pos : Pos} {ec : Expr} (h : Hold X a E oe i n C) (hg : Gl (X.suite a ((a, oe) :: pn)) "isinstance") (hm : (X.suite a ((a, oe) :: pn)).mg "isinstance" = none) (hv : PE (X.suite a ((a, oe) :: pn)) (.Name n p2) (tVar i)) (hc : PE (X.suite a ((a, oe) :: pn)) ec (tC c)) (hcv : ClsV c cv) (hb : PySem.W.kitOne X.K (.ref E) cv = some b)
    (he : starEach [.Name n p2, ec] X.env = (false, eval (.Name n p2) X.env) :: starEach [ec] X.env := by rfl) (he2 : starEach [ec] X.env = (false, eval ec X.env) :: starEach [] X.env := by rfl) (hpl : (backTo pos (starEach [ec] X.env)).any (·.1) = false := by rfl) :
    HE (X.suite a ((a, oe) :: pn)) C (.bl b) (.Call (.Name "isinstance" p) [.Name n p2, ec] [] pos) := by
  refine ⟨PE.imp (pe_callB (call_isE h.cls h.zc h.fld) hg hm (by decide +kernel) (pa_cons hv (pa_cons hc pa_nil he2) he) (by decide) (by decide) he hpl) fun σ H Q q => ?_⟩
  exact ⟨.ref a, h.slot σ H q.1, c, cv, b, rfl, fun u ru => hcv.eq ru, hb, q.2 H (.refl H)⟩
theorem he_isET {n : Str} {cs : List V} {us : List Value} {b : Bool} {k : Nat} {p p2 p3 pos : Pos} {es : List Expr} (h : Hold X a E oe i n C) (hg : Gl (X.suite a ((a, oe) :: pn)) "isinstance") (hm : (X.suite a ((a, oe) :: pn)).mg "isinstance" = none) (hv : PE (X.suite a ((a, oe) :: pn)) (.Name n p2) (tVar i)) (hc : HA (X.suite a ((a, oe) :: pn)) C cs es) (hl : cs.length ≤ 1000) (hcv : Paired ClsV cs us) (hb : PySem.W.kitAny X.K (.ref E) us = some b)
    (he : starEach [.Name n p2, .Tuple es k p3] X.env = (false, eval (.Name n p2) X.env) :: starEach [.Tuple es k p3] X.env := by rfl) (he2 : starEach [.Tuple es k p3] X.env = (false, eval (.Tuple es k p3) X.env) :: starEach [] X.env := by rfl) (hpl : (backTo pos (starEach [.Tuple es k p3] X.env)).any (·.1) = false := by rfl) :
    HE (X.suite a ((a, oe) :: pn)) C (.bl b) (.Call (.Name "isinstance" p) [.Name n p2, .Tuple es k p3] [] pos) := by
  refine ⟨PE.imp (pe_callB (call_isET h.cls h.zc h.fld) hg hm (by decide +kernel) (pa_cons hv (pa_cons (pe_tup hc.run) pa_nil he2) he) (by decide) (by decide) he hpl) fun σ H Q q => ?_⟩
  refine ⟨.ref a, h.slot σ H q.1, q.1, fun H1 g1 => ⟨by unfold sizeLine; omega, fun tp htp => ?_⟩⟩
  exact ⟨tp, cs, us, b, rfl, upd_same, hcv, hb, q.2 _ (g1.trans (.step htp (.refl _)))⟩
end
/-! ### try: .. except X as e: .. -/
def sTry (i : Nat) (fb : SF) (h : Exn → Option HR) : SF := fun s => match fb s with
  | .ex e s' => if i < s'.length then (match h e with
    | some r => .rt r.od s'
    | none => .bad) else .bad
  | o => o
theorem toV_dr {K : PySem.W.Frag} {Y : Hp} : ∀ {d : D}, flatD d = true → Dr K Y (toV d) d
  | .none, _ => .non
  | .bool b, _ => .bl b
  | .int i, _ => .int i
  | .str x, _ => .str x
  | .list _, h => by simp [flatD] at h
  | .tuple _, h => by simp [flatD] at h
  | .dict _, h => by simp [flatD] at h
theorem toV_all {K : PySem.W.Frag} {Y : Hp} : ∀ {ds : List D}, ds.all flatD = true → DrAll K Y (ds.map toV) ds
  | [], _ => .nil
  | d :: ds, h => by
    rw [List.all_cons, Bool.and_eq_true] at h
    exact .cons (toV_dr h.1) (toV_all h.2)
section
variable {X : Cx} {c : Ct} {rf : List Bool}
theorem ms_try {er : Exn → Value → Option Addr → Hp → Prop} {h : Exn → Option HR} {fb : SF} {i : Nat} {x n : Str} {cval : Value} {body suite : List Stmt} {b₀ : Stmt} {np pos pos' : Pos}
    (hs : X.stack = X.env :: X.outer) (hf : X.env.frame = some X.env.locals) (hN : X.N.Nodup) (hi : X.N[i]? = some n) (hln : X.env.kindOf n = some .local) (hc : Names X x cval)
    (hcls : ∀ e cl d H r, er e cl d H → h e = some r → PySem.W.exmOne X.K cl cval = some true) (hflat : ∀ e r, h e = some r → r.flat = true)
    (hb : ∀ (W : L2.WX) (pn : List (Addr × Obj)) (xe : Value → Shared → Prop), Takes (X.tr pn xe) W → PassesOwn (model X.prog X.w) X.A X.env xe → MSs (X.tr pn xe) ⟨c.K, er, W⟩ rf fb body)
    (hsu : ∀ (a : Addr) (oe : Obj) (cl : Value) (d : Option Addr) (pn : List (Addr × Obj)) (e : Exn) (r : HR), Zc cl d oe → (∃ vs, oe.data = .fields vs) → h e = some r → (∃ H, er e cl d H) →
      HS (X.suite a ((a, oe) :: pn)) (fun σ H => σ[i]? = some (some (.ref a)) ∧ er e cl d H) r (b₀ :: suite)) (hrf : rf[i]? ≠ some true) (tk : Takes X (fun _ _ _ _ => False)) :
    MS X c rf (sTry i fb h) (.Try body [.ExceptHandler (some (.Name x np)) (some n) (b₀ :: suite) pos'] [] [] pos) := by
  refine ⟨PS.imp (ps_try_as (tb := fun W => tS ⟨c.K, er, W⟩ rf fb) (ts := fun a cl d D σ H => ∃ e r, h e = some r ∧ er e cl d H ∧ σ[i]? = some (some (.ref a)) ∧ ∀ H', Grow H H' → hdR r D H') (Wout := fun _ _ _ _ => False) hs hf hN hi hln hc tk (fun W pn xe t po => (hb W pn xe t po).run) fun a oe cl d pn hz hv => ⟨fun pins s σ H D I ⟨e, r, h1, h2, h3, h4⟩ => (hsu a oe cl d pn e r hz hv h1 ⟨H, h2⟩).run.run pins s σ H D I ⟨⟨h3, h2⟩, h4⟩⟩) fun D σ H q => ?_⟩
  obtain ⟨ξ, Y, s, hK, F, q⟩ := q
  refine ⟨ξ, Y, s, hK, F, ?_⟩
  unfold sTry at q
  cases e : fb s with
  | nx s' => rw [e] at q; exact q
  | bk s' => rw [e] at q; exact q
  | ct s' => rw [e] at q; exact q
  | rt o s' => rw [e] at q; exact q
  | bad => rw [e] at q; exact q
  | ex x' s' =>
    rw [e] at q
    by_cases hil0 : i < s'.length
    · simp only [hil0, if_true] at q
      cases hr : h x' with
      | none => simp only [hr] at q; exact q.elim
      | some r =>
        simp only [hr] at q
        intro Y' H' σ' cl d e' k F' her
        have hil : i < σ'.length := by rw [← F'.len]; exact hil0
        refine ⟨true, hcls _ _ _ _ r her hr, fun _ a _ => ⟨x', r, hr, her, by rw [List.getElem?_set_self hil], fun H2 g2 => ?_⟩, fun z => nomatch z⟩
        have F2 := F'.grows g2
        have hfl := hflat _ _ hr
        cases r with
        | val d' => exact q Y' H2 σ' (toV d') e' k (F2.pushD (toV_dr hfl))
        | lst ds =>
          have hfl : (ds.all flatD && decide (ds.length ≤ 1000)) = true := hfl
          rw [Bool.and_eq_true] at hfl
          exact fun p hp => q Y' _ σ' _ e' k (F2.pushL hp (toV_all hfl.1))
        | tup ds =>
          have hfl : (ds.all flatD && decide (ds.length ≤ 1000)) = true := hfl
          rw [Bool.and_eq_true] at hfl
          intro p hp
          obtain ⟨e2, F3⟩ := (Gives.tup (K := ξ.K) hp (toV_all hfl.1)).fs rfl F2
          exact q _ _ σ' _ (e'.trans e2) k F3
    · simp only [hil0, if_false] at q
      exact q.elim
end
/-! ### raise X() -/
section
variable {X : Cx} {c : Ct} {rf : List Bool}
/-- X(), X an own exception class without own __init__ -/
theorem pmk_own0 {C : Addr} {bmB : List Value} {B newId initId : String} {x : Str} {p pos : Pos} (F : ExcBaseFacts B newId initId bmB) (q : PySem.W.excIn X.K C bmB newId = true) (gC : X.mg x = some (.ref C))
    (kC : PySem.W.keepIn X.K (.ref C) = true) (r : Raises X (.ref C)) (hg : Gl X x) (hdb : (x == ("__debug__" : Str)) = false := by decide) :
    PMk X (.Call (.Name x p) [] [] pos) (fun _ H Q => Q (.ref C) none H) := by
  intro pins s σ H Q I h
  refine wpAny_Call_Name_kw (ld_glob I hg gC ?_ hdb)
  refine PySem.W.callWith_K0 I.kIn kC ?_
  show wpAny _ _ (call (.ref C) []) _ _ _
  obtain ⟨bm, N, nm, qn, bs, hdct, sn, sub, ab, col, dd, k0, k1, k2, k3, k5, mN, hC, hN, hni, T⟩ := exc_obj I.kIn q
  refine wpAny_call_exc_subT F T hC hN hni (fun h' e hm => ?_) (Nat.zero_le _)
  exact mk_of I hm r h (I.hok.gone hm.new)
def sRaise (e : Exn) : SF := fun s => .ex e s
theorem ms_raise0 {C : Addr} {bmB : List Value} {B newId initId : String} {x : Str} {p pos pos' : Pos} {e : Exn} (hc : X.calm = true) (tk : Takes X c.W) (F : ExcBaseFacts B newId initId bmB) (q : PySem.W.excIn X.K C bmB newId = true) (gC : X.mg x = some (.ref C))
    (kC : PySem.W.keepIn X.K (.ref C) = true) (r : Raises X (.ref C)) (hg : Gl X x) (her : ∀ H, c.er e (.ref C) none H) (hdb : (x == ("__debug__" : Str)) = false := by decide) : MS X c rf (sRaise e) (.Raise (some (.Call (.Name x p) [] [] pos)) none pos') := by
  refine ⟨PS.imp (ps_raise hc tk (pmk_own0 F q gC kC r hg hdb)) fun D σ H q => ?_⟩
  obtain ⟨ξ, Y, s, hK, Fr, q⟩ := q
  exact q Y H σ _ _ (Same.refl _) (Keep.refl _ _) Fr (her H)
end
/-! ### defs that raise -/
section
variable {P : Program} {w : World} {K : PySem.W.Frag} {mg : Str → Option Value} {base : Heap} {er : Exn → Value → Option Addr → Hp → Prop} {rf : List Bool}
theorem okFX {x qual : Str} {st : Stmt} {f : Addr} {fd : FuncData} {N ps : List Str} {k : Nat} {body : SF} (F : Fun K x qual st f fd) (S : FnScope N ps (defScope st)) (hn : rf.length = ps.length)
    (hb : ∀ (cdv : Value) (A : Around) (outer : List Env) (s : Shared) (H : Hp) (E : XK), A.guards = some [] → Room k (A.deeper (PyProof.Rows.envOfC qual (defScope st) s.heap.objs.size f cdv)) →
      Takes (cxOf (L2.CX P w) P w K mg base N qual (defScope st) f cdv A outer s H E) (fun cl d _ H => E cl d H) →
      PassesOwn (model P w) (cxOf (L2.CX P w) P w K mg base N qual (defScope st) f cdv A outer s H E).A (cxOf (L2.CX P w) P w K mg base N qual (defScope st) f cdv A outer s H E).env (cxOf (L2.CX P w) P w K mg base N qual (defScope st) f cdv A outer s H E).xe →
      MSs (cxOf (L2.CX P w) P w K mg base N qual (defScope st) f cdv A outer s H E) ⟨K, er, fun cl d _ H => E cl d H⟩ rf body (defBody st)) :
    FnG P w K mg base (L2.CX P w) (k + 1) f fd ps (spF K er true ps.length (mkF N.length rf body)) := by
  refine Fun.okG F S (fun vs H Q E h => ?_) (fun cdv A outer s H vs Q E hG hr h => ?_)
  · obtain ⟨_, _, _, _, _, _, hl, _⟩ := h
    exact hl
  · exact ⟨_, (hb cdv A outer s H E hG hr (takes_of rfl rfl rfl rfl) (passes_of rfl)).run, body_reads hn h fun _ _ _ _ _ z => z⟩
end
/-! ### calls of defs that raise -/
section
variable {X : Cx} {c : Ct} {k : Nat} {f : Addr} {fd : FuncData} {ps : List Str} {x : Str} {p pos : Pos} {e : Expr} {es : List Expr} {F : List OD → Res OD} {n : Nat} {ks : List (Option Nat)} {g : AF}
theorem mo_callX (tk : Takes X c.W) (Fo : FnG X.prog X.w X.K X.mg X.base (L2.CX X.prog X.w) k f fd ps (spF c.K c.er true n F)) (hG : X.A.guards = some []) (hr : Room k X.A) (hg : Gl X x) (hm : X.mg x = some (.ref f)) (hk : PySem.W.keepIn X.K (.ref f) = true) (hb : Binds X.K fd ps []) (ha : MR X c ks g (e :: es))
    (hn : ks.length = n := by rfl) (hrf : (ks.filterMap id).Nodup := by decide) (hdb : (x == ("__debug__" : Str)) = false := by decide) (he : starEach (e :: es) X.env = (false, eval e X.env) :: starEach es X.env := by rfl) (hpl : (backTo pos (starEach es X.env)).any (·.1) = false := by rfl) :
    MO X c (oCall ks g F) (.Call (.Name x p) (e :: es) [] pos) :=
  ⟨PE.imp (pe_callG (E := WE c.W) Fo hG hr hg hm hk hb (fun σ => passAt tk σ) ha.run hdb he hpl) fun σ H Q q => tR_imp (call_core (xs := true) (refsOk_of hrf) hn q) fun vs H1 h => h⟩
end
end MI

set_option Elab.async false
set_option linter.all false
set_option autoImplicit false
set_option maxRecDepth 100000
/-! MI: calls by names of defs that raise; defs that call themselves. -/
namespace MI
open PySem PySem.Spec L2
section
variable {X : Cx} {c : Ct} {K : PySem.W.Frag} {ξ : Fx} {Y H : Hp} {σ : St} {s : S} {tv : List V} {ts : List OD}
variable {k : Nat} {f : Addr} {fd : FuncData} {ps ks : List Str} {x : Str} {p pos : Pos} {e : Expr} {es : List Expr} {F : List OD → Res OD} {n : Nat} {g h : AF} {kws : List Keyword} {m : Nat} {ix : List Nat}
def oCallPX (m n : Nat) (ix : List Nat) (g h : AF) (F : List OD → Res OD) : OF := fun s => (g s).bind fun ds s1 => (h s1).bind fun es s2 => if ds.length = m ∧ es.length = n then (match F ((pickL .none ix (ds ++ es)).map .fz) with
  | .ok o _ => .ok o s2
  | .ex e _ => .ex e s2
  | .bad => .bad) else .bad
theorem callPX_core {vs ws : List V} {ds es : List D} {Q : VK} (hK : ξ.K = c.K) (F2 : FS ξ Y H σ s tv ts) (r1 : DrAll c.K Y vs ds) (r2 : DrAll c.K Y ws es) (hn : ix.length = n)
    (q2 : out c ξ Y σ tv ts (fun o s' => ∀ Y' H' v, Same Y Y' → FS ξ Y' H' σ s' (tv ++ [v]) (ts ++ [o]) → Q v H') (if ds.length = m ∧ es.length = ks.length then (match F ((pickL .none ix (ds ++ es)).map .fz) with
      | .ok o _ => .ok o s
      | .ex e _ => .ex e s
      | .bad => .bad) else .bad)) : spF c.K c.er true n F (pickIf .non m ks.length ix vs ws) H Q (fun cl x H => c.W cl x σ H) := by
  split at q2
  · rename_i hh
    have r3 : DrAll c.K Y (pickL .non ix (vs ++ ws)) (pickL .none ix (ds ++ es)) := (r1.append r2).pick ix
    unfold pickIf
    rw [if_pos ⟨r1.length.trans hh.1, r2.length.trans hh.2⟩]
    obtain ⟨ξ', a1, b1, c1, d1, back⟩ := F2.enterD (hK ▸ r3)
    refine ⟨ξ', Y, (pickL .none ix (ds ++ es)).map OD.fz, a1.trans hK, b1, c1, by simp [pickL, hn], d1, ?_⟩
    cases ef : F ((pickL .none ix (ds ++ es)).map OD.fz) with
    | ok o s3 =>
      rw [ef] at q2
      exact fun Y3 H3 v e3 F3 => q2 Y3 H3 v e3 (back Y3 H3 s3 [v] [o] e3 F3)
    | ex x s3 =>
      rw [ef] at q2
      refine ⟨rfl, fun Y3 H3 cl z e3 F3 er => ?_⟩
      have F4 := back Y3 H3 s3 [] [] e3 F3
      rw [List.append_nil, List.append_nil] at F4
      exact q2 Y3 H3 cl z e3 F4 er
    | bad => rw [ef] at q2; exact q2.elim
  · exact q2.elim
theorem mo_callP0X (tk : Takes X c.W) (Fo : FnG X.prog X.w X.K X.mg X.base (L2.CX X.prog X.w) k f fd ps (spF c.K c.er true n F)) (hG : X.A.guards = some []) (hr : Room k X.A) (hg : Gl X x) (hm : X.mg x = some (.ref f)) (hk : PySem.W.keepIn X.K (.ref f) = true)
    (hb : KBinds X.K fd ps ks (pickIf .none 0 ks.length ix) (pickIf .non 0 ks.length ix)) (hn : ix.length = n) (hkw : MK X c h kws)
    (hall : (backToKw pos (keywordEach kws X.env)).all (·.1.isSome) = true := by rfl) (hks : (backToKw pos (keywordEach kws X.env)).filterMap (·.1) = ks := by rfl)
    (hdb : (x == ("__debug__" : Str)) = false := by decide)
    (hpl : ((backTo pos (starEach [] X.env)).any (·.1) || (backToKw pos (keywordEach kws X.env)).any (·.1.isNone)) = false := by rfl) :
    MO X c (oCallPX 0 ks.length ix aNil h F) (.Call (.Name x p) [] kws pos) := by
  refine ⟨PE.imp (pe_callGK0 (E := WE c.W) Fo hG hr hg hm hk hb (fun σ => passAt tk σ) hkw.run hall hks hdb hpl) fun σ H Q q => ?_⟩
  obtain ⟨ξ, Y, s, tv, ts, hK, Fr, q⟩ := q
  refine tA_seq hK Fr q fun es s2 Y2 H2 ws e2 F2 r2 q2 => ?_
  exact callPX_core (vs := []) (ds := []) hK F2 .nil r2 hn (out.mono c q2 e2 fun o s z Y' H' v a b => z Y' H' v (e2.trans a) b)
theorem mo_callPX (tk : Takes X c.W) (Fo : FnG X.prog X.w X.K X.mg X.base (L2.CX X.prog X.w) k f fd ps (spF c.K c.er true n F)) (hG : X.A.guards = some []) (hr : Room k X.A) (hg : Gl X x) (hm : X.mg x = some (.ref f)) (hk : PySem.W.keepIn X.K (.ref f) = true)
    (hb : KBinds X.K fd ps ks (pickIf .none m ks.length ix) (pickIf .non m ks.length ix)) (hn : ix.length = n) (ha : MA X c g (e :: es)) (hkw : MK X c h kws)
    (hall : (backToKw pos (keywordEach kws X.env)).all (·.1.isSome) = true := by rfl) (hks : (backToKw pos (keywordEach kws X.env)).filterMap (·.1) = ks := by rfl)
    (hdb : (x == ("__debug__" : Str)) = false := by decide) (he : starEach (e :: es) X.env = (false, eval e X.env) :: starEach es X.env := by rfl)
    (hpl : ((backTo pos (starEach (e :: es) X.env)).any (·.1) || (backToKw pos (keywordEach kws X.env)).any (·.1.isNone)) = false := by rfl) :
    MO X c (oCallPX m ks.length ix g h F) (.Call (.Name x p) (e :: es) kws pos) := by
  refine ⟨PE.imp (pe_callGK (E := WE c.W) Fo hG hr hg hm hk hb (fun σ => passAt tk σ) ha.run hkw.run hall hks hdb he hpl) fun σ H Q q => ?_⟩
  obtain ⟨ξ, Y, s, tv, ts, hK, Fr, q⟩ := q
  refine tA_seq hK Fr q fun ds s1 Y1 H1 vs e1 F1 r1 q1 => ?_
  refine tA_seq hK F1 (out.mono c q1 e1 (fun _ _ z => z)) fun es s2 Y2 H2 ws e2 F2 r2 q2 => ?_
  exact callPX_core hK F2 (r1.mono e2) r2 hn (out.mono c q2 e2 fun o s z Y' H' v a b => z Y' H' v ((e1.trans e2).trans a) b)
theorem kit_self {K : PySem.W.Frag} {C : Value} : PySem.W.kitOne K C C = some true := by
  unfold PySem.W.kitOne
  rw [if_pos (by cases C <;> simp)]
theorem kit_ref {K : PySem.W.Frag} {C D : Addr} {b : Bool} (hd : PySem.W.hasDictIn K D = true) (ht : PySem.W.typeIn K (.ref D) = some (.type "type")) (hs : PySem.W.subIn K (.ref C) (.ref D) = some b) (hb : b = true ∨ (C == D) = false) : PySem.W.kitOne K (.ref C) (.ref D) = some b := by
  by_cases h : C = D
  · subst h
    rcases hb with hb | hb
    · subst hb; exact kit_self
    · rw [beq_self_eq_true] at hb; cases hb
  · unfold PySem.W.kitOne
    have e : ((Value.ref C : Value) == Value.ref D) = false := beq_eq_false_iff_ne.mpr fun z => h (by injection z)
    rw [if_neg (by rw [e]; simp)]
    show (if (_ : Bool) = true then PySem.W.subIn K (.ref C) (.ref D) else none) = some b
    rw [if_pos, hs]
    rw [Bool.and_eq_true]
    refine ⟨?_, by rw [ht]; rfl⟩
    unfold PySem.W.hasDictIn at hd
    cases q : PySem.W.clsIn K D with
    | none => rw [q] at hd; cases hd
    | some _ => rfl
theorem kit_typ {K : PySem.W.Frag} {C : Addr} {T : String} {b : Bool} (hm : PySem.W.kitMeta T = true) (hs : PySem.W.subIn K (.ref C) (.type T) = some b) : PySem.W.kitOne K (.ref C) (.type T) = some b := by
  unfold PySem.W.kitOne
  rw [if_neg (by simp)]
  show (if (_ : Bool) = true then PySem.W.subIn K (.ref C) (.type T) else none) = some b
  rw [if_pos hm, hs]
theorem kitCls_ref {K : PySem.W.Frag} {C D : Addr} {b : Bool} (hd : PySem.W.hasDictIn K D = true) (ht : PySem.W.typeIn K (.ref D) = some (.type "type")) (hs : PySem.W.subIn K (.ref C) (.ref D) = some b) : PySem.W.kitCls K (.ref C) (.ref D) = some b := by
  show (if (_ : Bool) = true then PySem.W.subIn K (.ref C) (.ref D) else none) = some b
  rw [if_pos, hs]
  rw [Bool.and_eq_true]
  refine ⟨?_, by rw [ht]; rfl⟩
  unfold PySem.W.hasDictIn at hd
  cases q : PySem.W.clsIn K D with
  | none => rw [q] at hd; cases hd
  | some _ => rfl
theorem exm_ref {K : PySem.W.Frag} {C D : Addr} {b : Bool} (hx : PySem.W.subIn K (.ref D) (.type "BaseException") = some true) (hd : PySem.W.hasDictIn K D = true) (ht : PySem.W.typeIn K (.ref D) = some (.type "type")) (hs : PySem.W.subIn K (.ref C) (.ref D) = some b) : PySem.W.exmOne K (.ref C) (.ref D) = some b := by
  unfold PySem.W.exmOne
  rw [hx, if_pos (by decide), kitCls_ref hd ht hs]
theorem takes_none {X : Cx} : Takes X (fun _ _ _ _ => False) := fun u s' h => by
  obtain ⟨_, _, _, _, _, _, _, _, _, _, _, _, _, _, _, _, h⟩ := h
  exact h.elim
theorem mss_never {rf : List Bool} {st : List Stmt} : MSs X c rf sBad st := ⟨⟨fun _ _ _ _ _ _ h => by
  obtain ⟨_, _, _, _, _, q⟩ := h
  exact q.elim⟩⟩
end
end MI

set_option Elab.async false
set_option linter.all false
set_option autoImplicit false
set_option maxRecDepth 100000
/-! MI: x & 1. -/
namespace MI
open PySem PySem.Spec L2
section
variable {X : Cx} {c : Ct} {fa fb : EF} {a b : Expr} {pos : Pos}
def andD : D → D → Option OD
  | .int i, .int j => if j = 1 then some (.fz (.int (i % 2))) else none
  | _, _ => none
theorem mo_and1 (ha : ME X c fa a) (hb : ME X c fb b) : MO X c (oOp2 andD fa fb) (.BinOp a .BitAnd b pos) :=
  mo_op2 op_andM (fun Y H Q x y a b o e ra rb q g => by
    unfold andD at q
    split at q
    · split at q
      · rename_i hl
        cases q
        rw [ra.int_inv, rb.int_inv]
        exact ⟨_, 1, rfl, by rw [hl]; rfl, g _ _ _ (.old (.int _))⟩
      · cases q
    · cases q) ha hb
@[simp] theorem andD_one {x : Int} : andD (.int x) (.int 1) = some (.fz (.int (x % 2))) := Eq.trans rfl rfl
end
end MI

set_option Elab.async false
set_option linter.all false
set_option autoImplicit false
set_option maxRecDepth 100000
/-! MI: running a mirror by simp. -/
namespace MI
open PySem PySem.Spec L2
/-! what stands behind is not looked at before its turn -/
theorem Res.bind_congr {α β : Type} {r r' : Res α} {k : α → S → Res β} (h : r = r') : r.bind k = r'.bind k := by rw [h]
theorem Res.toS_congr {α : Type} {r r' : Res α} {k : α → S → Out} (h : r = r') : r.toS k = r'.toS k := by rw [h]
def Out.andThen (o : Out) (h : SF) : Out := match o with
  | .nx s => h s
  | o => o
theorem Out.andThen_congr {o o' : Out} {h : SF} (e : o = o') : o.andThen h = o'.andThen h := by rw [e]
@[simp] theorem Out.then_nx {s : S} {h : SF} : (Out.nx s).andThen h = h s := Eq.trans rfl rfl
@[simp] theorem Out.then_bk {s : S} {h : SF} : (Out.bk s).andThen h = .bk s := Eq.trans rfl rfl
@[simp] theorem Out.then_ct {s : S} {h : SF} : (Out.ct s).andThen h = .ct s := Eq.trans rfl rfl
@[simp] theorem Out.then_rt {s : S} {o : OD} {h : SF} : (Out.rt o s).andThen h = .rt o s := Eq.trans rfl rfl
@[simp] theorem Out.then_ex {s : S} {e : Exn} {h : SF} : (Out.ex e s).andThen h = .ex e s := Eq.trans rfl rfl
@[simp] theorem Out.then_bad {h : SF} : Out.bad.andThen h = .bad := Eq.trans rfl rfl
def Out.loop (o : Out) (h : SF) : Out := match o with
  | .nx s2 => h s2
  | .ct s2 => h s2
  | .bk s2 => .nx s2
  | .rt o s2 => .rt o s2
  | .ex e s2 => .ex e s2
  | .bad => .bad
theorem Out.loop_congr {o o' : Out} {h : SF} (e : o = o') : o.loop h = o'.loop h := by rw [e]
@[simp] theorem Out.loop_nx {s : S} {h : SF} : (Out.nx s).loop h = h s := Eq.trans rfl rfl
@[simp] theorem Out.loop_ct {s : S} {h : SF} : (Out.ct s).loop h = h s := Eq.trans rfl rfl
@[simp] theorem Out.loop_bk {s : S} {h : SF} : (Out.bk s).loop h = .nx s := Eq.trans rfl rfl
@[simp] theorem Out.loop_rt {s : S} {o : OD} {h : SF} : (Out.rt o s).loop h = .rt o s := Eq.trans rfl rfl
@[simp] theorem Out.loop_ex {s : S} {e : Exn} {h : SF} : (Out.ex e s).loop h = .ex e s := Eq.trans rfl rfl
@[simp] theorem Out.loop_bad {h : SF} : Out.bad.loop h = .bad := Eq.trans rfl rfl
def Out.fin (rf : List Bool) : Out → Res OD
  | .rt o s' => .ok o (keepR rf s')
  | .nx s' => .ok (.fz .none) (keepR rf s')
  | .ex e s' => .ex e (keepR rf s')
  | .bk _ => .bad
  | .ct _ => .bad
  | .bad => .bad
@[simp] theorem Out.fin_rt {rf : List Bool} {s : S} {o : OD} : (Out.rt o s).fin rf = .ok o (keepR rf s) := Eq.trans rfl rfl
@[simp] theorem Out.fin_nx {rf : List Bool} {s : S} : (Out.nx s).fin rf = .ok (.fz .none) (keepR rf s) := Eq.trans rfl rfl
@[simp] theorem Out.fin_ex {rf : List Bool} {s : S} {e : Exn} : (Out.ex e s).fin rf = .ex e (keepR rf s) := Eq.trans rfl rfl
/-! continuations by name: simp does not look into them before their turn -/
section
variable {s : S} {b : Bool}
def kFrz (o : OD) : EF := .ok o.frz
@[simp] theorem k_Frz {o : OD} : kFrz o s = .ok o.frz s := Eq.trans rfl rfl
def kFz (d : D) : OF := .ok (.fz d)
@[simp] theorem k_Fz {d : D} : kFz d s = .ok (.fz d) s := Eq.trans rfl rfl
def kOf {α β : Type} (F : α → Option β) (a : α) : S → Res β := ofO (F a)
@[simp] theorem k_Of {α β : Type} {F : α → Option β} {a : α} : kOf F a s = ofO (F a) s := Eq.trans rfl rfl
def kBin {α : Type} (F : D → D → Option α) (fb : EF) (a : D) : S → Res α := fun s => (fb s).bind (kOf (F a))
@[simp] theorem k_Bin {α : Type} {F : D → D → Option α} {fb : EF} {a : D} : kBin F fb a s = (fb s).bind (kOf (F a)) := Eq.trans rfl rfl
def kToB (b : Bool) : EF := .ok (.bool b)
@[simp] theorem k_ToB : kToB b s = .ok (.bool b) s := Eq.trans rfl rfl
def kBinB2 (F : D → D → Option Bool) (a b : D) : EF := fun s => (ofO (F a b) s).bind kToB
@[simp] theorem k_BinB2 {F : D → D → Option Bool} {a b : D} : kBinB2 F a b s = (ofO (F a b) s).bind kToB := Eq.trans rfl rfl
def kBinB (F : D → D → Option Bool) (fb : EF) (a : D) : EF := fun s => (fb s).bind (kBinB2 F a)
@[simp] theorem k_BinB {F : D → D → Option Bool} {fb : EF} {a : D} : kBinB F fb a s = (fb s).bind (kBinB2 F a) := Eq.trans rfl rfl
def kBool (d : D) : TF := fun s => match d with
  | .bool b => .ok b s
  | _ => .bad
@[simp] theorem k_Bool : kBool (.bool b) s = .ok b s := Eq.trans rfl rfl
def kIte {α : Type} (f g : S → Res α) (b : Bool) : S → Res α := fun s => if b = true then f s else g s
@[simp] theorem k_IteT {α : Type} {f g : S → Res α} : kIte f g true s = f s := Eq.trans rfl rfl
@[simp] theorem k_IteF {α : Type} {f g : S → Res α} : kIte f g false s = g s := Eq.trans rfl rfl
@[simp] theorem k_IteD {α : Type} {f g : S → Res α} {p : Prop} [Decidable p] : kIte f g (decide p) s = if p then f s else g s := by
  unfold kIte
  by_cases h : p <;> simp [h]
def kInv (b : Bool) : TF := .ok (!b)
@[simp] theorem k_Inv : kInv b s = .ok (!b) s := Eq.trans rfl rfl
def kAndD (fb : EF) (d : D) : EF := fun s => match d with
  | .bool true => fb s
  | .bool false => .ok (.bool false) s
  | _ => .bad
@[simp] theorem k_AndT {fb : EF} : kAndD fb (.bool true) s = fb s := Eq.trans rfl rfl
@[simp] theorem k_AndF {fb : EF} : kAndD fb (.bool false) s = .ok (.bool false) s := Eq.trans rfl rfl
@[simp] theorem k_AndP {fb : EF} {p : Prop} [Decidable p] : kAndD fb (.bool (decide p)) s = if p then fb s else .ok (.bool false) s := by
  by_cases h : p <;> simp [h]
def kOrD (fb : EF) (d : D) : EF := fun s => match d with
  | .bool true => .ok (.bool true) s
  | .bool false => fb s
  | _ => .bad
@[simp] theorem k_OrT {fb : EF} : kOrD fb (.bool true) s = .ok (.bool true) s := Eq.trans rfl rfl
@[simp] theorem k_OrF {fb : EF} : kOrD fb (.bool false) s = fb s := Eq.trans rfl rfl
@[simp] theorem k_OrP {fb : EF} {p : Prop} [Decidable p] : kOrD fb (.bool (decide p)) s = if p then .ok (.bool true) s else fb s := by
  by_cases h : p <;> simp [h]
def kNotD (d : D) : EF := fun s => match d with
  | .bool b => .ok (.bool !b) s
  | _ => .bad
@[simp] theorem k_NotD : kNotD (.bool b) s = .ok (.bool !b) s := Eq.trans rfl rfl
def kCons2 {α : Type} (a : α) (l : List α) : S → Res (List α) := .ok (a :: l)
@[simp] theorem k_Cons2 {α : Type} {a : α} {l : List α} : kCons2 a l s = .ok (a :: l) s := Eq.trans rfl rfl
def kCons {α : Type} (g : S → Res (List α)) (a : α) : S → Res (List α) := fun s => (g s).bind (kCons2 a)
@[simp] theorem k_Cons {α : Type} {g : S → Res (List α)} {a : α} : kCons g a s = (g s).bind (kCons2 a) := Eq.trans rfl rfl
def kSized {α β : Type} (F : List α → β) (l : List α) : S → Res β := fun s => if l.length ≤ sizeLine then .ok (F l) s else .bad
theorem size_small {n : Nat} (h : n ≤ 1000000) : n ≤ sizeLine := by unfold sizeLine; omega
theorem k_Sized {α β : Type} {F : List α → β} {l : List α} : kSized F l s = if l.length ≤ sizeLine then .ok (F l) s else .bad := rfl
@[simp] theorem k_Sized0 {α β : Type} {F : List α → β} : kSized F [] s = .ok (F []) s := if_pos (show 0 ≤ sizeLine from size_small (by decide))
@[simp] theorem k_Sized1 {α β : Type} {F : List α → β} {x0 : α} : kSized F [x0] s = .ok (F [x0]) s := if_pos (show 1 ≤ sizeLine from size_small (by decide))
@[simp] theorem k_Sized2 {α β : Type} {F : List α → β} {x0 x1 : α} : kSized F [x0, x1] s = .ok (F [x0, x1]) s := if_pos (show 2 ≤ sizeLine from size_small (by decide))
@[simp] theorem k_Sized3 {α β : Type} {F : List α → β} {x0 x1 x2 : α} : kSized F [x0, x1, x2] s = .ok (F [x0, x1, x2]) s := if_pos (show 3 ≤ sizeLine from size_small (by decide))
@[simp] theorem k_Sized4 {α β : Type} {F : List α → β} {x0 x1 x2 x3 : α} : kSized F [x0, x1, x2, x3] s = .ok (F [x0, x1, x2, x3]) s := if_pos (show 4 ≤ sizeLine from size_small (by decide))
@[simp] theorem k_Sized5 {α β : Type} {F : List α → β} {x0 x1 x2 x3 x4 : α} : kSized F [x0, x1, x2, x3, x4] s = .ok (F [x0, x1, x2, x3, x4]) s := if_pos (show 5 ≤ sizeLine from size_small (by decide))
@[simp] theorem k_Sized6 {α β : Type} {F : List α → β} {x0 x1 x2 x3 x4 x5 : α} : kSized F [x0, x1, x2, x3, x4, x5] s = .ok (F [x0, x1, x2, x3, x4, x5]) s := if_pos (show 6 ≤ sizeLine from size_small (by decide))
@[simp] theorem k_Sized7 {α β : Type} {F : List α → β} {x0 x1 x2 x3 x4 x5 x6 : α} : kSized F [x0, x1, x2, x3, x4, x5, x6] s = .ok (F [x0, x1, x2, x3, x4, x5, x6]) s := if_pos (show 7 ≤ sizeLine from size_small (by decide))
@[simp] theorem k_Sized8 {α β : Type} {F : List α → β} {x0 x1 x2 x3 x4 x5 x6 x7 : α} : kSized F [x0, x1, x2, x3, x4, x5, x6, x7] s = .ok (F [x0, x1, x2, x3, x4, x5, x6, x7]) s := if_pos (show 8 ≤ sizeLine from size_small (by decide))
@[simp] theorem k_Sized9 {α β : Type} {F : List α → β} {x0 x1 x2 x3 x4 x5 x6 x7 x8 : α} : kSized F [x0, x1, x2, x3, x4, x5, x6, x7, x8] s = .ok (F [x0, x1, x2, x3, x4, x5, x6, x7, x8]) s := if_pos (show 9 ≤ sizeLine from size_small (by decide))
@[simp] theorem k_Sized10 {α β : Type} {F : List α → β} {x0 x1 x2 x3 x4 x5 x6 x7 x8 x9 : α} : kSized F [x0, x1, x2, x3, x4, x5, x6, x7, x8, x9] s = .ok (F [x0, x1, x2, x3, x4, x5, x6, x7, x8, x9]) s := if_pos (show 10 ≤ sizeLine from size_small (by decide))
@[simp] theorem k_Sized11 {α β : Type} {F : List α → β} {x0 x1 x2 x3 x4 x5 x6 x7 x8 x9 x10 : α} : kSized F [x0, x1, x2, x3, x4, x5, x6, x7, x8, x9, x10] s = .ok (F [x0, x1, x2, x3, x4, x5, x6, x7, x8, x9, x10]) s := if_pos (show 11 ≤ sizeLine from size_small (by decide))
@[simp] theorem k_Sized12 {α β : Type} {F : List α → β} {x0 x1 x2 x3 x4 x5 x6 x7 x8 x9 x10 x11 : α} : kSized F [x0, x1, x2, x3, x4, x5, x6, x7, x8, x9, x10, x11] s = .ok (F [x0, x1, x2, x3, x4, x5, x6, x7, x8, x9, x10, x11]) s := if_pos (show 12 ≤ sizeLine from size_small (by decide))
@[simp] theorem k_Sized13 {α β : Type} {F : List α → β} {x0 x1 x2 x3 x4 x5 x6 x7 x8 x9 x10 x11 x12 : α} : kSized F [x0, x1, x2, x3, x4, x5, x6, x7, x8, x9, x10, x11, x12] s = .ok (F [x0, x1, x2, x3, x4, x5, x6, x7, x8, x9, x10, x11, x12]) s := if_pos (show 13 ≤ sizeLine from size_small (by decide))
@[simp] theorem k_Sized14 {α β : Type} {F : List α → β} {x0 x1 x2 x3 x4 x5 x6 x7 x8 x9 x10 x11 x12 x13 : α} : kSized F [x0, x1, x2, x3, x4, x5, x6, x7, x8, x9, x10, x11, x12, x13] s = .ok (F [x0, x1, x2, x3, x4, x5, x6, x7, x8, x9, x10, x11, x12, x13]) s := if_pos (show 14 ≤ sizeLine from size_small (by decide))
@[simp] theorem k_Sized15 {α β : Type} {F : List α → β} {x0 x1 x2 x3 x4 x5 x6 x7 x8 x9 x10 x11 x12 x13 x14 : α} : kSized F [x0, x1, x2, x3, x4, x5, x6, x7, x8, x9, x10, x11, x12, x13, x14] s = .ok (F [x0, x1, x2, x3, x4, x5, x6, x7, x8, x9, x10, x11, x12, x13, x14]) s := if_pos (show 15 ≤ sizeLine from size_small (by decide))
theorem sized_ok {α β : Type} {F : List α → β} {l : List α} (h : l.length ≤ 1000000) : kSized F l s = .ok (F l) s := if_pos (size_small h)
def kRef (ds : List D) : AF := .ok (.none :: ds)
@[simp] theorem k_Ref {ds : List D} : kRef ds s = .ok (.none :: ds) s := Eq.trans rfl rfl
def kDrop (_ : D) : SF := .nx
@[simp] theorem k_Drop {d : D} : kDrop d s = .nx s := Eq.trans rfl rfl
def kIteS (f g : SF) (b : Bool) : SF := fun s => if b = true then f s else g s
@[simp] theorem k_IteST {f g : SF} : kIteS f g true s = f s := Eq.trans rfl rfl
@[simp] theorem k_IteSF {f g : SF} : kIteS f g false s = g s := Eq.trans rfl rfl
@[simp] theorem k_IteSD {f g : SF} {p : Prop} [Decidable p] : kIteS f g (decide p) s = if p then f s else g s := by
  unfold kIteS
  by_cases h : p <;> simp [h]
def kAsg (f : GF) (d : D) : SF := fun s => match f d s with
  | some s => .nx s
  | none => .bad
@[simp] theorem k_Asg {f : GF} {d : D} : kAsg f d s = match f d s with
  | some s => .nx s
  | none => .bad := Eq.trans rfl rfl
def kSet (i : Nat) (o : OD) : SF := fun s => .nx (s.set i (some o))
@[simp] theorem k_Set {i : Nat} {o : OD} : kSet i o s = .nx (s.set i (some o)) := Eq.trans rfl rfl
def kPar (is : List Nat) (os : List OD) : SF := fun s => if os.length = is.length then .nx (setAll is os s) else .bad
@[simp] theorem k_Par {is : List Nat} {os : List OD} : kPar is os s = if os.length = is.length then .nx (setAll is os s) else .bad := by
  refine Eq.trans ?_ rfl
  rfl
def kRg1 (d : D) : IF := fun s => match d with
  | .int n => if -(2 ^ 62) ≤ n ∧ n < 2 ^ 62 then .ok (upto 0 n.toNat) s else .bad
  | _ => .bad
@[simp] theorem k_Rg1 {n : Int} : kRg1 (.int n) s = if -(2 ^ 62) ≤ n ∧ n < 2 ^ 62 then .ok (upto 0 n.toNat) s else .bad := by
  refine Eq.trans ?_ rfl
  rfl
def kRg2b (d e : D) : IF := fun s => match d, e with
  | .int m, .int n => if -(2 ^ 62) ≤ m ∧ m < 2 ^ 62 ∧ -(2 ^ 62) ≤ n ∧ n < 2 ^ 62 then .ok (upto m (n - m).toNat) s else .bad
  | _, _ => .bad
@[simp] theorem k_Rg2b {m n : Int} : kRg2b (.int m) (.int n) s = if -(2 ^ 62) ≤ m ∧ m < 2 ^ 62 ∧ -(2 ^ 62) ≤ n ∧ n < 2 ^ 62 then .ok (upto m (n - m).toNat) s else .bad := by
  refine Eq.trans ?_ rfl
  rfl
def kRg2 (fb : EF) (d : D) : IF := fun s => (fb s).bind (kRg2b d)
@[simp] theorem k_Rg2 {fb : EF} {d : D} : kRg2 fb d s = (fb s).bind (kRg2b d) := Eq.trans rfl rfl
def kPart (d : D) : PF := fun s => match d with
  | .int i => .ok (some i) s
  | _ => .bad
@[simp] theorem k_Part {n : Int} : kPart (.int n) s = .ok (some n) s := Eq.trans rfl rfl
def kSl3 (d : D) (lo hi : Option Int) : OF := ofO (sliceD d lo hi)
@[simp] theorem k_Sl3 {d : D} {lo hi : Option Int} : kSl3 d lo hi s = ofO (sliceD d lo hi) s := Eq.trans rfl rfl
def kSl2 (h : PF) (d : D) (lo : Option Int) : OF := fun s => (h s).bind (kSl3 d lo)
@[simp] theorem k_Sl2 {h : PF} {d : D} {lo : Option Int} : kSl2 h d lo s = (h s).bind (kSl3 d lo) := Eq.trans rfl rfl
def kSl1 (l h : PF) (d : D) : OF := fun s => (l s).bind (kSl2 h d)
@[simp] theorem k_Sl1 {l h : PF} {d : D} : kSl1 l h d s = (l s).bind (kSl2 h d) := Eq.trans rfl rfl
def Res.backTo {α : Type} (ks : List (Option Nat)) (s1 : S) : Res α → Res α
  | .ok o s2 => .ok o (backR ks s2 s1)
  | .ex e s2 => .ex e (backR ks s2 s1)
  | .bad => .bad
@[simp] theorem Res.backTo_ok {α : Type} {ks : List (Option Nat)} {s1 s2 : S} {o : α} : (Res.ok o s2).backTo ks s1 = .ok o (backR ks s2 s1) := Eq.trans rfl rfl
@[simp] theorem Res.backTo_ex {α : Type} {ks : List (Option Nat)} {s1 s2 : S} {e : Exn} : (Res.ex e s2 : Res α).backTo ks s1 = .ex e (backR ks s2 s1) := Eq.trans rfl rfl
def kCall2 (ks : List (Option Nat)) (F : List OD → Res OD) (s1 : S) : Option (List OD) → Res OD
  | none => .bad
  | some ods => (F ods).backTo ks s1
@[simp] theorem k_Call2 {ks : List (Option Nat)} {F : List OD → Res OD} {ods : List OD} : kCall2 ks F s (some ods) = (F ods).backTo ks s := Eq.trans rfl rfl
def kCall (ks : List (Option Nat)) (F : List OD → Res OD) (ds : List D) : OF := fun s1 => kCall2 ks F s1 (odsOf ks ds s1)
@[simp] theorem k_Call {ks : List (Option Nat)} {F : List OD → Res OD} {ds : List D} : kCall ks F ds s = kCall2 ks F s (odsOf ks ds s) := Eq.trans rfl rfl
def Res.valTo {α : Type} (s1 : S) : Res α → Res α
  | .ok o _ => .ok o s1
  | _ => .bad
@[simp] theorem Res.valTo_ok {α : Type} {s1 s2 : S} {o : α} : (Res.ok o s2).valTo s1 = .ok o s1 := Eq.trans rfl rfl
def kCallP2 (m n : Nat) (ix : List Nat) (F : List OD → Res OD) (ds es : List D) : OF := fun s2 => if ds.length = m ∧ es.length = n then (F ((pickL .none ix (ds ++ es)).map .fz)).valTo s2 else .bad
@[simp] theorem k_CallP2 {m n : Nat} {ix : List Nat} {F : List OD → Res OD} {ds es : List D} : kCallP2 m n ix F ds es s = if ds.length = m ∧ es.length = n then (F ((pickL .none ix (ds ++ es)).map .fz)).valTo s else .bad := Eq.trans rfl rfl
def kCallP1 (m n : Nat) (ix : List Nat) (g : AF) (F : List OD → Res OD) (ds : List D) : OF := fun s1 => (g s1).bind (kCallP2 m n ix F ds)
@[simp] theorem k_CallP1 {m n : Nat} {ix : List Nat} {g : AF} {F : List OD → Res OD} {ds : List D} : kCallP1 m n ix g F ds s = (g s).bind (kCallP2 m n ix F ds) := Eq.trans rfl rfl
def Res.oF (s : S) : Option OD → Res D
  | some (.fz d) => .ok d s
  | _ => .bad
@[simp] theorem Res.oF_fz {d : D} : Res.oF s (some (.fz d)) = .ok d s := Eq.trans rfl rfl
def kAtF (d k : D) : EF := fun s1 => match ixD d k with
  | some (.fz d') => .ok d' s1
  | _ => .bad
@[simp] theorem k_AtF {d k : D} : kAtF d k s = Res.oF s (ixD d k) := by
  unfold kAtF Res.oF
  cases ixD d k with
  | none => rfl
  | some o => cases o <;> rfl
def Res.oD (s : S) : Option D → Res D
  | some d => .ok d s
  | none => .bad
@[simp] theorem Res.oD_some {d : D} : Res.oD s (some d) = .ok d s := Eq.trans rfl rfl
def kAtO (i : Nat) (k : D) : EF := fun s1 => match k, s1[i]? with
    | .int n, some (some (.ol ds)) => match atI ds n with
      | some d => .ok d s1
      | none => .bad
    | _, _ => .bad
@[simp] theorem k_AtO {i : Nat} {n : Int} : kAtO i (.int n) s = match s[i]? with
    | some (some (.ol ds)) => Res.oD s (atI ds n)
    | _ => .bad := by
  unfold kAtO
  split
  · rename_i m ds e1 e2
    rw [e2]
    cases e1
    simp only
    cases atI ds n <;> rfl
  · rename_i h
    split
    · rename_i ds e2
      exact (h _ _ rfl e2).elim
    · rfl
def kApp (i : Nat) (d : D) : EF := fun s1 => match s1[i]? with
    | some (some (.ol ds)) => if ds.length < sizeLine then .ok .none (s1.set i (some (.ol (ds ++ [d])))) else .bad
    | _ => .bad
@[simp] theorem k_App {i : Nat} {d : D} : kApp i d s = match s[i]? with
    | some (some (.ol ds)) => if ds.length < sizeLine then .ok .none (s.set i (some (.ol (ds ++ [d])))) else .bad
    | _ => .bad := by
  refine Eq.trans ?_ rfl
  rfl
def kExt (i : Nat) (d : D) : EF := fun s1 => match d, s1[i]? with
    | .list es, some (some (.ol ds)) => if ds.length + es.length ≤ sizeLine then .ok .none (s1.set i (some (.ol (ds ++ es)))) else .bad
    | _, _ => .bad
@[simp] theorem k_Ext {i : Nat} {d : D} : kExt i d s = match d, s[i]? with
    | .list es, some (some (.ol ds)) => if ds.length + es.length ≤ sizeLine then .ok .none (s.set i (some (.ol (ds ++ es)))) else .bad
    | _, _ => .bad := by
  refine Eq.trans ?_ rfl
  rfl
def kNxU (_ : Unit) : SF := .nx
@[simp] theorem k_NxU {u : Unit} : kNxU u s = .nx s := Eq.trans rfl rfl
def kItem (i : Nat) (fa : EF) (d : D) : SF := fun s => (gItem i fa d s).toS kNxU
@[simp] theorem k_Item {i : Nat} {fa : EF} {d : D} : kItem i fa d s = (gItem i fa d s).toS kNxU := Eq.trans rfl rfl
def kItL (i : Nat) (d k : D) : S → Res Unit := fun s1 => match k, s1[i]? with
    | .int n, some (some (.ol ds)) => match ixN ds.length n with
      | some j => .ok () (s1.set i (some (.ol (ds.set j d))))
      | none => .bad
    | _, _ => .bad
@[simp] theorem k_ItL {i : Nat} {d k : D} : kItL i d k s = match k, s[i]? with
    | .int n, some (some (.ol ds)) => match ixN ds.length n with
      | some j => .ok () (s.set i (some (.ol (ds.set j d))))
      | none => .bad
    | _, _ => .bad := Eq.trans rfl rfl
def kItN (i : Nat) (d k : D) : S → Res Unit := fun s1 => match k, s1[i]? with
    | .int n, some (some (.on os)) => match ixN os.length n with
      | some j => .ok () (s1.set i (some (.on (os.set j (.fz d)))))
      | none => .bad
    | _, _ => .bad
@[simp] theorem k_ItN {i : Nat} {d k : D} : kItN i d k s = match k, s[i]? with
    | .int n, some (some (.on os)) => match ixN os.length n with
      | some j => .ok () (s.set i (some (.on (os.set j (.fz d)))))
      | none => .bad
    | _, _ => .bad := Eq.trans rfl rfl
def kIsi (T : String) (d : D) : EF := fun s => (ofO (isiF T d) s).bind kToB
@[simp] theorem k_Isi {T : String} {d : D} : kIsi T d s = (ofO (isiF T d) s).bind kToB := Eq.trans rfl rfl
def kLc2 (ow : List Bool) (s1 : S) (acc : List D) : OF := fun s2 => .ok (.ol acc) (backF ow s1 s2)
@[simp] theorem k_Lc2 {ow : List Bool} {s1 : S} {acc : List D} : kLc2 ow s1 acc s = .ok (.ol acc) (backF ow s1 s) := Eq.trans rfl rfl
def kLc (ow : List Bool) (f : GF) (ta : TF) (fb : EF) (ds : List D) : OF := fun s1 => if ow.length = s1.length then (lcL ow f ta fb ds [] (wipeF ow s1)).bind (kLc2 ow s1) else .bad
@[simp] theorem k_Lc {ow : List Bool} {f : GF} {ta : TF} {fb : EF} {ds : List D} : kLc ow f ta fb ds s = if ow.length = s.length then (lcL ow f ta fb ds [] (wipeF ow s)).bind (kLc2 ow s) else .bad := by
  refine Eq.trans ?_ rfl
  rfl
def kWh (t : TF) (h : SF) (n : Nat) (b : Bool) : SF := fun s1 => if b = true then (h s1).loop (whileL t h n) else .nx s1
@[simp] theorem k_WhT {t : TF} {h : SF} {n : Nat} : kWh t h n true s = (h s).loop (whileL t h n) := Eq.trans rfl rfl
@[simp] theorem k_WhF {t : TF} {h : SF} {n : Nat} : kWh t h n false s = .nx s := Eq.trans rfl rfl
@[simp] theorem k_WhD {t : TF} {h : SF} {n : Nat} {p : Prop} [Decidable p] : kWh t h n (decide p) s = if p then (h s).loop (whileL t h n) else .nx s := by
  unfold kWh
  by_cases q : p <;> simp [q]
end
section
variable {s : S} {fa fb fc : EF} {a b : D} {oa ob : OF} {ta tb : TF} {g g' : AF} {i j k n : Nat}
@[simp] theorem ev_ofO_some {α : Type} {a : α} : ofO (some a) s = .ok a s := Eq.trans rfl rfl
@[simp] theorem ev_C {d : D} : eC d s = .ok d s := Eq.trans rfl rfl
@[simp] theorem ev_Frz : eFrz oa s = (oa s).bind kFrz := Eq.trans rfl rfl
@[simp] theorem ev_oFz : oFz fa s = (fa s).bind kFz := Eq.trans rfl rfl
@[simp] theorem ev_Var : eVar i s = match s[i]? with
  | some (some (.fz d)) => .ok d s
  | some (some o) => .ok o.frz (s.set i (some (.fz o.frz)))
  | _ => .bad := Eq.trans rfl rfl
@[simp] theorem ev_oVar : oVar i s = match s[i]? with
  | some (some (.fz d)) => .ok (.fz d) s
  | some (some o) => .ok o (s.set i none)
  | _ => .bad := Eq.trans rfl rfl
@[simp] theorem ev_Op2 {F : D → D → Option OD} : oOp2 F fa fb s = (fa s).bind (kBin F fb) := Eq.trans rfl rfl
@[simp] theorem ev_Op1 {F : D → Option OD} : oOp1 F fa s = (fa s).bind (kOf F) := Eq.trans rfl rfl
@[simp] theorem ev_eCmp {F : D → D → Option Bool} : eCmp F fa fb s = (fa s).bind (kBinB F fb) := Eq.trans rfl rfl
@[simp] theorem ev_kCmp {F : D → D → Option Bool} : kCmp F fa fb s = (fa s).bind (kBin F fb) := Eq.trans rfl rfl
@[simp] theorem ev_kVal : kVal fa s = (fa s).bind kBool := Eq.trans rfl rfl
@[simp] theorem ev_kAnd : kAnd ta tb s = (ta s).bind (kIte tb (Res.ok false)) := Eq.trans rfl rfl
@[simp] theorem ev_kOr : kOr ta tb s = (ta s).bind (kIte (Res.ok true) tb) := Eq.trans rfl rfl
@[simp] theorem ev_kNot : kNot ta s = (ta s).bind kInv := Eq.trans rfl rfl
@[simp] theorem ev_eAnd : eAnd fa fb s = (fa s).bind (kAndD fb) := Eq.trans rfl rfl
@[simp] theorem ev_eOr : eOr fa fb s = (fa s).bind (kOrD fb) := Eq.trans rfl rfl
@[simp] theorem ev_eNot : eNot fa s = (fa s).bind kNotD := Eq.trans rfl rfl
@[simp] theorem ev_eIf : eIf ta fa fb s = (ta s).bind (kIte fa fb) := Eq.trans rfl rfl
@[simp] theorem ev_oIf : oIf ta oa ob s = (ta s).bind (kIte oa ob) := Eq.trans rfl rfl
@[simp] theorem ev_aNil : aNil s = .ok [] s := Eq.trans rfl rfl
@[simp] theorem ev_aCons : aCons fa g s = (fa s).bind (kCons g) := Eq.trans rfl rfl
@[simp] theorem ev_aoNil : aoNil s = .ok [] s := Eq.trans rfl rfl
@[simp] theorem ev_aoCons {h : AOF} : aoCons oa h s = (oa s).bind (kCons h) := Eq.trans rfl rfl
@[simp] theorem ev_eTup : eTup g s = (g s).bind (kSized PyData.tuple) := Eq.trans rfl rfl
@[simp] theorem ev_oLst : oLst g s = (g s).bind (kSized OD.ol) := Eq.trans rfl rfl
@[simp] theorem ev_oNest {h : AOF} : oNest h s = (h s).bind (kSized OD.on) := Eq.trans rfl rfl
@[simp] theorem ev_aRef : aRef i g s = match s[i]? with
  | some (some _) => (g s).bind kRef
  | _ => .bad := by unfold aRef; rfl
@[simp] theorem ev_sSeq {f h : SF} : sSeq f h s = (f s).andThen h := Eq.trans rfl rfl
@[simp] theorem ev_sNx : sNx s = .nx s := Eq.trans rfl rfl
@[simp] theorem ev_sBk : sBk s = .bk s := Eq.trans rfl rfl
@[simp] theorem ev_sCt : sCt s = .ct s := Eq.trans rfl rfl
@[simp] theorem ev_sExp : sExp fa s = (fa s).toS kDrop := Eq.trans rfl rfl
@[simp] theorem ev_sRet : sRet oa s = (oa s).toS Out.rt := Eq.trans rfl rfl
@[simp] theorem ev_sRetN : sRetN s = .rt (.fz .none) s := Eq.trans rfl rfl
@[simp] theorem ev_sIf {f h : SF} : sIf ta f h s = (ta s).toS (kIteS f h) := Eq.trans rfl rfl
@[simp] theorem ev_gN {d : D} : gN i d s = some (s.set i (some (.fz d))) := Eq.trans rfl rfl
@[simp] theorem ev_gsNil : gsNil [] s = some s := Eq.trans rfl rfl
@[simp] theorem ev_gsCons {f : GF} {h : List D → S → Option S} {d : D} {ds : List D} : gsCons f h (d :: ds) s = (f d s).bind (h ds) := Eq.trans rfl rfl
@[simp] theorem ev_gT {h : List D → S → Option S} {ds : List D} : gT n h (.tuple ds) s = if ds.length = n then h ds s else none := Eq.trans rfl rfl
@[simp] theorem ev_sAsg {f : GF} : sAsg fa f s = (fa s).toS (kAsg f) := Eq.trans rfl rfl
@[simp] theorem ev_sSet : sSet i oa s = (oa s).toS (kSet i) := Eq.trans rfl rfl
@[simp] theorem ev_setAll_nil : setAll [] [] s = s := Eq.trans rfl rfl
@[simp] theorem ev_setAll {is : List Nat} {os : List OD} {o : OD} : setAll (i :: is) (o :: os) s = setAll is os (s.set i (some o)) := Eq.trans rfl rfl
@[simp] theorem ev_sPar {is : List Nat} {h : AOF} : sPar is h s = (h s).toS (kPar is) := Eq.trans rfl rfl
@[simp] theorem ev_sFor {it : IF} {f : GF} {h : SF} : sFor it f h s = (it s).toS (forL f h) := Eq.trans rfl rfl
@[simp] theorem ev_forL_nil {f : GF} {h : SF} : forL f h [] s = .nx s := Eq.trans rfl rfl
@[simp] theorem ev_sWhile {h : SF} : sWhile n ta h s = whileL ta h n s := Eq.trans rfl rfl
@[simp] theorem ev_iSeq : iSeq fa s = (fa s).bind (kOf itemsD) := Eq.trans rfl rfl
@[simp] theorem ev_itemsL {ds : List D} : itemsD (.list ds) = some ds := Eq.trans rfl rfl
@[simp] theorem ev_itemsT {ds : List D} : itemsD (.tuple ds) = some ds := Eq.trans rfl rfl
@[simp] theorem ev_iRange1 : iRange1 fa s = (fa s).bind kRg1 := by
  refine Eq.trans ?_ rfl
  rfl
@[simp] theorem ev_iRange2 : iRange2 fa fb s = (fa s).bind (kRg2 fb) := by
  refine Eq.trans ?_ rfl
  rfl
@[simp] theorem ev_Blt {F : List D → Option OD} : oBlt F g s = (g s).bind (kOf F) := Eq.trans rfl rfl
@[simp] theorem ev_one {F : D → Option OD} : one F [a] = F a := Eq.trans rfl rfl
@[simp] theorem ev_two {F : D → D → Option OD} : two F [a, b] = F a b := Eq.trans rfl rfl
@[simp] theorem ev_pNo : pNo s = .ok none s := Eq.trans rfl rfl
@[simp] theorem ev_pSome : pSome fa s = (fa s).bind kPart := Eq.trans rfl rfl
@[simp] theorem ev_Slice {l h : PF} : oSlice fa l h s = (fa s).bind (kSl1 l h) := Eq.trans rfl rfl
@[simp] theorem ev_sliceL {xs : List D} {lo hi : Option Int} : sliceD (.list xs) lo hi = some (.ol (cutD xs lo hi)) := Eq.trans rfl rfl
@[simp] theorem ev_sliceT {xs : List D} {lo hi : Option Int} : sliceD (.tuple xs) lo hi = some (.fz (.tuple (cutD xs lo hi))) := Eq.trans rfl rfl
@[simp] theorem ev_sliceK {xs : List D} {lo hi : Option Int} : sliceD (lockD xs) lo hi = some (.ol (cutD xs lo hi)) := Eq.trans rfl rfl
@[simp] theorem ev_Call {ks : List (Option Nat)} {F : List OD → Res OD} : oCall ks g F s = (g s).bind (kCall ks F) := by
  unfold oCall
  congr 1
  funext ds s1
  unfold kCall kCall2 Res.backTo
  cases odsOf ks ds s1 with
  | none => rfl
  | some ods =>
    simp only
    cases F ods <;> rfl
@[simp] theorem ev_CallP {m : Nat} {ix : List Nat} {F : List OD → Res OD} : oCallP m n ix g g' F s = (g s).bind (kCallP1 m n ix g' F) := by
  unfold oCallP
  congr 1
  funext ds s1
  unfold kCallP1
  congr 1
  funext es s2
  unfold kCallP2 Res.valTo
  split
  · split
    · rename_i e; rw [e]
    · rename_i h
      split
      · rename_i o s3 e; exact (h _ _ e).elim
      · rfl
  · rfl
@[simp] theorem ev_pickL {α : Type} {z : α} {ix : List Nat} {l : List α} : pickL z ix l = ix.map fun j => l.getD j z := Eq.trans rfl rfl
@[simp] theorem ev_noexF {F : List OD → Res OD} {os : List OD} : noexF F os = (F os).noex := Eq.trans rfl rfl
@[simp] theorem ev_ods_nil : odsOf [] [] s = some [] := Eq.trans rfl rfl
@[simp] theorem ev_ods_none {ks : List (Option Nat)} {d : D} {ds : List D} : odsOf (none :: ks) (d :: ds) s = (odsOf ks ds s).map fun os => .fz d :: os := Eq.trans rfl rfl
@[simp] theorem ev_ods_some {ks : List (Option Nat)} {d : D} {ds : List D} : odsOf (some i :: ks) (d :: ds) s = match s[i]? with
    | some (some o) => (odsOf ks ds s).map fun os => o :: os
    | _ => none := Eq.trans rfl rfl
@[simp] theorem ev_back_nil {xs : S} : backR [] xs s = s := Eq.trans rfl rfl
@[simp] theorem ev_back_some {ks : List (Option Nat)} {x : Option OD} {xs : S} : backR (some i :: ks) (x :: xs) s = backR ks xs (s.set i x) := Eq.trans rfl rfl
@[simp] theorem ev_back_none {ks : List (Option Nat)} {x : Option OD} {xs : S} : backR (none :: ks) (x :: xs) s = backR ks xs s := Eq.trans rfl rfl
@[simp] theorem ev_keep_nil {xs : S} : keepR [] xs = [] := by cases xs <;> rfl
@[simp] theorem ev_keep_t {bs : List Bool} {x : Option OD} {xs : S} : keepR (true :: bs) (x :: xs) = x :: keepR bs xs := Eq.trans rfl rfl
@[simp] theorem ev_keep_f {bs : List Bool} {x : Option OD} {xs : S} : keepR (false :: bs) (x :: xs) = none :: keepR bs xs := Eq.trans rfl rfl
@[simp] theorem ev_mkF {rf : List Bool} {h : SF} {ods : List OD} : mkF n rf h ods = (h (ods.map some ++ List.replicate (n - ods.length) none)).fin rf := Eq.trans rfl rfl
@[simp] theorem ev_At : eAt i fa s = match s[i]? with
  | some (some (.fz d)) => (fa s).bind (kAtF d)
  | some (some (.ol _)) => (fa s).bind (kAtO i)
  | _ => .bad := Eq.trans rfl rfl
@[simp] theorem ev_Append : eAppend i fa s = match s[i]? with
  | some (some (.ol _)) => (fa s).bind (kApp i)
  | _ => .bad := Eq.trans rfl rfl
@[simp] theorem ev_Extend : eExtend i fa s = match s[i]? with
  | some (some (.ol _)) => (fa s).bind (kExt i)
  | _ => .bad := Eq.trans rfl rfl
@[simp] theorem ev_Pop : ePop i s = match s[i]? with
  | some (some (.ol ds)) => match ds[ds.length - 1]? with
    | some d => .ok d (s.set i (some (.ol ds.dropLast)))
    | none => .bad
  | _ => .bad := Eq.trans rfl rfl
@[simp] theorem ev_PopN : ePopN i k s = match s[i]? with
  | some (some (.on os)) => match os[k]? with
    | some (.ol ds) => match ds[ds.length - 1]? with
      | some d => .ok d (s.set i (some (.on (os.set k (.ol ds.dropLast)))))
      | none => .bad
    | _ => .bad
  | _ => .bad := Eq.trans rfl rfl
@[simp] theorem ev_ItemN : eItemN i k s = match s[i]? with
  | some (some (.on os)) => match os[k]? with
    | some (.fz d) => .ok d s
    | _ => .bad
  | _ => .bad := Eq.trans rfl rfl
@[simp] theorem ev_sItem : sItem i fa fb s = (fb s).toS (kItem i fa) := Eq.trans rfl rfl
@[simp] theorem ev_gItem {d : D} : gItem i fa d s = match s[i]? with
  | some (some (.ol _)) => (fa s).bind (kItL i d)
  | some (some (.on _)) => (fa s).bind (kItN i d)
  | _ => .bad := Eq.trans rfl rfl
@[simp] theorem ev_Isi {T : String} : eIsi T fa s = (fa s).bind (kIsi T) := Eq.trans rfl rfl
@[simp] theorem ev_Lc {ow : List Bool} {it : IF} {f : GF} : oLc ow it f ta fb s = (it s).bind (kLc ow f ta fb) := Eq.trans rfl rfl
@[simp] theorem ev_kYes : kYes s = .ok true s := Eq.trans rfl rfl
@[simp] theorem ev_wipe_nil : wipeF [] s = s := by cases s <;> rfl
@[simp] theorem ev_wipe_t {bs : List Bool} {x : Option OD} {xs : S} : wipeF (true :: bs) (x :: xs) = none :: wipeF bs xs := Eq.trans rfl rfl
@[simp] theorem ev_wipe_f {bs : List Bool} {x : Option OD} {xs : S} : wipeF (false :: bs) (x :: xs) = x :: wipeF bs xs := Eq.trans rfl rfl
@[simp] theorem ev_backF_nil {xs ys : S} : backF [] xs ys = ys := by cases xs <;> cases ys <;> rfl
@[simp] theorem ev_backF_t {bs : List Bool} {x y : Option OD} {xs ys : S} : backF (true :: bs) (x :: xs) (y :: ys) = (match x with
      | some (.fz d) => some (.fz d)
      | _ => none) :: backF bs xs ys := Eq.trans rfl rfl
@[simp] theorem ev_backF_f {bs : List Bool} {x y : Option OD} {xs ys : S} : backF (false :: bs) (x :: xs) (y :: ys) = y :: backF bs xs ys := Eq.trans rfl rfl
@[simp] theorem ev_brw_nil {ms : List Mode} : brw ms [] = [] := by cases ms <;> rfl
@[simp] theorem ev_brw {m : Mode} {ms : List Mode} {x : Option OD} {xs : S} : brw (m :: ms) (x :: xs) = b1 m x :: brw ms xs := Eq.trans rfl rfl
@[simp] theorem ev_rst_nil : rst [] [] [] = some [] := Eq.trans rfl rfl
@[simp] theorem ev_rst {m : Mode} {ms : List Mode} {x y : Option OD} {xs ys : S} : rst (m :: ms) (x :: xs) (y :: ys) = (r1 m x y).bind fun z => (rst ms xs ys).map fun zs => z :: zs := Eq.trans rfl rfl
@[simp] theorem ev_b1k {x : Option OD} : b1 .k x = x := Eq.trans rfl rfl
@[simp] theorem ev_b1f {x : Option OD} : b1 .f x = x.map fun o => .fz o.frz := Eq.trans rfl rfl
@[simp] theorem ev_r1f {x y : Option OD} : r1 .f x y = some x := by cases x <;> rfl
@[simp] theorem ev_r1k0 {y : Option OD} : r1 .k none y = some none := Eq.trans rfl rfl
@[simp] theorem ev_r1kf {d : D} {y : Option OD} : r1 .k (some (.fz d)) y = some (some (.fz d)) := Eq.trans rfl rfl
@[simp] theorem ev_r1kn {os : List OD} {o : OD} : r1 .k (some (.on os)) (some o) = if o.free = true then some (some o) else none := by
  refine Eq.trans ?_ rfl
  rfl
@[simp] theorem ev_r1kl {ds : List D} {o : OD} : r1 .k (some (.ol ds)) (some o) = if o.free = true then some (some o) else none := by
  refine Eq.trans ?_ rfl
  rfl
@[simp] theorem ev_eLend {ms : List Mode} : eLend ms fa s = if ms.length = s.length then match fa (brw ms s) with
    | .ok d s' => match rst ms s s' with
      | some r => if free d = true then .ok d r else .bad
      | none => .bad
    | .ex e s' => match rst ms s s' with
      | some r => .ex e r
      | none => .bad
    | .bad => .bad
  else .bad := Eq.trans rfl rfl
@[simp] theorem ev_kLend {ms : List Mode} : kLend ms ta s = if ms.length = s.length then match ta (brw ms s) with
    | .ok d s' => match rst ms s s' with
      | some r => .ok d r
      | none => .bad
    | .ex e s' => match rst ms s s' with
      | some r => .ex e r
      | none => .bad
    | .bad => .bad
  else .bad := Eq.trans rfl rfl
@[simp] theorem ev_oLend {ms : List Mode} : oLend ms oa s = if ms.length = s.length then match oa (brw ms s) with
    | .ok (.ol ds) s' => match rst ms s s' with
      | some r => if freeAll ds = true then .ok (.ol ds) r else .bad
      | none => .bad
    | .ex e s' => match rst ms s s' with
      | some r => .ex e r
      | none => .bad
    | _ => .bad
  else .bad := Eq.trans rfl rfl
@[simp] theorem ev_frz_fz {d : D} : (OD.fz d).frz = d := Eq.trans rfl rfl
@[simp] theorem ev_frz_ol {ds : List D} : (OD.ol ds).frz = .list ds := Eq.trans rfl rfl
@[simp] theorem free_int {n : Int} : free (.int n) = true := Eq.trans rfl rfl
@[simp] theorem free_bool {x : Bool} : free (.bool x) = true := Eq.trans rfl rfl
@[simp] theorem free_none : free .none = true := Eq.trans rfl rfl
@[simp] theorem free_str {x : Str} : free (.str x) = true := Eq.trans rfl rfl
@[simp] theorem free_tuple {ds : List D} : free (.tuple ds) = freeAll ds := by rw [free]
@[simp] theorem freeAll_nil : freeAll [] = true := Eq.trans rfl rfl
@[simp] theorem freeAll_cons {d : D} {ds : List D} : freeAll (d :: ds) = (free d && freeAll ds) := by rw [freeAll]
@[simp] theorem freeAll_ints {ns : List Int} : freeAll (ns.map PyData.int) = true := freeAll_map (fun _ => rfl) ns
end
/-! ### operators at data -/
section
variable {x y : Int} {xs ys : List D} {a b : D}
@[simp] theorem addD_int : addD (.int x) (.int y) = some (.fz (.int (x + y))) := Eq.trans rfl rfl
@[simp] theorem addD_tup : addD (.tuple xs) (.tuple ys) = if xs.length + ys.length ≤ sizeLine then some (.fz (.tuple (xs ++ ys))) else none := by
  simp only [addD, addI, addT, addLs, addS]
  split <;> rfl
@[simp] theorem addD_lst : addD (.list xs) (.list ys) = if xs.length + ys.length ≤ sizeLine then some (.ol (xs ++ ys)) else none := by
  simp only [addD, addI, addT, addLs, addS]
  split <;> rfl
@[simp] theorem subD_int : subD (.int x) (.int y) = some (.fz (.int (x - y))) := Eq.trans rfl rfl
@[simp] theorem negD_int : negD (.int x) = some (.fz (.int (-x))) := Eq.trans rfl rfl
theorem mulD_int : mulD (.int x) (.int y) = if x.natAbs.log2 + y.natAbs.log2 < 1000000 then some (.fz (.int (x * y))) else none := by
  simp only [mulD, mulI, mulL, mulT]
  split <;> rfl
@[simp] theorem mulD_list : mulD (.list xs) (.int y) = if -(2 ^ 63) ≤ y ∧ y < 2 ^ 63 ∧ xs.length * y.toNat ≤ sizeLine then some (.ol (List.replicate y.toNat xs).flatten) else none := by
  simp only [mulD, mulI, mulL, mulT]
  split <;> rfl
@[simp] theorem mulD_tup : mulD (.tuple xs) (.int y) = if xs.isEmpty = false ∧ 2 ≤ y ∧ y ≤ 1000 ∧ xs.length ≤ 1000 then some (.fz (.tuple (List.replicate y.toNat xs).flatten)) else none := by
  simp only [mulD, mulI, mulL, mulT]
  split <;> rfl
@[simp] theorem modD_int : modD (.int x) (.int y) = if 0 < y then some (.fz (.int (x % y))) else none := by
  refine Eq.trans ?_ rfl
  rfl
@[simp] theorem fdivD_int : fdivD (.int x) (.int y) = if 0 < y ∧ y.natAbs.log2 < 9000 then some (.fz (.int (x / y))) else none := by
  refine Eq.trans ?_ rfl
  rfl
@[simp] theorem powD_int : powD (.int x) (.int y) = if CPowW x y then some (.fz (.int (x ^ y.toNat))) else none := by
  refine Eq.trans ?_ rfl
  rfl
@[simp] theorem ltI_int : ltI (.int x) (.int y) = some (decide (x < y)) := Eq.trans rfl rfl
@[simp] theorem leI_int : leI (.int x) (.int y) = some (decide (x ≤ y)) := Eq.trans rfl rfl
@[simp] theorem gtI_int : gtI (.int x) (.int y) = some (decide (y < x)) := Eq.trans rfl rfl
@[simp] theorem geI_int : geI (.int x) (.int y) = some (decide (y ≤ x)) := Eq.trans rfl rfl
theorem eqP_some (h : plain a = true) (h2 : plain b = true) (h3 : SeqAt.shaped a = true) (h4 : SeqAt.shaped b = true) : eqP a b = some (PyData.eqv a b) := by
  unfold eqP
  rw [if_pos ⟨h, h2, h3, h4⟩]
@[simp] theorem eqD_int : eqD (.int x) (.int y) = some (decide (x = y)) := by
  unfold eqD eqS
  rw [eqP_some rfl rfl rfl rfl]
  simp only [PyData.eqv, Option.none_or, Option.map_none, Option.map_some]
  rw [show (x == y) = decide (x = y) from by rw [Bool.eq_iff_iff, beq_iff_eq, decide_eq_true_iff]]
@[simp] theorem neD_int : neD (.int x) (.int y) = some (!decide (x = y)) := by
  unfold neD eqS
  rw [eqP_some rfl rfl rfl rfl]
  simp only [PyData.eqv, Option.none_or, Option.map_none, Option.map_some]
  rw [show (x == y) = decide (x = y) from by rw [Bool.eq_iff_iff, beq_iff_eq, decide_eq_true_iff]]
@[simp] theorem eqD_str {x y : Str} : eqD (.str x) (.str y) = some (decide (x = y)) := Eq.trans rfl rfl
@[simp] theorem neD_str {x y : Str} : neD (.str x) (.str y) = some (!decide (x = y)) := Eq.trans rfl rfl
@[simp] theorem isN_none : isN .none .none = some true := Eq.trans rfl rfl
@[simp] theorem isN_int : isN (.int x) .none = some false := Eq.trans rfl rfl
@[simp] theorem isN_bool {x : Bool} : isN (.bool x) .none = some false := Eq.trans rfl rfl
@[simp] theorem isN_str {x : Str} : isN (.str x) .none = some false := Eq.trans rfl rfl
@[simp] theorem isN_tup : isN (.tuple xs) .none = some false := Eq.trans rfl rfl
@[simp] theorem isN_lst : isN (.list xs) .none = some false := Eq.trans rfl rfl
@[simp] theorem isntN_def : isntN a b = (isN a b).map not := Eq.trans rfl rfl
@[simp] theorem lenD_lst : lenD (.list xs) = some (.fz (.int xs.length)) := Eq.trans rfl rfl
@[simp] theorem lenD_tup : lenD (.tuple xs) = some (.fz (.int xs.length)) := Eq.trans rfl rfl
@[simp] theorem intB_int : intB (.int x) = some (.fz (.int x)) := Eq.trans rfl rfl
@[simp] theorem absD_int : absD (.int x) = some (.fz (.int (if x < 0 then -x else x))) := Eq.trans rfl rfl
@[simp] theorem listD_lst : listD (.list xs) = some (.ol xs) := Eq.trans rfl rfl
@[simp] theorem listD_tup : listD (.tuple xs) = some (.ol xs) := Eq.trans rfl rfl
@[simp] theorem tupleD_lst : tupleD (.list xs) = some (.fz (.tuple xs)) := Eq.trans rfl rfl
@[simp] theorem tupleD_tup : tupleD (.tuple xs) = some (.fz (.tuple xs)) := Eq.trans rfl rfl
@[simp] theorem revD_lst : revD (.list xs) = some (.ol xs.reverse) := Eq.trans rfl rfl
@[simp] theorem ixD_lst : ixD (.list xs) (.int x) = (atI xs x).map .fz := by
  simp only [ixD, ixL, ixT]
  cases atI xs x <;> rfl
@[simp] theorem ixD_tup : ixD (.tuple xs) (.int x) = (atI xs x).map .fz := Eq.trans rfl rfl
@[simp] theorem isi_int_int : isiF "int" (.int x) = some true := show kitB "int" "int" = some true by decide
@[simp] theorem isi_int_bool : isiF "bool" (.int x) = some false := show kitB "int" "bool" = some false by decide
@[simp] theorem isi_int_tuple : isiF "tuple" (.int x) = some false := show kitB "int" "tuple" = some false by decide
@[simp] theorem isi_int_str : isiF "str" (.int x) = some false := show kitB "int" "str" = some false by decide
theorem reprD_some (h : ReprOk a) : reprD a = some (.fz (.str a.shown)) := by
  unfold reprD
  rw [if_pos h]
end
/-! ### loops -/
theorem forL_cons {g : GF} {h : SF} {d : D} {ds : List D} {s : S} : forL g h (d :: ds) s = match g d s with
    | none => .bad
    | some s1 => (h s1).loop (forL g h ds) := rfl
theorem whileL_succ {t : TF} {h : SF} {n : Nat} {s : S} : whileL t h (n + 1) s = (t s).toS (kWh t h n) := rfl
theorem lcL_cons {ow : List Bool} {g : GF} {t : TF} {e : EF} {d : D} {ds acc : List D} {s : S} : lcL ow g t e (d :: ds) acc s = match g d s with
    | none => .bad
    | some s1 => (t s1).noex.bind fun b s2 => if b = true then (e s2).noex.bind fun y s3 => if acc.length < sizeLine then lcL ow g t e ds (acc ++ [y]) (wipeF ow s3) else .bad
        else lcL ow g t e ds acc (wipeF ow s2) := rfl
@[simp] theorem lcL_nil {ow : List Bool} {g : GF} {t : TF} {e : EF} {acc : List D} {s : S} : lcL ow g t e [] acc s = .ok acc s := Eq.trans rfl rfl
/-- a comprehension that changes nothing: item by item -/
theorem lcL_map {ow : List Bool} {g : GF} {e : EF} {s : S} {α : Type} (f : α → D) (u : α → D) : ∀ (l : List α) (acc : List D), (∀ a ∈ l, ∃ s1 s3, g (u a) s = some s1 ∧ e s1 = .ok (f a) s3 ∧ wipeF ow s3 = s) → acc.length + l.length ≤ sizeLine →
    lcL ow g kYes e (l.map u) acc s = .ok (acc ++ l.map f) s
  | [], acc, _, _ => by simp
  | a :: l, acc, h, hl => by
    obtain ⟨s1, s3, h1, h2, h3⟩ := h a (by simp)
    rw [List.map_cons, lcL_cons, h1]
    simp only [ev_kYes, Res.noex_ok, Res.bind_ok, if_true, h2]
    simp only [List.length_cons] at hl
    rw [if_pos (by omega), h3, lcL_map f u l (acc ++ [f a]) (fun b hb => h b (by simp [hb])) (by simp; omega)]
    simp
/-- every turn of a for loop keeps an invariant -/
theorem forL_inv {g : GF} {h : SF} (I : Nat → S → Prop) : ∀ (ds : List D) (k : Nat) (s : S), I k s → (∀ i d s, ds[i]? = some d → I (k + i) s → ∃ s1 s2, g d s = some s1 ∧ (h s1 = .nx s2 ∨ h s1 = .ct s2) ∧ I (k + i + 1) s2) →
    ∃ s', forL g h ds s = .nx s' ∧ I (k + ds.length) s'
  | [], k, s, h0, _ => ⟨s, rfl, h0⟩
  | d :: ds, k, s, h0, st => by
    obtain ⟨s1, s2, e1, e2, h2⟩ := st 0 d s rfl h0
    obtain ⟨s', e, h3⟩ := forL_inv I ds (k + 1) s2 h2 (fun i d s hd hi => by
      have := st (i + 1) d s (by simpa using hd) (by rw [show k + (i + 1) = k + 1 + i by omega]; exact hi)
      rw [show k + 1 + i + 1 = k + (i + 1) + 1 by omega]
      exact this)
    refine ⟨s', ?_, by rw [List.length_cons, show k + (ds.length + 1) = k + 1 + ds.length by omega]; exact h3⟩
    rw [forL_cons, e1]
    rcases e2 with e2 | e2 <;> simp only [e2, Out.loop_nx, Out.loop_ct] <;> exact e
end MI

set_option Elab.async false
set_option linter.all false
set_option autoImplicit false
set_option maxRecDepth 100000
/-! MI: facts about data for the plain laws. -/
namespace MI
open PySem PySem.Spec L2
theorem eqv_nil (cs : List Int) : PyData.eqv (.list (cs.map .int)) (.list []) = decide (cs = []) := by
  cases cs <;> simp [PyData.eqv, PyData.eqvAll]
theorem plain_ints : ∀ cs : List Int, plainAll (cs.map PyData.int) = true
  | [] => rfl
  | c :: cs => by simp [plainAll, MI.plain, plain_ints cs]
theorem can_ints : ∀ cs : List Int, PyData.canLayAll0 (cs.map PyData.int) = true
  | [] => rfl
  | c :: cs => by simp [PyData.canLayAll0, PyData.canLay0, can_ints cs]
theorem depth_ints : ∀ cs : List Int, PyData.depthAll (cs.map PyData.int) = 0
  | [] => rfl
  | c :: cs => by simp [PyData.depthAll, PyData.depth, depth_ints cs]
theorem shaped_ints (cs : List Int) : SeqAt.shaped (.list (cs.map PyData.int)) = true := by
  simp [SeqAt.shaped, PyData.canLay0, can_ints, PyData.depth, depth_ints]
theorem shaped_intsT (cs : List Int) : SeqAt.shaped (.tuple (cs.map PyData.int)) = true := by
  simp [SeqAt.shaped, PyData.canLay0, can_ints, PyData.depth, depth_ints]
theorem eqvAll_ints : ∀ cs ds : List Int, PyData.eqvAll (cs.map PyData.int) (ds.map PyData.int) = decide (cs = ds)
  | [], [] => by simp [PyData.eqvAll]
  | [], _ :: _ => by simp [PyData.eqvAll]
  | _ :: _, [] => by simp [PyData.eqvAll]
  | c :: cs, d :: ds => by
    simp only [List.map_cons, PyData.eqvAll, PyData.eqv, eqvAll_ints cs ds]
    by_cases h : c = d <;> by_cases h2 : cs = ds <;> simp [h, h2]
theorem eqD_lst (cs ds : List Int) : eqD (.list (cs.map PyData.int)) (.list (ds.map PyData.int)) = some (decide (cs = ds)) := by
  simp only [eqD, eqS, Option.none_or]
  rw [eqP_some (by simp [MI.plain, plain_ints]) (by simp [MI.plain, plain_ints]) (shaped_ints _) (shaped_ints _)]
  simp [PyData.eqv, eqvAll_ints]
theorem neD_lst (cs ds : List Int) : neD (.list (cs.map PyData.int)) (.list (ds.map PyData.int)) = some (!decide (cs = ds)) := by
  simp only [neD, eqS, Option.map_none, Option.none_or]
  rw [eqP_some (by simp [MI.plain, plain_ints]) (by simp [MI.plain, plain_ints]) (shaped_ints _) (shaped_ints _)]
  simp [PyData.eqv, eqvAll_ints]
theorem eqD_tup (cs ds : List Int) : eqD (.tuple (cs.map PyData.int)) (.tuple (ds.map PyData.int)) = some (decide (cs = ds)) := by
  simp only [eqD, eqS, Option.none_or]
  rw [eqP_some (by simp [MI.plain, plain_ints]) (by simp [MI.plain, plain_ints]) (shaped_intsT _) (shaped_intsT _)]
  simp [PyData.eqv, eqvAll_ints]
theorem neD_tup (cs ds : List Int) : neD (.tuple (cs.map PyData.int)) (.tuple (ds.map PyData.int)) = some (!decide (cs = ds)) := by
  simp only [neD, eqS, Option.map_none, Option.none_or]
  rw [eqP_some (by simp [MI.plain, plain_ints]) (by simp [MI.plain, plain_ints]) (shaped_intsT _) (shaped_intsT _)]
  simp [PyData.eqv, eqvAll_ints]
@[simp] theorem cp18 : CPowW 10 18 := by decide
@[simp] theorem cp30 : CPowW 10 30 := by decide
theorem map_last {cs : List Int} (h : cs ≠ []) : (cs.map PyData.int)[cs.length - 1]? = some (.int (cs.getLast h)) := by
  rw [List.getElem?_map, ← List.getLast?_eq_getElem?, List.getLast?_eq_some_getLast h]
  rfl
theorem log_lt {n : Int} {k : Nat} (h : n.natAbs < 2 ^ k) (hk : 0 < k) : n.natAbs.log2 < k := by
  by_cases h0 : n.natAbs = 0
  · rw [h0]; simpa using hk
  · exact (Nat.log2_lt h0).mpr h
/-- a product is told -/
theorem mul_ok {x y : Int} (k l : Nat) (hx : x.natAbs < 2 ^ k) (hy : y.natAbs < 2 ^ l) (hk : 0 < k := by decide) (hl : 0 < l := by decide) (h : k + l < 1000000 := by decide) : mulD (.int x) (.int y) = some (.fz (.int (x * y))) := by
  have h1 := log_lt hx hk
  have h2 := log_lt hy hl
  rw [mulD_int, if_pos (by omega)]
theorem fdiv_ok {x y : Int} (k : Nat) (hy : 0 < y) (h : y.natAbs < 2 ^ k) (hk : 0 < k := by decide) (hl : k ≤ 9000 := by decide) : fdivD (.int x) (.int y) = some (.fz (.int (x / y))) := by
  have h1 := log_lt h hk
  rw [fdivD_int, if_pos ⟨hy, by omega⟩]
theorem cut_map {α : Type} (f : α → D) (l : List α) (lo hi : Option Int) : ∃ a b : Nat, cutD (l.map f) lo hi = ((l.drop a).take b).map f :=
  ⟨HT.sIx (l.map f).length 0 lo, HT.sIx (l.map f).length (l.map f).length hi - HT.sIx (l.map f).length 0 lo, by
    unfold cutD
    rw [List.map_take, List.map_drop]⟩
theorem cut_to {α : Type} (f : α → D) (l : List α) (n : Nat) : cutD (l.map f) none (some (n : Int)) = (l.take n).map f := by
  unfold cutD
  rw [HT.sIx_none, List.drop_zero, Nat.sub_zero, HT.sIx_nat, ← List.map_take]
  congr 1
  rw [List.length_map, List.take_eq_take_iff]
  simp
theorem atI_natD {α : Type} {xs : List α} {i : Nat} {x : α} (h : xs[i]? = some x) : atI xs (i : Int) = some x := atI_nat h
theorem size_ok {n : Nat} (h : n ≤ 1000000) : n ≤ sizeLine := by unfold sizeLine; omega
theorem size_lt {n : Nat} (h : n ≤ 1000000) : n < sizeLine := by unfold sizeLine; omega
theorem upto_map (n : Nat) : upto 0 n = (List.range n).map fun i : Nat => PyData.int (i : Int) := by
  unfold upto
  simp
theorem upto_get {n i : Nat} {d : D} (h : (upto 0 n)[i]? = some d) : i < n ∧ d = .int (i : Int) := by
  rw [upto_map, List.getElem?_map, Option.map_eq_some_iff] at h
  obtain ⟨j, h1, rfl⟩ := h
  have hi := lt_of_get h1
  rw [List.length_range] at hi
  rw [List.getElem?_range hi] at h1
  cases h1
  exact ⟨hi, rfl⟩
@[simp] theorem upto_length (n : Nat) : (upto 0 n).length = n := by
  rw [upto_map]; simp
/-- range(m) for a natural number: used in place of k_Rg1 -/
theorem rg_nat {s : S} {n : Int} (m : Nat) (e : n = (m : Int)) (h : m ≤ 1000000) : kRg1 (.int n) s = .ok (upto 0 m) s := by
  rw [k_Rg1, if_pos (by omega), e, Int.toNat_natCast]
end MI

set_option Elab.async false
set_option linter.all false
set_option autoImplicit false
set_option maxRecDepth 100000
/-! MI: running mirrors: zip, enumerate, repr of great numbers; sums. -/
namespace MI
open PySem PySem.Spec L2
section
variable {s : S} {fa fb : EF} {a b : D} {i n : Nat}
@[simp] theorem ev_iZip2 : iZip2 fa fb s = (fa s).bind (kBin pairD2 fb) := Eq.trans rfl rfl
@[simp] theorem ev_iEnum2 : iEnum2 fa s = (fa s).bind (kOf numD) := Eq.trans rfl rfl
@[simp] theorem ev_iZipS : iZip fa fb s = (fa s).bind (kBin sameKind fb) := Eq.trans rfl rfl
def kUnset (i : Nat) (ds : List D) : S → Res (List D) := fun s => .ok ds (s.set i none)
@[simp] theorem k_Unset {ds : List D} : kUnset i ds s = .ok ds (s.set i none) := Eq.trans rfl rfl
@[simp] theorem ev_iZipN : iZipN i fa fb s = (iZip fa fb s).bind (kUnset i) := Eq.trans rfl rfl
@[simp] theorem ev_sZipRet {ow : List Bool} {g : GF} {f : EF} {F : List OD → Res OD} : sZipRet ow i fa fb g f F s = sRet (oCall [none] (aCons (eFrz (oLc ow (iZipN i fa fb) g kYes f)) aNil) (noexF F)) s := Eq.trans rfl rfl
@[simp] theorem sameKind_tup {xs ys : List D} : sameKind (.tuple xs) (.tuple ys) = some (pairUp xs ys) := Eq.trans rfl rfl
@[simp] theorem sameKind_lst {xs ys : List D} : sameKind (.list xs) (.list ys) = some (pairUp xs ys) := Eq.trans rfl rfl
@[simp] theorem pairD2_tl {xs ys : List D} : pairD2 (.tuple xs) (.list ys) = some (pairUp xs ys) := Eq.trans rfl rfl
@[simp] theorem pairD2_lt {xs ys : List D} : pairD2 (.list xs) (.tuple ys) = some (pairUp xs ys) := Eq.trans rfl rfl
@[simp] theorem pairD2_ll {xs ys : List D} : pairD2 (.list xs) (.list ys) = some (pairUp xs ys) := Eq.trans rfl rfl
@[simp] theorem pairD2_tt {xs ys : List D} : pairD2 (.tuple xs) (.tuple ys) = some (pairUp xs ys) := Eq.trans rfl rfl
@[simp] theorem numD_lst {xs : List D} : numD (.list xs) = some (numbered 0 xs) := Eq.trans rfl rfl
@[simp] theorem numD_tup {xs : List D} : numD (.tuple xs) = some (numbered 0 xs) := Eq.trans rfl rfl
@[simp] theorem sumD_ints {ns : List Int} : sumD (.list (ns.map PyData.int)) = some (.fz (.int ns.sum)) := by
  show (asInts (ns.map PyData.int)).map _ = _
  rw [asInts_map]; rfl
theorem reprW_some (h : ReprOkW a) : reprW a = some (.fz (.str a.shown)) := if_pos h
@[simp] theorem isi_tup_tup {xs : List D} : isiF "tuple" (.tuple xs) = some true := show kitB "tuple" "tuple" = some true by decide
@[simp] theorem isi_tup_int {xs : List D} : isiF "int" (.tuple xs) = some false := show kitB "tuple" "int" = some false by decide
@[simp] theorem isi_tup_str {xs : List D} : isiF "str" (.tuple xs) = some false := show kitB "tuple" "str" = some false by decide
@[simp] theorem isi_tup_bool {xs : List D} : isiF "bool" (.tuple xs) = some false := show kitB "tuple" "bool" = some false by decide
def kForB (g : GF) (h : SF) (ds : List D) (o : Option S) : Out := match o with
  | none => .bad
  | some s1 => (h s1).loop (forL g h ds)
@[simp] theorem k_ForB {g : GF} {h : SF} {ds : List D} {s1 : S} : kForB g h ds (some s1) = (h s1).loop (forL g h ds) := Eq.trans rfl rfl
theorem forL_cons2 {g : GF} {h : SF} {d : D} {ds : List D} : forL g h (d :: ds) s = kForB g h ds (g d s) := by
  rw [forL_cons]
  refine Eq.trans ?_ rfl
  rfl
@[simp] theorem gcdD_int {x y : Int} : gcdD (.int x) (.int y) = some (.fz (.int ((Nat.gcd x.natAbs y.natAbs : Nat) : Int))) := Eq.trans rfl rfl
theorem pairUp_ints : ∀ (xs ys : List Int), pairUp (xs.map PyData.int) (ys.map PyData.int) = (xs.zip ys).map fun p => .tuple [.int p.1, .int p.2]
  | [], _ => by simp [pairUp]
  | _ :: _, [] => by simp [pairUp]
  | x :: xs, y :: ys => by simp [pairUp, pairUp_ints xs ys]
theorem numbered_ints : ∀ (xs : List Int) (k : Nat), numbered k (xs.map PyData.int) = (xs.zipIdx k).map fun p => .tuple [.int (p.2 : Nat), .int p.1]
  | [], _ => by simp [numbered]
  | x :: xs, k => by simp [numbered, numbered_ints xs]
/-- texts of numbers -/
theorem shown_int {x : Int} (h : x.natAbs < 2 ^ 12900) : (PyData.shown (.int x)).length ≤ 4301 := by
  rw [PyData.shown, PySem.ofString_length]
  exact int_text_length_le10 (by decide) (Nat.lt_of_lt_of_le h PyProof.Rows.pow_lo)
theorem wide_int {x : Int} (h : x.natAbs < 2 ^ 12900) : wideOk (.int x) = true := by
  have := log_lt h (by decide)
  simp [wideOk, this]
theorem wide_ints : ∀ {ns : List Int}, (∀ x ∈ ns, x.natAbs < 2 ^ 12900) → wideAll (ns.map PyData.int) = true
  | [], _ => rfl
  | n :: ns, h => by
    rw [List.map_cons, wideAll, wide_int (h n (by simp)), wide_ints fun x hx => h x (by simp [hx])]; rfl
theorem short_ints : ∀ {ns : List Int}, (∀ x ∈ ns, x.natAbs < 2 ^ 12900) → PyData.leavesShortAll 4301 (ns.map PyData.int) = true
  | [], _ => rfl
  | n :: ns, h => by
    rw [List.map_cons, PyData.leavesShortAll, PyData.leavesShort, short_ints fun x hx => h x (by simp [hx])]
    simp [shown_int (h n (by simp))]
theorem bulk_ints : ∀ ns : List Int, PyData.bulkAll (ns.map PyData.int) ≤ 2 * ns.length
  | [] => by simp [PyData.bulkAll]
  | n :: ns => by
    have := bulk_ints ns
    simp only [List.map_cons, PyData.bulkAll, PyData.bulk, List.length_cons]
    omega
theorem repr_int {x : Int} (h : x.natAbs < 2 ^ 12900) : ReprOkW (.int x) := by
  refine ⟨wide_int h, by simp [PyData.depth], ?_⟩
  have := shown_int h
  unfold sizeLine
  omega
theorem repr_ints {ns : List Int} (h : ∀ x ∈ ns, x.natAbs < 2 ^ 12900) (hl : ns.length ≤ 1000) : ReprOkW (.tuple (ns.map PyData.int)) := by
  refine ⟨by rw [wideOk]; exact wide_ints h, by simp [PyData.depth, depth_ints], ?_⟩
  have h1 := PyData.shown_le_bulk 4301 (by decide) (.tuple (ns.map PyData.int)) (by rw [PyData.leavesShort]; exact short_ints h)
  have h2 := bulk_ints ns
  rw [PyData.bulk] at h1
  unfold sizeLine
  have : (4301 + 2) * (PyData.bulkAll (ns.map PyData.int)) ≤ (4301 + 2) * 2000 := Nat.mul_le_mul_left _ (by omega)
  omega
end
end MI

set_option Elab.async false
set_option linter.all false
set_option autoImplicit false
set_option maxRecDepth 100000
/-! MI: texts of data without texts: what can be printed. -/
namespace MI
open PySem PySem.Spec L2
mutual
/-- no dict, no text, numbers of fewer than 4300 figures -/
def leanD : D → Bool
  | .none => true
  | .bool _ => true
  | .int i => decide (i.natAbs.log2 < 12900)
  | .str _ => false
  | .list ds => leanAll ds
  | .tuple ds => leanAll ds
  | .dict _ => false
def leanAll : List D → Bool
  | [] => true
  | d :: ds => leanD d && leanAll ds
end
mutual
theorem lean_wide : ∀ d : D, leanD d = true → wideOk d = true
  | .none, _ => rfl
  | .bool _, _ => rfl
  | .int _, h => h
  | .str _, h => by simp [leanD] at h
  | .list ds, h => by rw [wideOk]; exact lean_wideAll ds (by rw [leanD] at h; exact h)
  | .tuple ds, h => by rw [wideOk]; exact lean_wideAll ds (by rw [leanD] at h; exact h)
  | .dict _, h => by simp [leanD] at h
theorem lean_wideAll : ∀ ds : List D, leanAll ds = true → wideAll ds = true
  | [], _ => rfl
  | d :: ds, h => by
    rw [leanAll, Bool.and_eq_true] at h
    rw [wideAll, lean_wide d h.1, lean_wideAll ds h.2]; rfl
end
theorem short_of {i : Int} (h : i.natAbs.log2 < 12900) : (PyData.shown (.int i)).length ≤ 4301 := shown_int (PyProof.Rows.lt_of_log2 h)
mutual
theorem lean_short : ∀ d : D, leanD d = true → PyData.leavesShort 4301 d = true
  | .none, _ => by simp [PyData.leavesShort]
  | .bool b, _ => by cases b <;> simp [PyData.leavesShort]
  | .int i, h => by
    have := short_of (i := i) (by simpa [leanD] using h)
    simpa [PyData.leavesShort] using this
  | .str _, h => by simp [leanD] at h
  | .list ds, h => by rw [PyData.leavesShort]; exact lean_shortAll ds (by rw [leanD] at h; exact h)
  | .tuple ds, h => by rw [PyData.leavesShort]; exact lean_shortAll ds (by rw [leanD] at h; exact h)
  | .dict _, h => by simp [leanD] at h
theorem lean_shortAll : ∀ ds : List D, leanAll ds = true → PyData.leavesShortAll 4301 ds = true
  | [], _ => rfl
  | d :: ds, h => by
    rw [leanAll, Bool.and_eq_true] at h
    rw [PyData.leavesShortAll, lean_short d h.1, lean_shortAll ds h.2]; rfl
end
theorem repr_lean {d : D} (h : leanD d = true) (hd : d.depth ≤ 60) (hb : d.bulk ≤ 3000) : ReprOkW d := by
  refine ⟨lean_wide d h, hd, ?_⟩
  have h1 := PyData.shown_le_bulk 4301 (by decide) d (lean_short d h)
  unfold sizeLine
  have : (4301 + 2) * d.bulk ≤ (4301 + 2) * 3000 := Nat.mul_le_mul_left _ hb
  omega
theorem lean_int {x : Int} (h : x.natAbs < 2 ^ 12900) : leanD (.int x) = true := wide_int h
theorem lean_map {α : Type} (f : α → D) : ∀ {l : List α}, (∀ a ∈ l, leanD (f a) = true) → leanAll (l.map f) = true
  | [], _ => rfl
  | a :: l, h => by
    rw [List.map_cons, leanAll, h a (by simp), lean_map f fun b hb => h b (by simp [hb])]; rfl
theorem depth_map {α : Type} (f : α → D) {m : Nat} : ∀ {l : List α}, (∀ a ∈ l, (f a).depth ≤ m) → PyData.depthAll (l.map f) ≤ m
  | [], _ => by simp [PyData.depthAll]
  | a :: l, h => by
    rw [List.map_cons, PyData.depthAll]
    have h1 := h a (by simp)
    have h2 := depth_map f (m := m) (l := l) fun b hb => h b (by simp [hb])
    omega
theorem bulk_map {α : Type} (f : α → D) {m : Nat} : ∀ {l : List α}, (∀ a ∈ l, (f a).bulk ≤ m) → PyData.bulkAll (l.map f) ≤ (m + 1) * l.length
  | [], _ => by simp [PyData.bulkAll]
  | a :: l, h => by
    rw [List.map_cons, PyData.bulkAll, List.length_cons]
    have h1 := h a (by simp)
    have h2 := bulk_map f (m := m) (l := l) fun b hb => h b (by simp [hb])
    rw [Nat.mul_succ]
    omega
@[simp] theorem neD_bool {a b : Bool} : neD (.bool a) (.bool b) = some (decide (a ≠ b)) := by
  cases a <;> cases b <;> rfl
theorem all_bools {α : Type} (p : α → Bool) (l : List α) : boolsD (fun bs => bs.all id) (.list (l.map fun a => PyData.bool (p a))) = some (.fz (.bool (l.all p))) := by
  have e : l.map (fun a => PyData.bool (p a)) = (l.map p).map PyData.bool := by rw [List.map_map]; rfl
  unfold boolsD
  rw [e]
  simp only [asBools_map, Option.map_some]
  congr 3
  induction l with
  | nil => rfl
  | cons a l ih => simp
end MI

set_option Elab.async false
set_option linter.all false
set_option autoImplicit false
set_option maxRecDepth 100000
/-! MI: running mirrors: repr with dicts. -/
namespace MI
open PySem PySem.Spec L2
theorem reprV_some {a : D} (h : ReprOkV a) : reprV a = some (.fz (.str a.shown)) := if_pos h
mutual
theorem lean_wideV : ∀ d : D, leanD d = true → wideV d = true
  | .none, _ => rfl
  | .bool _, _ => rfl
  | .int _, h => h
  | .str _, h => by simp [leanD] at h
  | .list ds, h => by rw [wideV]; exact lean_wideVs ds (by rw [leanD] at h; exact h)
  | .tuple ds, h => by rw [wideV]; exact lean_wideVs ds (by rw [leanD] at h; exact h)
  | .dict _, h => by simp [leanD] at h
theorem lean_wideVs : ∀ ds : List D, leanAll ds = true → wideVs ds = true
  | [], _ => rfl
  | d :: ds, h => by
    rw [leanAll, Bool.and_eq_true] at h
    rw [wideVs, lean_wideV d h.1, lean_wideVs ds h.2]; rfl
end
theorem repr_leanV {d : D} (h : leanD d = true) (hd : d.depth ≤ 60) (hb : d.bulk ≤ 3000) : ReprOkV d := ⟨lean_wideV d h, hd, (repr_lean h hd hb).2.2⟩
theorem reprV_int {x : Int} (h : x.natAbs < 2 ^ 12900) : ReprOkV (.int x) := repr_leanV (lean_int h) (by simp [PyData.depth]) (by simp [PyData.bulk])
theorem reprV_ints {ns : List Int} (h : ∀ x ∈ ns, x.natAbs < 2 ^ 12900) (hl : ns.length ≤ 1000) : ReprOkV (.tuple (ns.map PyData.int)) :=
  ⟨lean_wideV _ (by rw [leanD]; exact lean_map PyData.int fun x hx => lean_int (h x hx)), (repr_ints h hl).2⟩
/-- small data: short numbers, not too much of it -/
structure Sml (d : D) (n k : Nat) : Prop where
  wide : wideV d = true
  short : PyData.leavesShort 500 d = true
  dep : d.depth ≤ k
  blk : d.bulk ≤ n
theorem Sml.repr {d : D} {n k : Nat} (h : Sml d n k) (hk : k ≤ 60) (hn : n ≤ 30000) : ReprOkV d := by
  refine ⟨h.wide, Nat.le_trans h.dep hk, ?_⟩
  have h1 := PyData.shown_le_bulk 500 (by decide) d h.short
  have h2 := h.blk
  unfold sizeLine
  have : (500 + 2) * d.bulk ≤ (500 + 2) * 30000 := Nat.mul_le_mul_left _ (by omega)
  omega
theorem Sml.mono {d : D} {n k m j : Nat} (h : Sml d n k) (hn : n ≤ m) (hk : k ≤ j) : Sml d m j := ⟨h.wide, h.short, Nat.le_trans h.dep hk, Nat.le_trans h.blk hn⟩
theorem sml_int {x : Int} (h : x.natAbs < 10 ^ 499) (n k : Nat) : Sml (.int x) n k := by
  have h2 : x.natAbs < 2 ^ 12900 := Nat.lt_trans h (by decide +kernel)
  refine ⟨wide_int h2, ?_, by simp [PyData.depth], by simp [PyData.bulk]⟩
  rw [PyData.leavesShort]
  refine decide_eq_true ?_
  rw [PyData.shown, PySem.ofString_length]
  exact int_text_length_le10 (by decide) h
theorem sml_bool (b : Bool) (n k : Nat) : Sml (.bool b) n k := ⟨rfl, by simp [PyData.leavesShort], by simp [PyData.depth], by simp [PyData.bulk]⟩
theorem sml_none (n k : Nat) : Sml .none n k := ⟨rfl, by simp [PyData.leavesShort], by simp [PyData.depth], by simp [PyData.bulk]⟩
theorem sml_dict (n k : Nat) (hk : 1 ≤ k) : Sml (.dict []) n k := ⟨rfl, by simp [PyData.leavesShort, PyData.leavesShortKv], by simp [PyData.depth, PyData.depthKv]; omega, by simp [PyData.bulk, PyData.bulkKv]⟩
theorem sml_all {n k : Nat} : ∀ {ds : List D}, (∀ d ∈ ds, Sml d n k) → wideVs ds = true ∧ PyData.leavesShortAll 500 ds = true ∧ PyData.depthAll ds ≤ k ∧ PyData.bulkAll ds ≤ (n + 1) * ds.length
  | [], _ => ⟨rfl, by simp [PyData.leavesShortAll], by simp [PyData.depthAll], by simp [PyData.bulkAll]⟩
  | d :: ds, h => by
    obtain ⟨a, b, c, e⟩ := sml_all fun x hx => h x (List.mem_cons_of_mem _ hx)
    have q := h d (by simp)
    have q1 := q.dep
    have q2 := q.blk
    refine ⟨by rw [wideVs, q.wide, a]; rfl, by rw [PyData.leavesShortAll, q.short, b]; rfl, by rw [PyData.depthAll]; omega, ?_⟩
    rw [PyData.bulkAll, List.length_cons, Nat.mul_succ]
    omega
theorem sml_tup {ds : List D} {n k m j : Nat} (h : ∀ d ∈ ds, Sml d n k) (hm : (n + 1) * ds.length ≤ m) (hj : k + 1 ≤ j) : Sml (.tuple ds) m j := by
  obtain ⟨a, b, c, e⟩ := sml_all h
  exact ⟨by rw [wideV]; exact a, by rw [PyData.leavesShort]; exact b, by rw [PyData.depth]; omega, by rw [PyData.bulk]; omega⟩
theorem sml_lst {ds : List D} {n k m j : Nat} (h : ∀ d ∈ ds, Sml d n k) (hm : (n + 1) * ds.length ≤ m) (hj : k + 1 ≤ j) : Sml (.list ds) m j := by
  obtain ⟨a, b, c, e⟩ := sml_all h
  exact ⟨by rw [wideV]; exact a, by rw [PyData.leavesShort]; exact b, by rw [PyData.depth]; omega, by rw [PyData.bulk]; omega⟩
theorem sml_str {x : Str} {n k : Nat} (h : ∀ c ∈ x.cps.toList, c < 16 ^ 8) (hn : x.cps.size ≤ n) : Sml (.str x) n k := ⟨rfl, by rw [PyData.leavesShort, List.all_eq_true]; exact fun c hc => decide_eq_true (h c hc), by simp [PyData.depth], by rw [PyData.bulk]; exact hn⟩
@[simp] theorem isv_none_int : isiV "int" .none = some false := show kitB "NoneType" "int" = some false by decide
@[simp] theorem isv_none_bool : isiV "bool" .none = some false := show kitB "NoneType" "bool" = some false by decide
@[simp] theorem isv_none_str : isiV "str" .none = some false := show kitB "NoneType" "str" = some false by decide
@[simp] theorem isv_none_tuple : isiV "tuple" .none = some false := show kitB "NoneType" "tuple" = some false by decide
@[simp] theorem isv_none_list : isiV "list" .none = some false := show kitB "NoneType" "list" = some false by decide
@[simp] theorem isv_none_dict : isiV "dict" .none = some false := show kitB "NoneType" "dict" = some false by decide
@[simp] theorem isv_bool_int {b : Bool} : isiV "int" (.bool b) = some true := show kitB "bool" "int" = some true by decide
@[simp] theorem isv_bool_bool {b : Bool} : isiV "bool" (.bool b) = some true := show kitB "bool" "bool" = some true by decide
@[simp] theorem isv_bool_str {b : Bool} : isiV "str" (.bool b) = some false := show kitB "bool" "str" = some false by decide
@[simp] theorem isv_bool_tuple {b : Bool} : isiV "tuple" (.bool b) = some false := show kitB "bool" "tuple" = some false by decide
@[simp] theorem isv_bool_list {b : Bool} : isiV "list" (.bool b) = some false := show kitB "bool" "list" = some false by decide
@[simp] theorem isv_bool_dict {b : Bool} : isiV "dict" (.bool b) = some false := show kitB "bool" "dict" = some false by decide
@[simp] theorem isv_int_int {x : Int} : isiV "int" (.int x) = some true := show kitB "int" "int" = some true by decide
@[simp] theorem isv_int_bool {x : Int} : isiV "bool" (.int x) = some false := show kitB "int" "bool" = some false by decide
@[simp] theorem isv_int_str {x : Int} : isiV "str" (.int x) = some false := show kitB "int" "str" = some false by decide
@[simp] theorem isv_int_tuple {x : Int} : isiV "tuple" (.int x) = some false := show kitB "int" "tuple" = some false by decide
@[simp] theorem isv_int_list {x : Int} : isiV "list" (.int x) = some false := show kitB "int" "list" = some false by decide
@[simp] theorem isv_int_dict {x : Int} : isiV "dict" (.int x) = some false := show kitB "int" "dict" = some false by decide
@[simp] theorem isv_str_int {x : Str} : isiV "int" (.str x) = some false := show kitB "str" "int" = some false by decide
@[simp] theorem isv_str_bool {x : Str} : isiV "bool" (.str x) = some false := show kitB "str" "bool" = some false by decide
@[simp] theorem isv_str_str {x : Str} : isiV "str" (.str x) = some true := show kitB "str" "str" = some true by decide
@[simp] theorem isv_str_tuple {x : Str} : isiV "tuple" (.str x) = some false := show kitB "str" "tuple" = some false by decide
@[simp] theorem isv_str_list {x : Str} : isiV "list" (.str x) = some false := show kitB "str" "list" = some false by decide
@[simp] theorem isv_str_dict {x : Str} : isiV "dict" (.str x) = some false := show kitB "str" "dict" = some false by decide
@[simp] theorem isv_list_int {ds : List D} : isiV "int" (.list ds) = some false := show kitB "list" "int" = some false by decide
@[simp] theorem isv_list_bool {ds : List D} : isiV "bool" (.list ds) = some false := show kitB "list" "bool" = some false by decide
@[simp] theorem isv_list_str {ds : List D} : isiV "str" (.list ds) = some false := show kitB "list" "str" = some false by decide
@[simp] theorem isv_list_tuple {ds : List D} : isiV "tuple" (.list ds) = some false := show kitB "list" "tuple" = some false by decide
@[simp] theorem isv_list_list {ds : List D} : isiV "list" (.list ds) = some true := show kitB "list" "list" = some true by decide
@[simp] theorem isv_list_dict {ds : List D} : isiV "dict" (.list ds) = some false := show kitB "list" "dict" = some false by decide
@[simp] theorem isv_tuple_int {ds : List D} : isiV "int" (.tuple ds) = some false := show kitB "tuple" "int" = some false by decide
@[simp] theorem isv_tuple_bool {ds : List D} : isiV "bool" (.tuple ds) = some false := show kitB "tuple" "bool" = some false by decide
@[simp] theorem isv_tuple_str {ds : List D} : isiV "str" (.tuple ds) = some false := show kitB "tuple" "str" = some false by decide
@[simp] theorem isv_tuple_tuple {ds : List D} : isiV "tuple" (.tuple ds) = some true := show kitB "tuple" "tuple" = some true by decide
@[simp] theorem isv_tuple_list {ds : List D} : isiV "list" (.tuple ds) = some false := show kitB "tuple" "list" = some false by decide
@[simp] theorem isv_tuple_dict {ds : List D} : isiV "dict" (.tuple ds) = some false := show kitB "tuple" "dict" = some false by decide
@[simp] theorem isv_dict_int {kvs : List (D × D)} (h : (kvs.any fun p => noneKey p.1) = false) : isiV "int" (.dict kvs) = some false := by
  show (if (kvs.any fun p => noneKey p.1) = true then none else kitB "dict" "int") = some false
  rw [h]; decide
@[simp] theorem isv_dict_bool {kvs : List (D × D)} (h : (kvs.any fun p => noneKey p.1) = false) : isiV "bool" (.dict kvs) = some false := by
  show (if (kvs.any fun p => noneKey p.1) = true then none else kitB "dict" "bool") = some false
  rw [h]; decide
@[simp] theorem isv_dict_str {kvs : List (D × D)} (h : (kvs.any fun p => noneKey p.1) = false) : isiV "str" (.dict kvs) = some false := by
  show (if (kvs.any fun p => noneKey p.1) = true then none else kitB "dict" "str") = some false
  rw [h]; decide
@[simp] theorem isv_dict_tuple {kvs : List (D × D)} (h : (kvs.any fun p => noneKey p.1) = false) : isiV "tuple" (.dict kvs) = some false := by
  show (if (kvs.any fun p => noneKey p.1) = true then none else kitB "dict" "tuple") = some false
  rw [h]; decide
@[simp] theorem isv_dict_list {kvs : List (D × D)} (h : (kvs.any fun p => noneKey p.1) = false) : isiV "list" (.dict kvs) = some false := by
  show (if (kvs.any fun p => noneKey p.1) = true then none else kitB "dict" "list") = some false
  rw [h]; decide
@[simp] theorem isv_dict_dict {kvs : List (D × D)} (h : (kvs.any fun p => noneKey p.1) = false) : isiV "dict" (.dict kvs) = some true := by
  show (if (kvs.any fun p => noneKey p.1) = true then none else kitB "dict" "dict") = some true
  rw [h]; decide
def kIsiV (T : String) (d : D) : EF := fun s => (ofO (isiV T d) s).bind kToB
section
variable {fa : EF} {s : S} {d : D} {T : String}
@[simp] theorem k_IsiV : kIsiV T d s = (ofO (isiV T d) s).bind kToB := Eq.trans rfl rfl
@[simp] theorem ev_IsiV : eIsiV T fa s = (fa s).bind (kIsiV T) := Eq.trans rfl rfl
end
end MI

set_option Elab.async false
set_option linter.all false
set_option autoImplicit false
set_option maxRecDepth 100000
/-! MI: running mirrors: own errors, try, calls by names, join, in, dict displays. -/
namespace MI
open PySem PySem.Spec L2
section
variable {s : S} {fa fb : EF} {g g' : AF}
@[simp] theorem isTF_none {q : Bool} : isTF .none (.bool q) = some false := Eq.trans rfl rfl
@[simp] theorem isTF_bool {p q : Bool} : isTF (.bool p) (.bool q) = some (decide (p = q)) := Eq.trans rfl rfl
@[simp] theorem isTF_int {i : Int} {q : Bool} : isTF (.int i) (.bool q) = some false := Eq.trans rfl rfl
@[simp] theorem isTF_str {x : Str} {q : Bool} : isTF (.str x) (.bool q) = some false := Eq.trans rfl rfl
@[simp] theorem isTF_tup {ds : List D} {q : Bool} : isTF (.tuple ds) (.bool q) = some false := Eq.trans rfl rfl
@[simp] theorem isTF_lst {ds : List D} {q : Bool} : isTF (.list ds) (.bool q) = some false := Eq.trans rfl rfl
@[simp] theorem isTF_dict {ds : List (D × D)} {q : Bool} : isTF (.dict ds) (.bool q) = some false := Eq.trans rfl rfl
theorem addD_str {x y : Str} : addD (.str x) (.str y) = if x.length + y.length ≤ sizeLine then some (.fz (.str (x ++ y))) else none := by
  simp only [addD, addI, addT, addLs, addS]
  split <;> rfl
theorem add_str {x y : Str} (h : x.length + y.length ≤ 1000000) : addD (.str x) (.str y) = some (.fz (.str (x ++ y))) := by
  rw [addD_str, if_pos (size_ok h)]
theorem asStrs_map : ∀ ts : List Str, asStrs (ts.map PyData.str) = some ts
  | [] => rfl
  | t :: ts => by rw [List.map_cons, asStrs, asStrs_map ts]; rfl
theorem join_map {x : Str} {ts : List Str} (h : (ts.map (·.length)).sum + ts.length * x.length ≤ 1000000) : joinD (.str x) (.list (ts.map PyData.str)) = some (.fz (.str (Txt.join x ts))) := by
  unfold joinD
  simp only [ev_itemsL, Option.bind_some, asStrs_map]
  rw [if_pos (by omega)]
def kJoin2 (a b : D) : OF := ofO (joinD a b)
@[simp] theorem k_Join2 {a b : D} : kJoin2 a b s = ofO (joinD a b) s := Eq.trans rfl rfl
def kJoin (fb : EF) (a : D) : OF := fun s => match a with
  | .str _ => (fb s).bind (kJoin2 a)
  | _ => .bad
@[simp] theorem k_Join {x : Str} : kJoin fb (.str x) s = (fb s).bind (kJoin2 (.str x)) := Eq.trans rfl rfl
@[simp] theorem ev_Join : oJoin fa fb s = (fa s).bind (kJoin fb) := by
  refine Eq.trans ?_ rfl
  rfl
@[simp] theorem ev_sRaise {e : Exn} : sRaise e s = .ex e s := Eq.trans rfl rfl
def Out.tryIn (i : Nat) (h : Exn → Option HR) (o : Out) : Out := match o with
  | .ex e s' => if i < s'.length then (match h e with
    | some r => .rt r.od s'
    | none => .bad) else .bad
  | o => o
theorem Out.tryIn_congr {i : Nat} {h : Exn → Option HR} {o o' : Out} (e : o = o') : o.tryIn i h = o'.tryIn i h := by rw [e]
@[simp] theorem Out.try_nx {i : Nat} {h : Exn → Option HR} : (Out.nx s).tryIn i h = .nx s := Eq.trans rfl rfl
@[simp] theorem Out.try_rt {i : Nat} {h : Exn → Option HR} {o : OD} : (Out.rt o s).tryIn i h = .rt o s := Eq.trans rfl rfl
theorem Out.try_ex {i : Nat} {h : Exn → Option HR} {e : Exn} {r : HR} (hi : i < s.length) (he : h e = some r) : (Out.ex e s).tryIn i h = .rt r.od s := by
  unfold Out.tryIn
  simp only [hi, if_true, he]
theorem ev_Try {i : Nat} {fb : SF} {h : Exn → Option HR} : sTry i fb h s = (fb s).tryIn i h := by
  refine Eq.trans ?_ rfl
  rfl
@[simp] theorem od_val {d : D} : (HR.val d).od = .fz d := Eq.trans rfl rfl
@[simp] theorem keyD_int {i : Int} : keyD (.inl i) = .int i := Eq.trans rfl rfl
@[simp] theorem keyD_str {x : Str} : keyD (.inr x) = .str x := Eq.trans rfl rfl
def kdV (r : List (Key × EF)) (d : D) : AF := fun s => (dVals r s).bind (kCons2 d)
@[simp] theorem k_dV {r : List (Key × EF)} {d : D} : kdV r d s = (dVals r s).bind (kCons2 d) := Eq.trans rfl rfl
@[simp] theorem ev_dVals_nil : dVals [] s = .ok [] s := Eq.trans rfl rfl
@[simp] theorem ev_dVals {k : Key} {f : EF} {r : List (Key × EF)} : dVals ((k, f) :: r) s = (f s).bind (kdV r) := Eq.trans rfl rfl
def kDisp (l : List (Key × EF)) (ds : List D) : EF := .ok (.dict ((l.map fun p => keyD p.1).zip ds))
@[simp] theorem k_Disp {l : List (Key × EF)} {ds : List D} : kDisp l ds s = .ok (.dict ((l.map fun p => keyD p.1).zip ds)) s := Eq.trans rfl rfl
@[simp] theorem ev_Disp {l : List (Key × EF)} : eDisp l s = (dVals l s).bind (kDisp l) := Eq.trans rfl rfl
def Res.valToX {α : Type} (s1 : S) : Res α → Res α
  | .ok o _ => .ok o s1
  | .ex e _ => .ex e s1
  | .bad => .bad
@[simp] theorem Res.valToX_ok {α : Type} {s1 s2 : S} {o : α} : (Res.ok o s2).valToX s1 = .ok o s1 := Eq.trans rfl rfl
@[simp] theorem Res.valToX_ex {α : Type} {s1 s2 : S} {e : Exn} : (Res.ex e s2 : Res α).valToX s1 = .ex e s1 := Eq.trans rfl rfl
def kCallPX2 (m n : Nat) (ix : List Nat) (F : List OD → Res OD) (ds es : List D) : OF := fun s2 => if ds.length = m ∧ es.length = n then (F ((pickL .none ix (ds ++ es)).map .fz)).valToX s2 else .bad
@[simp] theorem k_CallPX2 {m n : Nat} {ix : List Nat} {F : List OD → Res OD} {ds es : List D} : kCallPX2 m n ix F ds es s = if ds.length = m ∧ es.length = n then (F ((pickL .none ix (ds ++ es)).map .fz)).valToX s else .bad := Eq.trans rfl rfl
def kCallPX1 (m n : Nat) (ix : List Nat) (g : AF) (F : List OD → Res OD) (ds : List D) : OF := fun s1 => (g s1).bind (kCallPX2 m n ix F ds)
@[simp] theorem k_CallPX1 {m n : Nat} {ix : List Nat} {g : AF} {F : List OD → Res OD} {ds : List D} : kCallPX1 m n ix g F ds s = (g s).bind (kCallPX2 m n ix F ds) := Eq.trans rfl rfl
@[simp] theorem ev_CallPX {m n : Nat} {ix : List Nat} {F : List OD → Res OD} : oCallPX m n ix g g' F s = (g s).bind (kCallPX1 m n ix g' F) := by
  unfold oCallPX
  congr 1
  funext ds s1
  unfold kCallPX1
  congr 1
  funext es s2
  unfold kCallPX2 Res.valToX
  split
  · cases F ((pickL .none ix (ds ++ es)).map .fz) <;> rfl
  · rfl
end
end MI

set_option linter.all false
set_option autoImplicit false
/-! Series cut off: plain maths over functions of the place. -/
namespace SER
abbrev F := Nat → Int
def sh (a : F) : F := fun n => a (n + 1)
def cv : F → F → Nat → Int
  | a, b, 0 => a 0 * b 0
  | a, b, n + 1 => a 0 * b (n + 1) + cv (sh a) b n
def ad (a b : F) : F := fun i => a i + b i
def sm (x : Int) (a : F) : F := fun i => x * a i
def un : F := fun i => if i = 0 then 1 else 0
def zr : F := fun _ => 0
theorem cv_z (a b : F) : cv a b 0 = a 0 * b 0 := rfl
theorem cv_s (a b : F) (n : Nat) : cv a b (n + 1) = a 0 * b (n + 1) + cv (sh a) b n := rfl
theorem cv_congr : ∀ (n : Nat) {a a' b b' : F}, (∀ i, i ≤ n → a i = a' i) → (∀ i, i ≤ n → b i = b' i) → cv a b n = cv a' b' n
  | 0, _, _, _, _, ha, hb => by rw [cv_z, cv_z, ha 0 (Nat.le_refl _), hb 0 (Nat.le_refl _)]
  | n + 1, a, a', b, b', ha, hb => by
    rw [cv_s, cv_s, ha 0 (Nat.zero_le _), hb (n + 1) (Nat.le_refl _), cv_congr n (a := sh a) (a' := sh a') (b := b) (b' := b') (fun i hi => ha (i + 1) (by omega)) (fun i hi => hb i (by omega))]
theorem cv_adr : ∀ (n : Nat) (a b c : F), cv a (ad b c) n = cv a b n + cv a c n
  | 0, a, b, c => by rw [cv_z, cv_z, cv_z]; exact Int.mul_add _ _ _
  | n + 1, a, b, c => by
    rw [cv_s, cv_s, cv_s, cv_adr n (sh a) b c]
    show a 0 * (b (n + 1) + c (n + 1)) + _ = _
    rw [Int.mul_add]; omega
theorem cv_smr : ∀ (n : Nat) (x : Int) (a b : F), cv a (sm x b) n = x * cv a b n
  | 0, x, a, b => by rw [cv_z, cv_z]; exact Int.mul_left_comm _ _ _
  | n + 1, x, a, b => by
    rw [cv_s, cv_s, cv_smr n x (sh a) b, Int.mul_add]
    show a 0 * (x * b (n + 1)) + _ = _
    rw [Int.mul_left_comm]
theorem cv_s' : ∀ (n : Nat) (a b : F), cv a b (n + 1) = cv a (sh b) n + a (n + 1) * b 0
  | 0, a, b => by rw [cv_s, cv_z, cv_z]; rfl
  | n + 1, a, b => by
    rw [cv_s, cv_s' n (sh a) b, cv_s]
    show a 0 * b (n + 2) + (_ + a (n + 2) * b 0) = a 0 * b (n + 2) + _ + a (n + 2) * b 0
    omega
theorem cv_comm : ∀ (n : Nat) (a b : F), cv a b n = cv b a n
  | 0, a, b => by rw [cv_z, cv_z, Int.mul_comm]
  | n + 1, a, b => by
    rw [cv_s, cv_s', cv_comm n (sh a) b, Int.mul_comm (a 0)]
    omega
theorem cv_adl (n : Nat) (a b c : F) : cv (ad a b) c n = cv a c n + cv b c n := by
  rw [cv_comm, cv_adr, cv_comm, cv_comm n c b]
theorem cv_sml (n : Nat) (x : Int) (a b : F) : cv (sm x a) b n = x * cv a b n := by
  rw [cv_comm, cv_smr, cv_comm]
theorem sh_cv (a b : F) : sh (cv a b) = ad (sm (a 0) (sh b)) (cv (sh a) b) := rfl
theorem cv_assoc : ∀ (n : Nat) (a b c : F), cv (cv a b) c n = cv a (cv b c) n
  | 0, a, b, c => by simp only [cv_z]; exact Int.mul_assoc _ _ _
  | n + 1, a, b, c => by
    rw [cv_s, sh_cv, cv_adl, cv_sml, cv_s, cv_assoc n (sh a) b c, cv_z, cv_s b c n, Int.mul_add, Int.mul_assoc]
    omega
theorem cv_zl : ∀ (n : Nat) (b : F), cv zr b n = 0
  | 0, b => by rw [cv_z]; exact Int.zero_mul _
  | n + 1, b => by
    rw [cv_s, show sh zr = zr from rfl, cv_zl n b]
    show (0 : Int) * _ + 0 = 0
    omega
theorem cv_unl (n : Nat) (b : F) : cv un b n = b n := by
  cases n with
  | zero => rw [cv_z]; exact Int.one_mul _
  | succ n =>
    rw [cv_s, show sh un = zr from rfl, cv_zl]
    show (1 : Int) * _ + 0 = _
    omega
theorem cv_unr (n : Nat) (a : F) : cv a un n = a n := by rw [cv_comm, cv_unl]
/-- the sum that programs write -/
theorem cv_sum : ∀ (n : Nat) (a b : F), ((List.range (n + 1)).map fun i => a i * b (n - i)).sum = cv a b n
  | 0, a, b => by rw [cv_z]; simp
  | n + 1, a, b => by
    rw [List.range_succ_eq_map, List.map_cons, List.sum_cons, List.map_map, cv_s, ← cv_sum n (sh a) b]
    congr 1
    congr 1
    refine List.map_congr_left fun i hi => ?_
    show a (i + 1) * b (n + 1 - (i + 1)) = sh a i * b (n - i)
    rw [Nat.add_sub_add_right]; rfl
theorem cv_le (A B : Nat) : ∀ (n : Nat) (a b : F), (∀ i, i ≤ n → (a i).natAbs ≤ A) → (∀ i, i ≤ n → (b i).natAbs ≤ B) → (cv a b n).natAbs ≤ (n + 1) * (A * B)
  | 0, a, b, ha, hb => by
    rw [cv_z, Int.natAbs_mul, Nat.zero_add, Nat.one_mul]
    exact Nat.mul_le_mul (ha 0 (Nat.le_refl _)) (hb 0 (Nat.le_refl _))
  | n + 1, a, b, ha, hb => by
    rw [cv_s]
    have h1 := cv_le A B n (sh a) b (fun i hi => ha (i + 1) (by omega)) (fun i hi => hb i (by omega))
    have h2 : (a 0 * b (n + 1)).natAbs ≤ A * B := by
      rw [Int.natAbs_mul]
      exact Nat.mul_le_mul (ha 0 (Nat.zero_le _)) (hb (n + 1) (Nat.le_refl _))
    have h3 := Int.natAbs_add_le (a 0 * b (n + 1)) (cv (sh a) b n)
    rw [Nat.add_mul (n + 1) 1]
    omega
/-! ### the other one -/
def ivL (r : F) : Nat → List Int
  | 0 => [r 0]
  | n + 1 => ivL r n ++ [-(r 0) * cv (sh r) (fun i => (ivL r n).getD i 0) n]
theorem ivL_len (r : F) : ∀ n, (ivL r n).length = n + 1
  | 0 => rfl
  | n + 1 => by rw [ivL, List.length_append, ivL_len r n]; rfl
def iv (r : F) (n : Nat) : Int := (ivL r n).getD n 0
theorem ivL_get (r : F) : ∀ n i, i ≤ n → (ivL r n).getD i 0 = iv r i
  | 0, i, h => by
    have : i = 0 := by omega
    subst this; rfl
  | n + 1, i, h => by
    by_cases e : i = n + 1
    · subst e; rfl
    · rw [ivL, ← ivL_get r n i (by omega)]
      simp only [List.getD_eq_getElem?_getD]
      rw [List.getElem?_append_left (by rw [ivL_len]; omega)]
theorem iv_z (r : F) : iv r 0 = r 0 := rfl
theorem iv_s (r : F) (n : Nat) : iv r (n + 1) = -(r 0) * cv (sh r) (iv r) n := by
  have : iv r (n + 1) = -(r 0) * cv (sh r) (fun i => (ivL r n).getD i 0) n := by
    unfold iv
    rw [ivL]
    simp only [List.getD_eq_getElem?_getD]
    rw [List.getElem?_append_right (by rw [ivL_len]; omega), ivL_len, Nat.sub_self]
    rfl
  rw [this]
  congr 1
  exact cv_congr n (fun _ _ => rfl) fun i hi => ivL_get r n i hi
theorem iv_congr : ∀ (n : Nat) {r r' : F}, (∀ i, i ≤ n → r i = r' i) → ∀ m, m ≤ n → iv r m = iv r' m
  | n, r, r', h, 0, _ => by rw [iv_z, iv_z, h 0 (Nat.zero_le _)]
  | n, r, r', h, m + 1, hm => by
    rw [iv_s, iv_s, h 0 (Nat.zero_le _)]
    congr 1
    exact cv_congr m (fun i hi => h (i + 1) (by omega)) fun i hi => iv_congr m (r := r) (r' := r') (fun i hi => h i (by omega)) i hi
termination_by _ _ _ _ m _ => m
theorem cv_iv (r : F) (h : r 0 * r 0 = 1) (n : Nat) : cv r (iv r) n = un n := by
  cases n with
  | zero => rw [cv_z, iv_z, h]; rfl
  | succ n =>
    rw [cv_s, iv_s, ← Int.mul_assoc, Int.mul_neg, h]
    show -1 * _ + _ = (0 : Int)
    omega
theorem iv_iv (r : F) (h : r 0 * r 0 = 1) (n : Nat) : iv (iv r) n = r n := by
  have h1 : cv (cv r (iv r)) (iv (iv r)) n = iv (iv r) n := by
    rw [cv_congr n (a' := un) (b' := iv (iv r)) (fun i _ => cv_iv r h i) (fun _ _ => rfl), cv_unl]
  have h2 : cv r (cv (iv r) (iv (iv r))) n = r n := by
    rw [cv_congr n (a' := r) (b' := un) (fun _ _ => rfl) (fun i _ => cv_iv (iv r) (by rw [iv_z, h]) i), cv_unr]
  rw [← h1, cv_assoc, h2]
/-! ### put into one another -/
def Hk (o : F) : Nat → F → F
  | 0, _ => zr
  | k + 1, a => ad (cv (Hk o k (sh a)) o) (sm (a 0) un)
/-- the program's way -/
def Sp (o : F) : Nat → F → F → F → F
  | 0, _, f, _ => f
  | k + 1, a, f, p => Sp o k (sh a) (ad f (sm (a 0) p)) (cv p o)
theorem Sp_eq (o : F) : ∀ (k : Nat) (a f p : F) (n : Nat), Sp o k a f p n = f n + cv p (Hk o k a) n
  | 0, a, f, p, n => by
    show f n = f n + cv p zr n
    rw [cv_comm, cv_zl]; omega
  | k + 1, a, f, p, n => by
    show Sp o k (sh a) (ad f (sm (a 0) p)) (cv p o) n = _
    rw [Sp_eq o k, show Hk o (k + 1) a = ad (cv (Hk o k (sh a)) o) (sm (a 0) un) from rfl, cv_adr, cv_smr, cv_unr, cv_assoc]
    rw [cv_congr n (a' := p) (b' := cv (Hk o k (sh a)) o) (fun _ _ => rfl) (fun i _ => cv_comm i o _)]
    show f n + a 0 * p n + _ = _
    omega
theorem Sp_put (o : F) (k : Nat) (a : F) (n : Nat) : Sp o k a zr un n = Hk o k a n := by
  rw [Sp_eq, cv_unl]
  show 0 + _ = _
  omega
theorem cv_low (o : F) (h : o 0 = 0) (x : F) (n : Nat) : cv x o (n + 1) = cv x (sh o) n := by
  rw [cv_s', h]; omega
theorem Hk_stable (o : F) (h : o 0 = 0) : ∀ (k n : Nat) (a : F), n < k → Hk o (k + 1) a n = Hk o k a n
  | 0, n, a, hn => by omega
  | k + 1, 0, a, hn => by
    show cv (Hk o (k + 1) (sh a)) o 0 + a 0 * un 0 = cv (Hk o k (sh a)) o 0 + a 0 * un 0
    rw [cv_z, cv_z, h, Int.mul_zero, Int.mul_zero]
  | k + 1, n + 1, a, hn => by
    show cv (Hk o (k + 1) (sh a)) o (n + 1) + a 0 * un (n + 1) = cv (Hk o k (sh a)) o (n + 1) + a 0 * un (n + 1)
    rw [cv_low o h, cv_low o h, cv_congr n (b' := sh o) (fun i hi => Hk_stable o h k i (sh a) (by omega)) (fun _ _ => rfl)]
def Pt (o : F) (a : F) : F := fun n => Hk o (n + 1) a n
theorem Hk_Pt (o : F) (h : o 0 = 0) : ∀ (d n : Nat) (a : F), Hk o (n + 1 + d) a n = Pt o a n
  | 0, n, a => rfl
  | d + 1, n, a => by rw [← Nat.add_assoc, Hk_stable o h _ _ _ (by omega), Hk_Pt o h d n a]
theorem Hk_Pt' (o : F) (h : o 0 = 0) {k n : Nat} (a : F) (hn : n < k) : Hk o k a n = Pt o a n := by
  have := Hk_Pt o h (k - (n + 1)) n a
  rwa [show n + 1 + (k - (n + 1)) = k by omega] at this
theorem Pt_rec (o : F) (h : o 0 = 0) (a : F) (n : Nat) : Pt o a n = cv (Pt o (sh a)) o n + a 0 * un n := by
  rw [← Hk_Pt o h 1 n a]
  show cv (Hk o (n + 1) (sh a)) o n + a 0 * un n = _
  congr 1
  exact cv_congr n (fun i hi => Hk_Pt' o h _ (by omega)) (fun _ _ => rfl)
theorem Hk_ad (o : F) : ∀ (k : Nat) (a b : F) (n : Nat), Hk o k (ad a b) n = Hk o k a n + Hk o k b n
  | 0, _, _, _ => rfl
  | k + 1, a, b, n => by
    show cv (Hk o k (ad (sh a) (sh b))) o n + (a 0 + b 0) * un n = (cv (Hk o k (sh a)) o n + a 0 * un n) + (cv (Hk o k (sh b)) o n + b 0 * un n)
    rw [cv_congr n (a' := ad (Hk o k (sh a)) (Hk o k (sh b))) (b' := o) (fun i _ => Hk_ad o k _ _ i) (fun _ _ => rfl), cv_adl, Int.add_mul]
    omega
theorem Hk_sm (o : F) : ∀ (k : Nat) (x : Int) (a : F) (n : Nat), Hk o k (sm x a) n = x * Hk o k a n
  | 0, x, _, _ => (Int.mul_zero x).symm
  | k + 1, x, a, n => by
    show cv (Hk o k (sm x (sh a))) o n + (x * a 0) * un n = x * (cv (Hk o k (sh a)) o n + a 0 * un n)
    rw [cv_congr n (a' := sm x (Hk o k (sh a))) (b' := o) (fun i _ => Hk_sm o k x _ i) (fun _ _ => rfl), cv_sml, Int.mul_add, Int.mul_assoc]
theorem Pt_cv (o : F) (h : o 0 = 0) : ∀ (n m : Nat), m ≤ n → ∀ (a b : F), Pt o (cv a b) m = cv (Pt o a) (Pt o b) m := by
  have key : ∀ (m : Nat) (a b : F), (∀ i, i < m → Pt o (cv (sh a) b) i = cv (Pt o (sh a)) (Pt o b) i) → Pt o (cv a b) m = cv (Pt o a) (Pt o b) m := by
    intro m a b ih
    have e1 : Pt o (cv a b) m = a 0 * Pt o b m + cv (Pt o (cv (sh a) b)) o m := by
      rw [Pt_rec o h, sh_cv]
      rw [cv_congr m (a' := ad (sm (a 0) (Pt o (sh b))) (Pt o (cv (sh a) b))) (b' := o) (fun i _ => by
        show Hk o _ _ i = a 0 * Hk o _ _ i + Hk o _ _ i
        rw [Hk_ad, Hk_sm]) (fun _ _ => rfl), cv_adl, cv_sml, Pt_rec o h b m, cv_z, Int.mul_add, Int.mul_assoc]
      omega
    have e2 : cv (Pt o a) (Pt o b) m = a 0 * Pt o b m + cv (cv (Pt o (sh a)) (Pt o b)) o m := by
      rw [cv_congr m (a' := ad (cv (Pt o (sh a)) o) (sm (a 0) un)) (b' := Pt o b) (fun i _ => Pt_rec o h a i) (fun _ _ => rfl), cv_adl, cv_sml, cv_unl]
      rw [cv_assoc, cv_congr m (a' := Pt o (sh a)) (b' := cv (Pt o b) o) (fun _ _ => rfl) (fun i _ => cv_comm i _ _), ← cv_assoc]
      omega
    rw [e1, e2]
    congr 1
    cases m with
    | zero => rw [cv_z, cv_z, h, Int.mul_zero, Int.mul_zero]
    | succ m =>
      rw [cv_low o h, cv_low o h]
      exact cv_congr m (fun i hi => ih i (by omega)) (fun _ _ => rfl)
  intro n
  induction n with
  | zero => exact fun m hm a b => key m a b fun i hi => by omega
  | succ n ih => exact fun m hm a b => key m a b fun i hi => ih i (by omega) (sh a) b
/-! ### rows -/
def fn (l : List Int) : F := fun i => l.getD i 0
def tr (n : Nat) (a : F) : List Int := (List.range n).map a
theorem tr_len (n : Nat) (a : F) : (tr n a).length = n := by simp [tr]
theorem fn_tr {n i : Nat} (a : F) (h : i < n) : fn (tr n a) i = a i := by
  simp [fn, tr, List.getD_eq_getElem?_getD, h]
theorem tr_congr {n : Nat} {a b : F} (h : ∀ i, i < n → a i = b i) : tr n a = tr n b := List.map_congr_left fun i hi => h i (by simpa using hi)
theorem tr_fn (l : List Int) : tr l.length (fn l) = l := by
  refine List.ext_getElem (tr_len _ _) fun i h1 h2 => ?_
  simp [tr, fn, h2]
theorem eq_tr {l : List Int} {n : Nat} {a : F} (hl : l.length = n) (h : ∀ i, i < n → fn l i = a i) : l = tr n a := by
  rw [← tr_fn l, hl]
  exact tr_congr h
theorem tr_succ (n : Nat) (a : F) : tr (n + 1) a = tr n a ++ [a n] := by simp [tr, List.range_succ]
def pl (a b : List Int) : List Int := tr a.length (cv (fn a) (fn b))
theorem pl_len (a b : List Int) : (pl a b).length = a.length := tr_len _ _
theorem fn_pl {a b : List Int} {i : Nat} (h : i < a.length) : fn (pl a b) i = cv (fn a) (fn b) i := fn_tr _ h
theorem pl_comm {a b : List Int} (h : a.length = b.length) : pl a b = pl b a := by
  unfold pl
  rw [h]
  exact tr_congr fun i _ => cv_comm i _ _
def unl (n : Nat) : List Int := tr n un
theorem unl_eq (n : Nat) : unl (n + 1) = 1 :: List.replicate n 0 := by
  symm
  refine eq_tr (by simp) fun i hi => ?_
  cases i with
  | zero => rfl
  | succ i =>
    show (List.replicate n (0 : Int)).getD i 0 = 0
    simp [List.getD_eq_getElem?_getD, List.getElem?_replicate]
    split <;> rfl
def ivl (l : List Int) : List Int := tr l.length (iv (fn l))
theorem ivl_len (l : List Int) : (ivl l).length = l.length := tr_len _ _
theorem ivL_tr (r : F) (n : Nat) : ivL r n = tr (n + 1) (iv r) := eq_tr (ivL_len r n) fun i hi => ivL_get r n i (by omega)
theorem ivl_ivl {l : List Int} (h : fn l 0 * fn l 0 = 1) : ivl (ivl l) = l := by
  show tr (ivl l).length _ = l
  rw [ivl_len]
  refine Eq.trans (tr_congr fun i hi => ?_) (tr_fn l)
  rw [iv_congr i (r := fn (ivl l)) (r' := iv (fn l)) (fun j hj => fn_tr _ (by omega)) i (Nat.le_refl _)]
  exact iv_iv _ h i
theorem pl_ivl {l : List Int} (h : fn l 0 * fn l 0 = 1) : pl (ivl l) l = unl l.length := by
  unfold pl unl
  rw [ivl_len]
  refine tr_congr fun i hi => ?_
  rw [cv_comm, cv_congr i (a' := fn l) (b := fn (ivl l)) (b' := iv (fn l)) (fun _ _ => rfl) (fun j hj => fn_tr _ (by omega))]
  exact cv_iv _ h i
/-! put -/
def stp (o : List Int) (x : Int) (f : List Int) : List Int := (fn (pl f o) 0 + x) :: (pl f o).tail
/-- by the last one first: of the reversed row -/
def hl (o : List Int) (n : Nat) : List Int → List Int
  | [] => tr n zr
  | x :: l => stp o x (hl o n l)
theorem stp_len {o f : List Int} {x : Int} {n : Nat} (hn : 0 < n) (h : f.length = n) : (stp o x f).length = n := by
  unfold stp
  rw [List.length_cons, List.length_tail, pl_len, h]; omega
theorem hl_len {o : List Int} {n : Nat} (hn : 0 < n) : ∀ l, (hl o n l).length = n
  | [] => tr_len _ _
  | x :: l => stp_len hn (hl_len hn l)
theorem fn_hl {o : List Int} {n : Nat} (hn : 0 < n) : ∀ (l : List Int) (i : Nat), i < n → fn (hl o n l) i = Hk (fn o) l.length (fn l) i
  | [], i, h => fn_tr _ h
  | x :: l, i, h => by
    have hlen : (hl o n l).length = n := hl_len hn l
    show fn (stp o x (hl o n l)) i = cv (Hk (fn o) l.length (fn l)) (fn o) i + x * un i
    have e : fn (stp o x (hl o n l)) i = cv (fn (hl o n l)) (fn o) i + x * un i := by
      cases i with
      | zero =>
        show fn (pl (hl o n l) o) 0 + x = _ + x * 1
        rw [fn_pl (by omega), Int.mul_one]
      | succ i =>
        show (pl (hl o n l) o).tail.getD i 0 = _ + x * 0
        rw [Int.mul_zero, Int.add_zero, ← fn_pl (by omega)]
        simp [fn, List.getD_eq_getElem?_getD]
    rw [e]
    congr 1
    exact cv_congr i (fun j hj => fn_hl hn l j (by omega)) (fun _ _ => rfl)
def adl (x : Int) (f p : List Int) : List Int := (f.zip p).map fun q => q.1 + x * q.2
theorem adl_len {x : Int} {f p : List Int} (h : f.length = p.length) : (adl x f p).length = f.length := by
  simp [adl, h]
theorem fn_adl {x : Int} {f p : List Int} (h : f.length = p.length) (i : Nat) : fn (adl x f p) i = ad (fn f) (sm x (fn p)) i := by
  show (adl x f p).getD i 0 = f.getD i 0 + x * p.getD i 0
  simp only [adl, List.getD_eq_getElem?_getD, List.getElem?_map]
  by_cases hi : i < f.length
  · have e : (f.zip p)[i]? = some (f[i], p[i]) := List.getElem?_eq_some_iff.mpr ⟨by simp; omega, by simp⟩
    rw [e, List.getElem?_eq_getElem hi, List.getElem?_eq_getElem (by omega)]
    rfl
  · rw [List.getElem?_eq_none (by simp; omega), List.getElem?_eq_none (by omega), List.getElem?_eq_none (by omega)]
    simp
def Sl (o : List Int) : List Int → List Int → List Int → List Int
  | [], f, _ => f
  | x :: l, f, p => Sl o l (adl x f p) (pl p o)
theorem Sp_congr (o : F) : ∀ (k : Nat) (a : F) {f f' p p' : F} (n : Nat), (∀ i, i ≤ n → f i = f' i) → (∀ i, i ≤ n → p i = p' i) → Sp o k a f p n = Sp o k a f' p' n
  | 0, a, _, _, _, _, n, hf, hp => hf n (Nat.le_refl _)
  | k + 1, a, f, f', p, p', n, hf, hp => Sp_congr o k (sh a) n (fun i hi => by
      show f i + a 0 * p i = f' i + a 0 * p' i
      rw [hf i hi, hp i hi]) (fun i hi => cv_congr i (fun j hj => hp j (by omega)) (fun _ _ => rfl))
theorem Sl_len (o : List Int) {n : Nat} : ∀ (l f p : List Int), f.length = n → p.length = n → (Sl o l f p).length = n
  | [], f, p, hf, _ => hf
  | x :: l, f, p, hf, hp => Sl_len o l _ _ (by rw [adl_len (hf.trans hp.symm), hf]) (by rw [pl_len, hp])
theorem fn_Sl (o : List Int) {n : Nat} : ∀ (l f p : List Int), f.length = n → p.length = n → ∀ i, i < n → fn (Sl o l f p) i = Sp (fn o) l.length (fn l) (fn f) (fn p) i
  | [], f, p, _, _, i, _ => rfl
  | x :: l, f, p, hf, hp, i, hi => by
    show fn (Sl o l (adl x f p) (pl p o)) i = Sp (fn o) l.length (fn l) (ad (fn f) (sm x (fn p))) (cv (fn p) (fn o)) i
    rw [fn_Sl o l _ _ (by rw [adl_len (hf.trans hp.symm), hf]) (by rw [pl_len, hp]) i hi]
    exact Sp_congr _ _ _ i (fun j _ => fn_adl (hf.trans hp.symm) j) (fun j hj => fn_pl (by omega))
theorem put_eq (o : List Int) {n : Nat} (hn : 0 < n) (l : List Int) : Sl o l (tr n zr) (unl n) = hl o n l := by
  rw [eq_tr (hl_len hn l) (fn_hl hn l)]
  refine eq_tr (Sl_len o l _ _ (tr_len _ _) (tr_len _ _)) fun i hi => ?_
  rw [fn_Sl o l (tr n zr) (unl n) (tr_len _ _) (tr_len _ _) i hi, Sp_congr _ _ _ i (f := fn (tr n zr)) (p := fn (unl n)) (f' := zr) (p' := un) (fun j hj => fn_tr _ (by omega)) (fun j hj => fn_tr _ (by omega))]
  exact Sp_put _ _ _ _
theorem put_products {a b o : List Int} {n : Nat} (hn : 0 < n) (ha : a.length = n) (hb : b.length = n) (h : fn o 0 = 0) : hl o n (pl a b) = pl (hl o n a) (hl o n b) := by
  refine Eq.trans (eq_tr (hl_len hn _) (fn_hl hn _)) (Eq.symm (eq_tr (by rw [pl_len, hl_len hn]) fun i hi => ?_))
  rw [fn_pl (by rw [hl_len hn]; exact hi), pl_len, ha, Hk_Pt' _ h _ hi]
  rw [cv_congr i (a' := Pt (fn o) (fn a)) (b' := Pt (fn o) (fn b)) (fun j hj => by rw [fn_hl hn _ _ (by omega), ha, Hk_Pt' _ h _ (by omega)]) (fun j hj => by rw [fn_hl hn _ _ (by omega), hb, Hk_Pt' _ h _ (by omega)])]
  rw [← Pt_cv _ h i i (Nat.le_refl _)]
  rw [← Hk_Pt' _ h (k := n) _ hi, ← Hk_Pt' _ h (k := n) _ hi]
  have key : ∀ (k : Nat) (a a' : F) (i : Nat), (∀ j, j < k → a j = a' j) → Hk (fn o) k a i = Hk (fn o) k a' i := by
    intro k
    induction k with
    | zero => intro a a' i _; rfl
    | succ k ih =>
      intro a a' i hj
      show cv (Hk (fn o) k (sh a)) (fn o) i + a 0 * un i = cv (Hk (fn o) k (sh a')) (fn o) i + a' 0 * un i
      rw [hj 0 (by omega), cv_congr i (fun q _ => ih (sh a) (sh a') q fun j h2 => hj (j + 1) (by omega)) (fun _ _ => rfl)]
  exact key n _ _ i fun j hj => (fn_pl (by omega)).symm
/-! ### bounds -/
def Bd (k : Nat) (l : List Int) : Prop := ∀ x ∈ l, x.natAbs ≤ 2 ^ k
theorem Bd.mono {k m : Nat} {l : List Int} (h : Bd k l) (hk : k ≤ m) : Bd m l := fun x hx => Nat.le_trans (h x hx) (Nat.pow_le_pow_right (by decide) hk)
theorem Bd.fn {k : Nat} {l : List Int} (h : Bd k l) (i : Nat) : (fn l i).natAbs ≤ 2 ^ k := by
  unfold SER.fn
  rw [List.getD_eq_getElem?_getD]
  cases e : l[i]? with
  | none => simp
  | some x => exact h x (List.mem_of_getElem? e)
theorem bd_tr {k n : Nat} {a : F} (h : ∀ i, i < n → (a i).natAbs ≤ 2 ^ k) : Bd k (tr n a) := fun x hx => by
  obtain ⟨i, hi, rfl⟩ := List.mem_map.mp hx
  exact h i (by simpa using hi)
theorem bd_cv {k m n : Nat} {a b : F} (hn : n < 16) (ha : ∀ i, i ≤ n → (a i).natAbs ≤ 2 ^ k) (hb : ∀ i, i ≤ n → (b i).natAbs ≤ 2 ^ m) : (cv a b n).natAbs ≤ 2 ^ (k + m + 4) := by
  refine Nat.le_trans (cv_le _ _ n a b ha hb) ?_
  rw [Nat.pow_add 2 (k + m) 4, Nat.pow_add 2 k m, Nat.mul_comm]
  exact Nat.mul_le_mul_left _ (by omega)
theorem bd_pl {k m : Nat} {a b : List Int} (ha : Bd k a) (hb : Bd m b) (hl : a.length ≤ 16) : Bd (k + m + 4) (pl a b) :=
  bd_tr fun i hi => bd_cv (by omega) (fun _ _ => ha.fn _) (fun _ _ => hb.fn _)
theorem bd_unl (n : Nat) : Bd 0 (unl n) := bd_tr fun i _ => by unfold un; split <;> decide
theorem bd_iv {k : Nat} {r : F} (h0 : r 0 * r 0 = 1) : ∀ (n : Nat), n < 16 → (∀ i, i ≤ n → (r i).natAbs ≤ 2 ^ k) → (iv r n).natAbs ≤ 2 ^ ((k + 4) * n)
  | 0, _, _ => by
    have : (r 0).natAbs * (r 0).natAbs = 1 := by rw [← Int.natAbs_mul, h0]; rfl
    rw [iv_z, Nat.mul_zero, Nat.pow_zero, Nat.eq_one_of_mul_eq_one_left this]
    exact Nat.le_refl _
  | n + 1, hn, hr => by
    have h1 : (r 0).natAbs * (r 0).natAbs = 1 := by rw [← Int.natAbs_mul, h0]; rfl
    rw [iv_s, Int.natAbs_mul, Int.natAbs_neg, Nat.eq_one_of_mul_eq_one_left h1, Nat.one_mul, show (k + 4) * (n + 1) = k + (k + 4) * n + 4 by rw [Nat.mul_succ]; omega]
    refine bd_cv (by omega) (fun i hi => hr (i + 1) (by omega)) (fun i hi => ?_)
    refine Nat.le_trans (bd_iv h0 i (by omega) fun j hj => hr j (by omega)) (Nat.pow_le_pow_right (by decide) (Nat.mul_le_mul_left _ hi))
theorem bd_ivl {k : Nat} {l : List Int} (h0 : fn l 0 * fn l 0 = 1) (h : Bd k l) (hl : l.length ≤ 16) : Bd ((k + 4) * 15) (ivl l) :=
  bd_tr fun i hi => Nat.le_trans (bd_iv h0 i (by omega) fun _ _ => h.fn _) (Nat.pow_le_pow_right (by decide) (Nat.mul_le_mul_left _ (by omega)))
theorem add_le {x y : Int} {k : Nat} (hx : x.natAbs ≤ 2 ^ k) (hy : y.natAbs ≤ 2 ^ k) : (x + y).natAbs ≤ 2 ^ (k + 1) := by
  have := Int.natAbs_add_le x y
  rw [Nat.pow_succ]; omega
theorem mul_le {x y : Int} {k m : Nat} (hx : x.natAbs ≤ 2 ^ k) (hy : y.natAbs ≤ 2 ^ m) : (x * y).natAbs ≤ 2 ^ (k + m) := by
  rw [Int.natAbs_mul, Nat.pow_add]
  exact Nat.mul_le_mul hx hy
theorem bd_adl {x : Int} {f p : List Int} {j k m : Nat} (hx : x.natAbs ≤ 2 ^ m) (hf : Bd j f) (hp : Bd k p) (h : m + k ≤ j) : Bd (j + 1) (adl x f p) := fun y hy => by
  obtain ⟨q, hq, rfl⟩ := List.mem_map.mp hy
  have hq := List.of_mem_zip hq
  exact add_le (hf _ hq.1) (Nat.le_trans (mul_le hx (hp _ hq.2)) (Nat.pow_le_pow_right (by decide) h))
theorem bd_stp {x : Int} {f o : List Int} {j k m : Nat} (hx : x.natAbs ≤ 2 ^ m) (hf : Bd j f) (ho : Bd k o) (h : m ≤ j) (hl : f.length ≤ 16) : Bd (j + k + 5) (stp o x f) := fun y hy => by
  have hp := bd_pl hf ho hl
  rcases List.mem_cons.mp hy with rfl | hy
  · exact add_le (hp.fn 0) (Nat.le_trans hx (Nat.pow_le_pow_right (by decide) (by omega)))
  · exact (hp.mono (by omega)) y (List.mem_of_mem_tail hy)
theorem bd_hl {o : List Int} {n k m : Nat} (hn : 0 < n) (hn' : n ≤ 16) (ho : Bd k o) : ∀ (l : List Int), Bd m l → Bd (m + (k + 5) * l.length) (hl o n l)
  | [], _ => bd_tr fun i _ => by show 0 ≤ _; exact Nat.zero_le _
  | x :: l, h => by
    have := bd_stp (o := o) (f := hl o n l) (j := m + (k + 5) * l.length) (h x (by simp)) (bd_hl hn hn' ho l fun y hy => h y (by simp [hy])) ho (by omega) (by rw [hl_len hn]; exact hn')
    refine this.mono ?_
    rw [List.length_cons, Nat.mul_succ]; omega
/-- powers -/
def pw (l : List Int) : Nat → List Int
  | 0 => unl l.length
  | t + 1 => pl (pw l t) l
theorem pw_len (l : List Int) : ∀ t, (pw l t).length = l.length
  | 0 => tr_len _ _
  | t + 1 => by rw [pw, pl_len, pw_len l t]
theorem bd_pw {l : List Int} {k : Nat} (h : Bd k l) (hl : l.length ≤ 16) : ∀ t, Bd ((k + 4) * t) (pw l t)
  | 0 => bd_unl _
  | t + 1 => by
    refine (bd_pl (bd_pw h hl t) h (by rw [pw_len]; exact hl)).mono ?_
    rw [Nat.mul_succ]; omega
end SER

set_option linter.all false
set_option autoImplicit false
/-! Series put into one another: they can be turned about; what Lagrange tells of it. -/
namespace SER
def x1 : F := fun n => if n = 1 then 1 else 0
def xm (a : F) : F := fun n => match n with
  | 0 => 0
  | n + 1 => a n
theorem cv_x1 (a : F) (n : Nat) : cv a x1 (n + 1) = a n := by
  rw [cv_low x1 rfl, show sh x1 = un from by funext i; simp [sh, x1, un], cv_unr]
theorem cv_xm (a b : F) (n : Nat) : cv a (xm b) (n + 1) = cv a b n := cv_low (xm b) rfl a n
theorem low_congr {o : F} (h : o 0 = 0) {a b : F} {n : Nat} (e : ∀ i, i < n → a i = b i) : cv a o n = cv b o n := by
  cases n with
  | zero => rw [cv_z, cv_z, h, Int.mul_zero, Int.mul_zero]
  | succ n => rw [cv_low o h, cv_low o h]; exact cv_congr n (fun i hi => e i (by omega)) fun _ _ => rfl
theorem Pt_z {o : F} (h : o 0 = 0) (a : F) : Pt o a 0 = a 0 := by
  rw [Pt_rec o h, cv_z, h]
  show _ * 0 + a 0 * 1 = a 0
  omega
theorem Pt_ad (o a b : F) (n : Nat) : Pt o (ad a b) n = Pt o a n + Pt o b n := Hk_ad o _ a b n
theorem Pt_sm (o : F) (x : Int) (a : F) (n : Nat) : Pt o (sm x a) n = x * Pt o a n := Hk_sm o _ x a n
theorem Pt_zr (o : F) : ∀ (k n : Nat), Hk o k zr n = 0
  | 0, n => rfl
  | k + 1, n => by
    show cv (Hk o k zr) o n + 0 * un n = 0
    rw [cv_congr n (a' := zr) (b' := o) (fun i _ => Pt_zr o k i) (fun _ _ => rfl), cv_zl]; omega
theorem Pt_un {o : F} (h : o 0 = 0) (n : Nat) : Pt o un n = un n := by
  rw [Pt_rec o h, show sh un = zr from rfl, cv_congr n (a := Pt o zr) (a' := zr) (b' := o) (fun i _ => Pt_zr o _ i) (fun _ _ => rfl), cv_zl]
  show 0 + 1 * _ = _
  omega
theorem Pt_xm {o : F} (h : o 0 = 0) (a : F) (n : Nat) : Pt o (xm a) n = cv (Pt o a) o n := by
  rw [Pt_rec o h]
  show cv (Pt o a) o n + 0 * un n = _
  omega
theorem Pt_x1 {o : F} (h : o 0 = 0) (n : Nat) : Pt o x1 n = o n := by
  rw [Pt_rec o h, show sh x1 = un from by funext i; simp [sh, x1, un], cv_congr n (a' := un) (b' := o) (fun i _ => Pt_un h i) (fun _ _ => rfl), cv_unl]
  show _ + 0 * _ = _
  omega
theorem Pt_id : ∀ (n : Nat) (a : F), Pt x1 a n = a n
  | 0, a => Pt_z rfl a
  | n + 1, a => by
    rw [Pt_rec x1 rfl, cv_x1, Pt_id n (sh a)]
    show a (n + 1) + a 0 * 0 = _
    omega
theorem Pt_mul {o : F} (h : o 0 = 0) (a b : F) (n : Nat) : Pt o (cv a b) n = cv (Pt o a) (Pt o b) n := Pt_cv o h n n (Nat.le_refl _) a b
theorem Hk_congr_o : ∀ (k n : Nat) {o o' : F} (a : F), (∀ i, i ≤ n → o i = o' i) → Hk o k a n = Hk o' k a n
  | 0, n, _, _, a, _ => rfl
  | k + 1, n, o, o', a, h => by
    show cv (Hk o k (sh a)) o n + a 0 * un n = cv (Hk o' k (sh a)) o' n + a 0 * un n
    rw [cv_congr n (fun i hi => Hk_congr_o k i (sh a) fun j hj => h j (by omega)) h]
theorem Pt_congr_o {n : Nat} {o o' : F} (a : F) (h : ∀ i, i ≤ n → o i = o' i) : Pt o a n = Pt o' a n := Hk_congr_o _ _ a h
theorem Hk_congr_a (o : F) : ∀ (k n : Nat) {a b : F}, (∀ i, i < k → a i = b i) → Hk o k a n = Hk o k b n
  | 0, _, _, _, _ => rfl
  | k + 1, n, a, b, h => by
    show cv (Hk o k (sh a)) o n + a 0 * un n = cv (Hk o k (sh b)) o n + b 0 * un n
    rw [h 0 (by omega), cv_congr n (a := Hk o k (sh a)) (a' := Hk o k (sh b)) (b := o) (fun i _ => Hk_congr_a o k i fun j hj => h (j + 1) (by omega)) (fun _ _ => rfl)]
theorem Pt_congr_a (o : F) {n : Nat} {a b : F} (h : ∀ i, i ≤ n → a i = b i) : Pt o a n = Pt o b n := Hk_congr_a o _ _ fun i hi => h i (by omega)
/-- put into what is put in -/
theorem Pt_assoc {o p : F} (ho : o 0 = 0) (hp : p 0 = 0) : ∀ (n m : Nat), m ≤ n → ∀ a : F, Pt o (Pt p a) m = Pt (Pt o p) a m := by
  have hq : Pt o p 0 = 0 := by rw [Pt_z ho, hp]
  have key : ∀ (m : Nat) (a : F), (∀ i, i < m → Pt o (Pt p (sh a)) i = Pt (Pt o p) (sh a) i) → Pt o (Pt p a) m = Pt (Pt o p) a m := by
    intro m a ih
    have e1 : Pt o (Pt p a) m = cv (Pt o (Pt p (sh a))) (Pt o p) m + a 0 * un m := by
      rw [Pt_congr_a o (b := ad (cv (Pt p (sh a)) p) (sm (a 0) un)) (fun i _ => Pt_rec p hp a i), Pt_ad, Pt_sm, Pt_un ho, Pt_mul ho]
    rw [e1, Pt_rec _ hq a m]
    congr 1
    exact low_congr hq fun i hi => ih i hi
  intro n
  induction n with
  | zero => exact fun m hm a => key m a fun i hi => by omega
  | succ n ih => exact fun m hm a => key m a fun i hi => ih i (by omega) (sh a)
theorem Pt_ass {o p : F} (ho : o 0 = 0) (hp : p 0 = 0) (n : Nat) (a : F) : Pt o (Pt p a) n = Pt (Pt o p) a n := Pt_assoc ho hp n n (Nat.le_refl _) a
/-- the last one counts once -/
theorem Pt_last {o o' : F} (h : o 0 = 0) (h' : o' 0 = 0) {n : Nat} (e : ∀ i, i ≤ n → o i = o' i) (a : F) : Pt o a (n + 1) = Pt o' a (n + 1) + a 1 * (o (n + 1) - o' (n + 1)) := by
  rw [Pt_rec o h, Pt_rec o' h', cv_s, cv_s, Pt_z h, Pt_z h']
  have e2 : cv (sh (Pt o (sh a))) o n = cv (sh (Pt o' (sh a))) o' n := by
    cases n with
    | zero => rw [cv_z, cv_z, h, h', Int.mul_zero, Int.mul_zero]
    | succ n =>
      rw [cv_low o h, cv_low o' h']
      exact cv_congr n (fun i hi => Pt_congr_o _ fun j hj => e j (by omega)) (fun i hi => e (i + 1) (by omega))
  rw [e2]
  show a 1 * o (n + 1) + _ + _ = a 1 * o' (n + 1) + _ + _ + a 1 * (o (n + 1) - o' (n + 1))
  rw [Int.mul_sub]
  omega
/-! ### turned about -/
def tgL (f : F) : Nat → List Int
  | 0 => [0]
  | n + 1 => tgL f n ++ [(un n - Pt (fn (tgL f n)) f (n + 1)) * f 1]
theorem tgL_len (f : F) : ∀ n, (tgL f n).length = n + 1
  | 0 => rfl
  | n + 1 => by rw [tgL, List.length_append, tgL_len f n]; rfl
def tg (f : F) (n : Nat) : Int := fn (tgL f n) n
theorem tgL_get (f : F) : ∀ n i, i ≤ n → fn (tgL f n) i = tg f i
  | 0, i, h => by
    have : i = 0 := by omega
    subst this; rfl
  | n + 1, i, h => by
    by_cases e : i = n + 1
    · subst e; rfl
    · rw [tgL, ← tgL_get f n i (by omega)]
      simp only [fn, List.getD_eq_getElem?_getD]
      rw [List.getElem?_append_left (by rw [tgL_len]; omega)]
theorem tgL_over (f : F) {n i : Nat} (h : n < i) : fn (tgL f n) i = 0 := by
  simp only [fn, List.getD_eq_getElem?_getD]
  rw [List.getElem?_eq_none (by rw [tgL_len]; omega)]; rfl
theorem tgL_tr (f : F) (n : Nat) : tgL f n = tr (n + 1) (tg f) := eq_tr (tgL_len f n) fun i hi => tgL_get f n i (by omega)
theorem tg_z (f : F) : tg f 0 = 0 := rfl
theorem tg_s (f : F) (n : Nat) : tg f (n + 1) = (un n - Pt (fn (tgL f n)) f (n + 1)) * f 1 := by
  show fn (tgL f (n + 1)) (n + 1) = _
  simp only [tgL, fn, List.getD_eq_getElem?_getD]
  rw [List.getElem?_append_right (by rw [tgL_len]; omega), tgL_len, Nat.sub_self]; rfl
theorem tg_one (f : F) : tg f 1 = f 1 := by
  rw [tg_s, Pt_rec (fn (tgL f 0)) rfl, cv_s, cv_z]
  show (1 - (_ * fn [0] 1 + _ * fn [0] 0 + _ * 0)) * _ = _
  rw [show fn [0] 1 = 0 from rfl, show fn [0] 0 = 0 from rfl]
  simp
theorem tg_right {f : F} (h0 : f 0 = 0) (h1 : f 1 * f 1 = 1) (n : Nat) : Pt (tg f) f n = x1 n := by
  cases n with
  | zero => rw [Pt_z (tg_z f), h0]; rfl
  | succ n =>
    rw [Pt_last (o' := fn (tgL f n)) (tg_z f) (tgL_get f n 0 (Nat.zero_le _)) (fun i hi => (tgL_get f n i hi).symm), tgL_over f (Nat.lt_succ_self n), tg_s]
    generalize Pt (fn (tgL f n)) f (n + 1) = q
    rw [Int.sub_zero, ← Int.mul_assoc, Int.mul_comm (f 1), Int.mul_assoc, h1, Int.mul_one]
    show q + (un n - q) = x1 (n + 1)
    have : x1 (n + 1) = un n := by simp [x1, un]
    omega
theorem tg_tg {f : F} (h0 : f 0 = 0) (h1 : f 1 * f 1 = 1) (n : Nat) : tg (tg f) n = f n := by
  have g0 := tg_z f
  have g1 : tg f 1 * tg f 1 = 1 := by rw [tg_one, h1]
  have h2 := tg_right g0 g1
  rw [← Pt_x1 (tg_z (tg f)) n, ← Pt_congr_a (tg (tg f)) (a := Pt (tg f) f) (fun i _ => tg_right h0 h1 i), Pt_ass (tg_z _) g0, Pt_congr_o f (o' := x1) (fun i _ => h2 i), Pt_id]
theorem tg_left {f : F} (h0 : f 0 = 0) (h1 : f 1 * f 1 = 1) (n : Nat) : Pt f (tg f) n = x1 n := by
  rw [Pt_congr_o (o' := tg (tg f)) _ (fun i _ => (tg_tg h0 h1 i).symm)]
  exact tg_right (tg_z f) (by rw [tg_one, h1]) n
theorem tgL_congr : ∀ (n : Nat) {f f' : F}, (∀ i, i ≤ n + 1 → f i = f' i) → tgL f n = tgL f' n
  | 0, _, _, _ => rfl
  | n + 1, f, f', h => by
    rw [tgL, tgL, tgL_congr n fun i hi => h i (by omega), h 1 (by omega), Pt_congr_a _ (n := n + 1) fun i hi => h i (by omega)]
theorem tg_congr {n : Nat} {f f' : F} (h1 : f 1 = f' 1) (h : ∀ i, i ≤ n → f i = f' i) : tg f n = tg f' n := by
  cases n with
  | zero => rfl
  | succ n =>
    rw [tg_s, tg_s, h1, tgL_congr n h, Pt_congr_a _ h]
/-! ### what Lagrange tells -/
def th (a : F) : F := fun n => n * a n
def dv (a : F) : F := fun n => (n + 1) * a (n + 1)
theorem th_cv : ∀ (n : Nat) (a b : F), (n : Int) * cv a b n = cv (th a) b n + cv a (th b) n
  | 0, a, b => by
    rw [cv_z, cv_z, cv_z]
    show (0 : Int) * _ = (0 * a 0) * b 0 + a 0 * (0 * b 0)
    simp
  | n + 1, a, b => by
    have e1 : sh (th a) = ad (th (sh a)) (sh a) := by
      funext i
      show ((i + 1 : Nat) : Int) * a (i + 1) = (i : Int) * a (i + 1) + a (i + 1)
      rw [Int.natCast_succ, Int.add_mul, Int.one_mul]
    rw [cv_s, cv_s, cv_s, e1, cv_adl, Int.mul_add]
    have ih := th_cv n (sh a) b
    have e2 : (((n + 1 : Nat) : Int)) * cv (sh a) b n = (n : Int) * cv (sh a) b n + cv (sh a) b n := by rw [Int.natCast_succ, Int.add_mul, Int.one_mul]
    have e3 : th a 0 = 0 := Int.zero_mul _
    have e4 : a 0 * th b (n + 1) = ((n + 1 : Nat) : Int) * (a 0 * b (n + 1)) := Int.mul_left_comm _ _ _
    rw [e2, e3, e4, ih]
    omega
theorem dv_rec (a : F) : dv a = ad (sh a) (xm (dv (sh a))) := by
  funext n
  cases n with
  | zero =>
    show ((0 : Nat) + 1 : Int) * a 1 = a 1 + 0
    simp
  | succ n =>
    show ((n + 1 : Nat) + 1 : Int) * a (n + 2) = a (n + 2) + ((n : Int) + 1) * a (n + 2)
    rw [Int.natCast_succ, Int.add_mul ((n : Int) + 1), Int.one_mul]; omega
/-- the chain rule -/
theorem chain {o : F} (h : o 0 = 0) : ∀ (n m : Nat), m ≤ n → ∀ a : F, (m : Int) * Pt o a m = cv (Pt o (dv a)) (th o) m := by
  have key : ∀ (m : Nat) (a : F), (∀ i, i < m → (i : Int) * Pt o (sh a) i = cv (Pt o (dv (sh a))) (th o) i) → (m : Int) * Pt o a m = cv (Pt o (dv a)) (th o) m := by
    intro m a ih
    have e1 : (m : Int) * Pt o a m = cv (th (Pt o (sh a))) o m + cv (Pt o (sh a)) (th o) m := by
      rw [Pt_rec o h, Int.mul_add, th_cv]
      have : (m : Int) * (a 0 * un m) = 0 := by
        cases m with
        | zero => exact Int.zero_mul _
        | succ m => show _ * (a 0 * 0) = _; simp
      omega
    have e2 : cv (Pt o (dv a)) (th o) m = cv (Pt o (sh a)) (th o) m + cv (cv (Pt o (dv (sh a))) o) (th o) m := by
      rw [cv_congr m (a' := ad (Pt o (sh a)) (cv (Pt o (dv (sh a))) o)) (b' := th o) (fun i _ => by
        rw [dv_rec a, Pt_ad, Pt_xm h]; rfl) (fun _ _ => rfl), cv_adl]
    have e3 : cv (cv (Pt o (dv (sh a))) o) (th o) m = cv (cv (Pt o (dv (sh a))) (th o)) o m := by
      rw [cv_assoc, cv_assoc, cv_congr m (a' := Pt o (dv (sh a))) (b' := cv (th o) o) (fun _ _ => rfl) (fun i _ => cv_comm i o (th o))]
    rw [e1, e2, e3, low_congr h (a := th (Pt o (sh a))) (b := cv (Pt o (dv (sh a))) (th o)) fun i hi => ih i hi]
    omega
  intro n
  induction n with
  | zero => exact fun m hm a => key m a fun i hi => by omega
  | succ n ih => exact fun m hm a => key m a fun i hi => ih i (by omega) (sh a)
def pwF (w : F) : Nat → F
  | 0 => un
  | n + 1 => cv (pwF w n) w
theorem th_un (n : Nat) : th un n = 0 := by
  cases n with
  | zero => exact Int.zero_mul _
  | succ n => exact Int.mul_zero _
/-- the powers' own rule -/
theorem th_pw (w : F) : ∀ (k n : Nat), th (pwF w (k + 1)) n = ((k : Int) + 1) * cv (pwF w k) (th w) n
  | 0, n => by
    show (n : Int) * cv un w n = (((0 : Nat) : Int) + 1) * cv un (th w) n
    rw [cv_unl, cv_unl]
    show _ = ((0 : Nat) + 1 : Int) * (n * w n)
    simp
  | k + 1, n => by
    show (n : Int) * cv (pwF w (k + 1)) w n = _
    rw [th_cv, cv_congr n (a := th (pwF w (k + 1))) (a' := sm ((k : Int) + 1) (cv (pwF w k) (th w))) (b' := w) (fun i _ => th_pw w k i) (fun _ _ => rfl), cv_sml]
    have e : cv (cv (pwF w k) (th w)) w n = cv (pwF w (k + 1)) (th w) n := by
      show _ = cv (cv (pwF w k) w) (th w) n
      rw [cv_assoc, cv_assoc, cv_congr n (a' := pwF w k) (b' := cv w (th w)) (fun _ _ => rfl) (fun i _ => cv_comm i _ _)]
    rw [e, show (((k + 1 : Nat) : Int) + 1) = ((k : Int) + 1) + 1 by omega, Int.add_mul (_ + 1), Int.one_mul]
/-- what the powers leave at their own place -/
theorem rest_pw {w u : F} (h : ∀ n, cv w u n = un n) : ∀ m, cv (pwF w (m + 1)) (ad u (th u)) m = un m := by
  have hw : ∀ n, cv (th w) u n + cv w (th u) n = 0 := fun n => by
    rw [← th_cv, h]; exact th_un n
  intro m
  have e1 : ∀ n, cv (pwF w (m + 1)) u n = pwF w m n := fun n => by
    show cv (cv (pwF w m) w) u n = _
    rw [cv_assoc, cv_congr n (a' := pwF w m) (b' := un) (fun _ _ => rfl) (fun i _ => h i), cv_unr]
  rw [cv_adr, e1]
  cases m with
  | zero =>
    show (1 : Int) + cv (cv un w) (th u) 0 = 1
    rw [cv_z]
    show (1 : Int) + _ * (0 * u 0) = 1
    simp
  | succ m =>
    -- w^(m+2) th u = - w^m th w
    have e2 : cv (pwF w (m + 2)) (th u) (m + 1) = - cv (pwF w m) (th w) (m + 1) := by
      have q1 : cv (pwF w (m + 2)) (th u) (m + 1) = cv (pwF w (m + 1)) (cv w (th u)) (m + 1) := cv_assoc _ _ _ _
      have q2 : cv (pwF w (m + 1)) (cv w (th u)) (m + 1) = cv (pwF w (m + 1)) (sm (-1) (cv u (th w))) (m + 1) := cv_congr _ (fun _ _ => rfl) fun i _ => by
        have := hw i
        rw [cv_comm i (th w) u] at this
        show _ = -1 * _
        omega
      have q3 : cv (pwF w (m + 1)) (cv u (th w)) (m + 1) = cv (pwF w m) (th w) (m + 1) := by
        rw [← cv_assoc]
        exact cv_congr _ (fun i _ => by
          show cv (cv (pwF w m) w) u i = _
          rw [cv_assoc, cv_congr i (a' := pwF w m) (b' := un) (fun _ _ => rfl) (fun i _ => h i), cv_unr]) fun _ _ => rfl
      rw [q1, q2, cv_smr, q3]; omega
    rw [e2]
    have e3 : ((m : Int) + 1) * (pwF w (m + 1) (m + 1) + - cv (pwF w m) (th w) (m + 1)) = 0 := by
      have := th_pw w m (m + 1)
      have t : th (pwF w (m + 1)) (m + 1) = ((m : Int) + 1) * pwF w (m + 1) (m + 1) := rfl
      rw [Int.mul_add, Int.mul_neg, ← this, t]; omega
    rcases Int.mul_eq_zero.mp e3 with z | z
    · omega
    · exact z
theorem f_xm {f : F} (h0 : f 0 = 0) : f = xm (sh f) := by
  funext n
  cases n with
  | zero => exact h0
  | succ n => rfl
theorem th_xm (u : F) : th (xm u) = xm (ad u (th u)) := by
  funext n
  cases n with
  | zero => exact Int.zero_mul _
  | succ n =>
    show ((n + 1 : Nat) : Int) * u n = u n + (n : Int) * u n
    rw [Int.natCast_succ, Int.add_mul, Int.one_mul]; omega
/-- place by place -/
theorem lag_L {f w : F} (h0 : f 0 = 0) (h : ∀ n, cv w (sh f) n = un n) : ∀ (n : Nat) (a : F), cv (cv (Pt f a) (th f)) (pwF w (n + 1)) (n + 1) = a n := by
  have tf : th f = xm (ad (sh f) (th (sh f))) := by rw [← th_xm, ← f_xm h0]
  have t0 : th f 0 = 0 := Int.zero_mul _
  -- one step
  have step : ∀ (n : Nat) (a : F), cv (cv (Pt f a) (th f)) (pwF w (n + 1)) (n + 1) = cv (cv (Pt f (sh a)) (th f)) (pwF w n) n + a 0 * un n := by
    intro n a
    have p1 : cv (cv (Pt f a) (th f)) (pwF w (n + 1)) (n + 1) = cv (cv (cv (Pt f (sh a)) f) (th f)) (pwF w (n + 1)) (n + 1) + a 0 * cv (th f) (pwF w (n + 1)) (n + 1) := by
      rw [← cv_sml, ← cv_adl]
      refine cv_congr _ (fun i _ => ?_) fun _ _ => rfl
      show cv (Pt f a) (th f) i = cv (cv (Pt f (sh a)) f) (th f) i + a 0 * th f i
      rw [cv_congr i (a' := ad (cv (Pt f (sh a)) f) (sm (a 0) un)) (b' := th f) (fun j _ => Pt_rec f h0 a j) (fun _ _ => rfl), cv_adl, cv_sml, cv_unl]
    have p2 : cv (th f) (pwF w (n + 1)) (n + 1) = un n := by
      rw [cv_comm, tf, cv_xm, rest_pw h]
    have p3 : cv (cv (cv (Pt f (sh a)) f) (th f)) (pwF w (n + 1)) (n + 1) = cv (cv (Pt f (sh a)) (th f)) (pwF w n) n := by
      have q1 : ∀ i, cv (cv (cv (Pt f (sh a)) f) (th f)) (pwF w (n + 1)) i = cv (cv (cv (Pt f (sh a)) (th f)) (pwF w (n + 1))) f i := fun i => by
        rw [cv_congr i (a' := cv (cv (Pt f (sh a)) (th f)) f) (b' := pwF w (n + 1)) (fun j _ => by
          rw [cv_assoc, cv_assoc, cv_congr j (a' := Pt f (sh a)) (b' := cv (th f) f) (fun _ _ => rfl) (fun k _ => cv_comm k _ _)]) (fun _ _ => rfl), cv_assoc i (cv (Pt f (sh a)) (th f)) f, cv_assoc i (cv (Pt f (sh a)) (th f)) (pwF w (n + 1)) f, cv_congr i (a' := cv (Pt f (sh a)) (th f)) (b' := cv (pwF w (n + 1)) f) (fun _ _ => rfl) (fun k _ => cv_comm k _ _)]
      rw [q1]
      have q2 : cv (cv (cv (Pt f (sh a)) (th f)) (pwF w (n + 1))) f (n + 1) = cv (cv (cv (Pt f (sh a)) (th f)) (pwF w (n + 1))) (sh f) n := cv_low f h0 _ n
      rw [q2, cv_assoc]
      refine cv_congr n (fun _ _ => rfl) fun i _ => ?_
      show cv (cv (pwF w n) w) (sh f) i = _
      rw [cv_assoc, cv_congr i (a' := pwF w n) (b' := un) (fun _ _ => rfl) (fun k _ => h k), cv_unr]
    rw [p1, p2, p3]
  intro n
  induction n with
  | zero =>
    intro a
    rw [step, cv_z, cv_z, t0, Int.mul_zero, Int.zero_mul]
    show 0 + a 0 * 1 = a 0
    omega
  | succ n ih =>
    intro a
    rw [step, ih (sh a)]
    show a (n + 1) + a 0 * 0 = _
    omega
/-- what Lagrange tells: n times what is told at n is what the power n of the other one has at n - 1 -/
theorem lagrange {f w : F} (h0 : f 0 = 0) (h1 : f 1 * f 1 = 1) (h : ∀ n, cv w (sh f) n = un n) (n : Nat) : ((n : Int) + 1) * tg f (n + 1) = pwF w (n + 1) n := by
  have e1 := lag_L h0 h n (dv (tg f))
  have e2 : ∀ i, cv (Pt f (dv (tg f))) (th f) i = x1 i := fun i => by
    rw [← chain h0 i i (Nat.le_refl _), tg_left h0 h1]
    unfold x1
    by_cases q : i = 1
    · subst q; rfl
    · rw [if_neg q, Int.mul_zero]
  rw [cv_congr (n + 1) (a' := x1) (b' := pwF w (n + 1)) (fun i _ => e2 i) (fun _ _ => rfl), cv_comm, cv_x1] at e1
  exact e1.symm
end SER

set_option linter.all false
set_option autoImplicit false
/-! Series turned about, roots: rows. -/
namespace SER
theorem fn_snoc0 (g : List Int) : fn (g ++ [0]) = fn g := by
  funext i
  simp only [fn, List.getD_eq_getElem?_getD]
  by_cases h : i < g.length
  · rw [List.getElem?_append_left h]
  · rw [List.getElem?_append_right (by omega), List.getElem?_eq_none (show g.length ≤ i by omega)]
    cases e : i - g.length with
    | zero => rfl
    | succ k => rfl
theorem fn_take {l : List Int} {n i : Nat} (h : i < n) : fn (l.take n) i = fn l i := by
  simp only [fn, List.getD_eq_getElem?_getD]
  rw [List.getElem?_take_of_lt h]
theorem fn_tail (l : List Int) : fn l.tail = sh (fn l) := by
  funext i
  cases l with
  | nil => rfl
  | cons a l => rfl
theorem put_at {row g : List Int} {n : Nat} (hn : n < row.length) : fn (hl (g ++ [0]) (n + 1) (row.take (n + 1))) n = Pt (fn g) (fn row) n := by
  have hl' : (row.take (n + 1)).length = n + 1 := by simp; omega
  rw [fn_hl (Nat.succ_pos n) _ n (Nat.lt_succ_self n), hl', fn_snoc0]
  show Pt (fn g) (fn (row.take (n + 1))) n = _
  exact Pt_congr_a _ fun i hi => fn_take (by omega)
def tgl (l : List Int) : List Int := tr l.length (tg (fn l))
theorem tgl_len (l : List Int) : (tgl l).length = l.length := tr_len _ _
theorem fn_tgl {l : List Int} {i : Nat} (h : i < l.length) : fn (tgl l) i = tg (fn l) i := fn_tr _ h
theorem tgl_eq {l : List Int} {n : Nat} (h : l.length = n + 1) : tgl l = tgL (fn l) n := by rw [tgL_tr, tgl, h]
theorem tgl_tgl {l : List Int} (h2 : 2 ≤ l.length) (h0 : fn l 0 = 0) (h1 : fn l 1 * fn l 1 = 1) : tgl (tgl l) = l := by
  unfold tgl
  rw [tr_len]
  refine Eq.trans (tr_congr fun i hi => ?_) (tr_fn l)
  rw [tg_congr (f := fn (tr l.length (tg (fn l)))) (f' := tg (fn l)) (fn_tr _ (by omega)) fun j hj => fn_tr _ (by omega)]
  exact tg_tg h0 h1 i
theorem letter1 {l : List Int} {n : Nat} (hn : l.length = n) (h2 : 2 ≤ n) (h0 : fn l 0 = 0) (h1 : fn l 1 * fn l 1 = 1) : hl (tgl l) n l = tr n x1 := by
  refine eq_tr (hl_len (by omega) l) fun i hi => ?_
  rw [fn_hl (by omega) l i hi, hn, Hk_Pt' _ (fn_tgl (by omega)) _ hi, Pt_congr_o (o' := tg (fn l)) _ (fun j hj => fn_tgl (by omega))]
  exact tg_right h0 h1 i
theorem letter2 {l : List Int} {n : Nat} (hn : l.length = n) (h2 : 2 ≤ n) (h0 : fn l 0 = 0) (h1 : fn l 1 * fn l 1 = 1) : hl l n (tgl l) = tr n x1 := by
  refine eq_tr (hl_len (by omega) _) fun i hi => ?_
  rw [fn_hl (by omega) _ i hi, tgl_len, hn, Hk_Pt' _ h0 _ hi, Pt_congr_a _ (b := tg (fn l)) (fun j hj => fn_tgl (by omega))]
  exact tg_left h0 h1 i
theorem tr_x1 (n : Nat) : tr (n + 2) x1 = 0 :: 1 :: List.replicate n 0 := by
  symm
  refine eq_tr (by simp) fun i hi => ?_
  match i with
  | 0 => rfl
  | 1 => rfl
  | i + 2 =>
    show (List.replicate n (0 : Int)).getD i 0 = 0
    simp [List.getD_eq_getElem?_getD, List.getElem?_replicate]
    split <;> rfl
theorem pw_one (b : List Int) : pw b 1 = b := by
  show pl (unl b.length) b = b
  unfold pl unl
  rw [tr_len]
  refine Eq.trans (tr_congr fun i hi => ?_) (tr_fn b)
  rw [cv_congr i (a := fn (tr b.length un)) (a' := un) (b := fn b) (b' := fn b) (fun j hj => fn_tr _ (by omega)) (fun _ _ => rfl), cv_unl]
theorem fn_pw {b : List Int} {w : F} (h : ∀ i, i < b.length → fn b i = w i) : ∀ (t i : Nat), i < b.length → fn (pw b t) i = pwF w t i
  | 0, i, hi => fn_tr _ hi
  | t + 1, i, hi => by
    rw [pw, fn_pl (by rw [pw_len]; exact hi)]
    exact cv_congr i (fun j hj => fn_pw h t j (by omega)) fun j hj => h j (by omega)
theorem lag_list {l : List Int} (h0 : fn l 0 = 0) (h1 : fn l 1 * fn l 1 = 1) {n : Nat} (hn : n + 1 < l.length) : fn (pw (ivl l.tail) (n + 1)) n = ((n : Int) + 1) * tg (fn l) (n + 1) := by
  have hlen : (ivl l.tail).length = l.length - 1 := by rw [ivl_len, List.length_tail]
  rw [fn_pw (w := iv (sh (fn l))) (fun i hi => by
    rw [hlen] at hi
    show fn (ivl l.tail) i = _
    unfold ivl
    rw [fn_tr _ (by rw [List.length_tail]; exact hi), fn_tail]) _ _ (by rw [hlen]; omega)]
  refine (lagrange h0 h1 (fun i => ?_) n).symm
  rw [cv_comm]
  exact cv_iv _ h1 i
theorem bd_tgl {l : List Int} {k : Nat} (h : Bd k l) (hl : l.length ≤ 16) (h0 : fn l 0 = 0) (h1 : fn l 1 * fn l 1 = 1) : Bd (((k + 4) * 15 + 4) * 16) (tgl l) :=
  bd_tr fun i hi => by
    cases i with
    | zero => rw [tg_z]; exact Nat.zero_le _
    | succ n =>
      have e := lag_list h0 h1 hi
      have ht : Bd k l.tail := fun x hx => h x (List.mem_of_mem_tail hx)
      have hb : Bd ((k + 4) * 15) (ivl l.tail) := bd_ivl (by rw [fn_tail]; exact h1) ht (by rw [List.length_tail]; omega)
      have hp := (bd_pw hb (by rw [ivl_len, List.length_tail]; omega) (n + 1)).fn n
      rw [e, Int.natAbs_mul] at hp
      refine Nat.le_trans (Nat.le_trans ?_ hp) (Nat.pow_le_pow_right (by decide) (Nat.mul_le_mul_left _ (by omega)))
      exact Nat.le_mul_of_pos_left _ (by omega)
/-! ### roots -/
def rsum (g : List Int) (n : Nat) : Int := ((List.range n).map fun j => fn g (j + 1) * fn g (n - j)).sum
def rtL (f : F) : Nat → Option (List Int)
  | 0 => some [1]
  | n + 1 => (rtL f n).bind fun g => if (f (n + 1) - rsum g n) % 2 = 1 then none else some (g ++ [(f (n + 1) - rsum g n) / 2])
theorem sum_le (X : Nat) : ∀ l : List Int, (∀ x ∈ l, x.natAbs * 256 ≤ X) → l.sum.natAbs * 256 ≤ l.length * X
  | [], _ => by simp
  | x :: l, h => by
    have h1 := h x (by simp)
    have h2 := sum_le X l fun y hy => h y (by simp [hy])
    have h3 := Int.natAbs_add_le x l.sum
    rw [List.sum_cons, List.length_cons, Nat.succ_mul]
    refine Nat.le_trans (Nat.mul_le_mul_right 256 h3) ?_
    rw [Nat.add_mul, Nat.add_comm]
    exact Nat.add_le_add h2 h1
/-- how great the items of a root are -/
structure Rb (C : Nat) (n : Nat) (g : List Int) : Prop where
  len : g.length = n + 1
  bd : ∀ i, 1 ≤ i → i ≤ n → (fn g i).natAbs * 16 ≤ 2 ^ (C * i)
theorem Rb.le {C n : Nat} {g : List Int} (h : Rb C n g) (hn : n ≤ 15) (i : Nat) (h1 : 1 ≤ i) (hi : i ≤ n) : (fn g i).natAbs ≤ 2 ^ (C * 16) := by
  have h2 := h.bd i h1 hi
  have h3 : 2 ^ (C * i) ≤ 2 ^ (C * 16) := Nat.pow_le_pow_right (by decide) (Nat.mul_le_mul_left _ (by omega))
  omega
theorem rsum_bd {C n : Nat} {g : List Int} (h : Rb C n g) (hn : n ≤ 15) : (rsum g n).natAbs * 256 ≤ 15 * 2 ^ (C * (n + 1)) := by
  refine Nat.le_trans (sum_le (2 ^ (C * (n + 1))) _ fun x hx => ?_) (Nat.mul_le_mul_right _ (by simpa using hn))
  obtain ⟨j, hj, rfl⟩ := List.mem_map.mp hx
  have hj := List.mem_range.mp hj
  have a := h.bd (j + 1) (by omega) (by omega)
  have b := h.bd (n - j) (by omega) (by omega)
  have c := Nat.mul_le_mul a b
  rw [← Nat.pow_add, ← Nat.mul_add, show j + 1 + (n - j) = n + 1 by omega] at c
  rw [Int.natAbs_mul]
  refine Nat.le_trans (Nat.le_of_eq ?_) c
  rw [Nat.mul_mul_mul_comm]
theorem rt_step {f : F} {B n : Nat} {g : List Int} (hf : (f (n + 1)).natAbs ≤ 2 ^ B) (h : Rb (B + 5) n g) (hn : n ≤ 15) : Rb (B + 5) (n + 1) (g ++ [(f (n + 1) - rsum g n) / 2]) := by
  have h1 := rsum_bd h hn
  have hX : 2 ^ B * 32 ≤ 2 ^ ((B + 5) * (n + 1)) := by
    rw [show (32 : Nat) = 2 ^ 5 from rfl, ← Nat.pow_add]
    exact Nat.pow_le_pow_right (by decide) (Nat.le_mul_of_pos_right _ (by omega))
  have hX1 : 1 ≤ 2 ^ B := Nat.one_le_two_pow
  have hl := h.len
  refine ⟨by rw [List.length_append, hl]; rfl, fun i h2 h3 => ?_⟩
  by_cases hi : i ≤ n
  · have e : fn (g ++ [(f (n + 1) - rsum g n) / 2]) i = fn g i := by
      simp only [fn, List.getD_eq_getElem?_getD]
      rw [List.getElem?_append_left (by omega)]
    rw [e]; exact h.bd i h2 hi
  · have e0 : i = n + 1 := by omega
    subst e0
    have e : fn (g ++ [(f (n + 1) - rsum g n) / 2]) (n + 1) = (f (n + 1) - rsum g n) / 2 := by
      simp only [fn, List.getD_eq_getElem?_getD]
      rw [List.getElem?_append_right (by omega), hl, Nat.sub_self]; rfl
    rw [e]
    generalize 2 ^ ((B + 5) * (n + 1)) = X at *
    generalize 2 ^ B = Y at *
    generalize rsum g n = r at *
    generalize f (n + 1) = y at *
    omega
theorem rt_bd {f : F} {B : Nat} : ∀ (n : Nat) (g : List Int), n ≤ 16 → (∀ i, i ≤ n → (f i).natAbs ≤ 2 ^ B) → rtL f n = some g → Rb (B + 5) n g
  | 0, g, _, _, e => by
    cases e
    exact ⟨rfl, fun i h1 h2 => by omega⟩
  | n + 1, g, hn, hB, e => by
    rw [rtL] at e
    obtain ⟨g', e1, e2⟩ := Option.bind_eq_some_iff.mp e
    have ih := rt_bd n g' (by omega) (fun i hi => hB i (by omega)) e1
    split at e2
    · cases e2
    · cases e2
      exact rt_step (hB (n + 1) (Nat.le_refl _)) ih (by omega)
end SER

set_option Elab.async false
set_option linter.all false
set_option autoImplicit false
set_option maxRecDepth 100000
set_option maxHeartbeats 0
namespace G_k84
open PySem PySem.Spec L2 MI
/-! product_item -/
def b_product_item : SF := (sRet (oBlt (one sumD) (aCons (eFrz (oLc [false, false, false, true] (iRange1 (eFrz (oOp2 addD (eVar 2) (eC (.int 1))))) (gN 3) kYes (eFrz (oOp2 mulD (eAt 0 (eVar 3)) (eAt 1 (eFrz (oOp2 subD (eVar 2) (eVar 3)))))))) aNil)))
def m_product_item : List OD → Res OD := mkF 4 [false, false, false] b_product_item
/-! series_product -/
def b_series_product : SF := (sRet (oBlt (one tupleD) (aCons (eFrz (oLc [false, false, true] (iRange1 (eFrz (oBlt (one lenD) (aCons (eVar 0) aNil)))) (gN 2) kYes (eFrz (oCall [none, none, none] (aCons (eVar 0) (aCons (eVar 1) (aCons (eVar 2) aNil))) (noexF m_product_item))))) aNil)))
def m_series_product : List OD → Res OD := mkF 3 [false, false] b_series_product
/-! unit_series -/
def b_unit_series : SF := (sRet (oOp2 addD (eTup (aCons (eC (.int 1)) aNil)) (eFrz (oOp2 timesD (eTup (aCons (eC (.int 0)) aNil)) (eFrz (oOp2 subD (eVar 0) (eC (.int 1))))))))
def m_unit_series : List OD → Res OD := mkF 1 [false] b_unit_series
/-! put_into -/
def l_put_into_1 : SF := (sSeq (sAsg (eFrz (oBlt (one tupleD) (aCons (eFrz (oLc [false, false, false, false, false, true, true] (iZip2 (eVar 2) (eVar 3)) (gT 2 (gsCons (gN 5) (gsCons (gN 6) gsNil))) kYes (eFrz (oOp2 addD (eVar 5) (eFrz (oOp2 mulD (eVar 4) (eVar 6))))))) aNil))) (gN 2))
  (sAsg (eFrz (oCall [none, none] (aCons (eVar 3) (aCons (eVar 1) aNil)) (noexF m_series_product))) (gN 3)))
def b_put_into : SF := (sSeq (sPar [2, 3] (aoCons (oFz (eFrz (oOp2 timesD (eTup (aCons (eC (.int 0)) aNil)) (eFrz (oBlt (one lenD) (aCons (eVar 0) aNil)))))) (aoCons (oFz (eFrz (oCall [none] (aCons (eFrz (oBlt (one lenD) (aCons (eVar 0) aNil))) aNil) (noexF m_unit_series)))) aoNil)))
  (sSeq (sFor (iSeq (eVar 0)) (gN 4) l_put_into_1)
  (sRet (oVar 2))))
def m_put_into : List OD → Res OD := mkF 7 [false, false] b_put_into
/-! turned_about -/
def l_turned_about_1 : SF := (sSeq (sAsg (eFrz (oOp2 ixD (eFrz (oCall [none, none] (aCons (eFrz (oSlice (eVar 0) pNo (pSome (eFrz (oOp2 addD (eVar 2) (eC (.int 1))))))) (aCons (eFrz (oOp2 addD (eLend [.f, .f, .f, .f] (eFrz (oBlt (one tupleD) (aCons (eVar 1) aNil)))) (eTup (aCons (eC (.int 0)) aNil)))) aNil)) (noexF m_put_into))) (eVar 2))) (gN 3))
  (sExp (eAppend 1 (eFrz (oOp2 mulD (eFrz (oOp1 negD (eVar 3))) (eAt 0 (eC (.int 1))))))))
def b_turned_about : SF := (sSeq (sIf (kOr (kCmp ltI (eFrz (oBlt (one lenD) (aCons (eVar 0) aNil))) (eC (.int 2))) (kOr (kCmp neD (eAt 0 (eC (.int 0))) (eC (.int 0))) (kCmp notInD (eAt 0 (eC (.int 1))) (eTup (aCons (eC (.int 1)) (aCons (eFrz (oOp1 negD (eC (.int 1)))) aNil)))))) (sRaise ⟨"Unfit", []⟩) sNx)
  (sSeq (sSet 1 (oLst (aCons (eC (.int 0)) (aCons (eAt 0 (eC (.int 1))) aNil))))
  (sSeq (sFor (iRange2 (eC (.int 2)) (eFrz (oBlt (one lenD) (aCons (eVar 0) aNil)))) (gN 2) l_turned_about_1)
  (sRet (oBlt (one tupleD) (aCons (eVar 1) aNil))))))
def m_turned_about : List OD → Res OD := mkF 4 [false] b_turned_about
/-! turned_item -/
def b_turned_item : SF := (sRet (oFz (eFrz (oOp2 ixD (eFrz (oCall [none] (aCons (eVar 0) aNil) m_turned_about)) (eVar 1)))))
def m_turned_item : List OD → Res OD := mkF 2 [false, false] b_turned_item
/-! root_series -/
def l_root_series_1 : SF := (sSeq (sAsg (eFrz (oOp2 subD (eAt 0 (eVar 2)) (eFrz (oBlt (one sumD) (aCons (eFrz (oLc [false, false, false, false, true] (iRange2 (eC (.int 1)) (eVar 2)) (gN 4) kYes (eFrz (oOp2 mulD (eAt 1 (eVar 4)) (eAt 1 (eFrz (oOp2 subD (eVar 2) (eVar 4)))))))) aNil))))) (gN 3))
  (sSeq (sIf (kCmp eqD (eFrz (oOp2 andD (eVar 3) (eC (.int 1)))) (eC (.int 1))) (sRaise ⟨"Unfit", []⟩) sNx)
  (sExp (eAppend 1 (eFrz (oOp2 fdivD (eVar 3) (eC (.int 2))))))))
def b_root_series : SF := (sSeq (sIf (kCmp neD (eAt 0 (eC (.int 0))) (eC (.int 1))) (sRaise ⟨"Unfit", []⟩) sNx)
  (sSeq (sSet 1 (oLst (aCons (eC (.int 1)) aNil)))
  (sSeq (sFor (iRange2 (eC (.int 1)) (eFrz (oBlt (one lenD) (aCons (eVar 0) aNil)))) (gN 2) l_root_series_1)
  (sRet (oBlt (one tupleD) (aCons (eVar 1) aNil))))))
def m_root_series : List OD → Res OD := mkF 5 [false] b_root_series
/-! _law_own_bag -/
def l__law_own_bag_1 : SF := (sAsg (eFrz (oOp2 modD (eFrz (oBlt (one intB) (aCons (eFrz (oOp2 addD (eFrz (oOp2 addD (eFrz (oOp2 mulD (eVar 3) (eC (.int 48271)))) (eFrz (oOp2 modD (eFrz (oBlt (one intB) (aCons (eVar 2) aNil))) (eC (.int 2147483629)))))) (eC (.int 7)))) aNil))) (eC (.int 2147483647)))) (gN 3))
def b__law_own_bag : SF := (sSeq (sAsg (eFrz (oLc [false, false, true, false] (iSeq (eFrz (oSlice (eVar 0) pNo (pSome (eC (.int 63)))))) (gN 2) kYes (eFrz (oOp2 modD (eFrz (oBlt (one absD) (aCons (eVar 2) aNil))) (eFrz (oOp2 powD (eFrz (oOp2 powD (eC (.int 10)) (eC (.int 57)))) (eC (.int 7)))))))) (gN 1))
  (sSeq (sAsg (eFrz (oOp2 addD (eC (.int 2468)) (eFrz (oBlt (one lenD) (aCons (eVar 1) aNil))))) (gN 3))
  (sSeq (sFor (iSeq (eVar 1)) (gN 2) l__law_own_bag_1)
  (sRet (oNest (aoCons (oOp1 revD (eFrz (oBlt (one listD) (aCons (eVar 1) aNil)))) (aoCons (oFz (eC (.int 0))) (aoCons (oFz (eVar 3)) aoNil))))))))
def m__law_own_bag : List OD → Res OD := mkF 4 [false] b__law_own_bag
/-! _law_draw -/
def t__law_draw_1 : TF := (kAnd (kCmp eqD (eItemN 0 1) (eC (.int 0))) (kEmptyN true 0 0))
def l__law_draw_1 : SF := (sSeq (sAsg (ePopN 0 0) (gN 2))
  (sItem 0 (eC (.int 1)) (eIf (kCmp gtI (eVar 2) (eFrz (oOp2 powD (eC (.int 10)) (eC (.int 9))))) (eVar 2) (eC (.int 0)))))
def b__law_draw : SF := (sSeq (sWhile fuel t__law_draw_1 l__law_draw_1)
  (sSeq (sIf (kCmp gtI (eItemN 0 1) (eC (.int 0))) (sSeq (sAsg (eFrz (oOp2 modD (eFrz (oBlt (one intB) (aCons (eItemN 0 1) aNil))) (eVar 1))) (gN 3))
  (sSeq (sItem 0 (eC (.int 1)) (eFrz (oOp2 fdivD (eItemN 0 1) (eVar 1))))
  (sRet (oVar 3)))) sNx)
  (sSeq (sItem 0 (eC (.int 2)) (eFrz (oOp2 modD (eFrz (oBlt (one intB) (aCons (eFrz (oOp2 addD (eFrz (oOp2 mulD (eItemN 0 2) (eC (.int 48271)))) (eC (.int 11)))) aNil))) (eC (.int 2147483647)))))
  (sRet (oOp2 modD (eFrz (oBlt (one intB) (aCons (eFrz (oOp2 fdivD (eFrz (oOp2 modD (eFrz (oBlt (one intB) (aCons (eFrz (oOp2 mulD (eItemN 0 2) (eItemN 0 2))) aNil))) (eC (.int 2147483629)))) (eC (.int 7)))) aNil))) (eVar 1))))))
def m__law_draw : List OD → Res OD := mkF 4 [true, false] b__law_draw
/-! _law_pick -/
def b__law_pick : SF := (sRet (oFz (eAt 1 (eFrz (oCall [some 0, none] (aRef 0 (aCons (eFrz (oBlt (one lenD) (aCons (eVar 1) aNil))) aNil)) (noexF m__law_draw))))))
def m__law_pick : List OD → Res OD := mkF 2 [true, false] b__law_pick
/-! _law_seen -/
def b__law_seen (rc : List OD → Res OD) : SF := (sSeq (sIf (kOr (kCmp isN (eVar 0) (eC .none)) (kOr (kCmp isTF (eVar 0) (eC (.bool true))) (kCmp isTF (eVar 0) (eC (.bool false))))) (sRet (oBlt (one reprV) (aCons (eVar 0) aNil))) sNx)
  (sSeq (sIf (kVal (eIsiV "str" (eVar 0))) (sRet (oBlt (one reprV) (aCons (eVar 0) aNil))) sNx)
  (sSeq (sIf (kVal (eIsiV "int" (eVar 0))) (sRet (oIf (kCmp ltI (eFrz (oBlt (one absD) (aCons (eVar 0) aNil))) (eFrz (oOp2 powD (eFrz (oOp2 powD (eC (.int 10)) (eC (.int 62)))) (eC (.int 62))))) (oBlt (one reprV) (aCons (eVar 0) aNil)) (oFz (eC (.str "great"))))) sNx)
  (sSeq (sIf (kAnd (kVal (eIsiV "tuple" (eVar 0))) (kCmp gtI (eVar 1) (eC (.int 0)))) (sRet (oOp2 addD (eFrz (oOp2 addD (eC (.str "(")) (eFrz (oJoin (eC (.str "")) (eFrz (oLc [false, false, true] (iSeq (eVar 0)) (gN 2) kYes (eFrz (oOp2 addD (eFrz (oCall [none, none] (aCons (eVar 2) (aCons (eFrz (oOp2 subD (eVar 1) (eC (.int 1)))) aNil)) (noexF rc))) (eC (.str ", ")))))))))) (eC (.str ")")))) sNx)
  (sRet (oFz (eC (.str "odd"))))))))
def m__law_seen : Nat → List OD → Res OD
  | 0 => mkF 3 [false, false] sBad
  | k + 1 => mkF 3 [false, false] (b__law_seen (m__law_seen k))
/-! _law_told -/
def h__law_told_1 : Exn → Option HR := fun e => if e.cls = "Unfit" then some (.lst [(.str "raised"), (.str "Unfit")]) else none
def b__law_told : SF := (sTry 4 (sSeq (sIf (kCmp eqD (eVar 0) (eC (.str "turned"))) (sRet (oLst (aCons (eC (.str "told")) (aCons (eIf (kVal (eVar 3)) (eFrz (oCallPX 0 1 [0] aNil (aCons (eVar 1) aNil) m_turned_about)) (eFrz (oCall [none] (aCons (eVar 1) aNil) m_turned_about))) aNil)))) sNx)
  (sSeq (sIf (kCmp eqD (eVar 0) (eC (.str "item"))) (sRet (oLst (aCons (eC (.str "told")) (aCons (eIf (kVal (eVar 3)) (eFrz (oCallPX 0 2 [0, 1] aNil (aCons (eVar 1) (aCons (eVar 2) aNil)) m_turned_item)) (eFrz (oCall [none, none] (aCons (eVar 1) (aCons (eVar 2) aNil)) m_turned_item))) aNil)))) sNx)
  (sRet (oLst (aCons (eC (.str "told")) (aCons (eIf (kVal (eVar 3)) (eFrz (oCallPX 0 1 [0] aNil (aCons (eVar 1) aNil) m_root_series)) (eFrz (oCall [none] (aCons (eVar 1) aNil) m_root_series))) aNil)))))) h__law_told_1)
def m__law_told : List OD → Res OD := mkF 5 [false, false, false, false] b__law_told
/-! _law_plain -/
def b__law_plain : SF := (sRet (oOp2 addD (eFrz (oOp2 addD (eAt 0 (eC (.int 0))) (eC (.str " ")))) (eFrz (oCall [none, none] (aCons (eAt 0 (eC (.int 1))) (aCons (eC (.int 3)) aNil)) (noexF (m__law_seen 5))))))
def m__law_plain : List OD → Res OD := mkF 1 [false] b__law_plain
/-! _law_holds -/
def l__law_holds_1 : SF := (sIf (kCmp neD (eFrz (oCall [none] (aCons (eFrz (oCall [none, none, none, none] (aCons (eVar 0) (aCons (eVar 1) (aCons (eVar 2) (aCons (eVar 6) aNil)))) (noexF m__law_told))) aNil) (noexF m__law_plain))) (eVar 5)) (sRet (oFz (eC (.bool false)))) sNx)
def b__law_holds : SF := (sSeq (sPar [4, 5] (aoCons (oFz (eFrz (oBlt (one reprV) (aCons (eVar 1) aNil)))) (aoCons (oFz (eFrz (oCall [none] (aCons (eVar 3) aNil) (noexF m__law_plain)))) aoNil)))
  (sSeq (sFor (iSeq (eFrz (oLst (aCons (eC (.bool false)) (aCons (eC (.bool true)) (aCons (eC (.bool false)) aNil)))))) (gN 6) l__law_holds_1)
  (sRet (oFz (eCmp eqD (eFrz (oBlt (one reprV) (aCons (eVar 1) aNil))) (eVar 4))))))
def m__law_holds : List OD → Res OD := mkF 7 [false, false, false, false] b__law_holds
/-! _law_own_row -/
def l__law_own_row_1 : SF := (sIf (kCmp eqD (eVar 2) (eC (.int 0))) (sExp (eAppend 3 (eFrz (oOp2 subD (eFrz (oCall [some 0, none] (aRef 0 (aCons (eC (.int 7)) aNil)) (noexF m__law_draw))) (eC (.int 3)))))) (sIf (kCmp eqD (eVar 2) (eC (.int 1))) (sExp (eAppend 3 (eFrz (oOp2 subD (eFrz (oCall [some 0, none] (aRef 0 (aCons (eC (.int 501)) aNil)) (noexF m__law_draw))) (eC (.int 250)))))) (sIf (kCmp eqD (eVar 2) (eC (.int 2))) (sExp (eAppend 3 (eFrz (oOp2 subD (eFrz (oCall [some 0, none] (aRef 0 (aCons (eC (.int 2000001)) aNil)) (noexF m__law_draw))) (eC (.int 1000000)))))) (sIf (kCmp eqD (eVar 2) (eC (.int 3))) (sExp (eAppend 3 (eFrz (oCall [some 0, none] (aRef 0 (aCons (eFrz (oLst (aCons (eC (.int 1000000)) (aCons (eFrz (oOp1 negD (eC (.int 1000000)))) (aCons (eC (.int 999999)) (aCons (eFrz (oOp1 negD (eC (.int 1)))) (aCons (eC (.int 1)) (aCons (eC (.int 0)) aNil)))))))) aNil)) (noexF m__law_pick))))) (sExp (eAppend 3 (eIf (kCmp gtI (eFrz (oCall [some 0, none] (aRef 0 (aCons (eC (.int 4)) aNil)) (noexF m__law_draw))) (eC (.int 0))) (eC (.int 0)) (eFrz (oOp2 subD (eFrz (oCall [some 0, none] (aRef 0 (aCons (eC (.int 21)) aNil)) (noexF m__law_draw))) (eC (.int 10)))))))))))
def b__law_own_row : SF := (sSeq (sSet 3 (oLst aNil))
  (sSeq (sFor (iRange1 (eVar 1)) (gN 4) l__law_own_row_1)
  (sRet (oBlt (one tupleD) (aCons (eVar 3) aNil)))))
def m__law_own_row : List OD → Res OD := mkF 5 [true, false, false] b__law_own_row
/-! _law_own_product -/
def l__law_own_product_1 : SF := (sExp (eAppend 2 (eFrz (oBlt (one sumD) (aCons (eFrz (oLc [false, false, false, false, true] (iRange1 (eFrz (oOp2 addD (eVar 3) (eC (.int 1))))) (gN 4) kYes (eFrz (oOp2 mulD (eAt 0 (eVar 4)) (eAt 1 (eFrz (oOp2 subD (eVar 3) (eVar 4)))))))) aNil)))))
def b__law_own_product : SF := (sSeq (sSet 2 (oLst aNil))
  (sSeq (sFor (iRange1 (eFrz (oBlt (one lenD) (aCons (eVar 0) aNil)))) (gN 3) l__law_own_product_1)
  (sRet (oBlt (one tupleD) (aCons (eVar 2) aNil)))))
def m__law_own_product : List OD → Res OD := mkF 5 [false, false] b__law_own_product
/-! _law_own_other -/
def l__law_own_other_1 : SF := (sExp (eAppend 1 (eFrz (oOp2 subD (eC (.int 0)) (eFrz (oOp2 mulD (eAt 0 (eC (.int 0))) (eFrz (oBlt (one sumD) (aCons (eFrz (oLc [false, false, false, true] (iRange2 (eC (.int 1)) (eFrz (oOp2 addD (eVar 2) (eC (.int 1))))) (gN 3) kYes (eFrz (oOp2 mulD (eAt 0 (eVar 3)) (eAt 1 (eFrz (oOp2 subD (eVar 2) (eVar 3)))))))) aNil)))))))))
def b__law_own_other : SF := (sSeq (sSet 1 (oLst (aCons (eAt 0 (eC (.int 0))) aNil)))
  (sSeq (sFor (iRange2 (eC (.int 1)) (eFrz (oBlt (one lenD) (aCons (eVar 0) aNil)))) (gN 2) l__law_own_other_1)
  (sRet (oBlt (one tupleD) (aCons (eVar 1) aNil)))))
def m__law_own_other : List OD → Res OD := mkF 4 [false] b__law_own_other
/-! _law_own_put -/
def l__law_own_put_1 : SF := (sSeq (sAsg (eFrz (oCall [none, none] (aCons (eVar 2) (aCons (eVar 1) aNil)) (noexF m__law_own_product))) (gN 4))
  (sAsg (eFrz (oOp2 addD (eTup (aCons (eFrz (oOp2 addD (eAt 4 (eC (.int 0))) (eVar 3))) aNil)) (eFrz (oSlice (eVar 4) (pSome (eC (.int 1))) pNo)))) (gN 2)))
def b__law_own_put : SF := (sSeq (sAsg (eFrz (oOp2 timesD (eTup (aCons (eC (.int 0)) aNil)) (eFrz (oBlt (one lenD) (aCons (eVar 0) aNil))))) (gN 2))
  (sSeq (sFor (iRev (eFrz (oBlt (one listD) (aCons (eVar 0) aNil)))) (gN 3) l__law_own_put_1)
  (sRet (oVar 2))))
def m__law_own_put : List OD → Res OD := mkF 5 [false, false] b__law_own_put
/-! _law_can_be_turned -/
def b__law_can_be_turned : SF := (sRet (oFz (eAnd (eCmp gtI (eFrz (oBlt (one lenD) (aCons (eVar 0) aNil))) (eC (.int 1))) (eAnd (eCmp eqD (eAt 0 (eC (.int 0))) (eC (.int 0))) (eOr (eCmp eqD (eAt 0 (eC (.int 1))) (eC (.int 1))) (eCmp eqD (eAt 0 (eC (.int 1))) (eFrz (oOp1 negD (eC (.int 1))))))))))
def m__law_can_be_turned : List OD → Res OD := mkF 1 [false] b__law_can_be_turned
/-! _law_own_turned -/
def l__law_own_turned_1 : SF := (sSeq (sExp (eAppend 2 (eFrz (oOp2 fdivD (eAt 3 (eFrz (oOp2 subD (eVar 4) (eC (.int 1))))) (eVar 4)))))
  (sAsg (eFrz (oCall [none, none] (aCons (eVar 3) (aCons (eVar 1) aNil)) (noexF m__law_own_product))) (gN 3)))
def b__law_own_turned : SF := (sSeq (sAsg (eFrz (oCall [none] (aCons (eFrz (oSlice (eVar 0) (pSome (eC (.int 1))) pNo)) aNil) (noexF m__law_own_other))) (gN 1))
  (sSeq (sPar [2, 3] (aoCons (oLst (aCons (eC (.int 0)) aNil)) (aoCons (oFz (eVar 1)) aoNil)))
  (sSeq (sFor (iRange2 (eC (.int 1)) (eFrz (oBlt (one lenD) (aCons (eVar 0) aNil)))) (gN 4) l__law_own_turned_1)
  (sRet (oBlt (one tupleD) (aCons (eVar 2) aNil))))))
def m__law_own_turned : List OD → Res OD := mkF 5 [false] b__law_own_turned
/-! _law_own_root -/
def l__law_own_root_1 : SF := (sSeq (sAsg (eFrz (oOp2 subD (eAt 0 (eVar 2)) (eFrz (oBlt (one sumD) (aCons (eFrz (oLc [false, false, false, false, true] (iRange2 (eC (.int 1)) (eVar 2)) (gN 4) kYes (eFrz (oOp2 mulD (eAt 1 (eVar 4)) (eAt 1 (eFrz (oOp2 subD (eVar 2) (eVar 4)))))))) aNil))))) (gN 3))
  (sSeq (sIf (kCmp eqD (eFrz (oOp2 modD (eFrz (oBlt (one intB) (aCons (eVar 3) aNil))) (eC (.int 2)))) (eC (.int 1))) (sRet (oFz (eC .none))) sNx)
  (sExp (eAppend 1 (eFrz (oOp2 fdivD (eVar 3) (eC (.int 2))))))))
def b__law_own_root : SF := (sSeq (sIf (kCmp neD (eAt 0 (eC (.int 0))) (eC (.int 1))) (sRet (oFz (eC .none))) sNx)
  (sSeq (sSet 1 (oLst (aCons (eC (.int 1)) aNil)))
  (sSeq (sFor (iRange2 (eC (.int 1)) (eFrz (oBlt (one lenD) (aCons (eVar 0) aNil)))) (gN 2) l__law_own_root_1)
  (sRet (oBlt (one tupleD) (aCons (eVar 1) aNil))))))
def m__law_own_root : List OD → Res OD := mkF 5 [false] b__law_own_root
/-! _law_is_letter -/
def b__law_is_letter : SF := (sRet (oFz (eCmp eqD (eVar 0) (eFrz (oOp2 addD (eTup (aCons (eC (.int 0)) (aCons (eC (.int 1)) aNil))) (eFrz (oOp2 timesD (eTup (aCons (eC (.int 0)) aNil)) (eFrz (oOp2 subD (eFrz (oBlt (one lenD) (aCons (eVar 0) aNil))) (eC (.int 2)))))))))))
def m__law_is_letter : List OD → Res OD := mkF 1 [false] b__law_is_letter
/-! _law_is_turned -/
def l__law_is_turned_1 : SF := (sIf (kCmp neD (eFrz (oCall [none] (aCons (eFrz (oCall [none, none, none, none] (aCons (eC (.str "item")) (aCons (eVar 1) (aCons (eVar 4) (aCons (eCmp eqD (eFrz (oCall [some 0, none] (aRef 0 (aCons (eC (.int 2)) aNil)) (noexF m__law_draw))) (eC (.int 0))) aNil)))) (noexF m__law_told))) aNil) (noexF m__law_plain))) (eFrz (oCall [none] (aCons (eFrz (oLst (aCons (eC (.str "told")) (aCons (eAt 6 (eVar 4)) aNil)))) aNil) (noexF m__law_plain)))) (sRet (oFz (eC (.bool false)))) sNx)
def b__law_is_turned : SF := (sSeq (sAsg (eFrz (oBlt (one lenD) (aCons (eVar 1) aNil))) (gN 2))
  (sSeq (sAsg (eFrz (oLst (aCons (eC (.int 0)) (aCons (eFrz (oOp2 subD (eVar 2) (eC (.int 1)))) (aCons (eIf (kCmp gtI (eVar 2) (eC (.int 1))) (eC (.int 1)) (eC (.int 0))) (aCons (eFrz (oCall [some 0, none] (aRef 0 (aCons (eVar 2) aNil)) (noexF m__law_draw))) aNil)))))) (gN 3))
  (sSeq (sIf (kNot (kVal (eFrz (oCall [none] (aCons (eVar 1) aNil) (noexF m__law_can_be_turned))))) (sSeq (sAsg (eFrz (oCall [some 0, none] (aRef 0 (aCons (eVar 3) aNil)) (noexF m__law_pick))) (gN 4))
  (sSeq (sAsg (eFrz (oLst (aCons (eC (.str "raised")) (aCons (eC (.str "Unfit")) aNil)))) (gN 5))
  (sRet (oFz (eAnd (eFrz (oCall [none, none, none, none] (aCons (eC (.str "turned")) (aCons (eVar 1) (aCons (eC .none) (aCons (eVar 5) aNil)))) (noexF m__law_holds))) (eFrz (oCall [none, none, none, none] (aCons (eC (.str "item")) (aCons (eVar 1) (aCons (eVar 4) (aCons (eVar 5) aNil)))) (noexF m__law_holds)))))))) sNx)
  (sSeq (sAsg (eFrz (oCall [none] (aCons (eVar 1) aNil) (noexF m__law_own_turned))) (gN 6))
  (sSeq (sIf (kNot (kVal (eFrz (oCall [none, none, none, none] (aCons (eC (.str "turned")) (aCons (eVar 1) (aCons (eC .none) (aCons (eFrz (oLst (aCons (eC (.str "told")) (aCons (eVar 6) aNil)))) aNil)))) (noexF m__law_holds))))) (sRet (oFz (eC (.bool false)))) sNx)
  (sSeq (sAsg (eFrz (oOp2 ixD (eFrz (oCall [none, none, none, none] (aCons (eC (.str "turned")) (aCons (eVar 1) (aCons (eC .none) (aCons (eC (.bool false)) aNil)))) (noexF m__law_told))) (eC (.int 1)))) (gN 7))
  (sSeq (sIf (kCmp neD (eFrz (oCall [none, none] (aCons (eVar 7) (aCons (eC (.int 3)) aNil)) (noexF (m__law_seen 5)))) (eFrz (oCall [none, none] (aCons (eVar 6) (aCons (eC (.int 3)) aNil)) (noexF (m__law_seen 5))))) (sRet (oFz (eC (.bool false)))) sNx)
  (sSeq (sIf (kOr (kNot (kVal (eFrz (oCall [none] (aCons (eFrz (oCall [none, none] (aCons (eVar 1) (aCons (eVar 7) aNil)) (noexF m__law_own_put))) aNil) (noexF m__law_is_letter))))) (kNot (kVal (eFrz (oCall [none] (aCons (eFrz (oCall [none, none] (aCons (eVar 7) (aCons (eVar 1) aNil)) (noexF m__law_own_put))) aNil) (noexF m__law_is_letter)))))) (sRet (oFz (eC (.bool false)))) sNx)
  (sSeq (sIf (kNot (kVal (eFrz (oCall [none, none, none, none] (aCons (eC (.str "turned")) (aCons (eVar 7) (aCons (eC .none) (aCons (eFrz (oLst (aCons (eC (.str "told")) (aCons (eVar 1) aNil)))) aNil)))) (noexF m__law_holds))))) (sRet (oFz (eC (.bool false)))) sNx)
  (sSeq (sFor (iSeq (eFrz (oSlice (eVar 3) pNo (pSome (eC (.int 3)))))) (gN 4) l__law_is_turned_1)
  (sRet (oCall [none, none, none, none] (aCons (eC (.str "item")) (aCons (eVar 7) (aCons (eAt 3 (eC (.int 3))) (aCons (eFrz (oLst (aCons (eC (.str "told")) (aCons (eAt 1 (eAt 3 (eC (.int 3)))) aNil)))) aNil)))) (noexF m__law_holds)))))))))))))
def m__law_is_turned : List OD → Res OD := mkF 8 [true, false] b__law_is_turned
/-! _law_is_rooted -/
def b__law_is_rooted : SF := (sSeq (sAsg (eFrz (oCall [none] (aCons (eVar 0) aNil) (noexF m__law_own_root))) (gN 1))
  (sRet (oCall [none, none, none, none] (aCons (eC (.str "root")) (aCons (eVar 0) (aCons (eC .none) (aCons (eIf (kCmp isN (eVar 1) (eC .none)) (eFrz (oLst (aCons (eC (.str "raised")) (aCons (eC (.str "Unfit")) aNil)))) (eFrz (oLst (aCons (eC (.str "told")) (aCons (eVar 1) aNil))))) aNil)))) (noexF m__law_holds))))
def m__law_is_rooted : List OD → Res OD := mkF 2 [false] b__law_is_rooted
/-! _law_are_roots -/
def l__law_are_roots_1 : SF := (sIf (kNot (kVal (eFrz (oCall [none] (aCons (eVar 9) aNil) (noexF m__law_is_rooted))))) (sRet (oFz (eC (.bool false)))) sNx)
def b__law_are_roots : SF := (sSeq (sAsg (eFrz (oOp2 addD (eTup (aCons (eC (.int 1)) aNil)) (eFrz (oSlice (eFrz (oCall [some 0, none, none] (aRef 0 (aCons (eVar 1) (aCons (eFrz (oCall [some 0, none] (aRef 0 (aCons (eFrz (oLst (aCons (eC (.int 0)) (aCons (eC (.int 1)) (aCons (eC (.int 4)) aNil))))) aNil)) (noexF m__law_pick))) aNil))) (noexF m__law_own_row))) (pSome (eC (.int 1))) pNo)))) (gN 2))
  (sSeq (sIf (kCmp eqD (eFrz (oCall [some 0, none] (aRef 0 (aCons (eC (.int 3)) aNil)) (noexF m__law_draw))) (eC (.int 0))) (sAsg (eFrz (oBlt (one tupleD) (aCons (eFrz (oLc [false, false, false, true, false, false, false, false, false, false] (iSeq (eVar 2)) (gN 3) kYes (eFrz (oOp2 subD (eC (.int 0)) (eVar 3))))) aNil))) (gN 2)) sNx)
  (sSeq (sPar [4, 5] (aoCons (oFz (eFrz (oCall [none, none] (aCons (eVar 2) (aCons (eVar 2) aNil)) (noexF m__law_own_product)))) (aoCons (oFz (eFrz (oCall [some 0, none] (aRef 0 (aCons (eVar 1) aNil)) (noexF m__law_draw)))) aoNil)))
  (sSeq (sAsg (eFrz (oOp2 addD (eFrz (oOp2 addD (eFrz (oSlice (eVar 4) pNo (pSome (eVar 5)))) (eTup (aCons (eIf (kCmp gtI (eAt 4 (eVar 5)) (eC (.int 0))) (eFrz (oOp2 subD (eAt 4 (eVar 5)) (eFrz (oCall [some 0, none] (aRef 0 (aCons (eFrz (oLst (aCons (eC (.int 1)) (aCons (eFrz (oOp1 negD (eC (.int 1)))) (aCons (eC (.int 2)) (aCons (eC (.int 4)) aNil)))))) aNil)) (noexF m__law_pick))))) (eFrz (oOp2 addD (eAt 4 (eVar 5)) (eC (.int 2))))) aNil)))) (eFrz (oSlice (eVar 4) (pSome (eFrz (oOp2 addD (eVar 5) (eC (.int 1))))) pNo)))) (gN 6))
  (sSeq (sSet 7 (oLst (aCons (eVar 4) (aCons (eVar 6) (aCons (eFrz (oOp2 addD (eFrz (oSlice (eVar 4) pNo (pSome (eFrz (oOp2 subD (eVar 1) (eC (.int 1))))))) (eTup (aCons (eFrz (oOp2 addD (eAt 4 (eFrz (oOp2 subD (eVar 1) (eC (.int 1))))) (eIf (kCmp ltI (eAt 4 (eFrz (oOp2 subD (eVar 1) (eC (.int 1))))) (eC (.int 0))) (eC (.int 1)) (eFrz (oOp1 negD (eC (.int 1))))))) aNil)))) aNil)))))
  (sSeq (sExp (eAppend 7 (eFrz (oOp2 addD (eTup (aCons (eC (.int 1)) aNil)) (eFrz (oBlt (one tupleD) (aCons (eFrz (oLc [false, false, false, true, false, false, false, false, false, false] (iSeq (eFrz (oSlice (eFrz (oCall [some 0, none, none] (aRef 0 (aCons (eVar 1) (aCons (eC (.int 1)) aNil))) (noexF m__law_own_row))) (pSome (eC (.int 1))) pNo))) (gN 3) kYes (eFrz (oOp2 mulD (eC (.int 4)) (eVar 3))))) aNil)))))))
  (sSeq (sExp (eAppend 7 (eFrz (oOp2 addD (eTup (aCons (eFrz (oCall [some 0, none] (aRef 0 (aCons (eFrz (oLst (aCons (eC (.int 1)) (aCons (eC (.int 1)) (aCons (eC (.int 0)) (aCons (eFrz (oOp1 negD (eC (.int 1)))) (aCons (eC (.int 4)) (aCons (eC (.int 9)) (aCons (eC (.int 2)) aNil))))))))) aNil)) (noexF m__law_pick))) aNil)) (eFrz (oSlice (eVar 4) (pSome (eC (.int 1))) pNo))))))
  (sSeq (sExp (eAppend 7 (eFrz (oOp2 addD (eTup (aCons (eC (.int 1)) aNil)) (eFrz (oSlice (eFrz (oCall [some 0, none, none] (aRef 0 (aCons (eVar 1) (aCons (eFrz (oCall [some 0, none] (aRef 0 (aCons (eC (.int 5)) aNil)) (noexF m__law_draw))) aNil))) (noexF m__law_own_row))) (pSome (eC (.int 1))) pNo))))))
  (sSeq (sExp (eExtend 7 (eFrz (oLc [false, false, false, false, false, false, false, false, true, false] (iSeq (eFrz (oLst (aCons (eC (.int 0)) (aCons (eC (.int 1)) (aCons (eC (.int 4)) (aCons (eFrz (oOp1 negD (eC (.int 1)))) aNil))))))) (gN 8) kYes (eFrz (oOp2 addD (eTup (aCons (eVar 8) aNil)) (eFrz (oOp2 timesD (eTup (aCons (eC (.int 0)) aNil)) (eFrz (oOp2 subD (eVar 1) (eC (.int 1))))))))))))
  (sSeq (sExp (eAppend 7 (eFrz (oCall [none] (aCons (eVar 4) aNil) (noexF m__law_own_other)))))
  (sSeq (sFor (iSeq (eVar 7)) (gN 9) l__law_are_roots_1)
  (sRet (oFz (eC (.bool true)))))))))))))))
def m__law_are_roots : List OD → Res OD := mkF 10 [true, false] b__law_are_roots
/-! law -/
def l_law_1 : SF := (sSeq (sAsg (eIf (kAnd (kCmp gtI (eVar 2) (eC (.int 2))) (kCmp gtI (eFrz (oBlt (one lenD) (aCons (eVar 5) aNil))) (eC (.int 1)))) (eFrz (oOp2 addD (eVar 5) (eFrz (oSlice (eVar 3) pNo (pSome (eFrz (oOp2 subD (eVar 2) (eFrz (oBlt (one lenD) (aCons (eVar 5) aNil)))))))))) (eVar 5)) (gN 6))
  (sIf (kNot (kVal (eFrz (oCall [some 1, none] (aRef 1 (aCons (eVar 6) aNil)) (noexF m__law_is_turned))))) (sRet (oFz (eC (.bool false)))) sNx))
def b_law : SF := (sSeq (sSet 1 (oCall [none] (aCons (eVar 0) aNil) (noexF m__law_own_bag)))
  (sSeq (sAsg (eFrz (oCall [some 1, none] (aRef 1 (aCons (eFrz (oLst (aCons (eC (.int 1)) (aCons (eC (.int 2)) (aCons (eC (.int 3)) (aCons (eC (.int 16)) (aCons (eC (.int 16)) (aCons (eC (.int 16)) (aCons (eFrz (oOp2 addD (eC (.int 1)) (eFrz (oCall [some 1, none] (aRef 1 (aCons (eC (.int 16)) aNil)) (noexF m__law_draw))))) (aCons (eFrz (oOp2 addD (eC (.int 2)) (eFrz (oCall [some 1, none] (aRef 1 (aCons (eC (.int 15)) aNil)) (noexF m__law_draw))))) aNil)))))))))) aNil)) (noexF m__law_pick))) (gN 2))
  (sSeq (sAsg (eFrz (oCall [some 1, none, none] (aRef 1 (aCons (eVar 2) (aCons (eFrz (oCall [some 1, none] (aRef 1 (aCons (eC (.int 5)) aNil)) (noexF m__law_draw))) aNil))) (noexF m__law_own_row))) (gN 3))
  (sSeq (sAsg (eTup (aCons (eC (.int 0)) (aCons (eFrz (oCall [some 1, none] (aRef 1 (aCons (eFrz (oLst (aCons (eC (.int 1)) (aCons (eFrz (oOp1 negD (eC (.int 1)))) aNil)))) aNil)) (noexF m__law_pick))) aNil))) (gN 4))
  (sSeq (sIf (kNot (kVal (eFrz (oCall [some 1, none] (aRef 1 (aCons (eFrz (oSlice (eFrz (oOp2 addD (eVar 4) (eVar 3))) pNo (pSome (eIf (kCmp gtI (eVar 2) (eC (.int 1))) (eVar 2) (eC (.int 2)))))) aNil)) (noexF m__law_is_turned))))) (sRet (oFz (eC (.bool false)))) sNx)
  (sSeq (sFor (iSeq (eFrz (oLst (aCons (eTup (aCons (eC (.int 0)) (aCons (eC (.int 0)) aNil))) (aCons (eTup (aCons (eC (.int 0)) (aCons (eC (.int 2)) aNil))) (aCons (eTup (aCons (eC (.int 0)) (aCons (eFrz (oOp1 negD (eC (.int 2)))) aNil))) (aCons (eTup (aCons (eC (.int 0)) (aCons (eC (.int 1000000)) aNil))) (aCons (eTup (aCons (eC (.int 0)) (aCons (eFrz (oOp1 negD (eC (.int 1000000)))) aNil))) (aCons (eTup (aCons (eC (.int 1)) (aCons (eC (.int 1)) aNil))) (aCons (eTup (aCons (eFrz (oOp1 negD (eC (.int 1)))) (aCons (eC (.int 1)) aNil))) (aCons (eTup (aCons (eC (.int 2)) (aCons (eFrz (oOp1 negD (eC (.int 1)))) aNil))) (aCons (eTup (aCons (eC (.int 5)) (aCons (eC (.int 0)) aNil))) (aCons (eTup (aCons (eC (.int 0)) aNil)) (aCons (eTup (aCons (eC (.int 1)) aNil)) (aCons (eTup (aCons (eFrz (oOp1 negD (eC (.int 1)))) aNil)) aNil))))))))))))))) (gN 5) l_law_1)
  (sSeq (sAsg (eFrz (oOp2 addD (eVar 4) (eFrz (oCall [some 1, none, none] (aRef 1 (aCons (eFrz (oCall [some 1, none] (aRef 1 (aCons (eC (.int 5)) aNil)) (noexF m__law_draw))) (aCons (eC (.int 2)) aNil))) (noexF m__law_own_row))))) (gN 7))
  (sSeq (sIf (kNot (kVal (eFrz (oCall [some 1, none] (aRef 1 (aCons (eVar 7) aNil)) (noexF m__law_is_turned))))) (sRet (oFz (eC (.bool false)))) sNx)
  (sRet (oCall [some 1, none] (aRef 1 (aCons (eVar 2) aNil)) (noexF m__law_are_roots)))))))))))
def m_law : List OD → Res OD := mkF 8 [false] b_law
end G_k84

set_option Elab.async false
set_option linter.all false
set_option autoImplicit false
set_option maxRecDepth 100000
set_option maxHeartbeats 0
namespace G_k84
open PySem PySem.Spec L2 MI
/-! ### the text -/
def topS (i : Nat) : Stmt := PySem.Challenge.pw_leadterms_k84_whole_series_turned.main.body.getD i (.Pass ⟨0, 0, 0, 0⟩)
abbrev s_product_item : Stmt := topS 13
abbrev s_series_product : Stmt := topS 14
abbrev s_unit_series : Stmt := topS 15
abbrev s_put_into : Stmt := topS 16
abbrev s_turned_about : Stmt := topS 18
abbrev s_turned_item : Stmt := topS 19
abbrev s_root_series : Stmt := topS 20
abbrev s__law_own_bag : Stmt := topS 22
abbrev s__law_draw : Stmt := topS 23
abbrev s__law_pick : Stmt := topS 24
abbrev s__law_seen : Stmt := topS 25
abbrev s__law_told : Stmt := topS 26
abbrev s__law_plain : Stmt := topS 27
abbrev s__law_holds : Stmt := topS 28
abbrev s__law_own_row : Stmt := topS 29
abbrev s__law_own_product : Stmt := topS 30
abbrev s__law_own_other : Stmt := topS 31
abbrev s__law_own_put : Stmt := topS 32
abbrev s__law_can_be_turned : Stmt := topS 33
abbrev s__law_own_turned : Stmt := topS 34
abbrev s__law_own_root : Stmt := topS 35
abbrev s__law_is_letter : Stmt := topS 36
abbrev s__law_is_turned : Stmt := topS 37
abbrev s__law_is_rooted : Stmt := topS 38
abbrev s__law_are_roots : Stmt := topS 39
abbrev s_law : Stmt := topS 40
theorem sc_product_item : FnScope ["one", "other", "n", "i"] ["one", "other", "n"] (defScope s_product_item) := ⟨rfl, rfl, rfl, by decide +kernel, rfl, by decide +kernel, by decide +kernel⟩
theorem sc_series_product : FnScope ["one", "other", "n"] ["one", "other"] (defScope s_series_product) := ⟨rfl, rfl, rfl, by decide +kernel, rfl, by decide +kernel, by decide +kernel⟩
theorem sc_unit_series : FnScope ["many"] ["many"] (defScope s_unit_series) := ⟨rfl, rfl, rfl, by decide +kernel, rfl, by decide +kernel, by decide +kernel⟩
theorem sc_put_into : FnScope ["one", "other", "found", "power", "item", "here", "more"] ["one", "other"] (defScope s_put_into) := ⟨rfl, rfl, rfl, by decide +kernel, rfl, by decide +kernel, by decide +kernel⟩
theorem sc_turned_about : FnScope ["row", "found", "n", "item"] ["row"] (defScope s_turned_about) := ⟨rfl, rfl, rfl, by decide +kernel, rfl, by decide +kernel, by decide +kernel⟩
theorem sc_turned_item : FnScope ["row", "n"] ["row", "n"] (defScope s_turned_item) := ⟨rfl, rfl, rfl, by decide +kernel, rfl, by decide +kernel, by decide +kernel⟩
theorem sc_root_series : FnScope ["row", "found", "n", "twice", "i"] ["row"] (defScope s_root_series) := ⟨rfl, rfl, rfl, by decide +kernel, rfl, by decide +kernel, by decide +kernel⟩
theorem sc__law_own_bag : FnScope ["script", "cells", "cell", "mixed"] ["script"] (defScope s__law_own_bag) := ⟨rfl, rfl, rfl, by decide +kernel, rfl, by decide +kernel, by decide +kernel⟩
theorem sc__law_draw : FnScope ["bag", "below", "cell", "found"] ["bag", "below"] (defScope s__law_draw) := ⟨rfl, rfl, rfl, by decide +kernel, rfl, by decide +kernel, by decide +kernel⟩
theorem sc__law_pick : FnScope ["bag", "some"] ["bag", "some"] (defScope s__law_pick) := ⟨rfl, rfl, rfl, by decide +kernel, rfl, by decide +kernel, by decide +kernel⟩
theorem sc__law_seen : FnScope ["told", "deep", "item"] ["told", "deep"] (defScope s__law_seen) := ⟨rfl, rfl, rfl, by decide +kernel, rfl, by decide +kernel, by decide +kernel⟩
theorem sc__law_told : FnScope ["word", "row", "n", "is_named", "error"] ["word", "row", "n", "is_named"] (defScope s__law_told) := ⟨rfl, rfl, rfl, by decide +kernel, rfl, by decide +kernel, by decide +kernel⟩
theorem sc__law_plain : FnScope ["told"] ["told"] (defScope s__law_plain) := ⟨rfl, rfl, rfl, by decide +kernel, rfl, by decide +kernel, by decide +kernel⟩
theorem sc__law_holds : FnScope ["word", "row", "n", "due", "kept", "text", "is_named"] ["word", "row", "n", "due"] (defScope s__law_holds) := ⟨rfl, rfl, rfl, by decide +kernel, rfl, by decide +kernel, by decide +kernel⟩
theorem sc__law_own_row : FnScope ["bag", "many", "kind", "found", "i"] ["bag", "many", "kind"] (defScope s__law_own_row) := ⟨rfl, rfl, rfl, by decide +kernel, rfl, by decide +kernel, by decide +kernel⟩
theorem sc__law_own_product : FnScope ["one", "other", "found", "i", "j"] ["one", "other"] (defScope s__law_own_product) := ⟨rfl, rfl, rfl, by decide +kernel, rfl, by decide +kernel, by decide +kernel⟩
theorem sc__law_own_other : FnScope ["row", "found", "i", "j"] ["row"] (defScope s__law_own_other) := ⟨rfl, rfl, rfl, by decide +kernel, rfl, by decide +kernel, by decide +kernel⟩
theorem sc__law_own_put : FnScope ["one", "other", "found", "item", "times"] ["one", "other"] (defScope s__law_own_put) := ⟨rfl, rfl, rfl, by decide +kernel, rfl, by decide +kernel, by decide +kernel⟩
theorem sc__law_can_be_turned : FnScope ["row"] ["row"] (defScope s__law_can_be_turned) := ⟨rfl, rfl, rfl, by decide +kernel, rfl, by decide +kernel, by decide +kernel⟩
theorem sc__law_own_turned : FnScope ["row", "base", "found", "power", "n"] ["row"] (defScope s__law_own_turned) := ⟨rfl, rfl, rfl, by decide +kernel, rfl, by decide +kernel, by decide +kernel⟩
theorem sc__law_own_root : FnScope ["row", "found", "i", "rest", "j"] ["row"] (defScope s__law_own_root) := ⟨rfl, rfl, rfl, by decide +kernel, rfl, by decide +kernel, by decide +kernel⟩
theorem sc__law_is_letter : FnScope ["told"] ["told"] (defScope s__law_is_letter) := ⟨rfl, rfl, rfl, by decide +kernel, rfl, by decide +kernel, by decide +kernel⟩
theorem sc__law_is_turned : FnScope ["bag", "row", "many", "places", "at", "due", "own", "told"] ["bag", "row"] (defScope s__law_is_turned) := ⟨rfl, rfl, rfl, by decide +kernel, rfl, by decide +kernel, by decide +kernel⟩
theorem sc__law_is_rooted : FnScope ["row", "own"] ["row"] (defScope s__law_is_rooted) := ⟨rfl, rfl, rfl, by decide +kernel, rfl, by decide +kernel, by decide +kernel⟩
theorem sc__law_are_roots : FnScope ["bag", "many", "root", "item", "row", "at", "near", "rows", "first", "one"] ["bag", "many"] (defScope s__law_are_roots) := ⟨rfl, rfl, rfl, by decide +kernel, rfl, by decide +kernel, by decide +kernel⟩
theorem sc_law : FnScope ["script", "bag", "many", "rest", "ahead", "odd", "row", "short"] ["script"] (defScope s_law) := ⟨rfl, rfl, rfl, by decide +kernel, rfl, by decide +kernel, by decide +kernel⟩
/-- the errors that are let out -/
def Er (K : PySem.W.Frag) : Exn → Value → Option Addr → Hp → Prop := fun e cl d _ => (e = ⟨"Unfit", []⟩ ∧ d = none ∧ PySem.W.nsIn K mainGlobals "Unfit" = some (some cl))
structure Facts (K : PySem.W.Frag) (mg : Str → Option Value) where
  f_product_item : Addr
  fd_product_item : FuncData
  f_series_product : Addr
  fd_series_product : FuncData
  f_unit_series : Addr
  fd_unit_series : FuncData
  f_put_into : Addr
  fd_put_into : FuncData
  f_turned_about : Addr
  fd_turned_about : FuncData
  f_turned_item : Addr
  fd_turned_item : FuncData
  f_root_series : Addr
  fd_root_series : FuncData
  f__law_own_bag : Addr
  fd__law_own_bag : FuncData
  f__law_draw : Addr
  fd__law_draw : FuncData
  f__law_pick : Addr
  fd__law_pick : FuncData
  f__law_seen : Addr
  fd__law_seen : FuncData
  f__law_told : Addr
  fd__law_told : FuncData
  f__law_plain : Addr
  fd__law_plain : FuncData
  f__law_holds : Addr
  fd__law_holds : FuncData
  f__law_own_row : Addr
  fd__law_own_row : FuncData
  f__law_own_product : Addr
  fd__law_own_product : FuncData
  f__law_own_other : Addr
  fd__law_own_other : FuncData
  f__law_own_put : Addr
  fd__law_own_put : FuncData
  f__law_can_be_turned : Addr
  fd__law_can_be_turned : FuncData
  f__law_own_turned : Addr
  fd__law_own_turned : FuncData
  f__law_own_root : Addr
  fd__law_own_root : FuncData
  f__law_is_letter : Addr
  fd__law_is_letter : FuncData
  f__law_is_turned : Addr
  fd__law_is_turned : FuncData
  f__law_is_rooted : Addr
  fd__law_is_rooted : FuncData
  f__law_are_roots : Addr
  fd__law_are_roots : FuncData
  f_law : Addr
  fd_law : FuncData
  F_product_item : Fun K "product_item" "product_item" s_product_item f_product_item fd_product_item
  g_product_item : mg "product_item" = some (.ref f_product_item)
  b_product_item : Binds K fd_product_item ["one", "other", "n"] []
  F_series_product : Fun K "series_product" "series_product" s_series_product f_series_product fd_series_product
  g_series_product : mg "series_product" = some (.ref f_series_product)
  b_series_product : Binds K fd_series_product ["one", "other"] []
  F_unit_series : Fun K "unit_series" "unit_series" s_unit_series f_unit_series fd_unit_series
  g_unit_series : mg "unit_series" = some (.ref f_unit_series)
  b_unit_series : Binds K fd_unit_series ["many"] []
  F_put_into : Fun K "put_into" "put_into" s_put_into f_put_into fd_put_into
  g_put_into : mg "put_into" = some (.ref f_put_into)
  b_put_into : Binds K fd_put_into ["one", "other"] []
  F_turned_about : Fun K "turned_about" "turned_about" s_turned_about f_turned_about fd_turned_about
  g_turned_about : mg "turned_about" = some (.ref f_turned_about)
  b_turned_about : Binds K fd_turned_about ["row"] []
  F_turned_item : Fun K "turned_item" "turned_item" s_turned_item f_turned_item fd_turned_item
  g_turned_item : mg "turned_item" = some (.ref f_turned_item)
  b_turned_item : Binds K fd_turned_item ["row", "n"] []
  F_root_series : Fun K "root_series" "root_series" s_root_series f_root_series fd_root_series
  g_root_series : mg "root_series" = some (.ref f_root_series)
  b_root_series : Binds K fd_root_series ["row"] []
  F__law_own_bag : Fun K "_law_own_bag" "_law_own_bag" s__law_own_bag f__law_own_bag fd__law_own_bag
  g__law_own_bag : mg "_law_own_bag" = some (.ref f__law_own_bag)
  b__law_own_bag : Binds K fd__law_own_bag ["script"] []
  F__law_draw : Fun K "_law_draw" "_law_draw" s__law_draw f__law_draw fd__law_draw
  g__law_draw : mg "_law_draw" = some (.ref f__law_draw)
  b__law_draw : Binds K fd__law_draw ["bag", "below"] []
  F__law_pick : Fun K "_law_pick" "_law_pick" s__law_pick f__law_pick fd__law_pick
  g__law_pick : mg "_law_pick" = some (.ref f__law_pick)
  b__law_pick : Binds K fd__law_pick ["bag", "some"] []
  F__law_seen : Fun K "_law_seen" "_law_seen" s__law_seen f__law_seen fd__law_seen
  g__law_seen : mg "_law_seen" = some (.ref f__law_seen)
  b__law_seen : Binds K fd__law_seen ["told", "deep"] []
  F__law_told : Fun K "_law_told" "_law_told" s__law_told f__law_told fd__law_told
  g__law_told : mg "_law_told" = some (.ref f__law_told)
  b__law_told : Binds K fd__law_told ["word", "row", "n", "is_named"] []
  F__law_plain : Fun K "_law_plain" "_law_plain" s__law_plain f__law_plain fd__law_plain
  g__law_plain : mg "_law_plain" = some (.ref f__law_plain)
  b__law_plain : Binds K fd__law_plain ["told"] []
  F__law_holds : Fun K "_law_holds" "_law_holds" s__law_holds f__law_holds fd__law_holds
  g__law_holds : mg "_law_holds" = some (.ref f__law_holds)
  b__law_holds : Binds K fd__law_holds ["word", "row", "n", "due"] []
  F__law_own_row : Fun K "_law_own_row" "_law_own_row" s__law_own_row f__law_own_row fd__law_own_row
  g__law_own_row : mg "_law_own_row" = some (.ref f__law_own_row)
  b__law_own_row : Binds K fd__law_own_row ["bag", "many", "kind"] []
  F__law_own_product : Fun K "_law_own_product" "_law_own_product" s__law_own_product f__law_own_product fd__law_own_product
  g__law_own_product : mg "_law_own_product" = some (.ref f__law_own_product)
  b__law_own_product : Binds K fd__law_own_product ["one", "other"] []
  F__law_own_other : Fun K "_law_own_other" "_law_own_other" s__law_own_other f__law_own_other fd__law_own_other
  g__law_own_other : mg "_law_own_other" = some (.ref f__law_own_other)
  b__law_own_other : Binds K fd__law_own_other ["row"] []
  F__law_own_put : Fun K "_law_own_put" "_law_own_put" s__law_own_put f__law_own_put fd__law_own_put
  g__law_own_put : mg "_law_own_put" = some (.ref f__law_own_put)
  b__law_own_put : Binds K fd__law_own_put ["one", "other"] []
  F__law_can_be_turned : Fun K "_law_can_be_turned" "_law_can_be_turned" s__law_can_be_turned f__law_can_be_turned fd__law_can_be_turned
  g__law_can_be_turned : mg "_law_can_be_turned" = some (.ref f__law_can_be_turned)
  b__law_can_be_turned : Binds K fd__law_can_be_turned ["row"] []
  F__law_own_turned : Fun K "_law_own_turned" "_law_own_turned" s__law_own_turned f__law_own_turned fd__law_own_turned
  g__law_own_turned : mg "_law_own_turned" = some (.ref f__law_own_turned)
  b__law_own_turned : Binds K fd__law_own_turned ["row"] []
  F__law_own_root : Fun K "_law_own_root" "_law_own_root" s__law_own_root f__law_own_root fd__law_own_root
  g__law_own_root : mg "_law_own_root" = some (.ref f__law_own_root)
  b__law_own_root : Binds K fd__law_own_root ["row"] []
  F__law_is_letter : Fun K "_law_is_letter" "_law_is_letter" s__law_is_letter f__law_is_letter fd__law_is_letter
  g__law_is_letter : mg "_law_is_letter" = some (.ref f__law_is_letter)
  b__law_is_letter : Binds K fd__law_is_letter ["told"] []
  F__law_is_turned : Fun K "_law_is_turned" "_law_is_turned" s__law_is_turned f__law_is_turned fd__law_is_turned
  g__law_is_turned : mg "_law_is_turned" = some (.ref f__law_is_turned)
  b__law_is_turned : Binds K fd__law_is_turned ["bag", "row"] []
  F__law_is_rooted : Fun K "_law_is_rooted" "_law_is_rooted" s__law_is_rooted f__law_is_rooted fd__law_is_rooted
  g__law_is_rooted : mg "_law_is_rooted" = some (.ref f__law_is_rooted)
  b__law_is_rooted : Binds K fd__law_is_rooted ["row"] []
  F__law_are_roots : Fun K "_law_are_roots" "_law_are_roots" s__law_are_roots f__law_are_roots fd__law_are_roots
  g__law_are_roots : mg "_law_are_roots" = some (.ref f__law_are_roots)
  b__law_are_roots : Binds K fd__law_are_roots ["bag", "many"] []
  F_law : Fun K "law" "law" s_law f_law fd_law
  g_law : mg "law" = some (.ref f_law)
  b_law : Binds K fd_law ["script"] []
  C_BadLog : Addr
  c_BadLog : mg "BadLog" = some (.ref C_BadLog)
  C_BadPolynomial : Addr
  c_BadPolynomial : mg "BadPolynomial" = some (.ref C_BadPolynomial)
  C_BadText : Addr
  c_BadText : mg "BadText" = some (.ref C_BadText)
  C_NoName : Addr
  c_NoName : mg "NoName" = some (.ref C_NoName)
  C_NoVersion : Addr
  c_NoVersion : mg "NoVersion" = some (.ref C_NoVersion)
  C_NothingToRedo : Addr
  c_NothingToRedo : mg "NothingToRedo" = some (.ref C_NothingToRedo)
  C_NothingToUndo : Addr
  c_NothingToUndo : mg "NothingToUndo" = some (.ref C_NothingToUndo)
  C_Refused : Addr
  c_Refused : mg "Refused" = some (.ref C_Refused)
  C_TermError : Addr
  c_TermError : mg "TermError" = some (.ref C_TermError)
  C_TooMany : Addr
  c_TooMany : mg "TooMany" = some (.ref C_TooMany)
  C_Unfit : Addr
  c_Unfit : mg "Unfit" = some (.ref C_Unfit)
  ns_BadLog : PySem.W.nsIn K mainGlobals "BadLog" = some (some (.ref C_BadLog))
  sb_BadLog : PySem.W.subIn K (.ref C_BadLog) (.type "BaseException") = some true
  ty_BadLog : PySem.W.typeIn K (.ref C_BadLog) = some (.type "type")
  hd_BadLog : PySem.W.hasDictIn K C_BadLog = true
  ns_BadPolynomial : PySem.W.nsIn K mainGlobals "BadPolynomial" = some (some (.ref C_BadPolynomial))
  sb_BadPolynomial : PySem.W.subIn K (.ref C_BadPolynomial) (.type "BaseException") = some true
  ty_BadPolynomial : PySem.W.typeIn K (.ref C_BadPolynomial) = some (.type "type")
  hd_BadPolynomial : PySem.W.hasDictIn K C_BadPolynomial = true
  ns_BadText : PySem.W.nsIn K mainGlobals "BadText" = some (some (.ref C_BadText))
  sb_BadText : PySem.W.subIn K (.ref C_BadText) (.type "BaseException") = some true
  ty_BadText : PySem.W.typeIn K (.ref C_BadText) = some (.type "type")
  hd_BadText : PySem.W.hasDictIn K C_BadText = true
  ns_NoName : PySem.W.nsIn K mainGlobals "NoName" = some (some (.ref C_NoName))
  sb_NoName : PySem.W.subIn K (.ref C_NoName) (.type "BaseException") = some true
  ty_NoName : PySem.W.typeIn K (.ref C_NoName) = some (.type "type")
  hd_NoName : PySem.W.hasDictIn K C_NoName = true
  ns_NoVersion : PySem.W.nsIn K mainGlobals "NoVersion" = some (some (.ref C_NoVersion))
  sb_NoVersion : PySem.W.subIn K (.ref C_NoVersion) (.type "BaseException") = some true
  ty_NoVersion : PySem.W.typeIn K (.ref C_NoVersion) = some (.type "type")
  hd_NoVersion : PySem.W.hasDictIn K C_NoVersion = true
  ns_NothingToRedo : PySem.W.nsIn K mainGlobals "NothingToRedo" = some (some (.ref C_NothingToRedo))
  sb_NothingToRedo : PySem.W.subIn K (.ref C_NothingToRedo) (.type "BaseException") = some true
  ty_NothingToRedo : PySem.W.typeIn K (.ref C_NothingToRedo) = some (.type "type")
  hd_NothingToRedo : PySem.W.hasDictIn K C_NothingToRedo = true
  ns_NothingToUndo : PySem.W.nsIn K mainGlobals "NothingToUndo" = some (some (.ref C_NothingToUndo))
  sb_NothingToUndo : PySem.W.subIn K (.ref C_NothingToUndo) (.type "BaseException") = some true
  ty_NothingToUndo : PySem.W.typeIn K (.ref C_NothingToUndo) = some (.type "type")
  hd_NothingToUndo : PySem.W.hasDictIn K C_NothingToUndo = true
  ns_Refused : PySem.W.nsIn K mainGlobals "Refused" = some (some (.ref C_Refused))
  sb_Refused : PySem.W.subIn K (.ref C_Refused) (.type "BaseException") = some true
  ty_Refused : PySem.W.typeIn K (.ref C_Refused) = some (.type "type")
  hd_Refused : PySem.W.hasDictIn K C_Refused = true
  ns_TermError : PySem.W.nsIn K mainGlobals "TermError" = some (some (.ref C_TermError))
  sb_TermError : PySem.W.subIn K (.ref C_TermError) (.type "BaseException") = some true
  ty_TermError : PySem.W.typeIn K (.ref C_TermError) = some (.type "type")
  hd_TermError : PySem.W.hasDictIn K C_TermError = true
  ns_TooMany : PySem.W.nsIn K mainGlobals "TooMany" = some (some (.ref C_TooMany))
  sb_TooMany : PySem.W.subIn K (.ref C_TooMany) (.type "BaseException") = some true
  ty_TooMany : PySem.W.typeIn K (.ref C_TooMany) = some (.type "type")
  hd_TooMany : PySem.W.hasDictIn K C_TooMany = true
  ns_Unfit : PySem.W.nsIn K mainGlobals "Unfit" = some (some (.ref C_Unfit))
  sb_Unfit : PySem.W.subIn K (.ref C_Unfit) (.type "BaseException") = some true
  ty_Unfit : PySem.W.typeIn K (.ref C_Unfit) = some (.type "type")
  hd_Unfit : PySem.W.hasDictIn K C_Unfit = true
  xc_Unfit : PySem.W.excIn K C_Unfit [.type "ValueError", .type "Exception", .type "BaseException", .type "object"] "ValueError.__new__" = true
  kc_Unfit : PySem.W.keepIn K (.ref C_Unfit) = true
  ga_Unfit : PySem.W.findIn K (.ref C_Unfit) "__getattribute__" = some (some (.builtin "BaseException.__getattribute__"))
  gt_Unfit : PySem.W.findIn K (.ref C_Unfit) "__getattr__" = some none
  cl_Unfit : PySem.W.findIn K (.ref C_Unfit) "__class__" = some (some (.builtin "object.__class__"))
  mr_Unfit : PySem.W.mroIn K C_Unfit (.type "object") = some true
  sp_cls : PySem.W.specialIn K (.builtin "object.__class__") "__get__" = some (some (.builtin "getset_descriptor.__get__"))
  tk_cls : PySem.W.takesIn K (.builtin "object.__class__") = some true
  su_Unfit_BadLog : PySem.W.subIn K (.ref C_Unfit) (.ref C_BadLog) = some false
  ne_Unfit_BadLog : (C_Unfit == C_BadLog) = false
  su_Unfit_BadPolynomial : PySem.W.subIn K (.ref C_Unfit) (.ref C_BadPolynomial) = some false
  ne_Unfit_BadPolynomial : (C_Unfit == C_BadPolynomial) = false
  su_Unfit_BadText : PySem.W.subIn K (.ref C_Unfit) (.ref C_BadText) = some false
  ne_Unfit_BadText : (C_Unfit == C_BadText) = false
  su_Unfit_NoName : PySem.W.subIn K (.ref C_Unfit) (.ref C_NoName) = some false
  ne_Unfit_NoName : (C_Unfit == C_NoName) = false
  su_Unfit_NoVersion : PySem.W.subIn K (.ref C_Unfit) (.ref C_NoVersion) = some false
  ne_Unfit_NoVersion : (C_Unfit == C_NoVersion) = false
  su_Unfit_NothingToRedo : PySem.W.subIn K (.ref C_Unfit) (.ref C_NothingToRedo) = some false
  ne_Unfit_NothingToRedo : (C_Unfit == C_NothingToRedo) = false
  su_Unfit_NothingToUndo : PySem.W.subIn K (.ref C_Unfit) (.ref C_NothingToUndo) = some false
  ne_Unfit_NothingToUndo : (C_Unfit == C_NothingToUndo) = false
  su_Unfit_Refused : PySem.W.subIn K (.ref C_Unfit) (.ref C_Refused) = some false
  ne_Unfit_Refused : (C_Unfit == C_Refused) = false
  su_Unfit_TermError : PySem.W.subIn K (.ref C_Unfit) (.ref C_TermError) = some true
  su_Unfit_TooMany : PySem.W.subIn K (.ref C_Unfit) (.ref C_TooMany) = some false
  ne_Unfit_TooMany : (C_Unfit == C_TooMany) = false
  su_Unfit_ValueError : PySem.W.subIn K (.ref C_Unfit) (.type "ValueError") = some true
  dig : PySem.W.nsIn K cStatics "sys.int_max_str_digits" = some none
  z_ValueError : mg "ValueError" = none
  z_abs : mg "abs" = none
  z_int : mg "int" = none
  z_isinstance : mg "isinstance" = none
  z_len : mg "len" = none
  z_list : mg "list" = none
  z_range : mg "range" = none
  z_repr : mg "repr" = none
  z_reversed : mg "reversed" = none
  z_str : mg "str" = none
  z_sum : mg "sum" = none
  z_tuple : mg "tuple" = none
  z_zip : mg "zip" = none
section
variable {P : Program} {w : World} {K : PySem.W.Frag} {mg : Str → Option Value} {base : Heap}
theorem Facts.ec_Unfit (J : Facts K mg) : ExcC K J.C_Unfit := ⟨J.ga_Unfit, J.gt_Unfit, J.sb_Unfit, J.hd_Unfit, J.cl_Unfit, J.sp_cls, J.tk_cls, J.mr_Unfit⟩
theorem kit_Unfit_BadLog (J : Facts K mg) : PySem.W.kitOne K (.ref J.C_Unfit) (.ref J.C_BadLog) = some false := kit_ref J.hd_BadLog J.ty_BadLog J.su_Unfit_BadLog (.inr J.ne_Unfit_BadLog)
theorem exm_Unfit_BadLog (J : Facts K mg) {e : Exn} {cl : Value} {d : Option Addr} {H : Hp} (h : Er K e cl d H) : PySem.W.exmOne K cl (.ref J.C_BadLog) = some false := by
  obtain ⟨_, _, hn⟩ := h
  cases (Option.some.inj (Option.some.inj (hn.symm.trans J.ns_Unfit)) : cl = .ref J.C_Unfit)
  exact exm_ref J.sb_BadLog J.hd_BadLog J.ty_BadLog J.su_Unfit_BadLog
theorem kit_Unfit_BadPolynomial (J : Facts K mg) : PySem.W.kitOne K (.ref J.C_Unfit) (.ref J.C_BadPolynomial) = some false := kit_ref J.hd_BadPolynomial J.ty_BadPolynomial J.su_Unfit_BadPolynomial (.inr J.ne_Unfit_BadPolynomial)
theorem exm_Unfit_BadPolynomial (J : Facts K mg) {e : Exn} {cl : Value} {d : Option Addr} {H : Hp} (h : Er K e cl d H) : PySem.W.exmOne K cl (.ref J.C_BadPolynomial) = some false := by
  obtain ⟨_, _, hn⟩ := h
  cases (Option.some.inj (Option.some.inj (hn.symm.trans J.ns_Unfit)) : cl = .ref J.C_Unfit)
  exact exm_ref J.sb_BadPolynomial J.hd_BadPolynomial J.ty_BadPolynomial J.su_Unfit_BadPolynomial
theorem kit_Unfit_BadText (J : Facts K mg) : PySem.W.kitOne K (.ref J.C_Unfit) (.ref J.C_BadText) = some false := kit_ref J.hd_BadText J.ty_BadText J.su_Unfit_BadText (.inr J.ne_Unfit_BadText)
theorem exm_Unfit_BadText (J : Facts K mg) {e : Exn} {cl : Value} {d : Option Addr} {H : Hp} (h : Er K e cl d H) : PySem.W.exmOne K cl (.ref J.C_BadText) = some false := by
  obtain ⟨_, _, hn⟩ := h
  cases (Option.some.inj (Option.some.inj (hn.symm.trans J.ns_Unfit)) : cl = .ref J.C_Unfit)
  exact exm_ref J.sb_BadText J.hd_BadText J.ty_BadText J.su_Unfit_BadText
theorem kit_Unfit_NoName (J : Facts K mg) : PySem.W.kitOne K (.ref J.C_Unfit) (.ref J.C_NoName) = some false := kit_ref J.hd_NoName J.ty_NoName J.su_Unfit_NoName (.inr J.ne_Unfit_NoName)
theorem exm_Unfit_NoName (J : Facts K mg) {e : Exn} {cl : Value} {d : Option Addr} {H : Hp} (h : Er K e cl d H) : PySem.W.exmOne K cl (.ref J.C_NoName) = some false := by
  obtain ⟨_, _, hn⟩ := h
  cases (Option.some.inj (Option.some.inj (hn.symm.trans J.ns_Unfit)) : cl = .ref J.C_Unfit)
  exact exm_ref J.sb_NoName J.hd_NoName J.ty_NoName J.su_Unfit_NoName
theorem kit_Unfit_NoVersion (J : Facts K mg) : PySem.W.kitOne K (.ref J.C_Unfit) (.ref J.C_NoVersion) = some false := kit_ref J.hd_NoVersion J.ty_NoVersion J.su_Unfit_NoVersion (.inr J.ne_Unfit_NoVersion)
theorem exm_Unfit_NoVersion (J : Facts K mg) {e : Exn} {cl : Value} {d : Option Addr} {H : Hp} (h : Er K e cl d H) : PySem.W.exmOne K cl (.ref J.C_NoVersion) = some false := by
  obtain ⟨_, _, hn⟩ := h
  cases (Option.some.inj (Option.some.inj (hn.symm.trans J.ns_Unfit)) : cl = .ref J.C_Unfit)
  exact exm_ref J.sb_NoVersion J.hd_NoVersion J.ty_NoVersion J.su_Unfit_NoVersion
theorem kit_Unfit_NothingToRedo (J : Facts K mg) : PySem.W.kitOne K (.ref J.C_Unfit) (.ref J.C_NothingToRedo) = some false := kit_ref J.hd_NothingToRedo J.ty_NothingToRedo J.su_Unfit_NothingToRedo (.inr J.ne_Unfit_NothingToRedo)
theorem exm_Unfit_NothingToRedo (J : Facts K mg) {e : Exn} {cl : Value} {d : Option Addr} {H : Hp} (h : Er K e cl d H) : PySem.W.exmOne K cl (.ref J.C_NothingToRedo) = some false := by
  obtain ⟨_, _, hn⟩ := h
  cases (Option.some.inj (Option.some.inj (hn.symm.trans J.ns_Unfit)) : cl = .ref J.C_Unfit)
  exact exm_ref J.sb_NothingToRedo J.hd_NothingToRedo J.ty_NothingToRedo J.su_Unfit_NothingToRedo
theorem kit_Unfit_NothingToUndo (J : Facts K mg) : PySem.W.kitOne K (.ref J.C_Unfit) (.ref J.C_NothingToUndo) = some false := kit_ref J.hd_NothingToUndo J.ty_NothingToUndo J.su_Unfit_NothingToUndo (.inr J.ne_Unfit_NothingToUndo)
theorem exm_Unfit_NothingToUndo (J : Facts K mg) {e : Exn} {cl : Value} {d : Option Addr} {H : Hp} (h : Er K e cl d H) : PySem.W.exmOne K cl (.ref J.C_NothingToUndo) = some false := by
  obtain ⟨_, _, hn⟩ := h
  cases (Option.some.inj (Option.some.inj (hn.symm.trans J.ns_Unfit)) : cl = .ref J.C_Unfit)
  exact exm_ref J.sb_NothingToUndo J.hd_NothingToUndo J.ty_NothingToUndo J.su_Unfit_NothingToUndo
theorem kit_Unfit_Refused (J : Facts K mg) : PySem.W.kitOne K (.ref J.C_Unfit) (.ref J.C_Refused) = some false := kit_ref J.hd_Refused J.ty_Refused J.su_Unfit_Refused (.inr J.ne_Unfit_Refused)
theorem exm_Unfit_Refused (J : Facts K mg) {e : Exn} {cl : Value} {d : Option Addr} {H : Hp} (h : Er K e cl d H) : PySem.W.exmOne K cl (.ref J.C_Refused) = some false := by
  obtain ⟨_, _, hn⟩ := h
  cases (Option.some.inj (Option.some.inj (hn.symm.trans J.ns_Unfit)) : cl = .ref J.C_Unfit)
  exact exm_ref J.sb_Refused J.hd_Refused J.ty_Refused J.su_Unfit_Refused
theorem kit_Unfit_TermError (J : Facts K mg) : PySem.W.kitOne K (.ref J.C_Unfit) (.ref J.C_TermError) = some true := kit_ref J.hd_TermError J.ty_TermError J.su_Unfit_TermError (.inl rfl)
theorem exm_Unfit_TermError (J : Facts K mg) {e : Exn} {cl : Value} {d : Option Addr} {H : Hp} (h : Er K e cl d H) : PySem.W.exmOne K cl (.ref J.C_TermError) = some true := by
  obtain ⟨_, _, hn⟩ := h
  cases (Option.some.inj (Option.some.inj (hn.symm.trans J.ns_Unfit)) : cl = .ref J.C_Unfit)
  exact exm_ref J.sb_TermError J.hd_TermError J.ty_TermError J.su_Unfit_TermError
theorem kit_Unfit_TooMany (J : Facts K mg) : PySem.W.kitOne K (.ref J.C_Unfit) (.ref J.C_TooMany) = some false := kit_ref J.hd_TooMany J.ty_TooMany J.su_Unfit_TooMany (.inr J.ne_Unfit_TooMany)
theorem exm_Unfit_TooMany (J : Facts K mg) {e : Exn} {cl : Value} {d : Option Addr} {H : Hp} (h : Er K e cl d H) : PySem.W.exmOne K cl (.ref J.C_TooMany) = some false := by
  obtain ⟨_, _, hn⟩ := h
  cases (Option.some.inj (Option.some.inj (hn.symm.trans J.ns_Unfit)) : cl = .ref J.C_Unfit)
  exact exm_ref J.sb_TooMany J.hd_TooMany J.ty_TooMany J.su_Unfit_TooMany
theorem kit_Unfit_Unfit (J : Facts K mg) : PySem.W.kitOne K (.ref J.C_Unfit) (.ref J.C_Unfit) = some true := kit_self
theorem kit_Unfit_ValueError (J : Facts K mg) : PySem.W.kitOne K (.ref J.C_Unfit) (.type "ValueError") = some true := kit_typ (by decide +kernel) J.su_Unfit_ValueError
theorem ok_product_item (J : Facts K mg) : FnG P w K mg base CX0 1 J.f_product_item J.fd_product_item ["one", "other", "n"] (spF K (Er K) false 3 m_product_item) := okF J.F_product_item sc_product_item rfl fun cdv A outer s H XE hG hr =>
    (mss_one (ms_ret (mo_sum rfl (by rfl) J.z_sum (me_frz (mo_lc (own := [("i", 3)]) (ow := [false, false, false, true]) rfl sc_product_item.nd (blkOk_by (N := ["one", "other", "n", "i"]) (sc := defScope s_product_item) (by decide +kernel)) (show Flags [false, false, false, true] 4 [3] from by unfold Flags; decide) (mi_range1 (by rfl) J.z_range (me_frz (mo_add rfl (me_var (pv 2)) me_int))) (fun _ _ _ _ _ => (mg_name sc_product_item.nd rfl (by first | exact .inl rfl | exact .inr rfl))) (fun _ _ _ _ _ => pts_no) (fun _ _ _ _ _ => (me_frz (mo_mul rfl (me_at rfl (pv 0) (me_var (pv 3)) (fun _ _ => rfl)) (me_at rfl (pv 1) (me_frz (mo_sub (me_var (pv 2)) (me_var (pv 3)))) (fun _ _ => rfl))))))))))
theorem ok_series_product (J : Facts K mg) : FnG P w K mg base CX0 2 J.f_series_product J.fd_series_product ["one", "other"] (spF K (Er K) false 2 m_series_product) := okF J.F_series_product sc_series_product rfl fun cdv A outer s H XE hG hr =>
    (mss_one (ms_ret (mo_tuple rfl (by rfl) J.z_tuple (me_frz (mo_lc (own := [("n", 2)]) (ow := [false, false, true]) rfl sc_series_product.nd (blkOk_by (N := ["one", "other", "n"]) (sc := defScope s_series_product) (by decide +kernel)) (show Flags [false, false, true] 3 [2] from by unfold Flags; decide) (mi_range1 (by rfl) J.z_range (me_frz (mo_len rfl (by rfl) J.z_len (me_var (pv 0))))) (fun _ _ _ _ _ => (mg_name sc_series_product.nd rfl (by first | exact .inl rfl | exact .inr rfl))) (fun _ _ _ _ _ => pts_no) (fun _ _ _ _ _ => (me_frz (mo_call (ok_product_item J) hG (hr.mono (by decide)) (by rfl) J.g_product_item J.F_product_item.kp J.b_product_item (mr_val (me_var (pv 0)) (mr_val (me_var (pv 1)) (mr_val (me_var (pv 2)) mr_nil)))))))))))
theorem ok_unit_series (J : Facts K mg) : FnG P w K mg base CX0 1 J.f_unit_series J.fd_unit_series ["many"] (spF K (Er K) false 1 m_unit_series) := okF J.F_unit_series sc_unit_series rfl fun cdv A outer s H XE hG hr =>
    (mss_one (ms_ret (mo_add rfl (me_tup (ma_cons me_int ma_nil)) (me_frz (mo_times rfl (me_tup (ma_cons me_int ma_nil)) (me_frz (mo_sub (me_var (pv 0)) me_int)))))))
theorem ok_put_into (J : Facts K mg) : FnG P w K mg base CX0 3 J.f_put_into J.fd_put_into ["one", "other"] (spF K (Er K) false 2 m_put_into) := okF J.F_put_into sc_put_into rfl fun cdv A outer s H XE hG hr =>
    (mss_cons (ms_par2 rfl sc_put_into.nd rfl rfl (by decide) rfl rfl (mao_cons (mo_fz (me_frz (mo_times rfl (me_tup (ma_cons me_int ma_nil)) (me_frz (mo_len rfl (by rfl) J.z_len (me_var (pv 0))))))) (mao_cons (mo_fz (me_frz (mo_call (ok_unit_series J) hG (hr.mono (by decide)) (by rfl) J.g_unit_series J.F_unit_series.kp J.b_unit_series (mr_val (me_frz (mo_len rfl (by rfl) J.z_len (me_var (pv 0)))) mr_nil)))) mao_nil)) (by decide) (by decide) rfl)
    (mss_cons (ms_for PassesOwn.never rfl (mi_seq rfl (me_var (pv 0))) (mg_name sc_put_into.nd rfl (by first | exact .inl rfl | exact .inr rfl)) (mss_cons (ms_asg (me_frz (mo_tuple rfl (by rfl) J.z_tuple (me_frz (mo_lc (own := [("here", 5), ("more", 6)]) (ow := [false, false, false, false, false, true, true]) rfl sc_put_into.nd (blkOk_by (N := ["one", "other", "found", "power", "item", "here", "more"]) (sc := defScope s_put_into) (by decide +kernel)) (show Flags [false, false, false, false, false, true, true] 7 [5, 6] from by unfold Flags; decide) (mi_zip2 rfl (by rfl) J.z_zip (me_var (pv 2)) (me_var (pv 3))) (fun _ _ _ _ _ => (mg_tup rfl rfl (mgs_cons (mg_name sc_put_into.nd rfl (by first | exact .inl rfl | exact .inr rfl)) (mgs_cons (mg_name sc_put_into.nd rfl (by first | exact .inl rfl | exact .inr rfl)) mgs_nil)))) (fun _ _ _ _ _ => pts_no) (fun _ _ _ _ _ => (me_frz (mo_add rfl (me_var (pv 5)) (me_frz (mo_mul rfl (me_var (pv 4)) (me_var (pv 6))))))))))) (mg_name sc_put_into.nd rfl (by first | exact .inl rfl | exact .inr rfl)))
    (mss_one (ms_asg (me_frz (mo_call (ok_series_product J) hG (hr.mono (by decide)) (by rfl) J.g_series_product J.F_series_product.kp J.b_series_product (mr_val (me_var (pv 3)) (mr_val (me_var (pv 1)) mr_nil)))) (mg_name sc_put_into.nd rfl (by first | exact .inl rfl | exact .inr rfl))))))
    (mss_one (ms_ret (mo_var (pv 2))))))
theorem ok_turned_about (J : Facts K mg) : FnG P w K mg base (L2.CX P w) 4 J.f_turned_about J.fd_turned_about ["row"] (spF K (Er K) true 1 m_turned_about) := okFX J.F_turned_about sc_turned_about rfl fun cdv A outer s H XE hG hr tk hp =>
    (mss_cons (ms_if (MW.mt (mw_or (mt_lt (me_frz (mo_len rfl (by rfl) J.z_len (me_var (pv 0)))) me_int (by first | rfl | exact nomark _)) (mw_or (mt_ne rfl (Room.units hr) (me_at rfl (pv 0) me_int (fun _ _ => rfl)) me_int (by first | rfl | exact nomark _)) (mw_or1 (mt_notIn rfl (me_at rfl (pv 0) me_int (fun _ _ => rfl)) (me_tup (ma_cons me_int (ma_cons (me_frz (mo_neg me_int)) ma_nil))) (by rfl)))))) (mss_one (ms_raise0 rfl tk PySem.F.excBase_ValueError J.xc_Unfit J.c_Unfit J.kc_Unfit (raises_own J.sb_Unfit J.ty_Unfit) (by rfl) (fun _ => ⟨rfl, rfl, J.ns_Unfit⟩))) mss_nil)
    (mss_cons (ms_set sc_turned_about.nd rfl (by first | exact .inl rfl | exact .inr rfl) (mo_lst (ma_cons me_int (ma_cons (me_at rfl (pv 0) me_int (fun _ _ => rfl)) ma_nil))))
    (mss_cons (ms_for hp rfl (mi_range2 (by rfl) J.z_range me_int (me_frz (mo_len rfl (by rfl) J.z_len (me_var (pv 0))))) (mg_name sc_turned_about.nd rfl (by first | exact .inl rfl | exact .inr rfl)) (mss_cons (ms_asg (me_ix rfl (me_frz (mo_call (ok_put_into J) hG (hr.mono (by decide)) (by rfl) J.g_put_into J.F_put_into.kp J.b_put_into (mr_val (me_frz (mo_slice rfl (me_var (pv 0)) mp_no (mp_some (me_frz (mo_add rfl (me_var (pv 2)) me_int))))) (mr_val (me_frz (mo_add rfl (me_lend (me_frz (mo_tuple rfl (by rfl) J.z_tuple (me_var (pv 1))))) (me_tup (ma_cons me_int ma_nil)))) mr_nil)))) (me_var (pv 2)) (fun _ _ => rfl)) (mg_name sc_turned_about.nd rfl (by first | exact .inl rfl | exact .inr rfl)))
    (mss_one (ms_expr (me_append (pv 1) (me_frz (mo_mul rfl (me_frz (mo_neg (me_var (pv 3)))) (me_at rfl (pv 0) me_int (fun _ _ => rfl)))))))))
    (mss_one (ms_ret (mo_tuple rfl (by rfl) J.z_tuple (me_var (pv 1))))))))
theorem ok_turned_item (J : Facts K mg) : FnG P w K mg base (L2.CX P w) 5 J.f_turned_item J.fd_turned_item ["row", "n"] (spF K (Er K) true 2 m_turned_item) := okFX J.F_turned_item sc_turned_item rfl fun cdv A outer s H XE hG hr tk hp =>
    (mss_one (ms_ret (mo_fz (me_ix rfl (me_frz (mo_callX tk (ok_turned_about J) hG (hr.mono (by decide)) (by rfl) J.g_turned_about J.F_turned_about.kp J.b_turned_about (mr_val (me_var (pv 0)) mr_nil))) (me_var (pv 1)) (fun _ _ => rfl)))))
theorem ok_root_series (J : Facts K mg) : FnG P w K mg base (L2.CX P w) 1 J.f_root_series J.fd_root_series ["row"] (spF K (Er K) true 1 m_root_series) := okFX J.F_root_series sc_root_series rfl fun cdv A outer s H XE hG hr tk hp =>
    (mss_cons (ms_if (mt_ne rfl (Room.units hr) (me_at rfl (pv 0) me_int (fun _ _ => rfl)) me_int (by first | rfl | exact nomark _)) (mss_one (ms_raise0 rfl tk PySem.F.excBase_ValueError J.xc_Unfit J.c_Unfit J.kc_Unfit (raises_own J.sb_Unfit J.ty_Unfit) (by rfl) (fun _ => ⟨rfl, rfl, J.ns_Unfit⟩))) mss_nil)
    (mss_cons (ms_set sc_root_series.nd rfl (by first | exact .inl rfl | exact .inr rfl) (mo_lst (ma_cons me_int ma_nil)))
    (mss_cons (ms_for hp rfl (mi_range2 (by rfl) J.z_range me_int (me_frz (mo_len rfl (by rfl) J.z_len (me_var (pv 0))))) (mg_name sc_root_series.nd rfl (by first | exact .inl rfl | exact .inr rfl)) (mss_cons (ms_asg (me_frz (mo_sub (me_at rfl (pv 0) (me_var (pv 2)) (fun _ _ => rfl)) (me_frz (mo_sum rfl (by rfl) J.z_sum (me_frz (mo_lc (own := [("i", 4)]) (ow := [false, false, false, false, true]) rfl sc_root_series.nd (blkOk_by (N := ["row", "found", "n", "twice", "i"]) (sc := defScope s_root_series) (by decide +kernel)) (show Flags [false, false, false, false, true] 5 [4] from by unfold Flags; decide) (mi_range2 (by rfl) J.z_range me_int (me_var (pv 2))) (fun _ _ _ _ _ => (mg_name sc_root_series.nd rfl (by first | exact .inl rfl | exact .inr rfl))) (fun _ _ _ _ _ => pts_no) (fun _ _ _ _ _ => (me_frz (mo_mul rfl (me_at rfl (pv 1) (me_var (pv 4)) (fun _ _ => rfl)) (me_at rfl (pv 1) (me_frz (mo_sub (me_var (pv 2)) (me_var (pv 4)))) (fun _ _ => rfl))))))))))) (mg_name sc_root_series.nd rfl (by first | exact .inl rfl | exact .inr rfl)))
    (mss_cons (ms_if (mt_eq rfl (Room.units hr) (me_frz (mo_and1 (me_var (pv 3)) me_int)) me_int (by first | rfl | exact nomark _)) (mss_one (ms_raise0 rfl tk PySem.F.excBase_ValueError J.xc_Unfit J.c_Unfit J.kc_Unfit (raises_own J.sb_Unfit J.ty_Unfit) (by rfl) (fun _ => ⟨rfl, rfl, J.ns_Unfit⟩))) mss_nil)
    (mss_one (ms_expr (me_append (pv 1) (me_frz (mo_fdiv (me_var (pv 3)) me_int))))))))
    (mss_one (ms_ret (mo_tuple rfl (by rfl) J.z_tuple (me_var (pv 1))))))))
theorem ok__law_own_bag (J : Facts K mg) : FnG P w K mg base CX0 1 J.f__law_own_bag J.fd__law_own_bag ["script"] (spF K (Er K) false 1 m__law_own_bag) := okF J.F__law_own_bag sc__law_own_bag rfl fun cdv A outer s H XE hG hr =>
    (mss_cons (ms_asgLc (i := 1) (own := [("cell", 2)]) (ow := [false, false, true, false]) rfl sc__law_own_bag.nd rfl rfl (sw_true rfl rfl rfl (by decide +kernel)) (blkOk_by (N := ["script", "cells", "cell", "mixed"]) (sc := defScope s__law_own_bag) (by decide +kernel)) (show Flags [false, false, true, false] 4 [2] from by unfold Flags; decide) (mi_seq rfl (me_frz (mo_slice rfl (me_var (pv 0)) mp_no (mp_some me_int)))) (fun _ _ _ _ _ => (mg_name sc__law_own_bag.nd rfl (by first | exact .inl rfl | exact .inr rfl))) (fun _ _ _ _ _ => pts_no) (fun _ _ _ _ _ => (me_frz (mo_mod (me_frz (mo_abs (by rfl) J.z_abs (me_var (pv 2)))) (me_frz (mo_pow (me_frz (mo_pow me_int me_int)) me_int))))))
    (mss_cons (ms_asg (me_frz (mo_add rfl me_int (me_frz (mo_len rfl (by rfl) J.z_len (me_var (pv 1)))))) (mg_name sc__law_own_bag.nd rfl (by first | exact .inl rfl | exact .inr rfl)))
    (mss_cons (ms_for PassesOwn.never rfl (mi_seq rfl (me_var (pv 1))) (mg_name sc__law_own_bag.nd rfl (by first | exact .inl rfl | exact .inr rfl)) (mss_one (ms_asg (me_frz (mo_mod (me_frz (mo_int (by rfl) J.z_int (me_frz (mo_add rfl (me_frz (mo_add rfl (me_frz (mo_mul rfl (me_var (pv 3)) me_int)) (me_frz (mo_mod (me_frz (mo_int (by rfl) J.z_int (me_var (pv 2)))) me_int)))) me_int)))) me_int)) (mg_name sc__law_own_bag.nd rfl (by first | exact .inl rfl | exact .inr rfl)))))
    (mss_one (ms_ret (mo_nest (mao_cons (mo_listRev rfl (by rfl) J.z_list (by rfl) J.z_reversed (me_frz (mo_list rfl (by rfl) J.z_list (me_var (pv 1))))) (mao_cons (mo_fz me_int) (mao_cons (mo_fz (me_var (pv 3))) mao_nil)))))))))
theorem ok__law_draw (J : Facts K mg) : FnG P w K mg base CX0 1 J.f__law_draw J.fd__law_draw ["bag", "below"] (spF K (Er K) false 2 m__law_draw) := okF J.F__law_draw sc__law_draw rfl fun cdv A outer s H XE hG hr =>
    (mss_cons (ms_while PassesOwn.never (MW.mt (mw_and (mt_eq rfl (Room.units hr) (me_itemN (k := 1) (pe_place (pv 0))) me_int (by first | rfl | exact nomark _)) (mw_and1 (mt_emptyN (k := 0) rfl (Room.units hr) (pe_place (pv 0)))))) (mss_cons (ms_asg (me_popN (k := 0) (pe_place (pv 0))) (mg_name sc__law_draw.nd rfl (by first | exact .inl rfl | exact .inr rfl)))
    (mss_one (ms_item (me_if (mt_gt (me_var (pv 2)) (me_frz (mo_pow me_int me_int)) (by first | rfl | exact nomark _)) (me_var (pv 2)) me_int) (pv 0) me_int))))
    (mss_cons (ms_if (mt_gt (me_itemN (k := 1) (pe_place (pv 0))) me_int (by first | rfl | exact nomark _)) (mss_cons (ms_asg (me_frz (mo_mod (me_frz (mo_int (by rfl) J.z_int (me_itemN (k := 1) (pe_place (pv 0))))) (me_var (pv 1)))) (mg_name sc__law_draw.nd rfl (by first | exact .inl rfl | exact .inr rfl)))
    (mss_cons (ms_item (me_frz (mo_fdiv (me_itemN (k := 1) (pe_place (pv 0))) (me_var (pv 1)))) (pv 0) me_int)
    (mss_one (ms_ret (mo_var (pv 3)))))) mss_nil)
    (mss_cons (ms_item (me_frz (mo_mod (me_frz (mo_int (by rfl) J.z_int (me_frz (mo_add rfl (me_frz (mo_mul rfl (me_itemN (k := 2) (pe_place (pv 0))) me_int)) me_int)))) me_int)) (pv 0) me_int)
    (mss_one (ms_ret (mo_mod (me_frz (mo_int (by rfl) J.z_int (me_frz (mo_fdiv (me_frz (mo_mod (me_frz (mo_int (by rfl) J.z_int (me_frz (mo_mul rfl (me_itemN (k := 2) (pe_place (pv 0))) (me_itemN (k := 2) (pe_place (pv 0))))))) me_int)) me_int)))) (me_var (pv 1))))))))
theorem ok__law_pick (J : Facts K mg) : FnG P w K mg base CX0 2 J.f__law_pick J.fd__law_pick ["bag", "some"] (spF K (Er K) false 2 m__law_pick) := okF J.F__law_pick sc__law_pick rfl fun cdv A outer s H XE hG hr =>
    (mss_one (ms_ret (mo_fz (me_at rfl (pv 1) (me_frz (mo_call (ok__law_draw J) hG (hr.mono (by decide)) (by rfl) J.g__law_draw J.F__law_draw.kp J.b__law_draw (mr_ref (pv 0) (mr_val (me_frz (mo_len rfl (by rfl) J.z_len (me_var (pv 1)))) mr_nil)))) (fun _ _ => rfl)))))
theorem okr__law_seen (J : Facts K mg) : ∀ k : Nat, FnG P w K mg base CX0 (1 + k) J.f__law_seen J.fd__law_seen ["told", "deep"] (spF K (Er K) false 2 (m__law_seen k))
  | 0 => okF (k := 0) J.F__law_seen sc__law_seen rfl fun _ _ _ _ _ _ _ _ => mss_never
  | k + 1 => okF (k := 1 + k) J.F__law_seen sc__law_seen rfl fun cdv A outer s H XE hG hr =>
    (mss_cons (ms_if (MW.mt (mw_or (mt_isN (me_var (pv 0)) me_non (by first | rfl | exact nomark _)) (mw_or (mt_isTF (me_var (pv 0)) me_bl (by first | rfl | exact nomark _)) (mw_or1 (mt_isTF (me_var (pv 0)) me_bl (by first | rfl | exact nomark _)))))) (mss_one (ms_ret (mo_reprV rfl hG (Room.units hr) J.dig (by rfl) J.z_repr (me_var (pv 0))))) mss_nil)
    (mss_cons (ms_if (mt_val (me_isiV rfl (by rfl) J.z_isinstance (by rfl) J.z_str rfl (by decide) (by decide) (me_var (pv 0)))) (mss_one (ms_ret (mo_reprV rfl hG (Room.units hr) J.dig (by rfl) J.z_repr (me_var (pv 0))))) mss_nil)
    (mss_cons (ms_if (mt_val (me_isiV rfl (by rfl) J.z_isinstance (by rfl) J.z_int rfl (by decide) (by decide) (me_var (pv 0)))) (mss_one (ms_ret (mo_if (mt_lt (me_frz (mo_abs (by rfl) J.z_abs (me_var (pv 0)))) (me_frz (mo_pow (me_frz (mo_pow me_int me_int)) me_int)) (by first | rfl | exact nomark _)) (mo_reprV rfl hG (Room.units hr) J.dig (by rfl) J.z_repr (me_var (pv 0))) (mo_fz me_str)))) mss_nil)
    (mss_cons (ms_if (MW.mt (mw_and (mt_val (me_isiV rfl (by rfl) J.z_isinstance (by rfl) J.z_tuple rfl (by decide) (by decide) (me_var (pv 0)))) (mw_and1 (mt_gt (me_var (pv 1)) me_int (by first | rfl | exact nomark _))))) (mss_one (ms_ret (mo_add rfl (me_frz (mo_add rfl me_str (me_frz (mo_join rfl me_str (me_frz (mo_lc (own := [("item", 2)]) (ow := [false, false, true]) rfl sc__law_seen.nd (blkOk_by (N := ["told", "deep", "item"]) (sc := defScope s__law_seen) (by decide +kernel)) (show Flags [false, false, true] 3 [2] from by unfold Flags; decide) (mi_seq rfl (me_var (pv 0))) (fun _ _ _ _ _ => (mg_name sc__law_seen.nd rfl (by first | exact .inl rfl | exact .inr rfl))) (fun _ _ _ _ _ => pts_no) (fun _ _ _ _ _ => (me_frz (mo_add rfl (me_frz (mo_call (okr__law_seen J k) hG (hr.mono (Nat.le_refl _)) (by rfl) J.g__law_seen J.F__law_seen.kp J.b__law_seen (mr_val (me_var (pv 2)) (mr_val (me_frz (mo_sub (me_var (pv 1)) me_int)) mr_nil)))) me_str))))))))) me_str))) mss_nil)
    (mss_one (ms_ret (mo_fz me_str)))))))
theorem ok__law_seen (J : Facts K mg) : FnG P w K mg base CX0 6 J.f__law_seen J.fd__law_seen ["told", "deep"] (spF K (Er K) false 2 (m__law_seen 5)) := okr__law_seen J 5
theorem ok__law_told (J : Facts K mg) : FnG P w K mg base CX0 6 J.f__law_told J.fd__law_told ["word", "row", "n", "is_named"] (spF K (Er K) false 4 m__law_told) := okF J.F__law_told sc__law_told rfl fun cdv A outer s H XE hG hr =>
    (mss_one (ms_try (c := _) (er := Er K) (h := h__law_told_1) rfl rfl sc__law_told.nd rfl rfl ⟨by rfl, by decide, .inl J.c_TermError⟩ (fun e cl d H r he hr => exm_Unfit_TermError J he) (fun e r hr => by unfold h__law_told_1 at hr; split at hr <;> first | (cases hr; decide) | cases hr) (fun W pn xe tk hp => (mss_cons (ms_if (mt_eq rfl (Room.units hr) (me_var (pv 0)) me_str (by first | rfl | exact nomark _)) (mss_one (ms_ret (mo_lst (ma_cons me_str (ma_cons (me_if (mt_val (me_var (pv 3))) (me_frz (mo_callP0X (ks := ["row"]) tk (ok_turned_about J) hG (hr.mono (by decide)) (by rfl) J.g_turned_about J.F_turned_about.kp (kb_of (m := 0) (ix := [0]) (ks := ["row"]) J.F_turned_about (fun q => nomatch q) fun _ _ _ _ _ _ us ws h1 h2 => match us, ws, h1, h2 with | [], [_], _, _ => rfl) rfl (mk_cons (me_var (pv 1)) mk_nil))) (me_frz (mo_callX tk (ok_turned_about J) hG (hr.mono (by decide)) (by rfl) J.g_turned_about J.F_turned_about.kp J.b_turned_about (mr_val (me_var (pv 1)) mr_nil)))) ma_nil))))) mss_nil)
    (mss_cons (ms_if (mt_eq rfl (Room.units hr) (me_var (pv 0)) me_str (by first | rfl | exact nomark _)) (mss_one (ms_ret (mo_lst (ma_cons me_str (ma_cons (me_if (mt_val (me_var (pv 3))) (me_frz (mo_callP0X (ks := ["row", "n"]) tk (ok_turned_item J) hG (hr.mono (by decide)) (by rfl) J.g_turned_item J.F_turned_item.kp (kb_of (m := 0) (ix := [0, 1]) (ks := ["row", "n"]) J.F_turned_item (fun q => nomatch q) fun _ _ _ _ _ _ us ws h1 h2 => match us, ws, h1, h2 with | [], [_, _], _, _ => rfl) rfl (mk_cons (me_var (pv 1)) (mk_cons (me_var (pv 2)) mk_nil)))) (me_frz (mo_callX tk (ok_turned_item J) hG (hr.mono (by decide)) (by rfl) J.g_turned_item J.F_turned_item.kp J.b_turned_item (mr_val (me_var (pv 1)) (mr_val (me_var (pv 2)) mr_nil))))) ma_nil))))) mss_nil)
    (mss_one (ms_ret (mo_lst (ma_cons me_str (ma_cons (me_if (mt_val (me_var (pv 3))) (me_frz (mo_callP0X (ks := ["row"]) tk (ok_root_series J) hG (hr.mono (by decide)) (by rfl) J.g_root_series J.F_root_series.kp (kb_of (m := 0) (ix := [0]) (ks := ["row"]) J.F_root_series (fun q => nomatch q) fun _ _ _ _ _ _ us ws h1 h2 => match us, ws, h1, h2 with | [], [_], _, _ => rfl) rfl (mk_cons (me_var (pv 1)) mk_nil))) (me_frz (mo_callX tk (ok_root_series J) hG (hr.mono (by decide)) (by rfl) J.g_root_series J.F_root_series.kp J.b_root_series (mr_val (me_var (pv 1)) mr_nil)))) ma_nil))))))))
      (fun a oe cl d pn e r hz hv hh hex => by
        obtain ⟨_, rfl, rfl, hn⟩ := hex
        cases (Option.some.inj (Option.some.inj (hn.symm.trans J.ns_Unfit)) : cl = .ref J.C_Unfit)
        cases (Option.some.inj (show some (.lst [(.str "raised"), (.str "Unfit")]) = some r from hh))
        have hd : Hold (cxOf CX0 P w K mg base ["word", "row", "n", "is_named", "error"] "_law_told" (defScope s__law_told) J.f__law_told cdv A outer s H XE).nox a J.C_Unfit oe 4 "error" (fun σ H => σ[(4 : Nat)]? = some (some (.ref a)) ∧ Er K ⟨"Unfit", []⟩ (.ref J.C_Unfit) none H) := ⟨J.ec_Unfit, hz, hv, fun σ H h => h.1, fun σ H H' h _ => h⟩
        exact (hs_skip hd.stb (ht_val (he_isET hd (by rfl) J.z_isinstance (pv 4) (ha_cons hd.stb (he_c (pe_glob (v := .ref J.C_BadLog) (by rfl) J.c_BadLog rfl)) (ha_cons hd.stb (he_c (pe_glob (v := .ref J.C_BadPolynomial) (by rfl) J.c_BadPolynomial rfl)) (ha_cons hd.stb (he_c (pe_glob (v := .ref J.C_BadText) (by rfl) J.c_BadText rfl)) (ha_cons hd.stb (he_c (pe_glob (v := .ref J.C_NoName) (by rfl) J.c_NoName rfl)) (ha_cons hd.stb (he_c (pe_glob (v := .ref J.C_NothingToRedo) (by rfl) J.c_NothingToRedo rfl)) (ha_cons hd.stb (he_c (pe_glob (v := .ref J.C_NothingToUndo) (by rfl) J.c_NothingToUndo rfl)) (ha_cons hd.stb (he_c (pe_glob (v := .ref J.C_NoVersion) (by rfl) J.c_NoVersion rfl)) ha_nil))))))) (Nat.le_of_ble_eq_true rfl) (.cons (.own _) (.cons (.own _) (.cons (.own _) (.cons (.own _) (.cons (.own _) (.cons (.own _) (.cons (.own _) .nil))))))) (kitAny_cons (kit_Unfit_BadLog J) (fun _ => (kitAny_cons (kit_Unfit_BadPolynomial J) (fun _ => (kitAny_cons (kit_Unfit_BadText J) (fun _ => (kitAny_cons (kit_Unfit_NoName J) (fun _ => (kitAny_cons (kit_Unfit_NothingToRedo J) (fun _ => (kitAny_cons (kit_Unfit_NothingToUndo J) (fun _ => (kitAny_cons (kit_Unfit_NoVersion J) (fun _ => kitAny_nil) (fun z => nomatch z))) (fun z => nomatch z))) (fun z => nomatch z))) (fun z => nomatch z))) (fun z => nomatch z))) (fun z => nomatch z))) (fun z => nomatch z)))) (hs_skip hd.stb (ht_w (hw_or hd.stb (ht_val (he_isET hd (by rfl) J.z_isinstance (pv 4) (ha_cons hd.stb (he_c (pe_glob (v := .ref J.C_Refused) (by rfl) J.c_Refused rfl)) (ha_cons hd.stb (he_c (pe_glob (v := .ref J.C_TooMany) (by rfl) J.c_TooMany rfl)) ha_nil)) (Nat.le_of_ble_eq_true rfl) (.cons (.own _) (.cons (.own _) .nil)) (kitAny_cons (kit_Unfit_Refused J) (fun _ => (kitAny_cons (kit_Unfit_TooMany J) (fun _ => kitAny_nil) (fun z => nomatch z))) (fun z => nomatch z)))) (hw_or1 (ht_not (ht_val (he_isE hd (by rfl) J.z_isinstance (pv 4) (pe_bltn (v := .ty "ValueError") (by rfl) J.z_ValueError rfl rfl) (.ty _) (kit_Unfit_ValueError J))))))) (hs_lst (ha_cons hd.stb (he_c pe_str) (ha_cons hd.stb (he_if hd.stb (ht_val (he_isE hd (by rfl) J.z_isinstance (pv 4) (pe_glob (v := .ref J.C_Unfit) (by rfl) J.c_Unfit rfl) (.own _) (kit_Unfit_Unfit J))) (he_c pe_str) (he_c pe_str)) ha_nil)))))) (by decide) takes_none))
theorem ok__law_plain (J : Facts K mg) : FnG P w K mg base CX0 7 J.f__law_plain J.fd__law_plain ["told"] (spF K (Er K) false 1 m__law_plain) := okF J.F__law_plain sc__law_plain rfl fun cdv A outer s H XE hG hr =>
    (mss_one (ms_ret (mo_add rfl (me_frz (mo_add rfl (me_at rfl (pv 0) me_int (fun _ _ => rfl)) me_str)) (me_frz (mo_call (ok__law_seen J) hG (hr.mono (by decide)) (by rfl) J.g__law_seen J.F__law_seen.kp J.b__law_seen (mr_val (me_at rfl (pv 0) me_int (fun _ _ => rfl)) (mr_val me_int mr_nil)))))))
theorem ok__law_holds (J : Facts K mg) : FnG P w K mg base CX0 8 J.f__law_holds J.fd__law_holds ["word", "row", "n", "due"] (spF K (Er K) false 4 m__law_holds) := okF J.F__law_holds sc__law_holds rfl fun cdv A outer s H XE hG hr =>
    (mss_cons (ms_par2 rfl sc__law_holds.nd rfl rfl (by decide) rfl rfl (mao_cons (mo_fz (me_frz (mo_reprV rfl hG (Room.units hr) J.dig (by rfl) J.z_repr (me_var (pv 1))))) (mao_cons (mo_fz (me_frz (mo_call (ok__law_plain J) hG (hr.mono (by decide)) (by rfl) J.g__law_plain J.F__law_plain.kp J.b__law_plain (mr_val (me_var (pv 3)) mr_nil)))) mao_nil)) (by decide) (by decide) rfl)
    (mss_cons (ms_for PassesOwn.never rfl (mi_seq rfl (me_frz (mo_lst (ma_cons me_bl (ma_cons me_bl (ma_cons me_bl ma_nil)))))) (mg_name sc__law_holds.nd rfl (by first | exact .inl rfl | exact .inr rfl)) (mss_one (ms_if (mt_ne rfl (Room.units hr) (me_frz (mo_call (ok__law_plain J) hG (hr.mono (by decide)) (by rfl) J.g__law_plain J.F__law_plain.kp J.b__law_plain (mr_val (me_frz (mo_call (ok__law_told J) hG (hr.mono (by decide)) (by rfl) J.g__law_told J.F__law_told.kp J.b__law_told (mr_val (me_var (pv 0)) (mr_val (me_var (pv 1)) (mr_val (me_var (pv 2)) (mr_val (me_var (pv 6)) mr_nil)))))) mr_nil))) (me_var (pv 5)) (by first | rfl | exact nomark _)) (mss_one (ms_ret (mo_fz me_bl))) mss_nil)))
    (mss_one (ms_ret (mo_fz (me_eq rfl (Room.units hr) (me_frz (mo_reprV rfl hG (Room.units hr) J.dig (by rfl) J.z_repr (me_var (pv 1)))) (me_var (pv 4)) (by first | rfl | exact nomark _)))))))
theorem ok__law_own_row (J : Facts K mg) : FnG P w K mg base CX0 3 J.f__law_own_row J.fd__law_own_row ["bag", "many", "kind"] (spF K (Er K) false 3 m__law_own_row) := okF J.F__law_own_row sc__law_own_row rfl fun cdv A outer s H XE hG hr =>
    (mss_cons (ms_set sc__law_own_row.nd rfl (by first | exact .inl rfl | exact .inr rfl) (mo_lst ma_nil))
    (mss_cons (ms_for PassesOwn.never rfl (mi_range1 (by rfl) J.z_range (me_var (pv 1))) (mg_name sc__law_own_row.nd rfl (by first | exact .inl rfl | exact .inr rfl)) (mss_one (ms_if (mt_eq rfl (Room.units hr) (me_var (pv 2)) me_int (by first | rfl | exact nomark _)) (mss_one (ms_expr (me_append (pv 3) (me_frz (mo_sub (me_frz (mo_call (ok__law_draw J) hG (hr.mono (by decide)) (by rfl) J.g__law_draw J.F__law_draw.kp J.b__law_draw (mr_ref (pv 0) (mr_val me_int mr_nil)))) me_int))))) (mss_one (ms_if (mt_eq rfl (Room.units hr) (me_var (pv 2)) me_int (by first | rfl | exact nomark _)) (mss_one (ms_expr (me_append (pv 3) (me_frz (mo_sub (me_frz (mo_call (ok__law_draw J) hG (hr.mono (by decide)) (by rfl) J.g__law_draw J.F__law_draw.kp J.b__law_draw (mr_ref (pv 0) (mr_val me_int mr_nil)))) me_int))))) (mss_one (ms_if (mt_eq rfl (Room.units hr) (me_var (pv 2)) me_int (by first | rfl | exact nomark _)) (mss_one (ms_expr (me_append (pv 3) (me_frz (mo_sub (me_frz (mo_call (ok__law_draw J) hG (hr.mono (by decide)) (by rfl) J.g__law_draw J.F__law_draw.kp J.b__law_draw (mr_ref (pv 0) (mr_val me_int mr_nil)))) me_int))))) (mss_one (ms_if (mt_eq rfl (Room.units hr) (me_var (pv 2)) me_int (by first | rfl | exact nomark _)) (mss_one (ms_expr (me_append (pv 3) (me_frz (mo_call (ok__law_pick J) hG (hr.mono (by decide)) (by rfl) J.g__law_pick J.F__law_pick.kp J.b__law_pick (mr_ref (pv 0) (mr_val (me_frz (mo_lst (ma_cons me_int (ma_cons (me_frz (mo_neg me_int)) (ma_cons me_int (ma_cons (me_frz (mo_neg me_int)) (ma_cons me_int (ma_cons me_int ma_nil)))))))) mr_nil))))))) (mss_one (ms_expr (me_append (pv 3) (me_if (mt_gt (me_frz (mo_call (ok__law_draw J) hG (hr.mono (by decide)) (by rfl) J.g__law_draw J.F__law_draw.kp J.b__law_draw (mr_ref (pv 0) (mr_val me_int mr_nil)))) me_int (by first | rfl | exact nomark _)) me_int (me_frz (mo_sub (me_frz (mo_call (ok__law_draw J) hG (hr.mono (by decide)) (by rfl) J.g__law_draw J.F__law_draw.kp J.b__law_draw (mr_ref (pv 0) (mr_val me_int mr_nil)))) me_int)))))))))))))))
    (mss_one (ms_ret (mo_tuple rfl (by rfl) J.z_tuple (me_var (pv 3)))))))
theorem ok__law_own_product (J : Facts K mg) : FnG P w K mg base CX0 1 J.f__law_own_product J.fd__law_own_product ["one", "other"] (spF K (Er K) false 2 m__law_own_product) := okF J.F__law_own_product sc__law_own_product rfl fun cdv A outer s H XE hG hr =>
    (mss_cons (ms_set sc__law_own_product.nd rfl (by first | exact .inl rfl | exact .inr rfl) (mo_lst ma_nil))
    (mss_cons (ms_for PassesOwn.never rfl (mi_range1 (by rfl) J.z_range (me_frz (mo_len rfl (by rfl) J.z_len (me_var (pv 0))))) (mg_name sc__law_own_product.nd rfl (by first | exact .inl rfl | exact .inr rfl)) (mss_one (ms_expr (me_append (pv 2) (me_frz (mo_sum rfl (by rfl) J.z_sum (me_frz (mo_lc (own := [("j", 4)]) (ow := [false, false, false, false, true]) rfl sc__law_own_product.nd (blkOk_by (N := ["one", "other", "found", "i", "j"]) (sc := defScope s__law_own_product) (by decide +kernel)) (show Flags [false, false, false, false, true] 5 [4] from by unfold Flags; decide) (mi_range1 (by rfl) J.z_range (me_frz (mo_add rfl (me_var (pv 3)) me_int))) (fun _ _ _ _ _ => (mg_name sc__law_own_product.nd rfl (by first | exact .inl rfl | exact .inr rfl))) (fun _ _ _ _ _ => pts_no) (fun _ _ _ _ _ => (me_frz (mo_mul rfl (me_at rfl (pv 0) (me_var (pv 4)) (fun _ _ => rfl)) (me_at rfl (pv 1) (me_frz (mo_sub (me_var (pv 3)) (me_var (pv 4)))) (fun _ _ => rfl)))))))))))))
    (mss_one (ms_ret (mo_tuple rfl (by rfl) J.z_tuple (me_var (pv 2)))))))
theorem ok__law_own_other (J : Facts K mg) : FnG P w K mg base CX0 1 J.f__law_own_other J.fd__law_own_other ["row"] (spF K (Er K) false 1 m__law_own_other) := okF J.F__law_own_other sc__law_own_other rfl fun cdv A outer s H XE hG hr =>
    (mss_cons (ms_set sc__law_own_other.nd rfl (by first | exact .inl rfl | exact .inr rfl) (mo_lst (ma_cons (me_at rfl (pv 0) me_int (fun _ _ => rfl)) ma_nil)))
    (mss_cons (ms_for PassesOwn.never rfl (mi_range2 (by rfl) J.z_range me_int (me_frz (mo_len rfl (by rfl) J.z_len (me_var (pv 0))))) (mg_name sc__law_own_other.nd rfl (by first | exact .inl rfl | exact .inr rfl)) (mss_one (ms_expr (me_append (pv 1) (me_frz (mo_sub me_int (me_frz (mo_mul rfl (me_at rfl (pv 0) me_int (fun _ _ => rfl)) (me_frz (mo_sum rfl (by rfl) J.z_sum (me_frz (mo_lc (own := [("j", 3)]) (ow := [false, false, false, true]) rfl sc__law_own_other.nd (blkOk_by (N := ["row", "found", "i", "j"]) (sc := defScope s__law_own_other) (by decide +kernel)) (show Flags [false, false, false, true] 4 [3] from by unfold Flags; decide) (mi_range2 (by rfl) J.z_range me_int (me_frz (mo_add rfl (me_var (pv 2)) me_int))) (fun _ _ _ _ _ => (mg_name sc__law_own_other.nd rfl (by first | exact .inl rfl | exact .inr rfl))) (fun _ _ _ _ _ => pts_no) (fun _ _ _ _ _ => (me_frz (mo_mul rfl (me_at rfl (pv 0) (me_var (pv 3)) (fun _ _ => rfl)) (me_at rfl (pv 1) (me_frz (mo_sub (me_var (pv 2)) (me_var (pv 3)))) (fun _ _ => rfl)))))))))))))))))
    (mss_one (ms_ret (mo_tuple rfl (by rfl) J.z_tuple (me_var (pv 1)))))))
theorem ok__law_own_put (J : Facts K mg) : FnG P w K mg base CX0 2 J.f__law_own_put J.fd__law_own_put ["one", "other"] (spF K (Er K) false 2 m__law_own_put) := okF J.F__law_own_put sc__law_own_put rfl fun cdv A outer s H XE hG hr =>
    (mss_cons (ms_asg (me_frz (mo_times rfl (me_tup (ma_cons me_int ma_nil)) (me_frz (mo_len rfl (by rfl) J.z_len (me_var (pv 0)))))) (mg_name sc__law_own_put.nd rfl (by first | exact .inl rfl | exact .inr rfl)))
    (mss_cons (ms_for PassesOwn.never rfl (mi_rev rfl (by rfl) J.z_reversed (me_frz (mo_list rfl (by rfl) J.z_list (me_var (pv 0))))) (mg_name sc__law_own_put.nd rfl (by first | exact .inl rfl | exact .inr rfl)) (mss_cons (ms_asg (me_frz (mo_call (ok__law_own_product J) hG (hr.mono (by decide)) (by rfl) J.g__law_own_product J.F__law_own_product.kp J.b__law_own_product (mr_val (me_var (pv 2)) (mr_val (me_var (pv 1)) mr_nil)))) (mg_name sc__law_own_put.nd rfl (by first | exact .inl rfl | exact .inr rfl)))
    (mss_one (ms_asg (me_frz (mo_add rfl (me_tup (ma_cons (me_frz (mo_add rfl (me_at rfl (pv 4) me_int (fun _ _ => rfl)) (me_var (pv 3)))) ma_nil)) (me_frz (mo_slice rfl (me_var (pv 4)) (mp_some me_int) mp_no)))) (mg_name sc__law_own_put.nd rfl (by first | exact .inl rfl | exact .inr rfl))))))
    (mss_one (ms_ret (mo_var (pv 2))))))
theorem ok__law_can_be_turned (J : Facts K mg) : FnG P w K mg base CX0 1 J.f__law_can_be_turned J.fd__law_can_be_turned ["row"] (spF K (Er K) false 1 m__law_can_be_turned) := okF J.F__law_can_be_turned sc__law_can_be_turned rfl fun cdv A outer s H XE hG hr =>
    (mss_one (ms_ret (mo_fz (me_and (me_gt (me_frz (mo_len rfl (by rfl) J.z_len (me_var (pv 0)))) me_int (by first | rfl | exact nomark _)) (me_and (me_eq rfl (Room.units hr) (me_at rfl (pv 0) me_int (fun _ _ => rfl)) me_int (by first | rfl | exact nomark _)) (me_one (me_or (me_eq rfl (Room.units hr) (me_at rfl (pv 0) me_int (fun _ _ => rfl)) me_int (by first | rfl | exact nomark _)) (me_one (me_eq rfl (Room.units hr) (me_at rfl (pv 0) me_int (fun _ _ => rfl)) (me_frz (mo_neg me_int)) (by first | rfl | exact nomark _))))))))))
theorem ok__law_own_turned (J : Facts K mg) : FnG P w K mg base CX0 2 J.f__law_own_turned J.fd__law_own_turned ["row"] (spF K (Er K) false 1 m__law_own_turned) := okF J.F__law_own_turned sc__law_own_turned rfl fun cdv A outer s H XE hG hr =>
    (mss_cons (ms_asg (me_frz (mo_call (ok__law_own_other J) hG (hr.mono (by decide)) (by rfl) J.g__law_own_other J.F__law_own_other.kp J.b__law_own_other (mr_val (me_frz (mo_slice rfl (me_var (pv 0)) (mp_some me_int) mp_no)) mr_nil))) (mg_name sc__law_own_turned.nd rfl (by first | exact .inl rfl | exact .inr rfl)))
    (mss_cons (ms_par2 rfl sc__law_own_turned.nd rfl rfl (by decide) rfl rfl (mao_cons (mo_lst (ma_cons me_int ma_nil)) (mao_cons (mo_fz (me_var (pv 1))) mao_nil)) (by decide) (by decide) rfl)
    (mss_cons (ms_for PassesOwn.never rfl (mi_range2 (by rfl) J.z_range me_int (me_frz (mo_len rfl (by rfl) J.z_len (me_var (pv 0))))) (mg_name sc__law_own_turned.nd rfl (by first | exact .inl rfl | exact .inr rfl)) (mss_cons (ms_expr (me_append (pv 2) (me_frz (mo_fdiv (me_at rfl (pv 3) (me_frz (mo_sub (me_var (pv 4)) me_int)) (fun _ _ => rfl)) (me_var (pv 4))))))
    (mss_one (ms_asg (me_frz (mo_call (ok__law_own_product J) hG (hr.mono (by decide)) (by rfl) J.g__law_own_product J.F__law_own_product.kp J.b__law_own_product (mr_val (me_var (pv 3)) (mr_val (me_var (pv 1)) mr_nil)))) (mg_name sc__law_own_turned.nd rfl (by first | exact .inl rfl | exact .inr rfl))))))
    (mss_one (ms_ret (mo_tuple rfl (by rfl) J.z_tuple (me_var (pv 2))))))))
theorem ok__law_own_root (J : Facts K mg) : FnG P w K mg base CX0 1 J.f__law_own_root J.fd__law_own_root ["row"] (spF K (Er K) false 1 m__law_own_root) := okF J.F__law_own_root sc__law_own_root rfl fun cdv A outer s H XE hG hr =>
    (mss_cons (ms_if (mt_ne rfl (Room.units hr) (me_at rfl (pv 0) me_int (fun _ _ => rfl)) me_int (by first | rfl | exact nomark _)) (mss_one (ms_ret (mo_fz me_non))) mss_nil)
    (mss_cons (ms_set sc__law_own_root.nd rfl (by first | exact .inl rfl | exact .inr rfl) (mo_lst (ma_cons me_int ma_nil)))
    (mss_cons (ms_for PassesOwn.never rfl (mi_range2 (by rfl) J.z_range me_int (me_frz (mo_len rfl (by rfl) J.z_len (me_var (pv 0))))) (mg_name sc__law_own_root.nd rfl (by first | exact .inl rfl | exact .inr rfl)) (mss_cons (ms_asg (me_frz (mo_sub (me_at rfl (pv 0) (me_var (pv 2)) (fun _ _ => rfl)) (me_frz (mo_sum rfl (by rfl) J.z_sum (me_frz (mo_lc (own := [("j", 4)]) (ow := [false, false, false, false, true]) rfl sc__law_own_root.nd (blkOk_by (N := ["row", "found", "i", "rest", "j"]) (sc := defScope s__law_own_root) (by decide +kernel)) (show Flags [false, false, false, false, true] 5 [4] from by unfold Flags; decide) (mi_range2 (by rfl) J.z_range me_int (me_var (pv 2))) (fun _ _ _ _ _ => (mg_name sc__law_own_root.nd rfl (by first | exact .inl rfl | exact .inr rfl))) (fun _ _ _ _ _ => pts_no) (fun _ _ _ _ _ => (me_frz (mo_mul rfl (me_at rfl (pv 1) (me_var (pv 4)) (fun _ _ => rfl)) (me_at rfl (pv 1) (me_frz (mo_sub (me_var (pv 2)) (me_var (pv 4)))) (fun _ _ => rfl))))))))))) (mg_name sc__law_own_root.nd rfl (by first | exact .inl rfl | exact .inr rfl)))
    (mss_cons (ms_if (mt_eq rfl (Room.units hr) (me_frz (mo_mod (me_frz (mo_int (by rfl) J.z_int (me_var (pv 3)))) me_int)) me_int (by first | rfl | exact nomark _)) (mss_one (ms_ret (mo_fz me_non))) mss_nil)
    (mss_one (ms_expr (me_append (pv 1) (me_frz (mo_fdiv (me_var (pv 3)) me_int))))))))
    (mss_one (ms_ret (mo_tuple rfl (by rfl) J.z_tuple (me_var (pv 1))))))))
theorem ok__law_is_letter (J : Facts K mg) : FnG P w K mg base CX0 1 J.f__law_is_letter J.fd__law_is_letter ["told"] (spF K (Er K) false 1 m__law_is_letter) := okF J.F__law_is_letter sc__law_is_letter rfl fun cdv A outer s H XE hG hr =>
    (mss_one (ms_ret (mo_fz (me_eq rfl (Room.units hr) (me_var (pv 0)) (me_frz (mo_add rfl (me_tup (ma_cons me_int (ma_cons me_int ma_nil))) (me_frz (mo_times rfl (me_tup (ma_cons me_int ma_nil)) (me_frz (mo_sub (me_frz (mo_len rfl (by rfl) J.z_len (me_var (pv 0)))) me_int)))))) (by first | rfl | exact nomark _)))))
theorem ok__law_is_turned (J : Facts K mg) : FnG P w K mg base CX0 9 J.f__law_is_turned J.fd__law_is_turned ["bag", "row"] (spF K (Er K) false 2 m__law_is_turned) := okF J.F__law_is_turned sc__law_is_turned rfl fun cdv A outer s H XE hG hr =>
    (mss_cons (ms_asg (me_frz (mo_len rfl (by rfl) J.z_len (me_var (pv 1)))) (mg_name sc__law_is_turned.nd rfl (by first | exact .inl rfl | exact .inr rfl)))
    (mss_cons (ms_asg (me_frz (mo_lst (ma_cons me_int (ma_cons (me_frz (mo_sub (me_var (pv 2)) me_int)) (ma_cons (me_if (mt_gt (me_var (pv 2)) me_int (by first | rfl | exact nomark _)) me_int me_int) (ma_cons (me_frz (mo_call (ok__law_draw J) hG (hr.mono (by decide)) (by rfl) J.g__law_draw J.F__law_draw.kp J.b__law_draw (mr_ref (pv 0) (mr_val (me_var (pv 2)) mr_nil)))) ma_nil)))))) (mg_name sc__law_is_turned.nd rfl (by first | exact .inl rfl | exact .inr rfl)))
    (mss_cons (ms_if (mt_not (mt_val (me_frz (mo_call (ok__law_can_be_turned J) hG (hr.mono (by decide)) (by rfl) J.g__law_can_be_turned J.F__law_can_be_turned.kp J.b__law_can_be_turned (mr_val (me_var (pv 1)) mr_nil))))) (mss_cons (ms_asg (me_frz (mo_call (ok__law_pick J) hG (hr.mono (by decide)) (by rfl) J.g__law_pick J.F__law_pick.kp J.b__law_pick (mr_ref (pv 0) (mr_val (me_var (pv 3)) mr_nil)))) (mg_name sc__law_is_turned.nd rfl (by first | exact .inl rfl | exact .inr rfl)))
    (mss_cons (ms_asg (me_frz (mo_lst (ma_cons me_str (ma_cons me_str ma_nil)))) (mg_name sc__law_is_turned.nd rfl (by first | exact .inl rfl | exact .inr rfl)))
    (mss_one (ms_ret (mo_fz (me_and (me_frz (mo_call (ok__law_holds J) hG (hr.mono (by decide)) (by rfl) J.g__law_holds J.F__law_holds.kp J.b__law_holds (mr_val me_str (mr_val (me_var (pv 1)) (mr_val me_non (mr_val (me_var (pv 5)) mr_nil)))))) (me_one (me_frz (mo_call (ok__law_holds J) hG (hr.mono (by decide)) (by rfl) J.g__law_holds J.F__law_holds.kp J.b__law_holds (mr_val me_str (mr_val (me_var (pv 1)) (mr_val (me_var (pv 4)) (mr_val (me_var (pv 5)) mr_nil))))))))))))) mss_nil)
    (mss_cons (ms_asg (me_frz (mo_call (ok__law_own_turned J) hG (hr.mono (by decide)) (by rfl) J.g__law_own_turned J.F__law_own_turned.kp J.b__law_own_turned (mr_val (me_var (pv 1)) mr_nil))) (mg_name sc__law_is_turned.nd rfl (by first | exact .inl rfl | exact .inr rfl)))
    (mss_cons (ms_if (mt_not (mt_val (me_frz (mo_call (ok__law_holds J) hG (hr.mono (by decide)) (by rfl) J.g__law_holds J.F__law_holds.kp J.b__law_holds (mr_val me_str (mr_val (me_var (pv 1)) (mr_val me_non (mr_val (me_frz (mo_lst (ma_cons me_str (ma_cons (me_var (pv 6)) ma_nil)))) mr_nil)))))))) (mss_one (ms_ret (mo_fz me_bl))) mss_nil)
    (mss_cons (ms_asg (me_ix rfl (me_frz (mo_call (ok__law_told J) hG (hr.mono (by decide)) (by rfl) J.g__law_told J.F__law_told.kp J.b__law_told (mr_val me_str (mr_val (me_var (pv 1)) (mr_val me_non (mr_val me_bl mr_nil)))))) me_int (fun _ _ => rfl)) (mg_name sc__law_is_turned.nd rfl (by first | exact .inl rfl | exact .inr rfl)))
    (mss_cons (ms_if (mt_ne rfl (Room.units hr) (me_frz (mo_call (ok__law_seen J) hG (hr.mono (by decide)) (by rfl) J.g__law_seen J.F__law_seen.kp J.b__law_seen (mr_val (me_var (pv 7)) (mr_val me_int mr_nil)))) (me_frz (mo_call (ok__law_seen J) hG (hr.mono (by decide)) (by rfl) J.g__law_seen J.F__law_seen.kp J.b__law_seen (mr_val (me_var (pv 6)) (mr_val me_int mr_nil)))) (by first | rfl | exact nomark _)) (mss_one (ms_ret (mo_fz me_bl))) mss_nil)
    (mss_cons (ms_if (MW.mt (mw_or (mt_not (mt_val (me_frz (mo_call (ok__law_is_letter J) hG (hr.mono (by decide)) (by rfl) J.g__law_is_letter J.F__law_is_letter.kp J.b__law_is_letter (mr_val (me_frz (mo_call (ok__law_own_put J) hG (hr.mono (by decide)) (by rfl) J.g__law_own_put J.F__law_own_put.kp J.b__law_own_put (mr_val (me_var (pv 1)) (mr_val (me_var (pv 7)) mr_nil)))) mr_nil))))) (mw_or1 (mt_not (mt_val (me_frz (mo_call (ok__law_is_letter J) hG (hr.mono (by decide)) (by rfl) J.g__law_is_letter J.F__law_is_letter.kp J.b__law_is_letter (mr_val (me_frz (mo_call (ok__law_own_put J) hG (hr.mono (by decide)) (by rfl) J.g__law_own_put J.F__law_own_put.kp J.b__law_own_put (mr_val (me_var (pv 7)) (mr_val (me_var (pv 1)) mr_nil)))) mr_nil)))))))) (mss_one (ms_ret (mo_fz me_bl))) mss_nil)
    (mss_cons (ms_if (mt_not (mt_val (me_frz (mo_call (ok__law_holds J) hG (hr.mono (by decide)) (by rfl) J.g__law_holds J.F__law_holds.kp J.b__law_holds (mr_val me_str (mr_val (me_var (pv 7)) (mr_val me_non (mr_val (me_frz (mo_lst (ma_cons me_str (ma_cons (me_var (pv 1)) ma_nil)))) mr_nil)))))))) (mss_one (ms_ret (mo_fz me_bl))) mss_nil)
    (mss_cons (ms_for PassesOwn.never rfl (mi_seq rfl (me_frz (mo_slice rfl (me_var (pv 3)) mp_no (mp_some me_int)))) (mg_name sc__law_is_turned.nd rfl (by first | exact .inl rfl | exact .inr rfl)) (mss_one (ms_if (mt_ne rfl (Room.units hr) (me_frz (mo_call (ok__law_plain J) hG (hr.mono (by decide)) (by rfl) J.g__law_plain J.F__law_plain.kp J.b__law_plain (mr_val (me_frz (mo_call (ok__law_told J) hG (hr.mono (by decide)) (by rfl) J.g__law_told J.F__law_told.kp J.b__law_told (mr_val me_str (mr_val (me_var (pv 1)) (mr_val (me_var (pv 4)) (mr_val (me_eq rfl (Room.units hr) (me_frz (mo_call (ok__law_draw J) hG (hr.mono (by decide)) (by rfl) J.g__law_draw J.F__law_draw.kp J.b__law_draw (mr_ref (pv 0) (mr_val me_int mr_nil)))) me_int (by first | rfl | exact nomark _)) mr_nil)))))) mr_nil))) (me_frz (mo_call (ok__law_plain J) hG (hr.mono (by decide)) (by rfl) J.g__law_plain J.F__law_plain.kp J.b__law_plain (mr_val (me_frz (mo_lst (ma_cons me_str (ma_cons (me_at rfl (pv 6) (me_var (pv 4)) (fun _ _ => rfl)) ma_nil)))) mr_nil))) (by first | rfl | exact nomark _)) (mss_one (ms_ret (mo_fz me_bl))) mss_nil)))
    (mss_one (ms_ret (mo_call (ok__law_holds J) hG (hr.mono (by decide)) (by rfl) J.g__law_holds J.F__law_holds.kp J.b__law_holds (mr_val me_str (mr_val (me_var (pv 7)) (mr_val (me_at rfl (pv 3) me_int (fun _ _ => rfl)) (mr_val (me_frz (mo_lst (ma_cons me_str (ma_cons (me_at rfl (pv 1) (me_at rfl (pv 3) me_int (fun _ _ => rfl)) (fun _ _ => rfl)) ma_nil)))) mr_nil)))))))))))))))))
theorem ok__law_is_rooted (J : Facts K mg) : FnG P w K mg base CX0 9 J.f__law_is_rooted J.fd__law_is_rooted ["row"] (spF K (Er K) false 1 m__law_is_rooted) := okF J.F__law_is_rooted sc__law_is_rooted rfl fun cdv A outer s H XE hG hr =>
    (mss_cons (ms_asg (me_frz (mo_call (ok__law_own_root J) hG (hr.mono (by decide)) (by rfl) J.g__law_own_root J.F__law_own_root.kp J.b__law_own_root (mr_val (me_var (pv 0)) mr_nil))) (mg_name sc__law_is_rooted.nd rfl (by first | exact .inl rfl | exact .inr rfl)))
    (mss_one (ms_ret (mo_call (ok__law_holds J) hG (hr.mono (by decide)) (by rfl) J.g__law_holds J.F__law_holds.kp J.b__law_holds (mr_val me_str (mr_val (me_var (pv 0)) (mr_val me_non (mr_val (me_if (mt_isN (me_var (pv 1)) me_non (by first | rfl | exact nomark _)) (me_frz (mo_lst (ma_cons me_str (ma_cons me_str ma_nil)))) (me_frz (mo_lst (ma_cons me_str (ma_cons (me_var (pv 1)) ma_nil))))) mr_nil))))))))
theorem ok__law_are_roots (J : Facts K mg) : FnG P w K mg base CX0 10 J.f__law_are_roots J.fd__law_are_roots ["bag", "many"] (spF K (Er K) false 2 m__law_are_roots) := okF J.F__law_are_roots sc__law_are_roots rfl fun cdv A outer s H XE hG hr =>
    (mss_cons (ms_asg (me_frz (mo_add rfl (me_tup (ma_cons me_int ma_nil)) (me_frz (mo_slice rfl (me_frz (mo_call (ok__law_own_row J) hG (hr.mono (by decide)) (by rfl) J.g__law_own_row J.F__law_own_row.kp J.b__law_own_row (mr_ref (pv 0) (mr_val (me_var (pv 1)) (mr_val (me_frz (mo_call (ok__law_pick J) hG (hr.mono (by decide)) (by rfl) J.g__law_pick J.F__law_pick.kp J.b__law_pick (mr_ref (pv 0) (mr_val (me_frz (mo_lst (ma_cons me_int (ma_cons me_int (ma_cons me_int ma_nil))))) mr_nil)))) mr_nil))))) (mp_some me_int) mp_no)))) (mg_name sc__law_are_roots.nd rfl (by first | exact .inl rfl | exact .inr rfl)))
    (mss_cons (ms_if (mt_eq rfl (Room.units hr) (me_frz (mo_call (ok__law_draw J) hG (hr.mono (by decide)) (by rfl) J.g__law_draw J.F__law_draw.kp J.b__law_draw (mr_ref (pv 0) (mr_val me_int mr_nil)))) me_int (by first | rfl | exact nomark _)) (mss_one (ms_asg (me_frz (mo_tuple rfl (by rfl) J.z_tuple (me_frz (mo_lc (own := [("item", 3)]) (ow := [false, false, false, true, false, false, false, false, false, false]) rfl sc__law_are_roots.nd (blkOk_by (N := ["bag", "many", "root", "item", "row", "at", "near", "rows", "first", "one"]) (sc := defScope s__law_are_roots) (by decide +kernel)) (show Flags [false, false, false, true, false, false, false, false, false, false] 10 [3] from by unfold Flags; decide) (mi_seq rfl (me_var (pv 2))) (fun _ _ _ _ _ => (mg_name sc__law_are_roots.nd rfl (by first | exact .inl rfl | exact .inr rfl))) (fun _ _ _ _ _ => pts_no) (fun _ _ _ _ _ => (me_frz (mo_sub me_int (me_var (pv 3))))))))) (mg_name sc__law_are_roots.nd rfl (by first | exact .inl rfl | exact .inr rfl)))) mss_nil)
    (mss_cons (ms_par2 rfl sc__law_are_roots.nd rfl rfl (by decide) rfl rfl (mao_cons (mo_fz (me_frz (mo_call (ok__law_own_product J) hG (hr.mono (by decide)) (by rfl) J.g__law_own_product J.F__law_own_product.kp J.b__law_own_product (mr_val (me_var (pv 2)) (mr_val (me_var (pv 2)) mr_nil))))) (mao_cons (mo_fz (me_frz (mo_call (ok__law_draw J) hG (hr.mono (by decide)) (by rfl) J.g__law_draw J.F__law_draw.kp J.b__law_draw (mr_ref (pv 0) (mr_val (me_var (pv 1)) mr_nil))))) mao_nil)) (by decide) (by decide) rfl)
    (mss_cons (ms_asg (me_frz (mo_add rfl (me_frz (mo_add rfl (me_frz (mo_slice rfl (me_var (pv 4)) mp_no (mp_some (me_var (pv 5))))) (me_tup (ma_cons (me_if (mt_gt (me_at rfl (pv 4) (me_var (pv 5)) (fun _ _ => rfl)) me_int (by first | rfl | exact nomark _)) (me_frz (mo_sub (me_at rfl (pv 4) (me_var (pv 5)) (fun _ _ => rfl)) (me_frz (mo_call (ok__law_pick J) hG (hr.mono (by decide)) (by rfl) J.g__law_pick J.F__law_pick.kp J.b__law_pick (mr_ref (pv 0) (mr_val (me_frz (mo_lst (ma_cons me_int (ma_cons (me_frz (mo_neg me_int)) (ma_cons me_int (ma_cons me_int ma_nil)))))) mr_nil)))))) (me_frz (mo_add rfl (me_at rfl (pv 4) (me_var (pv 5)) (fun _ _ => rfl)) me_int))) ma_nil)))) (me_frz (mo_slice rfl (me_var (pv 4)) (mp_some (me_frz (mo_add rfl (me_var (pv 5)) me_int))) mp_no)))) (mg_name sc__law_are_roots.nd rfl (by first | exact .inl rfl | exact .inr rfl)))
    (mss_cons (ms_set sc__law_are_roots.nd rfl (by first | exact .inl rfl | exact .inr rfl) (mo_lst (ma_cons (me_var (pv 4)) (ma_cons (me_var (pv 6)) (ma_cons (me_frz (mo_add rfl (me_frz (mo_slice rfl (me_var (pv 4)) mp_no (mp_some (me_frz (mo_sub (me_var (pv 1)) me_int))))) (me_tup (ma_cons (me_frz (mo_add rfl (me_at rfl (pv 4) (me_frz (mo_sub (me_var (pv 1)) me_int)) (fun _ _ => rfl)) (me_if (mt_lt (me_at rfl (pv 4) (me_frz (mo_sub (me_var (pv 1)) me_int)) (fun _ _ => rfl)) me_int (by first | rfl | exact nomark _)) me_int (me_frz (mo_neg me_int))))) ma_nil)))) ma_nil)))))
    (mss_cons (ms_expr (me_append (pv 7) (me_frz (mo_add rfl (me_tup (ma_cons me_int ma_nil)) (me_frz (mo_tuple rfl (by rfl) J.z_tuple (me_frz (mo_lc (own := [("item", 3)]) (ow := [false, false, false, true, false, false, false, false, false, false]) rfl sc__law_are_roots.nd (blkOk_by (N := ["bag", "many", "root", "item", "row", "at", "near", "rows", "first", "one"]) (sc := defScope s__law_are_roots) (by decide +kernel)) (show Flags [false, false, false, true, false, false, false, false, false, false] 10 [3] from by unfold Flags; decide) (mi_seq rfl (me_frz (mo_slice rfl (me_frz (mo_call (ok__law_own_row J) hG (hr.mono (by decide)) (by rfl) J.g__law_own_row J.F__law_own_row.kp J.b__law_own_row (mr_ref (pv 0) (mr_val (me_var (pv 1)) (mr_val me_int mr_nil))))) (mp_some me_int) mp_no))) (fun _ _ _ _ _ => (mg_name sc__law_are_roots.nd rfl (by first | exact .inl rfl | exact .inr rfl))) (fun _ _ _ _ _ => pts_no) (fun _ _ _ _ _ => (me_frz (mo_mul rfl me_int (me_var (pv 3)))))))))))))
    (mss_cons (ms_expr (me_append (pv 7) (me_frz (mo_add rfl (me_tup (ma_cons (me_frz (mo_call (ok__law_pick J) hG (hr.mono (by decide)) (by rfl) J.g__law_pick J.F__law_pick.kp J.b__law_pick (mr_ref (pv 0) (mr_val (me_frz (mo_lst (ma_cons me_int (ma_cons me_int (ma_cons me_int (ma_cons (me_frz (mo_neg me_int)) (ma_cons me_int (ma_cons me_int (ma_cons me_int ma_nil))))))))) mr_nil)))) ma_nil)) (me_frz (mo_slice rfl (me_var (pv 4)) (mp_some me_int) mp_no))))))
    (mss_cons (ms_expr (me_append (pv 7) (me_frz (mo_add rfl (me_tup (ma_cons me_int ma_nil)) (me_frz (mo_slice rfl (me_frz (mo_call (ok__law_own_row J) hG (hr.mono (by decide)) (by rfl) J.g__law_own_row J.F__law_own_row.kp J.b__law_own_row (mr_ref (pv 0) (mr_val (me_var (pv 1)) (mr_val (me_frz (mo_call (ok__law_draw J) hG (hr.mono (by decide)) (by rfl) J.g__law_draw J.F__law_draw.kp J.b__law_draw (mr_ref (pv 0) (mr_val me_int mr_nil)))) mr_nil))))) (mp_some me_int) mp_no))))))
    (mss_cons (ms_expr (me_extend (pv 7) (me_frz (mo_lc (own := [("first", 8)]) (ow := [false, false, false, false, false, false, false, false, true, false]) rfl sc__law_are_roots.nd (blkOk_by (N := ["bag", "many", "root", "item", "row", "at", "near", "rows", "first", "one"]) (sc := defScope s__law_are_roots) (by decide +kernel)) (show Flags [false, false, false, false, false, false, false, false, true, false] 10 [8] from by unfold Flags; decide) (mi_seq rfl (me_frz (mo_lst (ma_cons me_int (ma_cons me_int (ma_cons me_int (ma_cons (me_frz (mo_neg me_int)) ma_nil))))))) (fun _ _ _ _ _ => (mg_name sc__law_are_roots.nd rfl (by first | exact .inl rfl | exact .inr rfl))) (fun _ _ _ _ _ => pts_no) (fun _ _ _ _ _ => (me_frz (mo_add rfl (me_tup (ma_cons (me_var (pv 8)) ma_nil)) (me_frz (mo_times rfl (me_tup (ma_cons me_int ma_nil)) (me_frz (mo_sub (me_var (pv 1)) me_int)))))))))))
    (mss_cons (ms_expr (me_append (pv 7) (me_frz (mo_call (ok__law_own_other J) hG (hr.mono (by decide)) (by rfl) J.g__law_own_other J.F__law_own_other.kp J.b__law_own_other (mr_val (me_var (pv 4)) mr_nil)))))
    (mss_cons (ms_for PassesOwn.never rfl (mi_seq rfl (me_var (pv 7))) (mg_name sc__law_are_roots.nd rfl (by first | exact .inl rfl | exact .inr rfl)) (mss_one (ms_if (mt_not (mt_val (me_frz (mo_call (ok__law_is_rooted J) hG (hr.mono (by decide)) (by rfl) J.g__law_is_rooted J.F__law_is_rooted.kp J.b__law_is_rooted (mr_val (me_var (pv 9)) mr_nil))))) (mss_one (ms_ret (mo_fz me_bl))) mss_nil)))
    (mss_one (ms_ret (mo_fz me_bl))))))))))))))
theorem ok_law (J : Facts K mg) : FnG P w K mg base CX0 11 J.f_law J.fd_law ["script"] (spF K (Er K) false 1 m_law) := okF J.F_law sc_law rfl fun cdv A outer s H XE hG hr =>
    (mss_cons (ms_set sc_law.nd rfl (by first | exact .inl rfl | exact .inr rfl) (mo_call (ok__law_own_bag J) hG (hr.mono (by decide)) (by rfl) J.g__law_own_bag J.F__law_own_bag.kp J.b__law_own_bag (mr_val (me_var (pv 0)) mr_nil)))
    (mss_cons (ms_asg (me_frz (mo_call (ok__law_pick J) hG (hr.mono (by decide)) (by rfl) J.g__law_pick J.F__law_pick.kp J.b__law_pick (mr_ref (pv 1) (mr_val (me_frz (mo_lst (ma_cons me_int (ma_cons me_int (ma_cons me_int (ma_cons me_int (ma_cons me_int (ma_cons me_int (ma_cons (me_frz (mo_add rfl me_int (me_frz (mo_call (ok__law_draw J) hG (hr.mono (by decide)) (by rfl) J.g__law_draw J.F__law_draw.kp J.b__law_draw (mr_ref (pv 1) (mr_val me_int mr_nil)))))) (ma_cons (me_frz (mo_add rfl me_int (me_frz (mo_call (ok__law_draw J) hG (hr.mono (by decide)) (by rfl) J.g__law_draw J.F__law_draw.kp J.b__law_draw (mr_ref (pv 1) (mr_val me_int mr_nil)))))) ma_nil)))))))))) mr_nil)))) (mg_name sc_law.nd rfl (by first | exact .inl rfl | exact .inr rfl)))
    (mss_cons (ms_asg (me_frz (mo_call (ok__law_own_row J) hG (hr.mono (by decide)) (by rfl) J.g__law_own_row J.F__law_own_row.kp J.b__law_own_row (mr_ref (pv 1) (mr_val (me_var (pv 2)) (mr_val (me_frz (mo_call (ok__law_draw J) hG (hr.mono (by decide)) (by rfl) J.g__law_draw J.F__law_draw.kp J.b__law_draw (mr_ref (pv 1) (mr_val me_int mr_nil)))) mr_nil))))) (mg_name sc_law.nd rfl (by first | exact .inl rfl | exact .inr rfl)))
    (mss_cons (ms_asg (me_tup (ma_cons me_int (ma_cons (me_frz (mo_call (ok__law_pick J) hG (hr.mono (by decide)) (by rfl) J.g__law_pick J.F__law_pick.kp J.b__law_pick (mr_ref (pv 1) (mr_val (me_frz (mo_lst (ma_cons me_int (ma_cons (me_frz (mo_neg me_int)) ma_nil)))) mr_nil)))) ma_nil))) (mg_name sc_law.nd rfl (by first | exact .inl rfl | exact .inr rfl)))
    (mss_cons (ms_if (mt_not (mt_val (me_frz (mo_call (ok__law_is_turned J) hG (hr.mono (by decide)) (by rfl) J.g__law_is_turned J.F__law_is_turned.kp J.b__law_is_turned (mr_ref (pv 1) (mr_val (me_frz (mo_slice rfl (me_frz (mo_add rfl (me_var (pv 4)) (me_var (pv 3)))) mp_no (mp_some (me_if (mt_gt (me_var (pv 2)) me_int (by first | rfl | exact nomark _)) (me_var (pv 2)) me_int)))) mr_nil)))))) (mss_one (ms_ret (mo_fz me_bl))) mss_nil)
    (mss_cons (ms_for PassesOwn.never rfl (mi_seq rfl (me_frz (mo_lst (ma_cons (me_tup (ma_cons me_int (ma_cons me_int ma_nil))) (ma_cons (me_tup (ma_cons me_int (ma_cons me_int ma_nil))) (ma_cons (me_tup (ma_cons me_int (ma_cons (me_frz (mo_neg me_int)) ma_nil))) (ma_cons (me_tup (ma_cons me_int (ma_cons me_int ma_nil))) (ma_cons (me_tup (ma_cons me_int (ma_cons (me_frz (mo_neg me_int)) ma_nil))) (ma_cons (me_tup (ma_cons me_int (ma_cons me_int ma_nil))) (ma_cons (me_tup (ma_cons (me_frz (mo_neg me_int)) (ma_cons me_int ma_nil))) (ma_cons (me_tup (ma_cons me_int (ma_cons (me_frz (mo_neg me_int)) ma_nil))) (ma_cons (me_tup (ma_cons me_int (ma_cons me_int ma_nil))) (ma_cons (me_tup (ma_cons me_int ma_nil)) (ma_cons (me_tup (ma_cons me_int ma_nil)) (ma_cons (me_tup (ma_cons (me_frz (mo_neg me_int)) ma_nil)) ma_nil))))))))))))))) (mg_name sc_law.nd rfl (by first | exact .inl rfl | exact .inr rfl)) (mss_cons (ms_asg (me_if (MW.mt (mw_and (mt_gt (me_var (pv 2)) me_int (by first | rfl | exact nomark _)) (mw_and1 (mt_gt (me_frz (mo_len rfl (by rfl) J.z_len (me_var (pv 5)))) me_int (by first | rfl | exact nomark _))))) (me_frz (mo_add rfl (me_var (pv 5)) (me_frz (mo_slice rfl (me_var (pv 3)) mp_no (mp_some (me_frz (mo_sub (me_var (pv 2)) (me_frz (mo_len rfl (by rfl) J.z_len (me_var (pv 5))))))))))) (me_var (pv 5))) (mg_name sc_law.nd rfl (by first | exact .inl rfl | exact .inr rfl)))
    (mss_one (ms_if (mt_not (mt_val (me_frz (mo_call (ok__law_is_turned J) hG (hr.mono (by decide)) (by rfl) J.g__law_is_turned J.F__law_is_turned.kp J.b__law_is_turned (mr_ref (pv 1) (mr_val (me_var (pv 6)) mr_nil)))))) (mss_one (ms_ret (mo_fz me_bl))) mss_nil))))
    (mss_cons (ms_asg (me_frz (mo_add rfl (me_var (pv 4)) (me_frz (mo_call (ok__law_own_row J) hG (hr.mono (by decide)) (by rfl) J.g__law_own_row J.F__law_own_row.kp J.b__law_own_row (mr_ref (pv 1) (mr_val (me_frz (mo_call (ok__law_draw J) hG (hr.mono (by decide)) (by rfl) J.g__law_draw J.F__law_draw.kp J.b__law_draw (mr_ref (pv 1) (mr_val me_int mr_nil)))) (mr_val me_int mr_nil))))))) (mg_name sc_law.nd rfl (by first | exact .inl rfl | exact .inr rfl)))
    (mss_cons (ms_if (mt_not (mt_val (me_frz (mo_call (ok__law_is_turned J) hG (hr.mono (by decide)) (by rfl) J.g__law_is_turned J.F__law_is_turned.kp J.b__law_is_turned (mr_ref (pv 1) (mr_val (me_var (pv 7)) mr_nil)))))) (mss_one (ms_ret (mo_fz me_bl))) mss_nil)
    (mss_one (ms_ret (mo_call (ok__law_are_roots J) hG (hr.mono (by decide)) (by rfl) J.g__law_are_roots J.F__law_are_roots.kp J.b__law_are_roots (mr_ref (pv 1) (mr_val (me_var (pv 2)) mr_nil)))))))))))))
end
theorem all_mk {l : PySem.W.OpenLaw} {w : World} {K : PySem.W.Frag} {h : Heap} {mg : Str → Option Value} {fa : Addr} (X : K.In h) (G : h.Ns mainGlobals mg) (hfa : mg "law" = some (.ref fa))
    {f0 : Addr} {od0 an0 : Option Addr} {sl0 : Array (Option Value)} {oc0 kV0 dc0 pm0 cd0 ct0 : Value}
    (a0 : PySem.W.nsIn K mainGlobals "product_item" = some (some (.ref f0))) (l0 : K.lookup f0 = some ⟨oc0, od0, .func (PySem.W.fnOf "product_item" "product_item" (defArgs s_product_item) (defBody s_product_item) (defScope s_product_item) .none kV0 dc0 pm0 an0 cd0 ct0), sl0⟩) (c0 : PySem.W.codeIn K cd0 "product_item" = true) (k0 : PySem.W.keepIn K (.ref f0) = true)
    {f1 : Addr} {od1 an1 : Option Addr} {sl1 : Array (Option Value)} {oc1 kV1 dc1 pm1 cd1 ct1 : Value}
    (a1 : PySem.W.nsIn K mainGlobals "series_product" = some (some (.ref f1))) (l1 : K.lookup f1 = some ⟨oc1, od1, .func (PySem.W.fnOf "series_product" "series_product" (defArgs s_series_product) (defBody s_series_product) (defScope s_series_product) .none kV1 dc1 pm1 an1 cd1 ct1), sl1⟩) (c1 : PySem.W.codeIn K cd1 "series_product" = true) (k1 : PySem.W.keepIn K (.ref f1) = true)
    {f2 : Addr} {od2 an2 : Option Addr} {sl2 : Array (Option Value)} {oc2 kV2 dc2 pm2 cd2 ct2 : Value}
    (a2 : PySem.W.nsIn K mainGlobals "unit_series" = some (some (.ref f2))) (l2 : K.lookup f2 = some ⟨oc2, od2, .func (PySem.W.fnOf "unit_series" "unit_series" (defArgs s_unit_series) (defBody s_unit_series) (defScope s_unit_series) .none kV2 dc2 pm2 an2 cd2 ct2), sl2⟩) (c2 : PySem.W.codeIn K cd2 "unit_series" = true) (k2 : PySem.W.keepIn K (.ref f2) = true)
    {f3 : Addr} {od3 an3 : Option Addr} {sl3 : Array (Option Value)} {oc3 kV3 dc3 pm3 cd3 ct3 : Value}
    (a3 : PySem.W.nsIn K mainGlobals "put_into" = some (some (.ref f3))) (l3 : K.lookup f3 = some ⟨oc3, od3, .func (PySem.W.fnOf "put_into" "put_into" (defArgs s_put_into) (defBody s_put_into) (defScope s_put_into) .none kV3 dc3 pm3 an3 cd3 ct3), sl3⟩) (c3 : PySem.W.codeIn K cd3 "put_into" = true) (k3 : PySem.W.keepIn K (.ref f3) = true)
    {f4 : Addr} {od4 an4 : Option Addr} {sl4 : Array (Option Value)} {oc4 kV4 dc4 pm4 cd4 ct4 : Value}
    (a4 : PySem.W.nsIn K mainGlobals "turned_about" = some (some (.ref f4))) (l4 : K.lookup f4 = some ⟨oc4, od4, .func (PySem.W.fnOf "turned_about" "turned_about" (defArgs s_turned_about) (defBody s_turned_about) (defScope s_turned_about) .none kV4 dc4 pm4 an4 cd4 ct4), sl4⟩) (c4 : PySem.W.codeIn K cd4 "turned_about" = true) (k4 : PySem.W.keepIn K (.ref f4) = true)
    {f5 : Addr} {od5 an5 : Option Addr} {sl5 : Array (Option Value)} {oc5 kV5 dc5 pm5 cd5 ct5 : Value}
    (a5 : PySem.W.nsIn K mainGlobals "turned_item" = some (some (.ref f5))) (l5 : K.lookup f5 = some ⟨oc5, od5, .func (PySem.W.fnOf "turned_item" "turned_item" (defArgs s_turned_item) (defBody s_turned_item) (defScope s_turned_item) .none kV5 dc5 pm5 an5 cd5 ct5), sl5⟩) (c5 : PySem.W.codeIn K cd5 "turned_item" = true) (k5 : PySem.W.keepIn K (.ref f5) = true)
    {f6 : Addr} {od6 an6 : Option Addr} {sl6 : Array (Option Value)} {oc6 kV6 dc6 pm6 cd6 ct6 : Value}
    (a6 : PySem.W.nsIn K mainGlobals "root_series" = some (some (.ref f6))) (l6 : K.lookup f6 = some ⟨oc6, od6, .func (PySem.W.fnOf "root_series" "root_series" (defArgs s_root_series) (defBody s_root_series) (defScope s_root_series) .none kV6 dc6 pm6 an6 cd6 ct6), sl6⟩) (c6 : PySem.W.codeIn K cd6 "root_series" = true) (k6 : PySem.W.keepIn K (.ref f6) = true)
    {f7 : Addr} {od7 an7 : Option Addr} {sl7 : Array (Option Value)} {oc7 kV7 dc7 pm7 cd7 ct7 : Value}
    (a7 : PySem.W.nsIn K mainGlobals "_law_own_bag" = some (some (.ref f7))) (l7 : K.lookup f7 = some ⟨oc7, od7, .func (PySem.W.fnOf "_law_own_bag" "_law_own_bag" (defArgs s__law_own_bag) (defBody s__law_own_bag) (defScope s__law_own_bag) .none kV7 dc7 pm7 an7 cd7 ct7), sl7⟩) (c7 : PySem.W.codeIn K cd7 "_law_own_bag" = true) (k7 : PySem.W.keepIn K (.ref f7) = true)
    {f8 : Addr} {od8 an8 : Option Addr} {sl8 : Array (Option Value)} {oc8 kV8 dc8 pm8 cd8 ct8 : Value}
    (a8 : PySem.W.nsIn K mainGlobals "_law_draw" = some (some (.ref f8))) (l8 : K.lookup f8 = some ⟨oc8, od8, .func (PySem.W.fnOf "_law_draw" "_law_draw" (defArgs s__law_draw) (defBody s__law_draw) (defScope s__law_draw) .none kV8 dc8 pm8 an8 cd8 ct8), sl8⟩) (c8 : PySem.W.codeIn K cd8 "_law_draw" = true) (k8 : PySem.W.keepIn K (.ref f8) = true)
    {f9 : Addr} {od9 an9 : Option Addr} {sl9 : Array (Option Value)} {oc9 kV9 dc9 pm9 cd9 ct9 : Value}
    (a9 : PySem.W.nsIn K mainGlobals "_law_pick" = some (some (.ref f9))) (l9 : K.lookup f9 = some ⟨oc9, od9, .func (PySem.W.fnOf "_law_pick" "_law_pick" (defArgs s__law_pick) (defBody s__law_pick) (defScope s__law_pick) .none kV9 dc9 pm9 an9 cd9 ct9), sl9⟩) (c9 : PySem.W.codeIn K cd9 "_law_pick" = true) (k9 : PySem.W.keepIn K (.ref f9) = true)
    {f10 : Addr} {od10 an10 : Option Addr} {sl10 : Array (Option Value)} {oc10 kV10 dc10 pm10 cd10 ct10 : Value}
    (a10 : PySem.W.nsIn K mainGlobals "_law_seen" = some (some (.ref f10))) (l10 : K.lookup f10 = some ⟨oc10, od10, .func (PySem.W.fnOf "_law_seen" "_law_seen" (defArgs s__law_seen) (defBody s__law_seen) (defScope s__law_seen) .none kV10 dc10 pm10 an10 cd10 ct10), sl10⟩) (c10 : PySem.W.codeIn K cd10 "_law_seen" = true) (k10 : PySem.W.keepIn K (.ref f10) = true)
    {f11 : Addr} {od11 an11 : Option Addr} {sl11 : Array (Option Value)} {oc11 kV11 dc11 pm11 cd11 ct11 : Value}
    (a11 : PySem.W.nsIn K mainGlobals "_law_told" = some (some (.ref f11))) (l11 : K.lookup f11 = some ⟨oc11, od11, .func (PySem.W.fnOf "_law_told" "_law_told" (defArgs s__law_told) (defBody s__law_told) (defScope s__law_told) .none kV11 dc11 pm11 an11 cd11 ct11), sl11⟩) (c11 : PySem.W.codeIn K cd11 "_law_told" = true) (k11 : PySem.W.keepIn K (.ref f11) = true)
    {f12 : Addr} {od12 an12 : Option Addr} {sl12 : Array (Option Value)} {oc12 kV12 dc12 pm12 cd12 ct12 : Value}
    (a12 : PySem.W.nsIn K mainGlobals "_law_plain" = some (some (.ref f12))) (l12 : K.lookup f12 = some ⟨oc12, od12, .func (PySem.W.fnOf "_law_plain" "_law_plain" (defArgs s__law_plain) (defBody s__law_plain) (defScope s__law_plain) .none kV12 dc12 pm12 an12 cd12 ct12), sl12⟩) (c12 : PySem.W.codeIn K cd12 "_law_plain" = true) (k12 : PySem.W.keepIn K (.ref f12) = true)
    {f13 : Addr} {od13 an13 : Option Addr} {sl13 : Array (Option Value)} {oc13 kV13 dc13 pm13 cd13 ct13 : Value}
    (a13 : PySem.W.nsIn K mainGlobals "_law_holds" = some (some (.ref f13))) (l13 : K.lookup f13 = some ⟨oc13, od13, .func (PySem.W.fnOf "_law_holds" "_law_holds" (defArgs s__law_holds) (defBody s__law_holds) (defScope s__law_holds) .none kV13 dc13 pm13 an13 cd13 ct13), sl13⟩) (c13 : PySem.W.codeIn K cd13 "_law_holds" = true) (k13 : PySem.W.keepIn K (.ref f13) = true)
    {f14 : Addr} {od14 an14 : Option Addr} {sl14 : Array (Option Value)} {oc14 kV14 dc14 pm14 cd14 ct14 : Value}
    (a14 : PySem.W.nsIn K mainGlobals "_law_own_row" = some (some (.ref f14))) (l14 : K.lookup f14 = some ⟨oc14, od14, .func (PySem.W.fnOf "_law_own_row" "_law_own_row" (defArgs s__law_own_row) (defBody s__law_own_row) (defScope s__law_own_row) .none kV14 dc14 pm14 an14 cd14 ct14), sl14⟩) (c14 : PySem.W.codeIn K cd14 "_law_own_row" = true) (k14 : PySem.W.keepIn K (.ref f14) = true)
    {f15 : Addr} {od15 an15 : Option Addr} {sl15 : Array (Option Value)} {oc15 kV15 dc15 pm15 cd15 ct15 : Value}
    (a15 : PySem.W.nsIn K mainGlobals "_law_own_product" = some (some (.ref f15))) (l15 : K.lookup f15 = some ⟨oc15, od15, .func (PySem.W.fnOf "_law_own_product" "_law_own_product" (defArgs s__law_own_product) (defBody s__law_own_product) (defScope s__law_own_product) .none kV15 dc15 pm15 an15 cd15 ct15), sl15⟩) (c15 : PySem.W.codeIn K cd15 "_law_own_product" = true) (k15 : PySem.W.keepIn K (.ref f15) = true)
    {f16 : Addr} {od16 an16 : Option Addr} {sl16 : Array (Option Value)} {oc16 kV16 dc16 pm16 cd16 ct16 : Value}
    (a16 : PySem.W.nsIn K mainGlobals "_law_own_other" = some (some (.ref f16))) (l16 : K.lookup f16 = some ⟨oc16, od16, .func (PySem.W.fnOf "_law_own_other" "_law_own_other" (defArgs s__law_own_other) (defBody s__law_own_other) (defScope s__law_own_other) .none kV16 dc16 pm16 an16 cd16 ct16), sl16⟩) (c16 : PySem.W.codeIn K cd16 "_law_own_other" = true) (k16 : PySem.W.keepIn K (.ref f16) = true)
    {f17 : Addr} {od17 an17 : Option Addr} {sl17 : Array (Option Value)} {oc17 kV17 dc17 pm17 cd17 ct17 : Value}
    (a17 : PySem.W.nsIn K mainGlobals "_law_own_put" = some (some (.ref f17))) (l17 : K.lookup f17 = some ⟨oc17, od17, .func (PySem.W.fnOf "_law_own_put" "_law_own_put" (defArgs s__law_own_put) (defBody s__law_own_put) (defScope s__law_own_put) .none kV17 dc17 pm17 an17 cd17 ct17), sl17⟩) (c17 : PySem.W.codeIn K cd17 "_law_own_put" = true) (k17 : PySem.W.keepIn K (.ref f17) = true)
    {f18 : Addr} {od18 an18 : Option Addr} {sl18 : Array (Option Value)} {oc18 kV18 dc18 pm18 cd18 ct18 : Value}
    (a18 : PySem.W.nsIn K mainGlobals "_law_can_be_turned" = some (some (.ref f18))) (l18 : K.lookup f18 = some ⟨oc18, od18, .func (PySem.W.fnOf "_law_can_be_turned" "_law_can_be_turned" (defArgs s__law_can_be_turned) (defBody s__law_can_be_turned) (defScope s__law_can_be_turned) .none kV18 dc18 pm18 an18 cd18 ct18), sl18⟩) (c18 : PySem.W.codeIn K cd18 "_law_can_be_turned" = true) (k18 : PySem.W.keepIn K (.ref f18) = true)
    {f19 : Addr} {od19 an19 : Option Addr} {sl19 : Array (Option Value)} {oc19 kV19 dc19 pm19 cd19 ct19 : Value}
    (a19 : PySem.W.nsIn K mainGlobals "_law_own_turned" = some (some (.ref f19))) (l19 : K.lookup f19 = some ⟨oc19, od19, .func (PySem.W.fnOf "_law_own_turned" "_law_own_turned" (defArgs s__law_own_turned) (defBody s__law_own_turned) (defScope s__law_own_turned) .none kV19 dc19 pm19 an19 cd19 ct19), sl19⟩) (c19 : PySem.W.codeIn K cd19 "_law_own_turned" = true) (k19 : PySem.W.keepIn K (.ref f19) = true)
    {f20 : Addr} {od20 an20 : Option Addr} {sl20 : Array (Option Value)} {oc20 kV20 dc20 pm20 cd20 ct20 : Value}
    (a20 : PySem.W.nsIn K mainGlobals "_law_own_root" = some (some (.ref f20))) (l20 : K.lookup f20 = some ⟨oc20, od20, .func (PySem.W.fnOf "_law_own_root" "_law_own_root" (defArgs s__law_own_root) (defBody s__law_own_root) (defScope s__law_own_root) .none kV20 dc20 pm20 an20 cd20 ct20), sl20⟩) (c20 : PySem.W.codeIn K cd20 "_law_own_root" = true) (k20 : PySem.W.keepIn K (.ref f20) = true)
    {f21 : Addr} {od21 an21 : Option Addr} {sl21 : Array (Option Value)} {oc21 kV21 dc21 pm21 cd21 ct21 : Value}
    (a21 : PySem.W.nsIn K mainGlobals "_law_is_letter" = some (some (.ref f21))) (l21 : K.lookup f21 = some ⟨oc21, od21, .func (PySem.W.fnOf "_law_is_letter" "_law_is_letter" (defArgs s__law_is_letter) (defBody s__law_is_letter) (defScope s__law_is_letter) .none kV21 dc21 pm21 an21 cd21 ct21), sl21⟩) (c21 : PySem.W.codeIn K cd21 "_law_is_letter" = true) (k21 : PySem.W.keepIn K (.ref f21) = true)
    {f22 : Addr} {od22 an22 : Option Addr} {sl22 : Array (Option Value)} {oc22 kV22 dc22 pm22 cd22 ct22 : Value}
    (a22 : PySem.W.nsIn K mainGlobals "_law_is_turned" = some (some (.ref f22))) (l22 : K.lookup f22 = some ⟨oc22, od22, .func (PySem.W.fnOf "_law_is_turned" "_law_is_turned" (defArgs s__law_is_turned) (defBody s__law_is_turned) (defScope s__law_is_turned) .none kV22 dc22 pm22 an22 cd22 ct22), sl22⟩) (c22 : PySem.W.codeIn K cd22 "_law_is_turned" = true) (k22 : PySem.W.keepIn K (.ref f22) = true)
    {f23 : Addr} {od23 an23 : Option Addr} {sl23 : Array (Option Value)} {oc23 kV23 dc23 pm23 cd23 ct23 : Value}
    (a23 : PySem.W.nsIn K mainGlobals "_law_is_rooted" = some (some (.ref f23))) (l23 : K.lookup f23 = some ⟨oc23, od23, .func (PySem.W.fnOf "_law_is_rooted" "_law_is_rooted" (defArgs s__law_is_rooted) (defBody s__law_is_rooted) (defScope s__law_is_rooted) .none kV23 dc23 pm23 an23 cd23 ct23), sl23⟩) (c23 : PySem.W.codeIn K cd23 "_law_is_rooted" = true) (k23 : PySem.W.keepIn K (.ref f23) = true)
    {f24 : Addr} {od24 an24 : Option Addr} {sl24 : Array (Option Value)} {oc24 kV24 dc24 pm24 cd24 ct24 : Value}
    (a24 : PySem.W.nsIn K mainGlobals "_law_are_roots" = some (some (.ref f24))) (l24 : K.lookup f24 = some ⟨oc24, od24, .func (PySem.W.fnOf "_law_are_roots" "_law_are_roots" (defArgs s__law_are_roots) (defBody s__law_are_roots) (defScope s__law_are_roots) .none kV24 dc24 pm24 an24 cd24 ct24), sl24⟩) (c24 : PySem.W.codeIn K cd24 "_law_are_roots" = true) (k24 : PySem.W.keepIn K (.ref f24) = true)
    {f25 : Addr} {od25 an25 : Option Addr} {sl25 : Array (Option Value)} {oc25 kV25 dc25 pm25 cd25 ct25 : Value}
    (a25 : PySem.W.nsIn K mainGlobals "law" = some (some (.ref f25))) (l25 : K.lookup f25 = some ⟨oc25, od25, .func (PySem.W.fnOf "law" "law" (defArgs s_law) (defBody s_law) (defScope s_law) .none kV25 dc25 pm25 an25 cd25 ct25), sl25⟩) (c25 : PySem.W.codeIn K cd25 "law" = true) (k25 : PySem.W.keepIn K (.ref f25) = true)
    (dig : PySem.W.nsIn K cStatics "sys.int_max_str_digits" = some none) (z0 : PySem.W.nsIn K mainGlobals "ValueError" = some none) (z1 : PySem.W.nsIn K mainGlobals "abs" = some none) (z2 : PySem.W.nsIn K mainGlobals "int" = some none) (z3 : PySem.W.nsIn K mainGlobals "isinstance" = some none) (z4 : PySem.W.nsIn K mainGlobals "len" = some none) (z5 : PySem.W.nsIn K mainGlobals "list" = some none) (z6 : PySem.W.nsIn K mainGlobals "range" = some none) (z7 : PySem.W.nsIn K mainGlobals "repr" = some none) (z8 : PySem.W.nsIn K mainGlobals "reversed" = some none) (z9 : PySem.W.nsIn K mainGlobals "str" = some none) (z10 : PySem.W.nsIn K mainGlobals "sum" = some none) (z11 : PySem.W.nsIn K mainGlobals "tuple" = some none) (z12 : PySem.W.nsIn K mainGlobals "zip" = some none)
    {C_BadLog : Addr} {C_BadPolynomial : Addr} {C_BadText : Addr} {C_NoName : Addr} {C_NoVersion : Addr} {C_NothingToRedo : Addr} {C_NothingToUndo : Addr} {C_Refused : Addr} {C_TermError : Addr} {C_TooMany : Addr} {C_Unfit : Addr} (x0 : PySem.W.nsIn K mainGlobals "BadLog" = some (some (.ref C_BadLog))) (x1 : PySem.W.subIn K (.ref C_BadLog) (.type "BaseException") = some true) (x2 : PySem.W.typeIn K (.ref C_BadLog) = some (.type "type")) (x3 : PySem.W.hasDictIn K C_BadLog = true) (x4 : PySem.W.nsIn K mainGlobals "BadPolynomial" = some (some (.ref C_BadPolynomial))) (x5 : PySem.W.subIn K (.ref C_BadPolynomial) (.type "BaseException") = some true) (x6 : PySem.W.typeIn K (.ref C_BadPolynomial) = some (.type "type")) (x7 : PySem.W.hasDictIn K C_BadPolynomial = true) (x8 : PySem.W.nsIn K mainGlobals "BadText" = some (some (.ref C_BadText))) (x9 : PySem.W.subIn K (.ref C_BadText) (.type "BaseException") = some true) (x10 : PySem.W.typeIn K (.ref C_BadText) = some (.type "type")) (x11 : PySem.W.hasDictIn K C_BadText = true) (x12 : PySem.W.nsIn K mainGlobals "NoName" = some (some (.ref C_NoName))) (x13 : PySem.W.subIn K (.ref C_NoName) (.type "BaseException") = some true) (x14 : PySem.W.typeIn K (.ref C_NoName) = some (.type "type")) (x15 : PySem.W.hasDictIn K C_NoName = true) (x16 : PySem.W.nsIn K mainGlobals "NoVersion" = some (some (.ref C_NoVersion))) (x17 : PySem.W.subIn K (.ref C_NoVersion) (.type "BaseException") = some true) (x18 : PySem.W.typeIn K (.ref C_NoVersion) = some (.type "type")) (x19 : PySem.W.hasDictIn K C_NoVersion = true) (x20 : PySem.W.nsIn K mainGlobals "NothingToRedo" = some (some (.ref C_NothingToRedo))) (x21 : PySem.W.subIn K (.ref C_NothingToRedo) (.type "BaseException") = some true) (x22 : PySem.W.typeIn K (.ref C_NothingToRedo) = some (.type "type")) (x23 : PySem.W.hasDictIn K C_NothingToRedo = true) (x24 : PySem.W.nsIn K mainGlobals "NothingToUndo" = some (some (.ref C_NothingToUndo))) (x25 : PySem.W.subIn K (.ref C_NothingToUndo) (.type "BaseException") = some true) (x26 : PySem.W.typeIn K (.ref C_NothingToUndo) = some (.type "type")) (x27 : PySem.W.hasDictIn K C_NothingToUndo = true) (x28 : PySem.W.nsIn K mainGlobals "Refused" = some (some (.ref C_Refused))) (x29 : PySem.W.subIn K (.ref C_Refused) (.type "BaseException") = some true) (x30 : PySem.W.typeIn K (.ref C_Refused) = some (.type "type")) (x31 : PySem.W.hasDictIn K C_Refused = true) (x32 : PySem.W.nsIn K mainGlobals "TermError" = some (some (.ref C_TermError))) (x33 : PySem.W.subIn K (.ref C_TermError) (.type "BaseException") = some true) (x34 : PySem.W.typeIn K (.ref C_TermError) = some (.type "type")) (x35 : PySem.W.hasDictIn K C_TermError = true) (x36 : PySem.W.nsIn K mainGlobals "TooMany" = some (some (.ref C_TooMany))) (x37 : PySem.W.subIn K (.ref C_TooMany) (.type "BaseException") = some true) (x38 : PySem.W.typeIn K (.ref C_TooMany) = some (.type "type")) (x39 : PySem.W.hasDictIn K C_TooMany = true) (x40 : PySem.W.nsIn K mainGlobals "Unfit" = some (some (.ref C_Unfit))) (x41 : PySem.W.subIn K (.ref C_Unfit) (.type "BaseException") = some true) (x42 : PySem.W.typeIn K (.ref C_Unfit) = some (.type "type")) (x43 : PySem.W.hasDictIn K C_Unfit = true) (x44 : PySem.W.excIn K C_Unfit [.type "ValueError", .type "Exception", .type "BaseException", .type "object"] "ValueError.__new__" = true) (x45 : PySem.W.keepIn K (.ref C_Unfit) = true) (x46 : PySem.W.findIn K (.ref C_Unfit) "__getattribute__" = some (some (.builtin "BaseException.__getattribute__"))) (x47 : PySem.W.findIn K (.ref C_Unfit) "__getattr__" = some none) (x48 : PySem.W.findIn K (.ref C_Unfit) "__class__" = some (some (.builtin "object.__class__"))) (x49 : PySem.W.mroIn K C_Unfit (.type "object") = some true) (x50 : PySem.W.specialIn K (.builtin "object.__class__") "__get__" = some (some (.builtin "getset_descriptor.__get__"))) (x51 : PySem.W.takesIn K (.builtin "object.__class__") = some true) (x52 : PySem.W.subIn K (.ref C_Unfit) (.ref C_BadLog) = some false) (x53 : (C_Unfit == C_BadLog) = false) (x54 : PySem.W.subIn K (.ref C_Unfit) (.ref C_BadPolynomial) = some false) (x55 : (C_Unfit == C_BadPolynomial) = false) (x56 : PySem.W.subIn K (.ref C_Unfit) (.ref C_BadText) = some false) (x57 : (C_Unfit == C_BadText) = false) (x58 : PySem.W.subIn K (.ref C_Unfit) (.ref C_NoName) = some false) (x59 : (C_Unfit == C_NoName) = false) (x60 : PySem.W.subIn K (.ref C_Unfit) (.ref C_NoVersion) = some false) (x61 : (C_Unfit == C_NoVersion) = false) (x62 : PySem.W.subIn K (.ref C_Unfit) (.ref C_NothingToRedo) = some false) (x63 : (C_Unfit == C_NothingToRedo) = false) (x64 : PySem.W.subIn K (.ref C_Unfit) (.ref C_NothingToUndo) = some false) (x65 : (C_Unfit == C_NothingToUndo) = false) (x66 : PySem.W.subIn K (.ref C_Unfit) (.ref C_Refused) = some false) (x67 : (C_Unfit == C_Refused) = false) (x68 : PySem.W.subIn K (.ref C_Unfit) (.ref C_TermError) = some true) (x69 : PySem.W.subIn K (.ref C_Unfit) (.ref C_TooMany) = some false) (x70 : (C_Unfit == C_TooMany) = false) (x71 : PySem.W.subIn K (.ref C_Unfit) (.type "ValueError") = some true) :
    ∃ fd : FuncData, (∀ (s : Shared) (v : Value), BindsTo s fd ⟨[v], []⟩ [("script", v)]) ∧ ∀ base : Heap, K.In base → base.Ns mainGlobals mg → FnG l.prog w K mg base CX0 11 fa fd ["script"] (spF K (Er K) false 1 m_law) := by
  have e := hfa.symm.trans (PySem.W.mg_of X G a25)
  cases e
  have F0 := fun_mk (st := s_product_item) l0 c0 k0
  have F1 := fun_mk (st := s_series_product) l1 c1 k1
  have F2 := fun_mk (st := s_unit_series) l2 c2 k2
  have F3 := fun_mk (st := s_put_into) l3 c3 k3
  have F4 := fun_mk (st := s_turned_about) l4 c4 k4
  have F5 := fun_mk (st := s_turned_item) l5 c5 k5
  have F6 := fun_mk (st := s_root_series) l6 c6 k6
  have F7 := fun_mk (st := s__law_own_bag) l7 c7 k7
  have F8 := fun_mk (st := s__law_draw) l8 c8 k8
  have F9 := fun_mk (st := s__law_pick) l9 c9 k9
  have F10 := fun_mk (st := s__law_seen) l10 c10 k10
  have F11 := fun_mk (st := s__law_told) l11 c11 k11
  have F12 := fun_mk (st := s__law_plain) l12 c12 k12
  have F13 := fun_mk (st := s__law_holds) l13 c13 k13
  have F14 := fun_mk (st := s__law_own_row) l14 c14 k14
  have F15 := fun_mk (st := s__law_own_product) l15 c15 k15
  have F16 := fun_mk (st := s__law_own_other) l16 c16 k16
  have F17 := fun_mk (st := s__law_own_put) l17 c17 k17
  have F18 := fun_mk (st := s__law_can_be_turned) l18 c18 k18
  have F19 := fun_mk (st := s__law_own_turned) l19 c19 k19
  have F20 := fun_mk (st := s__law_own_root) l20 c20 k20
  have F21 := fun_mk (st := s__law_is_letter) l21 c21 k21
  have F22 := fun_mk (st := s__law_is_turned) l22 c22 k22
  have F23 := fun_mk (st := s__law_is_rooted) l23 c23 k23
  have F24 := fun_mk (st := s__law_are_roots) l24 c24 k24
  have F25 := fun_mk (st := s_law) l25 c25 k25
  let J : Facts K mg := {
    f_product_item := f0, fd_product_item := _, F_product_item := F0, g_product_item := PySem.W.mg_of X G a0, b_product_item := F0.binds fun _ _ _ _ _ _ us hl => match us, hl with | [_, _, _], _ => rfl,
    f_series_product := f1, fd_series_product := _, F_series_product := F1, g_series_product := PySem.W.mg_of X G a1, b_series_product := F1.binds fun _ _ _ _ _ _ us hl => match us, hl with | [_, _], _ => rfl,
    f_unit_series := f2, fd_unit_series := _, F_unit_series := F2, g_unit_series := PySem.W.mg_of X G a2, b_unit_series := F2.binds fun _ _ _ _ _ _ us hl => match us, hl with | [_], _ => rfl,
    f_put_into := f3, fd_put_into := _, F_put_into := F3, g_put_into := PySem.W.mg_of X G a3, b_put_into := F3.binds fun _ _ _ _ _ _ us hl => match us, hl with | [_, _], _ => rfl,
    f_turned_about := f4, fd_turned_about := _, F_turned_about := F4, g_turned_about := PySem.W.mg_of X G a4, b_turned_about := F4.binds fun _ _ _ _ _ _ us hl => match us, hl with | [_], _ => rfl,
    f_turned_item := f5, fd_turned_item := _, F_turned_item := F5, g_turned_item := PySem.W.mg_of X G a5, b_turned_item := F5.binds fun _ _ _ _ _ _ us hl => match us, hl with | [_, _], _ => rfl,
    f_root_series := f6, fd_root_series := _, F_root_series := F6, g_root_series := PySem.W.mg_of X G a6, b_root_series := F6.binds fun _ _ _ _ _ _ us hl => match us, hl with | [_], _ => rfl,
    f__law_own_bag := f7, fd__law_own_bag := _, F__law_own_bag := F7, g__law_own_bag := PySem.W.mg_of X G a7, b__law_own_bag := F7.binds fun _ _ _ _ _ _ us hl => match us, hl with | [_], _ => rfl,
    f__law_draw := f8, fd__law_draw := _, F__law_draw := F8, g__law_draw := PySem.W.mg_of X G a8, b__law_draw := F8.binds fun _ _ _ _ _ _ us hl => match us, hl with | [_, _], _ => rfl,
    f__law_pick := f9, fd__law_pick := _, F__law_pick := F9, g__law_pick := PySem.W.mg_of X G a9, b__law_pick := F9.binds fun _ _ _ _ _ _ us hl => match us, hl with | [_, _], _ => rfl,
    f__law_seen := f10, fd__law_seen := _, F__law_seen := F10, g__law_seen := PySem.W.mg_of X G a10, b__law_seen := F10.binds fun _ _ _ _ _ _ us hl => match us, hl with | [_, _], _ => rfl,
    f__law_told := f11, fd__law_told := _, F__law_told := F11, g__law_told := PySem.W.mg_of X G a11, b__law_told := F11.binds fun _ _ _ _ _ _ us hl => match us, hl with | [_, _, _, _], _ => rfl,
    f__law_plain := f12, fd__law_plain := _, F__law_plain := F12, g__law_plain := PySem.W.mg_of X G a12, b__law_plain := F12.binds fun _ _ _ _ _ _ us hl => match us, hl with | [_], _ => rfl,
    f__law_holds := f13, fd__law_holds := _, F__law_holds := F13, g__law_holds := PySem.W.mg_of X G a13, b__law_holds := F13.binds fun _ _ _ _ _ _ us hl => match us, hl with | [_, _, _, _], _ => rfl,
    f__law_own_row := f14, fd__law_own_row := _, F__law_own_row := F14, g__law_own_row := PySem.W.mg_of X G a14, b__law_own_row := F14.binds fun _ _ _ _ _ _ us hl => match us, hl with | [_, _, _], _ => rfl,
    f__law_own_product := f15, fd__law_own_product := _, F__law_own_product := F15, g__law_own_product := PySem.W.mg_of X G a15, b__law_own_product := F15.binds fun _ _ _ _ _ _ us hl => match us, hl with | [_, _], _ => rfl,
    f__law_own_other := f16, fd__law_own_other := _, F__law_own_other := F16, g__law_own_other := PySem.W.mg_of X G a16, b__law_own_other := F16.binds fun _ _ _ _ _ _ us hl => match us, hl with | [_], _ => rfl,
    f__law_own_put := f17, fd__law_own_put := _, F__law_own_put := F17, g__law_own_put := PySem.W.mg_of X G a17, b__law_own_put := F17.binds fun _ _ _ _ _ _ us hl => match us, hl with | [_, _], _ => rfl,
    f__law_can_be_turned := f18, fd__law_can_be_turned := _, F__law_can_be_turned := F18, g__law_can_be_turned := PySem.W.mg_of X G a18, b__law_can_be_turned := F18.binds fun _ _ _ _ _ _ us hl => match us, hl with | [_], _ => rfl,
    f__law_own_turned := f19, fd__law_own_turned := _, F__law_own_turned := F19, g__law_own_turned := PySem.W.mg_of X G a19, b__law_own_turned := F19.binds fun _ _ _ _ _ _ us hl => match us, hl with | [_], _ => rfl,
    f__law_own_root := f20, fd__law_own_root := _, F__law_own_root := F20, g__law_own_root := PySem.W.mg_of X G a20, b__law_own_root := F20.binds fun _ _ _ _ _ _ us hl => match us, hl with | [_], _ => rfl,
    f__law_is_letter := f21, fd__law_is_letter := _, F__law_is_letter := F21, g__law_is_letter := PySem.W.mg_of X G a21, b__law_is_letter := F21.binds fun _ _ _ _ _ _ us hl => match us, hl with | [_], _ => rfl,
    f__law_is_turned := f22, fd__law_is_turned := _, F__law_is_turned := F22, g__law_is_turned := PySem.W.mg_of X G a22, b__law_is_turned := F22.binds fun _ _ _ _ _ _ us hl => match us, hl with | [_, _], _ => rfl,
    f__law_is_rooted := f23, fd__law_is_rooted := _, F__law_is_rooted := F23, g__law_is_rooted := PySem.W.mg_of X G a23, b__law_is_rooted := F23.binds fun _ _ _ _ _ _ us hl => match us, hl with | [_], _ => rfl,
    f__law_are_roots := f24, fd__law_are_roots := _, F__law_are_roots := F24, g__law_are_roots := PySem.W.mg_of X G a24, b__law_are_roots := F24.binds fun _ _ _ _ _ _ us hl => match us, hl with | [_, _], _ => rfl,
    f_law := _, fd_law := _, F_law := F25, g_law := PySem.W.mg_of X G a25, b_law := F25.binds fun _ _ _ _ _ _ us hl => match us, hl with | [_], _ => rfl,
    C_BadLog := C_BadLog, c_BadLog := PySem.W.mg_of X G x0,
    C_BadPolynomial := C_BadPolynomial, c_BadPolynomial := PySem.W.mg_of X G x4,
    C_BadText := C_BadText, c_BadText := PySem.W.mg_of X G x8,
    C_NoName := C_NoName, c_NoName := PySem.W.mg_of X G x12,
    C_NoVersion := C_NoVersion, c_NoVersion := PySem.W.mg_of X G x16,
    C_NothingToRedo := C_NothingToRedo, c_NothingToRedo := PySem.W.mg_of X G x20,
    C_NothingToUndo := C_NothingToUndo, c_NothingToUndo := PySem.W.mg_of X G x24,
    C_Refused := C_Refused, c_Refused := PySem.W.mg_of X G x28,
    C_TermError := C_TermError, c_TermError := PySem.W.mg_of X G x32,
    C_TooMany := C_TooMany, c_TooMany := PySem.W.mg_of X G x36,
    C_Unfit := C_Unfit, c_Unfit := PySem.W.mg_of X G x40,
    ns_BadLog := x0,
    sb_BadLog := x1,
    ty_BadLog := x2,
    hd_BadLog := x3,
    ns_BadPolynomial := x4,
    sb_BadPolynomial := x5,
    ty_BadPolynomial := x6,
    hd_BadPolynomial := x7,
    ns_BadText := x8,
    sb_BadText := x9,
    ty_BadText := x10,
    hd_BadText := x11,
    ns_NoName := x12,
    sb_NoName := x13,
    ty_NoName := x14,
    hd_NoName := x15,
    ns_NoVersion := x16,
    sb_NoVersion := x17,
    ty_NoVersion := x18,
    hd_NoVersion := x19,
    ns_NothingToRedo := x20,
    sb_NothingToRedo := x21,
    ty_NothingToRedo := x22,
    hd_NothingToRedo := x23,
    ns_NothingToUndo := x24,
    sb_NothingToUndo := x25,
    ty_NothingToUndo := x26,
    hd_NothingToUndo := x27,
    ns_Refused := x28,
    sb_Refused := x29,
    ty_Refused := x30,
    hd_Refused := x31,
    ns_TermError := x32,
    sb_TermError := x33,
    ty_TermError := x34,
    hd_TermError := x35,
    ns_TooMany := x36,
    sb_TooMany := x37,
    ty_TooMany := x38,
    hd_TooMany := x39,
    ns_Unfit := x40,
    sb_Unfit := x41,
    ty_Unfit := x42,
    hd_Unfit := x43,
    xc_Unfit := x44,
    kc_Unfit := x45,
    ga_Unfit := x46,
    gt_Unfit := x47,
    cl_Unfit := x48,
    mr_Unfit := x49,
    sp_cls := x50,
    tk_cls := x51,
    su_Unfit_BadLog := x52,
    ne_Unfit_BadLog := x53,
    su_Unfit_BadPolynomial := x54,
    ne_Unfit_BadPolynomial := x55,
    su_Unfit_BadText := x56,
    ne_Unfit_BadText := x57,
    su_Unfit_NoName := x58,
    ne_Unfit_NoName := x59,
    su_Unfit_NoVersion := x60,
    ne_Unfit_NoVersion := x61,
    su_Unfit_NothingToRedo := x62,
    ne_Unfit_NothingToRedo := x63,
    su_Unfit_NothingToUndo := x64,
    ne_Unfit_NothingToUndo := x65,
    su_Unfit_Refused := x66,
    ne_Unfit_Refused := x67,
    su_Unfit_TermError := x68,
    su_Unfit_TooMany := x69,
    ne_Unfit_TooMany := x70,
    su_Unfit_ValueError := x71,
    dig := dig, z_ValueError := PySem.W.mg_none_of X G z0, z_abs := PySem.W.mg_none_of X G z1, z_int := PySem.W.mg_none_of X G z2, z_isinstance := PySem.W.mg_none_of X G z3, z_len := PySem.W.mg_none_of X G z4, z_list := PySem.W.mg_none_of X G z5, z_range := PySem.W.mg_none_of X G z6, z_repr := PySem.W.mg_none_of X G z7, z_reversed := PySem.W.mg_none_of X G z8, z_str := PySem.W.mg_none_of X G z9, z_sum := PySem.W.mg_none_of X G z10, z_tuple := PySem.W.mg_none_of X G z11, z_zip := PySem.W.mg_none_of X G z12 }
  exact ⟨PySem.W.fnOf "law" "law" (defArgs s_law) (defBody s_law) (defScope s_law) .none kV25 dc25 pm25 an25 cd25 ct25, fun s v => .of_eq rfl, fun base _ _ => ok_law J⟩
end G_k84

set_option Elab.async false
set_option linter.all false
set_option autoImplicit false
set_option maxRecDepth 100000
set_option exponentiation.threshold 100000
namespace G_k84
open PySem PySem.Spec L2 MI SER
theorem cp9 : CPowW 10 9 := by decide +kernel
theorem pow57 : ∃ T M : Int, 0 < M ∧ powD (.int 10) (.int 57) = some (.fz (.int T)) ∧ powD (.int T) (.int 7) = some (.fz (.int M)) ∧ M = (10 ^ 57) ^ 7 := by
  have c1 : CPowW 10 57 := by decide +kernel
  have c2 : CPowW (10 ^ 57) 7 := by decide +kernel
  exact ⟨10 ^ 57, (10 ^ 57) ^ 7, by decide +kernel, by rw [powD_int, if_pos c1]; rfl, by rw [powD_int, if_pos c2]; rfl, rfl⟩
theorem pow62 : ∃ T M : Int, powD (.int 10) (.int 62) = some (.fz (.int T)) ∧ powD (.int T) (.int 62) = some (.fz (.int M)) ∧ ∀ x : Int, (if x < 0 then -x else x) < M → x.natAbs < 2 ^ 12900 := by
  have c1 : CPowW 10 62 := by decide +kernel
  have c2 : CPowW (10 ^ 62) 62 := by decide +kernel
  refine ⟨10 ^ 62, (10 ^ 62) ^ 62, by rw [powD_int, if_pos c1]; rfl, by rw [powD_int, if_pos c2]; rfl, fun x hx => ?_⟩
  have e : ((10 : Int) ^ 62) ^ 62 = (((10 ^ 62) ^ 62 : Nat) : Int) := by rw [Int.natCast_pow, Int.natCast_pow]; rfl
  have l : ((10 ^ 62) ^ 62 : Nat) < 2 ^ 12900 := by decide +kernel
  rw [e] at hx
  refine Nat.lt_trans ?_ l
  generalize ((10 ^ 62) ^ 62 : Nat) = Q at hx
  split at hx <;> omega
def Bag (o : OD) : Prop := ∃ (cs : List Int) (a b : Int), o = .on [.ol (cs.map .int), .fz (.int a), .fz (.int b)] ∧ cs.length < 1000000 ∧ 0 ≤ a ∧ 0 ≤ b ∧ b < 2147483647
theorem draw_loop : ∀ (n : Nat) (cs : List Int) (a b below : Int) (x y : Option OD), cs.length < n → 0 ≤ a →
    ∃ cs' a' x', whileL t__law_draw_1 l__law_draw_1 n
      [some (.on [.ol (cs.map .int), .fz (.int a), .fz (.int b)]), some (.fz (.int below)), x, y] = .nx [some (.on [.ol (List.map PyData.int cs'), .fz (.int a'), .fz (.int b)]), some (.fz (.int below)), x', y] ∧ cs'.length ≤ cs.length ∧ 0 ≤ a'
  | 0, cs, a, b, below, x, y, h, _ => by omega
  | n + 1, cs, a, b, below, x, y, h, ha => by
    by_cases h0 : a = 0
    · by_cases h1 : cs = []
      · refine ⟨cs, a, x, ?_, Nat.le_refl _, ha⟩
        rw [whileL_succ]
        subst h1
        simp [t__law_draw_1, kEmptyN, plain_ints, shaped_ints, eqv_nil, h0, plainAll, show SeqAt.shaped (.list []) = true by decide, show PyData.eqv (.list []) (.list []) = true by decide]
      · have hl : 0 < cs.length := List.length_pos_iff.mpr h1
        obtain ⟨cs', a', x', e, h2, h3⟩ := draw_loop n cs.dropLast (if 1000000000 < cs.getLast h1 then cs.getLast h1 else 0) b below (some (.fz (.int (cs.getLast h1)))) y (by simp; omega) (by split <;> omega)
        refine ⟨cs', a', x', ?_, by simp at h2; omega, h3⟩
        rw [← e, whileL_succ]
        simp [t__law_draw_1, l__law_draw_1, cp9, kEmptyN, plain_ints, shaped_ints, eqv_nil, h0, h1, map_last h1, ixN]
        split <;> simp [ixN, *]
    · refine ⟨cs, a, x, ?_, Nat.le_refl _, ha⟩
      rw [whileL_succ]
      simp [t__law_draw_1, h0]
theorem draw {o : OD} (hb : Bag o) {below : Int} (h1 : 0 < below) (h2 : below.natAbs.log2 < 9000) : ∃ r o', m__law_draw [o, .fz (.int below)] = .ok (.fz (.int r)) [some o', none] ∧ 0 ≤ r ∧ r < below ∧ Bag o' := by
  obtain ⟨cs, a, b, rfl, hl, ha, hb0, hb1⟩ := hb
  obtain ⟨cs', a', x', e, h3, h4⟩ := draw_loop fuel cs a b below none none (by unfold fuel; omega) ha
  unfold m__law_draw b__law_draw
  simp [e, ixN, h1, h2]
  by_cases h0 : 0 < a'
  · simp [h0]
    refine ⟨_, _, ⟨rfl, rfl⟩, Int.emod_nonneg _ (by omega), Int.emod_lt_of_pos _ h1, cs', a' / below, b, rfl, by omega, Int.ediv_nonneg h4 (by omega), hb0, hb1⟩
  · have l1 := mul_ok (x := b) (y := 48271) 64 64 (by omega) (by omega)
    have n1 := Int.emod_nonneg (b * 48271 + 11) (show (2147483647 : Int) ≠ 0 by omega)
    have n2 := Int.emod_lt_of_pos (b * 48271 + 11) (show (0 : Int) < 2147483647 by omega)
    have l2 := mul_ok (x := (b * 48271 + 11) % 2147483647) (y := (b * 48271 + 11) % 2147483647) 64 64 (by omega) (by omega)
    simp [h0, l1, ixN, l2, h1, show (7 : Nat).log2 < 9000 by decide]
    refine ⟨_, _, ⟨rfl, rfl⟩, Int.emod_nonneg _ (by omega), Int.emod_lt_of_pos _ h1, cs', a', _, rfl, by omega, h4, n1, n2⟩
/-- a draw below a small number -/
theorem drawS {o : OD} (hb : Bag o) {below : Int} (h1 : 0 < below) (h2 : below < 2 ^ 200) : ∃ r o', m__law_draw [o, .fz (.int below)] = .ok (.fz (.int r)) [some o', none] ∧ 0 ≤ r ∧ r < below ∧ Bag o' :=
  draw hb h1 (by have := log_lt (k := 200) (n := below) (by omega) (by omega); omega)
theorem own_bag (ns : List Int) (h : ns.length ≤ 63) : ∃ o, m__law_own_bag [.fz (lockD (ns.map PyData.int))] = .ok o [none] ∧ Bag o := by
  obtain ⟨T, M, hM, p57, p7, _⟩ := pow57
  obtain ⟨a, b, e⟩ := cut_map PyData.int ns none (some 63)
  have hl : ((ns.drop a).take b).length ≤ 63 := by simp; omega
  have hsz : ((ns.drop a).take b).length ≤ sizeLine := by unfold sizeLine; omega
  generalize (ns.drop a).take b = cs at e hl hsz
  unfold m__law_own_bag b__law_own_bag
  simp [e]
  rw [lcL_map (s := [some (.fz (lockD (ns.map PyData.int))), none, none, none]) (fun c : Int => PyData.int ((if c < 0 then -c else c) % M)) PyData.int cs [] (fun c hc => ⟨_, _, rfl, by simp [-powD_int, p57, p7, hM]; rfl, rfl⟩) (by simpa using hsz)]
  simp
  obtain ⟨s', e', h'⟩ := forL_inv (g := gN 2) (h := l__law_own_bag_1)
    (fun _ s => ∃ x m, s = [some (.fz (lockD (ns.map PyData.int))), some (.fz (.list (cs.map fun c : Int => PyData.int ((if c < 0 then -c else c) % M)))), x, some (.fz (.int m))] ∧ 0 ≤ m ∧ m < 2147483647)
    (cs.map fun c : Int => PyData.int ((if c < 0 then -c else c) % M)) 0 [some (.fz (lockD (ns.map PyData.int))), some (.fz (.list (cs.map fun c : Int => PyData.int ((if c < 0 then -c else c) % M)))), none, some (.fz (.int (2468 + cs.length)))] ⟨_, _, rfl, by omega, by omega⟩ (by
      rintro i d s hd ⟨x, m, rfl, h0, h1⟩
      rw [List.getElem?_map, Option.map_eq_some_iff] at hd
      obtain ⟨c, _, rfl⟩ := hd
      have l1 := mul_ok (x := m) (y := 48271) 64 64 (by omega) (by omega)
      refine ⟨_, [some (.fz (lockD (ns.map PyData.int))), some (.fz (.list (cs.map fun c : Int => PyData.int ((if c < 0 then -c else c) % M)))), some (.fz (.int ((if c < 0 then -c else c) % M))), some (.fz (.int ((m * 48271 + (if c < 0 then -c else c) % M % 2147483629 + 7) % 2147483647)))], rfl, .inl ?_, _, _, rfl, Int.emod_nonneg _ (by decide), Int.emod_lt_of_pos _ (by decide)⟩
      simp [l__law_own_bag_1, l1])
  rw [e']
  obtain ⟨x, m, rfl, h0, h1⟩ := h'
  simp
  refine ⟨(cs.map fun c : Int => (if c < 0 then -c else c) % M).reverse, 0, m, ?_, ?_, by omega, h0, h1⟩
  · simp [Function.comp_def]
  · simp; omega
/-- a pick from written items -/
theorem pick {o : OD} (hb : Bag o) {ds : List D} (h1 : ds ≠ []) (h2 : ds.length < 1000000) : ∃ d o', m__law_pick [o, .fz (.list ds)] = .ok (.fz d) [some o', none] ∧ d ∈ ds ∧ Bag o' := by
  have hl := List.length_pos_iff.mpr h1
  obtain ⟨r, o', e, h3, h4, h5⟩ := drawS hb (below := (ds.length : Int)) (by omega) (by omega)
  have hr : r.toNat < ds.length := by omega
  refine ⟨ds[r.toNat], o', ?_, List.getElem_mem hr, h5⟩
  unfold m__law_pick b__law_pick
  have ei : atI ds r = some ds[r.toNat] := by
    have := atI_natD (List.getElem?_eq_getElem hr)
    rwa [Int.toNat_of_nonneg h3] at this
  simp [e, ei]
theorem cut_from {α : Type} (f : α → D) (l : List α) (n : Nat) : cutD (l.map f) (some (n : Int)) none = (l.drop n).map f := by
  unfold cutD
  rw [HT.sIx_none, HT.sIx_nat, ← List.map_drop, ← List.map_take]
  congr 1
  simp only [List.length_map]
  by_cases h : n ≤ l.length
  · rw [show min n l.length = n by omega, List.take_of_length_le (by simp)]
  · rw [show min n l.length = l.length by omega]
    simp
    omega
theorem cut1 (l : List Int) : cutD (l.map PyData.int) (some 1) none = (l.map PyData.int).tail := by
  have := cut_from PyData.int l 1
  rw [show ((1 : Nat) : Int) = 1 from rfl] at this
  rw [this, List.drop_one, List.map_tail]
def at0 (ns : List Int) (j : Nat) : Int := ns.getD j 0
theorem atI_list {ns : List Int} {j : Nat} (h : j < ns.length) : atI (ns.map PyData.int) (j : Int) = some (.int (at0 ns j)) := by
  apply atI_natD
  rw [List.getElem?_map, List.getElem?_eq_getElem h]
  simp [at0, List.getD_eq_getElem?_getD, h]
theorem atI_listR {ns : List Int} {j : Nat} {J : Int} (e : J = (j : Int)) (h : j < ns.length) : atI (ns.map PyData.int) J = some (.int (at0 ns j)) := by rw [e]; exact atI_list h

theorem rep_one {α : Type} (a : α) (n : Nat) : (List.replicate n [a]).flatten = List.replicate n a := by
  induction n with
  | zero => rfl
  | succ n ih => rw [List.replicate_succ, List.flatten_cons, ih, List.replicate_succ]; rfl
theorem times_one {d : D} {n : Nat} (hn : n ≤ 1000000) : timesD (.tuple [d]) (.int (n : Int)) = some (.fz (.tuple (List.replicate n d))) := by
  unfold timesD mulT2
  simp only
  rw [if_pos ⟨by omega, by omega, by simp; omega⟩, Int.toNat_natCast, rep_one]
  rfl
theorem cut_mem (ds : List D) (lo hi : Option Int) : (∀ d ∈ cutD ds lo hi, d ∈ ds) ∧ (cutD ds lo hi).length ≤ ds.length := by
  obtain ⟨a, b, e⟩ := cut_map id ds lo hi
  rw [List.map_id, List.map_id] at e
  rw [e]
  refine ⟨fun d hd => List.mem_of_mem_drop (List.mem_of_mem_take hd), ?_⟩
  simp; omega
theorem seq_fin {rf : List Bool} {f h : SF} {s s' : S} {r : Res OD} (e : f s = .nx s') (e2 : Out.fin rf (h s') = r) : Out.fin rf (sSeq f h s) = r := by
  rw [ev_sSeq, e]
  exact e2
end G_k84

set_option Elab.async false
set_option linter.all false
set_option autoImplicit false
set_option maxRecDepth 100000
set_option exponentiation.threshold 100000
namespace G_k84
open PySem PySem.Spec L2 MI SER
theorem at_fn {l : List Int} {j : Nat} {J : Int} (e : J = (j : Int)) (h : j < l.length) : atI (l.map PyData.int) J = some (.int (fn l j)) := atI_listR e h
theorem sum_cv (a b : F) (n : Nat) : sumD (.list ((List.range (n + 1)).map fun i : Nat => PyData.int (a i * b (n - i)))) = some (.fz (.int (cv a b n))) := by
  rw [← cv_sum, ← sumD_ints, List.map_map]; rfl
theorem lt20 {x : Int} {k : Nat} (h : x.natAbs ≤ 2 ^ k) (hk : k ≤ 200000) : x.natAbs < 2 ^ 200001 := Nat.lt_of_le_of_lt h (Nat.pow_lt_pow_right (by decide) (by omega))
theorem mul20 {x y : Int} {k m : Nat} (hx : x.natAbs ≤ 2 ^ k) (hy : y.natAbs ≤ 2 ^ m) (hk : k ≤ 200000) (hm : m ≤ 200000) : mulD (.int x) (.int y) = some (.fz (.int (x * y))) := mul_ok 200001 200001 (lt20 hx hk) (lt20 hy hm)
theorem mulB {a b : List Int} {k m : Nat} (ha : Bd k a) (hb : Bd m b) (hk : k ≤ 200000) (hm : m ≤ 200000) (i j : Nat) : mulD (.int (fn a i)) (.int (fn b j)) = some (.fz (.int (fn a i * fn b j))) := mul20 (ha.fn i) (hb.fn j) hk hm
theorem product_item {a b : List Int} {k m n : Nat} (ha : Bd k a) (hb : Bd m b) (hk : k ≤ 200000) (hm : m ≤ 200000) (h1 : n < a.length) (h2 : n < b.length) (hl : a.length ≤ 16) : m_product_item [.fz (.tuple (a.map .int)), .fz (.tuple (b.map .int)), .fz (.int (n : Int))] = .ok (.fz (.int (cv (fn a) (fn b) n))) [none, none, none] := by
  unfold m_product_item b_product_item
  simp [rg_nat (n + 1) (show (n : Int) + 1 = ((n + 1 : Nat) : Int) by omega) (by omega), -k_Rg1, upto_map]
  rw [lcL_map (fun i : Nat => PyData.int (fn a i * fn b (n - i))) (fun i : Nat => PyData.int (i : Int)) _ [] (fun i hi => ⟨_, _, rfl, by
    have hi := List.mem_range.mp hi
    simp [at_fn (l := a) (j := i) rfl (by omega), at_fn (l := b) (j := n - i) (J := (n : Int) - (i : Int)) (by omega) (by omega), mulB ha hb hk hm]; rfl, by simp⟩) (by refine size_ok ?_; simp; omega)]
  simp [sum_cv]
theorem pl_map (a b : List Int) : (List.range a.length).map (fun n : Nat => PyData.int (cv (fn a) (fn b) n)) = (pl a b).map PyData.int := by
  unfold pl tr
  rw [List.map_map]; rfl
theorem series_product {a b : List Int} {k m : Nat} (ha : Bd k a) (hb : Bd m b) (hk : k ≤ 200000) (hm : m ≤ 200000) (h : a.length = b.length) (hl : a.length ≤ 16) : m_series_product [.fz (.tuple (a.map .int)), .fz (.tuple (b.map .int))] = .ok (.fz (.tuple ((pl a b).map .int))) [none, none] := by
  unfold m_series_product b_series_product
  simp [rg_nat a.length rfl (by omega), -k_Rg1, upto_map]
  rw [lcL_map (fun n : Nat => PyData.int (cv (fn a) (fn b) n)) (fun i : Nat => PyData.int (i : Int)) _ [] (fun i hi => ⟨_, _, rfl, by
    have hi := List.mem_range.mp hi
    simp [product_item ha hb hk hm hi (by omega) hl]; rfl, by simp⟩) (by refine size_ok ?_; simp; omega)]
  simp [pl_map]
theorem own_product {a b : List Int} {k m : Nat} (ha : Bd k a) (hb : Bd m b) (hk : k ≤ 200000) (hm : m ≤ 200000) (h : a.length = b.length) (hl : a.length ≤ 16) : m__law_own_product [.fz (.tuple (a.map .int)), .fz (.tuple (b.map .int))] = .ok (.fz (.tuple ((pl a b).map .int))) [none, none] := by
  obtain ⟨s', e, x, es⟩ := forL_inv (g := gN 3) (h := l__law_own_product_1)
    (fun i st => ∃ x, st = [some (.fz (.tuple (a.map .int))), some (.fz (.tuple (b.map .int))), some (.ol ((tr i (cv (fn a) (fn b))).map .int)), x, none])
    (upto 0 a.length) 0 [some (.fz (.tuple (a.map .int))), some (.fz (.tuple (b.map .int))), some (.ol []), none, none] ⟨none, by simp [tr]⟩ (by
      rintro i d st hd ⟨x, rfl⟩
      obtain ⟨hi, rfl⟩ := upto_get hd
      rw [Nat.zero_add]
      refine ⟨_, [some (.fz (.tuple (a.map .int))), some (.fz (.tuple (b.map .int))), some (.ol ((tr (i + 1) (cv (fn a) (fn b))).map .int)), some (.fz (.int (i : Int))), none], rfl, .inl ?_, _, rfl⟩
      have hz : (tr i (cv (fn a) (fn b))).length < sizeLine := size_lt (by rw [tr_len]; omega)
      unfold l__law_own_product_1
      simp [rg_nat (i + 1) (show (i : Int) + 1 = ((i + 1 : Nat) : Int) by omega) (by omega), -k_Rg1, upto_map, hz]
      rw [lcL_map (fun j : Nat => PyData.int (fn a j * fn b (i - j))) (fun i : Nat => PyData.int (i : Int)) _ [] (fun j hj => ⟨_, _, rfl, by
        have hj := List.mem_range.mp hj
        simp [at_fn (l := a) (j := j) rfl (by omega), at_fn (l := b) (j := i - j) (J := (i : Int) - (j : Int)) (by omega) (by omega), mulB ha hb hk hm]; rfl, by simp⟩) (by refine size_ok ?_; simp; omega)]
      simp [sum_cv, tr_succ, hz])
  subst es
  rw [Nat.zero_add, upto_length] at e
  unfold m__law_own_product b__law_own_product
  simp [rg_nat a.length rfl (by omega), -k_Rg1, e]
  rfl
end G_k84

set_option Elab.async false
set_option linter.all false
set_option autoImplicit false
set_option maxRecDepth 100000
set_option exponentiation.threshold 100000
namespace G_k84
open PySem PySem.Spec L2 MI SER
theorem rg21 {s : S} {N : Int} (k : Nat) (e : N = (k : Int) + 1) (h : k ≤ 1000000) : kRg2b (.int 1) (.int N) s = .ok (upto 1 k) s := by
  rw [k_Rg2b, if_pos (by omega), show (N - 1).toNat = k by omega]
theorem upto1_get {n i : Nat} {d : D} (h : (upto 1 n)[i]? = some d) : i < n ∧ d = .int (1 + (i : Int)) := by
  unfold upto at h
  rw [List.getElem?_map, Option.map_eq_some_iff] at h
  obtain ⟨j, h1, rfl⟩ := h
  have hi := lt_of_get h1
  rw [List.length_range] at hi
  rw [List.getElem?_range hi] at h1
  cases h1
  exact ⟨hi, rfl⟩
theorem upto1_len (k : Nat) : (upto 1 k).length = k := by simp [upto]
theorem not_in {x : Int} (h : x ≠ 1 ∧ x ≠ -1) : notInD (.int x) (.tuple [.int 1, .int (-1)]) = some true := by
  have h1 : ((1 : Int) == x) = false := beq_eq_false_iff_ne.mpr fun z => h.1 z.symm
  have h2 : ((-1 : Int) == x) = false := beq_eq_false_iff_ne.mpr fun z => h.2 z.symm
  simp [notInD, inD, inF, flatD, toV, inV, eqV, h1, h2]
theorem is_in {x : Int} (h : x = 1 ∨ x = -1) : notInD (.int x) (.tuple [.int 1, .int (-1)]) = some false := by
  rcases h with rfl | rfl <;> rfl
theorem sq_one {x : Int} (h : x = 1 ∨ x = -1) : x * x = 1 := by rcases h with rfl | rfl <;> rfl
theorem bd_ivL {l : List Int} {k : Nat} (h0 : fn l 0 * fn l 0 = 1) (h : Bd k l) {n : Nat} (hn : n < 16) : Bd ((k + 4) * 15) (ivL (fn l) n) := by
  rw [ivL_tr]
  exact bd_tr fun i hi => Nat.le_trans (bd_iv h0 i (by omega) fun _ _ => h.fn _) (Nat.pow_le_pow_right (by decide) (Nat.mul_le_mul_left _ (by omega)))
theorem sum_other {l : List Int} (i : Nat) : sumD (.list ((List.range (i + 1)).map fun j : Nat => PyData.int (fn l (j + 1) * fn (ivL (fn l) i) (i - j)))) = some (.fz (.int (cv (sh (fn l)) (fun i' => (ivL (fn l) i).getD i' 0) i))) := sum_cv (sh (fn l)) (fn (ivL (fn l) i)) i
theorem other_lc {l : List Int} {k : Nat} (hk : k ≤ 1000) (h : Bd k l) (h0 : fn l 0 * fn l 0 = 1) (hl : l.length ≤ 16) {i : Nat} (hi : i + 1 < l.length) : 
    lcL [false, false, false, true] (gN 3) kYes (eFrz (oOp2 mulD (eAt 0 (eVar 3)) (eAt 1 (eFrz (oOp2 subD (eVar 2) (eVar 3)))))) (upto 1 (i + 1)) [] [some (.fz (.tuple (l.map .int))), some (.ol ((ivL (fn l) i).map .int)), some (.fz (.int (1 + (i : Int)))), none] =
      .ok ((List.range (i + 1)).map fun j : Nat => PyData.int (fn l (j + 1) * fn (ivL (fn l) i) (i - j))) [some (.fz (.tuple (l.map .int))), some (.ol ((ivL (fn l) i).map .int)), some (.fz (.int (1 + (i : Int)))), none] := by
  have hb := bd_ivL h0 h (n := i) (by omega)
  rw [upto, lcL_map (fun j : Nat => PyData.int (fn l (j + 1) * fn (ivL (fn l) i) (i - j))) (fun j : Nat => PyData.int (1 + (j : Int))) _ [] (fun j hj => ⟨_, _, rfl, by
        have hj := List.mem_range.mp hj
        have e2 := at_fn (l := ivL (fn l) i) (j := i - j) (J := 1 + (i : Int) - (1 + (j : Int))) (by omega) (by rw [ivL_len]; omega)
        simp [at_fn (l := l) (j := j + 1) (J := 1 + (j : Int)) (by omega) (by omega), e2, mulB h hb (by omega) (by omega)]; rfl, by simp⟩) (by refine size_ok ?_; simp; omega)]
  rfl
theorem other_bd {l : List Int} {k : Nat} (h : Bd k l) (h0 : fn l 0 * fn l 0 = 1) {i : Nat} (hi : i + 1 < 16) : (cv (sh (fn l)) (fun i' => (ivL (fn l) i).getD i' 0) i).natAbs ≤ 2 ^ (k + (k + 4) * 15 + 4) :=
  bd_cv (by omega) (fun j _ => h.fn (j + 1)) (fun j _ => (bd_ivL h0 h (n := i) (by omega)).fn j)
theorem own_other {l : List Int} {k : Nat} (hk : k ≤ 1000) (h : Bd k l) (h0 : fn l 0 = 1 ∨ fn l 0 = -1) (hl : l.length ≤ 16) (hp : 0 < l.length) : m__law_own_other [.fz (.tuple (l.map .int))] = .ok (.fz (.tuple ((ivl l).map .int))) [none] := by
  have hs := sq_one h0
  obtain ⟨n, hn⟩ : ∃ n, l.length = n + 1 := ⟨l.length - 1, by omega⟩
  obtain ⟨s', e, x, es⟩ := forL_inv (g := gN 2) (h := l__law_own_other_1)
    (fun i st => ∃ x, st = [some (.fz (.tuple (l.map .int))), some (.ol ((ivL (fn l) i).map .int)), x, none])
    (upto 1 n) 0 [some (.fz (.tuple (l.map .int))), some (.ol [.int (fn l 0)]), none, none] ⟨none, rfl⟩ (by
      rintro i d st hd ⟨x, rfl⟩
      obtain ⟨hi, rfl⟩ := upto1_get hd
      rw [Nat.zero_add]
      refine ⟨_, [some (.fz (.tuple (l.map .int))), some (.ol ((ivL (fn l) (i + 1)).map .int)), some (.fz (.int (1 + (i : Int)))), none], rfl, .inl ?_, _, rfl⟩
      have hz : (ivL (fn l) i).length < sizeLine := size_lt (by rw [ivL_len]; omega)
      have e1 := other_lc hk h hs hl (i := i) (by omega)
      have e2 := sum_other (l := l) i
      have e3 := at_fn (l := l) (j := 0) (J := 0) rfl (by omega)
      have e4 := mul20 (x := fn l 0) (k := k) (h.fn 0) (other_bd h hs (i := i) (by omega)) (by omega) (by omega)
      have e6 : ivL (fn l) (i + 1) = ivL (fn l) i ++ [-(fn l 0) * cv (sh (fn l)) (fun i' => (ivL (fn l) i).getD i' 0) i] := rfl
      rw [e6]
      clear e6
      generalize cv (sh (fn l)) (fun i' => (ivL (fn l) i).getD i' 0) i = c at *
      unfold l__law_own_other_1
      simp [rg21 (i + 1) (N := 1 + (i : Int) + 1) (by omega) (by omega), -k_Rg2b, e1, e2, e3, e4, hz, Int.neg_mul])
  subst es
  rw [Nat.zero_add, upto1_len] at e
  have e3 := at_fn (l := l) (j := 0) (J := 0) rfl (by omega)
  have e5 : (ivl l).map PyData.int = (ivL (fn l) n).map PyData.int := by rw [ivL_tr, ivl, hn]
  unfold m__law_own_other b__law_own_other
  rw [e5]
  simp [e3, rg21 n (N := (l.length : Int)) (by omega) (by omega), -k_Rg2b, e]
theorem times_oneZ {d : D} {z : Int} {n : Nat} (e : z = (n : Int)) (hn : n ≤ 1000000) : timesD (.tuple [d]) (.int z) = some (.fz (.tuple (List.replicate n d))) := by rw [e]; exact times_one hn
theorem unl_map (n : Nat) : (unl (n + 1)).map PyData.int = .int 1 :: List.replicate n (.int 0) := by rw [unl_eq]; simp
/-- (1,) + (0,) * (len(row) - 1) -/
theorem unit_parts {n : Nat} (h : 0 < n) (hn : n ≤ 1000) : ∃ Z, timesD (.tuple [.int 0]) (.int ((n : Int) - 1)) = some (.fz (.tuple Z)) ∧ addD (.tuple [.int 1]) (.tuple Z) = some (.fz (.tuple ((unl n).map .int))) := by
  obtain ⟨m, rfl⟩ : ∃ m, n = m + 1 := ⟨n - 1, by omega⟩
  refine ⟨List.replicate m (.int 0), times_oneZ (by omega) (by omega), ?_⟩
  rw [addD_tup, if_pos (size_ok (by simp; omega)), unl_map]; rfl
theorem unit_series {n : Nat} (h : 0 < n) (hn : n ≤ 1000) : m_unit_series [.fz (.int (n : Int))] = .ok (.fz (.tuple ((unl n).map .int))) [none] := by
  obtain ⟨Z, e1, e2⟩ := unit_parts h hn
  unfold m_unit_series b_unit_series
  simp [e1, e2, -addD_tup]
end G_k84

set_option Elab.async false
set_option linter.all false
set_option autoImplicit false
set_option maxRecDepth 100000
set_option exponentiation.threshold 100000
namespace G_k84
open PySem PySem.Spec L2 MI SER
def kRev (d : D) : IF := ofO ((itemsD d).map List.reverse)
@[simp] theorem k_Rev {d : D} {s : S} : kRev d s = ofO ((itemsD d).map List.reverse) s := Eq.trans rfl rfl
@[simp] theorem ev_iRev {fa : EF} {s : S} : iRev fa s = (fa s).bind kRev := by
  refine Eq.trans ?_ rfl
  rfl
theorem zr_map (n : Nat) : (tr n zr).map PyData.int = List.replicate n (.int 0) := by
  unfold tr
  rw [List.map_map]
  exact List.eq_replicate_iff.mpr ⟨by simp, fun b hb => by
    obtain ⟨i, _, rfl⟩ := List.mem_map.mp hb
    rfl⟩
theorem zeros {n : Nat} (hn : n ≤ 1000) : timesD (.tuple [.int 0]) (.int (n : Int)) = some (.fz (.tuple ((tr n zr).map .int))) := by
  rw [zr_map]; exact times_one (by omega)
theorem own_step {f o : List Int} {x : Int} {j k n : Nat} (hf : Bd j f) (ho : Bd k o) (hj : j ≤ 200000) (hk : k ≤ 200000) (hn : f.length = n) (hn2 : o.length = n) (h0 : 0 < n) (h1 : n ≤ 16) (a t : Option OD) :
    l__law_own_put_1 [a, some (.fz (.tuple (o.map .int))), some (.fz (.tuple (f.map .int))), some (.fz (.int x)), t] = .nx [a, some (.fz (.tuple (o.map .int))), some (.fz (.tuple ((stp o x f).map .int))), some (.fz (.int x)), some (.fz (.tuple ((pl f o).map .int)))] := by
  have e1 := own_product hf ho hj hk (by omega) (by omega)
  have hlen : (pl f o).length = n := by rw [pl_len]; exact hn
  have e2 := at_fn (l := pl f o) (j := 0) (J := 0) rfl (by omega)
  have e3 := cut1 (pl f o)
  have hz : 1 + ((pl f o).tail.map PyData.int).length ≤ sizeLine := size_ok (by simp; omega)
  have e4 : (stp o x f).map PyData.int = .int (fn (pl f o) 0 + x) :: (pl f o).tail.map PyData.int := rfl
  rw [e4]
  have e5 : ((pl f o).map PyData.int).tail = (pl f o).tail.map PyData.int := by rw [List.map_tail]
  rw [e5] at e3
  generalize (pl f o).tail.map PyData.int = TL at *
  unfold l__law_own_put_1
  have e6 : addD (.tuple [.int (fn (pl f o) 0 + x)]) (.tuple TL) = some (.fz (.tuple (.int (fn (pl f o) 0 + x) :: TL))) := by
    rw [addD_tup, List.length_singleton, if_pos hz]; rfl
  simp [e1, e2, e3, e6, -addD_tup]
theorem own_put_loop {o : List Int} {k m n : Nat} (ho : Bd k o) (hk : k ≤ 6000) (hm : m ≤ 6000) (hn2 : o.length = n) (h0 : 0 < n) (h1 : n ≤ 16) (a : Option OD) : ∀ (rest done : List Int) (x t : Option OD), Bd m rest → Bd m done → rest.length + done.length ≤ 16 →
    ∃ x' t', forL (gN 3) l__law_own_put_1 (rest.map .int) [a, some (.fz (.tuple (o.map .int))), some (.fz (.tuple ((hl o n done).map .int))), x, t] = .nx [a, some (.fz (.tuple (o.map .int))), some (.fz (.tuple ((hl o n (rest.reverse ++ done)).map .int))), x', t']
  | [], done, x, t, _, _, _ => ⟨x, t, rfl⟩
  | r :: rest, done, x, t, h2, h3, h4 => by
    rw [List.length_cons] at h4
    have hb := bd_hl h0 h1 ho done h3
    have q : (k + 5) * done.length ≤ 6005 * 16 := Nat.mul_le_mul (by omega) (by omega)
    have e1 := own_step (x := r) hb ho (by omega) (by omega) (hl_len h0 done) hn2 h0 h1 a t
    obtain ⟨x', t', e2⟩ := own_put_loop ho hk hm hn2 h0 h1 a rest (r :: done) (some (.fz (.int r))) (some (.fz (.tuple ((pl (hl o n done) o).map .int)))) (fun y hy => h2 y (by simp [hy])) (fun y hy => by
      rcases List.mem_cons.mp hy with rfl | hy
      · exact h2 _ (by simp)
      · exact h3 y hy) (by rw [List.length_cons]; omega)
    refine ⟨x', t', ?_⟩
    rw [List.reverse_cons, List.append_assoc]
    rw [← show rest.reverse ++ r :: done = rest.reverse ++ ([r] ++ done) from rfl]
    rw [← e2, List.map_cons, forL_cons2]
    show kForB _ _ _ (gN 3 (.int r) _) = _
    rw [show hl o n (r :: done) = stp o r (hl o n done) from rfl]
    generalize l__law_own_put_1 = LL at *
    simp [e1]
theorem own_put {l o : List Int} {k m n : Nat} (hb : Bd m l) (ho : Bd k o) (hk : k ≤ 6000) (hm : m ≤ 6000) (hn : l.length = n) (hn2 : o.length = n) (h0 : 0 < n) (h1 : n ≤ 16) : m__law_own_put [.fz (.tuple (l.map .int)), .fz (.tuple (o.map .int))] = .ok (.fz (.tuple ((hl o n l).map .int))) [none, none] := by
  obtain ⟨x, t, e⟩ := own_put_loop ho hk hm hn2 h0 h1 (some (.fz (.tuple (l.map .int)))) l.reverse [] none none (fun y hy => hb y (by simpa using hy)) (fun y hy => by simp at hy) (by simp; omega)
  rw [List.reverse_reverse, List.append_nil, List.map_reverse, show hl o n [] = tr n zr from rfl] at e
  have e1 := zeros (n := n) (by omega)
  unfold m__law_own_put b__law_own_put
  generalize l__law_own_put_1 = LL at *
  simp [hn, e1, e]
theorem adl_map (x : Int) (f p : List Int) : ((f.zip p).map fun q : Int × Int => PyData.int (q.1 + x * q.2)) = (adl x f p).map PyData.int := by
  unfold adl
  rw [List.map_map]; rfl
theorem put_step {f p o : List Int} {x : Int} {j k m n : Nat} (hp : Bd j p) (ho : Bd k o) (hx : x.natAbs ≤ 2 ^ m) (hj : j ≤ 200000) (hk : k ≤ 200000) (hm : m ≤ 200000) (hf : f.length = n) (hn : p.length = n) (hn2 : o.length = n) (h0 : 0 < n) (h1 : n ≤ 16) (a : Option OD) :
    l_put_into_1 [a, some (.fz (.tuple (o.map .int))), some (.fz (.tuple (f.map .int))), some (.fz (.tuple (p.map .int))), some (.fz (.int x)), none, none] = .nx [a, some (.fz (.tuple (o.map .int))), some (.fz (.tuple ((adl x f p).map .int))), some (.fz (.tuple ((pl p o).map .int))), some (.fz (.int x)), none, none] := by
  have e1 := series_product hp ho hj hk (by omega) (by omega)
  unfold l_put_into_1
  simp [pairUp_ints, e1]
  rw [lcL_map (fun q : Int × Int => PyData.int (q.1 + x * q.2)) (fun q : Int × Int => PyData.tuple [.int q.1, .int q.2]) _ [] (fun q hq => ⟨_, _, rfl, by
    have hq2 := (List.of_mem_zip hq).2
    have l1 := mul20 hx (hp _ hq2) hm hj
    simp [l1]; rfl, by simp⟩) (by refine size_ok ?_; simp; omega)]
  simp [adl_map, e1]
theorem put_loop {o : List Int} {k m n : Nat} (ho : Bd k o) (hk : k ≤ 6000) (hm : m ≤ 6000) (hn2 : o.length = n) (h0 : 0 < n) (h1 : n ≤ 16) (a : Option OD) : ∀ (rest f p : List Int) (x : Option OD) (j i : Nat), Bd m rest → Bd j p → Bd i f → j + (k + 4) * rest.length ≤ 97000 → i + rest.length ≤ 120000 → f.length = n → p.length = n → 103100 ≤ i →
    ∃ x' p', forL (gN 4) l_put_into_1 (rest.map .int) [a, some (.fz (.tuple (o.map .int))), some (.fz (.tuple (f.map .int))), some (.fz (.tuple (p.map .int))), x, none, none] = .nx [a, some (.fz (.tuple (o.map .int))), some (.fz (.tuple ((Sl o rest f p).map .int))), p', x', none, none]
  | [], f, p, x, j, i, _, _, _, _, _, _, _, _ => ⟨x, _, rfl⟩
  | r :: rest, f, p, x, j, i, h2, h3, h4, h5, h6, h7, h8, h9 => by
    rw [List.length_cons, Nat.mul_succ] at h5
    rw [List.length_cons] at h6
    have hr := h2 r (by simp)
    have e1 := put_step (f := f) (p := p) (x := r) h3 ho hr (by omega) (by omega) (by omega) h7 h8 hn2 h0 h1 a
    obtain ⟨x', p', e2⟩ := put_loop ho hk hm hn2 h0 h1 a rest (adl r f p) (pl p o) (some (.fz (.int r))) (j + k + 4) (i + 1) (fun y hy => h2 y (by simp [hy])) (bd_pl h3 ho (by omega)) (bd_adl hr h4 h3 (by omega)) (by omega) (by omega) (by rw [adl_len (h7.trans h8.symm)]; exact h7) (by rw [pl_len]; exact h8) (by omega)
    refine ⟨x', p', ?_⟩
    rw [show Sl o (r :: rest) f p = Sl o rest (adl r f p) (pl p o) from rfl, ← e2, List.map_cons, forL_cons2]
    generalize l_put_into_1 = LL at *
    simp [e1]
theorem put_into {l o : List Int} {k m n : Nat} (hb : Bd m l) (ho : Bd k o) (hk : k ≤ 6000) (hm : m ≤ 6000) (hn : l.length = n) (hn2 : o.length = n) (h0 : 0 < n) (h1 : n ≤ 16) : m_put_into [.fz (.tuple (l.map .int)), .fz (.tuple (o.map .int))] = .ok (.fz (.tuple ((hl o n l).map .int))) [none, none] := by
  have q : (k + 4) * l.length ≤ 6004 * 16 := Nat.mul_le_mul (by omega) (by omega)
  obtain ⟨x, p, e⟩ := put_loop ho hk hm hn2 h0 h1 (some (.fz (.tuple (l.map .int)))) l (tr n zr) (unl n) none 0 103100 hb (bd_unl n) (bd_tr fun i _ => Nat.zero_le _) (by omega) (by omega) (tr_len _ _) (tr_len _ _) (Nat.le_refl _)
  rw [put_eq o h0] at e
  have e1 := zeros (n := n) (by omega)
  have e2 := unit_series (n := n) h0 (by omega)
  unfold m_put_into b_put_into
  generalize l_put_into_1 = LL at *
  simp [hn, e1, e2, e]
end G_k84

set_option Elab.async false
set_option linter.all false
set_option autoImplicit false
set_option maxRecDepth 100000
set_option exponentiation.threshold 100000
namespace G_k84
open PySem PySem.Spec L2 MI SER
def sT (r : Res OD) : Str := match r with
  | .ok (.fz (.str t)) _ => t
  | _ => Str.empty
/-- the text that tells a value -/
def SN (k : Nat) (d : D) (e : Int) : Str := sT (m__law_seen k [.fz d, .fz (.int e)])
structure Sn (k : Nat) (d : D) (e : Int) : Prop where
  run : m__law_seen k [.fz d, .fz (.int e)] = .ok (.fz (.str (SN k d e))) [none, none]
  len : (SN k d e).length ≤ 5000
theorem sf_of {k : Nat} {d : D} {e : Int} {t : Str} (h : m__law_seen k [.fz d, .fz (.int e)] = .ok (.fz (.str t)) [none, none]) : SN k d e = t := by
  unfold SN
  rw [h]; rfl
theorem sn_of {k : Nat} {d : D} {e : Int} {t : Str} (h : m__law_seen k [.fz d, .fz (.int e)] = .ok (.fz (.str t)) [none, none]) (hl : t.length ≤ 5000) : Sn k d e := by
  have q := sf_of h
  exact ⟨by rw [q]; exact h, by rw [q]; exact hl⟩
theorem seen_int (k : Nat) (x e : Int) : Sn (k + 1) (.int x) e := by
  obtain ⟨T, M, p1, p2, hM⟩ := pow62
  by_cases h : (if x < 0 then -x else x) < M
  · have hx := hM x h
    have e1 := reprV_some (reprV_int hx)
    have hl := shown_int hx
    refine sn_of (t := (PyData.int x).shown) ?_ (by omega)
    unfold m__law_seen b__law_seen
    generalize (PyData.int x).shown = SH at *
    simp [-powD_int, p1, p2, h, e1]
  · refine sn_of (t := "great") ?_ (by decide +kernel)
    unfold m__law_seen b__law_seen
    simp [-powD_int, p1, p2, h]
theorem seen_none (k : Nat) (e : Int) : Sn (k + 1) .none e := by
  have e1 := reprV_some (sml_none 0 0 |>.repr (by decide) (by decide))
  refine sn_of (t := (PyData.none).shown) ?_ (by decide +kernel)
  unfold m__law_seen b__law_seen
  generalize (PyData.none).shown = SH at *
  simp [e1]
theorem seen_str (k : Nat) {x : Str} (e : Int) (h : ReprOkV (.str x)) (hl : (PyData.str x).shown.length ≤ 5000) : Sn (k + 1) (.str x) e := by
  have e1 := reprV_some h
  refine sn_of (t := (PyData.str x).shown) ?_ hl
  unfold m__law_seen b__law_seen
  generalize (PyData.str x).shown = SH at *
  simp [e1]
theorem joined_len (ts : List Str) (L : Nat) (h : ∀ t ∈ ts, t.length ≤ L) : (ts.map (·.length)).sum ≤ L * ts.length := by
  induction ts with
  | nil => simp
  | cons t ts ih =>
    have h1 := h t (by simp)
    have h2 := ih fun x hx => h x (by simp [hx])
    rw [List.map_cons, List.sum_cons, List.length_cons, Nat.mul_succ]; omega
theorem join_empty_len (ts : List Str) : (Txt.join "" ts).length ≤ (ts.map (·.length)).sum := by
  have := size_glued "" ts
  rw [show (Txt.join "" ts).length = (Builtin.Str.glued "" ts).length from rfl, this, show (("" : String) : Str).length = 0 from rfl]
  omega
theorem seen_tup {k : Nat} {ds : List D} {e : Int} (he : 0 < e) (h : ∀ d ∈ ds, Sn k d (e - 1)) (hl : ds.length ≤ 20) : m__law_seen (k + 1) [.fz (.tuple ds), .fz (.int e)] = .ok (.fz (.str (SN (k + 1) (.tuple ds) e))) [none, none] ∧ (SN (k + 1) (.tuple ds) e).length ≤ 200000 := by
  have sep : ((", " : String) : Str).length = 2 := rfl
  obtain ⟨f, hf⟩ : ∃ f : D → Str, f = fun d => SN k d (e - 1) ++ ((", " : String) : Str) := ⟨_, rfl⟩
  have hfl : ∀ d ∈ ds, (f d).length ≤ 5002 := fun d hd => by
    have := (h d hd).len
    rw [hf, strLen_append, sep]; omega
  have ll := lcL_map (ow := [false, false, true]) (g := gN 2) (e := eFrz (oOp2 addD (eFrz (oCall [none, none] (aCons (eVar 2) (aCons (eFrz (oOp2 subD (eVar 1) (eC (.int 1)))) aNil)) (noexF (m__law_seen k)))) (eC (.str ", ")))) (s := [some (.fz (.tuple ds)), some (.fz (.int e)), none]) (fun d => PyData.str (f d)) (fun d : D => d) ds [] (fun d hd => ⟨_, [some (.fz (.tuple ds)), some (.fz (.int e)), some (.fz d)], rfl, by
    have e1 := (h d hd).run
    have e2 := add_str (x := SN k d (e - 1)) (y := ", ") (by have := (h d hd).len; rw [sep]; omega)
    simp [e1, e2, hf], by simp⟩) (by refine size_ok ?_; simp; omega)
  rw [List.map_id', List.nil_append] at ll
  have em : ds.map (fun d => PyData.str (f d)) = (ds.map f).map PyData.str := by rw [List.map_map]; rfl
  rw [em] at ll
  have l1 := joined_len (ds.map f) 5002 (fun t ht => by
    obtain ⟨d, hd, rfl⟩ := List.mem_map.mp ht
    exact hfl d hd)
  rw [List.length_map] at l1
  have l2 : 5002 * ds.length ≤ 5002 * 20 := Nat.mul_le_mul_left _ hl
  have e3 := join_map (x := "") (ts := ds.map f) (by rw [show (("" : String) : Str).length = 0 from rfl]; omega)
  have l3 := join_empty_len (ds.map f)
  have e4 := add_str (x := "(") (y := Txt.join "" (ds.map f)) (by rw [show (("(" : String) : Str).length = 1 from rfl]; omega)
  have e5 := add_str (x := "(" ++ Txt.join "" (ds.map f)) (y := ")") (by rw [strLen_append, show (("(" : String) : Str).length = 1 from rfl, show ((")" : String) : Str).length = 1 from rfl]; omega)
  have run : m__law_seen (k + 1) [.fz (.tuple ds), .fz (.int e)] = .ok (.fz (.str ("(" ++ Txt.join "" (ds.map f) ++ ")"))) [none, none] := by
    unfold m__law_seen b__law_seen
    generalize (ds.map f).map PyData.str = FS at *
    generalize Txt.join "" (ds.map f) = JJ at *
    simp [he, ll, e3, e4, e5]
  rw [sf_of run]
  refine ⟨run, ?_⟩
  rw [strLen_append, strLen_append, show (("(" : String) : Str).length = 1 from rfl, show ((")" : String) : Str).length = 1 from rfl]
  omega
end G_k84


set_option Elab.async false
set_option linter.all false
set_option autoImplicit false
set_option maxRecDepth 100000
set_option exponentiation.threshold 100000
namespace G_k84
open PySem PySem.Spec L2 MI SER
theorem row_turn {o : OD} (hb : Bag o) (kind : Int) (m x : Option OD) {ds : List D} (hl : ds.length < sizeLine) : ∃ v o', l__law_own_row_1 [some o, m, some (.fz (.int kind)), some (.ol ds), x] = .nx [some o', m, some (.fz (.int kind)), some (.ol (ds ++ [.int v])), x] ∧ v.natAbs ≤ 2 ^ 20 ∧ Bag o' := by
  unfold l__law_own_row_1
  by_cases h0 : kind = 0
  · obtain ⟨r, o', e, h1, h2, b⟩ := drawS hb (below := 7) (by omega) (by omega)
    exact ⟨r - 3, o', by simp [h0, e, hl], by omega, b⟩
  by_cases h1 : kind = 1
  · obtain ⟨r, o', e, h1, h2, b⟩ := drawS hb (below := 501) (by omega) (by omega)
    exact ⟨r - 250, o', by simp [h0, h1, e, hl, *], by omega, b⟩
  by_cases h2 : kind = 2
  · obtain ⟨r, o', e, h1, h2, b⟩ := drawS hb (below := 2000001) (by omega) (by omega)
    exact ⟨r - 1000000, o', by simp [h0, h1, h2, e, hl, *], by omega, b⟩
  by_cases h3 : kind = 3
  · obtain ⟨d, o', e, hd, b⟩ := pick hb (ds := [.int 1000000, .int (-1000000), .int 999999, .int (-1), .int 1, .int 0]) (by simp) (by simp)
    obtain ⟨v, rfl, hv⟩ : ∃ v, d = .int v ∧ v.natAbs ≤ 2 ^ 20 := by
      simp only [List.mem_cons, List.not_mem_nil, or_false] at hd
      rcases hd with rfl | rfl | rfl | rfl | rfl | rfl <;> exact ⟨_, rfl, by decide⟩
    exact ⟨v, o', by simp [h0, h1, h2, h3, e, hl], hv, b⟩
  · obtain ⟨r, o1, e1, g1, g2, b1⟩ := drawS hb (below := 4) (by omega) (by omega)
    by_cases hr : 0 < r
    · exact ⟨0, o1, by simp [h0, h1, h2, h3, e1, hl, hr], by decide, b1⟩
    · obtain ⟨q, o', e, h5, h6, b⟩ := drawS b1 (below := 21) (by omega) (by omega)
      exact ⟨q - 10, o', by simp [h0, h1, h2, h3, e1, e, hl, hr], by omega, b⟩
/-- a row of the law -/
structure Rr (n : Nat) (l : List Int) : Prop where
  len : l.length = n
  bd : Bd 20 l
theorem own_row {o : OD} (hb : Bag o) {n : Nat} (hn : n ≤ 1000) (kind : Int) : ∃ l o', m__law_own_row [o, .fz (.int (n : Int)), .fz (.int kind)] = .ok (.fz (.tuple (l.map .int))) [some o', none, none] ∧ Rr n l ∧ Bag o' := by
  obtain ⟨s', e, o', l, x, es, b, hl, hbd⟩ := forL_inv (g := gN 4) (h := l__law_own_row_1)
    (fun i st => ∃ o' l x, st = [some o', some (.fz (.int (n : Int))), some (.fz (.int kind)), some (.ol (l.map .int)), x] ∧ Bag o' ∧ l.length = i ∧ Bd 20 l)
    (upto 0 n) 0 [some o, some (.fz (.int (n : Int))), some (.fz (.int kind)), some (.ol []), none] ⟨o, [], none, rfl, hb, rfl, fun y hy => by simp at hy⟩ (by
      rintro i d st hd ⟨o1, l, x, rfl, b1, h1, h2⟩
      obtain ⟨hi, rfl⟩ := upto_get hd
      obtain ⟨v, o2, e2, h3, b2⟩ := row_turn b1 kind (some (.fz (.int (n : Int)))) (some (.fz (.int (i : Int)))) (ds := l.map .int) (size_lt (by simp; omega))
      refine ⟨_, _, rfl, .inl e2, o2, l ++ [v], _, by rw [List.map_append]; rfl, b2, by simp; omega, fun y hy => ?_⟩
      rcases List.mem_append.mp hy with h | h
      · exact h2 y h
      · rw [show y = v by simpa using h]; exact h3)
  subst es
  rw [upto_length, Nat.zero_add] at hl
  refine ⟨l, o', ?_, ⟨hl, hbd⟩, b⟩
  unfold m__law_own_row b__law_own_row
  generalize l__law_own_row_1 = LL at *
  simp [rg_nat n rfl (by omega), -k_Rg1, e]
theorem try_fin {rf : List Bool} {i : Nat} {h : Exn → Option HR} {fb : SF} {s : S} {o : Out} {r : Res OD} (e : fb s = o) (e2 : (o.tryIn i h).fin rf = r) : Out.fin rf (sTry i fb h s) = r := by
  rw [ev_Try, e]; exact e2
end G_k84

set_option Elab.async false
set_option linter.all false
set_option autoImplicit false
set_option maxRecDepth 100000
set_option exponentiation.threshold 100000
namespace G_k84
open PySem PySem.Spec L2 MI SER
theorem rg22 {s : S} {N : Int} (k : Nat) (e : N = (k : Int) + 2) (h : k ≤ 1000000) : kRg2b (.int 2) (.int N) s = .ok (upto 2 k) s := by
  rw [k_Rg2b, if_pos (by omega), show (N - 2).toNat = k by omega]
theorem upto2_get {n i : Nat} {d : D} (h : (upto 2 n)[i]? = some d) : i < n ∧ d = .int (2 + (i : Int)) := by
  unfold upto at h
  rw [List.getElem?_map, Option.map_eq_some_iff] at h
  obtain ⟨j, h1, rfl⟩ := h
  have hi := lt_of_get h1
  rw [List.length_range] at hi
  rw [List.getElem?_range hi] at h1
  cases h1
  exact ⟨hi, rfl⟩
theorem upto2_len (k : Nat) : (upto 2 k).length = k := by simp [upto]
theorem bd_tgL {l : List Int} {k n : Nat} (h : Bd k (tgl l)) (hn : n < l.length) : Bd k (tgL (fn l) n) := by
  rw [tgL_tr]
  exact bd_tr fun i hi => by rw [← fn_tgl (l := l) (by omega)]; exact h.fn i
/-- what one turn puts on -/
theorem turn_step {l : List Int} {m k n : Nat} (hb : Bd m l) (ho : Bd k (tgl l)) (hk : k ≤ 6000) (hm : m ≤ 5900) (h1 : n + 1 < l.length) (hn : 1 ≤ n) (h16 : l.length ≤ 16) (x : Option OD) :
    ∃ y, l_turned_about_1 [some (.fz (.tuple (l.map .int))), some (.ol ((tgL (fn l) n).map .int)), some (.fz (.int ((n + 1 : Nat) : Int))), x] = .nx [some (.fz (.tuple (l.map .int))), some (.ol ((tgL (fn l) (n + 1)).map .int)), some (.fz (.int ((n + 1 : Nat) : Int))), y] := by
  have hlen : (tgL (fn l) n).length = n + 1 := tgL_len _ _
  obtain ⟨g, hg⟩ : ∃ g, g = tgL (fn l) n := ⟨_, rfl⟩
  have hbt : Bd m (l.take (n + 1 + 1)) := fun y hy => hb y (List.mem_of_mem_take hy)
  have hgo : Bd k (g ++ [0]) := fun y hy => by
    rcases List.mem_append.mp hy with h | h
    · rw [hg] at h
      exact bd_tgL ho (by omega) y h
    · rw [show y = 0 by simpa using h]; exact Nat.zero_le _
  have hlt : (l.take (n + 1 + 1)).length = n + 1 + 1 := by simp; omega
  have e1 := put_into hbt hgo hk (by omega) hlt (by rw [hg, List.length_append, hlen]; rfl) (by omega) (by omega)
  have e2 := cut_to PyData.int l (n + 1 + 1)
  have e3 := put_at (row := l) (g := g) (n := n + 1) (by omega)
  have e4 : atI ((hl (g ++ [0]) (n + 1 + 1) (l.take (n + 1 + 1))).map PyData.int) (((n + 1 : Nat) : Int)) = some (.int (Pt (fn g) (fn l) (n + 1))) := by
    rw [← e3]
    exact at_fn rfl (by rw [hl_len (by omega)]; omega)
  have e5 := at_fn (l := l) (j := 1) (J := 1) rfl (by omega)
  have e6 : tgL (fn l) (n + 1) = g ++ [-(Pt (fn g) (fn l) (n + 1)) * fn l 1] := by
    rw [tgL, ← hg]
    obtain ⟨q, rfl⟩ : ∃ q, n = q + 1 := ⟨n - 1, by omega⟩
    rw [show un (q + 1) = 0 from rfl, Int.zero_sub]
  have hit : (Pt (fn g) (fn l) (n + 1)).natAbs ≤ 2 ^ (m + (k + 5) * 16) := by
    rw [← e3]
    have := (bd_hl (n := n + 1 + 1) (by omega) (by omega) hgo _ hbt).fn (n + 1)
    refine Nat.le_trans this (Nat.pow_le_pow_right (by decide) ?_)
    have : (k + 5) * (l.take (n + 1 + 1)).length ≤ (k + 5) * 16 := Nat.mul_le_mul_left _ (by omega)
    omega
  have e7 := mul20 (x := -(Pt (fn g) (fn l) (n + 1))) (y := fn l 1) (k := m + (k + 5) * 16) (m := m) (by rw [Int.natAbs_neg]; exact hit) (hb.fn 1) (by omega) (by omega)
  have hz : (g.map PyData.int).length + [PyData.int 0].length ≤ sizeLine := size_ok (by rw [hg]; simp [hlen]; omega)
  have hz2 : g.length < sizeLine := size_lt (by rw [hg, hlen]; omega)
  have e8 : addD (.tuple (g.map PyData.int)) (.tuple [.int 0]) = some (.fz (.tuple ((g ++ [0]).map .int))) := by
    rw [addD_tup, if_pos hz, List.map_append]; rfl
  refine ⟨some (.fz (.int (Pt (fn g) (fn l) (n + 1)))), ?_⟩
  have e9 : (tgL (fn l) (n + 1)).map PyData.int = g.map .int ++ [.int (-(Pt (fn g) (fn l) (n + 1)) * fn l 1)] := by rw [e6, List.map_append]; rfl
  rw [e9, ← hg]
  clear e6 e9
  have hfree : freeAll (g.map PyData.int) = true := freeAll_ints
  generalize hl (g ++ [0]) (n + 1 + 1) (l.take (n + 1 + 1)) = HH at *
  generalize Pt (fn g) (fn l) (n + 1) = PP at *
  have en : ((n + 1 : Nat) : Int) + 1 = ((n + 1 + 1 : Nat) : Int) := by omega
  generalize ((n + 1 : Nat) : Int) = NN at *
  generalize ((n + 1 + 1 : Nat) : Int) = NM at *
  unfold l_turned_about_1
  generalize (l.take (n + 1 + 1)).map PyData.int = TK at *
  generalize (g ++ [0]).map PyData.int = GZ at *
  simp [e1, e2, e4, e5, e7, e8, -addD_tup, en, hz2, hfree]
end G_k84

set_option Elab.async false
set_option linter.all false
set_option autoImplicit false
set_option maxRecDepth 100000
set_option exponentiation.threshold 100000
namespace G_k84
open PySem PySem.Spec L2 MI SER
/-- a row that can be turned about -/
structure Tu (l : List Int) : Prop where
  two : 2 ≤ l.length
  z : fn l 0 = 0
  o : fn l 1 = 1 ∨ fn l 1 = -1
theorem turned_about {l : List Int} {m k : Nat} (hb : Bd m l) (ho : Bd k (tgl l)) (hk : k ≤ 6000) (hm : m ≤ 5900) (h16 : l.length ≤ 16) (h : Tu l) : m_turned_about [.fz (.tuple (l.map .int))] = .ok (.fz (.tuple ((tgl l).map .int))) [none] := by
  obtain ⟨n, hn⟩ : ∃ n, l.length = n + 2 := ⟨l.length - 2, by have := h.two; omega⟩
  have e0 : [PyData.int 0, .int (fn l 1)] = (tgL (fn l) 1).map PyData.int := by
    rw [tgL_tr, show tr 2 (tg (fn l)) = [tg (fn l) 0, tg (fn l) 1] from rfl, tg_one]; rfl
  obtain ⟨s', e, x, y, es⟩ := forL_inv (g := gN 2) (h := l_turned_about_1)
    (fun i st => ∃ x y, st = [some (.fz (.tuple (l.map .int))), some (.ol ((tgL (fn l) (i + 1)).map .int)), x, y])
    (upto 2 n) 0 [some (.fz (.tuple (l.map .int))), some (.ol [.int 0, .int (fn l 1)]), none, none] ⟨none, none, by rw [e0]⟩ (by
      rintro i d st hd ⟨x, y, rfl⟩
      obtain ⟨hi, rfl⟩ := upto2_get hd
      rw [Nat.zero_add]
      obtain ⟨z, e1⟩ := turn_step (n := i + 1) hb ho hk hm (by omega) (by omega) h16 y
      have ei : (2 : Int) + (i : Int) = ((i + 1 + 1 : Nat) : Int) := by omega
      rw [ei]
      exact ⟨_, _, rfl, .inl e1, _, _, rfl⟩)
  subst es
  rw [Nat.zero_add, upto2_len] at e
  have a0 := at_fn (l := l) (j := 0) (J := 0) rfl (by omega)
  have a1 := at_fn (l := l) (j := 1) (J := 1) rfl (by omega)
  have i1 := is_in h.o
  have z0 := h.z
  rw [tgl_eq (n := n + 1) (by omega)]
  unfold m_turned_about b_turned_about
  generalize l_turned_about_1 = LL at *
  simp [a0, a1, i1, z0, hn, rg22 n (N := ((n : Int) + 2)) rfl (by omega), -k_Rg2b, e, show ¬ ((n : Int) + 2 < 2) by omega]
theorem turned_unfit {l : List Int} (hp : 0 < l.length) (h : ¬ Tu l) : m_turned_about [.fz (.tuple (l.map .int))] = .ex ⟨"Unfit", []⟩ [none] := by
  have a0 := at_fn (l := l) (j := 0) (J := 0) rfl (by omega)
  unfold m_turned_about b_turned_about
  generalize l_turned_about_1 = LL at *
  by_cases h2 : 2 ≤ l.length
  · have a1 := at_fn (l := l) (j := 1) (J := 1) rfl (by omega)
    by_cases hz : fn l 0 = 0
    · have h3 : fn l 1 ≠ 1 ∧ fn l 1 ≠ -1 := ⟨fun q => h ⟨h2, hz, .inl q⟩, fun q => h ⟨h2, hz, .inr q⟩⟩
      simp [a0, a1, hz, not_in h3, show ¬ ((l.length : Int) < 2) by omega]
    · simp [a0, hz, show ¬ ((l.length : Int) < 2) by omega]
  · simp [show ((l.length : Int) < 2) by omega]
theorem turned_item {l : List Int} {m k : Nat} (hb : Bd m l) (ho : Bd k (tgl l)) (hk : k ≤ 6000) (hm : m ≤ 5900) (h16 : l.length ≤ 16) (h : Tu l) {j : Nat} {J : Int} (e : J = (j : Int)) (hj : j < l.length) : m_turned_item [.fz (.tuple (l.map .int)), .fz (.int J)] = .ok (.fz (.int (fn (tgl l) j))) [none, none] := by
  have e1 := turned_about hb ho hk hm h16 h
  have e2 := at_fn (l := tgl l) e (by rw [tgl_len]; exact hj)
  unfold m_turned_item b_turned_item
  simp [e1, e2]
theorem item_unfit {l : List Int} (hp : 0 < l.length) (h : ¬ Tu l) (J : Int) : m_turned_item [.fz (.tuple (l.map .int)), .fz (.int J)] = .ex ⟨"Unfit", []⟩ [none, none] := by
  have e1 := turned_unfit hp h
  unfold m_turned_item b_turned_item
  simp [e1]
theorem own_turned {l : List Int} (hb : Bd 20 l) (h16 : l.length ≤ 16) (h : Tu l) : m__law_own_turned [.fz (.tuple (l.map .int))] = .ok (.fz (.tuple ((tgl l).map .int))) [none] := by
  obtain ⟨n, hn⟩ : ∃ n, l.length = n + 1 := ⟨l.length - 1, by have := h.two; omega⟩
  have ht : l.tail.length = n := by rw [List.length_tail]; omega
  have hbt : Bd 20 l.tail := fun x hx => hb x (List.mem_of_mem_tail hx)
  have ho : fn l.tail 0 = 1 ∨ fn l.tail 0 = -1 := by rw [fn_tail]; exact h.o
  have hs : fn l 1 * fn l 1 = 1 := sq_one h.o
  have h2 := h.two
  have e1 := own_other (k := 20) (by decide) hbt ho (by omega) (by omega)
  obtain ⟨b, hbd⟩ : ∃ b, b = ivl l.tail := ⟨_, rfl⟩
  have lb : b.length = n := by rw [hbd, ivl_len, ht]
  have bb : Bd 360 b := by rw [hbd]; exact bd_ivl (sq_one ho) hbt (by omega)
  have bp : ∀ t, t ≤ 20 → Bd 8000 (pw b t) := fun t ht => (bd_pw bb (by omega) t).mono (by omega)
  rw [← hbd] at e1
  obtain ⟨s', e, x, es⟩ := forL_inv (g := gN 4) (h := l__law_own_turned_1)
    (fun i st => ∃ x, st = [some (.fz (.tuple (l.map .int))), some (.fz (.tuple (b.map .int))), some (.ol ((tgL (fn l) i).map .int)), some (.fz (.tuple ((pw b (i + 1)).map .int))), x])
    (upto 1 n) 0 [some (.fz (.tuple (l.map .int))), some (.fz (.tuple (b.map .int))), some (.ol [.int 0]), some (.fz (.tuple (b.map .int))), none] ⟨none, by rw [pw_one]; rfl⟩ (by
      rintro i d st hd ⟨x, rfl⟩
      obtain ⟨hi, rfl⟩ := upto1_get hd
      rw [Nat.zero_add]
      refine ⟨_, [some (.fz (.tuple (l.map .int))), some (.fz (.tuple (b.map .int))), some (.ol ((tgL (fn l) (i + 1)).map .int)), some (.fz (.tuple ((pw b (i + 1 + 1)).map .int))), some (.fz (.int (1 + (i : Int))))], rfl, .inl ?_, _, rfl⟩
      have l1 := lag_list h.z hs (n := i) (by omega)
      rw [← hbd] at l1
      have a1 := at_fn (l := pw b (i + 1)) (j := i) (J := 1 + (i : Int) - 1) (by omega) (by rw [pw_len, lb]; exact hi)
      rw [l1] at a1
      have d1 := fdiv_ok (x := ((i : Int) + 1) * tg (fn l) (i + 1)) (y := 1 + (i : Int)) 10 (by omega) (by omega)
      have d2 : ((i : Int) + 1) * tg (fn l) (i + 1) / (1 + (i : Int)) = tg (fn l) (i + 1) := by
        rw [show (1 : Int) + (i : Int) = (i : Int) + 1 by omega]
        exact Int.mul_ediv_cancel_left _ (by omega)
      rw [d2] at d1
      have p1 := own_product (bp (i + 1) (by omega)) bb (by decide) (by decide) (by rw [pw_len]) (by rw [pw_len]; omega)
      have p2 : pl (pw b (i + 1)) b = pw b (i + 1 + 1) := rfl
      rw [p2] at p1
      have t1 : (tgL (fn l) (i + 1)).map PyData.int = (tgL (fn l) i).map .int ++ [.int (tg (fn l) (i + 1))] := by
        rw [tgL_tr, tgL_tr, tr_succ (i + 1), List.map_append]; rfl
      rw [t1]
      have hz : ((tgL (fn l) i).map PyData.int).length < sizeLine := size_lt (by simp [tgL_len]; omega)
      generalize (tgL (fn l) i).map PyData.int = GG at *
      generalize ((i : Int) + 1) * tg (fn l) (i + 1) = QQ at *
      generalize tg (fn l) (i + 1) = TT at *
      unfold l__law_own_turned_1
      generalize (pw b (i + 1 + 1)).map PyData.int = P2 at *
      generalize (pw b (i + 1)).map PyData.int = P1 at *
      simp [a1, -fdivD_int, d1, p1, hz])
  subst es
  rw [Nat.zero_add, upto1_len] at e
  have c1 := cut1 l
  rw [show (l.map PyData.int).tail = l.tail.map .int by rw [List.map_tail]] at c1
  rw [tgl_eq hn]
  unfold m__law_own_turned b__law_own_turned
  generalize l__law_own_turned_1 = LL at *
  generalize l.tail.map PyData.int = TL at *
  simp [c1, e1, hn, rg21 n (N := ((n : Int) + 1)) rfl (by omega), -k_Rg2b, e]
theorem can_yes {l : List Int} (h : Tu l) : m__law_can_be_turned [.fz (.tuple (l.map .int))] = .ok (.fz (.bool true)) [none] := by
  have h2 := h.two
  have a0 := at_fn (l := l) (j := 0) (J := 0) rfl (by omega)
  have a1 := at_fn (l := l) (j := 1) (J := 1) rfl (by omega)
  have hz := h.z
  unfold m__law_can_be_turned b__law_can_be_turned
  rcases h.o with h3 | h3 <;> simp [a0, a1, hz, h3, show (1 : Int) < (l.length : Int) by omega]
theorem can_no {l : List Int} (hp : 0 < l.length) (h : ¬ Tu l) : m__law_can_be_turned [.fz (.tuple (l.map .int))] = .ok (.fz (.bool false)) [none] := by
  have a0 := at_fn (l := l) (j := 0) (J := 0) rfl (by omega)
  unfold m__law_can_be_turned b__law_can_be_turned
  by_cases h2 : 2 ≤ l.length
  · have a1 := at_fn (l := l) (j := 1) (J := 1) rfl (by omega)
    by_cases hz : fn l 0 = 0
    · have h3 : fn l 1 ≠ 1 ∧ fn l 1 ≠ -1 := ⟨fun q => h ⟨h2, hz, .inl q⟩, fun q => h ⟨h2, hz, .inr q⟩⟩
      simp [a0, a1, hz, h3.1, h3.2, show (1 : Int) < (l.length : Int) by omega]
    · simp [a0, hz, show (1 : Int) < (l.length : Int) by omega]
  · simp [show ¬ (1 : Int) < (l.length : Int) by omega]
theorem is_letter {n : Nat} (h2 : 2 ≤ n) (h16 : n ≤ 16) : m__law_is_letter [.fz (.tuple ((tr n x1).map .int))] = .ok (.fz (.bool true)) [none] := by
  obtain ⟨m, rfl⟩ : ∃ m, n = m + 2 := ⟨n - 2, by omega⟩
  have e1 := times_oneZ (d := .int 0) (z := ((m : Int) + 2 - 2)) (n := m) (by omega) (by omega)
  have e2 := eqD_tup (tr (m + 2) x1) (tr (m + 2) x1)
  have e3 : (tr (m + 2) x1).map PyData.int = [.int 0, .int 1] ++ List.replicate m (.int 0) := by rw [tr_x1]; simp
  have e4 : addD (.tuple [.int 0, .int 1]) (.tuple (List.replicate m (.int 0))) = some (.fz (.tuple ((tr (m + 2) x1).map .int))) := by
    rw [addD_tup, if_pos (size_ok (by simp; omega)), e3]
  have e5 : ((((tr (m + 2) x1).map PyData.int).length : Nat) : Int) = (m : Int) + 2 := by rw [List.length_map, tr_len]; omega
  rw [decide_eq_true rfl] at e2
  clear e3
  generalize List.replicate m (PyData.int 0) = ZZ at *
  generalize (tr (m + 2) x1).map PyData.int = XX at *
  rw [Int.add_sub_cancel] at e1
  unfold m__law_is_letter b__law_is_letter
  simp [e5, e1, e4, -addD_tup, e2]
end G_k84

set_option Elab.async false
set_option linter.all false
set_option autoImplicit false
set_option maxRecDepth 100000
set_option exponentiation.threshold 100000
namespace G_k84
open PySem PySem.Spec L2 MI SER
@[simp] theorem od_lst {ds : List D} : (HR.lst ds).od = .ol ds := Eq.trans rfl rfl
theorem w1 : (((("item" : String) : Str)) = (("turned" : String) : Str)) = False := eq_false (by decide +kernel)
theorem w2 : (((("root" : String) : Str)) = (("turned" : String) : Str)) = False := eq_false (by decide +kernel)
theorem w3 : (((("root" : String) : Str)) = (("item" : String) : Str)) = False := eq_false (by decide +kernel)
structure Tl (w : Str) (a b : D) (ds : List D) : Prop where
  run : ∀ q, m__law_told [.fz (.str w), .fz a, .fz b, .fz (.bool q)] = .ok (.ol ds) [none, none, none, none]
def unfit : List D := [.str "raised", .str "Unfit"]
theorem told_turned {a b v : D} (e1 : m_turned_about [.fz a] = .ok (.fz v) [none]) : Tl "turned" a b [.str "told", v] := ⟨fun q => by
  unfold m__law_told
  rw [ev_mkF]
  unfold b__law_told
  refine try_fin (o := .rt (.ol [.str "told", v]) [some (.fz (.str "turned")), some (.fz a), some (.fz b), some (.fz (.bool q)), none]) ?_ (by simp)
  cases q <;> simp [e1]⟩
theorem told_turned_unfit {a b : D} (e1 : m_turned_about [.fz a] = .ex ⟨"Unfit", []⟩ [none]) : Tl "turned" a b unfit := ⟨fun q => by
  unfold m__law_told
  rw [ev_mkF]
  unfold b__law_told
  refine try_fin (o := .ex ⟨"Unfit", []⟩ [some (.fz (.str "turned")), some (.fz a), some (.fz b), some (.fz (.bool q)), none]) ?_ ?_
  · cases q <;> simp [e1]
  · rw [Out.try_ex (r := .lst [.str "raised", .str "Unfit"]) (by simp) rfl]
    simp [unfit]⟩
theorem told_item {a b v : D} (e1 : m_turned_item [.fz a, .fz b] = .ok (.fz v) [none, none]) : Tl "item" a b [.str "told", v] := ⟨fun q => by
  unfold m__law_told
  rw [ev_mkF]
  unfold b__law_told
  refine try_fin (o := .rt (.ol [.str "told", v]) [some (.fz (.str "item")), some (.fz a), some (.fz b), some (.fz (.bool q)), none]) ?_ (by simp)
  cases q <;> simp [e1, w1]⟩
theorem told_item_unfit {a b : D} (e1 : m_turned_item [.fz a, .fz b] = .ex ⟨"Unfit", []⟩ [none, none]) : Tl "item" a b unfit := ⟨fun q => by
  unfold m__law_told
  rw [ev_mkF]
  unfold b__law_told
  refine try_fin (o := .ex ⟨"Unfit", []⟩ [some (.fz (.str "item")), some (.fz a), some (.fz b), some (.fz (.bool q)), none]) ?_ ?_
  · cases q <;> simp [e1, w1]
  · rw [Out.try_ex (r := .lst [.str "raised", .str "Unfit"]) (by simp) rfl]
    simp [unfit]⟩
theorem told_root {a b v : D} (e1 : m_root_series [.fz a] = .ok (.fz v) [none]) : Tl "root" a b [.str "told", v] := ⟨fun q => by
  unfold m__law_told
  rw [ev_mkF]
  unfold b__law_told
  refine try_fin (o := .rt (.ol [.str "told", v]) [some (.fz (.str "root")), some (.fz a), some (.fz b), some (.fz (.bool q)), none]) ?_ (by simp)
  cases q <;> simp [e1, w2, w3]⟩
theorem told_root_unfit {a b : D} (e1 : m_root_series [.fz a] = .ex ⟨"Unfit", []⟩ [none]) : Tl "root" a b unfit := ⟨fun q => by
  unfold m__law_told
  rw [ev_mkF]
  unfold b__law_told
  refine try_fin (o := .ex ⟨"Unfit", []⟩ [some (.fz (.str "root")), some (.fz a), some (.fz b), some (.fz (.bool q)), none]) ?_ ?_
  · cases q <;> simp [e1, w2, w3]
  · rw [Out.try_ex (r := .lst [.str "raised", .str "Unfit"]) (by simp) rfl]
    simp [unfit]⟩
/-- a value that is told by a text -/
structure Ss (v : D) : Prop where
  run : m__law_seen 5 [.fz v, .fz (.int 3)] = .ok (.fz (.str (SN 5 v 3))) [none, none]
  len : (SN 5 v 3).length ≤ 200000
theorem ss_row {l : List Int} (h : l.length ≤ 16) : Ss (.tuple (l.map .int)) := by
  obtain ⟨a, b⟩ := seen_tup (k := 4) (ds := l.map .int) (e := 3) (by decide) (fun d hd => by
    obtain ⟨a, _, rfl⟩ := List.mem_map.mp hd
    exact seen_int 3 _ _) (by simp; omega)
  exact ⟨a, b⟩
theorem ss_int (x : Int) : Ss (.int x) := ⟨(seen_int 4 x 3).run, Nat.le_trans (seen_int 4 x 3).len (by decide)⟩
theorem ss_unfit : Ss (.str "Unfit") := by
  have := seen_str 4 (x := "Unfit") 3 ((sml_str (n := 5) (k := 0) (by decide +kernel) (by decide +kernel)).repr (by decide) (by decide)) (by decide +kernel)
  exact ⟨this.run, Nat.le_trans this.len (by decide)⟩
/-- the text of a word and a value -/
def PT (w : Str) (v : D) : Str := w ++ ((" " : String) : Str) ++ SN 5 v 3
theorem plain_of {w : Str} {v : D} (h : Ss v) (hw : w.length ≤ 100) : m__law_plain [.fz (.list [.str w, v])] = .ok (.fz (.str (PT w v))) [none] := by
  have e0 : atI [PyData.str w, v] 0 = some (.str w) := rfl
  have e1 : atI [PyData.str w, v] 1 = some v := rfl
  have s1 : ((" " : String) : Str).length = 1 := rfl
  have e2 := add_str (x := w) (y := " ") (by rw [s1]; omega)
  have hl := h.len
  have e3 := add_str (x := w ++ " ") (y := SN 5 v 3) (by rw [strLen_append, s1]; omega)
  have e4 := h.run
  unfold PT
  generalize SN 5 v 3 = TT at *
  unfold m__law_plain b__law_plain
  generalize [PyData.str w, v] = LL at *
  simp [e0, e1, e2, e3, e4]
theorem wl1 : (("told" : String) : Str).length ≤ 100 := by decide +kernel
theorem wl2 : (("raised" : String) : Str).length ≤ 100 := by decide +kernel
theorem plain_told {v : D} (h : Ss v) : m__law_plain [.fz (.list [.str "told", v])] = .ok (.fz (.str (PT "told" v))) [none] := plain_of h wl1
theorem plain_unfit : m__law_plain [.fz (.list unfit)] = .ok (.fz (.str (PT "raised" (.str "Unfit")))) [none] := plain_of ss_unfit wl2
theorem holds {w : Str} {a b : D} {ds : List D} {t : Str} (h : Tl w a b ds) (hp : m__law_plain [.fz (.list ds)] = .ok (.fz (.str t)) [none]) (ha : ReprOkV a) : m__law_holds [.fz (.str w), .fz a, .fz b, .fz (.list ds)] = .ok (.fz (.bool true)) [none, none, none, none] := by
  have e1 := h.run true
  have e2 := h.run false
  have e3 := reprV_some ha
  unfold m__law_holds b__law_holds
  generalize a.shown = SH at *
  simp [e1, e2, e3, hp, forL_cons2, l__law_holds_1]
theorem rp {l : List Int} {k : Nat} (h : Bd k l) (hk : k ≤ 12000) (h16 : l.length ≤ 16) : ReprOkV (.tuple (l.map .int)) := reprV_ints (fun x hx => Nat.lt_of_le_of_lt (h x hx) (Nat.pow_lt_pow_right (by decide) (by omega))) (by omega)
theorem item_turn {l : List Int} (hb : Bd 20 l) (h16 : l.length ≤ 16) (h : Tu l) {o : OD} (hB : Bag o) {j : Nat} {J : Int} (eJ : J = (j : Int)) (hj : j < l.length) (a b c d : Option OD) : ∃ o', l__law_is_turned_1 [some o, some (.fz (.tuple (l.map .int))), a, b, some (.fz (.int J)), c, some (.fz (.tuple ((tgl l).map .int))), d] = .nx [some o', some (.fz (.tuple (l.map .int))), a, b, some (.fz (.int J)), c, some (.fz (.tuple ((tgl l).map .int))), d] ∧ Bag o' := by
  have ho := bd_tgl hb h16 h.z (sq_one h.o)
  have e1 := told_item (turned_item hb ho (by decide) (by decide) h16 h eJ hj)
  obtain ⟨r, o', e2, _, _, b2⟩ := drawS hB (below := 2) (by omega) (by omega)
  have e3 := e1.run (decide (r = 0))
  have e4 := plain_told (ss_int (fn (tgl l) j))
  have e5 := at_fn (l := tgl l) eJ (by rw [tgl_len]; exact hj)
  refine ⟨o', ?_, b2⟩
  unfold l__law_is_turned_1
  generalize PT "told" (.int (fn (tgl l) j)) = TT at *
  simp [e2, e3, e4, e5]
theorem tu_tgl {l : List Int} (h : Tu l) : Tu (tgl l) := by
  have h2 := h.two
  refine ⟨by rw [tgl_len]; exact h2, fn_tgl (by omega), ?_⟩
  rw [fn_tgl (by omega), tg_one]
  exact h.o
theorem is_turned {o : OD} (hB : Bag o) {n : Nat} {l : List Int} (hr : Rr n l) (h0 : 0 < n) (h1 : n ≤ 16) : ∃ o', m__law_is_turned [o, .fz (.tuple (l.map .int))] = .ok (.fz (.bool true)) [some o', none] ∧ Bag o' := by
  have ln := hr.len
  have hrep := rp hr.bd (by decide) (by omega)
  obtain ⟨r, o1, e1, r0, r1, b1⟩ := drawS hB (below := (n : Int)) (by omega) (by omega)
  obtain ⟨j, rfl⟩ : ∃ j : Nat, r = (j : Int) := ⟨r.toNat, by omega⟩
  have el : ((l.length : Nat) : Int) = (n : Int) := by omega
  obtain ⟨p2, hp2⟩ : ∃ p2 : Int, p2 = if 1 < n then 1 else 0 := ⟨_, rfl⟩
  obtain ⟨PL, hPL⟩ : ∃ PL : List D, PL = [.int 0, .int ((n : Int) - 1), .int p2, .int (j : Int)] := ⟨_, rfl⟩
  obtain ⟨L, hL⟩ : ∃ L : Option OD, L = some (.fz (.tuple (l.map .int))) := ⟨_, rfl⟩
  have start : ∀ (R : Res OD) (rest : SF), Out.fin [true, false] (rest [some o1, L, some (.fz (.int (n : Int))), some (.fz (.list PL)), none, none, none, none]) = R →
      Out.fin [true, false] (sSeq (sAsg (eFrz (oBlt (one lenD) (aCons (eVar 1) aNil))) (gN 2)) (sSeq (sAsg (eFrz (oLst (aCons (eC (.int 0)) (aCons (eFrz (oOp2 subD (eVar 2) (eC (.int 1)))) (aCons (eIf (kCmp gtI (eVar 2) (eC (.int 1))) (eC (.int 1)) (eC (.int 0))) (aCons (eFrz (oCall [some 0, none] (aRef 0 (aCons (eVar 2) aNil)) (noexF m__law_draw))) aNil)))))) (gN 3)) rest) [some o, L, none, none, none, none, none, none]) = R := by
    intro R rest hR
    refine seq_fin (s' := [some o, L, some (.fz (.int (n : Int))), none, none, none, none, none]) (by subst hL; simp [el]) ?_
    refine seq_fin (s' := [some o1, L, some (.fz (.int (n : Int))), some (.fz (.list PL)), none, none, none, none]) (by
      subst hPL hp2
      by_cases q : 1 < n
      · simp [e1, q, show (1 : Int) < (n : Int) by omega]
      · simp [e1, q, show ¬ (1 : Int) < (n : Int) by omega]) hR
  by_cases h : Tu l
  · have hp2' : ∃ k : Nat, p2 = (k : Int) ∧ k < n := by
      subst hp2
      split
      · exact ⟨1, rfl, by omega⟩
      · exact ⟨0, rfl, by omega⟩
    obtain ⟨k, hk, hkn⟩ := hp2'
    have h2 := h.two
    have ho := bd_tgl hr.bd (by omega) h.z (sq_one h.o)
    have ht := tu_tgl h
    have htt : tgl (tgl l) = l := tgl_tgl (by omega) h.z (sq_one h.o)
    have lt : (tgl l).length = n := by rw [tgl_len]; exact ln
    have trep := rp ho (by decide) (by omega)
    have s1 := ss_row (l := tgl l) (by omega)
    have s2 := ss_row (l := l) (by omega)
    have y1 := turned_about hr.bd ho (by decide) (by decide) (by omega) h
    have y2 := turned_about (l := tgl l) ho (k := 20) (by rw [htt]; exact hr.bd) (by decide) (by decide) (by omega) ht
    rw [htt] at y2
    have t1 := told_turned (b := .none) y1
    have t2 := told_turned (b := .none) y2
    have e2 := can_yes h
    have e3 := own_turned hr.bd (by omega) h
    have e4 := holds t1 (plain_told s1) hrep
    have e5 := t1.run false
    have e6 := s1.run
    have e7 := own_put (n := n) hr.bd ho (by decide) (by decide) ln lt h0 h1
    rw [letter1 ln (by omega) h.z (sq_one h.o)] at e7
    have e8 := own_put (n := n) ho hr.bd (by decide) (by decide) lt ln h0 h1
    rw [letter2 ln (by omega) h.z (sq_one h.o)] at e8
    have e9 := is_letter (n := n) (by omega) h1
    have e10 := holds t2 (plain_told s2) trep
    obtain ⟨o2, e11, b2⟩ := item_turn hr.bd (by omega) h b1 (j := 0) (J := 0) rfl (by omega) (some (.fz (.int (n : Int)))) (some (.fz (.list PL))) none (some (.fz (.tuple ((tgl l).map .int))))
    obtain ⟨o3, e12, b3⟩ := item_turn hr.bd (by omega) h b2 (j := n - 1) (J := (n : Int) - 1) (by omega) (by omega) (some (.fz (.int (n : Int)))) (some (.fz (.list PL))) none (some (.fz (.tuple ((tgl l).map .int))))
    obtain ⟨o4, e13, b4⟩ := item_turn hr.bd (by omega) h b3 (j := k) (J := p2) hk (by omega) (some (.fz (.int (n : Int)))) (some (.fz (.list PL))) none (some (.fz (.tuple ((tgl l).map .int))))
    have e14 := cut_to id PL 3
    rw [List.map_id, List.map_id] at e14
    have e14 : cutD PL none (some 3) = [.int 0, .int ((n : Int) - 1), .int p2] := by rw [show (3 : Int) = ((3 : Nat) : Int) from rfl, e14, hPL]; rfl
    have e15 : atI PL 3 = some (.int (j : Int)) := by rw [hPL]; rfl
    have e16 := at_fn (l := l) (j := j) (J := (j : Int)) rfl (by omega)
    have y3 := turned_item (l := tgl l) ho (k := 20) (by rw [htt]; exact hr.bd) (by decide) (by decide) (by omega) ht (j := j) (J := (j : Int)) rfl (by omega)
    rw [htt] at y3
    have e17 := holds (told_item y3) (plain_told (ss_int (fn l j))) trep
    refine ⟨o4, ?_, b4⟩
    have a1 : ∀ v : D, atI [PyData.str "told", v] 1 = some v := fun v => rfl
    unfold m__law_is_turned
    rw [ev_mkF]
    show Out.fin [true, false] (b__law_is_turned [some o, some (.fz (.tuple (l.map .int))), none, none, none, none, none, none]) = _
    rw [← hL]
    unfold b__law_is_turned
    refine start _ _ ?_
    clear start
    subst hL
    generalize SN 5 (.tuple ((tgl l).map .int)) 3 = T1 at *
    generalize (tr n x1).map PyData.int = XX at *
    refine seq_fin (s' := [some o1, some (.fz (.tuple (l.map .int))), some (.fz (.int (n : Int))), some (.fz (.list PL)), none, none, none, none]) (by simp [e2]) ?_
    refine seq_fin (s' := [some o1, some (.fz (.tuple (l.map .int))), some (.fz (.int (n : Int))), some (.fz (.list PL)), none, none, some (.fz (.tuple ((tgl l).map .int))), none]) (by simp [e3]) ?_
    refine seq_fin (s' := [some o1, some (.fz (.tuple (l.map .int))), some (.fz (.int (n : Int))), some (.fz (.list PL)), none, none, some (.fz (.tuple ((tgl l).map .int))), none]) (by simp [e4]) ?_
    refine seq_fin (s' := [some o1, some (.fz (.tuple (l.map .int))), some (.fz (.int (n : Int))), some (.fz (.list PL)), none, none, some (.fz (.tuple ((tgl l).map .int))), some (.fz (.tuple ((tgl l).map .int)))]) (by simp [e5, a1]) ?_
    refine seq_fin (s' := [some o1, some (.fz (.tuple (l.map .int))), some (.fz (.int (n : Int))), some (.fz (.list PL)), none, none, some (.fz (.tuple ((tgl l).map .int))), some (.fz (.tuple ((tgl l).map .int)))]) (by simp [e6]) ?_
    refine seq_fin (s' := [some o1, some (.fz (.tuple (l.map .int))), some (.fz (.int (n : Int))), some (.fz (.list PL)), none, none, some (.fz (.tuple ((tgl l).map .int))), some (.fz (.tuple ((tgl l).map .int)))]) (by simp [e7, e8, e9]) ?_
    refine seq_fin (s' := [some o1, some (.fz (.tuple (l.map .int))), some (.fz (.int (n : Int))), some (.fz (.list PL)), none, none, some (.fz (.tuple ((tgl l).map .int))), some (.fz (.tuple ((tgl l).map .int)))]) (by simp [e10]) ?_
    refine seq_fin (s' := [some o4, some (.fz (.tuple (l.map .int))), some (.fz (.int (n : Int))), some (.fz (.list PL)), some (.fz (.int p2)), none, some (.fz (.tuple ((tgl l).map .int))), some (.fz (.tuple ((tgl l).map .int)))]) (by
      generalize l__law_is_turned_1 = LL at *
      simp [e14, forL_cons2, e11, e12, e13]) ?_
    simp [e15, e16, e17]
  · obtain ⟨d, o2, e2, hd, b2⟩ := pick b1 (ds := PL) (by rw [hPL]; simp) (by rw [hPL]; simp)
    obtain ⟨J, rfl⟩ : ∃ J : Int, d = .int J := by
      rw [hPL] at hd
      simp only [List.mem_cons, List.not_mem_nil, or_false] at hd
      rcases hd with rfl | rfl | rfl | rfl <;> exact ⟨_, rfl⟩
    have e3 := can_no (by omega) h
    have e4 := holds (told_turned_unfit (b := .none) (turned_unfit (by omega) h)) plain_unfit hrep
    have e5 := holds (told_item_unfit (item_unfit (by omega) h J)) plain_unfit hrep
    have eu : unfit = [.str "raised", .str "Unfit"] := rfl
    refine ⟨o2, ?_, b2⟩
    unfold m__law_is_turned
    rw [ev_mkF]
    show Out.fin [true, false] (b__law_is_turned [some o, some (.fz (.tuple (l.map .int))), none, none, none, none, none, none]) = _
    rw [← hL]
    unfold b__law_is_turned
    refine start _ _ ?_
    clear start
    subst hL
    rw [eu] at e4 e5
    simp [e3, e2, e4, e5]
end G_k84

set_option Elab.async false
set_option linter.all false
set_option autoImplicit false
set_option maxRecDepth 100000
set_option exponentiation.threshold 100000
namespace G_k84
open PySem PySem.Spec L2 MI SER
theorem upto_cons (lo : Int) (n : Nat) : upto lo (n + 1) = .int lo :: upto (lo + 1) n := by
  unfold upto
  rw [List.range_succ_eq_map, List.map_cons, List.map_map]
  congr 1
  · simp
  · refine List.map_congr_left fun i _ => ?_
    show PyData.int (lo + ((i + 1 : Nat) : Int)) = .int (lo + 1 + (i : Int))
    congr 1
    omega
theorem rt_none {f : F} {k : Nat} (h : rtL f k = none) : ∀ m, rtL f (k + m) = none
  | 0 => h
  | m + 1 => by rw [← Nat.add_assoc, rtL, rt_none h m]; rfl
theorem rt_next {f : F} {j : Nat} {g : List Int} (h : rtL f j = some g) : rtL f (j + 1) = if (f (j + 1) - rsum g j) % 2 = 1 then none else some (g ++ [(f (j + 1) - rsum g j) / 2]) := by
  rw [rtL, h]; rfl
/-- loops that end at the first odd one -/
theorem rt_loop {h : SF} {f : F} {row : Option OD} {E : S → Out} (hE : ∀ s k, (E s).loop k = E s) (N : Nat)
    (H : ∀ (j : Nat) (g : List Int) (v : Option OD), rtL f j = some g → j + 1 < N →
      ∃ y, h [row, some (.ol (g.map .int)), some (.fz (.int (1 + (j : Int)))), v, none] = if (f (j + 1) - rsum g j) % 2 = 1 then E [row, some (.ol (g.map .int)), some (.fz (.int (1 + (j : Int)))), y, none] else .nx [row, some (.ol ((g ++ [(f (j + 1) - rsum g j) / 2]).map .int)), some (.fz (.int (1 + (j : Int)))), y, none]) :
    ∀ (m k : Nat) (g : List Int) (u v : Option OD), rtL f k = some g → k + m < N →
      (∀ G, rtL f (k + m) = some G → ∃ x y, forL (gN 2) h (upto (1 + (k : Int)) m) [row, some (.ol (g.map .int)), u, v, none] = .nx [row, some (.ol (G.map .int)), x, y, none]) ∧
      (rtL f (k + m) = none → ∃ z x y, forL (gN 2) h (upto (1 + (k : Int)) m) [row, some (.ol (g.map .int)), u, v, none] = E [row, z, x, y, none])
  | 0, k, g, u, v, e, _ => ⟨fun G q => by rw [Nat.add_zero, e] at q; cases q; exact ⟨u, v, rfl⟩, fun q => by rw [Nat.add_zero, e] at q; cases q⟩
  | m + 1, k, g, u, v, e, hN => by
    obtain ⟨y, t⟩ := H k g v e (by omega)
    have nx := rt_next e
    have run : forL (gN 2) h (upto (1 + (k : Int)) (m + 1)) [row, some (.ol (g.map .int)), u, v, none] = (h [row, some (.ol (g.map .int)), some (.fz (.int (1 + (k : Int)))), v, none]).loop (forL (gN 2) h (upto (1 + ((k + 1 : Nat) : Int)) m)) := by
      rw [upto_cons, forL_cons]
      rw [show (1 : Int) + (k : Int) + 1 = 1 + ((k + 1 : Nat) : Int) by omega]
      rfl
    by_cases ho : (f (k + 1) - rsum g k) % 2 = 1
    · rw [if_pos ho] at t nx
      have q := rt_none nx m
      rw [show k + 1 + m = k + (m + 1) by omega] at q
      refine ⟨fun G z => (by rw [q] at z; exact nomatch z), fun _ => ⟨some (.ol (g.map .int)), some (.fz (.int (1 + (k : Int)))), y, by rw [run, t, hE]⟩⟩
    · rw [if_neg ho] at t nx
      have ih := rt_loop hE N H m (k + 1) _ (some (.fz (.int (1 + (k : Int))))) y nx (by omega)
      rw [show k + 1 + m = k + (m + 1) by omega] at ih
      rw [run, t, Out.loop_nx]
      exact ih
theorem sum_rt (g : List Int) (j : Nat) : sumD (.list ((List.range j).map fun t : Nat => PyData.int (fn g (t + 1) * fn g (j - t)))) = some (.fz (.int (rsum g j))) := by
  rw [rsum, ← sumD_ints, List.map_map]; rfl
theorem rt_lc {g : List Int} {C j : Nat} (h : Rb C j g) (hC : C ≤ 3000) (hj : j ≤ 15) (row v : Option OD) :
    lcL [false, false, false, false, true] (gN 4) kYes (eFrz (oOp2 mulD (eAt 1 (eVar 4)) (eAt 1 (eFrz (oOp2 subD (eVar 2) (eVar 4)))))) (upto 1 j) [] [row, some (.ol (g.map .int)), some (.fz (.int (1 + (j : Int)))), v, none] =
      .ok ((List.range j).map fun t : Nat => PyData.int (fn g (t + 1) * fn g (j - t))) [row, some (.ol (g.map .int)), some (.fz (.int (1 + (j : Int)))), v, none] := by
  have hl := h.len
  rw [upto, lcL_map (fun t : Nat => PyData.int (fn g (t + 1) * fn g (j - t))) (fun t : Nat => PyData.int (1 + (t : Int))) _ [] (fun t ht => ⟨_, _, rfl, by
        have ht := List.mem_range.mp ht
        have e1 := at_fn (l := g) (j := t + 1) (J := 1 + (t : Int)) (by omega) (by omega)
        have e2 := at_fn (l := g) (j := j - t) (J := 1 + (j : Int) - (1 + (t : Int))) (by omega) (by omega)
        have e3 := mul20 (h.le hj (t + 1) (by omega) (by omega)) (h.le hj (j - t) (by omega) (by omega)) (by omega) (by omega)
        simp [e1, e2, e3]; rfl, by simp⟩) (by refine size_ok ?_; simp; omega)]
  rfl
theorem fdiv2 (x : Int) : fdivD (.int x) (.int 2) = some (.fz (.int (x / 2))) := fdiv_ok 4 (by decide) (by decide)
/-- rows that roots are asked of -/
structure Wr (n : Nat) (l : List Int) : Prop where
  len : l.length = n
  bd : Bd 1000 l
theorem series_turn {n : Nat} {l : List Int} (h : Wr n l) (hn : n ≤ 16) (j : Nat) (g : List Int) (v : Option OD) (e : rtL (fn l) j = some g) (hj : j + 1 < n) :
    ∃ y, l_root_series_1 [some (.fz (.tuple (l.map .int))), some (.ol (g.map .int)), some (.fz (.int (1 + (j : Int)))), v, none] = if (fn l (j + 1) - rsum g j) % 2 = 1 then .ex ⟨"Unfit", []⟩ [some (.fz (.tuple (l.map .int))), some (.ol (g.map .int)), some (.fz (.int (1 + (j : Int)))), y, none] else .nx [some (.fz (.tuple (l.map .int))), some (.ol ((g ++ [(fn l (j + 1) - rsum g j) / 2]).map .int)), some (.fz (.int (1 + (j : Int)))), y, none] := by
  have hb := rt_bd (B := 1000) j g (by omega) (fun i _ => h.bd.fn i) e
  have e1 := rt_lc hb (by decide) (by omega) (some (.fz (.tuple (l.map .int)))) v
  have e2 := sum_rt g j
  have e3 := at_fn (l := l) (j := j + 1) (J := 1 + (j : Int)) (by omega) (by rw [h.len]; exact hj)
  have e4 := fdiv2 (fn l (j + 1) - rsum g j)
  have hz : g.length < sizeLine := size_lt (by rw [hb.len]; omega)
  refine ⟨some (.fz (.int (fn l (j + 1) - rsum g j))), ?_⟩
  unfold l_root_series_1
  generalize (List.range j).map (fun t : Nat => PyData.int (fn g (t + 1) * fn g (j - t))) = RR at *
  by_cases ho : (fn l (j + 1) - rsum g j) % 2 = 1
  · rw [if_pos ho]
    generalize fn l (j + 1) = y at *
    generalize rsum g j = r at *
    simp [rg21 j (N := 1 + (j : Int)) (by omega) (by omega), -k_Rg2b, e1, e2, e3, ho]
  · rw [if_neg ho]
    generalize fn l (j + 1) = y at *
    generalize rsum g j = r at *
    have e4 : fdivD (.int (y - r)) (.int 2) = some (.fz (.int ((y - r) / 2))) := e4
    simp [rg21 j (N := 1 + (j : Int)) (by omega) (by omega), -k_Rg2b, e1, e2, e3, ho, -fdivD_int, e4, hz]
theorem own_turn {n : Nat} {l : List Int} (h : Wr n l) (hn : n ≤ 16) (j : Nat) (g : List Int) (v : Option OD) (e : rtL (fn l) j = some g) (hj : j + 1 < n) :
    ∃ y, l__law_own_root_1 [some (.fz (.tuple (l.map .int))), some (.ol (g.map .int)), some (.fz (.int (1 + (j : Int)))), v, none] = if (fn l (j + 1) - rsum g j) % 2 = 1 then .rt (.fz .none) [some (.fz (.tuple (l.map .int))), some (.ol (g.map .int)), some (.fz (.int (1 + (j : Int)))), y, none] else .nx [some (.fz (.tuple (l.map .int))), some (.ol ((g ++ [(fn l (j + 1) - rsum g j) / 2]).map .int)), some (.fz (.int (1 + (j : Int)))), y, none] := by
  have hb := rt_bd (B := 1000) j g (by omega) (fun i _ => h.bd.fn i) e
  have e1 := rt_lc hb (by decide) (by omega) (some (.fz (.tuple (l.map .int)))) v
  have e2 := sum_rt g j
  have e3 := at_fn (l := l) (j := j + 1) (J := 1 + (j : Int)) (by omega) (by rw [h.len]; exact hj)
  have e4 := fdiv2 (fn l (j + 1) - rsum g j)
  have hz : g.length < sizeLine := size_lt (by rw [hb.len]; omega)
  refine ⟨some (.fz (.int (fn l (j + 1) - rsum g j))), ?_⟩
  unfold l__law_own_root_1
  generalize (List.range j).map (fun t : Nat => PyData.int (fn g (t + 1) * fn g (j - t))) = RR at *
  by_cases ho : (fn l (j + 1) - rsum g j) % 2 = 1
  · rw [if_pos ho]
    generalize fn l (j + 1) = y at *
    generalize rsum g j = r at *
    simp [rg21 j (N := 1 + (j : Int)) (by omega) (by omega), -k_Rg2b, e1, e2, e3, ho]
  · rw [if_neg ho]
    generalize fn l (j + 1) = y at *
    generalize rsum g j = r at *
    have e4 : fdivD (.int (y - r)) (.int 2) = some (.fz (.int ((y - r) / 2))) := e4
    simp [rg21 j (N := 1 + (j : Int)) (by omega) (by omega), -k_Rg2b, e1, e2, e3, ho, -fdivD_int, e4, hz]
/-- the root, if there is one -/
def rt (l : List Int) : Option (List Int) := if fn l 0 = 1 then rtL (fn l) (l.length - 1) else none
theorem series_root {n : Nat} {l : List Int} (h : Wr n l) (h0 : 0 < n) (hn : n ≤ 16) : m_root_series [.fz (.tuple (l.map .int))] = match rt l with
    | some g => .ok (.fz (.tuple (g.map .int))) [none]
    | none => .ex ⟨"Unfit", []⟩ [none] := by
  have hl := h.len
  obtain ⟨m, hm⟩ : ∃ m, l.length = m + 1 := ⟨l.length - 1, by omega⟩
  have a0 := at_fn (l := l) (j := 0) (J := 0) rfl (by omega)
  obtain ⟨f1, f2⟩ := rt_loop (E := .ex ⟨"Unfit", []⟩) (row := some (.fz (.tuple (l.map .int)))) (fun s k => rfl) n (series_turn h hn) m 0 [1] none none rfl (by omega)
  unfold rt
  by_cases hz : fn l 0 = 1
  · rw [if_pos hz, hm, Nat.add_sub_cancel]
    rw [Nat.zero_add] at f1 f2
    rw [show (1 : Int) + ((0 : Nat) : Int) = 1 from rfl] at f1 f2
    unfold m_root_series b_root_series
    generalize l_root_series_1 = LL at *
    cases hr : rtL (fn l) m with
    | some G =>
      obtain ⟨x, y, e⟩ := f1 G hr
      simp at e
      simp [a0, hz, hm, rg21 m (N := (m : Int) + 1) rfl (by omega), -k_Rg2b, e]
    | none =>
      obtain ⟨z, x, y, e⟩ := f2 hr
      simp at e
      simp [a0, hz, hm, rg21 m (N := (m : Int) + 1) rfl (by omega), -k_Rg2b, e]
  · rw [if_neg hz]
    unfold m_root_series b_root_series
    simp [a0, hz]
theorem own_root {n : Nat} {l : List Int} (h : Wr n l) (h0 : 0 < n) (hn : n ≤ 16) : m__law_own_root [.fz (.tuple (l.map .int))] = match rt l with
    | some g => .ok (.fz (.tuple (g.map .int))) [none]
    | none => .ok (.fz .none) [none] := by
  have hl := h.len
  obtain ⟨m, hm⟩ : ∃ m, l.length = m + 1 := ⟨l.length - 1, by omega⟩
  have a0 := at_fn (l := l) (j := 0) (J := 0) rfl (by omega)
  obtain ⟨f1, f2⟩ := rt_loop (E := .rt (.fz .none)) (row := some (.fz (.tuple (l.map .int)))) (fun s k => rfl) n (own_turn h hn) m 0 [1] none none rfl (by omega)
  unfold rt
  by_cases hz : fn l 0 = 1
  · rw [if_pos hz, hm, Nat.add_sub_cancel]
    rw [Nat.zero_add] at f1 f2
    rw [show (1 : Int) + ((0 : Nat) : Int) = 1 from rfl] at f1 f2
    unfold m__law_own_root b__law_own_root
    generalize l__law_own_root_1 = LL at *
    cases hr : rtL (fn l) m with
    | some G =>
      obtain ⟨x, y, e⟩ := f1 G hr
      simp at e
      simp [a0, hz, hm, rg21 m (N := (m : Int) + 1) rfl (by omega), -k_Rg2b, e]
    | none =>
      obtain ⟨z, x, y, e⟩ := f2 hr
      simp at e
      simp [a0, hz, hm, rg21 m (N := (m : Int) + 1) rfl (by omega), -k_Rg2b, e]
  · rw [if_neg hz]
    unfold m__law_own_root b__law_own_root
    simp [a0, hz]
theorem rt_len {l g : List Int} {n : Nat} (h : Wr n l) (h0 : 0 < n) (hn : n ≤ 16) (e : rt l = some g) : g.length = n := by
  unfold rt at e
  split at e
  · have := rt_bd (B := 1000) _ g (by have := h.len; omega) (fun i _ => h.bd.fn i) e
    have h1 := this.len
    have h2 := h.len
    omega
  · cases e
theorem is_rooted {n : Nat} {l : List Int} (h : Wr n l) (h0 : 0 < n) (hn : n ≤ 16) : m__law_is_rooted [.fz (.tuple (l.map .int))] = .ok (.fz (.bool true)) [none] := by
  have e1 := own_root h h0 hn
  have e2 := series_root h h0 hn
  have hrep := rp h.bd (by decide) (by have := h.len; omega)
  unfold m__law_is_rooted b__law_is_rooted
  cases hr : rt l with
  | some g =>
    rw [hr] at e1 e2
    have e3 := holds (told_root (b := .none) e2) (plain_told (ss_row (l := g) (by rw [rt_len h h0 hn hr]; exact hn))) hrep
    simp only at e1
    simp [e1, e3]
  | none =>
    rw [hr] at e1 e2
    have e3 := holds (told_root_unfit (b := .none) e2) plain_unfit hrep
    rw [show unfit = [.str "raised", .str "Unfit"] from rfl] at e3
    simp only at e1
    simp [e1, e3]
end G_k84

set_option Elab.async false
set_option linter.all false
set_option autoImplicit false
set_option maxRecDepth 100000
set_option exponentiation.threshold 100000
namespace G_k84
open PySem PySem.Spec L2 MI SER
def fr (x : Int) (l : List Int) : List Int := x :: l.tail
theorem rr_fr {n : Nat} {l : List Int} {x : Int} (h : Rr n l) (h0 : 0 < n) (hx : x.natAbs ≤ 2 ^ 20) : Rr n (fr x l) := ⟨by
  have := h.len
  simp [fr]; omega, fun y hy => by
  rcases List.mem_cons.mp hy with rfl | hy
  · exact hx
  · exact h.bd y (List.mem_of_mem_tail hy)⟩
theorem wr_of {n : Nat} {l : List Int} (h : Rr n l) : Wr n l := ⟨h.len, h.bd.mono (by decide)⟩
theorem wr_fr {n : Nat} {l : List Int} {x : Int} (h : Wr n l) (h0 : 0 < n) (hx : x.natAbs ≤ 2 ^ 1000) : Wr n (fr x l) := ⟨by
  have := h.len
  simp [fr]; omega, fun y hy => by
  rcases List.mem_cons.mp hy with rfl | hy
  · exact hx
  · exact h.bd y (List.mem_of_mem_tail hy)⟩
theorem add_fr {l : List Int} {x : Int} (h : l.length ≤ 100) : addD (.tuple [.int x]) (.tuple (l.map PyData.int).tail) = some (.fz (.tuple ((fr x l).map .int))) := by
  rw [addD_tup, if_pos (size_ok (by simp; omega)), fr, List.map_cons, List.map_tail]; rfl
theorem le1000 {x : Int} {k : Nat} (h : x.natAbs ≤ 2 ^ k) (hk : k ≤ 1000) : x.natAbs ≤ 2 ^ 1000 := Nat.le_trans h (Nat.pow_le_pow_right (by decide) hk)
def RW (l : List Int) : D := .tuple (l.map .int)
theorem roots_loop {n : Nat} (h0 : 0 < n) (hn : n ≤ 16) (a b c d e f g i j : Option OD) : ∀ (ls : List (List Int)) (x : Option OD), (∀ l ∈ ls, Wr n l) → ∃ x', forL (gN 9) l__law_are_roots_1 (ls.map RW) [a, b, c, d, e, f, g, i, j, x] = .nx [a, b, c, d, e, f, g, i, j, x']
  | [], x, _ => ⟨x, rfl⟩
  | l :: ls, x, h => by
    have e1 := is_rooted (h l (by simp)) h0 hn
    obtain ⟨x', e2⟩ := roots_loop h0 hn a b c d e f g i j ls (some (.fz (RW l))) fun y hy => h y (by simp [hy])
    refine ⟨x', ?_⟩
    rw [← e2, List.map_cons, forL_cons2]
    have e1 : m__law_is_rooted [.fz (RW l)] = .ok (.fz (.bool true)) [none] := e1
    generalize RW l = R at *
    generalize ls.map RW = LS at *
    simp [l__law_are_roots_1, e1]
theorem pick_ints {o : OD} (hb : Bag o) (xs : List Int) (h0 : xs ≠ []) (hl : xs.length ≤ 100) : ∃ v o', m__law_pick [o, .fz (.list (xs.map .int))] = .ok (.fz (.int v)) [some o', none] ∧ v ∈ xs ∧ Bag o' := by
  obtain ⟨d, o', e, hd, b⟩ := pick hb (ds := xs.map .int) (by simpa using h0) (by simp; omega)
  obtain ⟨v, hv, rfl⟩ := List.mem_map.mp hd
  exact ⟨v, o', e, hv, b⟩
theorem wr_mid {n j : Nat} {l : List Int} {x : Int} (hl : l.length = n) (hb : Bd 44 l) (hj : j < n) (hx : x.natAbs ≤ 2 ^ 1000) : Wr n (l.take j ++ x :: l.drop (j + 1)) := ⟨by simp; omega, fun y hy => by
  rcases List.mem_append.mp hy with h | h
  · exact (hb.mono (by decide)) y (List.mem_of_mem_take h)
  · rcases List.mem_cons.mp h with rfl | h
    · exact hx
    · exact (hb.mono (by decide)) y (List.mem_of_mem_drop h)⟩
set_option maxHeartbeats 4000000 in
theorem are_roots {o : OD} (hB : Bag o) {n : Nat} (h0 : 0 < n) (h1 : n ≤ 16) : ∃ o' , m__law_are_roots [o, .fz (.int (n : Int))] = .ok (.fz (.bool true)) [some o', none] := by
  -- the root
  obtain ⟨kd, o1, e1, _, b1⟩ := pick_ints hB [0, 1, 4] (by simp) (by simp)
  obtain ⟨a0, o2, e2, ha0, b2⟩ := own_row b1 (n := n) (by omega) kd
  have k1 := cut1 a0
  have k2 := add_fr (x := 1) (l := a0) (by have := ha0.len; omega)
  have hr0 := rr_fr (x := 1) ha0 h0 (by decide)
  obtain ⟨q, o3, e3, _, _, b3⟩ := drawS b2 (below := 3) (by omega) (by omega)
  obtain ⟨ro, hro, hro0, e4⟩ : ∃ ro : List Int, Rr n ro ∧ fn ro 0 * fn ro 0 = 1 ∧ sIf (kCmp eqD (eFrz (oCall [some 0, none] (aRef 0 (aCons (eC (.int 3)) aNil)) (noexF m__law_draw))) (eC (.int 0))) (sAsg (eFrz (oBlt (one tupleD) (aCons (eFrz (oLc [false, false, false, true, false, false, false, false, false, false] (iSeq (eVar 2)) (gN 3) kYes (eFrz (oOp2 subD (eC (.int 0)) (eVar 3))))) aNil))) (gN 2)) sNx [some o2, some (.fz (.int (n : Int))), some (.fz (.tuple ((fr 1 a0).map .int))), none, none, none, none, none, none, none] =
      .nx [some o3, some (.fz (.int (n : Int))), some (.fz (.tuple (ro.map .int))), none, none, none, none, none, none, none] := by
    by_cases hq : q = 0
    · refine ⟨(fr 1 a0).map fun x => 0 - x, ⟨by rw [List.length_map]; exact hr0.len, fun y hy => ?_⟩, rfl, ?_⟩
      · obtain ⟨x, hx, rfl⟩ := List.mem_map.mp hy
        have := hr0.bd x hx
        omega
      · simp [e3, hq]
        rw [lcL_map (fun x : Int => PyData.int (0 - x)) PyData.int _ [] (fun x _ => ⟨_, _, rfl, by simp; rfl, by simp⟩) (by refine size_ok ?_; have := hr0.len; simp; omega)]
        simp [Function.comp_def]
    · exact ⟨fr 1 a0, hr0, rfl, by simp [e3, hq]⟩
  -- the row
  have lr := hro.len
  have e5 := own_product hro.bd hro.bd (by decide) (by decide) rfl (by omega)
  obtain ⟨r, hr⟩ : ∃ r, r = pl ro ro := ⟨_, rfl⟩
  have ln : r.length = n := by rw [hr, pl_len]; exact lr
  have rb : Bd 44 r := by rw [hr]; exact bd_pl hro.bd hro.bd (by omega)
  have rz : fn r 0 = 1 := by rw [hr, fn_pl (by omega), cv_z]; exact hro0
  rw [← hr] at e5
  have wr : Wr n r := ⟨ln, rb.mono (by decide)⟩
  clear hr
  obtain ⟨at', o4, e6, t0, t1, b4⟩ := drawS b3 (below := (n : Int)) (by omega) (by omega)
  obtain ⟨j, rfl⟩ : ∃ j : Nat, at' = (j : Int) := ⟨at'.toNat, by omega⟩
  have c1 := cut_to PyData.int r j
  have c2 : cutD (r.map PyData.int) (some ((j : Int) + 1)) none = (r.drop (j + 1)).map PyData.int := by
    have := cut_from PyData.int r (j + 1)
    rwa [show ((j + 1 : Nat) : Int) = (j : Int) + 1 by omega] at this
  have c3 := at_fn (l := r) (j := j) (J := (j : Int)) rfl (by omega)
  have s1 : ((r.take j).map PyData.int).length + 1 ≤ sizeLine := size_ok (by simp; omega)
  have s2 : ((r.take j).map PyData.int).length + 1 + ((r.drop (j + 1)).map PyData.int).length ≤ sizeLine := size_ok (by simp; omega)
  obtain ⟨x, o5, hx, b5, e7⟩ : ∃ (x : Int) (o5 : OD), x.natAbs ≤ 2 ^ 1000 ∧ Bag o5 ∧ ∀ (u v w : Option OD), (sAsg (eFrz (oOp2 addD (eFrz (oOp2 addD (eFrz (oSlice (eVar 4) pNo (pSome (eVar 5)))) (eTup (aCons (eIf (kCmp gtI (eAt 4 (eVar 5)) (eC (.int 0))) (eFrz (oOp2 subD (eAt 4 (eVar 5)) (eFrz (oCall [some 0, none] (aRef 0 (aCons (eFrz (oLst (aCons (eC (.int 1)) (aCons (eFrz (oOp1 negD (eC (.int 1)))) (aCons (eC (.int 2)) (aCons (eC (.int 4)) aNil)))))) aNil)) (noexF m__law_pick))))) (eFrz (oOp2 addD (eAt 4 (eVar 5)) (eC (.int 2))))) aNil)))) (eFrz (oSlice (eVar 4) (pSome (eFrz (oOp2 addD (eVar 5) (eC (.int 1))))) pNo)))) (gN 6)) [some o4, u, v, none, some (.fz (.tuple (r.map .int))), some (.fz (.int (j : Int))), none, none, none, none] =
      .nx [some o5, u, v, none, some (.fz (.tuple (r.map .int))), some (.fz (.int (j : Int))), some (.fz (.tuple ((r.take j ++ x :: r.drop (j + 1)).map .int))), none, none, none] := by
    have hb := rb.fn j
    by_cases hp : 0 < fn r j
    · obtain ⟨v, o5, e, hv, b⟩ := pick_ints b4 [1, -1, 2, 4] (by simp) (by simp)
      refine ⟨fn r j - v, o5, ?_, b, fun u v' w => ?_⟩
      · have : v.natAbs ≤ 4 := by
          simp only [List.mem_cons, List.not_mem_nil, or_false] at hv
          rcases hv with rfl | rfl | rfl | rfl <;> decide
        have h8 : 2 ^ 44 + 4 ≤ 2 ^ 45 := by decide
        refine le1000 (k := 45) ?_ (by decide)
        generalize 2 ^ 45 = Q at *
        omega
      · rw [List.map_append, List.map_cons]
        generalize (r.take j).map PyData.int = A at *
        generalize (r.drop (j + 1)).map PyData.int = B at *
        simp at e
        simp [c1, c2, c3, hp, e, s1, s2]
    · refine ⟨fn r j + 2, o4, ?_, b4, fun u v' w => ?_⟩
      · have h8 : 2 ^ 44 + 4 ≤ 2 ^ 45 := by decide
        refine le1000 (k := 45) ?_ (by decide)
        generalize 2 ^ 45 = Q at *
        omega
      · rw [List.map_append, List.map_cons]
        generalize (r.take j).map PyData.int = A at *
        generalize (r.drop (j + 1)).map PyData.int = B at *
        simp [c1, c2, c3, hp, s1, s2]
  -- the last one
  obtain ⟨y, hy⟩ : ∃ y : Int, y = fn r (n - 1) + (if fn r (n - 1) < 0 then 1 else -1) := ⟨_, rfl⟩
  have hyb : y.natAbs ≤ 2 ^ 1000 := by
    have hb := rb.fn (n - 1)
    have h8 : 2 ^ 44 + 4 ≤ 2 ^ 45 := by decide
    refine le1000 (k := 45) ?_ (by decide)
    generalize 2 ^ 45 = Q at *
    rw [hy]
    split <;> omega
  have c4 : cutD (r.map PyData.int) none (some ((n : Int) - 1)) = (r.take (n - 1)).map PyData.int := by
    have := cut_to PyData.int r (n - 1)
    rwa [show ((n - 1 : Nat) : Int) = (n : Int) - 1 by omega] at this
  have c5 := at_fn (l := r) (j := n - 1) (J := (n : Int) - 1) (by omega) (by omega)
  have s3 : ((r.take (n - 1)).map PyData.int).length + 1 ≤ sizeLine := size_ok (by simp; omega)
  have w1 := wr_mid (x := x) ln rb (j := j) (by omega) hx
  have w2 := wr_mid (x := y) ln rb (j := n - 1) (by omega) hyb
  have dr : r.drop (n - 1 + 1) = [] := List.drop_eq_nil_of_le (by omega)
  rw [dr] at w2
  -- the others
  obtain ⟨a1, o6, e8, ha1, b6⟩ := own_row b5 (n := n) (by omega) 1
  have k3 := cut1 a1
  rw [show (a1.map PyData.int).tail = a1.tail.map .int by rw [List.map_tail]] at k3
  have la1 := ha1.len
  have w3 : Wr n (fr 1 (a1.map fun z => 4 * z)) := wr_fr ⟨by rw [List.length_map]; exact la1, fun z hz => by
    obtain ⟨u, hu, rfl⟩ := List.mem_map.mp hz
    have h8 := ha1.bd u hu
    have h9 : 4 * 2 ^ 20 ≤ 2 ^ 22 := by decide
    refine le1000 (k := 22) ?_ (by decide)
    generalize 2 ^ 22 = Q at *
    omega⟩ h0 (le1000 (k := 1) (by decide) (by decide))
  have e9 : addD (.tuple [.int 1]) (.tuple (a1.tail.map fun z : Int => PyData.int (4 * z))) = some (.fz (RW (fr 1 (a1.map fun z => 4 * z)))) := by
    have := add_fr (x := 1) (l := a1.map fun z => 4 * z) (by simp; omega)
    rw [List.map_map, ← List.map_tail] at this
    exact this
  obtain ⟨v1, o7, e10, hv1, b7⟩ := pick_ints b6 [1, 1, 0, -1, 4, 9, 2] (by simp) (by simp)
  have k4 := cut1 r
  have k5 := add_fr (x := v1) (l := r) (by omega)
  have w4 : Wr n (fr v1 r) := wr_fr wr h0 (by
    simp only [List.mem_cons, List.not_mem_nil, or_false] at hv1
    refine le1000 (k := 10) ?_ (by decide)
    rcases hv1 with rfl | rfl | rfl | rfl | rfl | rfl | rfl <;> decide)
  obtain ⟨q2, o8, e11, _, _, b8⟩ := drawS b7 (below := 5) (by omega) (by omega)
  obtain ⟨a2, o9, e12, ha2, b9⟩ := own_row b8 (n := n) (by omega) q2
  have k6 := cut1 a2
  have k7 := add_fr (x := 1) (l := a2) (by have := ha2.len; omega)
  have w5 : Wr n (fr 1 a2) := wr_of (rr_fr ha2 h0 (by decide))
  have ZW : ∀ z : Int, z.natAbs ≤ 4 → Wr n (z :: List.replicate (n - 1) 0) := fun z hz => ⟨by simp; omega, fun u hu => by
    rcases List.mem_cons.mp hu with rfl | hu
    · exact le1000 (k := 2) hz (by decide)
    · rw [List.eq_of_mem_replicate hu]; exact Nat.zero_le _⟩
  have e13 := times_oneZ (d := .int 0) (z := (n : Int) - 1) (n := n - 1) (by omega) (by omega)
  have e14 : ∀ z : Int, addD (.tuple [.int z]) (.tuple (List.replicate (n - 1) (.int 0))) = some (.fz (RW (z :: List.replicate (n - 1) 0))) := fun z => by
    rw [addD_tup, if_pos (size_ok (by simp; omega))]
    unfold RW
    simp
  have e15 := own_other (k := 44) (by decide) rb (.inl rz) (by omega) (by omega)
  have w6 : Wr n (ivl r) := ⟨by rw [ivl_len]; exact ln, (bd_ivl (by rw [rz]; rfl) rb (by omega)).mono (by decide)⟩
  obtain ⟨v0, hv0⟩ : ∃ v0 : List (List Int), v0 = [r, r.take j ++ x :: r.drop (j + 1), r.take (n - 1) ++ [y]] := ⟨_, rfl⟩
  obtain ⟨vs, hvs⟩ : ∃ vs : List (List Int), vs = v0 ++ [fr 1 (a1.map fun z => 4 * z)] ++ [fr v1 r] ++ [fr 1 a2] ++ [0 :: List.replicate (n - 1) 0, 1 :: List.replicate (n - 1) 0, 4 :: List.replicate (n - 1) 0, (-1) :: List.replicate (n - 1) 0] ++ [ivl r] := ⟨_, rfl⟩
  obtain ⟨z, e16⟩ := roots_loop h0 h1 (some o9) (some (.fz (.int (n : Int)))) (some (.fz (.tuple (ro.map .int)))) none (some (.fz (.tuple (r.map .int)))) (some (.fz (.int (j : Int)))) (some (.fz (.tuple ((r.take j ++ x :: r.drop (j + 1)).map .int)))) (some (.fz (.list (vs.map RW)))) none vs none (fun l hl => by
    rw [hvs, hv0] at hl
    simp only [List.mem_append, List.mem_cons, List.not_mem_nil, or_false, or_assoc] at hl
    rcases hl with h | h | h | h | h | h | h | h | h | h | h
    all_goals subst h
    · exact wr
    · exact w1
    · exact w2
    · exact w3
    · exact w4
    · exact w5
    · exact ZW _ (by decide)
    · exact ZW _ (by decide)
    · exact ZW _ (by decide)
    · exact ZW _ (by decide)
    · exact w6)
  refine ⟨o9, ?_⟩
  unfold m__law_are_roots
  rw [ev_mkF]
  show Out.fin [true, false] (b__law_are_roots [some o, some (.fz (.int (n : Int))), none, none, none, none, none, none, none, none]) = _
  unfold b__law_are_roots
  refine seq_fin (s' := [some o2, some (.fz (.int (n : Int))), some (.fz (.tuple ((fr 1 a0).map .int))), none, none, none, none, none, none, none]) (by
    simp at e1
    simp [e1, e2, k1, k2, -addD_tup, -List.map_tail]) ?_
  refine seq_fin e4 ?_
  refine seq_fin (s' := [some o4, some (.fz (.int (n : Int))), some (.fz (.tuple (ro.map .int))), none, some (.fz (.tuple (r.map .int))), some (.fz (.int (j : Int))), none, none, none, none]) (by
    simp [e5, e6]) ?_
  refine seq_fin (e7 _ _ none) ?_
  clear e4 e7
  obtain ⟨N, hN⟩ : ∃ N : Option OD, N = some (.fz (.tuple ((r.take j ++ x :: r.drop (j + 1)).map .int))) := ⟨_, rfl⟩
  obtain ⟨RO, hRO⟩ : ∃ RO : Option OD, RO = some (.fz (.tuple (ro.map .int))) := ⟨_, rfl⟩
  rw [← hN, ← hRO] at e16 ⊢
  refine seq_fin (s' := [some o5, some (.fz (.int (n : Int))), RO, none, some (.fz (.tuple (r.map .int))), some (.fz (.int (j : Int))), N, some (.ol (v0.map RW)), none, none]) (by
    subst hN
    have ey : (r.take (n - 1) ++ [y]).map PyData.int = (r.take (n - 1)).map PyData.int ++ [.int y] := by rw [List.map_append]; rfl
    rw [hv0, List.map_cons, List.map_cons, List.map_cons, List.map_nil, RW, RW, RW, ey]
    generalize (r.take j ++ x :: r.drop (j + 1)).map PyData.int = NN at *
    generalize (r.take (n - 1)).map PyData.int = A at *
    by_cases hs : fn r (n - 1) < 0
    · rw [if_pos hs] at hy
      simp [c4, c5, hs, s3, hy]
    · rw [if_neg hs] at hy
      simp [c4, c5, hs, s3, hy]) ?_
  have l0 : v0.length = 3 := by rw [hv0]; rfl
  refine seq_fin (s' := [some o6, some (.fz (.int (n : Int))), RO, none, some (.fz (.tuple (r.map .int))), some (.fz (.int (j : Int))), N, some (.ol ((v0 ++ [fr 1 (a1.map fun z => 4 * z)]).map RW)), none, none]) (by
    rw [List.map_append]
    generalize fr 1 (a1.map fun z => 4 * z) = F1 at *
    have hz : (v0.map RW).length < sizeLine := size_lt (by simp [l0])
    generalize v0.map RW = V at *
    simp [e8, k3, -List.map_tail]
    rw [lcL_map (fun z : Int => PyData.int (4 * z)) PyData.int _ [] (fun z hz => ⟨_, _, rfl, by
      have := mul20 (x := 4) (y := z) (k := 3) (m := 20) (by decide) (ha1.bd z (List.mem_of_mem_tail hz)) (by decide) (by decide)
      simp [this]; rfl, by simp⟩) (by refine size_ok ?_; simp; omega)]
    simp [e9, -addD_tup, hz, -List.map_tail]) ?_
  refine seq_fin (s' := [some o7, some (.fz (.int (n : Int))), RO, none, some (.fz (.tuple (r.map .int))), some (.fz (.int (j : Int))), N, some (.ol ((v0 ++ [fr 1 (a1.map fun z => 4 * z)] ++ [fr v1 r]).map RW)), none, none]) (by
    rw [List.map_append (l₂ := [fr v1 r])]
    generalize fr 1 (a1.map fun z => 4 * z) = F1 at *
    have hz : ((v0 ++ [F1]).map RW).length < sizeLine := size_lt (by simp [l0])
    generalize (v0 ++ [F1]).map RW = V at *
    simp at e10
    simp [e10, k4, k5, -addD_tup, -List.map_tail, hz, RW]) ?_
  refine seq_fin (s' := [some o9, some (.fz (.int (n : Int))), RO, none, some (.fz (.tuple (r.map .int))), some (.fz (.int (j : Int))), N, some (.ol ((v0 ++ [fr 1 (a1.map fun z => 4 * z)] ++ [fr v1 r] ++ [fr 1 a2]).map RW)), none, none]) (by
    rw [List.map_append (l₂ := [fr 1 a2])]
    generalize fr 1 (a1.map fun z => 4 * z) = F1 at *
    have hz : ((v0 ++ [F1] ++ [fr v1 r]).map RW).length < sizeLine := size_lt (by simp [l0])
    generalize (v0 ++ [F1] ++ [fr v1 r]).map RW = V at *
    simp [e11, e12, k6, k7, -addD_tup, -List.map_tail, hz, RW]) ?_
  obtain ⟨v2, hv2⟩ : ∃ v2, v2 = v0 ++ [fr 1 (a1.map fun z => 4 * z)] ++ [fr v1 r] ++ [fr 1 a2] := ⟨_, rfl⟩
  rw [← hv2] at hvs ⊢
  have l2 : v2.length = 6 := by rw [hv2]; simp [l0]
  refine seq_fin (s' := [some o9, some (.fz (.int (n : Int))), RO, none, some (.fz (.tuple (r.map .int))), some (.fz (.int (j : Int))), N, some (.ol ((v2 ++ [0 :: List.replicate (n - 1) 0, 1 :: List.replicate (n - 1) 0, 4 :: List.replicate (n - 1) 0, (-1) :: List.replicate (n - 1) 0]).map RW)), none, none]) (by
    rw [List.map_append]
    have hz : (v2.map RW).length + 4 ≤ sizeLine := size_ok (by simp [l2])
    generalize v2.map RW = V at *
    have ll := lcL_map (ow := [false, false, false, false, false, false, false, false, true, false]) (g := gN 8) (e := eFrz (oOp2 addD (eTup (aCons (eVar 8) aNil)) (eFrz (oOp2 timesD (eTup (aCons (eC (.int 0)) aNil)) (eFrz (oOp2 subD (eVar 1) (eC (.int 1)))))))) (s := [some o9, some (.fz (.int (n : Int))), RO, none, some (.fz (.tuple (r.map .int))), some (.fz (.int (j : Int))), N, some (.ol V), none, none]) (fun z : Int => RW (z :: List.replicate (n - 1) 0)) PyData.int [0, 1, 4, -1] [] (fun z hz => ⟨_, [some o9, some (.fz (.int (n : Int))), RO, none, some (.fz (.tuple (r.map .int))), some (.fz (.int (j : Int))), N, some (.ol V), some (.fz (.int z)), none], rfl, by
      have e14 := e14 z
      generalize RW (z :: List.replicate (n - 1) 0) = RR at *
      generalize List.replicate (n - 1) (PyData.int 0) = ZZ at *
      simp [e13, e14, -addD_tup], by simp⟩) (by refine size_ok ?_; simp)
    simp only [List.map_cons, List.map_nil, List.nil_append] at ll
    simp only [List.map_cons, List.map_nil]
    generalize RW (0 :: List.replicate (n - 1) 0) = R0 at *
    generalize RW (1 :: List.replicate (n - 1) 0) = R1 at *
    generalize RW (4 :: List.replicate (n - 1) 0) = R4 at *
    generalize RW (-1 :: List.replicate (n - 1) 0) = R5 at *
    simp [ll, hz]) ?_
  obtain ⟨v3, hv3⟩ : ∃ v3, v3 = v2 ++ [0 :: List.replicate (n - 1) 0, 1 :: List.replicate (n - 1) 0, 4 :: List.replicate (n - 1) 0, (-1) :: List.replicate (n - 1) 0] := ⟨_, rfl⟩
  rw [← hv3] at hvs ⊢
  have l3 : v3.length = 10 := by rw [hv3]; simp [l2]
  refine seq_fin (s' := [some o9, some (.fz (.int (n : Int))), RO, none, some (.fz (.tuple (r.map .int))), some (.fz (.int (j : Int))), N, some (.ol (vs.map RW)), none, none]) (by
    rw [hvs, List.map_append]
    have hz : (v3.map RW).length < sizeLine := size_lt (by simp [l3])
    generalize v3.map RW = V at *
    simp [e15, hz, RW]) ?_
  refine seq_fin (s' := [some o9, some (.fz (.int (n : Int))), RO, none, some (.fz (.tuple (r.map .int))), some (.fz (.int (j : Int))), N, some (.fz (.list (vs.map RW))), none, z]) (by
    rw [← e16]
    generalize l__law_are_roots_1 = LL at *
    simp) ?_
  simp
end G_k84

set_option Elab.async false
set_option linter.all false
set_option autoImplicit false
set_option maxRecDepth 100000
set_option exponentiation.threshold 100000
namespace G_k84
open PySem PySem.Spec L2 MI SER
theorem odd_turn {o : OD} (hB : Bag o) {n : Nat} {l : List Int} (hr : Rr n l) (h0 : 0 < n) (h1 : n ≤ 16) {os : List Int} (ho : Bd 20 os) (hl0 : 0 < os.length) (hl2 : os.length ≤ 2) (sc a h x : Option OD) :
    ∃ o' x', l_law_1 [sc, some o, some (.fz (.int (n : Int))), some (.fz (.tuple (l.map .int))), a, some (.fz (.tuple (os.map .int))), x, h] = .nx [sc, some o', some (.fz (.int (n : Int))), some (.fz (.tuple (l.map .int))), a, some (.fz (.tuple (os.map .int))), x', h] ∧ Bag o' := by
  have ln := hr.len
  by_cases hn : 2 < n
  · by_cases hk : 1 < os.length
    · have hr2 : Rr n (os ++ l.take (n - os.length)) := ⟨by simp; omega, fun y hy => by
        rcases List.mem_append.mp hy with h | h
        · exact ho y h
        · exact hr.bd y (List.mem_of_mem_take h)⟩
      obtain ⟨o', e, b⟩ := is_turned hB hr2 h0 h1
      have c1 : cutD (l.map PyData.int) none (some ((n : Int) - ((os.length : Nat) : Int))) = (l.take (n - os.length)).map PyData.int := by
        have := cut_to PyData.int l (n - os.length)
        rwa [show ((n - os.length : Nat) : Int) = (n : Int) - ((os.length : Nat) : Int) by omega] at this
      have c2 : addD (.tuple (os.map PyData.int)) (.tuple ((l.take (n - os.length)).map PyData.int)) = some (.fz (.tuple ((os ++ l.take (n - os.length)).map .int))) := by
        rw [addD_tup, if_pos (size_ok (by simp; omega)), List.map_append]
      refine ⟨o', some (.fz (.tuple ((os ++ l.take (n - os.length)).map .int))), ?_, b⟩
      unfold l_law_1
      generalize (os ++ l.take (n - os.length)).map PyData.int = R at *
      generalize (l.take (n - os.length)).map PyData.int = LT at *
      have h2 : (2 : Int) < (n : Int) := by omega
      have h3 : (1 : Int) < ((os.length : Nat) : Int) := by omega
      simp [h2, h3, c1, c2, -addD_tup, e]
    · obtain ⟨o', e, b⟩ := is_turned hB (n := os.length) ⟨rfl, ho⟩ hl0 (by omega)
      refine ⟨o', some (.fz (.tuple (os.map .int))), ?_, b⟩
      unfold l_law_1
      have h2 : (2 : Int) < (n : Int) := by omega
      have h3 : ¬ (1 : Int) < ((os.length : Nat) : Int) := by omega
      simp [h2, h3, e]
  · obtain ⟨o', e, b⟩ := is_turned hB (n := os.length) ⟨rfl, ho⟩ hl0 (by omega)
    refine ⟨o', some (.fz (.tuple (os.map .int))), ?_, b⟩
    unfold l_law_1
    have h2 : ¬ (2 : Int) < (n : Int) := by omega
    simp [h2, e]
theorem odd_loop {n : Nat} {l : List Int} (hr : Rr n l) (h0 : 0 < n) (h1 : n ≤ 16) (sc a h : Option OD) : ∀ (oss : List (List Int)) (o : OD) (u x : Option OD), Bag o → (∀ os ∈ oss, Bd 20 os ∧ 0 < os.length ∧ os.length ≤ 2) →
    ∃ o' u' x', forL (gN 5) l_law_1 (oss.map RW) [sc, some o, some (.fz (.int (n : Int))), some (.fz (.tuple (l.map .int))), a, u, x, h] = .nx [sc, some o', some (.fz (.int (n : Int))), some (.fz (.tuple (l.map .int))), a, u', x', h] ∧ Bag o'
  | [], o, u, x, hb, _ => ⟨o, u, x, rfl, hb⟩
  | os :: oss, o, u, x, hb, ho => by
    obtain ⟨g1, g2, g3⟩ := ho os (by simp)
    obtain ⟨o1, x1, e1, b1⟩ := odd_turn hb hr h0 h1 g1 g2 g3 sc a h x
    obtain ⟨o', u', x', e2, b2⟩ := odd_loop hr h0 h1 sc a h oss o1 (some (.fz (RW os))) x1 b1 fun y hy => ho y (by simp [hy])
    refine ⟨o', u', x', ?_, b2⟩
    rw [← e2, List.map_cons, forL_cons2]
    have e1 : l_law_1 [sc, some o, some (.fz (.int (n : Int))), some (.fz (.tuple (l.map .int))), a, some (.fz (RW os)), x, h] = .nx [sc, some o1, some (.fz (.int (n : Int))), some (.fz (.tuple (l.map .int))), a, some (.fz (RW os)), x1, h] := e1
    generalize RW os = R at *
    generalize oss.map RW = LS at *
    generalize l_law_1 = LL at *
    simp [e1]
theorem law_holds (ns : List Int) (hl : ns.length ≤ 63) : ∃ s, m_law [.fz (lockD (ns.map PyData.int))] = .ok (.fz (.bool true)) s := by
  obtain ⟨sc, hsc⟩ : ∃ sc : Option OD, sc = some (.fz (lockD (ns.map PyData.int))) := ⟨_, rfl⟩
  obtain ⟨o, e1, b⟩ := own_bag ns hl
  obtain ⟨d1, o1, e2, g1, g2, b1⟩ := drawS b (below := 16) (by omega) (by omega)
  obtain ⟨d2, o2, e3, g3, g4, b2⟩ := drawS b1 (below := 15) (by omega) (by omega)
  obtain ⟨d, o3, e4, hd, b3⟩ := pick b2 (ds := [.int 1, .int 2, .int 3, .int 16, .int 16, .int 16, .int (1 + d1), .int (2 + d2)]) (by simp) (by simp)
  obtain ⟨n, rfl, h0, h1⟩ : ∃ n : Nat, d = .int (n : Int) ∧ 0 < n ∧ n ≤ 16 := by
    simp only [List.mem_cons, List.not_mem_nil, or_false] at hd
    rcases hd with rfl | rfl | rfl | rfl | rfl | rfl | rfl | rfl
    · exact ⟨1, rfl, by decide, by decide⟩
    · exact ⟨2, rfl, by decide, by decide⟩
    · exact ⟨3, rfl, by decide, by decide⟩
    · exact ⟨16, rfl, by decide, by decide⟩
    · exact ⟨16, rfl, by decide, by decide⟩
    · exact ⟨16, rfl, by decide, by decide⟩
    · exact ⟨(1 + d1).toNat, by rw [Int.toNat_of_nonneg (by omega)], by omega, by omega⟩
    · exact ⟨(2 + d2).toNat, by rw [Int.toNat_of_nonneg (by omega)], by omega, by omega⟩
  obtain ⟨q1, o4, e5, _, _, b4⟩ := drawS b3 (below := 5) (by omega) (by omega)
  obtain ⟨a, o5, e6, ha, b5⟩ := own_row b4 (n := n) (by omega) q1
  obtain ⟨v, o6, e7, hv, b6⟩ := pick_ints b5 [1, -1] (by simp) (by simp)
  have hvb : v.natAbs ≤ 2 ^ 20 := by
    simp only [List.mem_cons, List.not_mem_nil, or_false] at hv
    rcases hv with rfl | rfl <;> decide
  have la := ha.len
  -- the first one
  obtain ⟨M, hM⟩ : ∃ M : Nat, M = if 1 < n then n else 2 := ⟨_, rfl⟩
  have hM2 : 2 ≤ M ∧ M ≤ 16 ∧ M ≤ n + 2 := by subst hM; split <;> omega
  have hr1 : Rr M ((0 :: v :: a).take M) := ⟨by simp; omega, fun y hy => by
    have := List.mem_of_mem_take hy
    simp only [List.mem_cons] at this
    rcases this with rfl | rfl | h
    · exact Nat.zero_le _
    · exact hvb
    · exact ha.bd y h⟩
  obtain ⟨o7, e8, b7⟩ := is_turned b6 hr1 (by omega) (by omega)
  have c1 : addD (.tuple [.int 0, .int v]) (.tuple (a.map PyData.int)) = some (.fz (.tuple ((0 :: v :: a).map .int))) := by
    rw [addD_tup, if_pos (size_ok (by simp; omega))]; rfl
  have c2 := cut_to PyData.int (0 :: v :: a) M
  obtain ⟨MM, hMM⟩ : ∃ MM : Int, MM = (M : Int) := ⟨_, rfl⟩
  have ecM : ∀ s : S, s[2]? = some (some (.fz (.int (n : Int)))) → eIf (kCmp gtI (eVar 2) (eC (.int 1))) (eVar 2) (eC (.int 2)) s = .ok (.int MM) s := fun s hs => by
    rw [hMM, hM]
    by_cases q : 1 < n
    · simp [hs, q, show (1 : Int) < (n : Int) by omega]
    · simp [hs, q, show ¬ (1 : Int) < (n : Int) by omega]
  rw [← hMM] at c2
  -- the odd ones
  obtain ⟨OL, hOL⟩ : ∃ OL : List (List Int), OL = [[0, 0], [0, 2], [0, -2], [0, 1000000], [0, -1000000], [1, 1], [-1, 1], [2, -1], [5, 0], [0], [1], [-1]] := ⟨_, rfl⟩
  have hOb : ∀ os ∈ OL, Bd 20 os ∧ 0 < os.length ∧ os.length ≤ 2 := by
    have : ∀ os ∈ OL, (os.all fun y => decide (y.natAbs ≤ 2 ^ 20)) = true ∧ 0 < os.length ∧ os.length ≤ 2 := by rw [hOL]; decide
    intro os hos
    obtain ⟨h1, h2, h3⟩ := this os hos
    exact ⟨fun y hy => by simpa using List.all_eq_true.mp h1 y hy, h2, h3⟩
  obtain ⟨o8, u8, x8, e9, b8⟩ := odd_loop ha h0 h1 sc (some (.fz (.tuple [.int 0, .int v]))) none OL o7 none none b7 hOb
  obtain ⟨q2, o9, e10, z0, z1, b9⟩ := drawS b8 (below := 5) (by omega) (by omega)
  obtain ⟨k, rfl⟩ : ∃ k : Nat, q2 = (k : Int) := ⟨q2.toNat, by omega⟩
  obtain ⟨a2, o10, e11, ha2, b10⟩ := own_row b9 (n := k) (by omega) 2
  have hr3 : Rr (k + 2) (0 :: v :: a2) := ⟨by have := ha2.len; simp; omega, fun y hy => by
    simp only [List.mem_cons] at hy
    rcases hy with rfl | rfl | h
    · exact Nat.zero_le _
    · exact hvb
    · exact ha2.bd y h⟩
  obtain ⟨o11, e12, b11⟩ := is_turned b10 hr3 (by omega) (by omega)
  have c3 : addD (.tuple [.int 0, .int v]) (.tuple (a2.map PyData.int)) = some (.fz (.tuple ((0 :: v :: a2).map .int))) := by
    rw [addD_tup, if_pos (size_ok (by have := ha2.len; simp; omega))]; rfl
  obtain ⟨o12, e13⟩ := are_roots b11 h0 h1
  refine ⟨[none], ?_⟩
  unfold m_law
  rw [ev_mkF]
  show Out.fin [false] (b_law [some (.fz (lockD (ns.map PyData.int))), none, none, none, none, none, none, none]) = _
  rw [← hsc]
  unfold b_law
  refine seq_fin (s' := [sc, some o, none, none, none, none, none, none]) (by subst hsc; simp [e1]) ?_
  clear hsc e1
  refine seq_fin (s' := [sc, some o3, some (.fz (.int (n : Int))), none, none, none, none, none]) (by
    simp [e2, e3, e4]) ?_
  refine seq_fin (s' := [sc, some o5, some (.fz (.int (n : Int))), some (.fz (.tuple (a.map .int))), none, none, none, none]) (by
    simp [e5, e6]) ?_
  refine seq_fin (s' := [sc, some o6, some (.fz (.int (n : Int))), some (.fz (.tuple (a.map .int))), some (.fz (.tuple [.int 0, .int v])), none, none, none]) (by
    simp at e7
    simp [e7]) ?_
  refine seq_fin (s' := [sc, some o7, some (.fz (.int (n : Int))), some (.fz (.tuple (a.map .int))), some (.fz (.tuple [.int 0, .int v])), none, none, none]) (by
    generalize ((0 :: v :: a).take M).map PyData.int = R1 at *
    generalize (0 :: v :: a).map PyData.int = R0 at *
    have e0 := ecM [sc, some o6, some (.fz (.int (n : Int))), some (.fz (.tuple (a.map .int))), some (.fz (.tuple [.int 0, .int v])), none, none, none] rfl
    generalize eIf (kCmp gtI (eVar 2) (eC (.int 1))) (eVar 2) (eC (.int 2)) = EI at *
    simp [c1, -addD_tup, e0, c2, e8]) ?_
  have eOL : OL.map RW = [.tuple [.int 0, .int 0], .tuple [.int 0, .int 2], .tuple [.int 0, .int (-2)], .tuple [.int 0, .int 1000000], .tuple [.int 0, .int (-1000000)], .tuple [.int 1, .int 1], .tuple [.int (-1), .int 1], .tuple [.int 2, .int (-1)], .tuple [.int 5, .int 0], .tuple [.int 0], .tuple [.int 1], .tuple [.int (-1)]] := by rw [hOL]; rfl
  refine seq_fin (s' := [sc, some o8, some (.fz (.int (n : Int))), some (.fz (.tuple (a.map .int))), some (.fz (.tuple [.int 0, .int v])), u8, x8, none]) (by
    rw [← e9, eOL]
    generalize l_law_1 = LL at *
    simp) ?_
  refine seq_fin (s' := [sc, some o10, some (.fz (.int (n : Int))), some (.fz (.tuple (a.map .int))), some (.fz (.tuple [.int 0, .int v])), u8, x8, some (.fz (.tuple ((0 :: v :: a2).map .int)))]) (by
    generalize (0 :: v :: a2).map PyData.int = R2 at *
    simp [e10, e11, c3, -addD_tup]) ?_
  refine seq_fin (s' := [sc, some o11, some (.fz (.int (n : Int))), some (.fz (.tuple (a.map .int))), some (.fz (.tuple [.int 0, .int v])), u8, x8, some (.fz (.tuple ((0 :: v :: a2).map .int)))]) (by
    generalize (0 :: v :: a2).map PyData.int = R2 at *
    simp [e12]) ?_
  simp [e13]
end G_k84

set_option Elab.async false
set_option linter.all false
set_option autoImplicit false
set_option maxRecDepth 100000
open PySem PySem.W PyProof.Rows
set_option maxHeartbeats 0 in
theorem PySem.Challenge.cw_leadterms_k84_whole_series_turned_holds : PySem.Challenge.rw_leadterms_k84_whole_series_turned.Holds := by
  w_on; o_law; k_head; (case hw => w_witness2)
  k_fill
  refine MI.ends_of (l := PySem.Challenge.rw_leadterms_k84_whole_series_turned) (n := 63) (k := 11) (x := "script") (sp := fun w => (fun K => MI.spF K (G_k84.Er K) false 1 G_k84.m_law) _) rfl (by decide) rfl ⟨rfl, by decide, by decide⟩ (fun w h Y => PySem.W.kIn_of Y) ?F (fun w H a ns hl hS => MI.law_true hS (G_k84.law_holds ns hl))
  case F =>
    intro w mg fa h KX G hmg
    refine' G_k84.all_mk KX G hmg ?a0 ?l0 ?c0 ?k0 ?a1 ?l1 ?c1 ?k1 ?a2 ?l2 ?c2 ?k2 ?a3 ?l3 ?c3 ?k3 ?a4 ?l4 ?c4 ?k4 ?a5 ?l5 ?c5 ?k5 ?a6 ?l6 ?c6 ?k6 ?a7 ?l7 ?c7 ?k7 ?a8 ?l8 ?c8 ?k8 ?a9 ?l9 ?c9 ?k9 ?a10 ?l10 ?c10 ?k10 ?a11 ?l11 ?c11 ?k11 ?a12 ?l12 ?c12 ?k12 ?a13 ?l13 ?c13 ?k13 ?a14 ?l14 ?c14 ?k14 ?a15 ?l15 ?c15 ?k15 ?a16 ?l16 ?c16 ?k16 ?a17 ?l17 ?c17 ?k17 ?a18 ?l18 ?c18 ?k18 ?a19 ?l19 ?c19 ?k19 ?a20 ?l20 ?c20 ?k20 ?a21 ?l21 ?c21 ?k21 ?a22 ?l22 ?c22 ?k22 ?a23 ?l23 ?c23 ?k23 ?a24 ?l24 ?c24 ?k24 ?a25 ?l25 ?c25 ?k25 ?dig ?z0 ?z1 ?z2 ?z3 ?z4 ?z5 ?z6 ?z7 ?z8 ?z9 ?z10 ?z11 ?z12 ?x0 ?x1 ?x2 ?x3 ?x4 ?x5 ?x6 ?x7 ?x8 ?x9 ?x10 ?x11 ?x12 ?x13 ?x14 ?x15 ?x16 ?x17 ?x18 ?x19 ?x20 ?x21 ?x22 ?x23 ?x24 ?x25 ?x26 ?x27 ?x28 ?x29 ?x30 ?x31 ?x32 ?x33 ?x34 ?x35 ?x36 ?x37 ?x38 ?x39 ?x40 ?x41 ?x42 ?x43 ?x44 ?x45 ?x46 ?x47 ?x48 ?x49 ?x50 ?x51 ?x52 ?x53 ?x54 ?x55 ?x56 ?x57 ?x58 ?x59 ?x60 ?x61 ?x62 ?x63 ?x64 ?x65 ?x66 ?x67 ?x68 ?x69 ?x70 ?x71
    (case a0 => k_is); (case l0 => k_is); (case c0 => k_is); (case k0 => k_is); (case a1 => k_is); (case l1 => k_is); (case c1 => k_is); (case k1 => k_is); (case a2 => k_is); (case l2 => k_is); (case c2 => k_is); (case k2 => k_is); (case a3 => k_is); (case l3 => k_is); (case c3 => k_is); (case k3 => k_is); (case a4 => k_is); (case l4 => k_is); (case c4 => k_is); (case k4 => k_is); (case a5 => k_is); (case l5 => k_is); (case c5 => k_is); (case k5 => k_is); (case a6 => k_is); (case l6 => k_is); (case c6 => k_is); (case k6 => k_is); (case a7 => k_is); (case l7 => k_is); (case c7 => k_is); (case k7 => k_is); (case a8 => k_is); (case l8 => k_is); (case c8 => k_is); (case k8 => k_is); (case a9 => k_is); (case l9 => k_is); (case c9 => k_is); (case k9 => k_is); (case a10 => k_is); (case l10 => k_is); (case c10 => k_is); (case k10 => k_is); (case a11 => k_is); (case l11 => k_is); (case c11 => k_is); (case k11 => k_is); (case a12 => k_is); (case l12 => k_is); (case c12 => k_is); (case k12 => k_is); (case a13 => k_is); (case l13 => k_is); (case c13 => k_is); (case k13 => k_is); (case a14 => k_is); (case l14 => k_is); (case c14 => k_is); (case k14 => k_is); (case a15 => k_is); (case l15 => k_is); (case c15 => k_is); (case k15 => k_is); (case a16 => k_is); (case l16 => k_is); (case c16 => k_is); (case k16 => k_is); (case a17 => k_is); (case l17 => k_is); (case c17 => k_is); (case k17 => k_is); (case a18 => k_is); (case l18 => k_is); (case c18 => k_is); (case k18 => k_is); (case a19 => k_is); (case l19 => k_is); (case c19 => k_is); (case k19 => k_is); (case a20 => k_is); (case l20 => k_is); (case c20 => k_is); (case k20 => k_is); (case a21 => k_is); (case l21 => k_is); (case c21 => k_is); (case k21 => k_is); (case a22 => k_is); (case l22 => k_is); (case c22 => k_is); (case k22 => k_is); (case a23 => k_is); (case l23 => k_is); (case c23 => k_is); (case k23 => k_is); (case a24 => k_is); (case l24 => k_is); (case c24 => k_is); (case k24 => k_is); (case a25 => k_is); (case l25 => k_is); (case c25 => k_is); (case k25 => k_is); (case dig => k_is); (case z0 => k_is); (case z1 => k_is); (case z2 => k_is); (case z3 => k_is); (case z4 => k_is); (case z5 => k_is); (case z6 => k_is); (case z7 => k_is); (case z8 => k_is); (case z9 => k_is); (case z10 => k_is); (case z11 => k_is); (case z12 => k_is); (case x0 => k_is); (case x1 => k_is); (case x2 => k_is); (case x3 => k_is); (case x4 => k_is); (case x5 => k_is); (case x6 => k_is); (case x7 => k_is); (case x8 => k_is); (case x9 => k_is); (case x10 => k_is); (case x11 => k_is); (case x12 => k_is); (case x13 => k_is); (case x14 => k_is); (case x15 => k_is); (case x16 => k_is); (case x17 => k_is); (case x18 => k_is); (case x19 => k_is); (case x20 => k_is); (case x21 => k_is); (case x22 => k_is); (case x23 => k_is); (case x24 => k_is); (case x25 => k_is); (case x26 => k_is); (case x27 => k_is); (case x28 => k_is); (case x29 => k_is); (case x30 => k_is); (case x31 => k_is); (case x32 => k_is); (case x33 => k_is); (case x34 => k_is); (case x35 => k_is); (case x36 => k_is); (case x37 => k_is); (case x38 => k_is); (case x39 => k_is); (case x40 => k_is); (case x41 => k_is); (case x42 => k_is); (case x43 => k_is); (case x44 => k_exc); (case x45 => k_is); (case x46 => k_is); (case x47 => k_is); (case x48 => k_is); (case x49 => k_is); (case x50 => k_is); (case x51 => k_is); (case x52 => k_is); (case x53 => (decide +kernel)); (case x54 => k_is); (case x55 => (decide +kernel)); (case x56 => k_is); (case x57 => (decide +kernel)); (case x58 => k_is); (case x59 => (decide +kernel)); (case x60 => k_is); (case x61 => (decide +kernel)); (case x62 => k_is); (case x63 => (decide +kernel)); (case x64 => k_is); (case x65 => (decide +kernel)); (case x66 => k_is); (case x67 => (decide +kernel)); (case x68 => k_is); (case x69 => k_is); (case x70 => (decide +kernel)); (case x71 => k_is)


