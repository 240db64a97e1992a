import PyProof.Rows.All
import Wide.All
import OpenK.AllK
import Wide.FinOn
import HandS.ForMost
import HandS.IsInst
import HandS.Property
import HandS.Codes
import HandS.RaiseMore
import HandS.Strs
import HandS.TupAny
import HandS.Wide
import HandS.Style
import HandS.Rev
import HandS.DictComp
import HandS.Star
import PyProof.Rows.SortStr
import HandS.More
import KE.GoesMore
import KE.KDictZip
import KE.KDictItemsList
import HandS.ExcValue
import KE.LtData
import HandS.Defaults
import HandS.Head0
import HandS.Head1
import HandS.Head2
import HandS.HeadEnd
import HandS.HeadHook1
import HandS.HeadHook2
import PySem.Challenge.RW_heirorders_k26_whole_people_by_other_nam
set_option Elab.async false
set_option linter.all false
set_option maxRecDepth 100000
set_option maxHeartbeats 4000000
/-! HeirA: data, what stands for them on the abstract heap, owned objects, steps. -/
namespace Hr
open PySem L2

/-! ### data -/
inductive D where
  | non | bl (b : Bool) | int (i : Int) | str (s : Str) | ty (n : String)
  | tup (l : List D) | lst (l : List D)
  | obj (C : Addr) (fs : List (Str × D))
  | dct (l : List (Str × D)) | fdct (l : List (Str × D))
  | adr (a : Addr)
  | opq (P : Hp → V → Prop)
  /-- a tuple whose very object is known to bear no dict -/
  | ptup (l : List D)

/-- all of a heap is kept -/
def Ex (H H' : Hp) : Prop := ∀ a o, H a = some o → H' a = some o
theorem Ex.refl (H : Hp) : Ex H H := fun _ _ h => h
theorem Ex.trans {H H1 H2 : Hp} (a : Ex H H1) (b : Ex H1 H2) : Ex H H2 := fun x o h => b x o (a x o h)
theorem Ex.new {H : Hp} {p : Addr} {o : HO} (h : H p = none) : Ex H (upd H p o) := fun a u e => by
  rw [upd_ne (ne_of_none e h)]
  exact e
theorem Ex.mut {H H' : Hp} {p : Addr} {o : HO} (e : Ex H H') (h : H p = none) : Ex H (upd H' p o) := fun a u ha => by
  rw [upd_ne (ne_of_none ha h)]
  exact e a u ha
theorem Ex.none {H H' : Hp} {p : Addr} (e : Ex H H') (h : H' p = none) : H p = none := by
  cases h1 : H p with
  | none => rfl
  | some o =>
    rw [e p o h1] at h
    cases h

mutual
def Rep (G : Hp) : D → V → Prop
  | .non, v => v = .non
  | .bl b, v => v = .bl b
  | .int i, v => v = .int i
  | .str s, v => v = .str s
  | .ty n, v => v = .ty n
  | .tup ds, v => ∃ a xs, v = .ref a ∧ G a = some (.tup xs) ∧ Reps G ds xs
  | .lst ds, v => ∃ a xs, v = .ref a ∧ G a = some (.lst xs) ∧ Reps G ds xs
  | .obj C fs, v => ∃ a dx fvs, v = .ref a ∧ G a = some (.ins C dx fvs) ∧ RepF G fs fvs
  | .dct _, _ => False
  | .fdct _, _ => False
  | .adr a, v => v = .ref a
  | .opq P, v => ∃ G0, Ex G0 G ∧ P G0 v
  | .ptup ds, v => ∃ a o xs, v = .ref a ∧ G a = some (.frz o (.tup xs)) ∧ o.dict = none ∧ o.cls = .type "tuple" ∧ Reps G ds xs
def Reps (G : Hp) : List D → List V → Prop
  | [], vs => vs = []
  | d :: ds, vs => ∃ x r, vs = x :: r ∧ Rep G d x ∧ Reps G ds r
def RepF (G : Hp) : List (Str × D) → List (Str × V) → Prop
  | [], vs => vs = []
  | kd :: ds, vs => ∃ x r, vs = (kd.1, x) :: r ∧ Rep G kd.2 x ∧ RepF G ds r
end

mutual
theorem Rep.mono {G G' : Hp} (e : Ex G G') : ∀ {d : D} {v : V}, Rep G d v → Rep G' d v
  | .non, _, h => by simpa [Rep] using h
  | .bl _, _, h => by simpa [Rep] using h
  | .int _, _, h => by simpa [Rep] using h
  | .str _, _, h => by simpa [Rep] using h
  | .ty _, _, h => by simpa [Rep] using h
  | .adr _, _, h => by simpa [Rep] using h
  | .tup ds, _, h => by
    simp only [Rep] at h ⊢
    obtain ⟨a, xs, h1, h2, h3⟩ := h
    exact ⟨a, xs, h1, e _ _ h2, Reps.mono e h3⟩
  | .lst ds, _, h => by
    simp only [Rep] at h ⊢
    obtain ⟨a, xs, h1, h2, h3⟩ := h
    exact ⟨a, xs, h1, e _ _ h2, Reps.mono e h3⟩
  | .obj C fs, _, h => by
    simp only [Rep] at h ⊢
    obtain ⟨a, dx, xs, h1, h2, h3⟩ := h
    exact ⟨a, dx, xs, h1, e _ _ h2, RepF.mono e h3⟩
  | .dct _, _, h => by simp only [Rep] at h
  | .fdct _, _, h => by simp only [Rep] at h
  | .opq P, _, h => by
    simp only [Rep] at h ⊢
    obtain ⟨G0, h1, h2⟩ := h
    exact ⟨G0, h1.trans e, h2⟩
  | .ptup ds, _, h => by
    simp only [Rep] at h ⊢
    obtain ⟨a, o, xs, h1, h2, h3, h4, h5⟩ := h
    exact ⟨a, o, xs, h1, e _ _ h2, h3, h4, Reps.mono e h5⟩
theorem Reps.mono {G G' : Hp} (e : Ex G G') : ∀ {ds : List D} {vs : List V}, Reps G ds vs → Reps G' ds vs
  | [], _, h => by simpa [Reps] using h
  | d :: ds, _, h => by
    simp only [Reps] at h ⊢
    obtain ⟨x, r, h1, h2, h3⟩ := h
    exact ⟨x, r, h1, Rep.mono e h2, Reps.mono e h3⟩
theorem RepF.mono {G G' : Hp} (e : Ex G G') : ∀ {ds : List (Str × D)} {vs : List (Str × V)}, RepF G ds vs → RepF G' ds vs
  | [], _, h => by simpa [RepF] using h
  | d :: ds, _, h => by
    simp only [RepF] at h ⊢
    obtain ⟨x, r, h1, h2, h3⟩ := h
    exact ⟨x, r, h1, Rep.mono e h2, RepF.mono e h3⟩
end

section
variable {G : Hp}
theorem rep_non {v : V} : Rep G .non v ↔ v = .non := by simp only [Rep]
theorem rep_bl {b : Bool} {v : V} : Rep G (.bl b) v ↔ v = .bl b := by simp only [Rep]
theorem rep_int {i : Int} {v : V} : Rep G (.int i) v ↔ v = .int i := by simp only [Rep]
theorem rep_str {s : Str} {v : V} : Rep G (.str s) v ↔ v = .str s := by simp only [Rep]
theorem rep_ty {n : String} {v : V} : Rep G (.ty n) v ↔ v = .ty n := by simp only [Rep]
theorem rep_adr {a : Addr} {v : V} : Rep G (.adr a) v ↔ v = .ref a := by simp only [Rep]
theorem rep_opq {P : Hp → V → Prop} {v : V} : Rep G (.opq P) v ↔ ∃ G0, Ex G0 G ∧ P G0 v := by simp only [Rep]
theorem rep_ptup {ds : List D} {v : V} : Rep G (.ptup ds) v ↔ ∃ a o xs, v = .ref a ∧ G a = some (.frz o (.tup xs)) ∧ o.dict = none ∧ o.cls = .type "tuple" ∧ Reps G ds xs := by simp only [Rep]
theorem rep_tup {ds : List D} {v : V} : Rep G (.tup ds) v ↔ ∃ a xs, v = .ref a ∧ G a = some (.tup xs) ∧ Reps G ds xs := by simp only [Rep]
theorem rep_lst {ds : List D} {v : V} : Rep G (.lst ds) v ↔ ∃ a xs, v = .ref a ∧ G a = some (.lst xs) ∧ Reps G ds xs := by simp only [Rep]
theorem rep_obj {C : Addr} {fs : List (Str × D)} {v : V} : Rep G (.obj C fs) v ↔ ∃ a dx fvs, v = .ref a ∧ G a = some (.ins C dx fvs) ∧ RepF G fs fvs := by simp only [Rep]
theorem reps_nil {vs : List V} : Reps G [] vs ↔ vs = [] := by simp only [Reps]
theorem reps_cons {d : D} {ds : List D} {vs : List V} : Reps G (d :: ds) vs ↔ ∃ x r, vs = x :: r ∧ Rep G d x ∧ Reps G ds r := by simp only [Reps]
theorem repF_nil {vs : List (Str × V)} : RepF G [] vs ↔ vs = [] := by simp only [RepF]
theorem repF_cons {kd : Str × D} {ds : List (Str × D)} {vs : List (Str × V)} : RepF G (kd :: ds) vs ↔ ∃ x r, vs = (kd.1, x) :: r ∧ Rep G kd.2 x ∧ RepF G ds r := by simp only [RepF]

theorem Reps.length : ∀ {ds : List D} {vs : List V}, Reps G ds vs → vs.length = ds.length
  | [], _, h => by
    rw [reps_nil.mp h]
    rfl
  | d :: ds, _, h => by
    obtain ⟨x, r, rfl, _, h3⟩ := reps_cons.mp h
    simp [Reps.length h3]
theorem Reps.get : ∀ {ds : List D} {vs : List V}, Reps G ds vs → ∀ {i : Nat} {d : D}, ds[i]? = some d → ∃ v, vs[i]? = some v ∧ Rep G d v
  | [], _, h, i, d, e => by simp at e
  | d' :: ds, _, h, 0, d, e => by
    obtain ⟨x, r, rfl, h2, h3⟩ := reps_cons.mp h
    simp at e
    subst e
    exact ⟨x, rfl, h2⟩
  | d' :: ds, _, h, i + 1, d, e => by
    obtain ⟨x, r, rfl, h2, h3⟩ := reps_cons.mp h
    simp at e
    obtain ⟨v, e1, e2⟩ := Reps.get h3 e
    exact ⟨v, by simpa using e1, e2⟩
theorem Reps.get' {ds : List D} {vs : List V} (h : Reps G ds vs) {i : Nat} {v : V} (e : vs[i]? = some v) : ∃ d, ds[i]? = some d ∧ Rep G d v := by
  have hi : i < vs.length := (List.getElem?_eq_some_iff.mp e).1
  rw [h.length] at hi
  obtain ⟨v', e1, e2⟩ := h.get (List.getElem?_eq_getElem hi)
  rw [e1] at e
  cases e
  exact ⟨_, List.getElem?_eq_getElem hi, e2⟩
theorem Reps.append : ∀ {ds es : List D} {vs us : List V}, Reps G ds vs → Reps G es us → Reps G (ds ++ es) (vs ++ us)
  | [], _, _, _, h, h' => by
    rw [reps_nil.mp h]
    exact h'
  | d :: ds, es, _, us, h, h' => by
    obtain ⟨x, r, rfl, h2, h3⟩ := reps_cons.mp h
    exact reps_cons.mpr ⟨x, r ++ us, rfl, h2, Reps.append h3 h'⟩
theorem reps_one {d : D} {v : V} (h : Rep G d v) : Reps G [d] [v] := reps_cons.mpr ⟨v, [], rfl, h, reps_nil.mpr rfl⟩
theorem reps_two {d d' : D} {v v' : V} (h : Rep G d v) (h' : Rep G d' v') : Reps G [d, d'] [v, v'] := reps_cons.mpr ⟨v, [v'], rfl, h, reps_one h'⟩
theorem Reps.drop : ∀ {ds : List D} {vs : List V} (n : Nat), Reps G ds vs → Reps G (ds.drop n) (vs.drop n)
  | _, _, 0, h => h
  | [], _, n + 1, h => by
    rw [reps_nil.mp h]
    exact reps_nil.mpr rfl
  | d :: ds, _, n + 1, h => by
    obtain ⟨x, r, rfl, h2, h3⟩ := reps_cons.mp h
    exact Reps.drop n h3
theorem Reps.take : ∀ {ds : List D} {vs : List V} (n : Nat), Reps G ds vs → Reps G (ds.take n) (vs.take n)
  | _, _, 0, h => reps_nil.mpr rfl
  | [], _, n + 1, h => by
    rw [reps_nil.mp h]
    exact reps_nil.mpr rfl
  | d :: ds, _, n + 1, h => by
    obtain ⟨x, r, rfl, h2, h3⟩ := reps_cons.mp h
    exact reps_cons.mpr ⟨x, r.take n, rfl, h2, Reps.take n h3⟩
theorem Reps.set : ∀ {ds : List D} {vs : List V} (i : Nat) {d : D} {v : V}, Reps G ds vs → Rep G d v → Reps G (ds.set i d) (vs.set i v)
  | [], _, i, d, v, h, h' => by
    rw [reps_nil.mp h]
    exact reps_nil.mpr rfl
  | d' :: ds, _, 0, d, v, h, h' => by
    obtain ⟨x, r, rfl, h2, h3⟩ := reps_cons.mp h
    exact reps_cons.mpr ⟨v, r, rfl, h', h3⟩
  | d' :: ds, _, i + 1, d, v, h, h' => by
    obtain ⟨x, r, rfl, h2, h3⟩ := reps_cons.mp h
    exact reps_cons.mpr ⟨x, r.set i v, rfl, h2, Reps.set i h3 h'⟩
theorem Reps.eraseIdx : ∀ {ds : List D} {vs : List V} (i : Nat), Reps G ds vs → Reps G (ds.eraseIdx i) (vs.eraseIdx i)
  | [], _, i, h => by
    rw [reps_nil.mp h]
    exact reps_nil.mpr rfl
  | d' :: ds, _, 0, h => by
    obtain ⟨x, r, rfl, h2, h3⟩ := reps_cons.mp h
    exact h3
  | d' :: ds, _, i + 1, h => by
    obtain ⟨x, r, rfl, h2, h3⟩ := reps_cons.mp h
    exact reps_cons.mpr ⟨x, r.eraseIdx i, rfl, h2, Reps.eraseIdx i h3⟩
theorem Reps.dropLast {ds : List D} {vs : List V} (h : Reps G ds vs) : Reps G ds.dropLast vs.dropLast := by
  rw [List.dropLast_eq_take, List.dropLast_eq_take, h.length]
  exact h.take _
theorem Reps.reverse : ∀ {ds : List D} {vs : List V}, Reps G ds vs → Reps G ds.reverse vs.reverse
  | [], _, h => by
    rw [reps_nil.mp h]
    exact reps_nil.mpr rfl
  | d :: ds, _, h => by
    obtain ⟨x, r, rfl, h2, h3⟩ := reps_cons.mp h
    rw [List.reverse_cons, List.reverse_cons]
    exact (Reps.reverse h3).append (reps_one h2)
/-- lists of one kind of plain values -/
theorem Reps.ofMap {α : Type} {f : α → D} {g : α → V} (h : ∀ a, Rep G (f a) (g a)) : ∀ l : List α, Reps G (l.map f) (l.map g)
  | [] => reps_nil.mpr rfl
  | a :: l => reps_cons.mpr ⟨g a, l.map g, rfl, h a, Reps.ofMap h l⟩
theorem Reps.map_eq {α : Type} {f : α → D} {g : α → V} (h : ∀ a v, Rep G (f a) v → v = g a) : ∀ {l : List α} {vs : List V}, Reps G (l.map f) vs → vs = l.map g
  | [], _, hh => reps_nil.mp hh
  | a :: l, _, hh => by
    obtain ⟨x, r, rfl, h2, h3⟩ := reps_cons.mp hh
    rw [h a x h2, Reps.map_eq h h3]
    rfl
theorem reps_str {l : List Str} {vs : List V} (h : Reps G (l.map D.str) vs) : vs = l.map V.str := Reps.map_eq (fun _ _ h => rep_str.mp h) h
theorem reps_int {l : List Int} {vs : List V} (h : Reps G (l.map D.int) vs) : vs = l.map V.int := Reps.map_eq (fun _ _ h => rep_int.mp h) h
theorem reps_bl {l : List Bool} {vs : List V} (h : Reps G (l.map D.bl) vs) : vs = l.map V.bl := Reps.map_eq (fun _ _ h => rep_bl.mp h) h
end

/-! ### dicts of texts -/
def RepK (G : Hp) : List (Str × D) → List (Key × V) → Prop
  | [], vs => vs = []
  | kd :: ds, vs => ∃ x r, vs = (Sum.inr kd.1, x) :: r ∧ Rep G kd.2 x ∧ RepK G ds r
theorem RepK.mono {G G' : Hp} (e : Ex G G') : ∀ {ds : List (Str × D)} {vs : List (Key × V)}, RepK G ds vs → RepK G' ds vs
  | [], _, h => h
  | d :: ds, _, ⟨x, r, h1, h2, h3⟩ => ⟨x, r, h1, h2.mono e, RepK.mono e h3⟩
def valD (l : List (Str × D)) (k : Str) : Option D := (l.find? fun kv => decide (kv.1 = k)).map (·.2)
def putD (l : List (Str × D)) (k : Str) (d : D) : List (Str × D) := if (l.any fun kv => decide (kv.1 = k)) = true then l.map (fun kv => if kv.1 = k then (kv.1, d) else kv) else l ++ [(k, d)]
def dropD (l : List (Str × D)) (k : Str) : List (Str × D) := l.filter fun kv => !decide (kv.1 = k)
theorem key_rr' (a b : Str) : decide ((Sum.inr a : Key) = Sum.inr b) = decide (a = b) := key_rr a b
theorem RepK.val {G : Hp} : ∀ {ds : List (Str × D)} {vs : List (Key × V)}, RepK G ds vs → ∀ k : Str, (∀ d, valD ds k = some d → ∃ v, valV vs (Sum.inr k) = some v ∧ Rep G d v) ∧ (valD ds k = none → valV vs (Sum.inr k) = none)
  | [], _, h, k => by
    cases h
    exact And.intro (fun d e => by cases e) (fun _ => rfl)
  | kd :: ds, _, ⟨x, r, h1, h2, h3⟩, k => by
    subst h1
    obtain ⟨i1, i2⟩ := RepK.val h3 k
    unfold valD valV at *
    simp only [List.find?_cons]
    rw [show decide ((Sum.inr kd.1 : Key) = Sum.inr k) = decide (kd.1 = k) from key_rr _ _]
    by_cases e : kd.1 = k
    · simp only [e, decide_true, Option.map_some, Option.some.injEq]
      exact ⟨fun d q => ⟨x, rfl, q ▸ h2⟩, fun q => nomatch q⟩
    · simp only [e, decide_false]
      exact ⟨i1, i2⟩
theorem RepK.any {G : Hp} : ∀ {ds : List (Str × D)} {vs : List (Key × V)}, RepK G ds vs → ∀ k : Str, (vs.any fun kv => decide (kv.1 = (Sum.inr k : Key))) = ds.any fun kv => decide (kv.1 = k)
  | [], _, h, k => by
    cases h
    rfl
  | kd :: ds, _, ⟨x, r, h1, h2, h3⟩, k => by
    subst h1
    simp only [List.any_cons]
    rw [RepK.any h3 k, show decide ((Sum.inr kd.1 : Key) = Sum.inr k) = decide (kd.1 = k) from key_rr _ _]
theorem RepK.append {G : Hp} : ∀ {ds es : List (Str × D)} {vs us : List (Key × V)}, RepK G ds vs → RepK G es us → RepK G (ds ++ es) (vs ++ us)
  | [], _, _, _, h, h' => by
    cases h
    exact h'
  | d :: ds, es, _, us, ⟨x, r, h1, h2, h3⟩, h' => by
    subst h1
    exact ⟨x, r ++ us, rfl, h2, RepK.append h3 h'⟩
theorem RepK.over {G : Hp} {k : Str} {d : D} {v : V} (hv : Rep G d v) : ∀ {ds : List (Str × D)} {vs : List (Key × V)}, RepK G ds vs → RepK G (ds.map fun kv => if kv.1 = k then (kv.1, d) else kv) (vs.map fun kv => if kv.1 = (Sum.inr k : Key) then (kv.1, v) else kv)
  | [], _, h => by
    cases h
    exact rfl
  | kd :: ds, _, ⟨x, r, h1, h2, h3⟩ => by
    subst h1
    simp only [List.map_cons]
    by_cases e : kd.1 = k
    · rw [if_pos e, if_pos (by rw [e])]
      exact ⟨v, _, rfl, hv, RepK.over hv h3⟩
    · rw [if_neg e, if_neg (fun q => e (Sum.inr.inj q))]
      exact ⟨x, _, rfl, h2, RepK.over hv h3⟩
theorem RepK.put {G : Hp} {ds : List (Str × D)} {vs : List (Key × V)} (h : RepK G ds vs) {k : Str} {d : D} {v : V} (hv : Rep G d v) : RepK G (putD ds k d) (putK vs (Sum.inr k) v) := by
  unfold putD putK
  rw [h.any k]
  split
  · exact RepK.over hv h
  · exact h.append ⟨v, [], rfl, hv, rfl⟩
theorem RepK.dropK {G : Hp} : ∀ {ds : List (Str × D)} {vs : List (Key × V)}, RepK G ds vs → ∀ k : Str, RepK G (dropD ds k) (L2.dropK vs (Sum.inr k))
  | [], _, h, k => by
    cases h
    exact rfl
  | kd :: ds, _, ⟨x, r, h1, h2, h3⟩, k => by
    subst h1
    have ih := RepK.dropK h3 k
    unfold dropD L2.dropK at *
    rw [List.filter_cons, List.filter_cons]
    by_cases e : kd.1 = k
    · rw [if_neg (by simp [e]), if_neg (by simp [e])]
      exact ih
    · have e' : ¬ (Sum.inr kd.1 : Key) = Sum.inr k := fun q => e (Sum.inr.inj q)
      rw [if_pos (by simp [e]), if_pos (by simpa using e')]
      exact ⟨x, _, rfl, h2, ih⟩
theorem RepK.length {G : Hp} : ∀ {ds : List (Str × D)} {vs : List (Key × V)}, RepK G ds vs → vs.length = ds.length
  | [], _, h => by
    cases h
    rfl
  | kd :: ds, _, ⟨x, r, h1, h2, h3⟩ => by
    subst h1
    simp [RepK.length h3]
theorem RepK.keys {G : Hp} : ∀ {ds : List (Str × D)} {vs : List (Key × V)}, RepK G ds vs → vs.map (·.1) = (ds.map (·.1)).map (Sum.inr : Str → Key)
  | [], _, h => by
    cases h
    rfl
  | kd :: ds, _, ⟨x, r, h1, h2, h3⟩ => by
    subst h1
    simp [RepK.keys h3]
end Hr
set_option Elab.async false
set_option linter.all false
set_option maxRecDepth 100000
set_option maxHeartbeats 4000000
/-! HeirB: owned objects, steps, the judgements on syntax by data. -/
namespace Hr
open PySem L2

abbrev Mm := Addr → Option D
def M0 : Mm := fun _ => none
def updM (M : Mm) (p : Addr) (d : D) : Mm := fun a => if a = p then some d else M a
def delM (M : Mm) (p : Addr) : Mm := fun a => if a = p then none else M a
theorem updM_same {M : Mm} {p : Addr} {d : D} : updM M p d p = some d := by
  unfold updM
  rw [if_pos rfl]
theorem updM_ne {M : Mm} {p q : Addr} {d : D} (h : q ≠ p) : updM M p d q = M q := by
  unfold updM
  rw [if_neg h]
theorem delM_ne {M : Mm} {p q : Addr} (h : q ≠ p) : delM M p q = M q := by
  unfold delM
  rw [if_neg h]
theorem delM_same {M : Mm} {p : Addr} : delM M p p = none := by
  unfold delM
  rw [if_pos rfl]
theorem updM_upd {M : Mm} {p : Addr} {d e : D} : updM (updM M p d) p e = updM M p e := by
  funext a
  unfold updM
  split <;> rfl
theorem delM_upd {M : Mm} {p : Addr} {d : D} (h : M p = none) : delM (updM M p d) p = M := by
  funext a
  unfold delM updM
  split
  · rename_i e
    rw [e, h]
  · rfl
theorem updM_comm {M : Mm} {p q : Addr} {d e : D} (h : p ≠ q) : updM (updM M p d) q e = updM (updM M q e) p d := by
  funext a
  unfold updM
  by_cases h1 : a = p
  · by_cases h2 : a = q
    · exact absurd (h1.symm.trans h2) h
    · rw [if_neg h2, if_pos h1, if_pos h1]
  · by_cases h2 : a = q
    · rw [if_pos h2, if_neg h1, if_pos h2]
    · rw [if_neg h2, if_neg h1, if_neg h1, if_neg h2]
theorem updM_id {M : Mm} {p : Addr} {d : D} (h : M p = some d) : updM M p d = M := by
  funext a
  unfold updM
  split
  · rename_i e
    rw [e, h]
  · rfl
theorem ne_ofM {M : Mm} {p q : Addr} {d : D} (h : M p = none) (h' : M q = some d) : q ≠ p := fun e => by
  rw [e, h] at h'
  cases h'
/-- fewer facts (what is locked stays told) -/
structure Le (M' M : Mm) : Prop where
  le : ∀ p d, M' p = some d → M p = some d
  fz : ∀ p l, M p = some (.fdct l) → M' p = some (.fdct l)
theorem Le.refl (M : Mm) : Le M M := ⟨fun _ _ h => h, fun _ _ h => h⟩
theorem Le.trans {M M' M'' : Mm} (a : Le M M') (b : Le M' M'') : Le M M'' := ⟨fun p d h => b.le p d (a.le p d h), fun p d h => a.fz p d (b.fz p d h)⟩
theorem le_upd {M : Mm} {p : Addr} {d : D} (h : M p = none) (hd : ∀ l, d ≠ .fdct l := by intro _ z; cases z) : Le M (updM M p d) := ⟨fun q e hq => by
  rw [updM_ne (fun z => by rw [z, h] at hq; cases hq)]
  exact hq, fun q l hq => by
  by_cases z : q = p
  · subst z
    rw [updM_same] at hq
    exact absurd (Option.some.inj hq) (hd l)
  · rw [updM_ne z] at hq
    exact hq⟩
theorem le_del {M : Mm} {p : Addr} (hd : ∀ l, M p ≠ some (.fdct l)) : Le (delM M p) M := ⟨fun q e hq => by
  by_cases z : q = p
  · rw [z, delM_same] at hq
    cases hq
  · rw [delM_ne z] at hq
    exact hq, fun q l hq => by
  rw [delM_ne (fun z => hd l (by rw [← z]; exact hq))]
  exact hq⟩

def Holds (G H : Hp) (p : Addr) : D → Prop
  | .lst ds => ∃ xs, H p = some (.lst xs) ∧ Reps G ds xs
  | .dct l => ∃ kvs, H p = some (.dK kvs) ∧ RepK G l kvs
  | .fdct l => ∃ od kvs, H p = some (.frz od (.dK kvs)) ∧ RepK G l kvs
  | .obj C fs => ∃ dx fvs, H p = some (.ins C dx fvs) ∧ RepF G fs fvs
  | _ => False
theorem Holds.there {G H : Hp} {p : Addr} {d : D} (h : Holds G H p d) : ∃ o, H p = some o := by
  cases d with
  | lst ds => exact ⟨_, h.choose_spec.1⟩
  | dct l => exact ⟨_, h.choose_spec.1⟩
  | fdct l =>
    obtain ⟨od, kvs, e, _⟩ := h
    exact ⟨_, e⟩
  | obj C fs =>
    obtain ⟨dx, fvs, e, _⟩ := h
    exact ⟨_, e⟩
  | _ => exact h.elim
theorem Holds.mono {G G' H H' : Hp} {p : Addr} {d : D} (h : Holds G H p d) (e : Ex G G') (k : ∀ o, H p = some o → H' p = some o) : Holds G' H' p d := by
  cases d with
  | lst ds =>
    obtain ⟨xs, h1, h2⟩ := h
    exact ⟨xs, k _ h1, h2.mono e⟩
  | dct l =>
    obtain ⟨xs, h1, h2⟩ := h
    exact ⟨xs, k _ h1, h2.mono e⟩
  | fdct l =>
    obtain ⟨od, xs, h1, h2⟩ := h
    exact ⟨od, xs, k _ h1, h2.mono e⟩
  | obj C fs =>
    obtain ⟨od, xs, h1, h2⟩ := h
    exact ⟨od, xs, k _ h1, h2.mono e⟩
  | _ => exact h.elim

structure Now (G H : Hp) (M : Mm) : Prop where
  sub : Ex G H
  own : ∀ p d, M p = some d → G p = none ∧ Holds G H p d
theorem Now.le {G H : Hp} {M M' : Mm} (n : Now G H M) (h : Le M' M) : Now G H M' := ⟨n.sub, fun p d e => n.own p d (h.le p d e)⟩
theorem Now.fresh {G H : Hp} {M : Mm} (n : Now G H M) {p : Addr} (h : H p = none) : M p = none := by
  cases e : M p with
  | none => rfl
  | some d =>
    obtain ⟨o, z⟩ := (n.own p d e).2.there
    rw [z] at h
    cases h

structure Step (G H : Hp) (M : Mm) (G' H' : Hp) (M' : Mm) : Prop where
  now : Now G' H' M'
  g : Ex G G'
  old : ∀ a o, M a = none → H a = some o → H' a = some o
  stay : ∀ a, H a ≠ none → H' a ≠ none
  new : ∀ a, G a = none → G' a ≠ none → H a = none ∨ M a ≠ none
  ownN : ∀ p, M' p ≠ none → M p ≠ none ∨ H p = none
  fz : ∀ p l, M p = some (.fdct l) → M' p = some (.fdct l) ∧ ∀ o, H p = some o → H' p = some o
theorem Step.refl {G H : Hp} {M : Mm} (n : Now G H M) : Step G H M G H M := ⟨n, Ex.refl G, fun _ _ _ h => h, fun _ h => h, fun _ h h' => absurd h h', fun _ h => .inl h, fun _ _ h => ⟨h, fun _ h => h⟩⟩
theorem Step.trans {G H G1 H1 G2 H2 : Hp} {M M1 M2 : Mm} (a : Step G H M G1 H1 M1) (b : Step G1 H1 M1 G2 H2 M2) : Step G H M G2 H2 M2 where
  now := b.now
  g := a.g.trans b.g
  old := fun x o hM hH => b.old x o (by
    cases e : M1 x with
    | none => rfl
    | some d =>
      rcases a.ownN x (by rw [e]; exact fun z => nomatch z) with z | z
      · exact absurd hM z
      · rw [z] at hH; cases hH) (a.old x o hM hH)
  stay := fun x h => b.stay x (a.stay x h)
  new := fun x h h' => by
    by_cases h1 : G1 x = none
    · rcases b.new x h1 h' with z | z
      · refine .inl ?_
        by_cases q : H x = none
        · exact q
        · exact absurd z (a.stay x q)
      · exact (a.ownN x z).symm
    · exact a.new x h h1
  ownN := fun p h => by
    rcases b.ownN p h with z | z
    · exact a.ownN p z
    · refine .inr ?_
      by_cases q : H p = none
      · exact q
      · exact absurd z (a.stay p q)
  fz := fun p l h => ⟨(b.fz p l (a.fz p l h).1).1, fun o ho => (b.fz p l (a.fz p l h).1).2 o ((a.fz p l h).2 o ho)⟩
theorem Step.le {G H G' H' : Hp} {M M' M'' : Mm} (s : Step G H M G' H' M') (h : Le M'' M') : Step G H M G' H' M'' :=
  ⟨s.now.le h, s.g, s.old, s.stay, s.new, fun p q => s.ownN p fun z => q (by
    cases e : M'' p with
    | none => rfl
    | some d =>
      rw [h.le p d e] at z
      cases z), fun p l q => ⟨h.fz p l (s.fz p l q).1, (s.fz p l q).2⟩⟩
/-- a larger base knows more: what M does not own is kept -/
theorem Step.base {G H G' H' : Hp} {M Mb M' : Mm} (s : Step G H M G' H' M') (h : ∀ p, M p ≠ none → Mb p ≠ none) (hf : ∀ p l, Mb p = some (.fdct l) → M p = some (.fdct l)) : Step G H Mb G' H' M' :=
  ⟨s.now, s.g, fun a o hM hH => s.old a o (by
    cases e : M a with
    | none => rfl
    | some d => exact absurd hM (h a (by rw [e]; exact fun z => nomatch z))) hH, s.stay, fun a x y => (s.new a x y).imp_right (h a), fun p x => (s.ownN p x).imp_left (h p), fun p l q => s.fz p l (hf p l q)⟩
/-- a new immutable object -/
theorem Step.alloc {G H : Hp} {M : Mm} (n : Now G H M) {p : Addr} {o : HO} (h : H p = none) : Step G H M (upd G p o) (upd H p o) M := by
  have hg : G p = none := n.sub.none h
  have hm : M p = none := n.fresh h
  refine ⟨⟨fun a u e => ?_, fun q d e => ?_⟩, Ex.new hg, fun a u _ e => Ex.new h a u e, fun a e => ?_, fun a e1 e2 => ?_, fun q e => .inl e, fun q l e => ⟨e, fun u e => Ex.new h q u e⟩⟩
  · by_cases z : a = p
    · subst z
      rw [upd_same] at e ⊢
      exact e
    · rw [upd_ne z] at e ⊢
      exact n.sub a u e
  · obtain ⟨h1, h2⟩ := n.own q d e
    have hne : q ≠ p := ne_ofM hm e
    exact ⟨by rw [upd_ne hne]; exact h1, h2.mono (Ex.new hg) fun o e => by rw [upd_ne hne]; exact e⟩
  · by_cases z : a = p
    · subst z
      rw [upd_same]
      exact fun z => nomatch z
    · rw [upd_ne z]
      exact e
  · by_cases z : a = p
    · subst z
      exact .inl h
    · rw [upd_ne z] at e2
      exact absurd e1 e2
/-- a new owned object -/
theorem Step.allocO {G H : Hp} {M : Mm} (n : Now G H M) {p : Addr} {o : HO} {d : D} (h : H p = none) (hd : Holds G (upd H p o) p d) : Step G H M G (upd H p o) (updM M p d) := by
  have hg : G p = none := n.sub.none h
  have hm : M p = none := n.fresh h
  refine ⟨⟨Ex.mut n.sub hg, fun q e hq => ?_⟩, Ex.refl G, fun a u _ e => Ex.new h a u e, fun a e => ?_, fun a e1 e2 => absurd e1 e2, fun q e => ?_, fun q l e => ⟨by rw [updM_ne (ne_ofM hm e)]; exact e, fun u e => Ex.new h q u e⟩⟩
  · by_cases z : q = p
    · subst z
      rw [updM_same] at hq
      cases hq
      exact ⟨hg, hd⟩
    · rw [updM_ne z] at hq
      obtain ⟨h1, h2⟩ := n.own q e hq
      exact ⟨h1, h2.mono (Ex.refl G) fun o e => by rw [upd_ne z]; exact e⟩
  · by_cases z : a = p
    · subst z
      rw [upd_same]
      exact fun z => nomatch z
    · rw [upd_ne z]
      exact e
  · by_cases z : q = p
    · subst z
      exact .inr h
    · rw [updM_ne z] at e
      exact .inl e
/-- an owned object is changed -/
theorem Step.write {G H : Hp} {M : Mm} (n : Now G H M) {p : Addr} {o : HO} {d0 d : D} (h : M p = some d0) (hd : Holds G (upd H p o) p d) (hf : ∀ l, d0 ≠ .fdct l := by intro _ z; cases z) : Step G H M G (upd H p o) (updM M p d) := by
  have hg : G p = none := (n.own p d0 h).1
  have nfz : ∀ q l, M q = some (.fdct l) → q ≠ p := fun q l hq z => by
    rw [z, h] at hq
    exact hf l (Option.some.inj hq)
  refine ⟨⟨Ex.mut n.sub hg, fun q e hq => ?_⟩, Ex.refl G, fun a u hM e => ?_, fun a e => ?_, fun a e1 e2 => absurd e1 e2, fun q e => ?_, fun q l e => ⟨by rw [updM_ne (nfz q l e)]; exact e, fun u eu => by rw [upd_ne (nfz q l e)]; exact eu⟩⟩
  · by_cases z : q = p
    · subst z
      rw [updM_same] at hq
      cases hq
      exact ⟨hg, hd⟩
    · rw [updM_ne z] at hq
      obtain ⟨h1, h2⟩ := n.own q e hq
      exact ⟨h1, h2.mono (Ex.refl G) fun o e => by rw [upd_ne z]; exact e⟩
  · rw [upd_ne (fun z => by rw [z, h] at hM; cases hM)]
    exact e
  · by_cases z : a = p
    · subst z
      rw [upd_same]
      exact fun z => nomatch z
    · rw [upd_ne z]
      exact e
  · by_cases z : q = p
    · subst z
      exact .inl (by rw [h]; exact fun z => nomatch z)
    · rw [updM_ne z] at e
      exact .inl e
/-- what may be frozen -/
def HoldsO (G H : Hp) (p : Addr) : D → Prop
  | .lst ds => ∃ xs, H p = some (.lst xs) ∧ Reps G ds xs
  | .obj C fs => ∃ dx fvs, H p = some (.ins C dx fvs) ∧ RepF G fs fvs
  | _ => False
/-- an owned list or object is given away: from now on it stays as it is -/
theorem Step.freeze {G H : Hp} {M : Mm} (n : Now G H M) {p : Addr} {d : D} (h : M p = some d) (hk : (∃ ds, d = .lst ds) ∨ ∃ C fs, d = .obj C fs) : ∃ G', Step G H M G' H (delM M p) ∧ Rep G' d (.ref p) := by
  obtain ⟨hg, hd⟩ := n.own p d h
  have nfz : ∀ q l, M q = some (.fdct l) → q ≠ p := fun q l hq z => by
    rw [z, h] at hq
    rcases hk with ⟨ds, rfl⟩ | ⟨C, fs, rfl⟩ <;> cases hq
  have core : ∀ o, H p = some o → Step G H M (upd G p o) H (delM M p) := fun o ho => by
    refine ⟨⟨fun a u e => ?_, fun q e hq => ?_⟩, Ex.new hg, fun _ _ _ e => e, fun _ e => e, fun a e1 e2 => ?_, fun q e => ?_, fun q l e => ⟨by rw [delM_ne (nfz q l e)]; exact e, fun _ e => e⟩⟩
    · by_cases z : a = p
      · subst z
        rw [upd_same] at e
        cases e
        exact ho
      · rw [upd_ne z] at e
        exact n.sub a u e
    · have z : q ≠ p := fun z => by
        rw [z, delM_same] at hq
        cases hq
      rw [delM_ne z] at hq
      obtain ⟨h1, h2⟩ := n.own q e hq
      exact ⟨by rw [upd_ne z]; exact h1, h2.mono (Ex.new hg) fun _ e => e⟩
    · by_cases z : a = p
      · subst z
        exact .inr (by rw [h]; exact fun z => nomatch z)
      · rw [upd_ne z] at e2
        exact absurd e1 e2
    · by_cases z : q = p
      · subst z
        exact absurd delM_same e
      · rw [delM_ne z] at e
        exact .inl e
  rcases hk with ⟨ds, rfl⟩ | ⟨C, fs, rfl⟩
  · obtain ⟨xs, h1, h2⟩ := hd
    exact ⟨_, core _ h1, rep_lst.mpr ⟨p, xs, rfl, upd_same, h2.mono (Ex.new hg)⟩⟩
  · obtain ⟨dx, xs, h1, h2⟩ := hd
    exact ⟨_, core _ h1, rep_obj.mpr ⟨p, dx, xs, rfl, upd_same, h2.mono (Ex.new hg)⟩⟩

/-! ### slots -/
abbrev Rh := List (Option D)
def RepS (G : Hp) : Rh → St → Prop
  | [], σ => σ = []
  | o :: ρ, σ => ∃ x r, σ = x :: r ∧ (∀ d, o = some d → ∃ v, x = some v ∧ Rep G d v) ∧ RepS G ρ r
theorem RepS.mono {G G' : Hp} (e : Ex G G') : ∀ {ρ : Rh} {σ : St}, RepS G ρ σ → RepS G' ρ σ
  | [], _, h => h
  | o :: ρ, _, ⟨x, r, h1, h2, h3⟩ => ⟨x, r, h1, fun d q => let ⟨v, a, b⟩ := h2 d q; ⟨v, a, b.mono e⟩, RepS.mono e h3⟩
theorem RepS.get {G : Hp} : ∀ {ρ : Rh} {σ : St} {i : Nat} {d : D}, RepS G ρ σ → ρ[i]? = some (some d) → ∃ v, σ[i]? = some (some v) ∧ Rep G d v
  | [], _, i, d, _, e => by simp at e
  | o :: ρ, _, 0, d, ⟨x, r, h1, h2, h3⟩, e => by
    simp at e
    obtain ⟨v, a, b⟩ := h2 d e
    subst h1
    exact ⟨v, by simp [a], b⟩
  | o :: ρ, _, i + 1, d, ⟨x, r, h1, h2, h3⟩, e => by
    simp at e
    subst h1
    obtain ⟨v, a, b⟩ := RepS.get h3 e
    exact ⟨v, by simpa using a, b⟩
theorem RepS.set {G : Hp} : ∀ {ρ : Rh} {σ : St} (i : Nat) {d : D} {v : V}, RepS G ρ σ → Rep G d v → RepS G (ρ.set i (some d)) (σ.set i (some v))
  | [], _, i, d, v, h, _ => by
    cases h
    exact rfl
  | o :: ρ, _, 0, d, v, ⟨x, r, h1, h2, h3⟩, h => by
    subst h1
    exact ⟨some v, r, rfl, fun d' e => by cases e; exact ⟨v, rfl, h⟩, h3⟩
  | o :: ρ, _, i + 1, d, v, ⟨x, r, h1, h2, h3⟩, h => by
    subst h1
    exact ⟨x, r.set i (some v), rfl, h2, RepS.set i h3 h⟩
theorem RepS.setNone {G : Hp} : ∀ {ρ : Rh} {σ : St} (i : Nat), RepS G ρ σ → RepS G (ρ.set i none) (σ.set i none)
  | [], _, i, h => by
    cases h
    exact rfl
  | o :: ρ, _, 0, ⟨x, r, h1, h2, h3⟩ => by
    subst h1
    exact ⟨none, r, rfl, (fun d' e => nomatch e), h3⟩
  | o :: ρ, _, i + 1, ⟨x, r, h1, h2, h3⟩ => by
    subst h1
    exact ⟨x, r.set i none, rfl, h2, RepS.setNone i h3⟩
def wipeR (ρ : Rh) : List Nat → Rh
  | [] => ρ
  | v :: vs => (wipeR ρ vs).set v none
theorem RepS.wipe {G : Hp} {ρ : Rh} {σ : St} (h : RepS G ρ σ) : ∀ vs : List Nat, RepS G (wipeR ρ vs) (L2.wipe σ vs)
  | [] => h
  | v :: vs => (h.wipe vs).setNone v
theorem RepS.nones {G : Hp} : ∀ n : Nat, RepS G (List.replicate n none) (List.replicate n none)
  | 0 => rfl
  | n + 1 => ⟨none, _, rfl, (fun d e => nomatch e), RepS.nones n⟩
theorem RepS.start {G : Hp} : ∀ {ds : List D} {vs : List V} (n : Nat), Reps G ds vs → RepS G (ds.map some ++ List.replicate n none) (vs.map some ++ List.replicate n none)
  | [], _, n, h => by
    rw [reps_nil.mp h]
    exact RepS.nones n
  | d :: ds, _, n, h => by
    obtain ⟨x, r, rfl, h2, h3⟩ := reps_cons.mp h
    exact ⟨some x, _, rfl, fun d' e => by cases e; exact ⟨x, rfl, h2⟩, RepS.start n h3⟩
/-- a slot's data seen anew -/
theorem RepS.see {G : Hp} : ∀ {ρ : Rh} {σ : St} (i : Nat) {d d' : D}, RepS G ρ σ → ρ[i]? = some (some d) → (∀ v, Rep G d v → Rep G d' v) → RepS G (ρ.set i (some d')) σ
  | [], _, i, d, d', h, e, _ => by simp at e
  | o :: ρ, _, 0, d, d', ⟨x, r, h1, h2, h3⟩, e, k => by
    simp at e
    obtain ⟨v, a, b⟩ := h2 d e
    exact ⟨x, r, h1, fun d'' e => by cases e; exact ⟨v, a, k v b⟩, h3⟩
  | o :: ρ, _, i + 1, d, d', ⟨x, r, h1, h2, h3⟩, e, k => by
    simp at e
    exact ⟨x, r, h1, h2, RepS.see i h3 e k⟩
/-- fewer facts of slots -/
theorem RepS.weak {G : Hp} : ∀ {ρ ρ' : Rh} {σ : St}, RepS G ρ σ → ρ'.length = ρ.length → (∀ (i : Nat) d, ρ'[i]? = some (some d) → ρ[i]? = some (some d)) → RepS G ρ' σ
  | [], [], _, h, _, _ => h
  | [], _ :: _, _, _, hl, _ => by simp at hl
  | _ :: _, [], _, _, hl, _ => by simp at hl
  | o :: ρ, o' :: ρ', _, ⟨x, r, h1, h2, h3⟩, hl, k => ⟨x, r, h1, fun d e => h2 d (by
      have z := k 0 d (by simp [e])
      simpa using z), RepS.weak h3 (by simpa using hl) fun i d e => by
      have z := k (i + 1) d (by simpa using e)
      simpa using z⟩
end Hr
set_option Elab.async false
set_option linter.all false
set_option maxRecDepth 100000
set_option maxHeartbeats 4000000
/-! HeirC: the judgements on syntax by data; names, constants, operators, tests, calls, statements. -/
namespace Hr
open PySem L2

/-! ### the readings that a piece of syntax has by itself -/
section
variable {X : Cx}
def wE (X : Cx) (e : Expr) : TE := fun σ H Q => ∀ (pins : List (Addr × Obj)) (s : Shared), Inv X pins σ H s → wpAny (model X.prog X.w) X.A (eval e X.env) (EP X pins σ Q) X.xe s
theorem pe_w {e : Expr} : PE X e (wE X e) := ⟨fun pins s _ _ _ I h => h pins s I⟩
theorem wE_of {e : Expr} {t : TE} (h : PE X e t) {σ : L2.St} {H : Hp} {Q : VK} (q : t σ H Q) : wE X e σ H Q := fun pins s I => h.run pins s σ H Q I q
def wT (X : Cx) (e : Expr) : TT := fun σ H Q => ∀ (pins : List (Addr × Obj)) (s : Shared), Inv X pins σ H s → wpAny (model X.prog X.w) X.A (isTrue e X.env (eval e X.env)) (TP X pins σ Q) X.xe s
theorem pt_w {e : Expr} : PT X e (wT X e) := ⟨fun pins s _ _ _ I h => h pins s I⟩
theorem wT_of {e : Expr} {t : TT} (h : PT X e t) {σ : L2.St} {H : Hp} {Q : Bool → Hp → Prop} (q : t σ H Q) : wT X e σ H Q := fun pins s I => h.run pins s σ H Q I q
def wW (X : Cx) (e : Expr) : TT := fun σ H Q => ∀ (whole : Sem Value) (pins : List (Addr × Obj)) (s : Shared), Inv X pins σ H s → wpAny (model X.prog X.w) X.A (isTrue e X.env whole) (TP X pins σ Q) X.xe s
theorem pw_w {e : Expr} : PW X e (wW X e) := ⟨fun wh pins s _ _ _ I h => h wh pins s I⟩
theorem wW_of {e : Expr} {t : TT} (h : PW X e t) {σ : L2.St} {H : Hp} {Q : Bool → Hp → Prop} (q : t σ H Q) : wW X e σ H Q := fun wh pins s I => h.run wh pins s σ H Q I q
def wA (X : Cx) (es : List Expr) : TA := fun σ H Q => ∀ (pos : Pos) (pins : List (Addr × Obj)) (s : Shared), Inv X pins σ H s → wpAny (model X.prog X.w) X.A (spliced (backTo pos (starEach es X.env))) (AP X pins σ Q) X.xe s
theorem pa_w {es : List Expr} : PA X es (wA X es) := ⟨fun pos pins s _ _ _ I h => h pos pins s I⟩
theorem wA_of {es : List Expr} {t : TA} (h : PA X es t) {σ : L2.St} {H : Hp} {Q : List V → Hp → Prop} (q : t σ H Q) : wA X es σ H Q := fun pos pins s I => h.run pos pins s σ H Q I q
def wS (X : Cx) (st : Stmt) : TS := fun Dn σ H => ∀ (pins : List (Addr × Obj)) (s : Shared), Inv X pins σ H s → wpAny (model X.prog X.w) X.A (exec st X.env) (SP X pins Dn) X.xe s
theorem ps_w {st : Stmt} : PS X st (wS X st) := ⟨fun pins s _ _ _ I h => h pins s I⟩
theorem wS_of {st : Stmt} {t : TS} (h : PS X st t) {Dn : Ends} {σ : L2.St} {H : Hp} (q : t Dn σ H) : wS X st Dn σ H := fun pins s I => h.run pins s σ H Dn I q
def wB (X : Cx) (st : List Stmt) : TS := fun Dn σ H => ∀ (pins : List (Addr × Obj)) (s : Shared), Inv X pins σ H s → wpAny (model X.prog X.w) X.A (execs st X.env) (SP X pins Dn) X.xe s
theorem pb_w {st : List Stmt} : PSs X st (wB X st) := ⟨fun pins s _ _ _ I h => h pins s I⟩
theorem wB_of {st : List Stmt} {t : TS} (h : PSs X st t) {Dn : Ends} {σ : L2.St} {H : Hp} (q : t Dn σ H) : wB X st Dn σ H := fun pins s I => h.run pins s σ H Dn I q
def wG (X : Cx) (tg : Expr) : TG := fun v σ H Q => ∀ (pins : List (Addr × Obj)) (s : Shared) (u : Value), Inv X pins σ H s → RelV v u →
  wpAny (model X.prog X.w) X.A (assign tg X.env u) (fun _ s' => ∃ σ' H', Inv X pins σ' H' s' ∧ Q σ' H') X.xe s
theorem pg_w {tg : Expr} : PG X tg (wG X tg) := ⟨fun pins s _ _ _ u _ I r h => h pins s u I r⟩
theorem wG_of {tg : Expr} {t : TG} (h : PG X tg t) {v : V} {σ : L2.St} {H : Hp} {Q : L2.St → Hp → Prop} (q : t v σ H Q) : wG X tg v σ H Q := fun pins s u I r => h.run pins s σ H v u Q I r q
def wI (X : Cx) (tg iter : Expr) : TI := fun σ H R => ∀ (pins : List (Addr × Obj)) (s : Shared), Inv X pins σ H s →
  wpAny (model X.prog X.w) X.A (eval iter X.env) (fun v s1 => wpAny (model X.prog X.w) X.A (pyIter v) (PIE X pins σ tg R) X.xe s1) X.xe s
theorem pi_w {tg iter : Expr} : PI X tg iter (wI X tg iter) := ⟨fun pins s _ _ _ I h => h pins s I⟩
theorem wI_of {tg iter : Expr} {t : TI} (h : PI X tg iter t) {σ : L2.St} {H : Hp} {R : It → Hp → Prop} (q : t σ H R) : wI X tg iter σ H R := fun pins s I => h.run pins s σ H R I q

/-! ### the judgements -/
def AE (X : Cx) (e : Expr) (ρ : Rh) (M : Mm) (Post : D → Mm → Prop) : Prop :=
  ∀ (G H : Hp) (σ : L2.St) (Q : VK), Now G H M → RepS G ρ σ → (∀ d M' v G' H', Post d M' → Step G H M G' H' M' → RepS G' ρ σ → Rep G' d v → Q v H') → wE X e σ H Q
def AT (X : Cx) (e : Expr) (ρ : Rh) (M : Mm) (Post : Bool → Mm → Prop) : Prop :=
  ∀ (G H : Hp) (σ : L2.St) (Q : Bool → Hp → Prop), Now G H M → RepS G ρ σ → (∀ b M' G' H', Post b M' → Step G H M G' H' M' → RepS G' ρ σ → Q b H') → wT X e σ H Q
def AW (X : Cx) (e : Expr) (ρ : Rh) (M : Mm) (Post : Bool → Mm → Prop) : Prop :=
  ∀ (G H : Hp) (σ : L2.St) (Q : Bool → Hp → Prop), Now G H M → RepS G ρ σ → (∀ b M' G' H', Post b M' → Step G H M G' H' M' → RepS G' ρ σ → Q b H') → wW X e σ H Q
def AA (X : Cx) (es : List Expr) (ρ : Rh) (M : Mm) (Post : List D → Mm → Prop) : Prop :=
  ∀ (G H : Hp) (σ : L2.St) (Q : List V → Hp → Prop), Now G H M → RepS G ρ σ → (∀ ds M' vs G' H', Post ds M' → Step G H M G' H' M' → RepS G' ρ σ → Reps G' ds vs → Q vs H') → wA X es σ H Q
structure AEnds where
  nx : Rh → Mm → Prop
  rt : D → Mm → Prop
  bk : Rh → Mm → Prop := fun _ _ => False
  ct : Rh → Mm → Prop := fun _ _ => False
structure EndsOk (G H : Hp) (M : Mm) (A : AEnds) (Dn : Ends) : Prop where
  nx : ∀ ρ' M' σ' G' H', A.nx ρ' M' → Step G H M G' H' M' → RepS G' ρ' σ' → Dn.nx σ' H'
  rt : ∀ d M' v G' H', A.rt d M' → Step G H M G' H' M' → Rep G' d v → Dn.rt v H'
  bk : ∀ ρ' M' σ' G' H', A.bk ρ' M' → Step G H M G' H' M' → RepS G' ρ' σ' → Dn.bk σ' H'
  ct : ∀ ρ' M' σ' G' H', A.ct ρ' M' → Step G H M G' H' M' → RepS G' ρ' σ' → Dn.ct σ' H'
theorem EndsOk.after {G H G1 H1 : Hp} {M M1 : Mm} {A : AEnds} {Dn : Ends} (k : EndsOk G H M A Dn) (s : Step G H M G1 H1 M1) : EndsOk G1 H1 M1 A Dn :=
  ⟨fun ρ' M' σ' G' H' a b c => k.nx ρ' M' σ' G' H' a (s.trans b) c, fun d M' v G' H' a b c => k.rt d M' v G' H' a (s.trans b) c, fun ρ' M' σ' G' H' a b c => k.bk ρ' M' σ' G' H' a (s.trans b) c, fun ρ' M' σ' G' H' a b c => k.ct ρ' M' σ' G' H' a (s.trans b) c⟩
def AS (X : Cx) (st : Stmt) (ρ : Rh) (M : Mm) (A : AEnds) : Prop :=
  ∀ (G H : Hp) (σ : L2.St) (Dn : Ends), Now G H M → RepS G ρ σ → EndsOk G H M A Dn → wS X st Dn σ H
def AB (X : Cx) (st : List Stmt) (ρ : Rh) (M : Mm) (A : AEnds) : Prop :=
  ∀ (G H : Hp) (σ : L2.St) (Dn : Ends), Now G H M → RepS G ρ σ → EndsOk G H M A Dn → wB X st Dn σ H
/-- a target takes d: which slots hold what afterwards -/
def AG (X : Cx) (tg : Expr) (ρ : Rh) (d : D) (Post : Rh → Prop) : Prop :=
  ∀ (G H : Hp) (σ : L2.St) (v : V) (Q : L2.St → Hp → Prop), Ex G H → RepS G ρ σ → Rep G d v → (∀ ρ' σ', Post ρ' → RepS G ρ' σ' → Q σ' H) → wG X tg v σ H Q

variable {ρ : Rh} {M : Mm} {e a b o c : Expr} {es rest : List Expr} {pos : Pos}
theorem AE.mono {P Q : D → Mm → Prop} (h : AE X e ρ M P) (k : ∀ d M', P d M' → Q d M') : AE X e ρ M Q := fun G H σ R n r kk => h G H σ R n r fun d M' v G' H' p => kk d M' v G' H' (k d M' p)
theorem AT.mono {P Q : Bool → Mm → Prop} (h : AT X e ρ M P) (k : ∀ d M', P d M' → Q d M') : AT X e ρ M Q := fun G H σ R n r kk => h G H σ R n r fun d M' G' H' p => kk d M' G' H' (k d M' p)
/-- a pure expression of known data -/
abbrev AP (X : Cx) (e : Expr) (ρ : Rh) (M : Mm) (d : D) : Prop := AE X e ρ M fun d' M' => d' = d ∧ M' = M
theorem AE.of {d : D} {Post : D → Mm → Prop} (h : AP X e ρ M d) (p : Post d M) : AE X e ρ M Post := h.mono fun d' M' ⟨a, b⟩ => by
  rw [a, b]
  exact p

/-! ### names, constants -/
theorem ae_var {Post : D → Mm → Prop} (i : Nat) {x : Str} {d : D} (hr : ρ[i]? = some (some d)) (h : Post d M) (hN : X.N[i]? = some x := by rfl) (hv : Vis X.env.scope x := by first | exact Or.inl rfl | exact Or.inr (Or.inl rfl) | exact Or.inr (Or.inr rfl))
    (hd : (x == ("__debug__" : Str)) = false := by decide) (hcd : (x == ("__classdict__" : Str)) = false := by decide) : AE X (.Name x pos) ρ M Post := fun G H σ Q n r k => by
  obtain ⟨v, e1, e2⟩ := r.get hr
  exact wE_of (pe_var hN hv hd hcd) ⟨v, e1, k d M v G H h (Step.refl n) r e2⟩
theorem ae_int {Post : D → Mm → Prop} {i : Int} {j : Nat} (h : Post (.int i) M) : AE X (.Constant (.int i) j pos) ρ M Post := fun G H σ Q n r k => wE_of pe_int (k _ M _ G H h (Step.refl n) r (rep_int.mpr rfl))
theorem ae_bl {Post : D → Mm → Prop} {i : Bool} {j : Nat} (h : Post (.bl i) M) : AE X (.Constant (.bool i) j pos) ρ M Post := fun G H σ Q n r k => wE_of pe_bl (k _ M _ G H h (Step.refl n) r (rep_bl.mpr rfl))
theorem ae_non {Post : D → Mm → Prop} {j : Nat} (h : Post .non M) : AE X (.Constant .none j pos) ρ M Post := fun G H σ Q n r k => wE_of pe_non (k _ M _ G H h (Step.refl n) r (rep_non.mpr rfl))
theorem ae_str {Post : D → Mm → Prop} {i : Str} {j : Nat} (h : Post (.str i) M) : AE X (.Constant (.str i) j pos) ρ M Post := fun G H σ Q n r k => wE_of pe_str (k _ M _ G H h (Step.refl n) r (rep_str.mpr rfl))
theorem ae_globS {Post : D → Mm → Prop} {x z : Str} (hg : Gl X x) (hm : ∃ t, X.mg x = some (.str z t)) (h : Post (.str z) M) (hd : (x == ("__debug__" : Str)) = false := by decide) : AE X (.Name x pos) ρ M Post := fun G H σ Q n r k => by
  obtain ⟨t, ht⟩ := hm
  exact wE_of (pe_glob (v := .str z) hg ht ⟨t, rfl⟩ hd) (k _ M _ G H h (Step.refl n) r (rep_str.mpr rfl))
theorem ae_globC {Post : D → Mm → Prop} {x : Str} {C : Addr} (hg : Gl X x) (hm : X.mg x = some (.ref C)) (h : Post (.adr C) M) (hd : (x == ("__debug__" : Str)) = false := by decide) : AE X (.Name x pos) ρ M Post := fun G H σ Q n r k =>
  wE_of (pe_glob (v := .ref C) hg hm rfl hd) (k _ M _ G H h (Step.refl n) r (rep_adr.mpr rfl))
theorem ae_ty {Post : D → Mm → Prop} {x : Str} {T : String} (hg : Gl X x) (hm : X.mg x = none) (hv : bootBuiltins x = some (.type T)) (h : Post (.ty T) M) (hn : x ≠ "__name__" := by decide) (hd : (x == ("__debug__" : Str)) = false := by decide) : AE X (.Name x pos) ρ M Post := fun G H σ Q n r k =>
  wE_of (pe_bltn (v := .ty T) hg hm hv rfl hn hd) (k _ M _ G H h (Step.refl n) r (rep_ty.mpr rfl))

/-! ### operators -/
def RR (r : R2) (d e : D) (M : Mm) (Post : D → Mm → Prop) : Prop :=
  ∀ (G H : Hp) (v u : V) (Q : VK), Now G H M → Rep G d v → Rep G e u → (∀ d' M' v' G' H', Post d' M' → Step G H M G' H' M' → Rep G' d' v' → Q v' H') → r v u H Q
theorem ae_bin {r : R2} {op : Operator} {Post : D → Mm → Prop} (ho : OpR X (binaryOp op) r) (h : AE X a ρ M fun d M1 => AE X b ρ M1 fun e M2 => RR r d e M2 Post) : AE X (.BinOp a op b pos) ρ M Post := fun G H σ Q n r k =>
  wE_of (pe_op ho pe_w pe_w) (h G H σ _ n r fun d M1 v G1 H1 p s1 r1 rv => p G1 H1 σ _ s1.now r1 fun e M2 u G2 H2 p2 s2 r2 ru =>
    p2 G2 H2 v u Q s2.now (rv.mono s2.g) ru fun d' M' v' G' H' p3 s3 r3 => k d' M' v' G' H' p3 ((s1.trans s2).trans s3) (r2.mono s3.g) r3)
theorem ae_cmp {r : R2} {op : CmpOp} {Post : D → Mm → Prop} (ho : OpR X (compareOp op) r) (hm : behindInMarks op b = false) (h : AE X a ρ M fun d M1 => AE X b ρ M1 fun e M2 => RR r d e M2 Post) : AE X (.Compare a [op] [b] pos) ρ M Post := fun G H σ Q n r k =>
  wE_of (pe_cmpR ho pe_w pe_w hm) (h G H σ _ n r fun d M1 v G1 H1 p s1 r1 rv => p G1 H1 σ _ s1.now r1 fun e M2 u G2 H2 p2 s2 r2 ru =>
    p2 G2 H2 v u Q s2.now (rv.mono s2.g) ru fun d' M' v' G' H' p3 s3 r3 => k d' M' v' G' H' p3 ((s1.trans s2).trans s3) (r2.mono s3.g) r3)
theorem at_cmp {r : R2} {op : CmpOp} {Post : Bool → Mm → Prop} (ho : OpR X (compareOp op) r) (hm : behindInMarks op b = false) (h : AE X a ρ M fun d M1 => AE X b ρ M1 fun e M2 => RR r d e M2 fun d' M' => ∃ k, d' = .bl k ∧ Post k M') : AT X (.Compare a [op] [b] pos) ρ M Post := fun G H σ Q n r k =>
  wT_of (pt_cmpR ho pe_w pe_w hm) (h G H σ _ n r fun d M1 v G1 H1 p s1 r1 rv => p G1 H1 σ _ s1.now r1 fun e M2 u G2 H2 p2 s2 r2 ru =>
    p2 G2 H2 v u _ s2.now (rv.mono s2.g) ru fun d' M' v' G' H' ⟨kk, ek, p3⟩ s3 r3 => ⟨kk, by
      subst ek
      exact rep_bl.mp r3, k kk M' G' H' p3 ((s1.trans s2).trans s3) (r2.mono s3.g)⟩)
/-- a < b < c -/
theorem at_chain {r r' : R2} {op op' : CmpOp} {Post : Bool → Mm → Prop} (ho : OpR X (compareOp op) r) (ho' : OpR X (compareOp op') r') (h : AE X a ρ M fun d M1 => AE X b ρ M1 fun e M2 => RR r d e M2 fun d' M3 => ∃ k, d' = .bl k ∧
      (k = true → AE X c ρ M3 fun f M4 => RR r' e f M4 fun d' M' => ∃ k, d' = .bl k ∧ Post k M') ∧ (k = false → Post false M3))
    (hm : lastMarks [op, op'] [b, c] = false := by with_unfolding_all rfl) : AT X (.Compare a [op, op'] [b, c] pos) ρ M Post := fun G H σ Q n r k =>
  wT_of (pt_chain ho ho' pe_w pe_w pe_w hm) (h G H σ _ n r fun d M1 v G1 H1 p s1 r1 rv => p G1 H1 σ _ s1.now r1 fun e M2 u G2 H2 p2 s2 r2 ru =>
    p2 G2 H2 v u _ s2.now (rv.mono s2.g) ru fun d' M' v' G' H' ⟨kk, ek, p3, p4⟩ s3 r3 => ⟨kk, by
      subst ek
      exact rep_bl.mp r3, by
      cases kk with
      | true =>
        rw [if_pos rfl]
        exact p3 rfl G' H' σ _ s3.now (r2.mono s3.g) fun f M4 w G4 H4 p5 s4 r4 rw' => p5 G4 H4 u w _ s4.now ((ru.mono s3.g).mono s4.g) rw' fun d5 M5 v5 G5 H5 ⟨k5, e5, p6⟩ s5 r5 => ⟨k5, by
          subst e5
          exact rep_bl.mp r5, k k5 M5 G5 H5 p6 ((((s1.trans s2).trans s3).trans s4).trans s5) (r4.mono s5.g)⟩
      | false =>
        rw [if_neg Bool.false_ne_true]
        exact ⟨false, rfl, k false M' G' H' (p4 rfl) ((s1.trans s2).trans s3) (r2.mono s3.g)⟩⟩)
theorem rr_I0 {g : Int → Int → D} {g' : Int → Int → V} (hg : ∀ G i j, Rep G (g i j) (g' i j)) {i j : Int} {Post : D → Mm → Prop} (h : Post (g i j) M) : RR (rI0 g') (.int i) (.int j) M Post := fun G H v u Q n rv ru k =>
  ⟨i, j, rep_int.mp rv, rep_int.mp ru, k _ M _ G H h (Step.refl n) (hg G i j)⟩
theorem rr_I {C : Int → Int → Prop} {g : Int → Int → D} {g' : Int → Int → V} (hg : ∀ G i j, Rep G (g i j) (g' i j)) {i j : Int} {Post : D → Mm → Prop} (hc : C i j) (h : Post (g i j) M) : RR (rI C g') (.int i) (.int j) M Post := fun G H v u Q n rv ru k =>
  ⟨i, j, rep_int.mp rv, rep_int.mp ru, hc, k _ M _ G H h (Step.refl n) (hg G i j)⟩
theorem rr_add {i j : Int} {Post : D → Mm → Prop} (h : Post (.int (i + j)) M) : RR (rI0 fun i j => .int (i + j)) (.int i) (.int j) M Post := rr_I0 (g := fun i j => .int (i + j)) (fun _ _ _ => rep_int.mpr rfl) h
theorem rr_sub {i j : Int} {Post : D → Mm → Prop} (h : Post (.int (i - j)) M) : RR (rI0 fun i j => .int (i - j)) (.int i) (.int j) M Post := rr_I0 (g := fun i j => .int (i - j)) (fun _ _ _ => rep_int.mpr rfl) h
theorem rr_int {C : Int → Int → Prop} {g : Int → Int → Int} {i j : Int} {Post : D → Mm → Prop} (hc : C i j) (h : Post (.int (g i j)) M) : RR (rI C fun i j => .int (g i j)) (.int i) (.int j) M Post := rr_I (g := fun i j => .int (g i j)) (fun _ _ _ => rep_int.mpr rfl) hc h
theorem rr_bool {g : Int → Int → Bool} {i j : Int} {Post : D → Mm → Prop} (h : Post (.bl (g i j)) M) : RR (rI0 fun i j => .bl (g i j)) (.int i) (.int j) M Post := rr_I0 (g := fun i j => .bl (g i j)) (fun _ _ _ => rep_bl.mpr rfl) h
/-- == of plain values -/
theorem rr_eqI {i j : Int} {Post : D → Mm → Prop} (h : Post (.bl (decide (i = j))) M) : RR rEq (.int i) (.int j) M Post := fun G H v u Q n rv ru k => by
  cases rep_int.mp rv
  cases rep_int.mp ru
  refine ⟨rfl, k _ M _ G H h (Step.refl n) (rep_bl.mpr ?_)⟩
  by_cases e : i = j
  · rw [decide_eq_true e, decide_eq_true (by rw [e])]
  · rw [decide_eq_false e, decide_eq_false (fun z => e (V.int.inj z))]
theorem rr_neI {i j : Int} {Post : D → Mm → Prop} (h : Post (.bl (!decide (i = j))) M) : RR rNe (.int i) (.int j) M Post := fun G H v u Q n rv ru k => by
  cases rep_int.mp rv
  cases rep_int.mp ru
  refine ⟨rfl, k _ M _ G H h (Step.refl n) (rep_bl.mpr ?_)⟩
  by_cases e : i = j
  · rw [decide_eq_true e, decide_eq_true (by rw [e])]
  · rw [decide_eq_false e, decide_eq_false (fun z => e (V.int.inj z))]
theorem rr_eqS {i j : Str} {Post : D → Mm → Prop} (h : Post (.bl (decide (i = j))) M) : RR rEq (.str i) (.str j) M Post := fun G H v u Q n rv ru k => by
  cases rep_str.mp rv
  cases rep_str.mp ru
  refine ⟨rfl, k _ M _ G H h (Step.refl n) (rep_bl.mpr ?_)⟩
  by_cases e : i = j
  · rw [decide_eq_true e, decide_eq_true (by rw [e])]
  · rw [decide_eq_false e, decide_eq_false (fun z => e (V.str.inj z))]
theorem rr_neS {i j : Str} {Post : D → Mm → Prop} (h : Post (.bl (!decide (i = j))) M) : RR rNe (.str i) (.str j) M Post := fun G H v u Q n rv ru k => by
  cases rep_str.mp rv
  cases rep_str.mp ru
  refine ⟨rfl, k _ M _ G H h (Step.refl n) (rep_bl.mpr ?_)⟩
  by_cases e : i = j
  · rw [decide_eq_true e, decide_eq_true (by rw [e])]
  · rw [decide_eq_false e, decide_eq_false (fun z => e (V.str.inj z))]

/-! ### tests -/
theorem at_val {Post : Bool → Mm → Prop} (h : AE X e ρ M fun d M' => ∃ k, d = .bl k ∧ Post k M') (he : ∀ whole, isTrue e X.env whole = (do let v ← whole; standAt e.pos; holding [v] (truthy v)) := by intro _; rfl) : AT X e ρ M Post := fun G H σ Q n r k =>
  wT_of (pt_val pe_w he) (h G H σ _ n r fun d M' v G' H' ⟨kk, ek, p⟩ s r' rv => ⟨kk, by
    subst ek
    exact rep_bl.mp rv, k kk M' G' H' p s r'⟩)
theorem at_not {Post : Bool → Mm → Prop} (h : AT X a ρ M fun b M' => Post (!b) M') : AT X (.UnaryOp .Not a pos) ρ M Post := fun G H σ Q n r k =>
  wT_of (pt_not pt_w) (h G H σ _ n r fun b M' G' H' p s r' => k (!b) M' G' H' p s r')
theorem at_w {Post : Bool → Mm → Prop} (h : AW X e ρ M Post) : AT X e ρ M Post := fun G H σ Q n r k => wT_of (PW.pt pw_w) (h G H σ _ n r k)
theorem aw_and1 {Post : Bool → Mm → Prop} (h : AT X a ρ M Post) : AW X (.BoolOp .And [a] pos) ρ M Post := fun G H σ Q n r k => wW_of (pw_and1 pt_w) (h G H σ _ n r k)
theorem aw_or1 {Post : Bool → Mm → Prop} (h : AT X a ρ M Post) : AW X (.BoolOp .Or [a] pos) ρ M Post := fun G H σ Q n r k => wW_of (pw_or1 pt_w) (h G H σ _ n r k)
theorem aw_and {Post : Bool → Mm → Prop} (h : AT X a ρ M fun k M1 => (k = true → AW X (.BoolOp .And (b :: rest) pos) ρ M1 Post) ∧ (k = false → Post false M1)) : AW X (.BoolOp .And (a :: b :: rest) pos) ρ M Post := fun G H σ Q n r k =>
  wW_of (pw_and pt_w pw_w) (h G H σ _ n r fun c M1 G1 H1 ⟨p1, p2⟩ s1 r1 => by
    cases c with
    | true =>
      rw [if_pos rfl]
      exact p1 rfl G1 H1 σ _ s1.now r1 fun b M2 G2 H2 p s2 r2 => k b M2 G2 H2 p (s1.trans s2) r2
    | false =>
      rw [if_neg Bool.false_ne_true]
      exact k false M1 G1 H1 (p2 rfl) s1 r1)
theorem aw_or {Post : Bool → Mm → Prop} (h : AT X a ρ M fun k M1 => (k = false → AW X (.BoolOp .Or (b :: rest) pos) ρ M1 Post) ∧ (k = true → Post true M1)) : AW X (.BoolOp .Or (a :: b :: rest) pos) ρ M Post := fun G H σ Q n r k =>
  wW_of (pw_or pt_w pw_w) (h G H σ _ n r fun c M1 G1 H1 ⟨p1, p2⟩ s1 r1 => by
    cases c with
    | false =>
      rw [if_neg Bool.false_ne_true]
      exact p1 rfl G1 H1 σ _ s1.now r1 fun b M2 G2 H2 p s2 r2 => k b M2 G2 H2 p (s1.trans s2) r2
    | true =>
      rw [if_pos rfl]
      exact k true M1 G1 H1 (p2 rfl) s1 r1)
/-- and, or, not as values -/
theorem ae_one {op : BoolOp} {Post : D → Mm → Prop} (h : AE X a ρ M Post) : AE X (.BoolOp op [a] pos) ρ M Post := fun G H σ Q n r k => wE_of (pe_one pe_w) (h G H σ _ n r k)
theorem ae_and {Post : D → Mm → Prop} (h : AE X a ρ M fun d M1 => ∃ k, d = .bl k ∧ (k = true → AE X (.BoolOp .And (b :: rest) pos) ρ M1 Post) ∧ (k = false → Post (.bl false) M1)) : AE X (.BoolOp .And (a :: b :: rest) pos) ρ M Post := fun G H σ Q n r k =>
  wE_of (pe_and pe_w pe_w) (h G H σ _ n r fun d M1 v G1 H1 ⟨c, ec, p1, p2⟩ s1 r1 rv => ⟨c, by
    subst ec
    exact rep_bl.mp rv, by
    cases c with
    | true =>
      rw [if_pos rfl]
      exact p1 rfl G1 H1 σ _ s1.now r1 fun d M2 v G2 H2 p s2 r2 => k d M2 v G2 H2 p (s1.trans s2) r2
    | false =>
      rw [if_neg Bool.false_ne_true]
      exact k _ M1 _ G1 H1 (p2 rfl) s1 r1 (rep_bl.mpr rfl)⟩)
theorem ae_or {Post : D → Mm → Prop} (h : AE X a ρ M fun d M1 => ∃ k, d = .bl k ∧ (k = false → AE X (.BoolOp .Or (b :: rest) pos) ρ M1 Post) ∧ (k = true → Post (.bl true) M1)) : AE X (.BoolOp .Or (a :: b :: rest) pos) ρ M Post := fun G H σ Q n r k =>
  wE_of (pe_or pe_w pe_w) (h G H σ _ n r fun d M1 v G1 H1 ⟨c, ec, p1, p2⟩ s1 r1 rv => ⟨c, by
    subst ec
    exact rep_bl.mp rv, by
    cases c with
    | false =>
      rw [if_neg Bool.false_ne_true]
      exact p1 rfl G1 H1 σ _ s1.now r1 fun d M2 v G2 H2 p s2 r2 => k d M2 v G2 H2 p (s1.trans s2) r2
    | true =>
      rw [if_pos rfl]
      exact k _ M1 _ G1 H1 (p2 rfl) s1 r1 (rep_bl.mpr rfl)⟩)
theorem ae_not {Post : D → Mm → Prop} (h : AE X a ρ M fun d M1 => ∃ k, d = .bl k ∧ Post (.bl (!k)) M1) : AE X (.UnaryOp .Not a pos) ρ M Post := fun G H σ Q n r k =>
  wE_of (pe_not pe_w) (h G H σ _ n r fun d M1 v G1 H1 ⟨c, ec, p⟩ s1 r1 rv => ⟨c, by
    subst ec
    exact rep_bl.mp rv, k _ M1 _ G1 H1 p s1 r1 (rep_bl.mpr rfl)⟩)
theorem ae_if {Post : D → Mm → Prop} (h : AT X c ρ M fun k M1 => (k = true → AE X a ρ M1 Post) ∧ (k = false → AE X b ρ M1 Post)) : AE X (.IfExp c a b pos) ρ M Post := fun G H σ Q n r k =>
  wE_of (pe_ifExp pt_w pe_w pe_w) (h G H σ _ n r fun c M1 G1 H1 ⟨p1, p2⟩ s1 r1 => by
    cases c with
    | true =>
      rw [if_pos rfl]
      exact p1 rfl G1 H1 σ _ s1.now r1 fun d M2 v G2 H2 p s2 r2 => k d M2 v G2 H2 p (s1.trans s2) r2
    | false =>
      rw [if_neg Bool.false_ne_true]
      exact p2 rfl G1 H1 σ _ s1.now r1 fun d M2 v G2 H2 p s2 r2 => k d M2 v G2 H2 p (s1.trans s2) r2)

/-! ### argument lists, displays -/
theorem aa_nil {Post : List D → Mm → Prop} (h : Post [] M) : AA X [] ρ M Post := fun G H σ Q n r k => wA_of pa_nil (k _ M _ G H h (Step.refl n) r (reps_nil.mpr rfl))
theorem aa_cons {Post : List D → Mm → Prop} (h : AE X e ρ M fun d M1 => AA X es ρ M1 fun ds M2 => Post (d :: ds) M2) (hs : starEach (e :: es) X.env = (false, eval e X.env) :: starEach es X.env := by rfl) : AA X (e :: es) ρ M Post := fun G H σ Q n r k =>
  wA_of (pa_cons pe_w pa_w hs) (h G H σ _ n r fun d M1 v G1 H1 p s1 r1 rv => p G1 H1 σ _ s1.now r1 fun ds M2 vs G2 H2 p2 s2 r2 rvs => k (d :: ds) M2 (v :: vs) G2 H2 p2 (s1.trans s2) r2 (reps_cons.mpr ⟨v, vs, rfl, rv.mono s2.g, rvs⟩))
theorem small {n : Nat} (h : n ≤ 1000) : n ≤ sizeLine := Nat.le_of_lt (small1000 h)
theorem ae_tup {Post : D → Mm → Prop} {x1 : Nat} (h : AA X es ρ M fun ds M1 => ds.length ≤ 1000 ∧ Post (.tup ds) M1) : AE X (.Tuple es x1 pos) ρ M Post := fun G H σ Q n r k =>
  wE_of (pe_tup pa_w) (h G H σ _ n r fun ds M1 vs G1 H1 ⟨hl, p⟩ s1 r1 rvs => ⟨by
    rw [rvs.length]
    exact small hl, fun q hq => by
      have st := Step.alloc (o := .tup vs) s1.now hq
      exact k _ M1 _ _ _ p (s1.trans st) (r1.mono st.g) (rep_tup.mpr ⟨q, vs, rfl, upd_same, rvs.mono st.g⟩)⟩)
theorem ae_lst {Post : D → Mm → Prop} (h : AA X es ρ M fun ds M1 => ds.length ≤ 1000 ∧ Post (.lst ds) M1) : AE X (.List es pos) ρ M Post := fun G H σ Q n r k =>
  wE_of (pe_lst pa_w) (h G H σ _ n r fun ds M1 vs G1 H1 ⟨hl, p⟩ s1 r1 rvs => ⟨by
    rw [rvs.length]
    exact small hl, fun q hq => by
      have st := Step.alloc (o := .lst vs) s1.now hq
      exact k _ M1 _ _ _ p (s1.trans st) (r1.mono st.g) (rep_lst.mpr ⟨q, vs, rfl, upd_same, rvs.mono st.g⟩)⟩)
/-- an owned list -/
theorem ae_lstO {Post : D → Mm → Prop} (h : AA X es ρ M fun ds M1 => ds.length ≤ 1000 ∧ ∀ q, M1 q = none → Post (.adr q) (updM M1 q (.lst ds))) : AE X (.List es pos) ρ M Post := fun G H σ Q n r k =>
  wE_of (pe_lst pa_w) (h G H σ _ n r fun ds M1 vs G1 H1 ⟨hl, p⟩ s1 r1 rvs => ⟨by
    rw [rvs.length]
    exact small hl, fun q hq => by
      have st := Step.allocO (o := .lst vs) (d := .lst ds) s1.now hq ⟨vs, upd_same, rvs⟩
      exact k _ _ _ _ _ (p q (s1.now.fresh hq)) (s1.trans st) r1 (rep_adr.mpr rfl)⟩)

/-! ### the ends of an expression: weaker, given away -/
theorem ae_le {Post : D → Mm → Prop} (h : AE X e ρ M fun d M1 => ∃ M2, Le M2 M1 ∧ Post d M2) : AE X e ρ M Post := fun G H σ Q n r k => h G H σ Q n r fun d M1 v G1 H1 ⟨M2, l, p⟩ s1 r1 rv => k d M2 v G1 H1 p (s1.le l) r1 rv
theorem ae_give {Post : D → Mm → Prop} (h : AE X e ρ M fun d M1 => ∃ p d', d = .adr p ∧ M1 p = some d' ∧ ((∃ ds, d' = .lst ds) ∨ ∃ C fs, d' = .obj C fs) ∧ Post d' (delM M1 p)) : AE X e ρ M Post := fun G H σ Q n r k =>
  h G H σ Q n r fun d M1 v G1 H1 ⟨p, d', e1, e2, e3, post⟩ s1 r1 rv => by
    subst e1
    obtain ⟨G2, st, rp⟩ := Step.freeze s1.now e2 e3
    rw [rep_adr.mp rv]
    exact k d' _ _ G2 H1 post (s1.trans st) (r1.mono st.g) rp

/-! ### blocks, statements -/
variable {st : Stmt} {sts : List Stmt} {A : AEnds}
theorem ab_nil (h : A.nx ρ M) : AB X [] ρ M A := fun G H σ Dn n r k => wB_of pss_nil (k.nx ρ M σ G H h (Step.refl n) r)
theorem EndsOk.seq {G H : Hp} {Dn : Ends} {σ' : L2.St} (k : EndsOk G H M A Dn) {N : Rh → Mm → Prop} {n : L2.St → Hp → Prop} (hn : ∀ ρ' M' σ' G' H', N ρ' M' → Step G H M G' H' M' → RepS G' ρ' σ' → n σ' H') : EndsOk G H M { A with nx := N } { Dn with nx := n } :=
  ⟨hn, k.rt, k.bk, k.ct⟩
theorem ab_cons (h : AS X st ρ M { A with nx := fun ρ1 M1 => AB X sts ρ1 M1 A }) : AB X (st :: sts) ρ M A := fun G H σ Dn n r k =>
  wB_of (pss_cons ps_w pb_w) (h G H σ { Dn with nx := wB X sts Dn } n r ⟨fun ρ' M' σ' G' H' p s r' => p G' H' σ' Dn s.now r' (k.after s), k.rt, k.bk, k.ct⟩)
theorem ab_one (h : AS X st ρ M A) : AB X [st] ρ M A := fun G H σ Dn n r k => wB_of (pss_one ps_w) (h G H σ Dn n r k)
theorem as_pass (h : A.nx ρ M) : AS X (.Pass pos) ρ M A := fun G H σ Dn n r k => wS_of ps_pass (k.nx ρ M σ G H h (Step.refl n) r)
theorem as_never {st : Stmt} (h : False) : AS X st ρ M A := h.elim
theorem as_expr (h : AE X e ρ M fun _ M1 => A.nx ρ M1) (hs : swapsWith e none pos.line X.env = pure false := by rfl) : AS X (.Expr e pos) ρ M A := fun G H σ Dn n r k => wS_of (ps_expr pe_w hs) (h G H σ _ n r fun d M1 v G1 H1 p s1 r1 _ => k.nx ρ M1 σ G1 H1 p s1 r1)
theorem as_ret (h : AE X e ρ M A.rt) : AS X (.Return (some e) pos) ρ M A := fun G H σ Dn n r k => wS_of (ps_ret pe_w) (h G H σ _ n r fun d M1 v G1 H1 p s1 r1 rv => k.rt d M1 v G1 H1 p s1 rv)
theorem as_if {p q : List Stmt} (h : AT X c ρ M fun b M1 => (b = true → AB X p ρ M1 A) ∧ (b = false → AB X q ρ M1 A)) : AS X (.If c p q pos) ρ M A := fun G H σ Dn n r k =>
  wS_of (ps_if pt_w pb_w pb_w) (h G H σ _ n r fun b M1 G1 H1 ⟨p1, p2⟩ s1 r1 => by
    cases b with
    | true =>
      rw [if_pos rfl]
      exact p1 rfl G1 H1 σ Dn s1.now r1 (k.after s1)
    | false =>
      rw [if_neg Bool.false_ne_true]
      exact p2 rfl G1 H1 σ Dn s1.now r1 (k.after s1))
theorem as_set (i : Nat) {x : Str} {pos' : Pos} (h : AE X e ρ M fun d M1 => A.nx (ρ.set i (some d)) M1) (hN : X.N.Nodup) (hi : X.N[i]? = some x := by rfl) (hx : Loc X.env.scope x := by first | exact Or.inl rfl | exact Or.inr rfl)
    (hs : swapsWith e (some (.Name x pos')) pos.line X.env = pure false := by rfl) (hf : X.fn x = true ∨ X.env.scope.names.lookup x = some .local := by first | exact .inl rfl | exact .inr rfl) : AS X (.Assign [.Name x pos'] e pos) ρ M A := fun G H σ Dn n r k =>
  wS_of (ps_set hN hi hx pe_w hs hf) (h G H σ _ n r fun d M1 v G1 H1 p s1 r1 rv => k.nx _ M1 _ G1 H1 p s1 (r1.set i rv))
/-! ### targets -/
theorem ag_name (i : Nat) {x : Str} {d : D} {Post : Rh → Prop} (h : Post (ρ.set i (some d))) (hN : X.N.Nodup) (hi : X.N[i]? = some x := by rfl) (hx : Loc X.env.scope x := by first | exact Or.inl rfl | exact Or.inr rfl)
    (hf : X.fn x = true ∨ X.env.scope.names.lookup x = some .local := by first | exact .inl rfl | exact .inr rfl) : AG X (.Name x pos) ρ d Post := fun G H σ v Q n r rv k =>
  wG_of (pg_name hN hi hx hf) (k _ _ h (r.set i rv))
theorem ag_two (i j : Nat) {x y : Str} {px py : Pos} {kt : Nat} {d d' : D} {Post : Rh → Prop} (h : Post ((ρ.set i (some d)).set j (some d'))) (hc : X.calm = true) (hN : X.N.Nodup) (hi : X.N[i]? = some x := by rfl) (hj : X.N[j]? = some y := by rfl) (hx : Loc X.env.scope x := by first | exact Or.inl rfl | exact Or.inr rfl)
    (hy : Loc X.env.scope y := by first | exact Or.inl rfl | exact Or.inr rfl)
    (hf : X.fn x = true ∨ X.env.scope.names.lookup x = some .local := by first | exact .inl rfl | exact .inr rfl) (hf' : X.fn y = true ∨ X.env.scope.names.lookup y = some .local := by first | exact .inl rfl | exact .inr rfl) : AG X (.Tuple [.Name x px, .Name y py] kt pos) ρ (.tup [d, d']) Post := fun G H σ v Q n r rv k => by
  obtain ⟨p, xs, e1, e2, e3⟩ := rep_tup.mp rv
  obtain ⟨v1, r1, e4, q1, e5⟩ := reps_cons.mp e3
  obtain ⟨v2, r2, e6, q2, e7⟩ := reps_cons.mp e5
  cases reps_nil.mp e7
  subst e6 e4
  refine wG_of (pg_tup hc (pgs_cons (pg_name hN hi hx hf) (pgs_cons (pg_name hN hj hy hf') pgs_nil))) ⟨p, [v1, v2], e1, SqT.of (n _ _ e2), rfl, v1, [v2], rfl, v2, [], rfl, rfl, ?_⟩
  exact k _ _ h ((r.set i q1).set j q2)
theorem as_asg {tg : Expr} (h : AE X e ρ M fun d M1 => AG X tg ρ d fun ρ' => A.nx ρ' M1) (hs : swapsWithSole [tg] e pos.line X.env = pure false := by rfl) (hw : swappedStores [tg] e X.env = pure none := by rfl)
    (h1 : (assignEach [tg] X.env).map (·.2) = [assign tg X.env] := by rfl) : AS X (.Assign [tg] e pos) ρ M A := fun G H σ Dn n r k =>
  wS_of (ps_asg pe_w pg_w hs hw h1) (h G H σ _ n r fun d M1 v G1 H1 p s1 r1 rv => p G1 H1 σ v _ s1.now.sub r1 rv fun ρ' σ' pn rn => k.nx ρ' M1 σ' G1 H1 pn s1 rn)
theorem as_par (i j : Nat) {x y : Str} {px py pt : Pos} {kt k2 : Nat} {pt2 : Pos} (h : AA X [a, b] ρ M fun ds M1 => ∃ d d', ds = [d, d'] ∧ A.nx ((ρ.set i (some d)).set j (some d')) M1) (hc : X.calm = true) (hN : X.N.Nodup) (hij : i ≠ j := by decide) (hi : X.N[i]? = some x := by rfl) (hj : X.N[j]? = some y := by rfl)
    (hx : X.env.scope.names.lookup x = some .local := by rfl) (hy : X.env.scope.names.lookup y = some .local := by rfl) (hw : swappedStores [.Tuple [.Name x px, .Name y py] kt pt] (.Tuple [a, b] k2 pt2) X.env = pure (some [x, y]) := by rfl) : AS X (.Assign [.Tuple [.Name x px, .Name y py] kt pt] (.Tuple [a, b] k2 pt2) pos) ρ M A := fun G H σ Dn n r k =>
  wS_of (ps_par hc hN hi hj hij hx hy pa_w hw) (h G H σ _ n r fun ds M1 vs G1 H1 ⟨d, d', ed, p⟩ s1 r1 rvs => by
    subst ed
    obtain ⟨v1, q1, e4, w1, e5⟩ := reps_cons.mp rvs
    obtain ⟨v2, q2, e6, w2, e7⟩ := reps_cons.mp e5
    cases reps_nil.mp e7
    subst e6 e4
    exact ⟨v1, v2, rfl, k.nx _ M1 _ G1 H1 p s1 ((r1.set i w1).set j w2)⟩)
/-- what is known of the state seen anew, ahead of a block -/
theorem ab_le {M' : Mm} (l : Le M' M) (h : AB X sts ρ M' A) : AB X sts ρ M A := fun G H σ Dn n r k =>
  h G H σ Dn (n.le l) r ⟨fun a b c d e f s g => k.nx a b c d e f (s.base (fun p z => by
    cases q : M' p with
    | none => exact absurd q z
    | some u =>
      rw [l.le p u q]
      exact fun w => nomatch w) l.fz) g, fun a b c d e f s g => k.rt a b c d e f (s.base (fun p z => by
    cases q : M' p with
    | none => exact absurd q z
    | some u =>
      rw [l.le p u q]
      exact fun w => nomatch w) l.fz) g, fun a b c d e f s g => k.bk a b c d e f (s.base (fun p z => by
    cases q : M' p with
    | none => exact absurd q z
    | some u =>
      rw [l.le p u q]
      exact fun w => nomatch w) l.fz) g, fun a b c d e f s g => k.ct a b c d e f (s.base (fun p z => by
    cases q : M' p with
    | none => exact absurd q z
    | some u =>
      rw [l.le p u q]
      exact fun w => nomatch w) l.fz) g⟩
/-- a slot's owned list or object is given away, ahead of a block -/
theorem ab_give (i : Nat) {p : Addr} {d : D} (hi : ρ[i]? = some (some (.adr p))) (hp : M p = some d) (hk : (∃ ds, d = .lst ds) ∨ ∃ C fs, d = .obj C fs) (h : AB X sts (ρ.set i (some d)) (delM M p) A) : AB X sts ρ M A := fun G H σ Dn n r k => by
  obtain ⟨G2, s, rp⟩ := Step.freeze n hp hk
  exact h G2 H σ Dn s.now (RepS.see i (r.mono s.g) hi fun v hv => by
    rw [rep_adr.mp hv]
    exact rp) (k.after s)
end
end Hr
set_option Elab.async false
set_option linter.all false
set_option maxRecDepth 100000
set_option maxHeartbeats 4000000
/-! HeirD: promises by data, calls, fields, built-ins, subscripts. -/
namespace Hr
open PySem L2
open PyProof.Rows (sortedS envOfC)

/-! ### promises -/
abbrev ASp := List D → Mm → (D → Mm → Prop) → Prop
def spA (F : ASp) : Sp := fun vs H Q _ => ∃ (G : Hp) (M : Mm) (ds : List D) (Post : D → Mm → Prop), Now G H M ∧ Reps G ds vs ∧ F ds M Post ∧ ∀ d M' v G' H', Post d M' → Step G H M G' H' M' → Rep G' d v → Q v H'
structure Sys where
  P : Program
  w : World
  K : PySem.W.Frag
  mg : Str → Option Value
  base : Heap
abbrev sysOf (X : Cx) : Sys := ⟨X.prog, X.w, X.K, X.mg, X.base⟩
/-- a global function keeps a promise -/
def Has (Y : Sys) (k : Nat) (x : Str) (F : ASp) : Prop := ∃ (f : Addr) (fd : FuncData) (ps : List Str), FnOk Y.P Y.w Y.K Y.mg Y.base CX0 k f fd ps (spA F) ∧ Y.mg x = some (.ref f) ∧ PySem.W.keepIn Y.K (.ref f) = true ∧ Binds Y.K fd ps []
/-- a method of a class -/
def HasM (Y : Sys) (k : Nat) (C : Addr) (m : Str) (F : ASp) : Prop := ∃ (f : Addr) (fd : FuncData) (ps : List Str), FnOk Y.P Y.w Y.K Y.mg Y.base CX0 k f fd ps (spA F) ∧ Meth Y.K C m f ∧ Binds Y.K fd ps []
/-- a class that is made by its __init__ -/
def HasK (Y : Sys) (k : Nat) (x : Str) (C : Addr) (F : ASp) : Prop := ∃ (f : Addr) (fd : FuncData) (ps : List Str), FnOk Y.P Y.w Y.K Y.mg Y.base CX0 k f fd ps (spA F) ∧ Mk Y.K C f ∧ Y.mg x = some (.ref C) ∧ Binds Y.K fd ps []
/-- a property -/
def HasP (Y : Sys) (k : Nat) (C : Addr) (m : Str) (F : ASp) : Prop := ∃ (p f : Addr) (fd : FuncData) (ps : List Str), FnOk Y.P Y.w Y.K Y.mg Y.base CX0 k f fd ps (spA F) ∧ PropOf Y.K C m p f ∧ Binds Y.K fd ps []

section
variable {P : Program} {w : World} {K : PySem.W.Frag} {mg : Str → Option Value} {base : Heap}
/-- a def keeps its promise, by its body -/
theorem fn_abs {x qual : Str} {st : Stmt} {f : Addr} {fd : FuncData} {N ps : List Str} {k : Nat} {F : ASp} (Fn : Fun K x qual st f fd) (S : FnScope N ps (defScope st)) (len : ∀ ds M Post, F ds M Post → ds.length = ps.length)
    (h : ∀ (cdv : Value) (A : Around) (outer : List Env) (s : Shared) (H : Hp) (E : XK), Room k (A.deeper (envOfC qual (defScope st) s.heap.objs.size f cdv)) → ∀ ds M Post, F ds M Post →
      AB (cxOf CX0 P w K mg base N qual (defScope st) f cdv A outer s H E).nox (defBody st) (ds.map some ++ List.replicate (N.length - ds.length) none) M { nx := fun _ M' => Post .non M', rt := Post }) :
    FnOk P w K mg base CX0 (k + 1) f fd ps (spA F) := by
  refine Fn.ok S (fun vs H Q E hs => ?_) (fun cdv A outer s H vs Q E hr hs => ?_)
  · obtain ⟨G, M, ds, Post, n, r, f, _⟩ := hs
    rw [r.length]
    exact len ds M Post f
  · obtain ⟨G, M, ds, Post, n, r, f, q⟩ := hs
    refine ⟨_, pb_w, h cdv A outer s H E hr ds M Post f G H _ _ n ?_ ⟨fun ρ' M' σ' G' H' p st _ => q .non M' .non G' H' p st (rep_non.mpr rfl), fun d M' v G' H' p st rv => q d M' v G' H' p st rv, fun _ _ _ _ _ p => p.elim, fun _ _ _ _ _ p => p.elim⟩⟩
    unfold L2.start
    rw [r.length]
    exact RepS.start _ r
end

section
variable {X : Cx} {ρ : Rh} {M : Mm} {e a b o c : Expr} {es rest : List Expr} {pos p apos : Pos} {k : Nat}
theorem ae_call {x : Str} {F : ASp} {Post : D → Mm → Prop} (hF : Has (sysOf X) k x F) (hr : Room k X.A) (hg : Gl X x) (h : AA X (e :: es) ρ M fun ds M1 => F ds M1 Post) (hdb : (x == ("__debug__" : Str)) = false := by decide) (he : starEach (e :: es) X.env = (false, eval e X.env) :: starEach es X.env := by rfl) (hpl : (backTo pos (starEach es X.env)).any (·.1) = false := by rfl) :
    AE X (.Call (.Name x p) (e :: es) [] pos) ρ M Post := fun G H σ Q n r kk => by
  obtain ⟨f, fd, ps, Fk, hm, hk, hb⟩ := hF
  exact wE_of (pe_call Fk hr hg hm hk hb .nil (E := E0) pass0 pa_w hdb he hpl) (h G H σ _ n r fun ds M1 vs G1 H1 p1 s1 r1 rvs => by
    rw [List.append_nil]
    exact ⟨G1, M1, ds, Post, s1.now, rvs, p1, fun d M' v G' H' p2 s2 rv => kk d M' v G' H' p2 (s1.trans s2) (r1.mono s2.g) rv⟩)
theorem rep_obj_at {G H : Hp} {M : Mm} (n : Now G H M) {C : Addr} {fs : List (Str × D)} {d : D} {v : V} (rv : Rep G d v) (hd : d = .obj C fs ∨ ∃ q, d = .adr q ∧ M q = some (.obj C fs)) : ∃ a dx fvs, v = .ref a ∧ H a = some (.ins C dx fvs) ∧ RepF G fs fvs := by
  rcases hd with rfl | ⟨q, rfl, hq⟩
  · obtain ⟨a, dx, fvs, h1, h2, h3⟩ := rep_obj.mp rv
    exact ⟨a, dx, fvs, h1, n.sub _ _ h2, h3⟩
  · obtain ⟨_, dx, fvs, h2, h3⟩ := n.own q _ hq
    exact ⟨q, dx, fvs, rep_adr.mp rv, h2, h3⟩
def lookD (f : Str) : List (Str × D) → Option D
  | [] => none
  | (g, d) :: r => if f = g then some d else lookD f r
theorem RepF.look {G : Hp} : ∀ {fs : List (Str × D)} {fvs : List (Str × V)} {f : Str}, RepF G fs fvs → (∀ d, lookD f fs = some d → ∃ v, fvs.lookup f = some v ∧ Rep G d v) ∧ (lookD f fs = none → fvs.lookup f = none)
  | [], _, f, h => by
    rw [repF_nil.mp h]
    exact And.intro (fun d e => by cases e) (fun _ => rfl)
  | (g, d) :: fs, _, f, h => by
    obtain ⟨x, r, rfl, h2, h3⟩ := repF_cons.mp h
    obtain ⟨i1, i2⟩ := RepF.look (f := f) h3
    unfold lookD
    rw [List.lookup_cons]
    by_cases e : f = g
    · subst e
      rw [if_pos rfl, beq_self_eq_true]
      exact ⟨fun d e => ⟨x, rfl, by cases e; exact h2⟩, fun z => nomatch z⟩
    · rw [if_neg e, show (f == g) = false from beq_eq_false_iff_ne.mpr e]
      exact ⟨i1, i2⟩
/-- o.f, a field -/
theorem ae_fld {f : Str} {Post : D → Mm → Prop} (h : AE X e ρ M fun d M1 => ∃ C fs d', (d = .obj C fs ∨ ∃ q, d = .adr q ∧ M1 q = some (.obj C fs)) ∧ Cls X.K C ∧ NoAttr X.K C f ∧ lookD f fs = some d' ∧ Post d' M1) (hb : attributeBase e f X.env (eval e X.env) = eval e X.env := by rfl) : AE X (.Attribute e f pos) ρ M Post := fun G H σ Q n r kk =>
  wE_of (pe_fld pe_w hb) (h G H σ _ n r fun d M1 v G1 H1 ⟨C, fs, d', hd, cl, na, hl, post⟩ s1 r1 rv => by
    obtain ⟨a, dx, fvs, h1, h2, h3⟩ := rep_obj_at s1.now rv hd
    obtain ⟨v', e1, e2⟩ := (RepF.look h3).1 d' hl
    exact ⟨a, C, dx, fvs, v', h1, h2, cl, na, e1, kk d' M1 v' G1 H1 post s1 r1 e2⟩)
/-- o.f, a property -/
theorem ae_prop {f : Str} {C : Addr} {F : ASp} {Post : D → Mm → Prop} (hF : HasP (sysOf X) k C f F) (cl : Cls X.K C) (hr : Room (k + 1) X.A) (h : AE X e ρ M fun d M1 => ∃ fs, (d = .obj C fs ∨ ∃ q, d = .adr q ∧ M1 q = some (.obj C fs)) ∧ F [d] M1 Post) (hb : attributeBase e f X.env (eval e X.env) = eval e X.env := by rfl) : AE X (.Attribute e f pos) ρ M Post := fun G H σ Q n r kk => by
  obtain ⟨p, g, fd, ps, Fk, hp, hbd⟩ := hF
  exact wE_of (pe_prop pe_w cl hp Fk hr hbd .nil (E := E0) pass0 hb) (h G H σ _ n r fun d M1 v G1 H1 ⟨fs, hd, post⟩ s1 r1 rv => by
    obtain ⟨a, dx, fvs, h1, h2, h3⟩ := rep_obj_at s1.now rv hd
    exact ⟨a, dx, fvs, h1, h2, G1, M1, [d], Post, s1.now, by rw [← h1]; exact reps_one rv, post, fun d M' v G' H' p2 s2 rv => kk d M' v G' H' p2 (s1.trans s2) (r1.mono s2.g) rv⟩)
/-- o.m(e, ..) -/
theorem ae_meth {m : Str} {C : Addr} {F : ASp} {Post : D → Mm → Prop} {pl : Sem Bool} (hF : HasM (sysOf X) k C m F) (cl : Cls X.K C) (hr : Room k X.A) (h : AE X o ρ M fun d M1 => ∃ fs, (d = .obj C fs ∨ ∃ q, d = .adr q ∧ M1 q = some (.obj C fs)) ∧ lookD m fs = none ∧ AA X (e :: es) ρ M1 fun ds M2 => F (d :: ds) M2 Post)
    (hst : starEach (e :: es) X.env = (false, eval e X.env) :: starEach es X.env := by rfl) (hpl : (backTo pos (starEach es X.env)).any (·.1) = false := by rfl)
    (ht : eval (.Call (.Attribute o m apos) (e :: es) [] pos) X.env = (do
      let ov ← eval o X.env
      standAt apos.atName
      let (f, first) ← holding [ov] (getMethod ov m pl)
      callWith pos f first (backTo pos (starEach (e :: es) X.env)) (backToKw pos (keywordEach [] X.env))) := by rfl) : AE X (.Call (.Attribute o m apos) (e :: es) [] pos) ρ M Post := fun G H σ Q n r kk => by
  obtain ⟨f, fd, ps, Fk, hm, hb⟩ := hF
  exact wE_of (pe_meth pe_w cl hm Fk hr hb .nil (E := E0) pass0 pa_w hst hpl ht) (h G H σ _ n r fun d M1 v G1 H1 ⟨fs, hd, hl, post⟩ s1 r1 rv => by
    obtain ⟨a, dx, fvs, h1, h2, h3⟩ := rep_obj_at s1.now rv hd
    refine ⟨a, dx, fvs, h1, h2, (RepF.look h3).2 hl, post G1 H1 σ _ s1.now r1 fun ds M2 vs G2 H2 p2 s2 r2 rvs => ?_⟩
    rw [List.append_nil]
    exact ⟨G2, M2, d :: ds, Post, s2.now, reps_cons.mpr ⟨v, vs, rfl, rv.mono s2.g, rvs⟩, p2, fun d M' v G' H' p3 s3 rv => kk d M' v G' H' p3 ((s1.trans s2).trans s3) (r2.mono s3.g) rv⟩)
theorem Step.hidden {G H : Hp} {M : Mm} (n : Now G H M) {p : Addr} {o : HO} (h : H p = none) : Step G H M G (upd H p o) M := by
  have hg : G p = none := n.sub.none h
  have hm : M p = none := n.fresh h
  refine ⟨⟨Ex.mut n.sub hg, fun q e hq => ?_⟩, Ex.refl G, fun a u _ e => Ex.new h a u e, fun a e => ?_, fun a e1 e2 => absurd e1 e2, fun q e => .inl e, fun q l e => ⟨e, fun u e => Ex.new h q u e⟩⟩
  · have hne : q ≠ p := ne_ofM hm hq
    obtain ⟨h1, h2⟩ := n.own q e hq
    exact ⟨h1, h2.mono (Ex.refl G) fun o e => by rw [upd_ne hne]; exact e⟩
  · by_cases z : a = p
    · subst z
      rw [upd_same]
      exact fun z => nomatch z
    · rw [upd_ne z]
      exact e
/-- C(e, ..): what __init__ makes of the new instance -/
theorem ae_make {x : Str} {C : Addr} {F : ASp} {Post : D → Mm → Prop} (hF : HasK (sysOf X) k x C F) (hr : Room (k + 1) X.A) (hg : Gl X x) (h : AA X (e :: es) ρ M fun ds M1 => ∀ q, M1 q = none → F (.adr q :: ds) (updM M1 q (.obj C [])) fun d M2 => d = .non ∧ ∃ fs, M2 q = some (.obj C fs) ∧ Post (.obj C fs) (delM M2 q))
    (hdb : (x == ("__debug__" : Str)) = false := by decide) (he : starEach (e :: es) X.env = (false, eval e X.env) :: starEach es X.env := by rfl) (hpl : (backTo pos (starEach es X.env)).any (·.1) = false := by rfl) : AE X (.Call (.Name x p) (e :: es) [] pos) ρ M Post := fun G H σ Q n r kk => by
  obtain ⟨f, fd, ps, Fk, mk, hm, hb⟩ := hF
  exact wE_of (pe_make mk Fk hr hg hm hb .nil (E := E0) pass0 pa_w hdb he hpl) (h G H σ _ n r fun ds M1 vs G1 H1 p1 s1 r1 rvs q dx hq hdx hne => by
    rw [List.append_nil]
    have sa := Step.hidden (o := .own q) s1.now hdx
    have sb := Step.allocO (o := .ins C dx []) (d := .obj C []) sa.now (show (upd H1 dx (.own q)) q = none by rw [upd_ne (Ne.symm hne)]; exact hq) ⟨dx, [], upd_same, repF_nil.mpr rfl⟩
    refine ⟨G1, updM M1 q (.obj C []), .adr q :: ds, _, sb.now, reps_cons.mpr ⟨.ref q, vs, rfl, rep_adr.mpr rfl, rvs⟩, p1 q (s1.now.fresh hq), fun d M' v G' H' ⟨ed, fs, e2, post⟩ s2 rv => ?_⟩
    subst ed
    refine ⟨rep_non.mp rv, ?_⟩
    obtain ⟨G2, s3, rp⟩ := Step.freeze s2.now e2 (.inr ⟨C, fs, rfl⟩)
    have sAll := (((s1.trans sa).trans sb).trans s2).trans s3
    exact kk _ _ _ G2 H' post sAll (r1.mono (((sa.g.trans sb.g).trans s2.g).trans s3.g)) rp)

/-! ### data behind an owned address -/
def deref (M : Mm) : D → D
  | .adr p => (M p).getD (.adr p)
  | d => d
theorem deref_own {p : Addr} {d : D} (h : M p = some d) : deref M (.adr p) = d := by
  show (M p).getD (.adr p) = d
  rw [h]
  rfl
theorem sqL_at {G H : Hp} (n : Now G H M) {d : D} {ds : List D} {v : V} (rv : Rep G d v) (hd : deref M d = .lst ds) : ∃ a xs, v = .ref a ∧ H a = some (.lst xs) ∧ Reps G ds xs := by
  cases d with
  | lst es =>
    cases (show D.lst es = .lst ds from hd)
    obtain ⟨a, xs, h1, h2, h3⟩ := rep_lst.mp rv
    exact ⟨a, xs, h1, n.sub _ _ h2, h3⟩
  | adr p =>
    have hd' : (M p).getD (.adr p) = .lst ds := hd
    cases q : M p with
    | none =>
      rw [q] at hd'
      cases hd'
    | some u =>
      rw [q] at hd'
      cases (show u = .lst ds from hd')
      obtain ⟨_, xs, h2, h3⟩ := n.own p _ q
      exact ⟨p, xs, rep_adr.mp rv, h2, h3⟩
  | _ => cases hd
theorem sqT_at {G H : Hp} (n : Now G H M) {ds : List D} {v : V} (rv : Rep G (.tup ds) v) : ∃ a xs, v = .ref a ∧ H a = some (.tup xs) ∧ Reps G ds xs := by
  obtain ⟨a, xs, h1, h2, h3⟩ := rep_tup.mp rv
  exact ⟨a, xs, h1, n.sub _ _ h2, h3⟩
/-- a list or a tuple of these -/
def IsSeq (M : Mm) (d : D) (ds : List D) : Prop := deref M d = .lst ds ∨ d = .tup ds ∨ d = .ptup ds
theorem rdT_at {G H : Hp} (n : Now G H M) {d : D} {ds : List D} {v : V} (rv : Rep G d v) (hd : d = .tup ds ∨ d = .ptup ds) : ∃ a xs, v = .ref a ∧ Rd H a (.tup xs) ∧ Reps G ds xs := by
  rcases hd with rfl | rfl
  · obtain ⟨a, xs, h1, h2, h3⟩ := sqT_at n rv
    exact ⟨a, xs, h1, .inl h2, h3⟩
  · obtain ⟨a, o, xs, h1, h2, _, _, h3⟩ := rep_ptup.mp rv
    exact ⟨a, xs, h1, .inr ⟨o, n.sub _ _ h2⟩, h3⟩
theorem sq_at {G H : Hp} (n : Now G H M) {d : D} {ds : List D} {v : V} (rv : Rep G d v) (hd : IsSeq M d ds) : ∃ a xs, v = .ref a ∧ (H a = some (.lst xs) ∨ Rd H a (.tup xs)) ∧ Reps G ds xs := by
  rcases hd with hd | hd
  · obtain ⟨a, xs, h1, h2, h3⟩ := sqL_at n rv hd
    exact ⟨a, xs, h1, .inl h2, h3⟩
  · obtain ⟨a, xs, h1, h2, h3⟩ := rdT_at n rv hd
    exact ⟨a, xs, h1, .inr h2, h3⟩
theorem sq_or {K : PySem.W.Frag} {H : Hp} {a : Addr} {xs : List V} (h : H a = some (.lst xs) ∨ Rd H a (.tup xs)) : SqL K H a xs ∨ SqT K H a xs := h.imp SqL.of Or.inl

/-! ### built-ins by values -/
def RC (r : List V → Hp → VK → Prop) (ds : List D) (M : Mm) (Post : D → Mm → Prop) : Prop :=
  ∀ (G H : Hp) (vs : List V) (Q : VK), Now G H M → Reps G ds vs → (∀ d' M' v' G' H', Post d' M' → Step G H M G' H' M' → Rep G' d' v' → Q v' H') → r vs H Q
theorem ae_callB {x : Str} {id : String} {r : List V → Hp → VK → Prop} {Post : D → Mm → Prop} (hc : CallR X (.builtin id) r) (hg : Gl X x) (hm : X.mg x = none) (hv : bootBuiltins x = some (.builtin id)) (h : AA X (e :: es) ρ M fun ds M1 => RC r ds M1 Post) (hn : x ≠ "__name__" := by decide) (hdb : (x == ("__debug__" : Str)) = false := by decide)
    (he : starEach (e :: es) X.env = (false, eval e X.env) :: starEach es X.env := by rfl) (hpl : (backTo pos (starEach es X.env)).any (·.1) = false := by rfl) : AE X (.Call (.Name x p) (e :: es) [] pos) ρ M Post := fun G H σ Q n r kk =>
  wE_of (pe_callB hc hg hm hv pa_w hn hdb he hpl) (h G H σ _ n r fun ds M1 vs G1 H1 p1 s1 r1 rvs => p1 G1 H1 vs Q s1.now rvs fun d M' v G' H' p2 s2 rv => kk d M' v G' H' p2 (s1.trans s2) (r1.mono s2.g) rv)
theorem ae_callTy {x : Str} {T : String} {r : List V → Hp → VK → Prop} {Post : D → Mm → Prop} (hc : CallR X (.type T) r) (hg : Gl X x) (hm : X.mg x = none) (hv : bootBuiltins x = some (.type T)) (h : AA X (e :: es) ρ M fun ds M1 => RC r ds M1 Post) (hn : x ≠ "__name__" := by decide) (hdb : (x == ("__debug__" : Str)) = false := by decide)
    (he : starEach (e :: es) X.env = (false, eval e X.env) :: starEach es X.env := by rfl) (hpl : (backTo pos (starEach es X.env)).any (·.1) = false := by rfl) : AE X (.Call (.Name x p) (e :: es) [] pos) ρ M Post := fun G H σ Q n r kk =>
  wE_of (pe_callTy hc hg hm hv pa_w hn hdb he hpl) (h G H σ _ n r fun ds M1 vs G1 H1 p1 s1 r1 rvs => p1 G1 H1 vs Q s1.now rvs fun d M' v G' H' p2 s2 rv => kk d M' v G' H' p2 (s1.trans s2) (r1.mono s2.g) rv)
theorem reps1 {G : Hp} {d : D} {vs : List V} (h : Reps G [d] vs) : ∃ v, vs = [v] ∧ Rep G d v := by
  obtain ⟨v, r, e, h1, h2⟩ := reps_cons.mp h
  cases reps_nil.mp h2
  exact ⟨v, e, h1⟩
theorem reps2 {G : Hp} {d d' : D} {vs : List V} (h : Reps G [d, d'] vs) : ∃ v v', vs = [v, v'] ∧ Rep G d v ∧ Rep G d' v' := by
  obtain ⟨v, r, e, h1, h2⟩ := reps_cons.mp h
  obtain ⟨v', rfl, h3⟩ := reps1 h2
  exact ⟨v, v', e, h1, h3⟩
theorem rc_len {K : PySem.W.Frag} {d : D} {ds : List D} {Post : D → Mm → Prop} (hd : IsSeq M d ds) (h : Post (.int (ds.length : Int)) M) : RC (fun xs H Q => ∃ p ys, xs = [.ref p] ∧ (SqL K H p ys ∨ SqT K H p ys) ∧ Q (.int ys.length) H) [d] M Post := fun G H vs Q n r kk => by
  obtain ⟨v, rfl, rv⟩ := reps1 r
  obtain ⟨a, xs, rfl, h2, h3⟩ := sq_at n rv hd
  refine ⟨a, xs, rfl, sq_or h2, ?_⟩
  rw [h3.length]
  exact kk _ M _ G H h (Step.refl n) (rep_int.mpr rfl)
theorem rc_lenS {z : Str} {Post : D → Mm → Prop} (hz : z.length ≤ 1000) (h : Post (.int (z.length : Int)) M) : RC (fun xs H Q => ∃ z, xs = [.str z] ∧ z.length ≤ sizeLine ∧ Q (.int z.length) H) [.str z] M Post := fun G H vs Q n r kk => by
  obtain ⟨v, rfl, rv⟩ := reps1 r
  cases rep_str.mp rv
  exact ⟨z, rfl, small hz, kk _ M _ G H h (Step.refl n) (rep_int.mpr rfl)⟩
theorem rc_abs {i : Int} {Post : D → Mm → Prop} (h : Post (.int (if i < 0 then -i else i)) M) : RC (fun xs H Q => ∃ i, xs = [.int i] ∧ Q (.int (if i < 0 then -i else i)) H) [.int i] M Post := fun G H vs Q n r kk => by
  obtain ⟨v, rfl, rv⟩ := reps1 r
  cases rep_int.mp rv
  exact ⟨i, rfl, kk _ M _ G H h (Step.refl n) (rep_int.mpr rfl)⟩
theorem rc_int {i : Int} {Post : D → Mm → Prop} (h : Post (.int i) M) : RC (fun xs H Q => (∃ i, xs = [.int i] ∧ Q (.int i) H) ∨ ∃ k, xs = [.bl k] ∧ Q (.int (if k then 1 else 0)) H) [.int i] M Post := fun G H vs Q n r kk => by
  obtain ⟨v, rfl, rv⟩ := reps1 r
  cases rep_int.mp rv
  exact .inl ⟨i, rfl, kk _ M _ G H h (Step.refl n) (rep_int.mpr rfl)⟩
theorem rc_strS {i : Str} {Post : D → Mm → Prop} (h : Post (.str i) M) : RC (fun xs H Q => ∃ a, xs = [.str a] ∧ Q (.str a) H) [.str i] M Post := fun G H vs Q n r kk => by
  obtain ⟨v, rfl, rv⟩ := reps1 r
  cases rep_str.mp rv
  exact ⟨i, rfl, kk _ M _ G H h (Step.refl n) (rep_str.mpr rfl)⟩
theorem rc_sum {K : PySem.W.Frag} {d : D} {ns : List Int} {Post : D → Mm → Prop} (hd : deref M d = .lst (ns.map .int)) (h : Post (.int ns.sum) M) : RC (rSum K) [d] M Post := fun G H vs Q n r kk => by
  obtain ⟨v, rfl, rv⟩ := reps1 r
  obtain ⟨a, xs, rfl, h2, h3⟩ := sqL_at n rv hd
  rw [reps_int h3] at h2
  exact ⟨a, ns, rfl, SqL.of h2, kk _ M _ G H h (Step.refl n) (rep_int.mpr rfl)⟩
theorem rc_all {K : PySem.W.Frag} {d : D} {ns : List Bool} {Post : D → Mm → Prop} (hd : deref M d = .lst (ns.map .bl)) (h : Post (.bl (ns.all id)) M) : RC (rAll K) [d] M Post := fun G H vs Q n r kk => by
  obtain ⟨v, rfl, rv⟩ := reps1 r
  obtain ⟨a, xs, rfl, h2, h3⟩ := sqL_at n rv hd
  rw [reps_bl h3] at h2
  exact ⟨a, ns, rfl, SqL.of h2, kk _ M _ G H h (Step.refl n) (rep_bl.mpr rfl)⟩
theorem rc_any {K : PySem.W.Frag} {d : D} {ns : List Bool} {Post : D → Mm → Prop} (hd : deref M d = .lst (ns.map .bl)) (h : Post (.bl (ns.any id)) M) : RC (rAny K) [d] M Post := fun G H vs Q n r kk => by
  obtain ⟨v, rfl, rv⟩ := reps1 r
  obtain ⟨a, xs, rfl, h2, h3⟩ := sqL_at n rv hd
  rw [reps_bl h3] at h2
  exact ⟨a, ns, rfl, SqL.of h2, kk _ M _ G H h (Step.refl n) (rep_bl.mpr rfl)⟩
theorem rc_sorted {K : PySem.W.Frag} {d : D} {ns : List Str} {Post : D → Mm → Prop} (hd : deref M d = .lst (ns.map .str)) (hl : ns.length < 64) (h : ∀ ys : List Str, ys.Perm ns → sortedS ys = true → Post (.lst (ys.map .str)) M) : RC (rSortedS K) [d] M Post := fun G H vs Q n r kk => by
  obtain ⟨v, rfl, rv⟩ := reps1 r
  obtain ⟨a, xs, rfl, h2, h3⟩ := sqL_at n rv hd
  rw [reps_str h3] at h2
  refine ⟨a, ns, rfl, SqL.of h2, hl, fun ys p hp hs hq => ?_⟩
  have st := Step.alloc (o := .lst (ys.map V.str)) n hq
  exact kk _ M _ _ _ (h ys hp hs) st (rep_lst.mpr ⟨p, _, rfl, upd_same, Reps.ofMap (fun _ => rep_str.mpr rfl) ys⟩)
theorem rc_tupleOf {K : PySem.W.Frag} {d : D} {ds : List D} {Post : D → Mm → Prop} (hd : deref M d = .lst ds ∨ d = .tup ds) (h : Post (.tup ds) M) : RC (fun xs H Q => ∃ p ys, xs = [.ref p] ∧ ((SqL K H p ys ∧ ∀ l, H l = none → Q (.ref l) (upd H l (.tup ys))) ∨ (SqT K H p ys ∧ Q (.ref p) H))) [d] M Post := fun G H vs Q n r kk => by
  obtain ⟨v, rfl, rv⟩ := reps1 r
  rcases hd with hd | rfl
  · obtain ⟨a, xs, rfl, h2, h3⟩ := sqL_at n rv hd
    refine ⟨a, xs, rfl, .inl ⟨SqL.of h2, fun l hl => ?_⟩⟩
    have st := Step.alloc (o := .tup xs) n hl
    exact kk _ M _ _ _ h st (rep_tup.mpr ⟨l, xs, rfl, upd_same, h3.mono st.g⟩)
  · obtain ⟨a, xs, rfl, h2, h3⟩ := sqT_at n rv
    exact ⟨a, xs, rfl, .inr ⟨SqT.of h2, kk _ M _ G H h (Step.refl n) rv⟩⟩
theorem rc_listOf {K : PySem.W.Frag} {d : D} {ds : List D} {Post : D → Mm → Prop} (hd : IsSeq M d ds) (h : Post (.lst ds) M) : RC (fun xs H Q => ∃ p ys, xs = [.ref p] ∧ (SqL K H p ys ∨ SqT K H p ys) ∧ ∀ l, H l = none → Q (.ref l) (upd H l (.lst ys))) [d] M Post := fun G H vs Q n r kk => by
  obtain ⟨v, rfl, rv⟩ := reps1 r
  obtain ⟨a, xs, rfl, h2, h3⟩ := sq_at n rv hd
  refine ⟨a, xs, rfl, sq_or h2, fun l hl => ?_⟩
  have st := Step.alloc (o := .lst xs) n hl
  exact kk _ M _ _ _ h st (rep_lst.mpr ⟨l, xs, rfl, upd_same, h3.mono st.g⟩)
theorem rc_listOfO {K : PySem.W.Frag} {d : D} {ds : List D} {Post : D → Mm → Prop} (hd : IsSeq M d ds) (h : ∀ q, M q = none → Post (.adr q) (updM M q (.lst ds))) : RC (fun xs H Q => ∃ p ys, xs = [.ref p] ∧ (SqL K H p ys ∨ SqT K H p ys) ∧ ∀ l, H l = none → Q (.ref l) (upd H l (.lst ys))) [d] M Post := fun G H vs Q n r kk => by
  obtain ⟨v, rfl, rv⟩ := reps1 r
  obtain ⟨a, xs, rfl, h2, h3⟩ := sq_at n rv hd
  refine ⟨a, xs, rfl, sq_or h2, fun l hl => ?_⟩
  have st := Step.allocO (o := .lst xs) (d := .lst ds) n hl ⟨xs, upd_same, h3⟩
  exact kk _ _ _ _ _ (h l (n.fresh hl)) st (rep_adr.mpr rfl)

/-! ### isinstance -/
theorem rc_isi {K : PySem.W.Frag} {d : D} {T S : String} {k : Bool} {Post : D → Mm → Prop} (ht : ∀ G H v, Now G H M → Rep G d v → TyX K H v (.type T)) (hk : kitB T S = some k) (h : Post (.bl k) M) : RC (rIsi K) [d, .ty S] M Post := fun G H vs Q n r kk => by
  obtain ⟨v, v', rfl, rv, rv'⟩ := reps2 r
  cases rep_ty.mp rv'
  exact ⟨v, _, _, _, k, rfl, .ty S, ht G H v n rv, kit_ty hk, kk _ M _ G H h (Step.refl n) (rep_bl.mpr rfl)⟩
theorem ty_int {K : PySem.W.Frag} {i : Int} : ∀ G H v, Now G H M → Rep G (.int i) v → TyX K H v (.type "int") := fun G H v n r => by
  cases rep_int.mp r
  exact .base (.int i)
theorem ty_str {K : PySem.W.Frag} {i : Str} : ∀ G H v, Now G H M → Rep G (.str i) v → TyX K H v (.type "str") := fun G H v n r => by
  cases rep_str.mp r
  exact .base (.str i)
theorem ty_tup {K : PySem.W.Frag} {ds : List D} : ∀ G H v, Now G H M → Rep G (.tup ds) v → TyX K H v (.type "tuple") := fun G H v n r => by
  obtain ⟨a, xs, rfl, h2, _⟩ := sqT_at n r
  exact .base (.tup h2)
theorem ty_ptup {K : PySem.W.Frag} {ds : List D} : ∀ G H v, Now G H M → Rep G (.ptup ds) v → TyX K H v (.type "tuple") := fun G H v n r => by
  obtain ⟨a, o, xs, rfl, h2, _⟩ := rep_ptup.mp r
  exact .fTuple (n.sub _ _ h2)
theorem ty_lst {K : PySem.W.Frag} {d : D} {ds : List D} (hd : deref M d = .lst ds) : ∀ G H v, Now G H M → Rep G d v → TyX K H v (.type "list") := fun G H v n r => by
  obtain ⟨a, xs, rfl, h2, _⟩ := sqL_at n r hd
  exact .base (.lst h2)
/-- isinstance(x, (S1, S2)) -/
theorem rc_isi2 {K : PySem.W.Frag} {d : D} {T S1 S2 : String} {k1 k2 : Bool} {Post : D → Mm → Prop} (ht : ∀ G H v, Now G H M → Rep G d v → TyX K H v (.type T)) (hk1 : kitB T S1 = some k1) (hk2 : kitB T S2 = some k2) (h : Post (.bl (k1 || k2)) M) : RC (rIsiT K) [d, .tup [.ty S1, .ty S2]] M Post := fun G H vs Q n r kk => by
  obtain ⟨v, v', rfl, rv, rv'⟩ := reps2 r
  obtain ⟨a, xs, rfl, h2, h3⟩ := sqT_at n rv'
  obtain ⟨w1, w2, rfl, q1, q2⟩ := reps2 h3
  cases rep_ty.mp q1
  cases rep_ty.mp q2
  refine ⟨v, a, _, _, [.type S1, .type S2], k1 || k2, rfl, h2, .cons (.ty S1) (.cons (.ty S2) .nil), ht G H v n rv, ?_, kk _ M _ G H h (Step.refl n) (rep_bl.mpr rfl)⟩
  refine kitAny_cons (kit_ty hk1) (fun e1 => ?_) (fun e1 => by rw [e1]; rfl)
  refine kitAny_cons (kit_ty hk2) (fun e2 => ?_) (fun e2 => by rw [e2, Bool.or_true])
  rw [e1, e2]
  exact kitAny_nil
theorem rc_isC {C : Addr} {d : D} {fs : List (Str × D)} {Post : D → Mm → Prop} (hd : d = .obj C fs ∨ ∃ q, d = .adr q ∧ M q = some (.obj C fs)) (h : Post (.bl true) M) : RC (fun xs H Q => ∃ a dx fs, xs = [.ref a, .ref C] ∧ H a = some (.ins C dx fs) ∧ Q (.bl true) H) [d, .adr C] M Post := fun G H vs Q n r kk => by
  obtain ⟨v, v', rfl, rv, rv'⟩ := reps2 r
  cases rep_adr.mp rv'
  obtain ⟨a, dx, fvs, rfl, h2, h3⟩ := rep_obj_at n rv hd
  exact ⟨a, dx, fvs, rfl, h2, kk _ M _ G H h (Step.refl n) (rep_bl.mpr rfl)⟩

/-! ### subscripts -/
theorem ae_ix {r : R2} {Post : D → Mm → Prop} (hr : IxR X r) (h : AE X a ρ M fun d M1 => AE X b ρ M1 fun e M2 => RR r d e M2 Post) (hs : PlainIx b := by exact fun _ _ => rfl) : AE X (.Subscript a b pos) ρ M Post := fun G H σ Q n r k =>
  wE_of (pe_ix hr pe_w pe_w hs) (h G H σ _ n r fun d M1 v G1 H1 p s1 r1 rv => p G1 H1 σ _ s1.now r1 fun e M2 u G2 H2 p2 s2 r2 ru =>
    p2 G2 H2 v u Q s2.now (rv.mono s2.g) ru fun d' M' v' G' H' p3 s3 r3 => k d' M' v' G' H' p3 ((s1.trans s2).trans s3) (r2.mono s3.g) r3)
theorem atI_map {ds : List D} {G : Hp} {xs : List V} (h : Reps G ds xs) {i : Int} {j : Nat} {d : D} (hi : ixN ds.length i = some j) (hj : ds[j]? = some d) : ∃ v, atI xs i = some v ∧ Rep G d v := by
  obtain ⟨v, e1, e2⟩ := h.get hj
  refine ⟨v, ?_, e2⟩
  unfold atI
  rw [h.length, hi]
  exact e1
theorem rr_ixT {K : PySem.W.Frag} {e : D} {ds : List D} {i : Int} (j : Nat) {d : D} {Post : D → Mm → Prop} (he : e = .tup ds ∨ e = .ptup ds) (hi : ixN ds.length i = some j) (hj : ds[j]? = some d) (h : Post d M) : RR (rIxT K) e (.int i) M Post := fun G H v u Q n rv ru k => by
  obtain ⟨a, xs, rfl, h2, h3⟩ := rdT_at n rv he
  cases rep_int.mp ru
  obtain ⟨v, e1, e2⟩ := atI_map h3 hi hj
  exact ⟨a, xs, i, v, rfl, rfl, Or.inl h2, e1, k d M v G H h (Step.refl n) e2⟩
theorem rr_ixL {K : PySem.W.Frag} {e : D} {ds : List D} {i : Int} (j : Nat) {d : D} {Post : D → Mm → Prop} (he : deref M e = .lst ds) (hi : ixN ds.length i = some j) (hj : ds[j]? = some d) (h : Post d M) : RR (rIxL K) e (.int i) M Post := fun G H v u Q n rv ru k => by
  obtain ⟨a, xs, rfl, h2, h3⟩ := sqL_at n rv he
  cases rep_int.mp ru
  obtain ⟨v, e1, e2⟩ := atI_map h3 hi hj
  exact ⟨a, xs, i, v, rfl, rfl, SqL.of h2, e1, k d M v G H h (Step.refl n) e2⟩
theorem ixN_of {n j : Nat} (h : j < n) : ixN n (j : Int) = some j := by
  unfold ixN
  rw [if_pos (by omega), if_pos (by omega)]
  simp
theorem ixN_last {n : Nat} (h : 0 < n) : ixN n (-1) = some (n - 1) := by
  unfold ixN
  rw [if_neg (by omega), if_pos (by omega)]
  congr 1
  omega

/-! ### in -/
theorem flat_str (l : List Str) : (l.map V.str).all flatV = true := by
  rw [List.all_map]
  exact List.all_eq_true.mpr fun _ _ => rfl
theorem in_str (x : Str) : ∀ l : List Str, inV (.str x) (l.map V.str) = decide (x ∈ l)
  | [] => rfl
  | y :: l => by
    have ih := in_str x l
    unfold inV at *
    rw [List.map_cons, List.any_cons, ih]
    have e : eqV (.str y) (.str x) = decide (y = x) := by
      unfold eqV
      by_cases h : y = x
      · simp [h]
      · simp [h]
    rw [e]
    by_cases h : y = x
    · subst h
      simp
    · have h' : ¬ x = y := fun q => h q.symm
      simp [h, h', List.mem_cons]
theorem rr_in {K : PySem.W.Frag} {x : Str} {d : D} {l : List Str} {neg : Bool} {Post : D → Mm → Prop} (hd : IsSeq M d (l.map .str)) (h : Post (.bl (if neg then !decide (x ∈ l) else decide (x ∈ l))) M) : RR (rIn K neg) (.str x) d M Post := fun G H v u Q n rv ru k => by
  cases rep_str.mp rv
  obtain ⟨a, xs, rfl, h2, h3⟩ := sq_at n ru hd
  rw [reps_str h3] at h2
  refine ⟨a, _, rfl, sq_or h2, rfl, flat_str l, k _ M _ G H h (Step.refl n) (rep_bl.mpr ?_)⟩
  rw [in_str]
end
end Hr
set_option Elab.async false
set_option linter.all false
set_option maxRecDepth 100000
set_option maxHeartbeats 4000000
/-! HeirE: walks, for, while, comprehensions. -/
namespace Hr
open PySem L2

/-! ### hidden objects -/
section
variable {G0 H0 G H : Hp} {M0 M : Mm} {Dl : Addr} {o : HO}
theorem Step.hwrite (s : Step G0 H0 M0 G H M) (h0 : H0 Dl = none) (hM : M Dl = none) (hG : G Dl = none) : Step G0 H0 M0 G (upd H Dl o) M := by
  refine ⟨⟨Ex.mut s.now.sub hG, fun q e hq => ?_⟩, s.g, fun a u hM0 ha => ?_, fun a ha => ?_, s.new, s.ownN, fun q l e => ⟨(s.fz q l e).1, fun u eu => by rw [upd_ne (ne_of_none eu h0)]; exact (s.fz q l e).2 u eu⟩⟩
  · have hne : q ≠ Dl := ne_ofM hM hq
    obtain ⟨h1, h2⟩ := s.now.own q e hq
    exact ⟨h1, h2.mono (Ex.refl G) fun o e => by rw [upd_ne hne]; exact e⟩
  · rw [upd_ne (ne_of_none ha h0)]
    exact s.old a u hM0 ha
  · by_cases z : a = Dl
    · subst z
      rw [upd_same]
      exact fun z => nomatch z
    · rw [upd_ne z]
      exact s.stay a ha
theorem Step.reveal (s : Step G0 H0 M0 G H M) (h0 : H0 Dl = none) (hM : M Dl = none) (hG : G Dl = none) (hD : H Dl = some o) : Step G0 H0 M0 (upd G Dl o) H M := by
  refine ⟨⟨fun a u e => ?_, fun q e hq => ?_⟩, s.g.trans (Ex.new hG), s.old, s.stay, fun a e1 e2 => ?_, s.ownN, s.fz⟩
  · by_cases z : a = Dl
    · subst z
      rw [upd_same] at e
      cases e
      exact hD
    · rw [upd_ne z] at e
      exact s.now.sub a u e
  · have hne : q ≠ Dl := ne_ofM hM hq
    obtain ⟨h1, h2⟩ := s.now.own q e hq
    exact ⟨by rw [upd_ne hne]; exact h1, h2.mono (Ex.new hG) fun _ e => e⟩
  · by_cases z : a = Dl
    · subst z
      exact .inl h0
    · rw [upd_ne z] at e2
      exact s.new a e1 e2
theorem Step.hown {d : D} (s : Step G0 H0 M0 G H M) (h0 : H0 Dl = none) (hM : M Dl = none) (hG : G Dl = none) (hD : Holds G H Dl d) : Step G0 H0 M0 G H (updM M Dl d) := by
  refine ⟨⟨s.now.sub, fun q e hq => ?_⟩, s.g, s.old, s.stay, s.new, fun q hq => ?_, fun q l e => ⟨by rw [updM_ne (ne_ofM hM (s.fz q l e).1)]; exact (s.fz q l e).1, (s.fz q l e).2⟩⟩
  · by_cases z : q = Dl
    · subst z
      rw [updM_same] at hq
      cases hq
      exact ⟨hG, hD⟩
    · rw [updM_ne z] at hq
      exact s.now.own q e hq
  · by_cases z : q = Dl
    · subst z
      exact .inr h0
    · rw [updM_ne z] at hq
      exact s.ownN q hq
/-- a hidden object stays hidden and stands -/
theorem Step.hid {G' H' : Hp} {M' : Mm} (s : Step G H M G' H' M') (hM : M Dl = none) (hG : G Dl = none) (hD : H Dl = some o) : M' Dl = none ∧ G' Dl = none ∧ H' Dl = some o := by
  refine ⟨?_, ?_, s.old Dl o hM hD⟩
  · cases e : M' Dl with
    | none => rfl
    | some d =>
      rcases s.ownN Dl (by rw [e]; exact fun z => nomatch z) with z | z
      · exact absurd hM z
      · rw [z] at hD
        cases hD
  · cases e : G' Dl with
    | none => rfl
    | some d =>
      rcases s.new Dl hG (by rw [e]; exact fun z => nomatch z) with z | z
      · rw [z] at hD
        cases hD
      · exact absurd hM z
end

/-! ### what is walked -/
/-- J yields the data ds, one after another, while Stb holds -/
def WalkJ (J : It) (ds : List D) (Stb : Mm → Prop) (G0 H0 : Hp) (M0 : Mm) : Prop :=
  ∀ (i : Nat) (G H : Hp) (M : Mm), Step G0 H0 M0 G H M → Stb M → (∀ d, ds[i]? = some d → J.go i H ∧ ∀ x H', J.yld i H x H' → ∃ G', Step G H M G' H' M ∧ Rep G' d x) ∧ (ds.length ≤ i → J.stop i H)
def AI (X : Cx) (tg iter : Expr) (ρ : Rh) (M : Mm) (Post : List D → (Mm → Prop) → Mm → Prop) : Prop :=
  ∀ (G H : Hp) (σ : L2.St) (R : It → Hp → Prop), Now G H M → RepS G ρ σ → (∀ ds Stb M1 G1 H1 J, Post ds Stb M1 → Step G H M G1 H1 M1 → RepS G1 ρ σ → WalkJ J ds Stb G1 H1 M1 → R J H1) → wI X tg iter σ H R
section
variable {X : Cx} {ρ : Rh} {M : Mm} {e a b c tg iter elt : Expr} {es rest : List Expr} {pos p apos : Pos}

/-- a list or a tuple -/
def iSeq (K : PySem.W.Frag) (tl : TE) : TI := fun σ H R => tl σ H fun x H1 => ∃ a, x = .ref a ∧ ((∃ xs, SqL K H1 a xs ∧ R (Itl K a) H1) ∨ ∃ xs, SqT K H1 a xs ∧ R (Itt K a) H1)
theorem pi_seq {l : Expr} {tl : TE} (hl : PE X l tl) : PI X tg l (iSeq X.K tl) := by
  refine ⟨fun pins s σ H R I h => ?_⟩
  refine thn (hl.run pins s σ H _ I h) fun v s1 ⟨x, H1, I1, r1, q1⟩ => ?_
  obtain ⟨a, e, q⟩ := q1
  subst e
  cases r1
  rcases q with ⟨xs, hq, q⟩ | ⟨xs, hq, q⟩
  · obtain ⟨its, rv, p, hz⟩ := I1.list hq
    refine wpAny_pyIter_list p.isList ?_
    refine ⟨s1.heap.objs.size, [s1.heap.objs.size], _, _, H1, rfl, I1.kept (t' := s1.toks) fun b o e => Heap.get?_push_of_some _ e, turn_list a _, ⟨_, Heap.get?_push_size _ rfl, rfl, rfl⟩, fun b hb => ?_, q⟩
    have e : b = s1.heap.objs.size := by simpa using hb
    subst e
    exact I1.fpOk (Nat.le_refl _) (I1.hok.fresh (Nat.le_refl _))
  · obtain ⟨its, rv, p, hz⟩ := I1.tuple hq
    refine wpAny_pyIter_tuple (show s1.heap.IsTuple a its.toArray from p) ?_
    refine ⟨s1.heap.objs.size, [s1.heap.objs.size], _, _, H1, rfl, I1.kept (t' := s1.toks) fun b o e => Heap.get?_push_of_some _ e, turn_tuple a _, ⟨_, Heap.get?_push_size _ rfl, rfl, rfl⟩, fun b hb => ?_, q⟩
    have e : b = s1.heap.objs.size := by simpa using hb
    subst e
    exact I1.fpOk (Nat.le_refl _) (I1.hok.fresh (Nat.le_refl _))
theorem walk_lst {K : PySem.W.Frag} {G1 H1 : Hp} {M1 : Mm} (n1 : Now G1 H1 M1) {d : D} {ds : List D} {v : V} {a : Addr} (rv : Rep G1 d v) (ea : v = .ref a) (hd : deref M1 d = .lst ds) : WalkJ (Itl K a) ds (fun M => deref M d = .lst ds) G1 H1 M1 := by
  intro i G H M sE st
  have n := sE.now
  have rv' := rv.mono sE.g
  obtain ⟨a', xs, e1, h2, h3⟩ := sqL_at n rv' st
  obtain rfl : a = a' := V.ref.inj (ea.symm.trans e1)
  refine ⟨fun d' hi => ?_, fun hi => ⟨xs, SqL.of h2, by rw [h3.length]; exact hi⟩⟩
  obtain ⟨x, e2, e3⟩ := h3.get hi
  refine ⟨⟨xs, x, SqL.of h2, e2⟩, fun y H' hy => ?_⟩
  obtain ⟨rfl, hy⟩ := hy
  have e4 := hy xs (SqL.of h2)
  rw [e2] at e4
  cases e4
  exact ⟨G, Step.refl n, e3⟩
theorem walk_tup {K : PySem.W.Frag} {G1 H1 : Hp} {M1 : Mm} {d : D} {ds : List D} {v : V} {a : Addr} (rv : Rep G1 d v) (hd : d = .tup ds ∨ d = .ptup ds) (ea : v = .ref a) : WalkJ (Itt K a) ds (fun _ => True) G1 H1 M1 := by
  intro i G H M sE st
  have n := sE.now
  have rv' := rv.mono sE.g
  obtain ⟨a', xs, e1, h2, h3⟩ := rdT_at n rv' hd
  obtain rfl : a = a' := V.ref.inj (ea.symm.trans e1)
  refine ⟨fun d' hi => ?_, fun hi => ⟨xs, Or.inl h2, by rw [h3.length]; exact hi⟩⟩
  obtain ⟨x, e2, e3⟩ := h3.get hi
  refine ⟨⟨xs, x, Or.inl h2, e2⟩, fun y H' hy => ?_⟩
  obtain ⟨rfl, hy⟩ := hy
  have e4 := hy xs (Or.inl h2)
  rw [e2] at e4
  cases e4
  exact ⟨G, Step.refl n, e3⟩
theorem ai_seq {Post : List D → (Mm → Prop) → Mm → Prop} (h : AE X iter ρ M fun d M1 => ∃ ds, IsSeq M1 d ds ∧ Post ds (fun M => IsSeq M d ds) M1) : AI X tg iter ρ M Post := fun G H σ R n r k =>
  wI_of (pi_seq pe_w) (h G H σ _ n r fun d M1 v G1 H1 ⟨ds, hd, post⟩ s1 r1 rv => by
    rcases hd with hd | hd
    · obtain ⟨a, xs, ea, h2, h3⟩ := sqL_at s1.now rv hd
      refine ⟨a, ea, .inl ⟨xs, SqL.of h2, k ds _ M1 G1 H1 _ post s1 r1 ?_⟩⟩
      intro i G H M sE st
      rcases st with st | st | st
      · exact walk_lst s1.now rv ea hd i G H M sE st
      · subst st
        cases hd
      · subst st
        cases hd
    · obtain ⟨a, xs, ea, h2, h3⟩ := rdT_at s1.now rv hd
      exact ⟨a, ea, .inr ⟨xs, .inl h2, k ds _ M1 G1 H1 _ post s1 r1 fun i G H M sE st => walk_tup rv hd ea i G H M sE True.intro⟩⟩)
theorem ai_range {Post : List D → (Mm → Prop) → Mm → Prop} (hg : Gl X "range") (hm : X.mg "range" = none) (h : AE X a ρ M fun d M1 => ∃ j : Nat, d = .int (j : Int) ∧ j ≤ 1000 ∧ Post ((List.range j).map fun i => D.int ((i : Nat) : Int)) (fun _ => True) M1) (hs : starEach [a] X.env = [(false, eval a X.env)] := by rfl) : AI X tg (.Call (.Name "range" p) [a] [] pos) ρ M Post := fun G H σ R n r k =>
  wI_of (pi_range1 hg hm pa_w hs) (wA_of (pa_cons pe_w pa_nil (by rw [hs]; rfl)) (h G H σ _ n r fun d M1 v G1 H1 ⟨j, ed, hj, post⟩ s1 r1 rv => by
    subst ed
    refine ⟨(j : Int), by rw [rep_int.mp rv], by omega, by omega, k _ _ M1 G1 H1 _ post s1 r1 ?_⟩
    intro i G H M sE st
    have n := sE.now
    refine ⟨fun d' hi => ?_, fun hi => ?_⟩
    · have hi' : i < j := by
        have := (List.getElem?_eq_some_iff.mp hi).1
        simpa using this
      rw [List.getElem?_map, List.getElem?_range hi'] at hi
      cases hi
      refine ⟨by show i < ((j : Int)).toNat; omega, fun y H' hy => ?_⟩
      obtain ⟨rfl, rfl⟩ := hy
      exact ⟨G, Step.refl n, rep_int.mpr (by rw [Int.zero_add])⟩
    · show ((j : Int)).toNat ≤ i
      simp at hi
      omega))
/-- reversed(a tuple or a list) -/
theorem ai_rev {Post : List D → (Mm → Prop) → Mm → Prop} (hg : Gl X "reversed") (hm : X.mg "reversed" = none) (h : AE X e ρ M fun d M1 => ∃ ds, d = .tup ds ∧ Post ds.reverse (fun _ => True) M1) (hs : starEach [e] X.env = (false, eval e X.env) :: starEach [] X.env := by rfl) : AI X tg (.Call (.Name "reversed" p) [e] [] pos) ρ M Post := fun G H σ R n r k =>
  wI_of (RT.pi_revA hg hm pe_w hs) (h G H σ _ n r fun d M1 v G1 H1 ⟨ds, ed, post⟩ s1 r1 rv => by
    subst ed
    obtain ⟨a, xs, ea, h2, h3⟩ := sqT_at s1.now rv
    refine ⟨a, xs, ea, .inr ⟨SqT.of h2, k _ _ M1 G1 H1 _ post s1 r1 ?_⟩⟩
    intro i G H M sE st
    have n := sE.now
    obtain ⟨a', xs', e1, h2', h3'⟩ := sqT_at n (rv.mono sE.g)
    obtain rfl : a = a' := V.ref.inj (ea.symm.trans e1)
    have hl : xs.length = ds.length := h3.length
    refine ⟨fun d' hi => ?_, fun hi => by show xs.length ≤ i; rw [List.length_reverse] at hi; omega⟩
    have hi' : i < ds.length := by
      have := (List.getElem?_eq_some_iff.mp hi).1
      simpa using this
    rw [List.getElem?_reverse hi'] at hi
    obtain ⟨x, e2, e3⟩ := h3'.get hi
    rw [← hl] at e2
    refine ⟨⟨by omega, xs', x, SqT.of h2', e2⟩, fun y H' hy => ?_⟩
    obtain ⟨rfl, hy⟩ := hy
    have e4 := hy xs' (SqT.of h2')
    rw [e2] at e4
    cases e4
    exact ⟨G, Step.refl n, e3⟩)
/-- a text, sign by sign -/
theorem ai_str {Post : List D → (Mm → Prop) → Mm → Prop} (h : AE X e ρ M fun d M1 => ∃ z : Str, d = .str z ∧ Post (z.cps.toList.map fun n => D.str ⟨#[n]⟩) (fun _ => True) M1) : AI X tg e ρ M Post := fun G H σ R n r k =>
  wI_of (pi_str pe_w) (h G H σ _ n r fun d M1 v G1 H1 ⟨z, ed, post⟩ s1 r1 rv => by
    subst ed
    refine ⟨z, rep_str.mp rv, k _ _ M1 G1 H1 _ post s1 r1 ?_⟩
    intro i G H M sE st
    have n := sE.now
    refine ⟨fun d' hi => ?_, fun hi => ?_⟩
    · rw [List.getElem?_map, Array.getElem?_toList] at hi
      obtain ⟨cc, e1, e2⟩ := Option.map_eq_some_iff.mp hi
      subst e2
      have hlt : i < z.cps.size := (Array.getElem?_eq_some_iff.mp e1).1
      refine ⟨hlt, fun y H' hy => ?_⟩
      obtain ⟨rfl, c, e3, e4⟩ := hy
      rw [e1] at e3
      cases e3
      exact ⟨G, Step.refl n, rep_str.mpr e4⟩
    · show z.cps.size ≤ i
      simpa using hi)

/-! ### for, while -/
theorem as_for {body : List Stmt} {A : AEnds} (h : AI X tg iter ρ M fun ds Stb M1 => ∃ Iv : Nat → Rh → Mm → Prop, Iv 0 ρ M1 ∧ (∀ i ρ' M', Iv i ρ' M' → Stb M') ∧
      (∀ i x ρ' M', ds[i]? = some x → Iv i ρ' M' → AG X tg ρ' x fun ρ2 => AB X body ρ2 M' { nx := Iv (i + 1), ct := Iv (i + 1), bk := A.nx, rt := A.rt }) ∧ (∀ ρ' M', Iv ds.length ρ' M' → A.nx ρ' M'))
    (hc : X.calm = true := by rfl) (hp : PassesOwn (model X.prog X.w) X.A X.env X.xe := by exact PassesOwn.never) (hs : ∀ x, foldedSetIterable iter X.env x = pure x := by intro _; rfl) : AS X (.For tg iter body [] pos) ρ M A := fun G H σ Dn n r k =>
  wS_of (ps_for hp hc pi_w pg_w pb_w hs) (h G H σ _ n r fun ds Stb M1 G1 H1 J ⟨Iv, p0, pS, pT, pE⟩ s1 r1 wj => by
    refine ⟨fun i m σ' H' => m = ds.length - i ∧ i ≤ ds.length ∧ ∃ ρ' M' G', Iv i ρ' M' ∧ Step G1 H1 M1 G' H' M' ∧ RepS G' ρ' σ', ⟨_, rfl, Nat.zero_le _, ρ, M1, G1, p0, Step.refl s1.now, r1⟩, ?_⟩
    rintro i m σ' H' ⟨rfl, hi, ρ', M', G', iv, s', r'⟩
    obtain ⟨w1, w2⟩ := wj i G' H' M' s' (pS i ρ' M' iv)
    by_cases hlt : i < ds.length
    · obtain ⟨go, yl⟩ := w1 _ (List.getElem?_eq_getElem hlt)
      refine .inr ⟨go, fun σ2 H2 => ∃ ρ2 M2 G2, Iv (i + 1) ρ2 M2 ∧ Step G1 H1 M1 G2 H2 M2 ∧ RepS G2 ρ2 σ2, fun σ2 H2 hN => ⟨ds.length - (i + 1), by omega, rfl, hlt, hN⟩, fun x H2 hy => ?_⟩
      obtain ⟨G2, s2, rx⟩ := yl x H2 hy
      have s02 := s'.trans s2
      refine pT i _ ρ' M' (List.getElem?_eq_getElem hlt) iv G2 H2 σ' x _ s2.now.sub (r'.mono s2.g) rx fun ρ3 σ3 hb r3 => ?_
      exact hb G2 H2 σ3 _ s2.now r3 ⟨fun ρ4 M4 σ4 G4 H4 p4 s4 r4 => ⟨ρ4, M4, G4, p4, s02.trans s4, r4⟩, fun d M4 v G4 H4 p4 s4 r4 => k.rt d M4 v G4 H4 p4 (s1.trans (s02.trans s4)) r4,
        fun ρ4 M4 σ4 G4 H4 p4 s4 r4 => k.nx ρ4 M4 σ4 G4 H4 p4 (s1.trans (s02.trans s4)) r4, fun ρ4 M4 σ4 G4 H4 p4 s4 r4 => ⟨ρ4, M4, G4, p4, s02.trans s4, r4⟩⟩
    · have e : i = ds.length := by omega
      subst e
      exact .inl ⟨w2 (Nat.le_refl _), k.nx ρ' M' σ' G' H' (pE ρ' M' iv) (s1.trans s') r'⟩)
theorem as_while {body : List Stmt} {A : AEnds} (Iv : Nat → Rh → Mm → Prop) (m0 : Nat) (h0 : Iv m0 ρ M) (h : ∀ m ρ' M', Iv m ρ' M' → AT X c ρ' M' fun k M2 => (k = true → AB X body ρ' M2 { nx := fun ρ2 M3 => ∃ m', m' < m ∧ Iv m' ρ2 M3, ct := fun ρ2 M3 => ∃ m', m' < m ∧ Iv m' ρ2 M3, bk := A.nx, rt := A.rt }) ∧ (k = false → A.nx ρ' M2))
    (hp : PassesOwn (model X.prog X.w) X.A X.env X.xe := by exact PassesOwn.never) : AS X (.While c body [] pos) ρ M A := fun G H σ Dn n r k =>
  wS_of (ps_while hp pt_w pb_w) (by
    refine ⟨fun m σ' H' => ∃ ρ' M' G', Iv m ρ' M' ∧ Step G H M G' H' M' ∧ RepS G' ρ' σ', ⟨m0, ρ, M, G, h0, Step.refl n, r⟩, ?_⟩
    rintro m σ' H' ⟨ρ', M', G', iv, s', r'⟩
    refine h m ρ' M' iv G' H' σ' _ s'.now r' fun b M2 G2 H2 ⟨p1, p2⟩ s2 r2 => ?_
    have s02 := s'.trans s2
    cases b with
    | true =>
      rw [if_pos rfl]
      refine ⟨fun σ3 H3 => ∃ m', m' < m ∧ ∃ ρ3 M3 G3, Iv m' ρ3 M3 ∧ Step G H M G3 H3 M3 ∧ RepS G3 ρ3 σ3, fun _ _ hN => hN, ?_⟩
      exact p1 rfl G2 H2 σ' _ s2.now r2 ⟨fun ρ4 M4 σ4 G4 H4 ⟨m', hm, p4⟩ s4 r4 => ⟨m', hm, ρ4, M4, G4, p4, s02.trans s4, r4⟩, fun d M4 v G4 H4 p4 s4 r4 => k.rt d M4 v G4 H4 p4 (s02.trans s4) r4,
        fun ρ4 M4 σ4 G4 H4 p4 s4 r4 => k.nx ρ4 M4 σ4 G4 H4 p4 (s02.trans s4) r4, fun ρ4 M4 σ4 G4 H4 ⟨m', hm, p4⟩ s4 r4 => ⟨m', hm, ρ4, M4, G4, p4, s02.trans s4, r4⟩⟩
    | false =>
      rw [if_neg Bool.false_ne_true]
      exact k.nx ρ' M2 σ' G2 H2 (p2 rfl) s02 r2)

/-! ### comprehensions -/
/-- a target of a comprehension, its names at the places vs -/
def AGc (X : Cx) (tg : Expr) (vs : List Nat) (ρ : Rh) (d : D) (Post : Rh → Prop) : Prop :=
  ∀ (G H : Hp) (σ : L2.St) (v : V) (Q : L2.St → Hp → Prop), Ex G H → RepS G ρ (L2.wipe σ vs) → Rep G d v → (∀ ρ' σ', Post ρ' → RepS G ρ' σ' → L2.wipe σ' vs = L2.wipe σ vs → Q σ' H) → wG X tg v (L2.wipe σ vs) H Q
theorem wipe_set {σ : L2.St} {i : Nat} {o : Option V} : ∀ {vs : List Nat}, i ∈ vs → L2.wipe (σ.set i o) vs = L2.wipe σ vs
  | [], h => nomatch h
  | v :: vs, h => by
    show (L2.wipe (σ.set i o) vs).set v none = (L2.wipe σ vs).set v none
    by_cases hv : i ∈ vs
    · rw [wipe_set hv]
    · rcases List.mem_cons.mp h with e | e
      · subst e
        have key : ∀ vs : List Nat, i ∉ vs → L2.wipe (σ.set i o) vs = (L2.wipe σ vs).set i o := fun vs => by
          induction vs with
          | nil => intro _; rfl
          | cons w ws ih =>
            intro hw
            show (L2.wipe (σ.set i o) ws).set w none = ((L2.wipe σ ws).set w none).set i o
            rw [ih fun z => hw (List.mem_cons_of_mem _ z), List.set_comm]
            exact fun z => hw (by rw [z]; exact List.mem_cons_self)
        rw [key vs hv, List.set_set]
      · exact absurd e hv
theorem wipe_idem {σ : L2.St} (vs : List Nat) : L2.wipe (L2.wipe σ vs) vs = L2.wipe σ vs := by
  have key : ∀ (ws : List Nat), (∀ w ∈ ws, w ∈ vs) → L2.wipe (L2.wipe σ ws) vs = L2.wipe σ vs := fun ws => by
    induction ws with
    | nil => intro _; rfl
    | cons w ws ih =>
      intro h
      show L2.wipe ((L2.wipe σ ws).set w none) vs = L2.wipe σ vs
      rw [wipe_set (h w List.mem_cons_self)]
      exact ih fun z hz => h z (List.mem_cons_of_mem _ hz)
  exact key vs fun _ h => h
theorem agc_name {vs : List Nat} (i : Nat) {x : Str} {d : D} {Post : Rh → Prop} (h : Post (ρ.set i (some d))) (hv : i ∈ vs) (hN : X.N.Nodup) (hi : X.N[i]? = some x := by rfl) (hx : Loc X.env.scope x := by first | exact Or.inl rfl | exact Or.inr rfl)
    (hf : X.fn x = true ∨ X.env.scope.names.lookup x = some .local := by first | exact .inl rfl | exact .inr rfl) : AGc X (.Name x pos) vs ρ d Post := fun G H σ v Q n r rv k =>
  wG_of (pg_name hN hi hx hf) (k _ _ h (r.set i rv) (by rw [wipe_set hv, wipe_idem]))
theorem agc_two {vs : List Nat} (i j : Nat) {x y : Str} {px py : Pos} {kt : Nat} {d d' : D} {Post : Rh → Prop} (h : Post ((ρ.set i (some d)).set j (some d'))) (hv : i ∈ vs) (hv' : j ∈ vs) (hc : X.calm = true) (hN : X.N.Nodup) (hi : X.N[i]? = some x := by rfl) (hj : X.N[j]? = some y := by rfl) (hx : Loc X.env.scope x := by first | exact Or.inl rfl | exact Or.inr rfl)
    (hy : Loc X.env.scope y := by first | exact Or.inl rfl | exact Or.inr rfl)
    (hf : X.fn x = true ∨ X.env.scope.names.lookup x = some .local := by first | exact .inl rfl | exact .inr rfl) (hf' : X.fn y = true ∨ X.env.scope.names.lookup y = some .local := by first | exact .inl rfl | exact .inr rfl) : AGc X (.Tuple [.Name x px, .Name y py] kt pos) vs ρ (.tup [d, d']) Post := fun G H σ v Q n r rv k => by
  obtain ⟨p, xs, e1, e2, e3⟩ := rep_tup.mp rv
  obtain ⟨v1, v2, rfl, q1, q2⟩ := reps2 e3
  refine wG_of (pg_tup hc (pgs_cons (pg_name hN hi hx hf) (pgs_cons (pg_name hN hj hy hf') pgs_nil))) ⟨p, [v1, v2], e1, SqT.of (n _ _ e2), rfl, v1, [v2], rfl, v2, [], rfl, rfl, ?_⟩
  exact k _ _ h ((r.set i q1).set j q2) (by rw [wipe_set hv', wipe_set hv, wipe_idem])

/-! the block's pieces, whatever the block's own records -/
def wPTs (X : Cx) (ifs : List Expr) : TT := fun σ H Q => ∀ (pins : List (Addr × Obj)) (s : Shared), Inv X pins σ H s →
  wpAny (model X.prog X.w) X.A (forIn ifs true fun c r => if r = true then do let ok ← isTrue c X.env (eval c X.env); pure (ForInStep.yield ok) else pure (ForInStep.yield r)) (TP X pins σ Q) X.xe s
def gU (X : Cx) (scope : Scope) (tg : Expr) : TG := fun v σ H Q => ∀ (s : Shared) (H0 : Hp) (C : Addr) (cl : List (Str × Addr)) (fp : List Addr), wG (X.blk s H0 scope (compEnvC scope cl C X.env) fp) tg v σ H Q
def tU (X : Cx) (scope : Scope) (ifs : List Expr) : TT := fun σ H Q => ∀ (s : Shared) (H0 : Hp) (C : Addr) (cl : List (Str × Addr)) (fp : List Addr), wPTs (X.blk s H0 scope (compEnvC scope cl C X.env) fp) ifs σ H Q
def eU (X : Cx) (scope : Scope) (e : Expr) : TE := fun σ H Q => ∀ (s : Shared) (H0 : Hp) (C : Addr) (cl : List (Str × Addr)) (fp : List Addr), wE (X.blk s H0 scope (compEnvC scope cl C X.env) fp) e σ H Q
theorem pg_U {scope : Scope} (s : Shared) (H0 : Hp) (C : Addr) (cl : List (Str × Addr)) (fp : List Addr) : PG (X.blk s H0 scope (compEnvC scope cl C X.env) fp) tg (gU X scope tg) := ⟨fun pins s' σ H v u Q I r hh => hh s H0 C cl fp pins s' u I r⟩
theorem pt_U {scope : Scope} {ifs : List Expr} (s : Shared) (H0 : Hp) (C : Addr) (cl : List (Str × Addr)) (fp : List Addr) : PTs (X.blk s H0 scope (compEnvC scope cl C X.env) fp) ifs (tU X scope ifs) := ⟨fun pins s' σ H Q I hh => hh s H0 C cl fp pins s' I⟩
theorem pe_U {scope : Scope} (s : Shared) (H0 : Hp) (C : Addr) (cl : List (Str × Addr)) (fp : List Addr) : PE (X.blk s H0 scope (compEnvC scope cl C X.env) fp) e (eU X scope e) := ⟨fun pins s' σ H Q I hh => hh s H0 C cl fp pins s' I⟩
def tLcU (X : Cx) (elt tg iter : Expr) (ifs : List Expr) (scope : Scope) (own : List (Str × Nat)) : TE := tLc (wI X tg iter) (gU X scope tg) (tU X scope ifs) (eU X scope elt) (own.map (·.2))
/-- a comprehension's reading by data -/
def AL (X : Cx) (elt tg iter : Expr) (ifs : List Expr) (scope : Scope) (own : List (Str × Nat)) (ρ : Rh) (M : Mm) (Post : D → Mm → Prop) : Prop :=
  ∀ (G H : Hp) (σ : L2.St) (Q : VK), Now G H M → RepS G ρ σ → (∀ d M' v G' H', Post d M' → Step G H M G' H' M' → RepS G' ρ σ → Rep G' d v → Q v H') → tLcU X elt tg iter ifs scope own σ H Q
theorem ae_L {ifs : List Expr} {scope : Scope} {Post : D → Mm → Prop} (own : List (Str × Nat)) (hc : X.calm = true) (hN : X.N.Nodup) (ok : BlkOk X.N X.env.scope scope own) (h : AL X elt tg iter ifs scope own ρ M Post)
    (hs : ∀ x, foldedSetIterable iter X.env x = pure x := by intro _; rfl) : AE X (.ListComp elt [⟨tg, iter, ifs, 0⟩] scope pos) ρ M Post := fun G H σ Q n r k =>
  wE_of (pe_lc (own := own) hc hN pi_w ok pg_U pt_U pe_U hs) (h G H σ Q n r k)
theorem as_setL (i : Nat) {ifs : List Expr} {scope : Scope} {y : Str} {py spos : Pos} {A : AEnds} (own : List (Str × Nat)) (hc : X.calm = true) (hN : X.N.Nodup) (ok : BlkOk X.N X.env.scope scope own) (h : AL X elt tg iter ifs scope own ρ M fun d M1 => A.nx (ρ.set i (some d)) M1)
    (hy : X.N[i]? = some y := by rfl) (hyl : X.env.scope.names.lookup y = some .local := by rfl) (hsw : swapsWith (.ListComp elt [⟨tg, iter, ifs, 0⟩] scope pos) (some (.Name y py)) spos.line X.env = pure true := by exact sw_true rfl rfl rfl (by decide +kernel))
    (hs : ∀ x, foldedSetIterable iter X.env x = pure x := by intro _; rfl) : AS X (.Assign [.Name y py] (.ListComp elt [⟨tg, iter, ifs, 0⟩] scope pos) spos) ρ M A := fun G H σ Dn n r k =>
  wS_of (ps_setLc (own := own) hc hN hy hyl hsw pi_w ok pg_U pt_U pe_U hs) (h G H σ _ n r fun d M1 v G1 H1 p s1 r1 rv => k.nx _ M1 _ G1 H1 p s1 (r1.set i rv))
/-- [elt for tg in iter], [elt for tg in iter if ..] -/
theorem al_G {ifs : List Expr} {scope : Scope} {own : List (Str × Nat)} {Post : D → Mm → Prop} (ATs : Rh → Mm → (Bool → Mm → Prop) → Prop)
    (hts : ∀ ρ M Po, ATs ρ M Po → ∀ (G H : Hp) (σ : L2.St) (Q : Bool → Hp → Prop), Now G H M → RepS G ρ σ → (∀ b M' G' H', Po b M' → Step G H M G' H' M' → RepS G' ρ σ → Q b H') → tU X scope ifs σ H Q)
    (h : AI X tg iter ρ M fun ds Stb M1 => ∃ Iv : Nat → List D → Mm → Prop, ds.length ≤ 1000 ∧ Iv 0 [] M1 ∧ (∀ i acc M', Iv i acc M' → Stb M' ∧ acc.length ≤ i) ∧
      (∀ i acc M' d, ds[i]? = some d → Iv i acc M' → ∀ (s : Shared) (H : Hp) (C : Addr) (cl : List (Str × Addr)) (fp : List Addr), AGc (X.blk s H scope (compEnvC scope cl C X.env) fp) tg (own.map (·.2)) (wipeR ρ (own.map (·.2))) d fun ρ2 =>
        ATs ρ2 M' fun b M2 => (b = true → ∀ (s : Shared) (H : Hp) (C : Addr) (cl : List (Str × Addr)) (fp : List Addr), AE (X.blk s H scope (compEnvC scope cl C X.env) fp) elt ρ2 M2 fun y M3 => Iv (i + 1) (acc ++ [y]) M3) ∧ (b = false → Iv (i + 1) acc M2)) ∧
      (∀ acc M', Iv ds.length acc M' → Post (.lst acc) M')) : AL X elt tg iter ifs scope own ρ M Post := fun G H σ Q n r k => by
  refine h G H σ _ n r fun ds Stb M1 G1 H1 J ⟨Iv, hl, p0, pS, pT, pE⟩ s1 r1 wj Dl hD => ?_
  have hM1 : M1 Dl = none := s1.now.fresh hD
  have hG1 : G1 Dl = none := s1.now.sub.none hD
  have h0 : H1 Dl = none := hD
  have sa := (Step.refl s1.now).hwrite (o := .lst []) h0 hM1 hG1
  refine ⟨fun i m H' => m = ds.length - i ∧ i ≤ ds.length ∧ ∃ acc M' G' xs, Iv i acc M' ∧ Step G1 H1 M1 G' H' M' ∧ RepS G' ρ σ ∧ M' Dl = none ∧ G' Dl = none ∧ H' Dl = some (.lst xs) ∧ Reps G' acc xs,
    ⟨_, rfl, Nat.zero_le _, [], M1, G1, [], p0, sa, r1, hM1, hG1, upd_same, reps_nil.mpr rfl⟩, ?_⟩
  rintro i m H' ⟨rfl, hi, acc, M', G', xs, iv, s', r', hM', hG', hD', rx⟩
  obtain ⟨st, hacc⟩ := pS i acc M' iv
  obtain ⟨w1, w2⟩ := wj i G' H' M' s' st
  by_cases hlt : i < ds.length
  · obtain ⟨go, yl⟩ := w1 _ (List.getElem?_eq_getElem hlt)
    refine .inr ⟨go, fun H2 => ∃ acc M' G' xs, Iv (i + 1) acc M' ∧ Step G1 H1 M1 G' H2 M' ∧ RepS G' ρ σ ∧ M' Dl = none ∧ G' Dl = none ∧ H2 Dl = some (.lst xs) ∧ Reps G' acc xs, fun H2 hN => ⟨ds.length - (i + 1), by omega, rfl, hlt, hN⟩, fun x H2 hy s0 H0 C cl fp => ?_⟩
    obtain ⟨G2, s2, rxd⟩ := yl x H2 hy
    obtain ⟨hM2, hG2, hD2⟩ := s2.hid hM' hG' hD'
    refine pT i acc M' _ (List.getElem?_eq_getElem hlt) iv s0 H0 C cl fp G2 H2 σ x _ s2.now.sub ((r'.mono s2.g).wipe _) rxd fun ρ3 σ3 hat r3 hw => ⟨hw, ?_⟩
    refine hts ρ3 M' _ hat G2 H2 σ3 _ s2.now r3 fun b M3 G3 H3 ⟨q1, q2⟩ s3 r3' => ?_
    obtain ⟨hM3, hG3, hD3⟩ := s3.hid hM2 hG2 hD2
    have s03 := (s'.trans s2).trans s3
    cases b with
    | true =>
      rw [if_pos rfl]
      intro s0 H0 C cl fp
      refine q1 rfl s0 H0 C cl fp G3 H3 σ3 _ s3.now r3' fun d4 M4 v4 G4 H4 p4 s4 r4 rv4 => ?_
      obtain ⟨hM4, hG4, hD4⟩ := s4.hid hM3 hG3 hD3
      have s04 := s03.trans s4
      have lx : xs.length ≤ 1000 := by rw [rx.length]; omega
      refine ⟨xs, hD4, small1000 lx, acc ++ [d4], M4, G4, xs ++ [v4], p4, s04.hwrite h0 hM4 hG4, r'.mono ((s2.g.trans s3.g).trans s4.g), hM4, hG4, upd_same, ?_⟩
      exact (rx.mono ((s2.g.trans s3.g).trans s4.g)).append (reps_one rv4)
    | false =>
      rw [if_neg Bool.false_ne_true]
      exact ⟨acc, M3, G3, xs, q2 rfl, s03, r'.mono (s2.g.trans s3.g), hM3, hG3, hD3, rx.mono (s2.g.trans s3.g)⟩
  · have e : i = ds.length := by omega
    subst e
    refine .inl ⟨w2 (Nat.le_refl _), ?_⟩
    have sr := s'.reveal h0 hM' hG' hD'
    exact k _ M' _ _ H' (pE acc M' iv) (s1.trans sr) (r'.mono (Ex.new hG')) (rep_lst.mpr ⟨Dl, xs, rfl, upd_same, rx.mono (Ex.new hG')⟩)
theorem al_0 {scope : Scope} {own : List (Str × Nat)} {Post : D → Mm → Prop}
    (h : AI X tg iter ρ M fun ds Stb M1 => ∃ Iv : Nat → List D → Mm → Prop, ds.length ≤ 1000 ∧ Iv 0 [] M1 ∧ (∀ i acc M', Iv i acc M' → Stb M' ∧ acc.length ≤ i) ∧
      (∀ i acc M' d, ds[i]? = some d → Iv i acc M' → ∀ (s : Shared) (H : Hp) (C : Addr) (cl : List (Str × Addr)) (fp : List Addr), AGc (X.blk s H scope (compEnvC scope cl C X.env) fp) tg (own.map (·.2)) (wipeR ρ (own.map (·.2))) d fun ρ2 =>
        ∀ (s : Shared) (H : Hp) (C : Addr) (cl : List (Str × Addr)) (fp : List Addr), AE (X.blk s H scope (compEnvC scope cl C X.env) fp) elt ρ2 M' fun y M3 => Iv (i + 1) (acc ++ [y]) M3) ∧
      (∀ acc M', Iv ds.length acc M' → Post (.lst acc) M')) : AL X elt tg iter [] scope own ρ M Post := by
  refine al_G (fun ρ2 M' Po => Po true M') (fun ρ M Po hp G H σ Q n r k s0 H0 C cl fp pins s' I => pts_nil.run pins s' σ H Q I (k true M G H hp (Step.refl n) r)) ?_
  refine fun G H σ R n r k => h G H σ R n r fun ds Stb M1 G1 H1 J ⟨Iv, hl, p0, pS, pT, pE⟩ => k ds Stb M1 G1 H1 J ⟨Iv, hl, p0, pS, fun i acc M' d hd iv s0 H0 C cl fp => ?_, pE⟩
  exact fun G H σ v Q e r rv kk => pT i acc M' d hd iv s0 H0 C cl fp G H σ v Q e r rv fun ρ' σ' hp => kk ρ' σ' ⟨fun _ => hp, fun z => nomatch z⟩
theorem al_1 {scope : Scope} {own : List (Str × Nat)} {Post : D → Mm → Prop}
    (h : AI X tg iter ρ M fun ds Stb M1 => ∃ Iv : Nat → List D → Mm → Prop, ds.length ≤ 1000 ∧ Iv 0 [] M1 ∧ (∀ i acc M', Iv i acc M' → Stb M' ∧ acc.length ≤ i) ∧
      (∀ i acc M' d, ds[i]? = some d → Iv i acc M' → ∀ (s : Shared) (H : Hp) (C : Addr) (cl : List (Str × Addr)) (fp : List Addr), AGc (X.blk s H scope (compEnvC scope cl C X.env) fp) tg (own.map (·.2)) (wipeR ρ (own.map (·.2))) d fun ρ2 =>
        ∀ (s : Shared) (H : Hp) (C : Addr) (cl : List (Str × Addr)) (fp : List Addr), AT (X.blk s H scope (compEnvC scope cl C X.env) fp) c ρ2 M' fun b M2 => (b = true → ∀ (s : Shared) (H : Hp) (C : Addr) (cl : List (Str × Addr)) (fp : List Addr), AE (X.blk s H scope (compEnvC scope cl C X.env) fp) elt ρ2 M2 fun y M3 => Iv (i + 1) (acc ++ [y]) M3) ∧ (b = false → Iv (i + 1) acc M2)) ∧
      (∀ acc M', Iv ds.length acc M' → Post (.lst acc) M')) : AL X elt tg iter [c] scope own ρ M Post :=
  al_G (fun ρ2 M' Po => ∀ (s : Shared) (H : Hp) (C : Addr) (cl : List (Str × Addr)) (fp : List Addr), AT (X.blk s H scope (compEnvC scope cl C X.env) fp) c ρ2 M' Po)
    (fun ρ M Po hp G H σ Q n r k s0 H0 C cl fp pins s' I => (pts_one (t := wT (X.blk s0 H0 scope (compEnvC scope cl C X.env) fp) c) pt_w).run pins s' σ H Q I (hp s0 H0 C cl fp G H σ Q n r k)) h
end
end Hr
set_option Elab.async false
set_option linter.all false
set_option maxRecDepth 100000
set_option maxHeartbeats 4000000
/-! HeirF: equality of data, slices, list and dict methods, fields stored, displays with a star; comprehensions of plain forms. -/
namespace Hr
open PySem L2

section
variable {X : Cx} {ρ : Rh} {M : Mm} {e a b c tg iter elt o : Expr} {es rest : List Expr} {pos p apos : Pos}

/-! ### equality of plain data -/
mutual
def ofP : PyData → D
  | .none => .non
  | .bool b => .bl b
  | .int i => .int i
  | .str s => .str s
  | .list xs => .lst (ofPs xs)
  | .tuple xs => .tup (ofPs xs)
  | .dict _ => .opq fun _ _ => False
def ofPs : List PyData → List D
  | [] => []
  | x :: xs => ofP x :: ofPs xs
end
mutual
theorem dp_of {K : PySem.W.Frag} {G H : Hp} (hE : Ex G H) : ∀ (d : PyData) {v : V}, Rep G (ofP d) v → Dp K H v d
  | .none, v, h => by
    simp only [ofP] at h
    cases rep_non.mp h
    exact .non
  | .bool b, v, h => by
    simp only [ofP] at h
    cases rep_bl.mp h
    exact .bl b
  | .int i, v, h => by
    simp only [ofP] at h
    cases rep_int.mp h
    exact .int i
  | .str s, v, h => by
    simp only [ofP] at h
    cases rep_str.mp h
    exact .str s
  | .list xs, v, h => by
    simp only [ofP] at h
    obtain ⟨a, vs, rfl, h2, h3⟩ := rep_lst.mp h
    exact .lst (SqL.of (hE _ _ h2)) (dp_all hE xs h3)
  | .tuple xs, v, h => by
    simp only [ofP] at h
    obtain ⟨a, vs, rfl, h2, h3⟩ := rep_tup.mp h
    exact .tup (SqT.of (hE _ _ h2)) (dp_all hE xs h3)
  | .dict _, v, h => by
    simp only [ofP] at h
    obtain ⟨_, _, z⟩ := rep_opq.mp h
    exact z.elim
theorem dp_all {K : PySem.W.Frag} {G H : Hp} (hE : Ex G H) : ∀ (ds : List PyData) {vs : List V}, Reps G (ofPs ds) vs → DpAll K H vs ds
  | [], vs, h => by
    simp only [ofPs] at h
    cases reps_nil.mp h
    exact .nil
  | d :: ds, vs, h => by
    simp only [ofPs] at h
    obtain ⟨x, r, rfl, h2, h3⟩ := reps_cons.mp h
    exact .cons (dp_of hE d h2) (dp_all hE ds h3)
end
/-- plain data, perhaps an owned list -/
theorem dp_at {K : PySem.W.Frag} {G H : Hp} (n : Now G H M) {d : D} {q : PyData} {v : V} (rv : Rep G d v) (hd : deref M d = ofP q) : Dp K H v q := by
  cases d with
  | adr p =>
    have hd' : (M p).getD (.adr p) = ofP q := hd
    cases e : M p with
    | none =>
      rw [e] at hd'
      cases q <;> simp [ofP] at hd'
    | some u =>
      rw [e] at hd'
      cases (show u = ofP q from hd')
      obtain ⟨_, hh⟩ := n.own p _ e
      cases q with
      | list xs =>
        simp only [ofP] at hh
        obtain ⟨vs, h1, h2⟩ := hh
        rw [rep_adr.mp rv]
        exact .lst (SqL.of h1) (dp_all n.sub xs h2)
      | _ =>
        simp only [ofP] at hh
        exact hh.elim
  | _ => exact dp_of n.sub q (by rw [← hd]; exact rv)
theorem rr_eqD {K : PySem.W.Frag} {x y : D} (q1 q2 : PyData) {Post : D → Mm → Prop} (h1 : deref M x = ofP q1) (h2 : deref M y = ofP q2) (s1 : SeqAt.shaped q1 = true) (s2 : SeqAt.shaped q2 = true) (h : Post (.bl (PyData.eqv q1 q2)) M) : RR (rEqD K) x y M Post := fun G H v u Q n rv ru k =>
  ⟨q1, q2, dp_at n rv h1, dp_at n ru h2, s1, s2, k _ M _ G H h (Step.refl n) (rep_bl.mpr rfl)⟩
theorem rr_neD {K : PySem.W.Frag} {x y : D} (q1 q2 : PyData) {Post : D → Mm → Prop} (h1 : deref M x = ofP q1) (h2 : deref M y = ofP q2) (s1 : SeqAt.shaped q1 = true) (s2 : SeqAt.shaped q2 = true) (h : Post (.bl (!PyData.eqv q1 q2)) M) : RR (rNeD K) x y M Post := fun G H v u Q n rv ru k =>
  ⟨q1, q2, dp_at n rv h1, dp_at n ru h2, s1, s2, k _ M _ G H h (Step.refl n) (rep_bl.mpr rfl)⟩
theorem ofPs_map {α : Type} (f : α → PyData) : ∀ l : List α, ofPs (l.map f) = l.map fun x => ofP (f x)
  | [] => by simp [ofPs]
  | x :: l => by
    rw [List.map_cons, List.map_cons, ← ofPs_map f l]
    simp only [ofPs]
theorem ofP_strs (l : List Str) : ofP (.list (l.map .str)) = .lst (l.map D.str) := by
  simp only [ofP]
  rw [ofPs_map]
  simp only [ofP]
theorem ofP_ints (l : List Int) : ofP (.list (l.map .int)) = .lst (l.map D.int) := by
  simp only [ofP]
  rw [ofPs_map]
  simp only [ofP]
theorem shaped_of {d : PyData} (h1 : d.canLay0 = true) (h2 : d.depth ≤ 64) : SeqAt.shaped d = true := by
  unfold SeqAt.shaped
  rw [h1, decide_eq_true h2]
  rfl
theorem shaped_strs {l : List Str} (h : ∀ x ∈ l, PySem.PyData.strOk x = true) : SeqAt.shaped (.list (l.map .str)) = true := by
  have k1 : ∀ l : List Str, (∀ x ∈ l, PySem.PyData.strOk x = true) → PyData.canLayAll0 (l.map .str) = true := fun l => by
    induction l with
    | nil => intro _; simp [PyData.canLayAll0]
    | cons x l ih =>
      intro h
      simp only [List.map_cons, PyData.canLayAll0, PyData.canLay0]
      rw [h x List.mem_cons_self, ih fun y hy => h y (List.mem_cons_of_mem _ hy)]
      rfl
  have k2 : ∀ l : List Str, PyData.depthAll (l.map .str) = 0 := fun l => by
    induction l with
    | nil => simp [PyData.depthAll]
    | cons x l ih =>
      simp only [List.map_cons, PyData.depthAll, PyData.depth]
      rw [ih]
      rfl
  refine shaped_of (by simpa [PyData.canLay0] using k1 l h) ?_
  simp only [PyData.depth]
  rw [k2]
  decide
theorem shaped_ints (l : List Int) : SeqAt.shaped (.list (l.map .int)) = true := by
  have k1 : ∀ l : List Int, PyData.canLayAll0 (l.map .int) = true := fun l => by
    induction l with
    | nil => simp [PyData.canLayAll0]
    | cons x l ih =>
      simp only [List.map_cons, PyData.canLayAll0, PyData.canLay0]
      rw [ih]
      rfl
  have k2 : ∀ l : List Int, PyData.depthAll (l.map .int) = 0 := fun l => by
    induction l with
    | nil => simp [PyData.depthAll]
    | cons x l ih =>
      simp only [List.map_cons, PyData.depthAll, PyData.depth]
      rw [ih]
      rfl
  refine shaped_of (by simpa [PyData.canLay0] using k1 l) ?_
  simp only [PyData.depth]
  rw [k2]
  decide
theorem shaped_nil : SeqAt.shaped (.list []) = true := by decide +kernel
theorem eqv_nilS (l : List Str) : PyData.eqv (.list (l.map .str)) (.list []) = l.isEmpty := by
  cases l with
  | nil => simp [PyData.eqv, PyData.eqvAll]
  | cons x l => simp [PyData.eqv, PyData.eqvAll]
theorem eqv_nilI (l : List Int) : PyData.eqv (.list (l.map .int)) (.list []) = l.isEmpty := by
  cases l with
  | nil => simp [PyData.eqv, PyData.eqvAll]
  | cons x l => simp [PyData.eqv, PyData.eqvAll]
/-- xs == [], xs != [] -/
theorem rr_eqNilS {K : PySem.W.Frag} {x : D} {l : List Str} {Post : D → Mm → Prop} (hx : deref M x = .lst (l.map .str)) (ho : ∀ z ∈ l, PySem.PyData.strOk z = true) (h : Post (.bl l.isEmpty) M) : RR (rEqD K) x (.lst []) M Post :=
  rr_eqD (.list (l.map .str)) (.list []) (by rw [hx, ofP_strs]) (by simp [deref, ofP, ofPs]) (shaped_strs ho) shaped_nil (by rw [eqv_nilS]; exact h)
theorem rr_neNilS {K : PySem.W.Frag} {x : D} {l : List Str} {Post : D → Mm → Prop} (hx : deref M x = .lst (l.map .str)) (ho : ∀ z ∈ l, PySem.PyData.strOk z = true) (h : Post (.bl (!l.isEmpty)) M) : RR (rNeD K) x (.lst []) M Post :=
  rr_neD (.list (l.map .str)) (.list []) (by rw [hx, ofP_strs]) (by simp [deref, ofP, ofPs]) (shaped_strs ho) shaped_nil (by rw [eqv_nilS]; exact h)
theorem rr_eqNilI {K : PySem.W.Frag} {x : D} {l : List Int} {Post : D → Mm → Prop} (hx : deref M x = .lst (l.map .int)) (h : Post (.bl l.isEmpty) M) : RR (rEqD K) x (.lst []) M Post :=
  rr_eqD (.list (l.map .int)) (.list []) (by rw [hx, ofP_ints]) (by simp [deref, ofP, ofPs]) (shaped_ints l) shaped_nil (by rw [eqv_nilI]; exact h)
theorem rr_neNilI {K : PySem.W.Frag} {x : D} {l : List Int} {Post : D → Mm → Prop} (hx : deref M x = .lst (l.map .int)) (h : Post (.bl (!l.isEmpty)) M) : RR (rNeD K) x (.lst []) M Post :=
  rr_neD (.list (l.map .int)) (.list []) (by rw [hx, ofP_ints]) (by simp [deref, ofP, ofPs]) (shaped_ints l) shaped_nil (by rw [eqv_nilI]; exact h)
/-- is None, is not None, is not a bool -/
theorem rr_isN {d : D} {k : Bool} {Post : D → Mm → Prop} (hd : ∀ (G : Hp) v, Rep G d v → decide (v = V.non) = k) (h : Post (.bl k) M) : RR (fun x y H Q => y = .non ∧ Q (.bl (decide (x = .non))) H) d .non M Post := fun G H v u Q n rv ru kk =>
  ⟨rep_non.mp ru, by
    rw [hd G v rv]
    exact kk _ M _ G H h (Step.refl n) (rep_bl.mpr rfl)⟩
theorem rr_notN {d : D} {k : Bool} {Post : D → Mm → Prop} (hd : ∀ (G : Hp) v, Rep G d v → decide (v = V.non) = k) (h : Post (.bl (!k)) M) : RR (fun x y H Q => y = .non ∧ Q (.bl (!decide (x = .non))) H) d .non M Post := fun G H v u Q n rv ru kk =>
  ⟨rep_non.mp ru, by
    rw [hd G v rv]
    exact kk _ M _ G H h (Step.refl n) (rep_bl.mpr rfl)⟩
theorem non_non : ∀ (G : Hp) v, Rep G .non v → decide (v = V.non) = true := fun G v h => by
  rw [rep_non.mp h]
  rfl
theorem non_int {i : Int} : ∀ (G : Hp) v, Rep G (.int i) v → decide (v = V.non) = false := fun G v h => by
  rw [rep_int.mp h]
  rfl
theorem rr_notBl {i j : Bool} {Post : D → Mm → Prop} (h : Post (.bl (!decide (i = j))) M) : RR rNotB (.bl i) (.bl j) M Post := fun G H v u Q n rv ru k =>
  ⟨i, j, rep_bl.mp rv, rep_bl.mp ru, k _ M _ G H h (Step.refl n) (rep_bl.mpr rfl)⟩
theorem rr_inSign {cc : Nat} {z : Str} {Post : D → Mm → Prop} (h : Post (.bl (decide (cc ∈ z.cps.toList))) M) : RR (fun x y H Q => ∃ (c : Nat) (z : Str), x = .str ⟨#[c]⟩ ∧ y = .str z ∧ Q (.bl (decide (c ∈ z.cps.toList))) H) (.str ⟨#[cc]⟩) (.str z) M Post := fun G H v u Q n rv ru k =>
  ⟨cc, z, rep_str.mp rv, rep_str.mp ru, k _ M _ G H h (Step.refl n) (rep_bl.mpr rfl)⟩

/-! ### slices -/
def cutD {α : Type} (xs : List α) (lo hi : Option Int) : List α := (xs.drop (HT.sIx xs.length 0 lo)).take (HT.sIx xs.length xs.length hi - HT.sIx xs.length 0 lo)
theorem Reps.cut {G : Hp} {ds : List D} {xs : List V} (h : Reps G ds xs) (lo hi : Option Int) : Reps G (cutD ds lo hi) (cutV xs lo hi) := by
  unfold cutD cutV
  rw [h.length]
  exact (h.drop _).take _
def wO (X : Cx) (e : Option Expr) : TO := fun σ H Q => ∀ (pins : List (Addr × Obj)) (s : Shared), Inv X pins σ H s →
  wpAny (model X.prog X.w) X.A (evalPart e X.env) (fun u s' => ∃ o H', Inv X pins σ H' s' ∧ IsPart u o ∧ Q o H') X.xe s
theorem po_w {e : Option Expr} : PO X e (wO X e) := ⟨fun pins s _ _ _ I h => h pins s I⟩
def AO (X : Cx) (e : Option Expr) (ρ : Rh) (M : Mm) (Post : Option Int → Mm → Prop) : Prop :=
  ∀ (G H : Hp) (σ : L2.St) (Q : Option Int → Hp → Prop), Now G H M → RepS G ρ σ → (∀ o M' G' H', Post o M' → Step G H M G' H' M' → RepS G' ρ σ → Q o H') → wO X e σ H Q
theorem ao_none {Post : Option Int → Mm → Prop} (h : Post none M) : AO X none ρ M Post := fun G H σ Q n r k pins s I => po_none.run pins s σ H Q I (k none M G H h (Step.refl n) r)
theorem ao_some {Post : Option Int → Mm → Prop} (h : AE X e ρ M fun d M1 => ∃ i, d = .int i ∧ Post (some i) M1) : AO X (some e) ρ M Post := fun G H σ Q n r k pins s I => (po_some pe_w).run pins s σ H Q I
  (h G H σ _ n r fun d M1 v G1 H1 ⟨i, ed, p⟩ s1 r1 rv => ⟨i, by
    subst ed
    exact rep_int.mp rv, k (some i) M1 G1 H1 p s1 r1⟩)
def RSl (r : V → Option Int → Option Int → Hp → VK → Prop) (d : D) (lo hi : Option Int) (M : Mm) (Post : D → Mm → Prop) : Prop :=
  ∀ (G H : Hp) (v : V) (Q : VK), Now G H M → Rep G d v → (∀ d' M' v' G' H', Post d' M' → Step G H M G' H' M' → Rep G' d' v' → Q v' H') → r v lo hi H Q
theorem ae_slice {r : V → Option Int → Option Int → Hp → VK → Prop} {lo hi : Option Expr} {p2 : Pos} {Post : D → Mm → Prop} (hr : SlR X r) (h : AE X e ρ M fun d M1 => AO X lo ρ M1 fun l M2 => AO X hi ρ M2 fun u M3 => RSl r d l u M3 Post) : AE X (.Subscript e (.Slice lo hi none p2) pos) ρ M Post := fun G H σ Q n r k =>
  wE_of (pe_slice hr pe_w po_w po_w) (h G H σ _ n r fun d M1 v G1 H1 p1 s1 r1 rv => p1 G1 H1 σ _ s1.now r1 fun l M2 G2 H2 p2 s2 r2 => p2 G2 H2 σ _ s2.now r2 fun u M3 G3 H3 p3 s3 r3 =>
    p3 G3 H3 v Q s3.now ((rv.mono s2.g).mono s3.g) fun d' M' v' G' H' p4 s4 r4 => k d' M' v' G' H' p4 (((s1.trans s2).trans s3).trans s4) (r3.mono s4.g) r4)
theorem rsl_list {K : PySem.W.Frag} {d : D} {ds : List D} {lo hi : Option Int} {Post : D → Mm → Prop} (hd : deref M d = .lst ds) (h : Post (.lst (cutD ds lo hi)) M) : RSl (rSlL K) d lo hi M Post := fun G H v Q n rv k => by
  obtain ⟨a, xs, rfl, h2, h3⟩ := sqL_at n rv hd
  refine ⟨a, xs, rfl, SqL.of h2, fun q hq => ?_⟩
  have st := Step.alloc (o := .lst (cutV xs lo hi)) n hq
  exact k _ M _ _ _ h st (rep_lst.mpr ⟨q, _, rfl, upd_same, (h3.cut lo hi).mono st.g⟩)
theorem rsl_listX {d : D} {ns : List Int} {lo hi : Option Int} {Post : D → Mm → Prop} {K : PySem.W.Frag} {P : Hp → V → Prop} (hd : d = .opq P) (hP : ∀ G0 v, P G0 v → ∃ a, v = .ref a ∧ SqL K G0 a (ns.map V.int)) (h : Post (.lst (cutD (ns.map D.int) lo hi)) M) : RSl (rSlL K) d lo hi M Post := fun G H v Q n rv k => by
  subst hd
  obtain ⟨G0, hE, hp⟩ := rep_opq.mp rv
  obtain ⟨a, rfl, hq⟩ := hP G0 v hp
  have hq' : SqL K H a (ns.map V.int) := by
    rcases hq with (hq | ⟨o, hq⟩) | hq
    · exact .inl (.inl (n.sub _ _ (hE _ _ hq)))
    · exact .inl (.inr ⟨o, n.sub _ _ (hE _ _ hq)⟩)
    · exact .inr hq
  refine ⟨a, _, rfl, hq', fun q hq => ?_⟩
  have st := Step.alloc (o := .lst (cutV (ns.map V.int) lo hi)) n hq
  exact k _ M _ _ _ h st (rep_lst.mpr ⟨q, _, rfl, upd_same, (Reps.ofMap (fun _ => rep_int.mpr rfl) ns).cut lo hi⟩)
theorem rsl_tup {K : PySem.W.Frag} {d : D} {ds : List D} {lo hi : Option Int} {Post : D → Mm → Prop} (hd : d = .tup ds ∨ d = .ptup ds) (hw : ¬ (HT.sIx ds.length 0 lo = 0 ∧ HT.sIx ds.length ds.length hi = ds.length)) (h : Post (.tup (cutD ds lo hi)) M) : RSl (rSlT K) d lo hi M Post := fun G H v Q n rv k => by
  obtain ⟨a, xs, rfl, h2, h3⟩ := rdT_at n rv hd
  refine ⟨a, xs, rfl, .inl h2, by rw [h3.length]; exact hw, fun q hq => ?_⟩
  have st := Step.alloc (o := .tup (cutV xs lo hi)) n hq
  exact k _ M _ _ _ h st (rep_tup.mpr ⟨q, _, rfl, upd_same, (h3.cut lo hi).mono st.g⟩)
/-- xs[::-1] -/
theorem ae_revL {Post : D → Mm → Prop} {k : Nat} {p1 p2 p3 : Pos} (h : AE X e ρ M fun d M1 => ∃ ds, deref M1 d = .lst ds ∧ Post (.lst ds.reverse) M1) : AE X (.Subscript e (.Slice none none (some (.UnaryOp .USub (.Constant (.int 1) k p1) p2)) p3) pos) ρ M Post := fun G H σ Q n r kk =>
  wE_of (pe_revL pe_w) (h G H σ _ n r fun d M1 v G1 H1 ⟨ds, hd, post⟩ s1 r1 rv => by
    obtain ⟨a, xs, ea, h2, h3⟩ := sqL_at s1.now rv hd
    refine ⟨a, xs, ea, SqL.of h2, fun q hq => ?_⟩
    have st := Step.alloc (o := .lst xs.reverse) s1.now hq
    exact kk _ M1 _ _ _ post (s1.trans st) (r1.mono st.g) (rep_lst.mpr ⟨q, _, rfl, upd_same, h3.reverse.mono st.g⟩))
theorem ae_revLO {Post : D → Mm → Prop} {k : Nat} {p1 p2 p3 : Pos} (h : AE X e ρ M fun d M1 => ∃ ds, deref M1 d = .lst ds ∧ ∀ q, M1 q = none → Post (.adr q) (updM M1 q (.lst ds.reverse))) : AE X (.Subscript e (.Slice none none (some (.UnaryOp .USub (.Constant (.int 1) k p1) p2)) p3) pos) ρ M Post := fun G H σ Q n r kk =>
  wE_of (pe_revL pe_w) (h G H σ _ n r fun d M1 v G1 H1 ⟨ds, hd, post⟩ s1 r1 rv => by
    obtain ⟨a, xs, ea, h2, h3⟩ := sqL_at s1.now rv hd
    refine ⟨a, xs, ea, SqL.of h2, fun q hq => ?_⟩
    have st := Step.allocO (o := .lst xs.reverse) (d := .lst ds.reverse) s1.now hq ⟨_, upd_same, h3.reverse⟩
    exact kk _ _ _ _ _ (post q (s1.now.fresh hq)) (s1.trans st) (r1.mono st.g) (rep_adr.mpr rfl))

/-! ### + of lists and tuples -/
theorem rr_cat {x y : D} {ds es : List D} {Post : D → Mm → Prop} (hx : deref M x = .lst ds) (hy : deref M y = .lst es) (hl : ds.length + es.length ≤ 1000) (h : Post (.lst (ds ++ es)) M) : RR rCat x y M Post := fun G H v u Q n rv ru k => by
  obtain ⟨a, xs, rfl, h2, h3⟩ := sqL_at n rv hx
  obtain ⟨b, ys, rfl, h4, h5⟩ := sqL_at n ru hy
  refine ⟨a, b, xs, ys, rfl, rfl, h2, h4, by rw [h3.length, h5.length]; exact small hl, fun q hq => ?_⟩
  have st := Step.alloc (o := .lst (xs ++ ys)) n hq
  exact k _ M _ _ _ h st (rep_lst.mpr ⟨q, _, rfl, upd_same, (h3.append h5).mono st.g⟩)
theorem rr_catT {K : PySem.W.Frag} {ds es : List D} {Post : D → Mm → Prop} (hl : ds.length + es.length ≤ 1000) (h : Post (.tup (ds ++ es)) M) : RR (rCatA K) (.tup ds) (.tup es) M Post := fun G H v u Q n rv ru k => by
  obtain ⟨a, xs, rfl, h2, h3⟩ := sqT_at n rv
  obtain ⟨b, ys, rfl, h4, h5⟩ := sqT_at n ru
  refine ⟨a, b, xs, ys, rfl, rfl, SqT.of h2, SqT.of h4, by rw [h3.length, h5.length]; exact small hl, fun e => ?_, fun e1 e2 => ?_, fun _ _ q hq => ?_⟩
  · have hz : ds = [] := List.eq_nil_of_length_eq_zero (by rw [← h3.length, e]; rfl)
    subst hz
    exact k _ M _ G H h (Step.refl n) ru
  · have hz : es = [] := List.eq_nil_of_length_eq_zero (by rw [← h5.length, e2]; rfl)
    subst hz
    exact k _ M _ G H h (Step.refl n) (by rw [List.append_nil]; exact rv)
  · have st := Step.alloc (o := .tup (xs ++ ys)) n hq
    exact k _ M _ _ _ h st (rep_tup.mpr ⟨q, _, rfl, upd_same, (h3.append h5).mono st.g⟩)

/-! ### methods of lists -/
def RM (r : V → List V → Hp → VK → Prop) (d : D) (ds : List D) (M : Mm) (Post : D → Mm → Prop) : Prop :=
  ∀ (G H : Hp) (v : V) (vs : List V) (Q : VK), Now G H M → Rep G d v → Reps G ds vs → (∀ d' M' v' G' H', Post d' M' → Step G H M G' H' M' → Rep G' d' v' → Q v' H') → r v vs H Q
theorem ae_bmL {name : Str} {id : String} {r : V → List V → Hp → VK → Prop} {Post : D → Mm → Prop} (pa : PlainAttrs "list") (slot : Slot "list" name id) (hty : typeOf (.builtin id) = pure (.type "method_descriptor")) (hm : MtR X id r)
    (h : AE X o ρ M fun d M1 => (∃ ds, deref M1 d = .lst ds) ∧ AA X (e :: es) ρ M1 fun xs M2 => RM r d xs M2 Post)
    (hbase : attributeBase o name X.env (eval o X.env) = eval o X.env := by rfl)
    (hfew : ((backTo pos (starEach (e :: es) X.env)).all (fun x => !x.1) && (backToKw pos (keywordEach [] X.env)).all (fun x => x.1.isSome)
      && decide ((e :: es).length + ([] : List Keyword).length + (if ([] : List Keyword).isEmpty then 0 else 1) < 30)) = true := by rfl)
    (hline : (apos.endLine == pos.line) = true := by rfl) (hs : starEach (e :: es) X.env = (false, eval e X.env) :: starEach es X.env := by rfl) (hplain : (backTo pos (starEach es X.env)).any (·.1) = false := by rfl) :
    AE X (.Call (.Attribute o name apos) (e :: es) [] pos) ρ M Post := fun G H σ Q n r k =>
  wE_of (pe_bm pa slot hty hm pe_w pa_w hbase hfew hline hs hplain) (h G H σ _ n r fun d M1 v G1 H1 ⟨⟨ds, hd⟩, p1⟩ s1 r1 rv => by
    obtain ⟨a, xs, ea, h2, h3⟩ := sqL_at s1.now rv hd
    refine ⟨?_, p1 G1 H1 σ _ s1.now r1 fun ds M2 vs G2 H2 p2 s2 r2 rvs => p2 G2 H2 v vs Q s2.now (rv.mono s2.g) rvs fun d' M' v' G' H' p3 s3 r3 => k d' M' v' G' H' p3 ((s1.trans s2).trans s3) (r2.mono s3.g) r3⟩
    subst ea
    exact .inl ⟨rfl, xs, SqL.of h2⟩)
theorem ae_bmL0 {name : Str} {id : String} {r : V → List V → Hp → VK → Prop} {Post : D → Mm → Prop} (pa : PlainAttrs "list") (slot : Slot "list" name id) (hty : typeOf (.builtin id) = pure (.type "method_descriptor")) (hm : MtR X id r)
    (h : AE X o ρ M fun d M1 => (∃ ds, deref M1 d = .lst ds) ∧ RM r d [] M1 Post)
    (hbase : attributeBase o name X.env (eval o X.env) = eval o X.env := by rfl) (hline : (apos.endLine == pos.line) = true := by rfl) :
    AE X (.Call (.Attribute o name apos) [] [] pos) ρ M Post := fun G H σ Q n r k =>
  wE_of (pe_bm0 pa slot hty hm pe_w hbase hline) (h G H σ _ n r fun d M1 v G1 H1 ⟨⟨ds, hd⟩, p1⟩ s1 r1 rv => by
    obtain ⟨a, xs, ea, h2, h3⟩ := sqL_at s1.now rv hd
    refine ⟨?_, p1 G1 H1 v [] Q s1.now rv (reps_nil.mpr rfl) fun d' M' v' G' H' p3 s3 r3 => k d' M' v' G' H' p3 (s1.trans s3) (r1.mono s3.g) r3⟩
    subst ea
    exact .inl ⟨rfl, xs, SqL.of h2⟩)
theorem rm_append {q : Addr} {ds : List D} {d : D} {Post : D → Mm → Prop} (hq : M q = some (.lst ds)) (hl : ds.length < 1000) (h : Post .non (updM M q (.lst (ds ++ [d])))) : RM rAppend (.adr q) [d] M Post := fun G H v vs Q n rv rvs k => by
  obtain ⟨w, rfl, rw'⟩ := reps1 rvs
  obtain ⟨hg, xs, h1, h2⟩ := n.own q _ hq
  refine ⟨q, xs, w, rep_adr.mp rv, rfl, h1, by rw [h2.length]; exact small1000 (Nat.le_of_lt hl), ?_⟩
  exact k _ _ _ _ _ h (Step.write n hq ⟨_, upd_same, h2.append (reps_one rw')⟩) (rep_non.mpr rfl)
theorem rm_pop {q : Addr} {ds : List D} {d : D} {Post : D → Mm → Prop} (hq : M q = some (.lst ds)) (hl : ds[ds.length - 1]? = some d) (h : Post d (updM M q (.lst ds.dropLast))) : RM rPop (.adr q) [] M Post := fun G H v vs Q n rv rvs k => by
  obtain ⟨hg, xs, h1, h2⟩ := n.own q _ hq
  obtain ⟨w, e1, e2⟩ := h2.get hl
  refine ⟨q, xs, w, rep_adr.mp rv, reps_nil.mp rvs, h1, by rw [h2.length]; exact e1, ?_⟩
  exact k _ _ _ _ _ h (Step.write n hq ⟨_, upd_same, h2.dropLast⟩) e2
theorem rm_popAt {q : Addr} {ds : List D} {j : Nat} {d : D} {Post : D → Mm → Prop} (hq : M q = some (.lst ds)) (hj : j ≤ 1000) (hd : ds[j]? = some d) (h : Post d (updM M q (.lst (ds.eraseIdx j)))) : RM rPopAt (.adr q) [.int (j : Int)] M Post := fun G H v vs Q n rv rvs k => by
  obtain ⟨w, rfl, rw'⟩ := reps1 rvs
  cases rep_int.mp rw'
  obtain ⟨hg, xs, h1, h2⟩ := n.own q _ hq
  obtain ⟨w, e1, e2⟩ := h2.get hd
  have hlt : j < xs.length := (List.getElem?_eq_some_iff.mp e1).1
  refine ⟨q, xs, (j : Int), j, w, rep_adr.mp rv, rfl, h1, by omega, by omega, ?_, e1, ?_⟩
  · unfold seqIndex?
    simp
    omega
  · exact k _ _ _ _ _ h (Step.write n hq ⟨_, upd_same, h2.eraseIdx j⟩) e2
theorem rm_extend {q : Addr} {ds es : List D} {d : D} {Post : D → Mm → Prop} (hq : M q = some (.lst ds)) (hd : deref M d = .lst es) (hl : ds.length + es.length ≤ 1000) (h : Post .non (updM M q (.lst (ds ++ es)))) : RM rExtend (.adr q) [d] M Post := fun G H v vs Q n rv rvs k => by
  obtain ⟨w, rfl, rw'⟩ := reps1 rvs
  obtain ⟨b, zs, rfl, h4, h5⟩ := sqL_at n rw' hd
  obtain ⟨hg, xs, h1, h2⟩ := n.own q _ hq
  refine ⟨q, b, xs, zs, rep_adr.mp rv, rfl, h1, h4, by rw [h2.length, h5.length]; exact small hl, ?_⟩
  exact k _ _ _ _ _ h (Step.write n hq ⟨_, upd_same, h2.append h5⟩) (rep_non.mpr rfl)

/-! ### stores -/
theorem as_putL {i value : Expr} {pos' : Pos} {A : AEnds} (h : AE X value ρ M fun d M1 => AE X o ρ M1 fun x M2 => AE X i ρ M2 fun y M3 => ∃ q ds k j, x = .adr q ∧ y = .int k ∧ M3 q = some (.lst ds) ∧ ixN ds.length k = some j ∧ A.nx ρ (updM M3 q (.lst (ds.set j d))))
    (ha : ∀ v, assign (.Subscript o i pos') X.env v = (do
      let ov ← holding [v] (eval o X.env)
      let iv ← holding [v, ov] (eval i X.env)
      standAt pos'
      holding [v, ov, iv] (setItem ov iv v)
      release [v, ov, iv] []) := by intro _; rfl)
    (hs : swapsWithSole [.Subscript o i pos'] value pos.line X.env = pure false := by rfl) (hw : swappedStores [.Subscript o i pos'] value X.env = pure none := by rfl)
    (h1 : (assignEach [.Subscript o i pos'] X.env).map (·.2) = [assign (.Subscript o i pos') X.env] := by rfl) : AS X (.Assign [.Subscript o i pos'] value pos) ρ M A := fun G H σ Dn n r k =>
  wS_of (ps_asg pe_w (pg_sub pe_w pe_w set_list ha) hs hw h1) (h G H σ _ n r fun d M1 v G1 H1 p1 s1 r1 rv => p1 G1 H1 σ _ s1.now r1 fun x M2 u G2 H2 p2 s2 r2 ru => p2 G2 H2 σ _ s2.now r2 fun y M3 w G3 H3 ⟨q, ds, kk, j, ex, ey, hq, hj, post⟩ s3 r3 rw' => by
    subst ex ey
    obtain ⟨hg, xs, h1, h2⟩ := s3.now.own q _ hq
    refine ⟨q, xs, kk, j, rep_adr.mp ru, rep_int.mp rw', h1, by rw [h2.length]; exact hj, ?_⟩
    exact k.nx ρ _ σ _ _ post (((s1.trans s2).trans s3).trans (Step.write s3.now hq ⟨_, upd_same, h2.set j ((rv.mono s2.g).mono s3.g)⟩)) r3)
def putFD (f : Str) (d : D) : List (Str × D) → List (Str × D)
  | [] => [(f, d)]
  | (g, x) :: r => if g = f then (g, d) :: r else (g, x) :: putFD f d r
theorem RepF.putF {G : Hp} {f : Str} {d : D} {v : V} (hv : Rep G d v) : ∀ {fs : List (Str × D)} {fvs : List (Str × V)}, RepF G fs fvs → RepF G (putFD f d fs) (L2.putF f v fvs)
  | [], _, h => by
    rw [repF_nil.mp h]
    exact repF_cons.mpr ⟨v, [], rfl, hv, repF_nil.mpr rfl⟩
  | (g, x) :: fs, _, h => by
    obtain ⟨y, r, rfl, h2, h3⟩ := repF_cons.mp h
    unfold putFD L2.putF
    by_cases e : g = f
    · simp only [e, if_true]
      exact repF_cons.mpr ⟨v, r, rfl, hv, h3⟩
    · simp only [e, if_false]
      exact repF_cons.mpr ⟨y, _, rfl, h2, RepF.putF hv h3⟩
theorem RepF.length {G : Hp} : ∀ {fs : List (Str × D)} {fvs : List (Str × V)}, RepF G fs fvs → fvs.length = fs.length
  | [], _, h => by
    rw [repF_nil.mp h]
    rfl
  | kd :: ds, _, h => by
    obtain ⟨x, r, rfl, h2, h3⟩ := repF_cons.mp h
    simp [RepF.length h3]
theorem as_fld {f : Str} {value : Expr} {pos' : Pos} {A : AEnds} (h : AE X value ρ M fun d M1 => AE X o ρ M1 fun x M2 => ∃ q C fs, x = .adr q ∧ M2 q = some (.obj C fs) ∧ Cls X.K C ∧ NoAttr X.K C f ∧ fs.length < 1000 ∧ A.nx ρ (updM M2 q (.obj C (putFD f d fs))))
    (hs : swapsWith value (some (.Attribute o f pos')) pos.line X.env = pure false := by rfl) : AS X (.Assign [.Attribute o f pos'] value pos) ρ M A := fun G H σ Dn n r k =>
  wS_of (ps_fld pe_w pe_w hs) (h G H σ _ n r fun d M1 v G1 H1 p1 s1 r1 rv => p1 G1 H1 σ _ s1.now r1 fun x M2 u G2 H2 ⟨q, C, fs, ex, hq, cl, na, hl, post⟩ s2 r2 ru => by
    subst ex
    obtain ⟨hg, dx, fvs, h1, h2⟩ := s2.now.own q _ hq
    refine ⟨q, C, dx, fvs, rep_adr.mp ru, h1, cl, na, by rw [h2.length]; exact hl, ?_⟩
    exact k.nx ρ _ σ _ _ post ((s1.trans s2).trans (Step.write s2.now hq ⟨_, _, upd_same, RepF.putF (rv.mono s2.g) h2⟩)) r2)

/-! ### a star in a display -/
theorem aa_star {sp : Pos} {Post : List D → Mm → Prop} (h : AE X e ρ M fun d M1 => ∃ ds, IsSeq M1 d ds ∧ AA X es ρ M1 fun xs M2 => Post (ds ++ xs) M2) (hs : starEach (.Starred e sp :: es) X.env = (true, eval e X.env) :: starEach es X.env := by rfl) : AA X (.Starred e sp :: es) ρ M Post := fun G H σ Q n r k =>
  wA_of (StX.pa_star pe_w pa_w hs) (h G H σ _ n r fun d M1 v G1 H1 ⟨ds, hd, p1⟩ s1 r1 rv => by
    obtain ⟨a, xs, ea, h2, h3⟩ := sq_at s1.now rv hd
    refine ⟨a, xs, ea, (sq_or h2).symm, p1 G1 H1 σ _ s1.now r1 fun es M2 ys G2 H2 p2 s2 r2 rys => ?_⟩
    exact k _ M2 _ G2 H2 p2 (s1.trans s2) r2 ((h3.mono s2.g).append rys))
end
end Hr
set_option Elab.async false
set_option linter.all false
set_option maxRecDepth 100000
set_option maxHeartbeats 4000000
/-! HeirG: dicts; comprehensions of plain forms. -/
namespace Hr
open PySem L2
open PyProof.Rows (sortedS)

theorem Step.over {G0 H0 G H : Hp} {M0 M : Mm} (s : Step G0 H0 M0 G H M) {p : Addr} {o : HO} {d0 d1 d : D} (h0 : M0 p = some d0) (hf : ∀ l, d0 ≠ .fdct l) (h : M p = some d1) (hd : Holds G (upd H p o) p d) : Step G0 H0 M0 G (upd H p o) (updM M p d) := by
  have hg : G p = none := (s.now.own p d1 h).1
  have nfz : ∀ q l, M0 q = some (.fdct l) → q ≠ p := fun q l hq z => by
    rw [z, h0] at hq
    exact hf l (Option.some.inj hq)
  refine ⟨⟨Ex.mut s.now.sub hg, fun q e hq => ?_⟩, s.g, fun a u hM e => ?_, fun a e => ?_, s.new, fun q e => ?_, fun q l e => ⟨by rw [updM_ne (nfz q l e)]; exact (s.fz q l e).1, fun u eu => by rw [upd_ne (nfz q l e)]; exact (s.fz q l e).2 u eu⟩⟩
  · by_cases z : q = p
    · subst z
      rw [updM_same] at hq
      cases hq
      exact ⟨hg, hd⟩
    · rw [updM_ne z] at hq
      obtain ⟨h1, h2⟩ := s.now.own q e hq
      exact ⟨h1, h2.mono (Ex.refl G) fun o e => by rw [upd_ne z]; exact e⟩
  · rw [upd_ne (fun z => by rw [z, h0] at hM; cases hM)]
    exact s.old a u hM e
  · by_cases z : a = p
    · subst z
      rw [upd_same]
      exact fun z => nomatch z
    · rw [upd_ne z]
      exact s.stay a e
  · by_cases z : q = p
    · subst z
      exact .inl (by rw [h0]; exact fun z => nomatch z)
    · rw [updM_ne z] at e
      exact s.ownN q e

section
variable {X : Cx} {ρ : Rh} {M : Mm} {e a b c tg iter elt o i f : Expr} {es rest : List Expr} {pos p apos : Pos} {k : Nat}

/-! ### comprehensions of plain forms -/
theorem take_next {α : Type} {l : List α} {i : Nat} {x : α} (h : l[i]? = some x) : l.take (i + 1) = l.take i ++ [x] := by
  rw [List.take_add_one, h]
  rfl
/-- [elt for x in l], each element by itself, nothing changed -/
theorem al_map {α : Type} {scope : Scope} {own : List (Str × Nat)} {Post : D → Mm → Prop} (l : List α) (enc f : α → D)
    (h : AI X tg iter ρ M fun ds Stb M1 => ds = l.map enc ∧ l.length ≤ 1000 ∧ Stb M1 ∧
      (∀ x ∈ l, ∀ (s : Shared) (H : Hp) (C : Addr) (cl : List (Str × Addr)) (fp : List Addr), AGc (X.blk s H scope (compEnvC scope cl C X.env) fp) tg (own.map (·.2)) (wipeR ρ (own.map (·.2))) (enc x) fun ρ2 =>
        ∀ (s : Shared) (H : Hp) (C : Addr) (cl : List (Str × Addr)) (fp : List Addr), AE (X.blk s H scope (compEnvC scope cl C X.env) fp) elt ρ2 M1 fun y M3 => y = f x ∧ M3 = M1) ∧
      Post (.lst (l.map f)) M1) : AL X elt tg iter [] scope own ρ M Post := by
  refine al_0 (fun G H σ R n r kk => h G H σ R n r fun ds Stb M1 G1 H1 J ⟨e1, hl, hst, ht, hp⟩ => kk ds Stb M1 G1 H1 J ⟨fun i acc M' => M' = M1 ∧ i ≤ l.length ∧ acc = (l.take i).map f, ?_, ?_, ?_, ?_, ?_⟩)
  · rw [e1, List.length_map]
    exact hl
  · exact ⟨rfl, Nat.zero_le _, rfl⟩
  · rintro i acc M' ⟨rfl, hi, rfl⟩
    exact ⟨hst, by rw [List.length_map, List.length_take]; omega⟩
  · rintro i acc M' d hd ⟨rfl, hi, rfl⟩ s0 H0 C cl fp
    rw [e1, List.getElem?_map] at hd
    obtain ⟨x, hx, rfl⟩ := Option.map_eq_some_iff.mp hd
    refine fun G H σ v Q e rr rv kq => ht x (List.mem_of_getElem? hx) s0 H0 C cl fp G H σ v Q e rr rv fun ρ' σ' hp' => kq ρ' σ' fun s0 H0 C cl fp => ?_
    refine (hp' s0 H0 C cl fp).mono fun y M3 ⟨ey, eM⟩ => ⟨eM, ?_, ?_⟩
    · exact (List.getElem?_eq_some_iff.mp hx).1
    · rw [ey, take_next hx, List.map_append]
      rfl
  · rintro acc M' ⟨rfl, hi, rfl⟩
    rw [e1, List.length_map, List.take_of_length_le (Nat.le_refl _)]
    exact hp
/-- [elt for x in l if c] -/
theorem al_filter {α : Type} {scope : Scope} {own : List (Str × Nat)} {Post : D → Mm → Prop} (l : List α) (enc f : α → D) (bf : α → Bool)
    (h : AI X tg iter ρ M fun ds Stb M1 => ds = l.map enc ∧ l.length ≤ 1000 ∧ Stb M1 ∧
      (∀ x ∈ l, ∀ (s : Shared) (H : Hp) (C : Addr) (cl : List (Str × Addr)) (fp : List Addr), AGc (X.blk s H scope (compEnvC scope cl C X.env) fp) tg (own.map (·.2)) (wipeR ρ (own.map (·.2))) (enc x) fun ρ2 =>
        ∀ (s : Shared) (H : Hp) (C : Addr) (cl : List (Str × Addr)) (fp : List Addr), AT (X.blk s H scope (compEnvC scope cl C X.env) fp) c ρ2 M1 fun b M2 => b = bf x ∧ M2 = M1 ∧ (b = true →
          ∀ (s : Shared) (H : Hp) (C : Addr) (cl : List (Str × Addr)) (fp : List Addr), AE (X.blk s H scope (compEnvC scope cl C X.env) fp) elt ρ2 M1 fun y M3 => y = f x ∧ M3 = M1)) ∧
      Post (.lst ((l.filter bf).map f)) M1) : AL X elt tg iter [c] scope own ρ M Post := by
  refine al_1 (fun G H σ R n r kk => h G H σ R n r fun ds Stb M1 G1 H1 J ⟨e1, hl, hst, ht, hp⟩ => kk ds Stb M1 G1 H1 J ⟨fun i acc M' => M' = M1 ∧ i ≤ l.length ∧ acc = ((l.take i).filter bf).map f, ?_, ?_, ?_, ?_, ?_⟩)
  · rw [e1, List.length_map]
    exact hl
  · exact ⟨rfl, Nat.zero_le _, rfl⟩
  · rintro i acc M' ⟨rfl, hi, rfl⟩
    refine ⟨hst, ?_⟩
    rw [List.length_map]
    refine Nat.le_trans (List.length_filter_le _ _) ?_
    rw [List.length_take]
    omega
  · rintro i acc M' d hd ⟨rfl, hi, rfl⟩ s0 H0 C cl fp
    rw [e1, List.getElem?_map] at hd
    obtain ⟨x, hx, rfl⟩ := Option.map_eq_some_iff.mp hd
    refine fun G H σ v Q e rr rv kq => ht x (List.mem_of_getElem? hx) s0 H0 C cl fp G H σ v Q e rr rv fun ρ' σ' hp' => kq ρ' σ' fun s0 H0 C cl fp => ?_
    refine (hp' s0 H0 C cl fp).mono fun b M2 ⟨eb, eM, he⟩ => ⟨fun hb s0 H0 C cl fp => ?_, fun hb => ?_⟩
    · rw [eM]
      refine (he hb s0 H0 C cl fp).mono fun y M3 ⟨ey, eM3⟩ => ⟨eM3, (List.getElem?_eq_some_iff.mp hx).1, ?_⟩
      rw [ey, take_next hx, List.filter_append, List.map_append, List.filter_cons, if_pos (by rw [← eb]; exact hb)]
      rfl
    · refine ⟨eM, (List.getElem?_eq_some_iff.mp hx).1, ?_⟩
      rw [take_next hx, List.filter_append, List.map_append, List.filter_cons, if_neg (by rw [← eb, hb]; decide)]
      simp
  · rintro acc M' ⟨rfl, hi, rfl⟩
    rw [e1, List.length_map, List.take_of_length_le (Nat.le_refl _)]
    exact hp

/-! ### dicts -/
/-- q holds the dict l, open or locked -/
def IsDct (M : Mm) (q : Addr) (l : List (Str × D)) : Prop := M q = some (.dct l) ∨ M q = some (.fdct l)
theorem dct_at {G H : Hp} (n : Now G H M) {q : Addr} {l : List (Str × D)} (h : IsDct M q l) : ∃ kvs, Rd H q (.dK kvs) ∧ RepK G l kvs := by
  rcases h with h | h
  · obtain ⟨_, kvs, h1, h2⟩ := n.own q _ h
    exact ⟨kvs, .inl h1, h2⟩
  · obtain ⟨_, od, kvs, h1, h2⟩ := n.own q _ h
    exact ⟨kvs, .inr ⟨od, h1⟩, h2⟩
theorem DGet.of {H : Hp} {q : Addr} {kvs : List (Key × V)} {k : Key} (e : Rd H q (.dK kvs)) : DGet H q (kV k) (valV kvs k) := .inl ⟨kvs, k, e, rfl, rfl⟩
theorem ae_dget {Post : D → Mm → Prop} (hr : Room k X.A) (h : AE X o ρ M fun x M1 => AE X i ρ M1 fun y M2 => ∃ q kk l d, x = .adr q ∧ y = .str kk ∧ IsDct M2 q l ∧ valD l kk = some d ∧ Post d M2) (hs : NoSl i := by exact fun _ _ => rfl) : AE X (.Subscript o i pos) ρ M Post := fun G H σ Q n r kq =>
  wE_of (pe_dget (hu_of hr) pe_w pe_w hs) (h G H σ _ n r fun x M1 v G1 H1 p1 s1 r1 rv => p1 G1 H1 σ _ s1.now r1 fun y M2 u G2 H2 ⟨q, kk, l, d, ex, ey, hq, hv, post⟩ s2 r2 ru => by
    subst ex ey
    obtain ⟨kvs, h1, h2⟩ := dct_at s2.now hq
    obtain ⟨w, e1, e2⟩ := (h2.val kk).1 d hv
    refine ⟨q, w, rep_adr.mp rv, ?_, kq d M2 w G2 H2 post (s1.trans s2) r2 e2⟩
    rw [rep_str.mp ru, ← e1]
    exact DGet.of (k := Sum.inr kk) h1)
theorem ae_dget2 {Post : D → Mm → Prop} (hr : Room k X.A) (h : AE X o ρ M fun x M1 => ∃ q, x = .adr q ∧ (∃ l, IsDct M1 q l) ∧ AE X e ρ M1 fun y M2 => AE X f ρ M2 fun z M3 => ∃ kk l, y = .str kk ∧ IsDct M3 q l ∧ Post ((valD l kk).getD z) M3)
    (m : L2.M2 X o "get" apos e f pos := by exact ⟨rfl, rfl, rfl, rfl⟩) : AE X (.Call (.Attribute o "get" apos) [e, f] [] pos) ρ M Post := fun G H σ Q n r kq =>
  wE_of (pe_dget2 (hu_of hr) pe_w pe_w pe_w m) (h G H σ _ n r fun x M1 v G1 H1 ⟨q, ex, ⟨l0, hl0⟩, p1⟩ s1 r1 rv => by
    subst ex
    obtain ⟨kvs0, g1, _⟩ := dct_at s1.now hl0
    refine ⟨q, rep_adr.mp rv, .inl ⟨kvs0, g1⟩, p1 G1 H1 σ _ s1.now r1 fun y M2 u G2 H2 p2 s2 r2 ru => p2 G2 H2 σ _ s2.now r2 fun z M3 w G3 H3 ⟨kk, l, ey, hq, post⟩ s3 r3 rw' => ?_⟩
    subst ey
    obtain ⟨kvs, h1, h2⟩ := dct_at s3.now hq
    refine ⟨valV kvs (Sum.inr kk), by rw [rep_str.mp ru]; exact DGet.of (k := Sum.inr kk) h1, ?_⟩
    cases hv : valD l kk with
    | none =>
      rw [(h2.val kk).2 hv]
      rw [hv] at post
      exact kq _ M3 _ G3 H3 post ((s1.trans s2).trans s3) r3 rw'
    | some d =>
      obtain ⟨w', e1, e2⟩ := (h2.val kk).1 d hv
      rw [e1]
      rw [hv] at post
      exact kq _ M3 _ G3 H3 post ((s1.trans s2).trans s3) r3 e2)
theorem ae_dpop {Post : D → Mm → Prop} (h : AE X o ρ M fun x M1 => ∃ q, x = .adr q ∧ (∃ l, IsDct M1 q l) ∧ AE X e ρ M1 fun y M2 => ∃ kk l d, y = .str kk ∧ M2 q = some (.dct l) ∧ valD l kk = some d ∧ Post d (updM M2 q (.dct (dropD l kk))))
    (m : L2.M1 X o "pop" apos e pos := by exact ⟨rfl, rfl, rfl, rfl⟩) : AE X (.Call (.Attribute o "pop" apos) [e] [] pos) ρ M Post := fun G H σ Q n r kq =>
  wE_of (pe_dpop1 pe_w pe_w m) (h G H σ _ n r fun x M1 v G1 H1 ⟨q, ex, ⟨l0, hl0⟩, p1⟩ s1 r1 rv => by
    subst ex
    obtain ⟨kvs0, g1, _⟩ := dct_at s1.now hl0
    refine ⟨q, rep_adr.mp rv, .inl ⟨kvs0, g1⟩, p1 G1 H1 σ _ s1.now r1 fun y M2 u G2 H2 ⟨kk, l, d, ey, hq, hv, post⟩ s2 r2 ru => ?_⟩
    subst ey
    obtain ⟨_, kvs, h1, h2⟩ := s2.now.own q _ hq
    obtain ⟨w, e1, e2⟩ := (h2.val kk).1 d hv
    refine ⟨kvs, Sum.inr kk, w, h1, rep_str.mp ru, e1, ?_⟩
    exact kq _ _ w G2 _ post ((s1.trans s2).trans (Step.write s2.now hq ⟨_, upd_same, h2.dropK kk⟩)) r2 e2)
theorem as_dput {value : Expr} {pos' : Pos} {A : AEnds} (hr : Room k X.A) (h : AE X value ρ M fun d M1 => AE X o ρ M1 fun x M2 => AE X i ρ M2 fun y M3 => ∃ q kk l, x = .adr q ∧ y = .str kk ∧ M3 q = some (.dct l) ∧ l.length < 1000 ∧ A.nx ρ (updM M3 q (.dct (putD l kk d))))
    (hs : swapsWith value (some (.Subscript o i pos')) pos.line X.env = pure false := by rfl) : AS X (.Assign [.Subscript o i pos'] value pos) ρ M A := fun G H σ Dn n r kq =>
  wS_of (ps_dput (hu_of hr) pe_w pe_w pe_w hs) (h G H σ _ n r fun d M1 v G1 H1 p1 s1 r1 rv => p1 G1 H1 σ _ s1.now r1 fun x M2 u G2 H2 p2 s2 r2 ru => p2 G2 H2 σ _ s2.now r2 fun y M3 w G3 H3 ⟨q, kk, l, ex, ey, hq, hl, post⟩ s3 r3 rw' => by
    subst ex ey
    obtain ⟨_, kvs, h1, h2⟩ := s3.now.own q _ hq
    refine ⟨q, _, rep_adr.mp ru, by rw [rep_str.mp rw']; exact DPut.k (k := Sum.inr kk) h1 (by rw [h2.length]; exact small1000 (Nat.le_of_lt hl)), ?_⟩
    exact kq.nx ρ _ σ _ _ post (((s1.trans s2).trans s3).trans (Step.write s3.now hq ⟨_, upd_same, h2.put ((rv.mono s2.g).mono s3.g)⟩)) r3)
theorem ae_dnew {Post : D → Mm → Prop} (h : ∀ q, M q = none → Post (.adr q) (updM M q (.dct []))) : AE X (.Dict [] [] pos) ρ M Post := fun G H σ Q n r kq =>
  wE_of pe_dnewK fun q hq => by
    have st := Step.allocO (o := .dK []) (d := .dct []) n hq ⟨[], upd_same, rfl⟩
    exact kq _ _ _ _ _ (h q (n.fresh hq)) st r (rep_adr.mpr rfl)
theorem rc_sortedD {q : Addr} {l : List (Str × D)} {Post : D → Mm → Prop} (hq : IsDct M q l) (hl : l.length < 64) (h : ∀ ys : List Str, ys.Perm (l.map (·.1)) → sortedS ys = true → Post (.lst (ys.map .str)) M) :
    RC (fun xs H Q => ∃ (a : Addr) (kvs : List (Key × V)) (ks : List Str), xs = [.ref a] ∧ Rd H a (.dK kvs) ∧ kvs.map (·.1) = ks.map Sum.inr ∧ ks.length < 64 ∧
      ∀ ys p, ys.Perm ks → sortedS ys = true → H p = none → Q (.ref p) (upd H p (.lst (ys.map V.str)))) [.adr q] M Post := fun G H vs Q n r kq => by
  obtain ⟨v, rfl, rv⟩ := reps1 r
  cases rep_adr.mp rv
  obtain ⟨kvs, h1, h2⟩ := dct_at n hq
  refine ⟨q, kvs, l.map (·.1), rfl, h1, h2.keys, by rw [List.length_map]; exact hl, fun ys p hp hs hf => ?_⟩
  have st := Step.alloc (o := .lst (ys.map V.str)) n hf
  exact kq _ M _ _ _ (h ys hp hs) st (rep_lst.mpr ⟨p, _, rfl, upd_same, Reps.ofMap (fun _ => rep_str.mpr rfl) ys⟩)

/-! ### a dict walked: locked meanwhile -/
theorem ae_lock {q : Addr} {l : List (Str × D)} {Post : D → Mm → Prop} (hq : M q = some (.dct l)) (h : AE X e ρ (updM M q (.fdct l)) fun d M' => Post d (updM M' q (.dct l))) : AE X e ρ M Post := fun G H σ Q n r kq => by
  obtain ⟨hg, kvs, h1, h2⟩ := n.own q _ hq
  refine wE_of (pe_lock pe_w) ⟨q, .dK kvs, h1, True.intro, fun od => ?_⟩
  have s0 := Step.write (o := .frz od (.dK kvs)) (d := .fdct l) n hq ⟨od, kvs, upd_same, h2⟩
  refine h G _ σ _ s0.now r fun d M' v G' H' post s1 r1 rv => ?_
  obtain ⟨z1, z2⟩ := s1.fz q l updM_same
  refine ⟨z2 _ upd_same, ?_⟩
  have st := (s0.trans s1).over (o := .dK kvs) (d := .dct l) hq (fun _ z => by cases z) z1 ⟨kvs, upd_same, h2.mono s1.g⟩
  exact kq d _ v G' _ post st r1 rv
theorem RepK.key {G : Hp} : ∀ {ds : List (Str × D)} {vs : List (Key × V)}, RepK G ds vs → ∀ {i : Nat} {k : Key} {v : V}, vs[i]? = some (k, v) → ∃ d, ds[i]? = some d ∧ k = Sum.inr d.1
  | [], _, h, i, k, v, e => by
    cases h
    simp at e
  | kd :: ds, _, ⟨x, r, h1, h2, h3⟩, 0, k, v, e => by
    subst h1
    simp at e
    exact ⟨kd, rfl, e.1.symm⟩
  | kd :: ds, _, ⟨x, r, h1, h2, h3⟩, i + 1, k, v, e => by
    subst h1
    simp at e
    obtain ⟨d, e1, e2⟩ := RepK.key h3 e
    exact ⟨d, by simpa using e1, e2⟩
theorem ai_keys {Post : List D → (Mm → Prop) → Mm → Prop} (h : AE X iter ρ M fun x M1 => ∃ q l, x = .adr q ∧ M1 q = some (.fdct l) ∧ Post (l.map fun kd => D.str kd.1) (fun _ => True) M1) : AI X tg iter ρ M Post := fun G H σ R n r kq =>
  wI_of (pi_keys pe_w) (h G H σ _ n r fun x M1 v G1 H1 ⟨q, l, ex, hq, post⟩ s1 r1 rv => by
    subst ex
    obtain ⟨_, od, kvs, h1, h2⟩ := s1.now.own q _ hq
    refine ⟨q, od, rep_adr.mp rv, .inl ⟨kvs, h1, kq _ _ M1 G1 H1 _ post s1 r1 ?_⟩⟩
    intro i G H M sE st
    have hH : H q = some (.frz od (.dK kvs)) := (sE.fz q l hq).2 _ h1
    have hl := h2.length
    refine ⟨fun d hd => ?_, fun hi => ⟨hH, by simpa [hl] using hi⟩⟩
    rw [List.getElem?_map] at hd
    obtain ⟨kd, e1, rfl⟩ := Option.map_eq_some_iff.mp hd
    have hlt : i < kvs.length := by
      rw [hl]
      exact (List.getElem?_eq_some_iff.mp e1).1
    refine ⟨⟨hH, hlt⟩, fun y H' hy => ?_⟩
    obtain ⟨rfl, k, v', e2, e3⟩ := hy
    obtain ⟨d, e4, e5⟩ := h2.key e2
    rw [e1] at e4
    cases e4
    refine ⟨G, Step.refl sE.now, rep_str.mpr ?_⟩
    rw [e3, e5]
    rfl)

/-! ### dict displays, dict(list of pairs) -/
def mergeD (acc more : List (Str × D)) : List (Str × D) := more.foldl (fun acc kv => putD acc kv.1 kv.2) acc
theorem RepK.merge {G : Hp} : ∀ {more : List (Str × D)} {ms : List (Key × V)} {acc : List (Str × D)} {as : List (Key × V)}, RepK G more ms → RepK G acc as → RepK G (mergeD acc more) (mergeK as ms)
  | [], _, acc, as, h, h' => by
    cases h
    exact h'
  | kd :: more, _, acc, as, ⟨x, r, h1, h2, h3⟩, h' => by
    subst h1
    show RepK G (mergeD (putD acc kd.1 kd.2) more) (mergeK (putK as (Sum.inr kd.1) x) r)
    exact RepK.merge h3 (h'.put h2)
def trsOf (X : Cx) : List (Option Expr) → List Expr → List (TE × TE)
  | some k :: ks, v :: vs => (wE X k, wE X v) :: trsOf X ks vs
  | _, _ => []
theorem pps_w : ∀ {ks : List (Option Expr)} {vs : List Expr}, ks.all (·.isSome) = true → ks.length = vs.length → PPs X pos ks vs (trsOf X ks vs)
  | [], [], _, _ => pps_nil
  | [], _ :: _, _, h => by simp at h
  | _ :: _, [], _, h => by simp at h
  | none :: _, _ :: _, h, _ => by simp at h
  | some k :: ks, v :: vs, h, hl => pps_cons pe_w pe_w (pps_w (by simpa using h) (by simpa using hl))
def RepP (G : Hp) : List (Str × D) → List (V × V) → Prop
  | [], ps => ps = []
  | kd :: l, ps => ∃ v r, ps = (.str kd.1, v) :: r ∧ Rep G kd.2 v ∧ RepP G l r
theorem RepP.kvs {G : Hp} : ∀ {l : List (Str × D)} {ps : List (V × V)}, RepP G l ps → ∃ kvs : List (Key × V), ps = kvs.map (fun kv => (kV kv.1, kv.2)) ∧ RepK G l kvs
  | [], _, h => by
    cases h
    exact ⟨[], rfl, rfl⟩
  | kd :: l, _, ⟨v, r, h1, h2, h3⟩ => by
    subst h1
    obtain ⟨kvs, e1, e2⟩ := RepP.kvs h3
    subst e1
    exact ⟨(Sum.inr kd.1, v) :: kvs, rfl, v, kvs, rfl, h2, e2⟩
def AD (X : Cx) (ks : List (Option Expr)) (vs : List Expr) (ρ : Rh) (M : Mm) (Post : List (Str × D) → Mm → Prop) : Prop :=
  ∀ (G H : Hp) (σ : L2.St) (Q : List (V × V) → Hp → Prop), Now G H M → RepS G ρ σ → (∀ l M' ps G' H', Post l M' → Step G H M G' H' M' → RepS G' ρ σ → RepP G' l ps → Q ps H') → tPairs (trsOf X ks vs) σ H Q
theorem ad_nil {Post : List (Str × D) → Mm → Prop} (h : Post [] M) : AD X [] [] ρ M Post := fun G H σ Q n r kq => kq [] M [] G H h (Step.refl n) r rfl
theorem RepP.mono {G G' : Hp} (e : Ex G G') : ∀ {l : List (Str × D)} {ps : List (V × V)}, RepP G l ps → RepP G' l ps
  | [], _, h => h
  | kd :: l, _, ⟨v, r, h1, h2, h3⟩ => ⟨v, r, h1, h2.mono e, RepP.mono e h3⟩
theorem ad_cons {z : Str} {j : Nat} {pk : Pos} {ks : List (Option Expr)} {vs : List Expr} {Post : List (Str × D) → Mm → Prop} (h : AE X e ρ M fun d M1 => AD X ks vs ρ M1 fun l M2 => Post ((z, d) :: l) M2) : AD X (some (.Constant (.str z) j pk) :: ks) (e :: vs) ρ M Post := fun G H σ Q n r kq =>
  wE_of pe_str (h G H σ _ n r fun d M1 v G1 H1 p1 s1 r1 rv => p1 G1 H1 σ _ s1.now r1 fun l M2 ps G2 H2 p2 s2 r2 rps => kq _ M2 _ G2 H2 p2 (s1.trans s2) r2 ⟨v, ps, rfl, rv.mono s2.g, rps⟩)
theorem ae_disp {ks : List (Option Expr)} {vs : List Expr} {Post : D → Mm → Prop} (h : AD X ks vs ρ M fun l M1 => l.length ≤ 15 ∧ ∀ q, M1 q = none → Post (.adr q) (updM M1 q (.dct (mergeD [] l)))) (hall : ks.all (·.isSome) = true := by rfl) (hl : ks.length = vs.length := by rfl) (h0 : ks ≠ [] := by intro z; cases z) (h15 : ks.length ≤ 15 := by decide) : AE X (.Dict ks vs pos) ρ M Post := fun G H σ Q n r kq =>
  wE_of (pe_disp (pps_w hall hl) hall hl h0 h15) fun q hq => by
    have hM := n.fresh hq
    have hG := n.sub.none hq
    have sa := (Step.refl n).hwrite (o := .dK []) hq hM hG
    refine h G _ σ _ sa.now r fun l M1 ps G1 H1 ⟨hlen, p1⟩ s1 r1 rps => ?_
    obtain ⟨hM1, hG1, hD1⟩ := s1.hid hM hG upd_same
    obtain ⟨kvs, e1, e2⟩ := rps.kvs
    refine ⟨hD1, kvs, e1, by rw [e2.length]; exact hlen, ?_⟩
    have st := ((sa.trans s1).hwrite (o := .dK (mergeK [] kvs)) hq hM1 hG1).hown (d := .dct (mergeD [] l)) hq hM1 hG1 ⟨_, upd_same, e2.merge rfl⟩
    exact kq _ _ _ _ _ (p1 q hM1) st r1 (rep_adr.mpr rfl)
/-- data of a list of pairs (text, any) -/
def prD (kd : Str × D) : D := .tup [.str kd.1, kd.2]
theorem pairs_at {K : PySem.W.Frag} {G H : Hp} (hE : Ex G H) : ∀ {l : List (Str × D)} {vs : List V}, Reps G (l.map prD) vs → ∃ (ps : List Addr) (kvs : List (Key × V)), vs = ps.map V.ref ∧ Paired (fun p kv => SqT K H p [kV kv.1, kv.2]) ps kvs ∧ RepK G l kvs
  | [], _, h => ⟨[], [], reps_nil.mp h, .nil, rfl⟩
  | kd :: l, _, h => by
    obtain ⟨x, r, rfl, h2, h3⟩ := reps_cons.mp h
    obtain ⟨a, xs, rfl, e1, e2⟩ := rep_tup.mp h2
    obtain ⟨v1, v2, rfl, q1, q2⟩ := reps2 e2
    cases rep_str.mp q1
    obtain ⟨ps, kvs, rfl, p2, p3⟩ := pairs_at (K := K) hE h3
    exact ⟨a :: ps, (Sum.inr kd.1, v2) :: kvs, rfl, .cons (SqT.of (hE _ _ e1)) p2, v2, kvs, rfl, q2, p3⟩
theorem rc_dictP {K : PySem.W.Frag} {d : D} {l : List (Str × D)} {Post : D → Mm → Prop} (hd : deref M d = .lst (l.map prD)) (h : ∀ q, M q = none → Post (.adr q) (updM M q (.dct (mergeD [] l)))) :
    RC (fun xs H Q => ∃ (a : Addr) (ps : List Addr) (kvs : List (Key × V)), xs = [.ref a] ∧ SqL K H a (ps.map V.ref) ∧ Paired (fun p kv => SqT K H p [kV kv.1, kv.2]) ps kvs ∧
      ∀ p, H p = none → Q (.ref p) (upd H p (.dK (mergeK [] kvs)))) [d] M Post := fun G H vs Q n r kq => by
  obtain ⟨v, rfl, rv⟩ := reps1 r
  obtain ⟨a, xs, rfl, h2, h3⟩ := sqL_at n rv hd
  obtain ⟨ps, kvs, rfl, p2, p3⟩ := pairs_at (K := K) n.sub h3
  refine ⟨a, ps, kvs, rfl, SqL.of h2, p2, fun q hq => ?_⟩
  have st := Step.allocO (o := .dK (mergeK [] kvs)) (d := .dct (mergeD [] l)) n hq ⟨_, upd_same, p3.merge rfl⟩
  exact kq _ _ _ _ _ (h q (n.fresh hq)) st (rep_adr.mpr rfl)

/-! ### dict comprehensions -/
theorem ae_dc {kx vx : Expr} {scope : Scope} {Post : D → Mm → Prop} (own : List (Str × Nat)) (hc : X.calm = true) (hN : X.N.Nodup) (ok : BlkOk X.N X.env.scope scope own)
    (h : AI X tg iter ρ M fun ds Stb M1 => ∃ Iv : Nat → List (Str × D) → Mm → Prop, ds.length ≤ 1000 ∧ Iv 0 [] M1 ∧ (∀ i acc M', Iv i acc M' → Stb M' ∧ acc.length ≤ i) ∧
      (∀ i acc M' d, ds[i]? = some d → Iv i acc M' → ∀ (s : Shared) (H : Hp) (C : Addr) (cl : List (Str × Addr)) (fp : List Addr), AGc (X.blk s H scope (compEnvC scope cl C X.env) fp) tg (own.map (·.2)) (wipeR ρ (own.map (·.2))) d fun ρ2 =>
        ∀ (s : Shared) (H : Hp) (C : Addr) (cl : List (Str × Addr)) (fp : List Addr), AE (X.blk s H scope (compEnvC scope cl C X.env) fp) kx ρ2 M' fun y M2 => ∃ z, y = .str z ∧
          ∀ (s : Shared) (H : Hp) (C : Addr) (cl : List (Str × Addr)) (fp : List Addr), AE (X.blk s H scope (compEnvC scope cl C X.env) fp) vx ρ2 M2 fun w M3 => Iv (i + 1) (putD acc z w) M3) ∧
      (∀ acc M', Iv ds.length acc M' → ∀ q, M' q = none → Post (.adr q) (updM M' q (.dct acc))))
    (hs : ∀ x, foldedSetIterable iter X.env x = pure x := by intro _; rfl) : AE X (.DictComp kx vx [⟨tg, iter, [], 0⟩] scope pos) ρ M Post := fun G H σ Q n r kq => by
  refine wE_of (pe_dc (own := own) (wi := wI X tg iter)
    (g := fun v σ H Q => ∀ (s : Shared) (H0 : Hp) (C : Addr) (cl : List (Str × Addr)) (fp : List Addr), wG (X.blk s H0 scope (compEnvC scope cl C X.env) fp) tg v σ H Q) (tt := tYes)
    (tk := fun σ H Q => ∀ (s : Shared) (H0 : Hp) (C : Addr) (cl : List (Str × Addr)) (fp : List Addr), wE (X.blk s H0 scope (compEnvC scope cl C X.env) fp) kx σ H Q)
    (tv := fun σ H Q => ∀ (s : Shared) (H0 : Hp) (C : Addr) (cl : List (Str × Addr)) (fp : List Addr), wE (X.blk s H0 scope (compEnvC scope cl C X.env) fp) vx σ H Q) hc hN pi_w ok
    (fun s H0 C cl fp => ⟨fun pins s' σ H v u Q I r hh => hh s H0 C cl fp pins s' u I r⟩) (fun _ _ _ _ _ => pts_nil) (fun s H0 C cl fp => ⟨fun pins s' σ H Q I hh => hh s H0 C cl fp pins s' I⟩) (fun s H0 C cl fp => ⟨fun pins s' σ H Q I hh => hh s H0 C cl fp pins s' I⟩) hs) ?_
  refine h G H σ _ n r fun ds Stb M1 G1 H1 J ⟨Iv, hl, p0, pS, pT, pE⟩ s1 r1 wj Dl hD => ?_
  have hM1 : M1 Dl = none := s1.now.fresh hD
  have hG1 : G1 Dl = none := s1.now.sub.none hD
  have sa := (Step.refl s1.now).hwrite (o := .dK []) hD hM1 hG1
  refine ⟨fun i m H' => m = ds.length - i ∧ i ≤ ds.length ∧ ∃ acc M' G' xs, Iv i acc M' ∧ Step G1 H1 M1 G' H' M' ∧ RepS G' ρ σ ∧ M' Dl = none ∧ G' Dl = none ∧ H' Dl = some (.dK xs) ∧ RepK G' acc xs,
    ⟨_, rfl, Nat.zero_le _, [], M1, G1, [], p0, sa, r1, hM1, hG1, upd_same, rfl⟩, ?_⟩
  rintro i m H' ⟨rfl, hi, acc, M', G', xs, iv, s', r', hM', hG', hD', rx⟩
  obtain ⟨st, hacc⟩ := pS i acc M' iv
  obtain ⟨w1, w2⟩ := wj i G' H' M' s' st
  by_cases hlt : i < ds.length
  · obtain ⟨go, yl⟩ := w1 _ (List.getElem?_eq_getElem hlt)
    refine .inr ⟨go, fun H2 => ∃ acc M' G' xs, Iv (i + 1) acc M' ∧ Step G1 H1 M1 G' H2 M' ∧ RepS G' ρ σ ∧ M' Dl = none ∧ G' Dl = none ∧ H2 Dl = some (.dK xs) ∧ RepK G' acc xs, fun H2 hN => ⟨ds.length - (i + 1), by omega, rfl, hlt, hN⟩, fun x H2 hy s0 H0 C cl fp => ?_⟩
    obtain ⟨G2, s2, rxd⟩ := yl x H2 hy
    obtain ⟨hM2, hG2, hD2⟩ := s2.hid hM' hG' hD'
    refine pT i acc M' _ (List.getElem?_eq_getElem hlt) iv s0 H0 C cl fp G2 H2 σ x _ s2.now.sub ((r'.mono s2.g).wipe _) rxd fun ρ3 σ3 hat r3 hw => ⟨hw, ?_⟩
    unfold tYes
    simp only [if_true]
    intro s0 H0 C cl fp
    refine hat s0 H0 C cl fp G2 H2 σ3 _ s2.now r3 fun y M3 v3 G3 H3 ⟨z, ey, p3⟩ s3 r3' rv3 s0 H0 C cl fp => ?_
    subst ey
    obtain ⟨hM3, hG3, hD3⟩ := s3.hid hM2 hG2 hD2
    refine p3 s0 H0 C cl fp G3 H3 σ3 _ s3.now r3' fun w M4 v4 G4 H4 p4 s4 r4 rv4 => ?_
    obtain ⟨hM4, hG4, hD4⟩ := s4.hid hM3 hG3 hD3
    have s04 := ((s'.trans s2).trans s3).trans s4
    have rx4 := rx.mono ((s2.g.trans s3.g).trans s4.g)
    have lx : xs.length ≤ 1000 := by rw [rx.length]; omega
    refine ⟨xs, Sum.inr z, rep_str.mp rv3, hD4, small1000 lx, putD acc z w, M4, G4, _, p4, s04.hwrite hD hM4 hG4, r'.mono ((s2.g.trans s3.g).trans s4.g), hM4, hG4, upd_same, ?_⟩
    exact rx4.put rv4
  · have e : i = ds.length := by omega
    subst e
    refine .inl ⟨w2 (Nat.le_refl _), ?_⟩
    have sr := s'.hown (d := .dct acc) hD hM' hG' ⟨xs, hD', rx⟩
    exact kq _ _ _ _ H' (pE acc M' iv Dl hM') (s1.trans sr) r' (rep_adr.mpr rfl)
end
end Hr
set_option Elab.async false
set_option linter.all false
set_option maxRecDepth 100000
set_option maxHeartbeats 4000000
set_option exponentiation.threshold 300000
/-! HeirN: numbers and fractions. -/
namespace Hr
open PySem L2
def top (i : Nat) : Stmt := PySem.Challenge.pw_heirorders_k26_whole_people_by_other_nam.main.body.getD i (.Pass ⟨0, 0, 0, 0⟩)
abbrev sCommon : Stmt := top 17
abbrev sLowest : Stmt := top 18
abbrev sPlus : Stmt := top 19
abbrev sTimes : Stmt := top 20
theorem scCommon : FnScope ["one", "other"] ["one", "other"] (defScope sCommon) := ⟨rfl, rfl, rfl, by decide +kernel, rfl, by decide +kernel, by decide +kernel⟩
theorem scLowest : FnScope ["above", "below", "common"] ["above", "below"] (defScope sLowest) := ⟨rfl, rfl, rfl, by decide +kernel, rfl, by decide +kernel, by decide +kernel⟩
theorem scPlus : FnScope ["one", "other"] ["one", "other"] (defScope sPlus) := ⟨rfl, rfl, rfl, by decide +kernel, rfl, by decide +kernel, by decide +kernel⟩
theorem scTimes : FnScope ["one", "other"] ["one", "other"] (defScope sTimes) := ⟨rfl, rfl, rfl, by decide +kernel, rfl, by decide +kernel, by decide +kernel⟩
/-- a fraction: above, below -/
abbrev Fr := Nat × Nat
def encF (x : Fr) : D := .tup [.int (x.1 : Int), .int (x.2 : Int)]
def low (a b : Nat) : Fr := (a / Nat.gcd a b, b / Nat.gcd a b)
def plusF (x y : Fr) : Fr := low (x.1 * y.2 + y.1 * x.2) (x.2 * y.2)
def timesF (x y : Fr) : Fr := low (x.1 * y.1) (x.2 * y.2)
/-- sizes that the machine's numbers take -/
structure FrOk (x y : Fr) : Prop where
  p1 : 0 < x.2
  p2 : 0 < y.2
  d : x.2 * y.2 < 2 ^ 9000
  n1 : x.1 < 2 ^ 100000
  n2 : y.1 < 2 ^ 100000
def spLowest : ASp := fun ds M Post => ∃ a b : Nat, ds = [.int (a : Int), .int (b : Int)] ∧ 0 < b ∧ b < 2 ^ 9000 ∧ Post (encF (low a b)) M
def spPlus : ASp := fun ds M Post => ∃ x y : Fr, ds = [encF x, encF y] ∧ FrOk x y ∧ Post (encF (plusF x y)) M
def spTimes : ASp := fun ds M Post => ∃ x y : Fr, ds = [encF x, encF y] ∧ FrOk x y ∧ Post (encF (timesF x y)) M
theorem natAbs_cast (n : Nat) : ((n : Int)).natAbs = n := rfl
theorem FrOk.e1 {x y : Fr} (h : FrOk x y) : x.2 < 2 ^ 9000 := Nat.lt_of_le_of_lt (Nat.le_mul_of_pos_right _ h.p2) h.d
theorem FrOk.e2 {x y : Fr} (h : FrOk x y) : y.2 < 2 ^ 9000 := Nat.lt_of_le_of_lt (Nat.le_mul_of_pos_left _ h.p1) h.d
theorem wmul {a b : Nat} (ha : a < 2 ^ 100000) (hb : b < 2 ^ 100000) : CMulW (a : Int) (b : Int) := wide_mul (a := 100000) (b := 100000) ha hb (by omega) (by omega) (by omega)
theorem up9 {a : Nat} (h : a < 2 ^ 9000) : a < 2 ^ 100000 := Nat.lt_of_lt_of_le h (Nat.pow_le_pow_right (by omega) (by omega))
theorem wdiv {a : Int} {b : Nat} (h : 0 < b) (hb : b < 2 ^ 9000) : CDivW a (b : Int) := wide_div (b := 9000) (by omega) hb (by omega) (Nat.le_refl _)
def spCommon : ASp := fun ds M Post => ∃ a b : Nat, ds = [.int (a : Int), .int (b : Int)] ∧ Post (.int ((Nat.gcd a b : Nat) : Int)) M
section
variable {P : Program} {w : World} {K : PySem.W.Frag} {mg : Str → Option Value} {base : Heap}
theorem ok_common {f : Addr} {fd : FuncData} (Fn : Fun K "common_of" "common_of" sCommon f fd) : FnOk P w K mg base CX0 1 f fd ["one", "other"] (spA spCommon) := by
  refine fn_abs (k := 0) Fn scCommon (fun ds M Post h => ?_) (fun cdv A outer s H E hr ds M Post h => ?_)
  · obtain ⟨a, b, rfl, _⟩ := h
    rfl
  · obtain ⟨a, b, rfl, post⟩ := h
    refine ab_cons (as_while (fun m ρ' M' => M' = M ∧ ∃ x y : Nat, ρ' = [some (.int (x : Int)), some (.int (y : Int))] ∧ Nat.gcd x y = Nat.gcd a b ∧ m = x) a ⟨rfl, a, b, rfl, rfl, rfl⟩ ?_)
    rintro m ρ' M' ⟨rfl, x, y, rfl, hg, rfl⟩
    refine at_cmp op_ne (nomark _) (ae_var 0 rfl (ae_int (rr_neI ⟨_, rfl, fun hk => ?_, fun hk => ?_⟩)))
    · have hx : 0 < m := by
        rcases Nat.eq_zero_or_pos m with e | e
        · subst e
          simp at hk
        · exact e
      refine ab_one (as_par 0 1 (aa_cons (ae_bin op_mod (ae_var 1 rfl (ae_var 0 rfl (rr_int (by omega) (aa_cons (ae_var 0 rfl (aa_nil ⟨_, _, rfl, ?_⟩)))))))) rfl scCommon.nd)
      refine ⟨y % m, Nat.mod_lt _ hx, rfl, y % m, m, ?_, ?_, rfl⟩
      · show [some (D.int ((y : Int) % (m : Int))), some (D.int (m : Int))] = _
        rw [Int.natCast_emod]
      · rw [← hg, ← Nat.gcd_rec]
    · have hx : m = 0 := by simpa using hk
      subst hx
      refine ab_one (as_ret (ae_var 1 rfl ?_))
      rw [← hg, Nat.gcd_zero_left] at post
      exact post
theorem ok_lowest {f : Addr} {fd : FuncData} (Fn : Fun K "lowest" "lowest" sLowest f fd) (hC : Has ⟨P, w, K, mg, base⟩ 1 "common_of" spCommon) (ma : mg "abs" = none) : FnOk P w K mg base CX0 2 f fd ["above", "below"] (spA spLowest) := by
  refine fn_abs (k := 1) Fn scLowest (fun ds M Post h => ?_) (fun cdv A outer s H E hr ds M Post h => ?_)
  · obtain ⟨a, b, rfl, _⟩ := h
    rfl
  · obtain ⟨a, b, rfl, hb, hb9, post⟩ := h
    have hg : 0 < Nat.gcd a b := Nat.gcd_pos_of_pos_right _ hb
    have hg9 : Nat.gcd a b < 2 ^ 9000 := Nat.lt_of_le_of_lt (Nat.gcd_le_right _ hb) hb9
    refine ab_cons (as_set 2 ?_ scLowest.nd)
    refine ae_call hC hr rfl (aa_cons ?_)
    refine ae_callB call_abs rfl ma (by decide +kernel) (aa_cons (ae_var 0 rfl (aa_nil (rc_abs ?_))))
    refine aa_cons (ae_var 1 rfl (aa_nil ⟨a, b, ?_, ?_⟩))
    · rw [if_neg (by omega)]
    · refine ab_one (as_ret (ae_tup (aa_cons ?_)))
      refine ae_bin op_fdivW (ae_var 0 rfl (ae_var 2 rfl (rr_int (wdiv hg hg9) (aa_cons ?_))))
      refine ae_bin op_fdivW (ae_var 1 rfl (ae_var 2 rfl (rr_int (wdiv hg hg9) (aa_nil ⟨Nat.le_of_ble_eq_true rfl, ?_⟩))))
      exact post
theorem ok_plus {f : Addr} {fd : FuncData} (Fn : Fun K "plus" "plus" sPlus f fd) (hL : Has ⟨P, w, K, mg, base⟩ 2 "lowest" spLowest) : FnOk P w K mg base CX0 3 f fd ["one", "other"] (spA spPlus) := by
  refine fn_abs (k := 2) Fn scPlus (fun ds M Post h => ?_) (fun cdv A outer s H E hr ds M Post h => ?_)
  · obtain ⟨a, b, rfl, _⟩ := h
    rfl
  · obtain ⟨x, y, rfl, hb, post⟩ := h
    refine ab_one (as_ret (ae_call hL hr rfl (aa_cons (ae_bin op_add (ae_bin op_mulW (ae_ix ix_tup (ae_var 0 rfl (ae_int (rr_ixT 0 (.inl rfl) rfl rfl ?_)))))))))
    refine ae_ix ix_tup (ae_var 1 rfl (ae_int (rr_ixT 1 (.inl rfl) rfl rfl (rr_int (wmul hb.n1 (up9 hb.e2)) ?_))))
    refine ae_bin op_mulW (ae_ix ix_tup (ae_var 1 rfl (ae_int (rr_ixT 0 (.inl rfl) rfl rfl ?_))))
    refine ae_ix ix_tup (ae_var 0 rfl (ae_int (rr_ixT 1 (.inl rfl) rfl rfl (rr_int (wmul hb.n2 (up9 hb.e1)) (rr_add ?_)))))
    refine aa_cons (ae_bin op_mulW (ae_ix ix_tup (ae_var 0 rfl (ae_int (rr_ixT 1 (.inl rfl) rfl rfl ?_)))))
    refine ae_ix ix_tup (ae_var 1 rfl (ae_int (rr_ixT 1 (.inl rfl) rfl rfl (rr_int (wmul (up9 hb.e1) (up9 hb.e2)) (aa_nil ?_)))))
    refine ⟨x.1 * y.2 + y.1 * x.2, x.2 * y.2, ?_, Nat.mul_pos hb.p1 hb.p2, hb.d, post⟩
    simp only [Int.natCast_add, Int.natCast_mul]
theorem ok_times {f : Addr} {fd : FuncData} (Fn : Fun K "times" "times" sTimes f fd) (hL : Has ⟨P, w, K, mg, base⟩ 2 "lowest" spLowest) : FnOk P w K mg base CX0 3 f fd ["one", "other"] (spA spTimes) := by
  refine fn_abs (k := 2) Fn scTimes (fun ds M Post h => ?_) (fun cdv A outer s H E hr ds M Post h => ?_)
  · obtain ⟨a, b, rfl, _⟩ := h
    rfl
  · obtain ⟨x, y, rfl, hb, post⟩ := h
    refine ab_one (as_ret (ae_call hL hr rfl (aa_cons (ae_bin op_mulW (ae_ix ix_tup (ae_var 0 rfl (ae_int (rr_ixT 0 (.inl rfl) rfl rfl ?_))))))))
    refine ae_ix ix_tup (ae_var 1 rfl (ae_int (rr_ixT 0 (.inl rfl) rfl rfl (rr_int (wmul hb.n1 hb.n2) ?_))))
    refine aa_cons (ae_bin op_mulW (ae_ix ix_tup (ae_var 0 rfl (ae_int (rr_ixT 1 (.inl rfl) rfl rfl ?_)))))
    refine ae_ix ix_tup (ae_var 1 rfl (ae_int (rr_ixT 1 (.inl rfl) rfl rfl (rr_int (wmul (up9 hb.e1) (up9 hb.e2)) (aa_nil ?_)))))
    refine ⟨x.1 * y.1, x.2 * y.2, ?_, Nat.mul_pos hb.p1 hb.p2, hb.d, post⟩
    simp only [Int.natCast_mul]
end
end Hr
set_option Elab.async false
set_option linter.all false
set_option maxRecDepth 100000
set_option maxHeartbeats 4000000
/-! HeirW: looks at single values. -/
namespace Hr
open PySem L2
open PyProof.Rows (sortedS)
abbrev sIsInteger : Stmt := top 12
abbrev sIsNumber : Stmt := top 13
abbrev sIsName : Stmt := top 14
abbrev sIsSequence : Stmt := top 15
abbrev sIsGroup : Stmt := top 31
abbrev sIsShare : Stmt := top 32
abbrev sArePairs : Stmt := top 37
abbrev sAreUnlike : Stmt := top 38
/-- what the module's names are -/
structure Glb (mg : Str → Option Value) : Prop where
  isinstance : mg "isinstance" = none
  int : mg "int" = none
  bool : mg "bool" = none
  str : mg "str" = none
  list : mg "list" = none
  tuple : mg "tuple" = none
  dict : mg "dict" = none
  len : mg "len" = none
  all : mg "all" = none
  any : mg "any" = none
  sum : mg "sum" = none
  sorted : mg "sorted" = none
  range : mg "range" = none
  reversed : mg "reversed" = none
  enumerate : mg "enumerate" = none
  abs : mg "abs" = none
  zip : mg "zip" = none
  crown : ∃ t, mg "CROWN" = some (.str "crown" t)
  letters : ∃ t, mg "LETTERS" = some (.str "abcdefghijklmnopqrstuvwxyz" t)
def letters : Str := "abcdefghijklmnopqrstuvwxyz"
structure NameOk (z : Str) : Prop where
  pos : 0 < z.length
  few : z.length < 6
  no : z ≠ "crown"
  let_ : ∀ c ∈ z.cps.toList, c ∈ letters.cps.toList
theorem NameOk.ok {z : Str} (h : NameOk z) : PySem.PyData.strOk z = true := by
  unfold PySem.PyData.strOk
  rw [← Array.all_toList]
  refine List.all_eq_true.mpr fun c hc => ?_
  have h1 := h.let_ c hc
  have h2 : ∀ d ∈ letters.cps.toList, decide (d < 0x110000) = true := by decide +kernel
  exact h2 c h1
theorem scIsInteger : FnScope ["value"] ["value"] (defScope sIsInteger) := ⟨rfl, rfl, rfl, by decide +kernel, rfl, by decide +kernel, by decide +kernel⟩
theorem scIsNumber : FnScope ["value"] ["value"] (defScope sIsNumber) := ⟨rfl, rfl, rfl, by decide +kernel, rfl, by decide +kernel, by decide +kernel⟩
theorem scIsName : FnScope ["value", "letter"] ["value"] (defScope sIsName) := ⟨rfl, rfl, rfl, by decide +kernel, rfl, by decide +kernel, by decide +kernel⟩
theorem scIsSequence : FnScope ["value"] ["value"] (defScope sIsSequence) := ⟨rfl, rfl, rfl, by decide +kernel, rfl, by decide +kernel, by decide +kernel⟩
theorem scIsGroup : FnScope ["value", "name", "at"] ["value"] (defScope sIsGroup) := ⟨rfl, rfl, rfl, by decide +kernel, rfl, by decide +kernel, by decide +kernel⟩
theorem scIsShare : FnScope ["value", "group"] ["value"] (defScope sIsShare) := ⟨rfl, rfl, rfl, by decide +kernel, rfl, by decide +kernel, by decide +kernel⟩
theorem scArePairs : FnScope ["value", "pair"] ["value"] (defScope sArePairs) := ⟨rfl, rfl, rfl, by decide +kernel, rfl, by decide +kernel, by decide +kernel⟩
theorem scAreUnlike : FnScope ["names", "at"] ["names"] (defScope sAreUnlike) := ⟨rfl, rfl, rfl, by decide +kernel, rfl, by decide +kernel, by decide +kernel⟩
def spIsInteger : ASp := fun ds M Post => ∃ i : Int, ds = [.int i] ∧ Post (.bl true) M
def spIsNumber : ASp := fun ds M Post => ∃ i : Int, ds = [.int i] ∧ 0 ≤ i ∧ Post (.bl true) M
def spIsName : ASp := fun ds M Post => ∃ z : Str, ds = [.str z] ∧ NameOk z ∧ Post (.bl true) M
def spIsSequence : ASp := fun ds M Post => ∃ d ds', ds = [d] ∧ IsSeq M d ds' ∧ Post (.bl true) M
theorem boot_isinstance : bootBuiltins "isinstance" = some (.builtin "isinstance") := by decide +kernel
theorem boot_int' : bootBuiltins "int" = some (.type "int") := by decide +kernel
theorem boot_bool' : bootBuiltins "bool" = some (.type "bool") := by decide +kernel
theorem boot_str' : bootBuiltins "str" = some (.type "str") := by decide +kernel
theorem boot_list' : bootBuiltins "list" = some (.type "list") := by decide +kernel
theorem boot_tuple' : bootBuiltins "tuple" = some (.type "tuple") := by decide +kernel
theorem boot_dict' : bootBuiltins "dict" = some (.type "dict") := by decide +kernel
theorem boot_len' : bootBuiltins "len" = some (.builtin "len") := by decide +kernel
theorem boot_all' : bootBuiltins "all" = some (.builtin "all") := by decide +kernel
theorem boot_any' : bootBuiltins "any" = some (.builtin "any") := by decide +kernel
theorem boot_sum' : bootBuiltins "sum" = some (.builtin "sum") := by decide +kernel
theorem boot_sorted' : bootBuiltins "sorted" = some (.builtin "sorted") := by decide +kernel
theorem kit_ii : kitB "int" "int" = some true := by decide +kernel
theorem kit_ib : kitB "int" "bool" = some false := by decide +kernel
theorem kit_ss : kitB "str" "str" = some true := by decide +kernel
theorem kit_ll : kitB "list" "list" = some true := by decide +kernel
theorem kit_lt : kitB "list" "tuple" = some false := by decide +kernel
theorem kit_tl : kitB "tuple" "list" = some false := by decide +kernel
theorem kit_tt : kitB "tuple" "tuple" = some true := by decide +kernel
section
variable {X : Cx} {ρ : Rh} {M : Mm} {e : Expr} {pos p p2 : Pos}
/-- isinstance(e, T) -/
theorem ae_isi {T S : String} {k : Bool} {S' : Str} {Post : D → Mm → Prop} (g : Glb X.mg) (hg : Gl X "isinstance") (hS : Gl X S') (hm : X.mg S' = none) (hv : bootBuiltins S' = some (.type S)) (hk : kitB T S = some k)
    (h : AE X e ρ M fun d M1 => (∀ G H v, Now G H M1 → Rep G d v → TyX X.K H v (.type T)) ∧ Post (.bl k) M1) (hn : S' ≠ "__name__" := by decide) (hd : (S' == ("__debug__" : Str)) = false := by decide)
    (he : starEach [e, .Name S' p2] X.env = (false, eval e X.env) :: starEach [.Name S' p2] X.env := by rfl) (he2 : starEach [.Name S' p2] X.env = (false, eval (.Name S' p2) X.env) :: starEach [] X.env := by rfl) (hpl : (backTo pos (starEach [.Name S' p2] X.env)).any (·.1) = false := by rfl) : AE X (.Call (.Name "isinstance" p) [e, .Name S' p2] [] pos) ρ M Post :=
  ae_callB call_isi hg g.isinstance boot_isinstance (aa_cons (h.mono fun d M1 ⟨ty, post⟩ => aa_cons (ae_ty hS hm hv (aa_nil (rc_isi ty hk post)) hn hd) he2) he) (by decide) (by decide) he hpl
end
theorem rc_allT {α : Type} {K : PySem.W.Frag} {M : Mm} {d : D} {Post : D → Mm → Prop} (l : List α) (hd : deref M d = .lst (l.map fun _ => .bl true)) (h : Post (.bl true) M) : RC (rAll K) [d] M Post :=
  rc_all (ns := l.map fun _ => true) (by rw [hd, List.map_map]; rfl) (by
    rw [show (l.map fun _ => true).all id = true from by
      rw [List.all_map]
      exact List.all_eq_true.mpr fun _ _ => rfl]
    exact h)
section
variable {P : Program} {w : World} {K : PySem.W.Frag} {mg : Str → Option Value} {base : Heap}
theorem ok_isInteger {f : Addr} {fd : FuncData} (Fn : Fun K "is_integer" "is_integer" sIsInteger f fd) (g : Glb mg) : FnOk P w K mg base CX0 1 f fd ["value"] (spA spIsInteger) := by
  refine fn_abs (k := 0) Fn scIsInteger (fun ds M Post h => ?_) (fun cdv A outer s H E hr ds M Post h => ?_)
  · obtain ⟨a, rfl, _⟩ := h
    rfl
  · obtain ⟨i, rfl, post⟩ := h
    refine ab_one (as_ret (ae_and ?_))
    refine ae_isi g rfl rfl g.int boot_int' kit_ii (ae_var 0 rfl ⟨ty_int, true, rfl, fun _ => ?_, fun z => nomatch z⟩)
    refine ae_one (ae_not ?_)
    exact ae_isi g rfl rfl g.bool boot_bool' kit_ib (ae_var 0 rfl ⟨ty_int, false, rfl, post⟩)
theorem ok_isNumber {f : Addr} {fd : FuncData} (Fn : Fun K "is_number" "is_number" sIsNumber f fd) (hI : Has ⟨P, w, K, mg, base⟩ 1 "is_integer" spIsInteger) : FnOk P w K mg base CX0 2 f fd ["value"] (spA spIsNumber) := by
  refine fn_abs (k := 1) Fn scIsNumber (fun ds M Post h => ?_) (fun cdv A outer s H E hr ds M Post h => ?_)
  · obtain ⟨a, rfl, _⟩ := h
    rfl
  · obtain ⟨i, rfl, hi, post⟩ := h
    refine ab_one (as_ret (ae_and ?_))
    refine ae_call hI hr rfl (aa_cons (ae_var 0 rfl (aa_nil ⟨i, rfl, true, rfl, fun _ => ?_, fun z => nomatch z⟩)))
    refine ae_one (ae_cmp op_ge (nomark _) (ae_var 0 rfl (ae_int (rr_bool ?_))))
    rw [decide_eq_true hi]
    exact post
theorem ok_isSequence {f : Addr} {fd : FuncData} (Fn : Fun K "is_sequence" "is_sequence" sIsSequence f fd) (g : Glb mg) : FnOk P w K mg base CX0 1 f fd ["value"] (spA spIsSequence) := by
  refine fn_abs (k := 0) Fn scIsSequence (fun ds M Post h => ?_) (fun cdv A outer s H E hr ds M Post h => ?_)
  · obtain ⟨a, _, rfl, _⟩ := h
    rfl
  · obtain ⟨d, ds', rfl, hd, post⟩ := h
    refine ab_one (as_ret ?_)
    refine ae_callB call_isiT rfl g.isinstance boot_isinstance (aa_cons (ae_var 0 rfl (aa_cons (ae_tup (aa_cons (ae_ty rfl g.list boot_list' (aa_cons (ae_ty rfl g.tuple boot_tuple' (aa_nil ⟨Nat.le_of_ble_eq_true rfl, aa_nil ?_⟩)))))))))
    rcases hd with hd | rfl | rfl
    · exact rc_isi2 (ty_lst hd) kit_ll kit_lt post
    · exact rc_isi2 ty_tup kit_tl kit_tt post
    · exact rc_isi2 ty_ptup kit_tl kit_tt post
theorem ok_isName {f : Addr} {fd : FuncData} (Fn : Fun K "is_name" "is_name" sIsName f fd) (g : Glb mg) : FnOk P w K mg base CX0 1 f fd ["value"] (spA spIsName) := by
  refine fn_abs (k := 0) Fn scIsName (fun ds M Post h => ?_) (fun cdv A outer s H E hr ds M Post h => ?_)
  · obtain ⟨a, rfl, _⟩ := h
    rfl
  · obtain ⟨z, rfl, hz, post⟩ := h
    refine ab_cons (as_if (at_w (aw_or (at_not (at_val ?_)))))
    refine ae_isi g rfl rfl g.str boot_str' kit_ss (ae_var 0 rfl ⟨ty_str, true, rfl, fun _ => ?_, fun q => nomatch q⟩)
    have hlt := hz.few
    refine aw_or (at_not (at_chain op_lt op_lt (ae_int ?_)))
    refine ae_callB call_len_str rfl g.len boot_len' (aa_cons (ae_var 0 rfl (aa_nil (rc_lenS (by omega) (rr_bool ⟨_, rfl, fun _ => ?_, fun q => ?_⟩)))))
    · refine ae_int (rr_bool ⟨_, rfl, fun _ => ?_, fun q => ?_⟩)
      · refine aw_or1 (at_cmp op_eq (nomark _) (ae_var 0 rfl (ae_globS rfl g.crown (rr_eqS ⟨_, rfl, fun q => ?_, fun _ => ?_⟩))))
        · exact absurd (of_decide_eq_true q) hz.no
        · refine ab_nil (ab_one (as_ret ?_))
          refine ae_callB (cr_all rfl) rfl g.all boot_all' (aa_cons ?_)
          refine ae_L [("letter", 1)] rfl scIsName.nd (blkOk_by (N := ["value", "letter"]) (sc := defScope sIsName) (by decide +kernel)) (al_map z.cps.toList (fun n => D.str ⟨#[n]⟩) (fun n => D.bl true) ?_)
          refine ai_str (ae_var 0 rfl ⟨z, rfl, rfl, ?_, True.intro, fun x hx s H C cl fp => ?_, ?_⟩)
          · have := hz.few
            show z.cps.toList.length ≤ 1000
            rw [Array.length_toList]
            exact Nat.le_of_lt (Nat.lt_trans this (by decide))
          · refine agc_name 1 (fun s H C cl fp => ?_) (by decide) scIsName.nd
            refine ae_cmp op_in_sign rfl (ae_var 1 rfl (ae_globS rfl g.letters (rr_inSign ⟨?_, rfl⟩)))
            exact congrArg D.bl (decide_eq_true (hz.let_ x hx))
          · exact aa_nil (rc_allT z.cps.toList rfl post)
      · simp at q
        omega
    · have := hz.pos
      simp at q
      omega
end
end Hr
set_option Elab.async false
set_option linter.all false
set_option maxRecDepth 100000
set_option maxHeartbeats 4000000
/-! HeirW2: groups, shares, pairs. -/
namespace Hr
open PySem L2
open PyProof.Rows (sortedS)
theorem cut_to {α : Type} (xs : List α) {i : Nat} (h : i ≤ xs.length) : cutD xs none (some (i : Int)) = xs.take i := by
  unfold cutD
  rw [HT.sIx_none, HT.sIx_nat, Nat.min_eq_left h]
  simp
theorem cut_from {α : Type} (xs : List α) {i : Nat} (h : i ≤ xs.length) : cutD xs (some (i : Int)) none = xs.drop i := by
  unfold cutD
  rw [HT.sIx_none, HT.sIx_nat, Nat.min_eq_left h, List.take_of_length_le]
  rw [List.length_drop]
  exact Nat.le_refl _
def encNs (l : List Str) : D := .lst (l.map .str)
def encShIn (s : Nat × List (List Str)) : D := .tup [.int (s.1 : Int), .lst (s.2.map encNs)]
structure GroupOk (l : List Str) : Prop where
  ne : l ≠ []
  ok : ∀ x ∈ l, NameOk x
  nd : l.Nodup
  few : l.length ≤ 1000
structure ShareOk (s : Nat × List (List Str)) : Prop where
  pos : 1 ≤ s.1
  gr : ∀ g ∈ s.2, GroupOk g
  few : s.2.length ≤ 1000
def spIsGroup : ASp := fun ds M Post => ∃ l : List Str, ds = [encNs l] ∧ GroupOk l ∧ Post (.bl true) M
def spIsShare : ASp := fun ds M Post => ∃ s, ds = [encShIn s] ∧ ShareOk s ∧ Post (.bl true) M
def spArePairs : ASp := fun ds M Post => ∃ d ds', ds = [d] ∧ IsSeq M d ds' ∧ ds'.length ≤ 1000 ∧ (∀ x ∈ ds', ∃ a b, x = .tup [a, b]) ∧ Post (.bl true) M
def spAreUnlike : ASp := fun ds M Post => ∃ l : List Str, ds = [encNs l] ∧ l.Nodup ∧ l.length ≤ 1000 ∧ Post (.bl true) M
theorem nodup_take {l : List Str} (h : l.Nodup) {i : Nat} {x : Str} (hx : l[i]? = some x) : x ∉ l.take i := fun hm => by
  obtain ⟨j, hj⟩ := List.mem_iff_getElem?.mp hm
  have hlt : j < (l.take i).length := (List.getElem?_eq_some_iff.mp hj).1
  rw [List.length_take] at hlt
  rw [List.getElem?_take_of_lt (by omega)] at hj
  have := (List.getElem?_inj (by omega) h).mp (hj.trans hx.symm)
  omega
section
variable {X : Cx} {ρ : Rh} {M : Mm} {e : Expr} {pos p p2 : Pos}
/-- [xs[i] not in xs[:i] for i in range(len(xs))], all of it -/
theorem unlike_at {i : Nat} {l : List Str} {Post : D → Mm → Prop} {a b a' b' : Expr} {p3 p4 p5 : Pos} (nd : l.Nodup) (hi : i < l.length)
    (ha : ∀ Po : D → Mm → Prop, Po (encNs l) M → AE X a ρ M Po) (hb : ∀ Po : D → Mm → Prop, Po (.int (i : Int)) M → AE X b ρ M Po)
    (ha' : ∀ Po : D → Mm → Prop, Po (encNs l) M → AE X a' ρ M Po) (hb' : ∀ Po : D → Mm → Prop, Po (.int (i : Int)) M → AE X b' ρ M Po) (hs : PlainIx b) (h : Post (.bl true) M) : AE X (.Compare (.Subscript a b p3) [.NotIn] [.Subscript a' (.Slice none (some b') none p4) p5] pos) ρ M Post := by
  refine ae_cmp op_notIn_seq (by rfl) (ae_ix ix_list (ha _ (hb _ (rr_ixL i rfl (by rw [List.length_map]; exact ixN_of hi) (by rw [List.getElem?_map, List.getElem?_eq_getElem hi]; rfl) ?_))) hs)
  refine ae_slice sl_list (ha' _ (ao_none (ao_some (hb' _ ⟨_, rfl, rsl_list rfl (rr_in (l := l.take i) ?_ ?_)⟩))))
  · rw [cut_to _ (by rw [List.length_map]; omega), ← List.map_take]
    exact .inl rfl
  · rw [decide_eq_false (nodup_take nd (List.getElem?_eq_getElem hi))]
    exact h
end
section
variable {P : Program} {w : World} {K : PySem.W.Frag} {mg : Str → Option Value} {base : Heap}
theorem ok_isGroup {f : Addr} {fd : FuncData} (Fn : Fun K "is_group" "is_group" sIsGroup f fd) (g : Glb mg) (hS : Has ⟨P, w, K, mg, base⟩ 1 "is_sequence" spIsSequence) (hN : Has ⟨P, w, K, mg, base⟩ 1 "is_name" spIsName) : FnOk P w K mg base CX0 2 f fd ["value"] (spA spIsGroup) := by
  refine fn_abs (k := 1) Fn scIsGroup (fun ds M Post h => ?_) (fun cdv A outer s H E hr ds M Post h => ?_)
  · obtain ⟨a, rfl, _⟩ := h
    rfl
  · obtain ⟨l, rfl, hl, post⟩ := h
    have hlen := hl.few
    refine ab_cons (as_if (at_w (aw_or (at_not (at_val ?_)))))
    refine ae_call hS hr rfl (aa_cons (ae_var 0 rfl (aa_nil ⟨_, _, rfl, .inl rfl, true, rfl, fun _ => ?_, fun q => nomatch q⟩)))
    refine aw_or (at_cmp op_eq (nomark _) (ae_callB call_len_seq rfl g.len boot_len' (aa_cons (ae_var 0 rfl (aa_nil (rc_len (.inl rfl) (ae_int (rr_eqI ⟨_, rfl, fun _ => ?_, fun q => ?_⟩))))))))
    · refine aw_or1 (at_not (at_val ?_))
      refine ae_callB (cr_all rfl) rfl g.all boot_all' (aa_cons ?_)
      refine ae_L [("name", 1)] rfl scIsGroup.nd (blkOk_by (N := ["value", "name", "at"]) (sc := defScope sIsGroup) (by decide +kernel)) (al_map l D.str (fun n => D.bl true) ?_)
      refine ai_seq (ae_var 0 rfl ⟨_, .inl rfl, rfl, hlen, .inl rfl, fun x hx s H C cl fp => ?_, ?_⟩)
      · refine agc_name 1 (fun s H C cl fp => ?_) (by decide) scIsGroup.nd
        exact ae_call hN hr rfl (aa_cons (ae_var 1 rfl (aa_nil ⟨x, rfl, hl.ok x hx, rfl, rfl⟩)))
      · refine aa_nil (rc_allT l rfl ⟨true, rfl, fun q => (nomatch q), fun _ => ?_⟩)
        refine ab_nil (ab_one (as_ret ?_))
        refine ae_callB (cr_all rfl) rfl g.all boot_all' (aa_cons ?_)
        refine ae_L [("at", 2)] rfl scIsGroup.nd (blkOk_by (N := ["value", "name", "at"]) (sc := defScope sIsGroup) (by decide +kernel)) (al_map (List.range l.length) (fun i => D.int ((i : Nat) : Int)) (fun n => D.bl true) ?_)
        refine ai_range rfl g.range (ae_callB call_len_seq rfl g.len boot_len' (aa_cons (ae_var 0 rfl (aa_nil (rc_len (ds := l.map D.str) (.inl rfl) ⟨l.length, by rw [List.length_map], hlen, rfl, by rw [List.length_range]; exact hlen, True.intro, fun i hi s H C cl fp => ?_, ?_⟩)))))
        · refine agc_name 2 (fun s H C cl fp => ?_) (by decide) scIsGroup.nd
          have hi' : i < l.length := List.mem_range.mp hi
          refine unlike_at hl.nd hi' (fun Po h => ?_) (fun Po h => ?_) (fun Po h => ?_) (fun Po h => ?_) ?_ ?_
          · exact ae_var 0 rfl h
          · exact ae_var 2 rfl h
          · exact ae_var 0 rfl h
          · exact ae_var 2 rfl h
          · exact fun _ _ => rfl
          · exact ⟨rfl, rfl⟩
        · exact aa_nil (rc_allT (List.range l.length) rfl post)
    · have h0 : l ≠ [] := hl.ne
      have q' := of_decide_eq_true q
      cases l with
      | nil => exact absurd rfl h0
      | cons x r => simp at q'; omega
theorem ok_isShare {f : Addr} {fd : FuncData} (Fn : Fun K "is_share" "is_share" sIsShare f fd) (g : Glb mg) (hS : Has ⟨P, w, K, mg, base⟩ 1 "is_sequence" spIsSequence) (hI : Has ⟨P, w, K, mg, base⟩ 1 "is_integer" spIsInteger) (hG : Has ⟨P, w, K, mg, base⟩ 2 "is_group" spIsGroup) : FnOk P w K mg base CX0 3 f fd ["value"] (spA spIsShare) := by
  refine fn_abs (k := 2) Fn scIsShare (fun ds M Post h => ?_) (fun cdv A outer s H E hr ds M Post h => ?_)
  · obtain ⟨a, rfl, _⟩ := h
    rfl
  · obtain ⟨sh, rfl, hl, post⟩ := h
    have hp := hl.pos
    have hr1 : Room 1 _ := hr.mono (by decide)
    refine ab_cons (as_if (at_w (aw_or (at_not (at_val ?_)))))
    refine ae_isi g rfl rfl g.tuple boot_tuple' kit_tt (ae_var 0 rfl ⟨ty_tup, true, rfl, fun _ => ?_, fun q => nomatch q⟩)
    refine aw_or1 (at_cmp op_ne (nomark _) (ae_callB call_len_seq rfl g.len boot_len' (aa_cons (ae_var 0 rfl (aa_nil (rc_len (.inr (.inl rfl)) (ae_int (rr_neI ⟨_, rfl, fun q => (by cases q), fun _ => ?_⟩))))))))
    refine ab_nil (ab_cons (as_if (at_w (aw_or (at_not (at_val ?_))))))
    refine ae_call hI hr1 rfl (aa_cons (ae_ix ix_tup (ae_var 0 rfl (ae_int (rr_ixT 0 (.inl rfl) rfl rfl (aa_nil ⟨_, rfl, true, rfl, fun _ => ?_, fun q => nomatch q⟩))))))
    refine aw_or (at_cmp op_lt (nomark _) (ae_ix ix_tup (ae_var 0 rfl (ae_int (rr_ixT 0 (.inl rfl) rfl rfl (ae_int (rr_bool ⟨_, rfl, fun _ => ?_, fun q => ?_⟩)))))))
    · refine aw_or1 (at_not (at_val (ae_call hS hr1 rfl (aa_cons (ae_ix ix_tup (ae_var 0 rfl (ae_int (rr_ixT 1 (.inl rfl) rfl rfl (aa_nil ⟨_, _, rfl, .inl rfl, true, rfl, fun q => (by cases q), fun _ => ?_⟩)))))))))
      refine ab_nil (ab_one (as_ret ?_))
      refine ae_callB (cr_all rfl) rfl g.all boot_all' (aa_cons ?_)
      refine ae_L [("group", 1)] rfl scIsShare.nd (blkOk_by (N := ["value", "group"]) (sc := defScope sIsShare) (by decide +kernel)) (al_map sh.2 encNs (fun n => D.bl true) ?_)
      refine ai_seq (ae_ix ix_tup (ae_var 0 rfl (ae_int (rr_ixT 1 (.inl rfl) rfl rfl ⟨_, .inl rfl, rfl, hl.few, .inl rfl, fun x hx s H C cl fp => ?_, ?_⟩))))
      · refine agc_name 1 (fun s H C cl fp => ?_) (by decide) scIsShare.nd
        exact ae_call hG hr rfl (aa_cons (ae_var 1 rfl (aa_nil ⟨x, rfl, hl.gr x hx, rfl, rfl⟩)))
      · exact aa_nil (rc_allT sh.2 rfl post)
    · have := of_decide_eq_true q
      omega
theorem ok_arePairs {f : Addr} {fd : FuncData} (Fn : Fun K "are_pairs" "are_pairs" sArePairs f fd) (g : Glb mg) (hS : Has ⟨P, w, K, mg, base⟩ 1 "is_sequence" spIsSequence) : FnOk P w K mg base CX0 2 f fd ["value"] (spA spArePairs) := by
  refine fn_abs (k := 1) Fn scArePairs (fun ds M Post h => ?_) (fun cdv A outer s H E hr ds M Post h => ?_)
  · obtain ⟨a, _, rfl, _⟩ := h
    rfl
  · obtain ⟨d, l, rfl, hd, hl, ht, post⟩ := h
    refine ab_one (as_ret (ae_and ?_))
    refine ae_call hS hr rfl (aa_cons (ae_var 0 rfl (aa_nil ⟨d, l, rfl, hd, true, rfl, fun _ => ?_, fun q => nomatch q⟩)))
    refine ae_one (ae_callB (cr_all rfl) rfl g.all boot_all' (aa_cons ?_))
    refine ae_L [("pair", 1)] rfl scArePairs.nd (blkOk_by (N := ["value", "pair"]) (sc := defScope sArePairs) (by decide +kernel)) (al_map l id (fun n => D.bl true) ?_)
    refine ai_seq (ae_var 0 rfl ⟨l, hd, (List.map_id l).symm, hl, hd, fun x hx s H C cl fp => ?_, ?_⟩)
    · refine agc_name 1 (fun s H C cl fp => ?_) (by decide) scArePairs.nd
      obtain ⟨a, b, rfl⟩ := ht x hx
      refine ae_and (ae_isi g rfl rfl g.tuple boot_tuple' kit_tt (ae_var 1 rfl ⟨ty_tup, true, rfl, fun _ => ?_, fun q => nomatch q⟩))
      refine ae_one (ae_cmp op_eq (nomark _) (ae_callB call_len_seq rfl g.len boot_len' (aa_cons (ae_var 1 rfl (aa_nil (rc_len (.inr (.inl rfl)) (ae_int (rr_eqI ⟨?_, rfl⟩))))))))
      rfl
    · exact aa_nil (rc_allT l rfl post)
theorem ok_areUnlike {f : Addr} {fd : FuncData} (Fn : Fun K "are_unlike" "are_unlike" sAreUnlike f fd) (g : Glb mg) : FnOk P w K mg base CX0 1 f fd ["names"] (spA spAreUnlike) := by
  refine fn_abs (k := 0) Fn scAreUnlike (fun ds M Post h => ?_) (fun cdv A outer s H E hr ds M Post h => ?_)
  · obtain ⟨a, rfl, _⟩ := h
    rfl
  · obtain ⟨l, rfl, nd, hlen, post⟩ := h
    refine ab_one (as_ret ?_)
    refine ae_callB (cr_all rfl) rfl g.all boot_all' (aa_cons ?_)
    refine ae_L [("at", 1)] rfl scAreUnlike.nd (blkOk_by (N := ["names", "at"]) (sc := defScope sAreUnlike) (by decide +kernel)) (al_map (List.range l.length) (fun i => D.int ((i : Nat) : Int)) (fun n => D.bl true) ?_)
    refine ai_range rfl g.range (ae_callB call_len_seq rfl g.len boot_len' (aa_cons (ae_var 0 rfl (aa_nil (rc_len (ds := l.map D.str) (.inl rfl) ⟨l.length, by rw [List.length_map], hlen, rfl, by rw [List.length_range]; exact hlen, True.intro, fun i hi s H C cl fp => ?_, ?_⟩)))))
    · refine agc_name 1 (fun s H C cl fp => ?_) (by decide) scAreUnlike.nd
      have hi' : i < l.length := List.mem_range.mp hi
      refine unlike_at nd hi' (fun Po h => ?_) (fun Po h => ?_) (fun Po h => ?_) (fun Po h => ?_) ?_ ?_
      · exact ae_var 0 rfl h
      · exact ae_var 1 rfl h
      · exact ae_var 0 rfl h
      · exact ae_var 1 rfl h
      · exact fun _ _ => rfl
      · exact ⟨rfl, rfl⟩
    · exact aa_nil (rc_allT (List.range l.length) rfl post)
end
end Hr
set_option Elab.async false
set_option linter.all false
/-! HeirS: the one sorted list of texts. -/
namespace Hr
open PySem PyProof.Rows
def leS (a b : Str) : Prop := ¬ (b.cps.toList < a.cps.toList)
instance (a b : Str) : Decidable (leS a b) := inferInstanceAs (Decidable (¬ _))
theorem leS_total (a b : Str) : leS a b ∨ leS b a := by
  unfold leS
  rcases List.le_total a.cps.toList b.cps.toList with h | h
  · exact .inl h
  · exact .inr h
theorem leS_trans {a b c : Str} (h1 : leS a b) (h2 : leS b c) : leS a c := List.le_trans (l₁ := a.cps.toList) h1 h2
theorem leS_anti {a b : Str} (h1 : leS a b) (h2 : leS b a) : a = b := by
  have e : a.cps.toList = b.cps.toList := List.le_antisymm h1 h2
  obtain ⟨x⟩ := a
  obtain ⟨y⟩ := b
  have e2 : x = y := Array.toList_inj.mp e
  rw [e2]
theorem sorted_unique : ∀ {l m : List Str}, l.Perm m → l.Pairwise leS → m.Pairwise leS → l = m
  | [], m, hp, _, _ => (List.nil_perm.mp hp).symm ▸ rfl
  | a :: t, [], hp, _, _ => by
    have := hp.length_eq
    simp at this
  | a :: t, b :: s, hp, h1, h2 => by
    have e : a = b := by
      have ha : a ∈ b :: s := hp.subset List.mem_cons_self
      have hb : b ∈ a :: t := hp.symm.subset List.mem_cons_self
      rcases List.mem_cons.mp ha with e | ha
      · exact e
      · rcases List.mem_cons.mp hb with e | hb
        · exact e.symm
        · exact leS_anti ((List.pairwise_cons.mp h1).1 b hb) ((List.pairwise_cons.mp h2).1 a ha)
    subst e
    rw [sorted_unique ((List.perm_cons a).mp hp) (List.pairwise_cons.mp h1).2 (List.pairwise_cons.mp h2).2]
theorem sortedS_pw : ∀ {l : List Str}, sortedS l = true → l.Pairwise leS
  | [], _ => List.Pairwise.nil
  | x :: r, h => by
    have key : ∀ (r : List Str) (x : Str), risingS x r = true → (∀ y ∈ r, leS x y) ∧ r.Pairwise leS := fun r => by
      induction r with
      | nil => exact fun x _ => ⟨fun y hy => (by cases hy), List.Pairwise.nil⟩
      | cons y r ih =>
        intro x h
        unfold risingS at h
        obtain ⟨h1, h2⟩ := Bool.and_eq_true_iff.mp h
        have hxy : leS x y := by
          rw [ltCps_eq] at h1
          unfold leS
          simpa using h1
        obtain ⟨i1, i2⟩ := ih y h2
        refine ⟨fun z hz => ?_, List.pairwise_cons.mpr ⟨i1, i2⟩⟩
        rcases List.mem_cons.mp hz with e | hz
        · rw [e]
          exact hxy
        · exact leS_trans hxy (i1 z hz)
    obtain ⟨k1, k2⟩ := key r x h
    exact List.pairwise_cons.mpr ⟨k1, k2⟩
def srt (l : List Str) : List Str := l.mergeSort fun a b => decide (leS a b)
theorem srt_pw (l : List Str) : (srt l).Pairwise leS := by
  have h := List.pairwise_mergeSort (le := fun a b => decide (leS a b)) (fun a b c h1 h2 => decide_eq_true (leS_trans (of_decide_eq_true h1) (of_decide_eq_true h2))) (fun a b => by
    rcases leS_total a b with h | h
    · simp [h]
    · simp [h]) l
  exact h.imp fun h => of_decide_eq_true h
theorem srt_perm (l : List Str) : (srt l).Perm l := List.mergeSort_perm l _
theorem srt_eq {l ys : List Str} (hp : ys.Perm l) (hs : sortedS ys = true) : ys = srt l := sorted_unique (hp.trans (srt_perm l).symm) (sortedS_pw hs) (srt_pw l)
theorem srt_congr {l m : List Str} (h : l.Perm m) : srt l = srt m := sorted_unique ((srt_perm l).trans (h.trans (srt_perm m).symm)) (srt_pw l) (srt_pw m)
theorem mem_srt {l : List Str} {x : Str} : x ∈ srt l ↔ x ∈ l := (srt_perm l).mem_iff
theorem srt_len (l : List Str) : (srt l).length = l.length := (srt_perm l).length_eq
theorem srt_nodup {l : List Str} : (srt l).Nodup ↔ l.Nodup := (srt_perm l).nodup_iff
end Hr
set_option Elab.async false
set_option linter.all false
set_option maxRecDepth 100000
set_option maxHeartbeats 4000000
/-! HeirX: wills. -/
namespace Hr
open PySem L2
open PyProof.Rows (sortedS)
abbrev cWill : Stmt := top 35
abbrev sWillInit : Stmt := inClass cWill 0
abbrev sWillNames : Stmt := inClass cWill 1
abbrev sWillHeirs : Stmt := inClass cWill 2
abbrev Share := Nat × List (List Str)
def encG (g : List Str) : D := .tup (g.map .str)
def encSh (s : Share) : D := .tup [.int (s.1 : Int), .tup (s.2.map encG)]
def encWill (W : Addr) (sh : List Share) : D := .obj W [("shares", .tup (sh.map encSh))]
def normSh (s : Share) : Share := (s.1, s.2.map srt)
theorem scWillInit : FnScope ["self", "shares", "share", "group"] ["self", "shares"] (defScope sWillInit) := ⟨rfl, rfl, rfl, by decide +kernel, rfl, by decide +kernel, by decide +kernel⟩
structure SharesOk (sh : List Share) : Prop where
  ne : sh ≠ []
  ok : ∀ s ∈ sh, ShareOk s
  gl : ∀ s ∈ sh, ∀ g ∈ s.2, g.length < 64
  few : sh.length ≤ 1000
def spWillInit (W : Addr) : ASp := fun ds M Post => ∃ q sh, ds = [.adr q, .lst (sh.map encShIn)] ∧ M q = some (.obj W []) ∧ SharesOk sh ∧ Post .non (updM M q (.obj W [("shares", .tup ((sh.map normSh).map encSh))]))
structure WillCls (K : PySem.W.Frag) (W : Addr) : Prop where
  cl : Cls K W
  na : NoAttr K W "shares"
section
variable {P : Program} {w : World} {K : PySem.W.Frag} {mg : Str → Option Value} {base : Heap}
theorem ok_willInit {f W : Addr} {fd : FuncData} (Fn : Fun K "__init__" "Will.__init__" sWillInit f fd) (g : Glb mg) (C : WillCls K W) (hS : Has ⟨P, w, K, mg, base⟩ 1 "is_sequence" spIsSequence) (hSh : Has ⟨P, w, K, mg, base⟩ 3 "is_share" spIsShare) : FnOk P w K mg base CX0 4 f fd ["self", "shares"] (spA (spWillInit W)) := by
  refine fn_abs (k := 3) Fn scWillInit (fun ds M Post h => ?_) (fun cdv A outer s H E hr ds M Post h => ?_)
  · obtain ⟨a, sh, rfl, _⟩ := h
    rfl
  · obtain ⟨q, sh, rfl, hq, hl, post⟩ := h
    have hr1 : Room 1 _ := hr.mono (by decide)
    have hlen := hl.few
    refine ab_cons (as_if (at_w (aw_or (at_not (at_val ?_)))))
    refine ae_call hS hr1 rfl (aa_cons (ae_var 1 rfl (aa_nil ⟨_, _, rfl, .inl rfl, true, rfl, fun _ => ?_, fun q => nomatch q⟩)))
    refine aw_or (at_cmp op_eq (nomark _) (ae_callB call_len_seq rfl g.len boot_len' (aa_cons (ae_var 1 rfl (aa_nil (rc_len (.inl rfl) (ae_int (rr_eqI ⟨_, rfl, fun _ => ?_, fun q => ?_⟩))))))))
    · refine aw_or1 (at_not (at_val ?_))
      refine ae_callB (cr_all rfl) rfl g.all boot_all' (aa_cons ?_)
      refine ae_L [("share", 2)] rfl scWillInit.nd (blkOk_by (by kernel_rfl)) (al_map sh encShIn (fun n => D.bl true) ?_)
      refine ai_seq (ae_var 1 rfl ⟨_, .inl rfl, rfl, hlen, .inl rfl, fun x hx s H C cl fp => ?_, ?_⟩)
      · refine agc_name 2 (fun s H C cl fp => ?_) (by decide) scWillInit.nd
        exact ae_call hSh hr rfl (aa_cons (ae_var 2 rfl (aa_nil ⟨x, rfl, hl.ok x hx, rfl, rfl⟩)))
      · refine aa_nil (rc_allT sh rfl ⟨true, rfl, fun q => (nomatch q), fun _ => ?_⟩)
        refine ab_nil (ab_one (as_fld ?_))
        refine ae_callTy call_tuple_of rfl g.tuple boot_tuple' (aa_cons ?_)
        refine ae_L [("share", 2)] rfl scWillInit.nd (blkOk_by (by kernel_rfl)) (al_map sh encShIn (fun s => encSh (normSh s)) ?_)
        refine ai_seq (ae_var 1 rfl ⟨_, .inl rfl, rfl, hlen, .inl rfl, fun x hx s H C cl fp => ?_, ?_⟩)
        · refine agc_name 2 (fun s H C cl fp => ?_) (by decide) scWillInit.nd
          refine ae_tup (aa_cons (ae_ix ix_tup (ae_var 2 rfl (ae_int (rr_ixT 0 (.inl rfl) rfl rfl (aa_cons ?_))))))
          refine ae_callTy call_tuple_of rfl g.tuple boot_tuple' (aa_cons ?_)
          refine ae_L [("group", 3)] rfl scWillInit.nd (blkOk_by (by kernel_rfl)) (al_map x.2 encNs (fun g => encG (srt g)) ?_)
          refine ai_seq (ae_ix ix_tup (ae_var 2 rfl (ae_int (rr_ixT 1 (.inl rfl) rfl rfl ⟨_, .inl rfl, rfl, (hl.ok x hx).few, .inl rfl, fun y hy s H C cl fp => ?_, ?_⟩))))
          · refine agc_name 3 (fun s H C cl fp => ?_) (by decide) scWillInit.nd
            refine ae_callTy call_tuple_of rfl g.tuple boot_tuple' (aa_cons ?_)
            refine ae_callB cr_sortedS rfl g.sorted boot_sorted' (aa_cons (ae_var 3 rfl (aa_nil (rc_sorted (ns := y) rfl (hl.gl x hx y hy) fun ys hp hs => ?_))))
            refine aa_nil (rc_tupleOf (.inl rfl) ⟨?_, rfl⟩)
            rw [srt_eq hp hs]
            rfl
          · refine aa_nil (rc_tupleOf (.inl rfl) (aa_nil ⟨Nat.le_of_ble_eq_true rfl, ?_, rfl⟩))
            show _ = D.tup [.int (x.1 : Int), .tup ((x.2.map srt).map encG)]
            rw [List.map_map]
            rfl
        · refine aa_nil (rc_tupleOf (.inl rfl) ?_)
          refine ae_var 0 rfl ⟨q, W, [], rfl, hq, C.cl, C.na, by decide, ?_⟩
          show Post .non (updM M q (.obj W [("shares", .tup (sh.map fun s => encSh (normSh s)))]))
          rw [show (sh.map fun s => encSh (normSh s)) = (sh.map normSh).map encSh from by rw [List.map_map]; rfl]
          exact post
    · have h0 : sh ≠ [] := hl.ne
      have q' := of_decide_eq_true q
      cases sh with
      | nil => exact absurd rfl h0
      | cons x r => simp at q'; omega
end
end Hr
set_option Elab.async false
set_option linter.all false
set_option maxRecDepth 100000
set_option maxHeartbeats 4000000
/-! HeirY1: enumerate over a list or a tuple. -/
namespace L2
open PySem PySem.Spec PyProof.Rows

/-! ### enumerate(tuple): the call -/
set_option maxHeartbeats 1000000 in
theorem meets_enumerate_newTup (l : Addr) (items : Array Value) :
    Meets (Builtin.«enumerate.__new__» ⟨[.type "enumerate", .ref l], []⟩) (fun _ R s => s.heap.IsTuple l items ∧
      R (.ok (.ret (.ref (s.heap.push { cls := .type "tuple_iterator", data := .fields #[.ref l, .int 0 0] }).objs.size)))
        { s with heap := (s.heap.push { cls := .type "tuple_iterator", data := .fields #[.ref l, .int 0 0] }).push { cls := .type "enumerate", data := .fields #[.none, .bool false, .ref s.heap.objs.size, rawInt 0, .none, .none] } }) :=
  .of_wp fun prog w A R s h => by
    obtain ⟨hp, g, d, tk, os⟩ := s
    obtain ⟨hl, h⟩ := h
    have hsub := sub_enumerate
    have q1 : ∀ {A' : Around} {E : Value → Shared → Prop} {Q : Value → Shared → Prop}, Q (.ref hp.objs.size) ⟨hp.push { cls := .type "tuple_iterator", data := .fields #[.ref l, .int 0 0] }, g, d, tk, os⟩ → wpAny (model prog w) A' (pyIter (.ref l)) Q E ⟨hp, g, d, tk, os⟩ :=
      fun q => wpAny_pyIter_tuple (s := ⟨hp, g, d, tk, os⟩) (items := items) hl q
    wp_walk using q1
    refine wpAny_stack_any fun st => wpAny_pure ?_
    split
    · rename_i c _ _ _ _ _
      cases (c == Value.type "enumerate")
      · wp_walk using q1
        exact ⟨_, rfl, h⟩
      · wp_walk using q1
        exact ⟨_, rfl, h⟩
    · wp_walk using q1
      exact ⟨_, rfl, h⟩
section
variable {prog : Program} {w : World} {A : Around} {E : Value → Shared → Prop} {s : Shared}
theorem call_enumerate_tup {l : Addr} {items : Array Value} {Q : Value → Shared → Prop} (hL : s.heap.IsTuple l items)
    (h : ∀ h', IsEnum h' (s.heap.objs.size + 1) s.heap.objs.size 0 .none → h'.IsTupleIter s.heap.objs.size l 0 → h'.objs.size = s.heap.objs.size + 2 →
      (∀ b o, s.heap.get? b = some o → h'.get? b = some o) → Q (.ref (s.heap.objs.size + 1)) { s with heap := h' }) :
    wpAny (model prog w) A (call (.type "enumerate") [.ref l]) Q E s := by
  refine callType_new F.called_enumerate (by decide) (F.typeCall_enumerate_1 _) (F.newCall_enumerate_1 _) (fun obj => F.args_object_init_2 obj _) F.entry_enumerate_new
    (meets_enumerate_newTup l items) ⟨hL, ?_⟩
  have hz : (s.heap.push { cls := .type "tuple_iterator", data := .fields #[.ref l, .int 0 0] }).objs.size = s.heap.objs.size + 1 := Heap.size_push ..
  show _ ∧ _
  rw [hz]
  have he : IsEnum ((s.heap.push { cls := .type "tuple_iterator", data := .fields #[.ref l, .int 0 0] }).push
      { cls := .type "enumerate", data := .fields #[.none, .bool false, .ref s.heap.objs.size, rawInt 0, .none, .none] }) (s.heap.objs.size + 1) s.heap.objs.size 0 .none := by
    have := Heap.get?_push_size (s.heap.push { cls := .type "tuple_iterator", data := .fields #[.ref l, .int 0 0] })
      (o := { cls := .type "enumerate", data := .fields #[.none, .bool false, .ref s.heap.objs.size, rawInt 0, .none, .none] }) rfl
    rw [hz] at this; exact this
  refine ⟨⟨_, he, rfl⟩, h _ he ⟨_, Heap.get?_push_of_some _ (Heap.get?_push_size _ rfl), rfl, rfl⟩ (by rw [Heap.size_push, hz]) fun b o x => Heap.get?_push_of_some _ (Heap.get?_push_of_some _ x)⟩
end
/-- the tuple at a, each item in a new pair -/
def IteT (K : PySem.W.Frag) (a : Addr) : It :=
  ⟨fun i H => ∃ (xs : List V) (x : V), SqT K H a xs ∧ xs[i]? = some x, fun i H v H' => ∃ T x, v = .ref T ∧ H T = none ∧ H' = upd H T (.tup [.int (i : Nat), x]) ∧ ∀ xs, SqT K H a xs → xs[i]? = some x, fun i H => ∃ xs : List V, SqT K H a xs ∧ xs.length ≤ i⟩
theorem turn_enumT {P : Program} {w : World} {K : PySem.W.Frag} {elts : List Expr} {kk : Nat} {tpos : Pos} (a e it : Addr) :
    Turn P w K (.Tuple elts kk tpos) (IteT K a) [e, it] e (fun i h => (∃ old, IsEnum h e it ((i : Nat) : Int) old) ∧ h.IsTupleIter it a i ∧ e ≠ it ∧ a ≠ it) where
  mem := by simp
  obj := fun i h st b hb => by
    obtain ⟨⟨old, he⟩, ⟨o, ho, hc, hd⟩, _⟩ := st
    have e' : b = e ∨ b = it := by simpa using hb
    rcases e' with z | z
    · rw [z]; exact ⟨_, he, fun v q => nomatch q⟩
    · rw [z]; exact ⟨o, ho, fun v q => by rw [hd] at q; cases q⟩
  keep := fun i h h' st k => let ⟨⟨old, he⟩, hi, hne⟩ := st; ⟨⟨old, k e (by simp) _ he⟩, hi.at fun o q => k it (by simp) o q, hne⟩
  item := by
    intro X hP hw hK hc i pins s σ H E I hf st hg
    subst hP hw hK
    obtain ⟨⟨old, he⟩, hit, hne, hat⟩ := st
    obtain ⟨xs, x, hq, hx⟩ := hg
    obtain ⟨its, rv, p, hz⟩ := I.tuple hq
    obtain ⟨u, hu, ru⟩ := rv.get hx
    have hel : e < s.heap.objs.size := Heap.lt_size he
    have hil : it < s.heap.objs.size := by obtain ⟨_, q, _⟩ := hit; exact Heap.lt_size q
    have hae : e ∉ [it, a] := fun z => by
      have e' : e = it ∨ e = a := by simpa using z
      rcases e' with z | z
      · exact hne z
      · obtain ⟨o, ho, hc, _⟩ := p
        rw [← z, he] at ho
        cases ho
        injection hc with z
        exact absurd z (by decide)
    refine wpAny_pyNext_enum_itemD (Draws.tuple (prog := X.prog) (w := X.w) (A := X.A.in1) (I.ok.hd hc) it a hat its.toArray) he ⟨hit, p⟩ (by have e1 := (List.getElem?_eq_some_iff.mp hu).1; simpa using e1) hne hae fun x' h' tk hP ho ⟨hit', _⟩ hT hsz hk => ?_
    have ex' : x' = u := by
      have e1 : its[i]? = some x' := by simpa using hP
      rw [hu] at e1
      exact (Option.some.inj e1).symm
    subst ex'
    refine ⟨_, rfl, wpAny_letOwnedTupleGo_enum (s := { s with heap := h', toks := tk + 1 }) ho fun h'' he' sb => ?_⟩
    have hT2 : h''.get? s.heap.objs.size = some { cls := .type "tuple", data := .seq #[.int i tk, x'] } := (sb.2 _ (Nat.ne_of_gt hel)).trans hT
    have new : ObjOk X.prog X.w (upd H s.heap.objs.size (.tup [.int (i : Nat), x])) h'' s.heap.objs.size (.tup [.int (i : Nat), x]) :=
      ⟨by show 2 ≤ sizeLine; decide, [.int i tk, x'], .cons ⟨_, rfl⟩ (.cons ru .nil), ⟨_, hT2, rfl, _, rfl⟩⟩
    have I1 : Inv X pins σ (upd H s.heap.objs.size (.tup [.int (i : Nat), x])) { s with heap := h'', toks := tk + 1 } :=
      I.turnedNew (ch := [e, it]) (fun b ob hb q => (sb.2 b (fun z => hb (by simp [z]))).trans (hk b ob (fun z => hb (by simp [z])) (fun z => hb (by simp [z])) q)) hf (Nat.le_refl _) new
    refine ⟨.ref s.heap.objs.size, _, I1, rfl, ⟨_, x, rfl, I.hok.fresh (Nat.le_refl _), rfl, fun ys hy => by rw [I.tuple_inj hy hq]; exact hx⟩, ⟨⟨x', ?_⟩, hit'.at fun o q => (sb.2 it (Ne.symm hne)).trans q, hne, hat⟩, fun b hb => ?_⟩
    · have e1 : ((i + 1 : Nat) : Int) = (i : Int) + 1 := by omega
      rw [e1]; exact he'
    · have hb' : b < s.heap.objs.size := by
        have e' : b = e ∨ b = it := by simpa using hb
        rcases e' with z | z
        · rw [z]; exact hel
        · rw [z]; exact hil
      rw [upd_ne (Nat.ne_of_lt hb')]
      exact (hf b hb).1
  done := by
    intro X hP hw hK hc i pins s σ H E I hf st hg
    subst hP hw hK
    obtain ⟨⟨old, he⟩, hit, hne, hat⟩ := st
    obtain ⟨xs, hq, hx⟩ := hg
    obtain ⟨its, rv, p, hz⟩ := I.tuple hq
    obtain ⟨f0, f1, f2, f3, f4, f5⟩ := hf it (by simp)
    have hl := rv.length
    have hT : s.TypeIs (.ref e) "enumerate" := ⟨_, he, rfl⟩
    unfold pyNext
    refine wpAny_bind (wpAny_attempt (wpAny_callSpecial?_slot (name := Str.ofString "__next__") hT F.slot_enumerate_next
      (wpAny_call_entry F.slot_enumerate_next hT F.entry_enumerate_next ?_ (F.args_enumerate_next_1 _))))
    show wpAny _ _ (field (.ref e) 2 >>= _) _ _ _
    refine wpAny_bind (wpAny_field he rfl (x := .ref it) rfl ?_)
    refine wpAny_bind (wpAny_nextOf_tuple_end (I.ok.hd hc) hit p (by simp; omega) fun h' x eb hx' => ?_)
    obtain ⟨o, ho, hc'⟩ := hx'
    refine wpAny_bind (wpAny_isInstance (T := "StopIteration") (b := true) ⟨o, ho, hc'⟩ isSubtype_stop ?_)
    exact wpAny_pure ⟨rfl, I.turned (t' := s.toks) (fun b o hb q => eb b o hb q) f0 f1 f3 f4 f5⟩
  self := fun A i s Q E st h => let ⟨⟨_, he⟩, _⟩ := st; wpAny_pyIter_enum he h
def iEnumA (K : PySem.W.Frag) (ta : TA) : TI := fun σ H R => ta σ H fun vs H1 => ∃ a, vs = [.ref a] ∧ ((∃ xs, SqL K H1 a xs ∧ R (Ite K a) H1) ∨ ∃ xs, SqT K H1 a xs ∧ R (IteT K a) H1)
theorem pi_enumA {X : Cx} {e : Expr} {ta : TA} {p pos tpos : Pos} {elts : List Expr} {kk : Nat} (hg : Gl X "enumerate") (hm : X.mg "enumerate" = none) (ha : PA X [e] ta) (hs : starEach [e] X.env = [(false, eval e X.env)] := by rfl) :
    PI X (.Tuple elts kk tpos) (.Call (.Name "enumerate" p) [e] [] pos) (iEnumA X.K ta) := by
  refine ⟨fun pins s σ H R I h => ?_⟩
  refine Call_ (ld_blt I hg hm boot_enumerate (PyProof.Rows.callWith_type1 (thn (ha.run pos pins s σ H _ I h) fun us s1 ⟨vs, H1, I1, r1, q1⟩ => ?_) hs rfl))
  obtain ⟨a, ex, q⟩ := q1
  subst ex
  cases r1 with
  | cons r rr =>
    cases rr
    cases r
    have hle : ∀ b ∈ [s1.heap.objs.size + 1, s1.heap.objs.size], s1.heap.objs.size ≤ b := fun b hb => by
      have e' : b = s1.heap.objs.size + 1 ∨ b = s1.heap.objs.size := by simpa using hb
      rcases e' with z | z
      · rw [z]; exact Nat.le_add_right _ _
      · rw [z]; exact Nat.le_refl _
    rcases q with ⟨xs, hq, q⟩ | ⟨xs, hq, q⟩
    · obtain ⟨its, rv, p', hz⟩ := I1.list hq
      refine call_enumerate_list p'.isList fun h' he hit hsz hk => wpAny_pyIter_enum he ?_
      have I2 : Inv X pins σ H1 { s1 with heap := h' } := I1.kept (t' := s1.toks) hk
      exact ⟨s1.heap.objs.size + 1, [s1.heap.objs.size + 1, s1.heap.objs.size], _, _, H1, rfl, I2, turn_enum a (s1.heap.objs.size + 1) s1.heap.objs.size, ⟨⟨.none, he⟩, hit, Nat.succ_ne_self _⟩, fun b hb => I1.fpOk (hle b hb) (I1.hok.fresh (hle b hb)), q⟩
    · obtain ⟨its, rv, p', hz⟩ := I1.tuple hq
      refine call_enumerate_tup p' fun h' he hit hsz hk => wpAny_pyIter_enum he ?_
      have I2 : Inv X pins σ H1 { s1 with heap := h' } := I1.kept (t' := s1.toks) hk
      have hlt : a < s1.heap.objs.size := by obtain ⟨_, q, _⟩ := p'; exact Heap.lt_size q
      exact ⟨s1.heap.objs.size + 1, [s1.heap.objs.size + 1, s1.heap.objs.size], _, _, H1, rfl, I2, turn_enumT a (s1.heap.objs.size + 1) s1.heap.objs.size, ⟨⟨.none, he⟩, hit, Nat.succ_ne_self _, Nat.ne_of_lt hlt⟩, fun b hb => I1.fpOk (hle b hb) (I1.hok.fresh (hle b hb)), q⟩
end L2

namespace Hr
open PySem L2
section
variable {X : Cx} {ρ : Rh} {M : Mm} {e a b c tg iter elt : Expr} {es rest : List Expr} {pos p apos : Pos}
/-- the pairs of an enumerate -/
def enumD (i : Nat) : List D → List D
  | [] => []
  | d :: l => .tup [.int i, d] :: enumD (i + 1) l
theorem enumD_get : ∀ (l : List D) (j i : Nat), (enumD j l)[i]? = (l[i]?).map fun d => .tup [.int ((j + i : Nat) : Int), d]
  | [], j, i => by simp [enumD]
  | d :: l, j, 0 => by simp [enumD]
  | d :: l, j, i + 1 => by
    have e : j + 1 + i = j + (i + 1) := by omega
    simp only [enumD, List.getElem?_cons_succ]
    rw [enumD_get l (j + 1) i, e]
theorem enumD_len : ∀ (l : List D) (j : Nat), (enumD j l).length = l.length
  | [], j => rfl
  | d :: l, j => by simp [enumD, enumD_len l]
theorem ai_enum {elts : List Expr} {kk : Nat} {tpos : Pos} {Post : List D → (Mm → Prop) → Mm → Prop} (hg : Gl X "enumerate") (hm : X.mg "enumerate" = none)
    (h : AE X iter ρ M fun d M1 => ∃ ds, IsSeq M1 d ds ∧ Post (enumD 0 ds) (fun M => IsSeq M d ds) M1) (hs : starEach [iter] X.env = [(false, eval iter X.env)] := by rfl) :
    AI X (.Tuple elts kk tpos) (.Call (.Name "enumerate" p) [iter] [] pos) ρ M Post := fun G H σ R n r k =>
  wI_of (pi_enumA hg hm pa_w hs) (wA_of (pa_cons pe_w pa_nil (by rw [hs]; rfl)) (h G H σ _ n r fun d M1 v G1 H1 ⟨ds, hd, post⟩ s1 r1 rv => by
    rcases hd with hd | hd
    · obtain ⟨a, xs, ea, h2, h3⟩ := sqL_at s1.now rv hd
      subst ea
      refine ⟨a, rfl, .inl ⟨xs, SqL.of h2, k _ _ M1 G1 H1 _ post s1 r1 ?_⟩⟩
      intro i G H M sE st
      have n := sE.now
      have rv' := rv.mono sE.g
      have st' : deref M d = .lst ds := by
        rcases st with z | z
        · exact z
        · rcases z with z | z
          · rw [z] at hd; cases hd
          · rw [z] at hd; cases hd
      obtain ⟨a', xs', e1, h2', h3'⟩ := sqL_at n rv' st'
      cases e1
      refine ⟨fun d' hi => ?_, fun hi => ⟨xs', SqL.of h2', by rw [h3'.length]; rw [enumD_len] at hi; exact hi⟩⟩
      rw [enumD_get] at hi
      obtain ⟨d0, hd0, rfl⟩ := Option.map_eq_some_iff.mp hi
      obtain ⟨x, e2, e3⟩ := h3'.get hd0
      refine ⟨⟨xs', x, SqL.of h2', e2⟩, fun y H' hy => ?_⟩
      obtain ⟨T, x', rfl, hT, rfl, hy⟩ := hy
      have e4 := hy xs' (SqL.of h2')
      rw [e2] at e4
      cases e4
      have sa := Step.alloc (o := .tup [.int ((i : Nat) : Int), x]) n hT
      refine ⟨_, sa, rep_tup.mpr ⟨T, _, rfl, upd_same, reps_two (rep_int.mpr (by simp)) (e3.mono sa.g)⟩⟩
    · obtain ⟨a, xs, ea, h2, h3⟩ := rdT_at s1.now rv hd
      subst ea
      refine ⟨a, rfl, .inr ⟨xs, .inl h2, k _ _ M1 G1 H1 _ post s1 r1 ?_⟩⟩
      intro i G H M sE st
      have n := sE.now
      have rv' := rv.mono sE.g
      obtain ⟨a', xs', e1, h2', h3'⟩ := rdT_at n rv' hd
      cases e1
      refine ⟨fun d' hi => ?_, fun hi => ⟨xs', .inl h2', by rw [h3'.length]; rw [enumD_len] at hi; exact hi⟩⟩
      rw [enumD_get] at hi
      obtain ⟨d0, hd0, rfl⟩ := Option.map_eq_some_iff.mp hi
      obtain ⟨x, e2, e3⟩ := h3'.get hd0
      refine ⟨⟨xs', x, .inl h2', e2⟩, fun y H' hy => ?_⟩
      obtain ⟨T, x', rfl, hT, rfl, hy⟩ := hy
      have e4 := hy xs' (.inl h2')
      rw [e2] at e4
      cases e4
      have sa := Step.alloc (o := .tup [.int ((i : Nat) : Int), x]) n hT
      refine ⟨_, sa, rep_tup.mpr ⟨T, _, rfl, upd_same, reps_two (rep_int.mpr (by simp)) (e3.mono sa.g)⟩⟩))
end
end Hr
set_option Elab.async false
set_option linter.all false
set_option maxRecDepth 100000
set_option maxHeartbeats 4000000
/-! HeirY2: list(zip(list, list)). -/
namespace Lz
open PySem PySem.Calls PyProof.Rows PyProof.V PySem.Spec

theorem zip_no_len : typeLookup (.type "zip") "__len__" = pure none := am_miss_of_fast (by decide +kernel)
theorem zip_no_hint : typeLookup (.type "zip") "__length_hint__" = pure none := am_miss_of_fast (by decide +kernel)

/-- the zip's objects at turn i, T the tuple it holds, d the address kept apart -/
def ZSt (z TI TO i1 i2 l1 l2 d : Addr) (xs ys : Array Value) (i : Nat) (h : Heap) : Prop :=
  IsPair h TI (.ref i1) (.ref i2) ∧ h.IsListIter i1 l1 i ∧ h.IsListIter i2 l2 i ∧ h.IsList l1 xs ∧ h.IsList l2 ys ∧
    ((IsZip h z TI TO .none ∧ ∃ a b, IsPair h TO a b) ∨ ∃ T f oT, IsZipHeld h z TI TO T f ∧ h.get? T = some oT ∧ T ≠ z ∧ T ≠ i1 ∧ T ≠ i2 ∧ T ≠ d)
structure Apart (z TI TO i1 i2 l1 l2 d : Addr) : Prop where
  z : d ≠ z
  TI : d ≠ TI
  TO : d ≠ TO
  i1 : d ≠ i1
  i2 : d ≠ i2
  l1 : d ≠ l1
  l2 : d ≠ l2
section
variable {prog : Program} {w : World} {A : Around} {E : Value → Shared → Prop} {s : Shared} {z TI TO i1 i2 l1 l2 d : Addr} {xs ys : Array Value} {i : Nat}
theorem ZSt.frame (P : Apart z TI TO i1 i2 l1 l2 d) {h h' : Heap} (st : ZSt z TI TO i1 i2 l1 l2 d xs ys i h) (hk : ∀ b o, b ≠ d → h.get? b = some o → h'.get? b = some o) : ZSt z TI TO i1 i2 l1 l2 d xs ys i h' := by
  obtain ⟨hTI, h1, h2, hl1, hl2, hz⟩ := st
  refine ⟨hk _ _ P.TI.symm hTI, h1.at fun o e => hk _ o P.i1.symm e, h2.at fun o e => hk _ o P.i2.symm e, hl1.at fun o e => hk _ o P.l1.symm e, hl2.at fun o e => hk _ o P.l2.symm e, ?_⟩
  rcases hz with ⟨hz, a, b, hTO⟩ | ⟨T, f, oT, hz, hT, r1, r2, r3, r4⟩
  · exact .inl ⟨hk _ _ P.z.symm hz, a, b, hk _ _ P.TO.symm hTO⟩
  · exact .inr ⟨T, f, oT, hk _ _ P.z.symm hz, hk _ _ r4 hT, r1, r2, r3, r4⟩
theorem zst_item (D : ZipApart z TI TO i1 i2 l1 l2) {x y : Value} {Q : Option Value → Shared → Prop} (ex : xs[i]? = some x) (ey : ys[i]? = some y) (st : ZSt z TI TO i1 i2 l1 l2 d xs ys i s.heap) (hds : d < s.heap.objs.size)
    (hQ : ∀ h', IsPair h' s.heap.objs.size x y → ZSt z TI TO i1 i2 l1 l2 d xs ys (i + 1) h' → h'.objs.size = s.heap.objs.size + 1 →
      (∀ c o, c ∉ [z, TO, i1, i2] → s.heap.get? c = some o → h'.get? c = some o) → Q (some (.ref s.heap.objs.size)) { s with heap := h' }) : wpAny (model prog w) A (pyNext (.ref z)) Q E s := by
  obtain ⟨hTI, h1, h2, hl1, hl2, hz⟩ := st
  have lt : ∀ {c o}, s.heap.get? c = some o → s.heap.objs.size ≠ c := fun e => Nat.ne_of_gt (Heap.lt_size e)
  have n1 : s.heap.objs.size ≠ i1 := let ⟨_, e, _⟩ := h1; lt e
  have n2 : s.heap.objs.size ≠ i2 := let ⟨_, e, _⟩ := h2; lt e
  rcases hz with ⟨hz, a, b, hTO⟩ | ⟨T, f, oT, hz, hT, r1, r2, r3, r4⟩
  · refine wpAny_pyNext_zip_item D hz hTI hTO h1 h2 hl1 hl2 ex ey fun h' a1 a2 a3 a4 a5 a6 hk => ?_
    exact hQ h' a5
      ⟨hk _ _ D.TIz D.TITO D.TIi1 D.TIi2 hTI, a3, a4, hl1.at fun o e => hk _ o D.l1z D.l1TO D.l1i1 D.l1i2 e, hl2.at fun o e => hk _ o D.l2z D.l2TO D.l2i1 D.l2i2 e,
        .inr ⟨s.heap.objs.size, false, _, a1, a5, lt hz, n1, n2, Nat.ne_of_gt hds⟩⟩ a6
      fun c o hc e => hk c o (fun x => hc (by simp [x])) (fun x => hc (by simp [x])) (fun x => hc (by simp [x])) (fun x => hc (by simp [x])) e
  · refine wpAny_pyNext_zip_item_held D hz hT hTI h1 h2 hl1 hl2 ex ey fun h' a1 a3 a4 a5 a6 hk => ?_
    exact hQ h' a5
      ⟨hk _ _ D.TIz D.TIi1 D.TIi2 hTI, a3, a4, hl1.at fun o e => hk _ o D.l1z D.l1i1 D.l1i2 e, hl2.at fun o e => hk _ o D.l2z D.l2i1 D.l2i2 e,
        .inr ⟨T, true, oT, a1, hk _ _ r1 r2 r3 hT, r1, r2, r3, r4⟩⟩ a6
      fun c o hc e => hk c o (fun x => hc (by simp [x])) (fun x => hc (by simp [x])) (fun x => hc (by simp [x])) e
theorem zst_done (hA : A.handled = none) (D : ZipApart z TI TO i1 i2 l1 l2) {Q : Option Value → Shared → Prop} (hend : xs[i]? = none ∨ ys[i]? = none) (st : ZSt z TI TO i1 i2 l1 l2 d xs ys i s.heap)
    (hQ : ∀ h', (∀ c o, c ∉ [z, TO, i1, i2] → s.heap.get? c = some o → h'.get? c = some o) → Q none { s with heap := h' }) : wpAny (model prog w) A (pyNext (.ref z)) Q E s := by
  obtain ⟨hTI, h1, h2, hl1, hl2, hz⟩ := st
  rcases hz with ⟨hz, a, b, hTO⟩ | ⟨T, f, oT, hz, hT, r1, r2, r3, r4⟩
  · exact wpAny_pyNext_zip_end hA D hz hTI hTO h1 h2 hl1 hl2 hend fun h' hk => hQ h' fun c o hc e => hk c o (fun x => hc (by simp [x])) (fun x => hc (by simp [x])) (fun x => hc (by simp [x])) (fun x => hc (by simp [x])) e
  · exact wpAny_pyNext_zip_end_held hA D hz hT hTI h1 h2 hl1 hl2 hend fun h' hk => hQ h' fun c o hc e => hk c o (fun x => hc (by simp [x])) (fun x => hc (by simp [x])) (fun x => hc (by simp [x])) e
end

/-- the addresses hold the pairs, above lo, rising -/
structure PG (xs ys : Array Value) (lo : Addr) (h : Heap) (as : List Addr) : Prop where
  rise : as.Pairwise (· < ·)
  above : ∀ a ∈ as, lo < a
  pairs : ∀ (j : Nat) (a : Addr), as[j]? = some a → ∃ x y, xs[j]? = some x ∧ ys[j]? = some y ∧ IsPair h a x y
theorem PG.there {xs ys : Array Value} {lo : Addr} {h : Heap} {as : List Addr} (g : PG xs ys lo h as) {a : Addr} (ha : a ∈ as) : a < h.objs.size := by
  obtain ⟨j, hj⟩ := List.mem_iff_getElem?.mp ha
  obtain ⟨_, _, _, _, e⟩ := g.pairs j a hj
  exact Heap.lt_size e

section
variable {prog : Program} {w : World} {A : Around} {s : Shared} {R : Result → Shared → Prop} {z TI TO i1 i2 l1 l2 S : Addr} {xs ys : Array Value}
theorem lz_loop (hh : A.handled = none) (D : ZipApart z TI TO i1 i2 l1 l2) (P : Apart z TI TO i1 i2 l1 l2 S) (hn : min xs.size ys.size ≤ sizeLine) (res : Value) {h₁ : Heap} (hlow : ∀ c ∈ [z, TO, i1, i2], c < S)
    (hR : ∀ h' acc c as, (∀ b o, b ∉ S :: [z, TO, i1, i2] → h₁.get? b = some o → h'.get? b = some o) → h'.get? S = some { cls := .type "list", dict := none, data := .seq acc c, slots := #[] } → as.length = min xs.size ys.size → PG xs ys S h' as →
      acc.toList = as.map Value.ref → R (.ok (.ret res)) { s with heap := h' }) :
    ∀ (k i : Nat) (h : Heap) (c : Nat) (acc : Array Value) (as : List Addr), min xs.size ys.size - i = k → i ≤ min xs.size ys.size → ZSt z TI TO i1 i2 l1 l2 S xs ys i h → (∀ b o, b ∉ S :: [z, TO, i1, i2] → h₁.get? b = some o → h.get? b = some o) →
      h.get? S = some { cls := .type "list", dict := none, data := .seq acc c, slots := #[] } → acc.toList = as.map Value.ref → as.length = i → PG xs ys S h as →
      codeAny (model prog w) A (.builtin "list.extend.loop" ⟨[.ref S, .ref z, res], []⟩) R { s with heap := h } := by
  have hoff : S ∉ [z, TO, i1, i2] := fun hm => absurd (hlow S hm) (Nat.lt_irrefl _)
  intro k
  induction k with
  | zero =>
    intro i h c acc as hk hi hst hkeep hS hacc hal hG
    have hin : i = min xs.size ys.size := by omega
    refine codeAny_builtin PySem.F.entry_extend_loop ?_
    rw [Around.under_plainId PySem.F.plain_extend_loop _]
    show wpAny _ A.in1 (pyNext (.ref z) >>= _) _ _ _
    have hend : xs[i]? = none ∨ ys[i]? = none := by
      rcases Nat.le_total xs.size ys.size with q | q
      · exact .inl (Array.getElem?_eq_none (by rw [hin, Nat.min_eq_left q]; exact Nat.le_refl _))
      · exact .inr (Array.getElem?_eq_none (by rw [hin, Nat.min_eq_right q]; exact Nat.le_refl _))
    refine wpAny_bind (zst_done (s := { s with heap := h }) (A := A.in1) hh D hend hst fun h' he => ?_)
    refine wpAny_pure (hR h' acc c as (fun b o h1 e => he b o (fun q => h1 (List.mem_cons_of_mem _ q)) (hkeep b o h1 e)) (he S _ hoff hS) (by omega) ⟨hG.rise, hG.above, fun j a hj => ?_⟩ hacc)
    obtain ⟨x, y, e1, e2, e3⟩ := hG.pairs j a hj
    exact ⟨x, y, e1, e2, he a _ (fun q => absurd (Nat.lt_trans (hlow a q) (hG.above a (List.mem_of_getElem? hj))) (Nat.lt_irrefl _)) e3⟩
  | succ k ih =>
    intro i h c acc as hk hi hst hkeep hS hacc hal hG
    have hlt : i < min xs.size ys.size := by omega
    have ex := Array.getElem?_eq_getElem (Nat.lt_of_lt_of_le hlt (Nat.min_le_left ..))
    have ey := Array.getElem?_eq_getElem (Nat.lt_of_lt_of_le hlt (Nat.min_le_right ..))
    have hsz : acc.size = i := by rw [← Array.length_toList, hacc, List.length_map, hal]
    refine codeAny_builtin PySem.F.entry_extend_loop ?_
    rw [Around.under_plainId PySem.F.plain_extend_loop _]
    show wpAny _ A.in1 (pyNext (.ref z) >>= _) _ _ _
    refine wpAny_bind (zst_item (s := { s with heap := h }) (d := S) D ex ey hst (Heap.lt_size hS) fun h' ht hst' hz hkp => ?_)
    dsimp only at ht hz hkp ⊢
    have hS' := hkp S _ hoff hS
    have up : ∀ b o, b ≠ S → h'.get? b = some o → (h'.update S (Obj.mapSeq (·.push (Value.ref h.objs.size)))).get? b = some o := fun b o hb e => (Heap.get?_update_other _ _ (Ne.symm hb)).trans e
    have hSl : S < h.objs.size := Heap.lt_size hS
    show wpAny _ A.in1 (updateSeq S (·.push (Value.ref h.objs.size)) >>= _) _ _ _
    refine wpAny_bind ?_
    refine wpAny_updateSeq hS' rfl (wpAny_pure ⟨plainId_quiet PySem.F.plain_extend_loop _, ih (i + 1) _ _ (acc.push (Value.ref h.objs.size)) (as ++ [h.objs.size]) (by omega) hlt (hst'.frame P fun b o hb e => up b o hb e)
      (fun b o h1 e => up b o (fun q => h1 (by simp [q])) (hkp b o (fun q => h1 (List.mem_cons_of_mem _ q)) (hkeep b o h1 e))) (Heap.get?_update_self _ hS' rfl) (by rw [Array.toList_push, hacc, List.map_append]; rfl) (by rw [List.length_append, hal]; rfl) ⟨?_, ?_, ?_⟩⟩) (by rw [hsz]; omega) (by show (acc.push (Value.ref h.objs.size)).size ≤ sizeLine + 1; rw [Array.size_push, hsz]; omega)
    · refine List.pairwise_append.mpr ⟨hG.rise, List.pairwise_singleton _ _, fun a ha b hb => ?_⟩
      rw [List.mem_singleton.mp hb]
      exact hG.there ha
    · intro a ha
      rcases List.mem_append.mp ha with ha | ha
      · exact hG.above a ha
      · rw [List.mem_singleton.mp ha]; exact hSl
    · intro j b hj
      rcases Nat.lt_trichotomy j as.length with h1 | h1 | h1
      · rw [List.getElem?_append_left h1] at hj
        obtain ⟨x, y, e1, e2, e3⟩ := hG.pairs j b hj
        have hb := hG.above b (List.mem_of_getElem? hj)
        exact ⟨x, y, e1, e2, up b _ (Nat.ne_of_gt hb) (hkp b _ (fun q => absurd (Nat.lt_trans (hlow b q) hb) (Nat.lt_irrefl _)) e3)⟩
      · subst h1
        have hb : h.objs.size = b := by simpa using hj
        subst hb
        subst hal
        exact ⟨_, _, ex, ey, up _ _ (Nat.ne_of_gt hSl) ht⟩
      · have hnone : (as ++ [h.objs.size])[j]? = none := List.getElem?_eq_none (by rw [List.length_append, List.length_singleton]; omega)
        rw [hnone] at hj; cases hj
theorem lz_extend (hh : A.handled = none) (D : ZipApart z TI TO i1 i2 l1 l2) (P : Apart z TI TO i1 i2 l1 l2 S) (hn : min xs.size ys.size ≤ sizeLine) (res : Value) (hlow : ∀ c ∈ [z, TO, i1, i2], c < S) (hzz : IsZip s.heap z TI TO .none)
    (hst : ZSt z TI TO i1 i2 l1 l2 S xs ys 0 s.heap) (c₀ : Nat) (hS : s.heap.get? S = some { cls := .type "list", data := .seq #[] c₀ })
    (hR : ∀ h' acc c as, (∀ b o, b ∉ S :: [z, TO, i1, i2] → s.heap.get? b = some o → h'.get? b = some o) → h'.get? S = some { cls := .type "list", dict := none, data := .seq acc c, slots := #[] } → as.length = min xs.size ys.size → PG xs ys S h' as →
      acc.toList = as.map Value.ref → R (.ok (.ret res)) { s with heap := h' }) :
    wpAny (model prog w) A.in1 (Builtin.List.listExtendWith (.ref S) (.ref z) res)
      (fun fin s' => match fin with | .done f => R (.ok f) s' | .again c' => c'.quiet = true ∧ codeAny (model prog w) A c' R s') (fun e s' => R (.error e) s') s := by
  have hT : s.TypeIs (.ref z) "zip" := ⟨_, hzz, rfl⟩
  unfold Builtin.List.listExtendWith
  refine wpAny_bind (wpAny_typeOf hT ?_)
  have h1 : Builtin.List.listSameRef (.ref S) (.ref z) = false := by simp [Builtin.List.listSameRef, P.z]
  have h2 : (Value.type "zip" == Value.type "list") = false := by decide
  have h3 : (Value.type "zip" == Value.type "tuple") = false := by decide
  simp only [h1, h2, h3, Bool.or_false, Bool.false_eq_true, if_false]
  refine wpAny_bind (wpAny_pyIter_zip hzz ?_)
  refine wpAny_bind (wpAny_holding ?_)
  unfold Builtin.List.listLengthHint
  refine wpAny_bind (wpAny_specialOf hT zip_no_len ?_)
  show wpAny _ A.in1 (specialOf (Value.ref z) (Str.ofString "__length_hint__") >>= _) _ _ _
  refine wpAny_bind (wpAny_specialOf hT zip_no_hint ?_)
  refine wpAny_pure ?_
  show wpAny _ A.in1 (rule "list.extend.makes-room" >>= fun _ => Builtin.List.listTouch (.ref S) >>= fun _ =>
    again (.builtin "list.extend.loop" ⟨[.ref S, .ref z, res], []⟩)) _ _ _
  refine wpAny_bind (wpAny_rule ?_)
  refine wpAny_bind ?_
  show wpAny _ A.in1 (updateSeq S (·.push .none) >>= fun _ => updateSeq S (·.pop)) _ _ _
  refine wpAny_bind (wpAny_updateSeq hS rfl ?_)
  have hS₂ := Heap.get?_update_self (Obj.mapSeq (·.push Value.none)) hS rfl
  refine wpAny_updateSeq (hz := by seq_fits) hS₂ rfl ?_
  have hS₃ := Heap.get?_update_self (Obj.mapSeq (·.pop)) hS₂ rfl
  have oth : ∀ b o, b ≠ S → s.heap.get? b = some o → ((s.heap.update S (Obj.mapSeq (·.push Value.none))).update S (Obj.mapSeq (·.pop))).get? b = some o :=
    fun b o hb e => (Heap.get?_update_other _ _ (Ne.symm hb)).trans ((Heap.get?_update_other _ _ (Ne.symm hb)).trans e)
  refine wpAny_pure ⟨plainId_quiet PySem.F.plain_extend_loop _, lz_loop (s := s) (h₁ := s.heap) hh D P hn res hlow hR _ 0 _ _ #[] [] (Nat.sub_zero _) (Nat.zero_le _) (hst.frame P oth) (fun b o hb e => oth b o (fun q => hb (by simp [q])) e) hS₃ rfl rfl
    ⟨List.Pairwise.nil, (fun _ ha => nomatch ha), (fun j a hj => by simp at hj)⟩⟩
theorem lz_init (hh : A.handled = none) (D : ZipApart z TI TO i1 i2 l1 l2) (P : Apart z TI TO i1 i2 l1 l2 S) (hn : min xs.size ys.size ≤ sizeLine) (hlow : ∀ c ∈ [z, TO, i1, i2], c < S) (hzz : IsZip s.heap z TI TO .none)
    (hst : ZSt z TI TO i1 i2 l1 l2 S xs ys 0 s.heap) (hS : s.heap.get? S = some { cls := .type "list", data := .seq #[] })
    (hR : ∀ h' acc c as, (∀ b o, b ∉ S :: [z, TO, i1, i2] → s.heap.get? b = some o → h'.get? b = some o) → h'.get? S = some { cls := .type "list", dict := none, data := .seq acc c, slots := #[] } → as.length = min xs.size ys.size → PG xs ys S h' as →
      acc.toList = as.map Value.ref → R (.ok (.ret .none)) { s with heap := h' }) :
    wpAny (model prog w) A.in1 (Builtin.«list.__init__» ⟨[.ref S, .ref z], []⟩)
      (fun fin s' => match fin with | .done f => R (.ok f) s' | .again c' => c'.quiet = true ∧ codeAny (model prog w) A c' R s') (fun e s' => R (.error e) s') s := by
  show wpAny _ A.in1 (do let old ← Builtin.List.listItems (.ref S); Builtin.List.listUpdate (.ref S) (fun _ => #[]); letGo old.toList.reverse; Builtin.List.listExtendWith (.ref S) (.ref z) .none) _ _ s
  refine wpAny_bind ?_
  unfold Builtin.List.listItems
  refine wpAny_bind (wpAny_seqItems hS rfl (wpAny_pure ?_))
  show wpAny _ A.in1 (updateSeq S (fun _ => #[]) >>= fun _ => letGo (#[] : Array Value).toList.reverse >>= fun _ => Builtin.List.listExtendWith (.ref S) (.ref z) .none) _ _ s
  refine wpAny_bind (wpAny_updateSeq hS rfl ?_)
  have hS₂ := Heap.get?_update_self (Obj.mapSeq (fun _ => (#[] : Array Value))) hS rfl
  have oth : ∀ b o, b ≠ S → s.heap.get? b = some o → (s.heap.update S (Obj.mapSeq (fun _ => (#[] : Array Value)))).get? b = some o :=
    fun b o hb e => (Heap.get?_update_other _ _ (Ne.symm hb)).trans e
  refine wpAny_bind (wpAny_letGo ?_)
  refine lz_extend (s := { s with heap := s.heap.update S (Obj.mapSeq (fun _ => (#[] : Array Value))) }) hh D P hn .none hlow (oth z _ P.z.symm hzz) (hst.frame P oth) _ hS₂ fun h' acc c as hk hS' hl hG hacc => ?_
  exact hR h' acc c as (fun b o hb e => hk b o hb (oth b o (fun q => hb (by simp [q])) e)) hS' hl hG hacc
end
section
variable {prog : Program} {w : World} {A : Around} {E : Value → Shared → Prop} {s : Shared} {z TI TO i1 i2 l1 l2 : Addr} {xs ys : Array Value}
theorem lz_call {Q : Value → Shared → Prop} (hh : A.handled = none) (D : ZipApart z TI TO i1 i2 l1 l2) (hn : min xs.size ys.size ≤ sizeLine) (hzz : IsZip s.heap z TI TO .none) (hTI : IsPair s.heap TI (.ref i1) (.ref i2)) {a b : Value} (hTO : IsPair s.heap TO a b)
    (h1 : s.heap.IsListIter i1 l1 0) (h2 : s.heap.IsListIter i2 l2 0) (hl1 : s.heap.IsList l1 xs) (hl2 : s.heap.IsList l2 ys)
    (hQ : ∀ h' acc c as, (∀ b o, b ∉ s.heap.objs.size :: [z, TO, i1, i2] → s.heap.get? b = some o → h'.get? b = some o) → h'.get? s.heap.objs.size = some { cls := .type "list", dict := none, data := .seq acc c, slots := #[] } → as.length = min xs.size ys.size → PG xs ys s.heap.objs.size h' as →
      acc.toList = as.map Value.ref → Q (.ref s.heap.objs.size) { s with heap := h' }) :
    wpAny (model prog w) A (call (.type "list") [.ref z]) Q E s := by
  refine callType_codes (Q₁ := fun obj s₁ => obj = .ref s.heap.objs.size ∧ s₁ = { s with heap := s.heap.push { cls := .type "list", data := .seq #[] } }) PySem.F.called_list (PySem.F.typeCall_list_1 _) PySem.F.entry_list_init
    (code_list_new _ ⟨rfl, rfl⟩) fun obj s₁ h₁ => ?_
  obtain ⟨rfl, rfl⟩ := h₁
  have hS : (s.heap.push { cls := .type "list", data := .seq #[] }).get? s.heap.objs.size = some { cls := .type "list", data := .seq #[] } := Heap.get?_push_size _ rfl
  have lt : ∀ {c o}, s.heap.get? c = some o → c < s.heap.objs.size := fun e => Heap.lt_size e
  have li1 : i1 < s.heap.objs.size := let ⟨_, e, _⟩ := h1; lt e
  have li2 : i2 < s.heap.objs.size := let ⟨_, e, _⟩ := h2; lt e
  have ll1 : l1 < s.heap.objs.size := let ⟨_, e, _⟩ := hl1; lt e
  have ll2 : l2 < s.heap.objs.size := let ⟨_, e, _⟩ := hl2; lt e
  have P : Apart z TI TO i1 i2 l1 l2 s.heap.objs.size := ⟨Nat.ne_of_gt (lt hzz), Nat.ne_of_gt (lt hTI), Nat.ne_of_gt (lt hTO), Nat.ne_of_gt li1, Nat.ne_of_gt li2, Nat.ne_of_gt ll1, Nat.ne_of_gt ll2⟩
  have pk : ∀ b o, s.heap.get? b = some o → (s.heap.push { cls := .type "list", data := .seq #[] }).get? b = some o := fun b o e => Heap.get?_push_of_some _ e
  have st : ZSt z TI TO i1 i2 l1 l2 s.heap.objs.size xs ys 0 s.heap := ⟨hTI, h1, h2, hl1, hl2, .inl ⟨hzz, a, b, hTO⟩⟩
  have hlow : ∀ c ∈ [z, TO, i1, i2], c < s.heap.objs.size := fun c hc => by
    have e : c = z ∨ c = TO ∨ c = i1 ∨ c = i2 := by simpa using hc
    rcases e with q | q | q | q
    · rw [q]; exact lt hzz
    · rw [q]; exact lt hTO
    · rw [q]; exact li1
    · rw [q]; exact li2
  refine ⟨⟨_, hS, rfl⟩, PySem.F.args_list_init_2 _ _, lz_init (s := { s with heap := s.heap.push { cls := .type "list", data := .seq #[] } }) (A := A.in1) hh D P hn hlow (pk z _ hzz) (st.frame P fun b o _ e => pk b o e) hS fun h' acc c as hk hS' hl hG hacc => ?_⟩
  exact ⟨rfl, hQ h' acc c as (fun b o hb e => hk b o hb (pk b o e)) hS' hl hG hacc⟩
end
end Lz

namespace L2
open PySem PySem.Spec PyProof.Rows
/-- new pairs at ps -/
def layP (H : Hp) : List Addr → List (V × V) → Hp
  | a :: ps, xy :: r => layP (upd H a (.tup [xy.1, xy.2])) ps r
  | _, _ => H
theorem Inv.layMany {X : Cx} {H0 : Hp} {s : Shared} {h' : Heap} : ∀ {ps : List Addr} {prs : List (V × V)} {H : Hp} (u : Un X.fs [] H0 H s.heap s.heap) (hok : HOk X.prog X.w H h') (hnd : ps.Nodup) (hn : ∀ a ∈ ps, s.heap.objs.size ≤ a ∧ H a = none)
    (new : ∀ (j : Nat) (a : Addr), ps[j]? = some a → ∀ x y, prs[j]? = some (x, y) → ∃ u v, RelV x u ∧ RelV y v ∧ h'.get? a = some { cls := .type "tuple", data := .seq #[u, v] }),
    Un X.fs [] H0 (layP H ps prs) s.heap s.heap ∧ HOk X.prog X.w (layP H ps prs) h'
  | [], _, H, u, hok, _, _, _ => by
    simp only [layP]
    exact ⟨u, hok⟩
  | a :: ps, [], H, u, hok, _, _, _ => by
    simp only [layP]
    exact ⟨u, hok⟩
  | a :: ps, xy :: r, H, u, hok, hnd, hn, new => by
    simp only [layP]
    obtain ⟨h1, h2⟩ := hn a (by simp)
    obtain ⟨v1, v2, r1, r2, e⟩ := new 0 a rfl xy.1 xy.2 rfl
    obtain ⟨n1, n2⟩ := List.nodup_cons.mp hnd
    refine Inv.layMany (ps := ps) (prs := r) (u.trans (Un.laid (fun _ _ q => q) h1 h2)) (hok.laidN (fun _ _ q => q) h2 ⟨by show 2 ≤ sizeLine; decide, [v1, v2], .cons r1 (.cons r2 .nil), ⟨_, e, rfl, _, rfl⟩⟩) n2 (fun b hb => ?_) fun j b hj x y hxy => ?_
    · refine ⟨(hn b (by simp [hb])).1, ?_⟩
      have hne : b ≠ a := fun z => n1 (z ▸ hb)
      rw [upd_ne hne]
      exact (hn b (by simp [hb])).2
    · exact new (j + 1) b (by simpa using hj) x y (by simpa using hxy)
theorem vals_refs : ∀ as : List Addr, Vals (as.map V.ref) (as.map Value.ref)
  | [] => .nil
  | a :: as => .cons rfl (vals_refs as)
def tListZip (K : PySem.W.Frag) (ta : TA) : TE := fun σ H Q => ta σ H fun vs H1 => ∃ a b xs ys, vs = [.ref a, .ref b] ∧ SqL K H1 a xs ∧ SqL K H1 b ys ∧ min xs.length ys.length ≤ 1000 ∧
  ∀ (ps : List Addr) p, ps.length = min xs.length ys.length → (p :: ps).Nodup → (∀ a ∈ p :: ps, H1 a = none) → Q (.ref p) (upd (layP H1 ps (xs.zip ys)) p (.lst (ps.map V.ref)))
theorem layP_ne {b : Addr} : ∀ {ps : List Addr} {prs : List (V × V)} {H : Hp}, b ∉ ps → layP H ps prs b = H b
  | [], _, H, _ => by simp [layP]
  | a :: ps, [], H, _ => by simp [layP]
  | a :: ps, xy :: r, H, hb => by
    simp only [layP]
    rw [layP_ne (fun z => hb (by simp [z])), upd_ne (fun z => hb (by simp [z]))]
theorem pe_listZip {X : Cx} {e e2 : Expr} {ta : TA} {p p2 q pos : Pos} (hc : X.calm = true) (hg : Gl X "list") (hm : X.mg "list" = none) (hg2 : Gl X "zip") (hm2 : X.mg "zip" = none) (ha : PA X [e, e2] ta)
    (hs : starEach [e, e2] X.env = (false, eval e X.env) :: starEach [e2] X.env := by rfl) (hpl : (backTo q (starEach [e2] X.env)).any (·.1) = false := by rfl)
    (na : starEach [(.Call (.Name "zip" p2) [e, e2] [] q)] X.env = (false, eval (.Call (.Name "zip" p2) [e, e2] [] q) X.env) :: starEach [] X.env := by rfl) :
    PE X (.Call (.Name "list" p) [.Call (.Name "zip" p2) [e, e2] [] q] [] pos) (tListZip X.K ta) := by
  refine ⟨fun pins s σ H Q I h => ?_⟩
  refine Call_ (ld_blt I hg hm boot_list ?_)
  refine PyProof.Rows.callWith_type1 (PyProof.Rows.args_cons ?_ rfl) na rfl
  refine Call_ (ld_blt I hg2 hm2 boot_zip (PyProof.Rows.callWith_type1 (thn (ha.run q pins s σ H _ I h) fun us s1 ⟨vs, H1, I1, r1, q1⟩ => ?_) hs hpl))
  obtain ⟨a, b, xs, ys, ex, hqx, hqy, hl, q1⟩ := q1
  subst ex
  cases r1 with
  | cons r rr =>
    cases rr with
    | cons r' rr =>
      cases rr
      cases r
      cases r'
      obtain ⟨its, rv, p1, _⟩ := I1.list hqx
      obtain ⟨its2, rv2, p2, _⟩ := I1.list hqy
      have la : a < s1.heap.objs.size := p1.lt
      have lb : b < s1.heap.objs.size := p2.lt
      refine call_zip_2 p1.isList p2.isList fun h' hz hTI hTO h1 h2 hsz hk => PyProof.Rows.args_nil ?_
      have sx : its.toArray.size = xs.length := by rw [List.size_toArray]; exact rv.length.symm
      have sy : its2.toArray.size = ys.length := by rw [List.size_toArray]; exact rv2.length.symm
      refine Lz.lz_call (s := { s1 with heap := h' }) (I1.ok.hd hc) (PySem.W.ktu_apart s1.heap.objs.size a b la lb) (by rw [sx, sy]; exact Nat.le_trans hl (by decide)) hz hTI hTO h1 h2 (p1.isList.at fun o e => hk _ o e) (p2.isList.at fun o e => hk _ o e) fun h'' acc c as hk2 hS hal hG hacc => ?_
      dsimp only at hk2 hS hG ⊢
      rw [hsz] at hk2 hS hG ⊢
      have kk : ∀ b o, s1.heap.get? b = some o → h''.get? b = some o := fun b o e => hk2 b o (fun z => by
        have hlt := Heap.lt_size e
        have e' : b = s1.heap.objs.size + 5 ∨ b = s1.heap.objs.size + 4 ∨ b = s1.heap.objs.size + 3 ∨ b = s1.heap.objs.size ∨ b = s1.heap.objs.size + 1 := by simpa using z
        rcases e' with q | q | q | q | q
        · exact absurd hlt (by rw [q]; exact Nat.not_lt.mpr (Nat.le_add_right _ _))
        · exact absurd hlt (by rw [q]; exact Nat.not_lt.mpr (Nat.le_add_right _ _))
        · exact absurd hlt (by rw [q]; exact Nat.not_lt.mpr (Nat.le_add_right _ _))
        · exact absurd hlt (by rw [q]; exact Nat.lt_irrefl _)
        · exact absurd hlt (by rw [q]; exact Nat.not_lt.mpr (Nat.le_add_right _ _))) (hk b o e)
      have hnd : ((s1.heap.objs.size + 5) :: as).Nodup := List.nodup_cons.mpr ⟨fun z => absurd (hG.above _ z) (Nat.lt_irrefl _), hG.rise.imp fun q => Nat.ne_of_lt q⟩
      have hge : ∀ b ∈ ((s1.heap.objs.size + 5) :: as : List Addr), s1.heap.objs.size ≤ b := fun b hb => by
        rcases List.mem_cons.mp hb with z | z
        · rw [z]; exact Nat.le_add_right _ _
        · have := hG.above b z
          exact Nat.le_trans (Nat.le_add_right _ 5) (Nat.le_of_lt this)
      have hno : ∀ b ∈ ((s1.heap.objs.size + 5) :: as : List Addr), H1 b = none := fun b hb => I1.hok.fresh (hge b hb)
      have new : ∀ (j : Nat) (b : Addr), as[j]? = some b → ∀ x y, (xs.zip ys)[j]? = some (x, y) → ∃ u v, RelV x u ∧ RelV y v ∧ h''.get? b = some { cls := .type "tuple", data := .seq #[u, v] } := fun j b hj x y hxy => by
        obtain ⟨u, v, e1, e2, e3⟩ := hG.pairs j b hj
        obtain ⟨z1, z2⟩ := List.getElem?_zip_eq_some.mp hxy
        obtain ⟨u', f1, f2⟩ := rv.get z1
        obtain ⟨v', g1, g2⟩ := rv2.get z2
        have e1' : its[j]? = some u := by simpa using e1
        have e2' : its2[j]? = some v := by simpa using e2
        rw [e1'] at f1
        rw [e2'] at g1
        cases f1
        cases g1
        exact ⟨u, v, f2, g2, e3⟩
      obtain ⟨un, hok⟩ := Inv.layMany (H0 := H1) (X := X) (s := s1) (h' := h'') (ps := as) (prs := xs.zip ys) Un.refl (I1.hok.kept kk) (List.nodup_cons.mp hnd).2 (fun b hb => ⟨hge b (by simp [hb]), hno b (by simp [hb])⟩) new
      have hfr : layP H1 as (xs.zip ys) (s1.heap.objs.size + 5) = none := by
        rw [layP_ne (List.nodup_cons.mp hnd).1]
        exact hno _ (by simp)
      have lobj : ObjOk X.prog X.w (upd (layP H1 as (xs.zip ys)) (s1.heap.objs.size + 5) (.lst (as.map V.ref))) h'' (s1.heap.objs.size + 5) (.lst (as.map V.ref)) := by
        refine ⟨by rw [List.length_map, hal, sx, sy]; exact Nat.le_trans hl (by decide), as.map Value.ref, c, vals_refs as, ?_⟩
        rw [hS, ← hacc]
      refine ⟨.ref (s1.heap.objs.size + 5), upd (layP H1 as (xs.zip ys)) (s1.heap.objs.size + 5) (.lst (as.map V.ref)), ?_, rfl, q1 as _ (by rw [hal, sx, sy]) hnd hno⟩
      exact I1.un (t' := s1.toks) ((un.trans (Un.laid (fun _ _ q => q) (hge _ (by simp)) hfr)).trans (Un.kept kk)) (hok.laidN (fun _ _ q => q) hfr lobj)
end L2

namespace Hr
open PySem L2
theorem lay_step {M : Mm} : ∀ {l1 l2 : List D} {xs ys : List V} {ps : List Addr} {G H : Hp}, Now G H M → Reps G l1 xs → Reps G l2 ys → ps.length = min xs.length ys.length → ps.Nodup → (∀ a ∈ ps, H a = none) →
    ∃ G', Step G H M G' (layP H ps (xs.zip ys)) M ∧ Reps G' ((l1.zip l2).map fun p => .tup [p.1, p.2]) (ps.map V.ref)
  | [], l2, xs, ys, ps, G, H, n, h1, h2, hl, hn, hf => by
    cases reps_nil.mp h1
    have e : ps = [] := List.eq_nil_of_length_eq_zero (by simpa using hl)
    subst e
    exact ⟨G, by simpa [layP] using Step.refl n, reps_nil.mpr rfl⟩
  | d :: l1, [], xs, ys, ps, G, H, n, h1, h2, hl, hn, hf => by
    cases reps_nil.mp h2
    have e : ps = [] := List.eq_nil_of_length_eq_zero (by simpa using hl)
    subst e
    exact ⟨G, by simpa [layP] using Step.refl n, reps_nil.mpr rfl⟩
  | d :: l1, d' :: l2, xs, ys, [], G, H, n, h1, h2, hl, hn, hf => by
    obtain ⟨x, r, rfl, q1, q2⟩ := reps_cons.mp h1
    obtain ⟨y, r', rfl, q3, q4⟩ := reps_cons.mp h2
    simp at hl
  | d :: l1, d' :: l2, xs, ys, a :: ps, G, H, n, h1, h2, hl, hn, hf => by
    obtain ⟨x, r, rfl, q1, q2⟩ := reps_cons.mp h1
    obtain ⟨y, r', rfl, q3, q4⟩ := reps_cons.mp h2
    obtain ⟨n1, n2⟩ := List.nodup_cons.mp hn
    have st := Step.alloc (o := .tup [x, y]) n (hf a (by simp))
    obtain ⟨G', s', rr⟩ := lay_step (ps := ps) st.now (q2.mono st.g) (q4.mono st.g) (by simp at hl; omega) n2 (fun b hb => by
      have hne : b ≠ a := fun z => n1 (z ▸ hb)
      rw [upd_ne hne]
      exact hf b (by simp [hb]))
    refine ⟨G', st.trans s', ?_⟩
    refine reps_cons.mpr ⟨.ref a, ps.map V.ref, rfl, (rep_tup.mpr ⟨a, [x, y], rfl, upd_same, ?_⟩ : Rep (upd G a (.tup [x, y])) (.tup [d, d']) (.ref a)).mono s'.g, rr⟩
    exact reps_two (q1.mono st.g) (q3.mono st.g)
section
variable {X : Cx} {ρ : Rh} {M : Mm} {e e2 : Expr} {es rest : List Expr} {pos p p2 q apos : Pos}
/-- list(zip(a, b)) -/
theorem ae_listZip {Post : D → Mm → Prop} (hc : X.calm = true) (hg : Gl X "list") (hm : X.mg "list" = none) (hg2 : Gl X "zip") (hm2 : X.mg "zip" = none)
    (h : AE X e ρ M fun d M1 => AE X e2 ρ M1 fun d' M2 => ∃ l1 l2, deref M2 d = .lst l1 ∧ deref M2 d' = .lst l2 ∧ l1.length ≤ 1000 ∧ Post (.lst ((l1.zip l2).map fun p => .tup [p.1, p.2])) M2)
    (hs : starEach [e, e2] X.env = (false, eval e X.env) :: starEach [e2] X.env := by rfl) (hs2 : starEach [e2] X.env = [(false, eval e2 X.env)] := by rfl) (hpl : (backTo q (starEach [e2] X.env)).any (·.1) = false := by rfl)
    (na : starEach [(.Call (.Name "zip" p2) [e, e2] [] q)] X.env = (false, eval (.Call (.Name "zip" p2) [e, e2] [] q) X.env) :: starEach [] X.env := by rfl) :
    AE X (.Call (.Name "list" p) [.Call (.Name "zip" p2) [e, e2] [] q] [] pos) ρ M Post := fun G H σ Q n r k =>
  wE_of (pe_listZip hc hg hm hg2 hm2 pa_w hs hpl na) (wA_of (pa_cons pe_w (pa_cons pe_w pa_nil (by rw [hs2]; rfl)) (by rw [hs])) (h G H σ _ n r fun d M1 v G1 H1 p1 s1 r1 rv => p1 G1 H1 σ _ s1.now r1 fun d' M2 u G2 H2 ⟨l1, l2, hd, hd', hl, post⟩ s2 r2 ru => by
    obtain ⟨a, xs, rfl, h2, h3⟩ := sqL_at s2.now (rv.mono s2.g) hd
    obtain ⟨b, ys, rfl, h4, h5⟩ := sqL_at s2.now ru hd'
    refine ⟨a, b, xs, ys, rfl, SqL.of h2, SqL.of h4, by rw [h3.length]; omega, fun ps p hpl hnd hf => ?_⟩
    obtain ⟨n1, n2⟩ := List.nodup_cons.mp hnd
    obtain ⟨G3, s3, r3⟩ := lay_step s2.now h3 h5 hpl n2 fun a ha => hf a (by simp [ha])
    have hp : layP H2 ps (xs.zip ys) p = none := by
      rw [layP_ne n1]
      exact hf p (by simp)
    have s4 := Step.alloc (o := .lst (ps.map V.ref)) s3.now hp
    exact k _ M2 _ _ _ post (((s1.trans s2).trans s3).trans s4) ((r2.mono s3.g).mono s4.g) (rep_lst.mpr ⟨p, _, rfl, upd_same, r3.mono s4.g⟩)))
end
end Hr
set_option Elab.async false
set_option linter.all false
set_option maxRecDepth 100000
set_option maxHeartbeats 4000000
/-! HeirY3: tuples whose object is known, dict(tuple of pairs), dict != dict, own +, d.update. -/
namespace L2
open PySem PySem.Spec PyProof.Rows

/-! ### new tuples, the object known -/
def NoD (o : Obj) : Prop := o.dict = none ∧ o.cls = .type "tuple"
section
variable {X : Cx} {es : List Expr} {t : TA} {pos : Pos}
def tTupP (t : TA) : TE := fun σ H Q => t σ H fun xs H1 => xs.length ≤ sizeLine ∧ ∀ p o, H1 p = none → NoD o → Q (.ref p) (upd H1 p (.frz o (.tup xs)))
theorem pe_tupP {x1} (h : PA X es t) : PE X (.Tuple es x1 pos) (tTupP t) := by
  refine ⟨fun pins s σ H Q I hq => ?_⟩
  refine wpAny_Tuple_spliced (thn (h.run pos pins s σ H _ I hq) fun us s1 ⟨xs, H1, I1, r, z, q⟩ => ⟨by rw [← r.length]; exact z, ?_⟩)
  have hf : H1 s1.heap.objs.size = none := I1.hok.fresh (Nat.le_refl _)
  refine ⟨.ref s1.heap.objs.size, upd H1 s1.heap.objs.size (.frz { cls := .type "tuple", data := .seq us.toArray } (.tup xs)), I1.laid (t' := s1.toks) (fun b u e => Heap.get?_push_of_some _ e) (Nat.le_refl _) ?_, rfl, q _ _ hf ⟨rfl, rfl⟩⟩
  exact ⟨Heap.get?_push_size _ rfl, z, us, r, ⟨_, Heap.get?_push_size _ rfl, rfl, _, rfl⟩⟩
/-- t + u, u not empty, its object known -/
def rCatP (K : PySem.W.Frag) : R2 := fun x y H Q => ∃ a b xs ys, x = .ref a ∧ y = .ref b ∧ SqT K H a xs ∧ SqT K H b ys ∧ ys ≠ [] ∧ xs.length + ys.length ≤ sizeLine ∧
  (xs = [] → Q (.ref b) H) ∧ (xs ≠ [] → ∀ p o, H p = none → NoD o → Q (.ref p) (upd H p (.frz o (.tup (xs ++ ys)))))
theorem op_catP : OpR X (binaryOp .Add) (rCatP X.K) := by
  intro pins s σ H x y v u Q I rx ry h
  obtain ⟨a, b, xs, ys, rfl, rfl, ha, hb, hy, hz, q0, q2⟩ := h
  cases rx
  cases ry
  obtain ⟨its, r1, p1, _⟩ := I.tuple ha
  obtain ⟨its2, r2, p2, _⟩ := I.tuple hb
  by_cases hx : xs = []
  · subst hx
    cases r1
    exact L2.cat_tup0 p1 p2 ⟨.ref b, H, I, rfl, q0 rfl⟩
  · refine HT.cat_tup p1 p2 (fun z => hx (r1.nil_iff.mp z)) (fun z => absurd (r2.nil_iff.mp z) hy) (fun z => ?_) (by rw [← r1.length, ← r2.length]; exact hz)
    refine ⟨.ref s.heap.objs.size, upd H s.heap.objs.size (.frz { cls := .type "tuple", data := .seq (its ++ its2).toArray } (.tup (xs ++ ys))), I.laid (t' := s.toks) (fun b ob q => Heap.get?_push_of_some _ q) (Nat.le_refl _) ?_, rfl, q2 hx _ _ (I.hok.fresh (Nat.le_refl _)) ⟨rfl, rfl⟩⟩
    exact ⟨Heap.get?_push_size _ rfl, by rw [List.length_append]; exact hz, _, r1.append r2, IsTup.new _ _⟩
/-- tuple(list), the object known -/
theorem call_tupleP : CallR X (.type "tuple") (fun xs H Q => ∃ p ys, xs = [.ref p] ∧ SqL X.K H p ys ∧ ∀ l o, H l = none → NoD o → Q (.ref l) (upd H l (.frz o (.tup ys)))) := by
  intro pins s σ H xs us Q I r h
  obtain ⟨p, ys, rfl, hq, q⟩ := h
  obtain ⟨u, rfl, rx⟩ := vals1 r
  cases rx
  obtain ⟨its, r', pl, hz⟩ := I.list hq
  have hlen := r'.length
  refine call_tuple_list pl.isList (fun h' kp => ?_) (by simp only [List.size_toArray] <;> omega)
  have I1 : Inv X pins σ H { s with heap := h' } := I.kept (t' := s.toks) kp
  have I2 : Inv X pins σ (upd H h'.objs.size (.frz { cls := .type "tuple", data := .seq its.toArray } (.tup ys))) { s with heap := h'.push { cls := .type "tuple", data := .seq its.toArray } } :=
    I1.laid (t' := s.toks) (fun b o e => Heap.get?_push_of_some _ e) (Nat.le_refl _) (show ObjOk X.prog X.w _ _ _ (.frz _ (.tup ys)) from ⟨Heap.get?_push_size _ rfl, hz, its, r', IsTup.new _ _⟩)
  exact ⟨.ref h'.objs.size, _, I2, rfl, q _ _ (I1.hok.fresh (Nat.le_refl _)) ⟨rfl, rfl⟩⟩
/-- a method of a tuple whose object is known -/
def tBMP (r : V → List V → Hp → VK → Prop) (to : TE) (t : TA) : TE := fun σ H Q => to σ H fun x H1 => (∃ p o xs, x = .ref p ∧ H1 p = some (.frz o (.tup xs)) ∧ NoD o) ∧ t σ H1 fun xs H2 => r x xs H2 Q
theorem pe_bmP {o e : Expr} {to : TE} {name : Str} {apos cpos : Pos} {id : String} {r : V → List V → Hp → VK → Prop} (slot : Slot "tuple" name id) (hty : typeOf (.builtin id) = pure (.type "method_descriptor")) (hm : MtR X id r) (ho : PE X o to) (ha : PA X (e :: es) t)
    (hbase : attributeBase o name X.env (eval o X.env) = eval o X.env := by rfl)
    (hfew : ((backTo cpos (starEach (e :: es) X.env)).all (fun x => !x.1) && (backToKw cpos (keywordEach [] X.env)).all (fun x => x.1.isSome)
      && decide ((e :: es).length + ([] : List Keyword).length + (if ([] : List Keyword).isEmpty then 0 else 1) < 30)) = true := by rfl)
    (hline : (apos.endLine == cpos.line) = true := by rfl) (hs : starEach (e :: es) X.env = (false, eval e X.env) :: starEach es X.env := by rfl) (hplain : (backTo cpos (starEach es X.env)).any (·.1) = false := by rfl) :
    PE X (.Call (.Attribute o name apos) (e :: es) [] cpos) (tBMP r to t) := by
  refine ⟨fun pins s σ H Q I h => ?_⟩
  refine wpAny_Call_method_late hbase hfew hline rfl (thn (ho.run pins s σ H _ I h) fun v s1 ⟨x, H1, I1, r1, ⟨p, ob, xs, ex, hp, hd, hcl⟩, q1⟩ => ?_)
  subst ex
  cases r1
  obtain ⟨e1, _⟩ := (show ObjOk X.prog X.w H1 s1.heap p (.frz ob (.tup xs)) from I1.hok p _ hp)
  refine ⟨"tuple", id, PySem.F.plainAttrs_tuple, slot, hty, ⟨ob, e1, hcl⟩, fun a ea => ?_, ?_⟩
  · cases ea
    exact ⟨ob, e1, hd⟩
  have hA := ha.run cpos pins s1 σ H1 _ I1 q1
  rw [hs] at hA ⊢
  refine Calls.callWith_builtin (by show (false || (backTo cpos (starEach es X.env)).any (·.1)) = false; rw [hplain] <;> rfl) (Calls.evalArgs_plain ?_)
  exact thn hA fun us s2 ⟨vs, H2, I2, r2, q2⟩ => hm pins s2 σ H2 (.ref p) vs _ us Q I2 rfl r2 q2
theorem pick_list {α : Type} : ∀ (n : Nat) (P : Nat → α → Prop), (∀ j, j < n → ∃ x, P j x) → ∃ l : List α, l.length = n ∧ ∀ j x, l[j]? = some x → P j x
  | 0, P, _ => ⟨[], rfl, fun j x e => by simp at e⟩
  | n + 1, P, h => by
    obtain ⟨x, hx⟩ := h 0 (by omega)
    obtain ⟨l, hl, hp⟩ := pick_list n (fun j => P (j + 1)) fun j hj => h (j + 1) (by omega)
    refine ⟨x :: l, by simp [hl], fun j y e => ?_⟩
    cases j with
    | zero =>
      simp at e
      exact e ▸ hx
    | succ j => exact hp j y (by simpa using e)
/-- dict(t), t a tuple of pairs, its object known -/
theorem call_dictT (hcalm : X.calm = true) : CallR X (.type "dict") (fun xs H Q => ∃ (a : Addr) (o : Obj) (ps : List Addr) (kvs : List (Key × V)), xs = [.ref a] ∧ H a = some (.frz o (.tup (ps.map V.ref))) ∧ NoD o ∧ Paired (fun p kv => SqT X.K H p [kV kv.1, kv.2]) ps kvs ∧
    ∀ p, H p = none → Q (.ref p) (upd H p (.dK (mergeK [] kvs)))) := by
  intro pins s σ H xs us Q I r q
  obtain ⟨a, o, ps, kvs, ex, hq, ⟨hd, hcl⟩, hp, q⟩ := q
  subst ex
  obtain ⟨u, eu, rx⟩ := vals1 r
  subst eu
  cases rx
  obtain ⟨ho, hz, its, rv, ⟨o', ho', _, n, hdat⟩⟩ := (show ObjOk X.prog X.w H s.heap a (.frz o (.tup (ps.map V.ref))) from I.hok a _ hq)
  rw [ho] at ho'
  cases ho'
  have ei := refs_at rv
  subst ei
  rw [List.length_map] at hz
  obtain ⟨prs, rel, hl, hpr⟩ := pairs_of I hp
  let Ts : Nat → Addr := fun j => ps.getD j a
  have hTs : ∀ {j : Nat} {b : Addr}, ps[j]? = some b → Ts j = b := fun e => by
    show ps.getD _ a = _
    rw [List.getD_eq_getElem?_getD, e]
    rfl
  have key : ∃ pv : List (Value × Value), pv.length = prs.length ∧ ∀ j (kv : Value × Value), pv[j]? = some kv → ∃ (q : Key × Value) (b : Addr), prs[j]? = some q ∧ ps[j]? = some b ∧ q.2 = kv.2 ∧ IsTup s.heap b #[kv.1, kv.2] ∧ keyIs q.1 kv.1 = true :=
    pick_list prs.length (fun j (kv : Value × Value) => ∃ (q : Key × Value) (b : Addr), prs[j]? = some q ∧ ps[j]? = some b ∧ q.2 = kv.2 ∧ IsTup s.heap b #[kv.1, kv.2] ∧ keyIs q.1 kv.1 = true) fun j hj => by
      obtain ⟨b, u, e1, e2, e3⟩ := hpr j _ (List.getElem?_eq_getElem hj)
      exact ⟨(u, prs[j].2), prs[j], b, List.getElem?_eq_getElem hj, e1, rfl, e2, e3⟩
  obtain ⟨pv, hpl, hpv⟩ := key
  refine _root_.PySem.call_dict_pairs (knd := mixKind X.prog X.w) (kvs := prs) (PairArg.tuple a (ps.map Value.ref).toArray Ts pv) (I.ok.hd hcalm) ⟨⟨o, n, ho, hcl, hd, hdat⟩, by simp [hpl, hl], fun j k v e => ?_⟩ ⟨by rw [hpl], fun i k v e => ?_⟩ (by rw [hpl, hl]; exact hz) fun h' tk hd' k => ?_
  · obtain ⟨q, b, e1, e2, e3, e4, e5⟩ := hpv j (k, v) e
    rw [hTs e2]
    exact ⟨by simp [e2], .inl e4⟩
  · obtain ⟨q, b, e1, e2, e3, e4, e5⟩ := hpv i (k, v) e
    refine ⟨q.1, ?_, e5⟩
    rw [e1]
    exact congrArg some (Prod.ext rfl e3)
  · have hm : (s.heap.objs.size == sysModules) = false := beq_eq_false_iff_ne.mpr (Nat.ne_of_gt I.big)
    have hlen : (mergeK [] kvs).length ≤ sizeLine := by
      refine Nat.le_trans (length_mergeK kvs []) ?_
      rw [List.length_nil, Nat.zero_add, rel.length, hl]
      exact hz
    exact ⟨.ref s.heap.objs.size, upd H s.heap.objs.size (.dK (mergeK [] kvs)), I.laid (t' := tk) (fun b o e => k b o (fun z => nomatch z) e) (Nat.le_refl _) (show ObjOk X.prog X.w _ _ _ (.dK (mergeK [] kvs)) from ⟨hlen, hm, merged [] prs, KV.merge rel .nil, hd'⟩), rfl, q _ (I.hok.fresh (Nat.le_refl _))⟩
/-! ### d.update(e) -/
theorem mt_update : MtR X "dict.update" (fun x xs H Q => ∃ d e ks ls, x = .ref d ∧ xs = [.ref e] ∧ H d = some (.dK ks) ∧ H e = some (.dK ls) ∧ d ≠ e ∧ ks.length + ls.length ≤ sizeLine ∧ Q .non (upd H d (.dK (mergeK ks ls)))) := by
  intro pins s σ H x xs v us Q I rx rs h
  obtain ⟨d, e, ks, ls, rfl, rfl, hd, he, hne, hz, q⟩ := h
  cases rx
  obtain ⟨u, rfl, ru⟩ := vals1 rs
  cases ru
  obtain ⟨z1, y1, va, ra, da⟩ := (show ObjOk X.prog X.w H s.heap d (.dK ks) from I.hok d _ hd)
  obtain ⟨z2, y2, vb, rb, db⟩ := (show ObjOk X.prog X.w H s.heap e (.dK ls) from I.hok e _ he)
  refine call_meetsIn PySem.F.slot_dict_update da.typeIs PySem.F.entry_dict_update (PySem.F.args_dict_update_2 _ _) (meets_dict_update (mixKind X.prog X.w) d e hne y2)
    ⟨va, vb, da, db, (by rw [← ra.length, ← rb.length]; exact hz), fun h' hmm _ hs => ?_⟩
  have hh : ∃ q, h'.get? d = some q := by
    obtain ⟨o, _, _, ho, _⟩ := hmm
    exact ⟨o, ho⟩
  refine ⟨.non, upd H d (.dK (mergeK ks ls)), d_write (t' := s.toks) I (by rw [hd]; exact True.intro) hs hh (dk_new ?_ y1 (KV.merge rb ra) hmm), rfl, q⟩
  exact Nat.le_trans (length_mergeK ls ks) hz
/-! ### dicts compared whose values are pairs of ints -/
def rNeDD (K : PySem.W.Frag) : R2 := fun x y H Q => ∃ a b ks ls, x = .ref a ∧ y = .ref b ∧ H a = some (.dK ks) ∧ H b = some (.dK ls) ∧ ks.length = ls.length ∧
  (∀ p ∈ ks, ∃ u, valV ls p.1 = some u ∧ ∃ i j : Int, Dp K H p.2 (.tuple [.int i, .int j]) ∧ Dp K H u (.tuple [.int i, .int j])) ∧ Q (.bl false) H
theorem hits_dp {pins : List (Addr × Obj)} {σ : St} {H : Hp} {s : Shared} {A : Around} (hu : A.units + 64 < cLine) (I : Inv X pins σ H s) {ls : List (Key × V)} {vb : List (Key × Value)} (rb : KV ls vb) {ks : List (Key × V)} {va : List (Key × Value)} (ra : KV ks va) :
    (∀ p ∈ ks, ∃ u, valV ls p.1 = some u ∧ ∃ i j : Int, Dp X.K H p.2 (.tuple [.int i, .int j]) ∧ Dp X.K H u (.tuple [.int i, .int j])) → PySem.W.KeqHits A s vb va true := by
  unfold KV at ra
  induction ra with
  | nil => intro _; exact .nil
  | @cons p q ps qs h t k =>
    intro hp
    obtain ⟨h1, h2⟩ := h
    obtain ⟨u, e, i, j, f1, f2⟩ := hp p List.mem_cons_self
    have rr : RelO (some u) (valueAt vb p.1) := by rw [← e]; exact rb.val p.1
    obtain ⟨y, hy, ry⟩ := rr.some_of
    obtain ⟨key, v⟩ := q
    have h1' : p.1 = key := h1
    rw [h1'] at hy
    show PySem.W.KeqHits A s vb ((key, v) :: qs) (true && true)
    obtain ⟨as, r1⟩ := Dp.reads I _ p.2 v f1 h2
    obtain ⟨bs, r2⟩ := Dp.reads I _ u y f2 ry
    have q := PySem.W.eqAt_alike _ _ A s v y as bs r1 r2 rfl (Nat.lt_of_le_of_lt (Nat.add_le_add_left (by show min (PyData.depth (.tuple [.int i, .int j])) (PyData.depth (.tuple [.int i, .int j])) ≤ 64; simp [PyData.depth, PyData.depthAll]) _) hu)
    have e2 : PyData.eqv (.tuple [.int i, .int j]) (.tuple [.int i, .int j]) = true := by simp [PyData.eqv, PyData.eqvAll]
    rw [e2] at q
    exact .hit hy q (k fun p' hm => hp p' (List.mem_cons_of_mem _ hm))
theorem op_neDD (hu : X.A.units + 68 < cLine) : OpR X (compareOp .NotEq) (rNeDD X.K) := by
  intro pins s σ H x y v u Q I rx ry h
  obtain ⟨a, b, ks, ls, rfl, rfl, ea, eb, hlen, hp, q⟩ := h
  obtain rfl : v = Value.ref a := rx
  obtain rfl : u = Value.ref b := ry
  obtain ⟨_, ya, va, ra, da⟩ := (show ObjOk X.prog X.w H s.heap a (.dK ks) from I.hok a _ ea)
  obtain ⟨_, yb, vb, rb, db⟩ := (show ObjOk X.prog X.w H s.heap b (.dK ls) from I.hok b _ eb)
  have hl : va.length = vb.length := by rw [← ra.length, ← rb.length]; exact hlen
  exact PySem.W.keq_ne (knd := mixKind X.prog X.w) (r := true) ya yb da db (by omega) (fun _ => hits_dp (by show X.A.units + 1 + 64 < cLine; omega) I rb ra hp) (fin_bl I q (by simp [hl]))
/-! ### x + y of one's own class -/
theorem op_own {C f : Addr} {k : Nat} {CX : CXT} {fd : _} {ps : _} {sp : Sp} {E : XK} (hsf : PySem.W.selfFirst X.K C = true) (hm : Meth X.K C "__add__" f) (F : FnOk X.prog X.w X.K X.mg X.base CX k f fd ps sp) (hr : Room k X.A) (hb : Binds X.K fd ps []) (hx : Passes CX X E) :
    OpR X (binaryOp .Add) (fun x y H Q => ∃ a dx fs b dy gs, x = .ref a ∧ y = .ref b ∧ H a = some (.ins C dx fs) ∧ H b = some (.ins C dy gs) ∧ sp [x, y] H Q E) := by
  intro pins s σ H x y v u Q I rx ry h
  obtain ⟨a, dx, fs, b, dy, gs, rfl, rfl, ha, hb', q⟩ := h
  obtain rfl : v = Value.ref a := rx
  obtain rfl : u = Value.ref b := ry
  obtain ⟨mA, O, _⟩ := ins_get I.hok ha
  obtain ⟨mB, O', _⟩ := ins_get I.hok hb'
  obtain ⟨od, IA, _⟩ := O.look
  obtain ⟨od', IB, _⟩ := O'.look
  obtain ⟨m, fr⟩ := I.fr
  refine PySem.W.binop_K fr I.ok.mod.kin IA IB.type hsf hm.at_ hm.fn ?_
  have w := run_fn (us := [.ref a, .ref b]) (vs := [.ref a, .ref b]) (dvs := []) F hr hb .nil hx I (.cons rfl (.cons rfl .nil)) (by simpa using q)
  refine wpAny_mono w (fun r s' hv => ?_) fun _ _ e => e
  obtain ⟨z, H', I', rz, qz⟩ := hv
  cases z with
  | non => cases rz; exact ⟨.non, _, I', rfl, qz⟩
  | bl b => cases rz; exact ⟨.bl b, _, I', rfl, qz⟩
  | int b => obtain ⟨t, rfl⟩ := rz; exact ⟨.int b, _, I', ⟨t, rfl⟩, qz⟩
  | str b => obtain ⟨t, rfl⟩ := rz; exact ⟨.str b, _, I', ⟨t, rfl⟩, qz⟩
  | byt b => obtain ⟨t, rfl⟩ := rz; exact ⟨.byt b, _, I', ⟨t, rfl⟩, qz⟩
  | flt b => obtain ⟨t, rfl⟩ := rz; exact ⟨.flt b, _, I', ⟨t, rfl⟩, qz⟩
  | ref b => cases rz; exact ⟨.ref b, _, I', rfl, qz⟩
  | ty b => cases rz; exact ⟨.ty b, _, I', rfl, qz⟩
end
end L2

namespace Hr
open PySem L2
section
variable {X : Cx} {ρ : Rh} {M : Mm} {e e2 o : Expr} {es rest : List Expr} {pos p p2 q apos : Pos} {K : PySem.W.Frag}
theorem strs_of {G : Hp} : ∀ {l : List Str} {xs : List V}, Reps G (l.map .str) xs → xs = l.map V.str
  | [], _, h => reps_nil.mp h
  | y :: l, _, h => by
    obtain ⟨w, r, rfl, q1, q2⟩ := reps_cons.mp h
    rw [rep_str.mp q1, strs_of q2]
    rfl
theorem ptup_step {G H : Hp} {M : Mm} (n : Now G H M) {q : Addr} {o : Obj} {xs : List V} {ds : List D} (hq : H q = none) (ho : NoD o) (r : Reps G ds xs) : ∃ G', Step G H M G' (upd H q (.frz o (.tup xs))) M ∧ Rep G' (.ptup ds) (.ref q) := by
  have st := Step.alloc (o := .frz o (.tup xs)) n hq
  exact ⟨_, st, rep_ptup.mpr ⟨q, o, xs, rfl, upd_same, ho.1, ho.2, r.mono st.g⟩⟩
theorem ae_tupP {Post : D → Mm → Prop} {x1 : Nat} (h : AA X es ρ M fun ds M1 => ds.length ≤ 1000 ∧ Post (.ptup ds) M1) : AE X (.Tuple es x1 pos) ρ M Post := fun G H σ Q n r k =>
  wE_of (pe_tupP pa_w) (h G H σ _ n r fun ds M1 vs G1 H1 ⟨hl, p⟩ s1 r1 rvs => ⟨by
    rw [rvs.length]
    exact small hl, fun q o hq ho => by
      obtain ⟨G2, st, rr⟩ := ptup_step s1.now hq ho rvs
      exact k _ M1 _ _ _ p (s1.trans st) (r1.mono st.g) rr⟩)
/-- x + y, y a tuple (not empty) -/
theorem rr_catP {x y : D} {ds es : List D} {Post : D → Mm → Prop} (hx : x = .tup ds ∨ x = .ptup ds) (hy : y = .ptup es) (he : es ≠ []) (hl : ds.length + es.length ≤ 1000) (h : Post (.ptup (ds ++ es)) M) : RR (rCatP K) x y M Post := fun G H v u Q n rv ru k => by
  obtain ⟨a, xs, rfl, h2, h3⟩ := rdT_at n rv hx
  obtain ⟨b, ys, rfl, h4, h5⟩ := rdT_at n ru (.inr hy)
  refine ⟨a, b, xs, ys, rfl, rfl, Or.inl h2, Or.inl h4, fun z => he (List.eq_nil_of_length_eq_zero (by rw [← h5.length, z]; rfl)), by rw [h3.length, h5.length]; exact small hl, fun e => ?_, fun e q o hq ho => ?_⟩
  · have hz : ds = [] := List.eq_nil_of_length_eq_zero (by rw [← h3.length, e]; rfl)
    subst hz hy
    exact k _ M _ G H h (Step.refl n) ru
  · obtain ⟨G2, st, rr⟩ := ptup_step n hq ho (h3.append h5)
    exact k _ M _ _ _ h st rr
/-- x + y of tuples of any kind, y not empty: the object new or y -/
theorem rr_catP' {x y : D} {ds es : List D} {Post : D → Mm → Prop} (hx : x = .tup ds ∨ x = .ptup ds) (hy : y = .tup es ∨ y = .ptup es) (hd : ds ≠ []) (he : es ≠ []) (hl : ds.length + es.length ≤ 1000) (h : Post (.ptup (ds ++ es)) M) : RR (rCatP K) x y M Post := fun G H v u Q n rv ru k => by
  obtain ⟨a, xs, rfl, h2, h3⟩ := rdT_at n rv hx
  obtain ⟨b, ys, rfl, h4, h5⟩ := rdT_at n ru hy
  refine ⟨a, b, xs, ys, rfl, rfl, Or.inl h2, Or.inl h4, fun z => he (List.eq_nil_of_length_eq_zero (by rw [← h5.length, z]; rfl)), by rw [h3.length, h5.length]; exact small hl, fun e => ?_, fun e q o hq ho => ?_⟩
  · exact absurd (List.eq_nil_of_length_eq_zero (by rw [← h3.length, e]; rfl)) hd
  · obtain ⟨G2, st, rr⟩ := ptup_step n hq ho (h3.append h5)
    exact k _ M _ _ _ h st rr
theorem rc_tupleP {d : D} {ds : List D} {Post : D → Mm → Prop} (hd : deref M d = .lst ds) (h : Post (.ptup ds) M) : RC (fun xs H Q => ∃ p ys, xs = [.ref p] ∧ SqL K H p ys ∧ ∀ l o, H l = none → NoD o → Q (.ref l) (upd H l (.frz o (.tup ys)))) [d] M Post := fun G H vs Q n r kk => by
  obtain ⟨v, rfl, rv⟩ := reps1 r
  obtain ⟨a, xs, rfl, h2, h3⟩ := sqL_at n rv hd
  refine ⟨a, xs, rfl, SqL.of h2, fun l o hl ho => ?_⟩
  obtain ⟨G2, st, rr⟩ := ptup_step n hl ho h3
  exact kk _ M _ _ _ h st rr
theorem rc_dictT {d : D} {l : List (Str × D)} {Post : D → Mm → Prop} (hd : d = .ptup (l.map prD)) (h : ∀ q, M q = none → Post (.adr q) (updM M q (.dct (mergeD [] l)))) :
    RC (fun xs H Q => ∃ (a : Addr) (o : Obj) (ps : List Addr) (kvs : List (Key × V)), xs = [.ref a] ∧ H a = some (.frz o (.tup (ps.map V.ref))) ∧ NoD o ∧ Paired (fun p kv => SqT K H p [kV kv.1, kv.2]) ps kvs ∧
      ∀ p, H p = none → Q (.ref p) (upd H p (.dK (mergeK [] kvs)))) [d] M Post := fun G H vs Q n r kk => by
  obtain ⟨v, rfl, rv⟩ := reps1 r
  subst hd
  obtain ⟨a, o, xs, rfl, h2, h3, h4, h5⟩ := rep_ptup.mp rv
  obtain ⟨ps, kvs, rfl, p2, p3⟩ := pairs_at (K := K) n.sub h5
  refine ⟨a, o, ps, kvs, rfl, n.sub _ _ h2, ⟨h3, h4⟩, p2, fun q hq => ?_⟩
  have st := Step.allocO (o := .dK (mergeK [] kvs)) (d := .dct (mergeD [] l)) n hq ⟨_, upd_same, p3.merge rfl⟩
  exact kk _ _ _ _ _ (h q (n.fresh hq)) st (rep_adr.mpr rfl)
/-- t.index(x) -/
theorem ae_tupIndex {Post : D → Mm → Prop} (h : AE X o ρ M fun d M1 => ∃ l : List Str, d = .ptup (l.map .str) ∧ AE X e ρ M1 fun y M2 => ∃ z j, y = .str z ∧ l[j]? = some z ∧ (∀ m, m < j → l[m]? ≠ some z) ∧ Post (.int (j : Nat)) M2)
    (hbase : attributeBase o "index" X.env (eval o X.env) = eval o X.env := by rfl)
    (hfew : ((backTo pos (starEach [e] X.env)).all (fun x => !x.1) && (backToKw pos (keywordEach [] X.env)).all (fun x => x.1.isSome)
      && decide ([e].length + ([] : List Keyword).length + (if ([] : List Keyword).isEmpty then 0 else 1) < 30)) = true := by rfl)
    (hline : (apos.endLine == pos.line) = true := by rfl) (hs : starEach [e] X.env = (false, eval e X.env) :: starEach [] X.env := by rfl) (hplain : (backTo pos (starEach [] X.env)).any (·.1) = false := by rfl) :
    AE X (.Call (.Attribute o "index" apos) [e] [] pos) ρ M Post := fun G H σ Q n r k =>
  wE_of (pe_bmP PySem.F.slot_tuple_index (by kernel_rfl) mt_tup_index pe_w pa_w hbase hfew hline hs hplain) (h G H σ _ n r fun d M1 v G1 H1 ⟨l, ed, p1⟩ s1 r1 rv => by
    subst ed
    obtain ⟨a, ob, xs, rfl, h2, h3, h4, h5⟩ := rep_ptup.mp rv
    refine ⟨⟨a, ob, xs, rfl, s1.now.sub _ _ h2, h3, h4⟩, wA_of (pa_cons pe_w pa_nil (by rw [hs])) (p1 G1 H1 σ _ s1.now r1 fun y M2 u G2 H2 ⟨z, j, ey, hj, hno, post⟩ s2 r2 ru => ?_)⟩
    subst ey
    cases rep_str.mp ru
    have ex : xs = l.map V.str := strs_of h5
    subst ex
    refine ⟨a, l, z, j, rfl, rfl, .inl (.inr ⟨ob, s2.now.sub _ _ (s2.g _ _ h2)⟩), hj, hno, k _ M2 _ G2 H2 post (s1.trans s2) r2 (rep_int.mpr rfl)⟩)
/-- d.update(e), an own dict by an own one -/
theorem ae_update {Post : D → Mm → Prop} (h : AE X o ρ M fun x M1 => ∃ q, x = .adr q ∧ (∃ l, M1 q = some (.dct l)) ∧ AE X e ρ M1 fun y M2 => ∃ q2 l l2, y = .adr q2 ∧ q ≠ q2 ∧ M2 q = some (.dct l) ∧ M2 q2 = some (.dct l2) ∧ l.length + l2.length ≤ 1000 ∧ Post .non (updM M2 q (.dct (mergeD l l2))))
    (hbase : attributeBase o "update" X.env (eval o X.env) = eval o X.env := by rfl)
    (hfew : ((backTo pos (starEach [e] X.env)).all (fun x => !x.1) && (backToKw pos (keywordEach [] X.env)).all (fun x => x.1.isSome)
      && decide ([e].length + ([] : List Keyword).length + (if ([] : List Keyword).isEmpty then 0 else 1) < 30)) = true := by rfl)
    (hline : (apos.endLine == pos.line) = true := by rfl) (hs : starEach [e] X.env = (false, eval e X.env) :: starEach [] X.env := by rfl) (hplain : (backTo pos (starEach [] X.env)).any (·.1) = false := by rfl) :
    AE X (.Call (.Attribute o "update" apos) [e] [] pos) ρ M Post := fun G H σ Q n r k =>
  wE_of (pe_bm PySem.F.plainAttrs_dict PySem.F.slot_dict_update (by kernel_rfl) mt_update pe_w pa_w hbase hfew hline hs hplain) (h G H σ _ n r fun d M1 v G1 H1 ⟨q, ed, ⟨l0, hl0⟩, p1⟩ s1 r1 rv => by
    subst ed
    cases rep_adr.mp rv
    obtain ⟨_, kvs0, g1, _⟩ := s1.now.own q _ hl0
    refine ⟨.inr (.inr (.inl ⟨rfl, .inl ⟨kvs0, g1⟩⟩)), wA_of (pa_cons pe_w pa_nil (by rw [hs])) (p1 G1 H1 σ _ s1.now r1 fun y M2 u G2 H2 ⟨q2, l, l2, ey, hne, hq, hq2, hlen, post⟩ s2 r2 ru => ?_)⟩
    subst ey
    cases rep_adr.mp ru
    obtain ⟨_, kvs, e1, e2⟩ := s2.now.own q _ hq
    obtain ⟨_, kvs2, e3, e4⟩ := s2.now.own q2 _ hq2
    refine ⟨q, q2, kvs, kvs2, rfl, rfl, e1, e3, hne, by rw [e2.length, e4.length]; exact small hlen, ?_⟩
    exact k _ _ _ G2 _ post ((s1.trans s2).trans (Step.write s2.now hq ⟨_, upd_same, e4.merge e2⟩)) r2 (rep_non.mpr rfl))
/-- two own dicts of pairs of ints, equal as maps: != is False -/
def prI (ij : Int × Int) : D := .tup [.int ij.1, .int ij.2]
theorem rr_neDD {x y : D} {q q2 : Addr} {l l2 : List (Str × D)} {Post : D → Mm → Prop} (ex : x = .adr q) (ey : y = .adr q2) (h1 : M q = some (.dct l)) (h2 : M q2 = some (.dct l2)) (hl : l.length = l2.length)
    (hall : ∀ p ∈ l, ∃ ij : Int × Int, p.2 = prI ij ∧ valD l2 p.1 = some (prI ij)) (h : Post (.bl false) M) : RR (rNeDD K) x y M Post := fun G H v u Q n rv ru k => by
  subst ex ey
  cases rep_adr.mp rv
  cases rep_adr.mp ru
  obtain ⟨_, kvs, e1, e2⟩ := n.own q _ h1
  obtain ⟨_, kvs2, e3, e4⟩ := n.own q2 _ h2
  refine ⟨q, q2, kvs, kvs2, rfl, rfl, e1, e3, by rw [e2.length, e4.length]; exact hl, fun p hp => ?_, k _ M _ G H h (Step.refl n) (rep_bl.mpr rfl)⟩
  have dp : ∀ {ij : Int × Int} {w : V}, Rep G (prI ij) w → Dp K H w (.tuple [.int ij.1, .int ij.2]) := fun {ij w} hr => by
    obtain ⟨a, vs, rfl, f1, f2⟩ := rep_tup.mp hr
    obtain ⟨w1, w2, rfl, g1, g2⟩ := reps2 f2
    rw [rep_int.mp g1, rep_int.mp g2] at f1
    exact .tup (SqT.of (n.sub _ _ f1)) (.cons (.int _) (.cons (.int _) .nil))
  obtain ⟨i, hi⟩ := List.mem_iff_getElem?.mp hp
  have key : ∀ {ds : List (Str × D)} {vs : List (Key × V)}, RepK G ds vs → ∀ {i : Nat} {p : Key × V}, vs[i]? = some p → ∃ d, ds[i]? = some d ∧ p.1 = Sum.inr d.1 ∧ Rep G d.2 p.2 := by
    intro ds
    induction ds with
    | nil =>
      intro vs h i p e
      cases h
      simp at e
    | cons kd ds ih =>
      rintro vs ⟨x, r, rfl, g1, g2⟩ i p e
      cases i with
      | zero =>
        simp at e
        subst e
        exact ⟨kd, rfl, rfl, g1⟩
      | succ i =>
        simp at e
        obtain ⟨d, f1, f2⟩ := ih g2 e
        exact ⟨d, by simpa using f1, f2⟩
  obtain ⟨d, f1, f2, f3⟩ := key e2 hi
  obtain ⟨ij, g1, g2⟩ := hall d (List.mem_of_getElem? f1)
  obtain ⟨w, w1, w2⟩ := (e4.val d.1).1 _ g2
  rw [g1] at f3
  exact ⟨w, by rw [f2]; exact w1, ij.1, ij.2, dp f3, dp w2⟩
end
end Hr
set_option Elab.async false
set_option linter.all false
set_option maxRecDepth 100000
set_option maxHeartbeats 4000000
/-! HeirM: tables of texts; what a will gives, what the deaths do (plain). -/
namespace Hr
open PySem L2

/-! ### tables -/
section
variable {α : Type}
def getA (l : List (Str × α)) (k : Str) : Option α := (l.find? fun kv => decide (kv.1 = k)).map (·.2)
def putA (l : List (Str × α)) (k : Str) (d : α) : List (Str × α) := if (l.any fun kv => decide (kv.1 = k)) = true then l.map (fun kv => if kv.1 = k then (kv.1, d) else kv) else l ++ [(k, d)]
def dropA (l : List (Str × α)) (k : Str) : List (Str × α) := l.filter fun kv => !decide (kv.1 = k)
def keysA (l : List (Str × α)) : List Str := l.map (·.1)
def encK (f : α → D) (l : List (Str × α)) : List (Str × D) := l.map fun kv => (kv.1, f kv.2)
theorem getA_nil (k : Str) : getA ([] : List (Str × α)) k = none := rfl
theorem getA_cons (a : Str × α) (l : List (Str × α)) (k : Str) : getA (a :: l) k = if a.1 = k then some a.2 else getA l k := by
  unfold getA
  rw [List.find?_cons]
  by_cases h : a.1 = k
  · simp [h]
  · simp [h]
theorem valD_enc (f : α → D) : ∀ (l : List (Str × α)) (k : Str), valD (encK f l) k = (getA l k).map f
  | [], k => rfl
  | a :: l, k => by
    rw [getA_cons]
    show valD ((a.1, f a.2) :: encK f l) k = _
    have e : valD ((a.1, f a.2) :: encK f l) k = if a.1 = k then some (f a.2) else valD (encK f l) k := by
      unfold valD
      rw [List.find?_cons]
      by_cases h : a.1 = k
      · simp [h]
      · simp [h]
    rw [e, valD_enc f l k]
    split <;> rfl
theorem putD_enc (f : α → D) (l : List (Str × α)) (k : Str) (d : α) : putD (encK f l) k (f d) = encK f (putA l k d) := by
  unfold putD putA
  have e : ((encK f l).any fun kv => decide (kv.1 = k)) = l.any fun kv => decide (kv.1 = k) := by
    unfold encK
    rw [List.any_map]
    rfl
  rw [e]
  split
  · unfold encK
    rw [List.map_map, List.map_map]
    refine List.map_congr_left fun kv _ => ?_
    simp only [Function.comp]
    split <;> rfl
  · unfold encK
    rw [List.map_append]
    rfl
theorem dropD_enc (f : α → D) (l : List (Str × α)) (k : Str) : dropD (encK f l) k = encK f (dropA l k) := by
  unfold dropD dropA encK
  rw [List.filter_map]
  rfl
theorem encK_len (f : α → D) (l : List (Str × α)) : (encK f l).length = l.length := by simp [encK]
theorem encK_keys (f : α → D) (l : List (Str × α)) : (encK f l).map (·.1) = keysA l := by simp [encK, keysA]
theorem any_keys (l : List (Str × α)) (k : Str) : (l.any fun kv => decide (kv.1 = k)) = decide (k ∈ keysA l) := by
  rw [Bool.eq_iff_iff]
  simp only [List.any_eq_true, decide_eq_true_eq, keysA, List.mem_map]
theorem getA_isSome (l : List (Str × α)) (k : Str) : (getA l k).isSome = decide (k ∈ keysA l) := by
  induction l with
  | nil => simp [getA, keysA]
  | cons a l ih =>
    rw [getA_cons]
    by_cases h : a.1 = k
    · simp [h, keysA]
    · rw [if_neg h, ih]
      simp only [keysA, List.map_cons, List.mem_cons]
      congr 1
      have h' : k ≠ a.1 := fun z => h z.symm
      simp [h']
theorem getA_none {l : List (Str × α)} {k : Str} : getA l k = none ↔ k ∉ keysA l := by
  have h := getA_isSome l k
  cases e : getA l k with
  | none =>
    rw [e] at h
    simpa using h.symm
  | some v =>
    rw [e] at h
    simpa using h.symm
theorem putA_keys (l : List (Str × α)) (k : Str) (d : α) : keysA (putA l k d) = if k ∈ keysA l then keysA l else keysA l ++ [k] := by
  unfold putA
  rw [any_keys]
  by_cases h : k ∈ keysA l
  · rw [decide_eq_true h, if_pos rfl, if_pos h]
    unfold keysA
    rw [List.map_map]
    refine List.map_congr_left fun kv _ => ?_
    simp only [Function.comp]
    split <;> rfl
  · rw [decide_eq_false h, if_neg (by decide), if_neg h]
    unfold keysA
    rw [List.map_append]
    rfl
theorem putA_nodup {l : List (Str × α)} (h : (keysA l).Nodup) (k : Str) (d : α) : (keysA (putA l k d)).Nodup := by
  rw [putA_keys]
  split
  · exact h
  · rename_i hk
    exact List.nodup_append.mpr ⟨h, by simp, fun a ha b hb => by
      rw [List.mem_singleton.mp hb]
      exact fun z => hk (z ▸ ha)⟩
theorem getA_append (l m : List (Str × α)) (k : Str) : getA (l ++ m) k = (getA l k).or (getA m k) := by
  induction l with
  | nil => simp [getA]
  | cons a l ih =>
    rw [List.cons_append, getA_cons, getA_cons, ih]
    split <;> rfl
theorem getA_over (l : List (Str × α)) (k j : Str) (d : α) : getA (l.map fun kv => if kv.1 = k then (kv.1, d) else kv) j = if j = k then (getA l k).map (fun _ => d) else getA l j := by
  induction l with
  | nil => simp [getA]
  | cons a l ih =>
    rw [List.map_cons, getA_cons, getA_cons, getA_cons, ih]
    by_cases h1 : a.1 = k
    · by_cases h2 : j = k
      · simp [h1, h2]
      · have h3 : ¬ k = j := fun z => h2 z.symm
        simp [h1, h2, h3]
    · by_cases h2 : j = k
      · subst h2
        simp [h1]
      · simp [h1, h2]
theorem getA_putA (l : List (Str × α)) (k j : Str) (d : α) : getA (putA l k d) j = if j = k then some d else getA l j := by
  unfold putA
  by_cases h : (l.any fun kv => decide (kv.1 = k)) = true
  · rw [if_pos h, getA_over]
    split
    · rw [any_keys] at h
      have hk := of_decide_eq_true h
      cases e : getA l k with
      | none => exact absurd hk (getA_none.mp e)
      | some v => rfl
    · rfl
  · rw [if_neg h, getA_append]
    rw [any_keys] at h
    have hk : k ∉ keysA l := fun z => h (decide_eq_true z)
    by_cases e : j = k
    · subst e
      rw [getA_none.mpr hk, if_pos rfl, getA_cons, if_pos rfl]
      rfl
    · rw [if_neg e, getA_cons, if_neg (fun z => e z.symm)]
      cases getA l j <;> rfl
theorem putA_len (l : List (Str × α)) (k : Str) (d : α) : (putA l k d).length ≤ l.length + 1 := by
  have h : (keysA (putA l k d)).length ≤ (keysA l).length + 1 := by
    rw [putA_keys]
    split
    · omega
    · simp
  simpa [keysA] using h
theorem getA_dropA (l : List (Str × α)) (k j : Str) : getA (dropA l k) j = if j = k then none else getA l j := by
  unfold dropA
  induction l with
  | nil => simp [getA]
  | cons a l ih =>
    rw [List.filter_cons]
    by_cases h1 : a.1 = k
    · rw [if_neg (by simp [h1]), ih, getA_cons]
      by_cases h2 : j = k
      · simp [h2]
      · simp [h2, show ¬ a.1 = j from fun z => h2 (z.symm.trans h1)]
    · rw [if_pos (by simp [h1]), getA_cons, getA_cons, ih]
      by_cases h2 : j = k
      · subst h2
        simp [h1]
      · simp [h2]
theorem dropA_keys (l : List (Str × α)) (k : Str) : keysA (dropA l k) = (keysA l).filter fun j => !decide (j = k) := by
  unfold keysA dropA
  rw [List.filter_map]
  rfl
theorem dropA_nodup {l : List (Str × α)} (h : (keysA l).Nodup) (k : Str) : (keysA (dropA l k)).Nodup := by
  rw [dropA_keys]
  exact h.filter _
theorem dropA_len (l : List (Str × α)) (k : Str) : (dropA l k).length ≤ l.length := List.length_filter_le _ _
theorem getA_of_mem {l : List (Str × α)} (h : (keysA l).Nodup) {k : Str} {v : α} (hm : (k, v) ∈ l) : getA l k = some v := by
  induction l with
  | nil => cases hm
  | cons a l ih =>
    obtain ⟨h1, h2⟩ := List.nodup_cons.mp h
    rw [getA_cons]
    rcases List.mem_cons.mp hm with e | hm
    · subst e
      simp
    · rw [if_neg, ih h2 hm]
      intro z
      refine h1 ?_
      show a.1 ∈ _
      rw [z]
      exact List.mem_map.mpr ⟨_, hm, rfl⟩
theorem mem_of_getA {l : List (Str × α)} {k : Str} {v : α} (h : getA l k = some v) : (k, v) ∈ l := by
  induction l with
  | nil => cases h
  | cons a l ih =>
    rw [getA_cons] at h
    split at h
    · rename_i e
      cases h
      subst e
      exact List.mem_cons_self
    · exact List.mem_cons_of_mem _ (ih h)
/-- a list without repeats, all in another, is no longer -/
theorem len_le_of_sub {l m : List Str} (h : l.Nodup) (hs : ∀ x ∈ l, x ∈ m) : l.length ≤ m.length := by
  induction l generalizing m with
  | nil => exact Nat.zero_le _
  | cons a l ih =>
    obtain ⟨h1, h2⟩ := List.nodup_cons.mp h
    have ha := hs a List.mem_cons_self
    have h3 := ih h2 (m := m.erase a) fun x hx => by
      have hne : x ≠ a := fun z => h1 (z ▸ hx)
      exact (List.mem_erase_of_ne hne).mpr (hs x (List.mem_cons_of_mem _ hx))
    rw [List.length_erase_of_mem ha] at h3
    have := List.length_pos_of_mem ha
    rw [List.length_cons]
    omega
end

/-! ### what a will gives -/
abbrev crown : Str := "crown"
def here (al : Str → Bool) (g : List Str) : List Str := g.filter al
/-- the heirs of one share: its first group of which one lives -/
def pickH (al : Str → Bool) (h g : List Str) : List Str := if here al g ≠ [] then here al g else h
def heirsOf (al : Str → Bool) (gs : List (List Str)) : List Str := gs.reverse.foldl (pickH al) [crown]
def whole (sh : List Share) : Nat := (sh.map (·.1)).sum
/-- one share's part of one name -/
def addP (al : Str → Bool) (W : Nat) (k : Str) (o : Option Fr) (s : Share) : Option Fr :=
  if k ∈ heirsOf al s.2 then some (plusF (o.getD (0, 1)) (low s.1 (W * (heirsOf al s.2).length))) else o
def partOf (sh : List Share) (al : Str → Bool) (k : Str) : Option Fr := sh.foldl (addP al (whole sh) k) none

/-! ### what the deaths do -/
abbrev Held := Str → Option Fr
def dropH (h : Held) (n : Str) : Held := fun k => if k = n then none else h k
def aliveH (h : Held) : Str → Bool := fun k => (h k).isSome && !decide (k = crown)
def giveH (h : Held) (amount : Fr) (part : Str → Option Fr) : Held := fun k => match part k with
  | some p => (h k).map fun f => plusF f (timesF amount p)
  | none => h k
def stepH (wl : Str → Option (List Share)) (h : Held) (n : Str) : Held := giveH (dropH h n) ((h n).getD (0, 1)) (partOf ((wl n).getD []) (aliveH (dropH h n)))
def runH (wl : Str → Option (List Share)) (h : Held) (o : List Str) : Held := o.foldl (stepH wl) h
end Hr
set_option Elab.async false
set_option linter.all false
set_option maxRecDepth 100000
set_option maxHeartbeats 4000000
set_option exponentiation.threshold 300000
/-! HeirX2: Will.names, Will.heirs. -/
namespace Hr
open PySem L2
open PyProof.Rows (sortedS)
theorem scWillNames : FnScope ["self", "found", "weight", "groups", "group", "name"] ["self"] (defScope sWillNames) := ⟨rfl, rfl, rfl, by decide +kernel, rfl, by decide +kernel, by decide +kernel⟩
theorem scWillHeirs : FnScope ["self", "alive", "whole", "found", "weight", "groups", "heirs", "group", "here", "name"] ["self", "alive"] (defScope sWillHeirs) := ⟨rfl, rfl, rfl, by decide +kernel, rfl, by decide +kernel, by decide +kernel⟩
/-- the shares' sizes, their names among nm -/
structure ShIn (nm : List Str) (sh : List Share) : Prop where
  few : sh.length ≤ 1000
  gr : ∀ s ∈ sh, s.2.length ≤ 1000
  gl : ∀ s ∈ sh, ∀ g ∈ s.2, g.length ≤ 500
  nm : ∀ s ∈ sh, ∀ g ∈ s.2, ∀ x ∈ g, x ∈ nm
def spWillNames (W : Addr) : ASp := fun ds M Post => ∃ sh nm, ds = [encWill W sh] ∧ ShIn nm sh ∧ nm.length < 64 ∧ ∀ r : List Str, (∀ x ∈ r, x ∈ nm) → r.length < 64 → Post (.tup (r.map .str)) M
theorem mergeA_in {nm : List Str} : ∀ {g : List Str} {l : List (Str × Unit)}, (∀ x ∈ g, x ∈ nm) → (∀ x ∈ keysA l, x ∈ nm) → (keysA l).Nodup →
    ∃ l' : List (Str × Unit), mergeD (encK (fun _ => D.bl true) l) (encK (fun _ => D.bl true) (g.map fun x => (x, ()))) = encK (fun _ => D.bl true) l' ∧ (∀ x ∈ keysA l', x ∈ nm) ∧ (keysA l').Nodup
  | [], l, _, h2, h3 => ⟨l, rfl, h2, h3⟩
  | x :: g, l, h1, h2, h3 => by
    obtain ⟨l', e1, e2, e3⟩ := mergeA_in (g := g) (l := putA l x ()) (fun y hy => h1 y (List.mem_cons_of_mem _ hy)) (fun y hy => by
      rw [putA_keys] at hy
      split at hy
      · exact h2 y hy
      · rcases List.mem_append.mp hy with hy | hy
        · exact h2 y hy
        · rw [List.mem_singleton.mp hy]
          exact h1 x List.mem_cons_self) (putA_nodup h3 x ())
    refine ⟨l', ?_, e2, e3⟩
    rw [← e1, ← putD_enc]
    rfl
section
variable {P : Program} {w : World} {K : PySem.W.Frag} {mg : Str → Option Value} {base : Heap}
theorem ok_willNames {f W : Addr} {fd : FuncData} (Fn : Fun K "names" "Will.names" sWillNames f fd) (g : Glb mg) (C : WillCls K W) : FnOk P w K mg base CX0 1 f fd ["self"] (spA (spWillNames W)) := by
  refine fn_abs (k := 0) Fn scWillNames (fun ds M Post h => ?_) (fun cdv A outer s H E hr ds M Post h => ?_)
  · obtain ⟨a, _, rfl, _⟩ := h
    rfl
  · obtain ⟨sh, nm, rfl, hs, hnm, post⟩ := h
    refine ab_cons (as_set 1 (ae_dnew fun q hq => ?_) scWillNames.nd)
    have hg : ∀ l : List (Str × Unit), (∀ x ∈ keysA l, x ∈ nm) → (keysA l).Nodup → l.length < 64 := fun l h1 h2 => by
      have := len_le_of_sub h2 h1
      rw [show (keysA l).length = l.length from by simp [keysA]] at this
      omega
    refine ab_cons (as_for (ai_seq (ae_fld (ae_var 0 rfl ⟨W, _, _, .inl rfl, C.cl, C.na, rfl, _, .inr (.inl rfl), fun i ρ' M' => ∃ (o2 o3 o4 : Option D) (l : List (Str × Unit)), ρ' = [some (encWill W sh), some (.adr q), o2, o3, o4, none] ∧ M' = updM M q (.dct (encK (fun _ => D.bl true) l)) ∧ (∀ x ∈ keysA l, x ∈ nm) ∧ (keysA l).Nodup, ?_, ?_, ?_, ?_⟩))))
    · exact ⟨none, none, none, [], rfl, rfl, fun x hx => (nomatch hx), List.nodup_nil⟩
    · rintro i ρ' M' _
      exact .inr (.inl rfl)
    · rintro i x ρ' M' hx ⟨o2, o3, o4, l, rfl, rfl, hk, hn⟩
      rw [List.getElem?_map] at hx
      obtain ⟨s, hs', rfl⟩ := Option.map_eq_some_iff.mp hx
      have hsm := List.mem_of_getElem? hs'
      refine ag_two 2 3 ?_ rfl scWillNames.nd
      refine ab_one (as_for (ai_seq (ae_var 3 rfl ⟨_, .inr (.inl rfl), fun j ρ' M' => ∃ (o4 : Option D) (l : List (Str × Unit)), ρ' = [some (encWill W sh), some (.adr q), some (.int (s.1 : Int)), some (.tup (s.2.map encG)), o4, none] ∧ M' = updM M q (.dct (encK (fun _ => D.bl true) l)) ∧ (∀ x ∈ keysA l, x ∈ nm) ∧ (keysA l).Nodup, ?_, ?_, ?_, ?_⟩)))
      · exact ⟨o4, l, rfl, rfl, hk, hn⟩
      · rintro j ρ' M' _
        exact .inr (.inl rfl)
      · rintro j y ρ' M' hy ⟨o4, l, rfl, rfl, hk, hn⟩
        rw [List.getElem?_map] at hy
        obtain ⟨gg, hg', rfl⟩ := Option.map_eq_some_iff.mp hy
        have hgm := List.mem_of_getElem? hg'
        have hgn := hs.nm s hsm gg hgm
        have hgl := hs.gl s hsm gg hgm
        refine ag_name 4 ?_ scWillNames.nd
        refine ab_one (as_expr (ae_le (ae_update (ae_var 1 rfl ⟨q, rfl, ⟨_, updM_same⟩, ?_⟩))))
        refine ae_dc [("name", 5)] rfl scWillNames.nd (blkOk_by (by kernel_rfl)) ?_
        refine ai_seq (ae_var 4 rfl ⟨_, .inr (.inl rfl), fun i acc M' => ∃ lu : List (Str × Unit), acc = encK (fun _ => D.bl true) lu ∧ (∀ x ∈ keysA lu, x ∈ nm) ∧ (keysA lu).Nodup ∧ lu.length ≤ i ∧ M' = updM M q (.dct (encK (fun _ => D.bl true) l)), ?_, ?_, ?_, ?_, ?_⟩)
        · rw [List.length_map]
          omega
        · exact ⟨[], rfl, fun x hx => (nomatch hx), List.nodup_nil, Nat.le_refl _, rfl⟩
        · rintro i acc M' ⟨lu, rfl, _, _, hl, rfl⟩
          exact ⟨.inr (.inl rfl), by rw [encK_len]; exact hl⟩
        · rintro i acc M' d hd ⟨lu, rfl, h1, h2, hl, rfl⟩ s0 H0 C0 cl fp
          rw [List.getElem?_map] at hd
          obtain ⟨z, hz, rfl⟩ := Option.map_eq_some_iff.mp hd
          refine agc_name 5 (fun s H C cl fp => ?_) (by decide) scWillNames.nd
          refine ae_var 5 rfl ⟨z, rfl, fun s H C cl fp => ae_bl ⟨putA lu z (), putD_enc (fun _ => D.bl true) lu z (), fun x hx => ?_, putA_nodup h2 z (), Nat.le_trans (putA_len _ _ _) (Nat.succ_le_succ hl), rfl⟩⟩
          rw [putA_keys] at hx
          split at hx
          · exact h1 x hx
          · rcases List.mem_append.mp hx with hx | hx
            · exact h1 x hx
            · rw [List.mem_singleton.mp hx]
              exact hgn z (List.mem_of_getElem? hz)
        · rintro acc M' ⟨lu, rfl, h1, h2, hl, rfl⟩ q2 hq2
          have hne : q ≠ q2 := fun z => by
            subst z
            rw [updM_same] at hq2
            cases hq2
          have hll := hg l hk hn
          have hlu := hg lu h1 h2
          refine ⟨q2, encK (fun _ => D.bl true) l, encK (fun _ => D.bl true) lu, rfl, hne, ?_, updM_same, ?_, ?_⟩
          · rw [updM_ne hne]
            exact updM_same
          · rw [encK_len, encK_len]
            omega
          · obtain ⟨l', e1, e2, e3⟩ := mergeA_in (g := keysA lu) (l := l) h1 hk hn
            have e4 : ((keysA lu).map fun x => (x, ())) = lu := by
              unfold keysA
              rw [List.map_map]
              exact List.map_id _
            rw [e4] at e1
            rw [e1, updM_comm hne, updM_upd, updM_comm (Ne.symm hne)]
            rw [updM_ne (Ne.symm hne)] at hq2
            exact ⟨_, le_upd (by rw [updM_ne (Ne.symm hne)]; exact hq2), some (encG gg), l', rfl, rfl, e2, e3⟩
      · rintro ρ' M' ⟨o4, l, rfl, rfl, hk, hn⟩
        exact ⟨_, _, _, l, rfl, rfl, hk, hn⟩
    · rintro ρ' M' ⟨o2, o3, o4, l, rfl, rfl, hk, hn⟩
      refine ab_one (as_ret (ae_le ?_))
      refine ae_callTy call_tuple_of rfl g.tuple boot_tuple' (aa_cons ?_)
      refine ae_callB (call_sortedD rfl) rfl g.sorted boot_sorted' (aa_cons (ae_var 1 rfl (aa_nil (rc_sortedD (.inl updM_same) ?_ fun ys hp hs => ?_))))
      · rw [encK_len]
        exact hg l hk hn
      · rw [encK_keys] at hp
        refine aa_nil (rc_tupleOf (.inl rfl) ⟨_, le_upd hq, post ys (fun x hx => hk x (hp.subset hx)) ?_⟩)
        rw [hp.length_eq, show (keysA l).length = l.length from by simp [keysA]]
        exact hg l hk hn
end
end Hr
set_option Elab.async false
set_option linter.all false
set_option maxRecDepth 100000
set_option maxHeartbeats 4000000
set_option exponentiation.threshold 300000
/-! HeirB1: sizes of fractions (plain). -/
namespace Hr
open PySem L2
theorem low_pos {a b : Nat} (h : 0 < b) : 0 < (low a b).2 := by
  have hg : 0 < Nat.gcd a b := Nat.gcd_pos_of_pos_right _ h
  exact Nat.div_pos (Nat.le_of_dvd h (Nat.gcd_dvd_right a b)) hg
theorem low_den {a b : Nat} : (low a b).2 ≤ b := Nat.div_le_self _ _
theorem low_le {a b c : Nat} (h : 0 < b) (hc : a ≤ c * b) : (low a b).1 ≤ c * (low a b).2 := by
  have hg : 0 < Nat.gcd a b := Nat.gcd_pos_of_pos_right _ h
  have e1 : a = Nat.gcd a b * (low a b).1 := (Nat.mul_div_cancel' (Nat.gcd_dvd_left a b)).symm
  have e2 : b = Nat.gcd a b * (low a b).2 := (Nat.mul_div_cancel' (Nat.gcd_dvd_right a b)).symm
  refine Nat.le_of_mul_le_mul_left (?_ : Nat.gcd a b * (low a b).1 ≤ Nat.gcd a b * (c * (low a b).2)) hg
  rw [← e1]
  calc a ≤ c * b := hc
    _ = c * (Nat.gcd a b * (low a b).2) := by rw [← e2]
    _ = Nat.gcd a b * (c * (low a b).2) := by rw [Nat.mul_left_comm]
/-- positive below, below at most d, at most v -/
structure Bd (d v : Nat) (f : Fr) : Prop where
  pos : 0 < f.2
  den : f.2 ≤ d
  val : f.1 ≤ v * f.2
theorem Bd.mono {d v d' v' : Nat} {f : Fr} (h : Bd d v f) (hd : d ≤ d') (hv : v ≤ v') : Bd d' v' f := ⟨h.pos, Nat.le_trans h.den hd, Nat.le_trans h.val (Nat.mul_le_mul_right _ hv)⟩
theorem Bd.low {a b c : Nat} (h : 0 < b) (hc : a ≤ c * b) : Bd b c (low a b) := ⟨low_pos h, low_den, low_le h hc⟩
theorem Bd.plus {d v d' v' : Nat} {x y : Fr} (hx : Bd d v x) (hy : Bd d' v' y) : Bd (d * d') (v + v') (plusF x y) := by
  have h := Bd.low (a := x.1 * y.2 + y.1 * x.2) (b := x.2 * y.2) (c := v + v') (Nat.mul_pos hx.pos hy.pos) (by
    have h1 : x.1 * y.2 ≤ v * x.2 * y.2 := Nat.mul_le_mul_right _ hx.val
    have h2 : y.1 * x.2 ≤ v' * y.2 * x.2 := Nat.mul_le_mul_right _ hy.val
    have e1 : v * x.2 * y.2 = v * (x.2 * y.2) := Nat.mul_assoc _ _ _
    have e2 : v' * y.2 * x.2 = v' * (x.2 * y.2) := by rw [Nat.mul_assoc, Nat.mul_comm y.2 x.2]
    rw [Nat.add_mul, ← e1, ← e2]
    exact Nat.add_le_add h1 h2)
  exact h.mono (Nat.mul_le_mul hx.den hy.den) (Nat.le_refl _)
theorem Bd.times {d v d' v' : Nat} {x y : Fr} (hx : Bd d v x) (hy : Bd d' v' y) : Bd (d * d') (v * v') (timesF x y) := by
  have h := Bd.low (a := x.1 * y.1) (b := x.2 * y.2) (c := v * v') (Nat.mul_pos hx.pos hy.pos) (by
    have h1 : x.1 * y.1 ≤ (v * x.2) * (v' * y.2) := Nat.mul_le_mul hx.val hy.val
    have e1 : (v * x.2) * (v' * y.2) = v * v' * (x.2 * y.2) := Nat.mul_mul_mul_comm _ _ _ _
    rw [← e1]
    exact h1)
  exact h.mono (Nat.mul_le_mul hx.den hy.den) (Nat.le_refl _)
theorem Bd.frok {d v d' v' : Nat} {x y : Fr} (hx : Bd d v x) (hy : Bd d' v' y) (h : d * d' < 2 ^ 9000) (hv : v * d < 2 ^ 100000) (hv' : v' * d' < 2 ^ 100000) : FrOk x y :=
  ⟨hx.pos, hy.pos, Nat.lt_of_le_of_lt (Nat.mul_le_mul hx.den hy.den) h, Nat.lt_of_le_of_lt (Nat.le_trans hx.val (Nat.mul_le_mul_left _ hx.den)) hv, Nat.lt_of_le_of_lt (Nat.le_trans hy.val (Nat.mul_le_mul_left _ hy.den)) hv'⟩
theorem bd_zero : Bd 1 0 (0, 1) := ⟨by decide, by decide, by decide⟩

/-! ### a will's parts -/
/-- sizes of a will as the deal makes it -/
structure ShB (sh : List Share) : Prop where
  ne : sh ≠ []
  few : sh.length ≤ 3
  w1 : ∀ s ∈ sh, 1 ≤ s.1
  w9 : ∀ s ∈ sh, s.1 ≤ 9
  gr : ∀ s ∈ sh, s.2.length ≤ 3
  gl : ∀ s ∈ sh, ∀ g ∈ s.2, g.length ≤ 3
  nd : ∀ s ∈ sh, ∀ g ∈ s.2, g.Nodup
  ok : ∀ s ∈ sh, ∀ g ∈ s.2, ∀ x ∈ g, NameOk x
theorem sum_le_mul : ∀ (l : List Nat) (c : Nat), (∀ x ∈ l, x ≤ c) → l.sum ≤ l.length * c
  | [], c, _ => by simp
  | x :: l, c, h => by
    have h1 := sum_le_mul l c fun y hy => h y (List.mem_cons_of_mem _ hy)
    have h2 := h x List.mem_cons_self
    simp only [List.sum_cons, List.length_cons, Nat.add_mul]
    omega
theorem le_sum_of_mem : ∀ {l : List Nat} {x : Nat}, x ∈ l → x ≤ l.sum
  | y :: l, x, h => by
    rw [List.sum_cons]
    rcases List.mem_cons.mp h with e | h
    · omega
    · have := le_sum_of_mem h
      omega
theorem ShB.whole_le {sh : List Share} (h : ShB sh) : whole sh ≤ 27 := by
  have h1 := sum_le_mul (sh.map (·.1)) 9 fun x hx => by
    obtain ⟨s, hs, rfl⟩ := List.mem_map.mp hx
    exact h.w9 s hs
  rw [List.length_map] at h1
  have := h.few
  unfold whole
  omega
theorem ShB.le_whole {sh : List Share} (h : ShB sh) {s : Share} (hs : s ∈ sh) : s.1 ≤ whole sh := le_sum_of_mem (List.mem_map.mpr ⟨s, hs, rfl⟩)
theorem heirs_ok {al : Str → Bool} {gs : List (List Str)} (hl : ∀ g ∈ gs, g.length ≤ 3) (hn : ∀ g ∈ gs, g.Nodup) : heirsOf al gs ≠ [] ∧ (heirsOf al gs).length ≤ 3 ∧ (heirsOf al gs).Nodup ∧ ∀ k ∈ heirsOf al gs, k = crown ∨ (al k = true ∧ ∃ g ∈ gs, k ∈ g) := by
  unfold heirsOf
  have key : ∀ (l : List (List Str)) (h0 : List Str), (∀ g ∈ l, g ∈ gs) → (h0 ≠ [] ∧ h0.length ≤ 3 ∧ h0.Nodup ∧ ∀ k ∈ h0, k = crown ∨ (al k = true ∧ ∃ g ∈ gs, k ∈ g)) →
      (let r := l.foldl (pickH al) h0; r ≠ [] ∧ r.length ≤ 3 ∧ r.Nodup ∧ ∀ k ∈ r, k = crown ∨ (al k = true ∧ ∃ g ∈ gs, k ∈ g)) := fun l => by
    induction l with
    | nil => exact fun h0 _ h => h
    | cons g l ih =>
      intro h0 hm h
      have hg := hm g List.mem_cons_self
      refine ih _ (fun g' hg' => hm g' (List.mem_cons_of_mem _ hg')) ?_
      unfold pickH
      by_cases e : here al g ≠ []
      · rw [if_pos e]
        refine ⟨e, Nat.le_trans (List.length_filter_le _ _) (hl g hg), (hn g hg).filter _, fun k hk => ?_⟩
        obtain ⟨h1, h2⟩ := List.mem_filter.mp hk
        exact .inr ⟨h2, g, hg, h1⟩
      · rw [if_neg e]
        exact h
  exact key gs.reverse [crown] (fun g hg => List.mem_reverse.mp hg) ⟨by simp, by simp, by simp, fun k hk => .inl (List.mem_singleton.mp hk)⟩
theorem addP_bd {sh : List Share} (h : ShB sh) {al : Str → Bool} {k : Str} {s : Share} (hs : s ∈ sh) {j : Nat} {o : Option Fr} (ho : ∀ f, o = some f → Bd (81 ^ j) j f) : ∀ f, addP al (whole sh) k o s = some f → Bd (81 ^ (j + 1)) (j + 1) f := by
  intro f hf
  obtain ⟨h1, h2, _, _⟩ := heirs_ok (al := al) (h.gl s hs) (h.nd s hs)
  have hlen : 0 < (heirsOf al s.2).length := List.length_pos_iff.mpr h1
  have hW : 0 < whole sh := Nat.lt_of_lt_of_le (h.w1 s hs) (h.le_whole hs)
  have hp : Bd 81 1 (low s.1 (whole sh * (heirsOf al s.2).length)) := by
    refine (Bd.low (c := 1) (Nat.mul_pos hW hlen) ?_).mono ?_ (Nat.le_refl _)
    · rw [Nat.one_mul]
      exact Nat.le_trans (h.le_whole hs) (Nat.le_mul_of_pos_right _ hlen)
    · have := Nat.mul_le_mul h.whole_le h2
      omega
  unfold addP at hf
  split at hf
  · cases hf
    have h0 : Bd (81 ^ j) j (o.getD (0, 1)) := by
      cases o with
      | none => exact bd_zero.mono (Nat.one_le_pow _ _ (by decide)) (Nat.zero_le _)
      | some g => exact ho g rfl
    have := h0.plus hp
    rw [← Nat.pow_succ] at this
    exact this
  · exact (ho f hf).mono (Nat.pow_le_pow_right (by decide) (Nat.le_succ j)) (Nat.le_succ j)
/-- after some of the shares -/
theorem parts_bd {sh : List Share} (h : ShB sh) {al : Str → Bool} {k : Str} : ∀ (l : List Share), (∀ s ∈ l, s ∈ sh) → ∀ (j : Nat) (o : Option Fr), (∀ f, o = some f → Bd (81 ^ j) j f) → ∀ f, l.foldl (addP al (whole sh) k) o = some f → Bd (81 ^ (j + l.length)) (j + l.length) f
  | [], _, j, o, ho, f, hf => ho f hf
  | s :: l, hl, j, o, ho, f, hf => by
    have := parts_bd h l (fun t ht => hl t (List.mem_cons_of_mem _ ht)) (j + 1) _ (addP_bd h (hl s List.mem_cons_self) ho) f hf
    rw [List.length_cons, show j + (l.length + 1) = j + 1 + l.length from by omega]
    exact this
theorem part_bd {sh : List Share} (h : ShB sh) {al : Str → Bool} {k : Str} {f : Fr} (hf : partOf sh al k = some f) : Bd (2 ^ 20) 3 f := by
  have := parts_bd h sh (fun _ hs => hs) 0 none (fun f hf => nomatch hf) f hf
  rw [Nat.zero_add] at this
  exact this.mono (Nat.le_trans (Nat.pow_le_pow_right (by decide) h.few) (by decide)) h.few
end Hr
set_option Elab.async false
set_option linter.all false
set_option maxRecDepth 100000
set_option maxHeartbeats 4000000
set_option exponentiation.threshold 300000
/-! HeirX3: Will.heirs. -/
namespace Hr
open PySem L2
open PyProof.Rows (sortedS)
def encP (kf : Str × Fr) : D := .tup [.str kf.1, encF kf.2]
def spWillHeirs (W : Addr) : ASp := fun ds M Post => ∃ (sh : List Share) (al : List Str), ds = [encWill W sh, encNs al] ∧ ShB sh ∧ al.Nodup ∧ al.length ≤ 60 ∧
  ∀ hs : List (Str × Fr), (keysA hs).Nodup → (∀ k, getA hs k = partOf sh (fun k => decide (k ∈ al)) k) → hs.length < 64 → Post (.tup (hs.map encP)) M
theorem sum_cast (sh : List Share) : (sh.map fun s => ((s.1 : Nat) : Int)).sum = ((whole sh : Nat) : Int) := by
  unfold whole
  induction sh with
  | nil => rfl
  | cons s sh ih => simp [ih]
/-- one share's table, its first heirs gone through -/
theorem putA_step {fd : List (Str × Fr)} {hs : List Str} {i : Nat} {x : Str} {pc : Fr} {old : Str → Option Fr} (nd : hs.Nodup) (hx : hs[i]? = some x) (h : ∀ k, getA fd k = if k ∈ hs.take i then some (plusF ((old k).getD (0, 1)) pc) else old k) :
    getA fd x = old x ∧ ∀ k, getA (putA fd x (plusF ((old x).getD (0, 1)) pc)) k = if k ∈ hs.take (i + 1) then some (plusF ((old k).getD (0, 1)) pc) else old k := by
  have hnx : x ∉ hs.take i := nodup_take nd hx
  refine ⟨by rw [h x, if_neg hnx], fun k => ?_⟩
  rw [getA_putA, take_next hx]
  by_cases e : k = x
  · subst e
    simp
  · rw [if_neg e, h k]
    simp [e]
theorem scWillHeirs' : FnScope ["self", "alive", "whole", "found", "weight", "groups", "heirs", "group", "here", "name"] ["self", "alive"] (defScope sWillHeirs) := scWillHeirs
theorem heirs_take {al : Str → Bool} {gs : List (List Str)} {i : Nat} {g : List Str} (h : gs.reverse[i]? = some g) (h0 : List Str) : (gs.reverse.take (i + 1)).foldl (pickH al) h0 = pickH al ((gs.reverse.take i).foldl (pickH al) h0) g := by
  rw [take_next h, List.foldl_append]
  rfl
section
variable {P : Program} {w : World} {K : PySem.W.Frag} {mg : Str → Option Value} {base : Heap}
theorem ok_willHeirs {f W : Addr} {fd : FuncData} (Fn : Fun K "heirs" "Will.heirs" sWillHeirs f fd) (g : Glb mg) (C : WillCls K W) (hP : Has ⟨P, w, K, mg, base⟩ 3 "plus" spPlus) (hL : Has ⟨P, w, K, mg, base⟩ 2 "lowest" spLowest) : FnOk P w K mg base CX0 4 f fd ["self", "alive"] (spA (spWillHeirs W)) := by
  refine fn_abs (k := 3) Fn scWillHeirs (fun ds M Post h => ?_) (fun cdv A outer s H E hr ds M Post h => ?_)
  · obtain ⟨a, _, rfl, _⟩ := h
    rfl
  · obtain ⟨sh, al, rfl, hs, hnd, hal, post⟩ := h
    have hr2 : Room 2 _ := hr.mono (by decide)
    let alB : Str → Bool := fun k => decide (k ∈ al)
    have hfew := hs.few
    have hsl : sh.length ≤ 1000 := by omega
    refine ab_cons (as_set 2 ?_ scWillHeirs.nd)
    refine ae_callB (cr_sum rfl) rfl g.sum boot_sum' (aa_cons ?_)
    refine ae_L [("weight", 4), ("groups", 5)] rfl scWillHeirs.nd (blkOk_by (by kernel_rfl)) (al_map sh encSh (fun s => D.int ((s.1 : Nat) : Int)) ?_)
    refine ai_seq (ae_fld (ae_var 0 rfl ⟨W, _, _, .inl rfl, C.cl, C.na, rfl, _, .inr (.inl rfl), rfl, hsl, .inr (.inl rfl), fun x hx s H C cl fp => ?_, ?_⟩))
    · refine agc_two 4 5 (fun s H C cl fp => ?_) (by decide) (by decide) rfl scWillHeirs.nd
      exact ae_var 4 rfl ⟨rfl, rfl⟩
    refine aa_nil (rc_sum (ns := sh.map fun s => ((s.1 : Nat) : Int)) (by rw [List.map_map]; rfl) ?_)
    rw [sum_cast]
    refine ab_cons (as_set 3 (ae_dnew fun q hq => ?_) scWillHeirs.nd)
    -- the table after some shares
    refine ab_cons (as_for (ai_seq (ae_fld (ae_var 0 rfl ⟨W, _, _, .inl rfl, C.cl, C.na, rfl, _, .inr (.inl rfl), fun i ρ' M' => ∃ (o4 o5 o6 o7 o8 o9 : Option D) (fd : List (Str × Fr)), ρ' = [some (encWill W sh), some (encNs al), some (.int ((whole sh : Nat) : Int)), some (.adr q), o4, o5, o6, o7, o8, o9] ∧
      M' = updM M q (.dct (encK encF fd)) ∧ (keysA fd).Nodup ∧ (∀ k ∈ keysA fd, k ∈ crown :: al) ∧ (∀ k, getA fd k = (sh.take i).foldl (addP alB (whole sh) k) none), ?_, ?_, ?_, ?_⟩))))
    · exact ⟨none, none, none, none, none, none, [], rfl, rfl, List.nodup_nil, fun x hx => (nomatch hx), fun k => rfl⟩
    · rintro i ρ' M' _
      exact .inr (.inl rfl)
    · rintro i x ρ' M' hx ⟨o4, o5, o6, o7, o8, o9, fd, rfl, rfl, hnf, hsub, hget⟩
      rw [List.getElem?_map] at hx
      obtain ⟨s, hs', rfl⟩ := Option.map_eq_some_iff.mp hx
      have hsm := List.mem_of_getElem? hs'
      obtain ⟨n1, n2, n3, n4⟩ := heirs_ok (al := alB) (hs.gl s hsm) (hs.nd s hsm)
      have hil : i < sh.length := (List.getElem?_eq_some_iff.mp hs').1
      refine ag_two 4 5 ?_ rfl scWillHeirs.nd
      refine ab_cons (as_set 6 ?_ scWillHeirs.nd)
      refine ae_lst (aa_cons (ae_globS rfl g.crown (aa_nil ⟨Nat.le_of_ble_eq_true rfl, ?_⟩)))
      -- the heirs
      refine ab_cons (as_for (ai_rev rfl g.reversed (ae_var 5 rfl ⟨s.2.map encG, rfl, fun j ρ' M' => ∃ (o7 o8 : Option D), ρ' = [some (encWill W sh), some (encNs al), some (.int ((whole sh : Nat) : Int)), some (.adr q), some (.int (s.1 : Int)), some (.tup (s.2.map encG)), some (encNs ((s.2.reverse.take j).foldl (pickH alB) [crown])), o7, o8, o9] ∧
        M' = updM M q (.dct (encK encF fd)), ?_, ?_, ?_, ?_⟩)))
      · exact ⟨o7, o8, rfl, rfl⟩
      · rintro j ρ' M' _
        exact True.intro
      · rintro j y ρ' M' hy ⟨o7, o8, rfl, rfl⟩
        rw [← List.map_reverse, List.getElem?_map] at hy
        obtain ⟨gg, hg', rfl⟩ := Option.map_eq_some_iff.mp hy
        have hgm : gg ∈ s.2 := List.mem_reverse.mp (List.mem_of_getElem? hg')
        have hgl := hs.gl s hsm gg hgm
        refine ag_name 7 ?_ scWillHeirs.nd
        refine ab_cons (as_setL 8 [("name", 9)] rfl scWillHeirs.nd (blkOk_by (by kernel_rfl)) (al_filter gg D.str D.str alB ?_))
        refine ai_seq (ae_var 7 rfl ⟨_, .inr (.inl rfl), rfl, by omega, .inr (.inl rfl), fun z hz s H C cl fp => ?_, ?_⟩)
        · refine agc_name 9 (fun s H C cl fp => ?_) (by decide) scWillHeirs.nd
          refine at_cmp op_in_seq (by rfl) (ae_var 9 rfl (ae_var 1 rfl (rr_in (l := al) (.inl rfl) ⟨_, rfl, rfl, rfl, fun _ s H C cl fp => ae_var 9 rfl ⟨rfl, rfl⟩⟩)))
        refine ab_one (as_set 6 (ae_if (at_cmp (op_neD hr.units) (nomark _) (ae_var 8 rfl (ae_lst (aa_nil ⟨Nat.le_of_ble_eq_true rfl, rr_neNilS (l := gg.filter alB) rfl (fun z hz => ?_) ⟨_, rfl, fun hk => ?_, fun hk => ?_⟩⟩))))) scWillHeirs.nd)
        · exact (hs.ok s hsm gg hgm z (List.mem_filter.mp hz).1).ok
        · refine ae_var 8 rfl ⟨some (encG gg), some (.lst ((gg.filter alB).map .str)), ?_, rfl⟩
          rw [heirs_take hg']
          have hne : here alB gg ≠ [] := fun z => by
            rw [show gg.filter alB = [] from z] at hk
            cases hk
          unfold pickH
          rw [if_pos hne]
          rfl
        · refine ae_var 6 rfl ⟨some (encG gg), some (.lst ((gg.filter alB).map .str)), ?_, rfl⟩
          rw [heirs_take hg']
          have hne : ¬ here alB gg ≠ [] := fun z => by
            apply z
            show gg.filter alB = []
            cases e : gg.filter alB with
            | nil => rfl
            | cons a r =>
              rw [e] at hk
              cases hk
          unfold pickH
          rw [if_neg hne]
          rfl
      · rintro ρ' M' ⟨o7, o8, rfl, rfl⟩
        rw [List.length_reverse, List.length_map]
        rw [show s.2.reverse.take s.2.length = s.2.reverse from by rw [← List.length_reverse (as := s.2), List.take_length]]
        show AB _ _ _ _ _
        have hW : 0 < whole sh := Nat.lt_of_lt_of_le (hs.w1 s hsm) (hs.le_whole hsm)
        have hlen : 0 < (heirsOf alB s.2).length := List.length_pos_iff.mpr n1
        have hw27 := hs.whole_le
        -- the parts
        refine ab_one (as_for (ai_seq (ae_var 6 rfl ⟨(heirsOf alB s.2).map .str, .inl rfl, fun j ρ' M' => ∃ (o9 : Option D) (fd' : List (Str × Fr)), ρ' = [some (encWill W sh), some (encNs al), some (.int ((whole sh : Nat) : Int)), some (.adr q), some (.int (s.1 : Int)), some (.tup (s.2.map encG)), some (encNs (heirsOf alB s.2)), o7, o8, o9] ∧
          M' = updM M q (.dct (encK encF fd')) ∧ (keysA fd').Nodup ∧ (∀ k ∈ keysA fd', k ∈ crown :: al) ∧ (∀ k, getA fd' k = if k ∈ (heirsOf alB s.2).take j then some (plusF ((getA fd k).getD (0, 1)) (low s.1 (whole sh * (heirsOf alB s.2).length))) else getA fd k), ?_, ?_, ?_, ?_⟩)))
        · exact ⟨o9, fd, rfl, rfl, hnf, hsub, fun k => by simp⟩
        · rintro j ρ' M' ⟨o9, fd', rfl, rfl, _⟩
          exact .inl rfl
        · rintro j y ρ' M' hy ⟨o9, fd', rfl, rfl, hnf', hsub', hget'⟩
          rw [List.getElem?_map] at hy
          obtain ⟨nm, hnm, rfl⟩ := Option.map_eq_some_iff.mp hy
          obtain ⟨g1, g2⟩ := putA_step n3 hnm hget'
          have hbo : ∀ f, getA fd nm = some f → Bd (81 ^ i) i f := fun f hf => by
            rw [hget nm] at hf
            have := parts_bd hs (al := alB) (k := nm) (sh.take i) (fun t ht => List.mem_of_mem_take ht) 0 none (fun f hf => nomatch hf) f hf
            rw [Nat.zero_add, List.length_take, Nat.min_eq_left (Nat.le_of_lt hil)] at this
            exact this
          have hb1 : Bd (81 ^ 3) 3 ((getA fd nm).getD (0, 1)) := by
            cases e : getA fd nm with
            | none => exact bd_zero.mono (Nat.one_le_pow _ _ (by decide)) (Nat.zero_le _)
            | some f => exact (hbo f e).mono (Nat.pow_le_pow_right (by decide) (by omega)) (by omega)
          have hb2 : Bd 81 1 (low s.1 (whole sh * (heirsOf alB s.2).length)) := by
            refine (Bd.low (c := 1) (Nat.mul_pos hW hlen) ?_).mono ?_ (Nat.le_refl _)
            · rw [Nat.one_mul]
              exact Nat.le_trans (hs.le_whole hsm) (Nat.le_mul_of_pos_right _ hlen)
            · have := Nat.mul_le_mul hw27 n2
              omega
          refine ag_name 9 ?_ scWillHeirs.nd
          refine ab_one (as_dput (hr.mono (by decide : 0 ≤ 3)) ?_)
          refine ae_call hP hr rfl (aa_cons ?_)
          refine ae_dget2 (hr.mono (by decide : 0 ≤ 3)) (ae_var 3 rfl ⟨q, rfl, ⟨_, .inl updM_same⟩, ae_var 9 rfl ?_⟩)
          refine ae_tup (aa_cons (ae_int (aa_cons (ae_int (aa_nil ⟨Nat.le_of_ble_eq_true rfl, nm, _, rfl, .inl updM_same, ?_⟩)))))
          refine aa_cons (ae_call hL hr2 rfl (aa_cons (ae_var 4 rfl (aa_cons ?_))))
          refine ae_bin op_mulW (ae_var 2 rfl ?_)
          refine ae_callB call_len_seq rfl g.len boot_len' (aa_cons (ae_var 6 rfl (aa_nil (rc_len (ds := (heirsOf alB s.2).map .str) (.inl rfl) (rr_int ?_ (aa_nil ⟨s.1, whole sh * (heirsOf alB s.2).length, ?_, Nat.mul_pos hW hlen, ?_, ?_⟩))))))
          · rw [List.length_map]
            refine wmul (up9 ?_) (up9 ?_)
            · exact Nat.lt_of_le_of_lt hw27 (Nat.lt_of_lt_of_le (by decide : 27 < 2 ^ 5) (Nat.pow_le_pow_right (by decide) (by decide)))
            · exact Nat.lt_of_le_of_lt n2 (Nat.lt_of_lt_of_le (by decide : 3 < 2 ^ 2) (Nat.pow_le_pow_right (by decide) (by decide)))
          · rw [List.length_map, Int.natCast_mul]
          · exact Nat.lt_of_le_of_lt (Nat.mul_le_mul hw27 n2) (Nat.lt_of_lt_of_le (by decide : 27 * 3 < 2 ^ 7) (Nat.pow_le_pow_right (by decide) (by decide)))
          refine aa_nil ⟨(getA fd nm).getD (0, 1), low s.1 (whole sh * (heirsOf alB s.2).length), ?_, ?_, ?_⟩
          · rw [valD_enc, g1]
            cases getA fd nm <;> rfl
          · exact hb1.frok hb2 (Nat.lt_of_lt_of_le (by decide : 81 ^ 3 * 81 < 2 ^ 30) (Nat.pow_le_pow_right (by decide) (by decide))) (Nat.lt_of_lt_of_le (by decide : 3 * 81 ^ 3 < 2 ^ 30) (Nat.pow_le_pow_right (by decide) (by decide))) (Nat.lt_of_lt_of_le (by decide : 1 * 81 < 2 ^ 30) (Nat.pow_le_pow_right (by decide) (by decide)))
          have hlf : fd'.length < 1000 := by
            have := len_le_of_sub hnf' hsub'
            rw [show (keysA fd').length = fd'.length from by simp [keysA], List.length_cons] at this
            omega
          refine ae_var 3 rfl (ae_var 9 rfl ⟨q, nm, _, rfl, rfl, updM_same, by rw [encK_len]; exact hlf, ?_⟩)
          refine ⟨some (.str nm), putA fd' nm (plusF ((getA fd nm).getD (0, 1)) (low s.1 (whole sh * (heirsOf alB s.2).length))), rfl, ?_, putA_nodup hnf' _ _, fun k hk => ?_, g2⟩
          · rw [updM_upd, putD_enc]
          · rw [putA_keys] at hk
            split at hk
            · exact hsub' k hk
            · rcases List.mem_append.mp hk with hk | hk
              · exact hsub' k hk
              · rw [List.mem_singleton.mp hk]
                rcases n4 nm (List.mem_of_getElem? hnm) with e | ⟨e, _⟩
                · rw [e]
                  exact List.mem_cons_self
                · exact List.mem_cons_of_mem _ (of_decide_eq_true e)
        · rintro ρ' M' ⟨o9, fd', rfl, rfl, hnf', hsub', hget'⟩
          rw [List.length_map, List.take_length] at hget'
          refine ⟨_, _, _, _, _, _, fd', rfl, rfl, hnf', hsub', fun k => ?_⟩
          rw [take_next hs', List.foldl_append, hget' k, ← hget k]
          rfl
    · rintro ρ' M' ⟨o4, o5, o6, o7, o8, o9, fd, rfl, rfl, hnf, hsub, hget⟩
      rw [List.length_map, List.take_length] at hget
      have hlf : fd.length < 64 := by
        have := len_le_of_sub hnf hsub
        rw [show (keysA fd).length = fd.length from by simp [keysA], List.length_cons] at this
        omega
      refine ab_one (as_ret (ae_le ?_))
      refine ae_callTy call_tuple_of rfl g.tuple boot_tuple' (aa_cons ?_)
      let val : Str → Fr := fun k => (getA fd k).getD (0, 1)
      let ks : List Str := srt (keysA fd)
      have hval : ∀ k ∈ ks, getA fd k = some (val k) := fun k hk => by
        have h1 : k ∈ keysA fd := mem_srt.mp hk
        cases e : getA fd k with
        | none => exact absurd h1 (getA_none.mp e)
        | some v =>
          show some v = some ((getA fd k).getD (0, 1))
          rw [e]
          rfl
      have hkl : ks.length < 64 := by
        show (srt (keysA fd)).length < 64
        rw [srt_len]
        simpa [keysA] using hlf
      refine ae_L [("name", 9)] rfl scWillHeirs.nd (blkOk_by (by kernel_rfl)) (al_map ks D.str (fun k => encP (k, val k)) ?_)
      refine ai_seq (ae_callB (call_sortedD rfl) rfl g.sorted boot_sorted' (aa_cons (ae_var 3 rfl (aa_nil (rc_sortedD (.inl updM_same) (by rw [encK_len]; exact hlf) fun ys hp hs => ?_)))))
      rw [encK_keys] at hp
      have ey : ys = ks := srt_eq hp hs
      subst ey
      refine ⟨_, .inl rfl, rfl, by omega, .inl rfl, fun x hx s H C cl fp => ?_, ?_⟩
      · refine agc_name 9 (fun s H C cl fp => ?_) (by decide) scWillHeirs.nd
        refine ae_tup (aa_cons (ae_var 9 rfl (aa_cons (ae_dget (hr.mono (by decide : 0 ≤ 3)) (ae_var 3 rfl (ae_var 9 rfl ⟨q, x, _, encF (val x), rfl, rfl, .inl updM_same, ?_, ?_⟩))))))
        · rw [valD_enc, hval x hx]
          rfl
        · exact aa_nil ⟨Nat.le_of_ble_eq_true rfl, rfl, rfl⟩
      · refine aa_nil (rc_tupleOf (.inl rfl) ⟨_, le_upd hq, ?_⟩)
        rw [show (ks.map fun k => encP (k, val k)) = (ks.map fun k => (k, val k)).map encP from by rw [List.map_map]; rfl]
        have ek : keysA (ks.map fun k => (k, val k)) = ks := by
          unfold keysA
          rw [List.map_map]
          exact List.map_id _
        have hkn : ks.Nodup := srt_nodup.mpr hnf
        refine post _ (by rw [ek]; exact hkn) (fun k => ?_) (by rw [List.length_map]; exact hkl)
        show _ = partOf sh alB k
        unfold partOf
        rw [← hget k]
        by_cases hk : k ∈ ks
        · rw [hval k hk]
          exact getA_of_mem (by rw [ek]; exact hkn) (List.mem_map.mpr ⟨k, hk, rfl⟩)
        · rw [getA_none.mpr (by rw [ek]; exact hk), getA_none.mpr fun z => hk (mem_srt.mpr z)]
end
end Hr
set_option Elab.async false
set_option linter.all false
set_option maxRecDepth 100000
set_option maxHeartbeats 4000000
set_option exponentiation.threshold 300000
/-! HeirK1: families: what is asked of people, wills. -/
namespace Hr
open PySem L2
open PyProof.Rows (sortedS envOfC)
/-- a def with defaults keeps its promise, by its body -/
theorem fn_absD {P : Program} {w : World} {K : PySem.W.Frag} {mg : Str → Option Value} {base : Heap} {x qual : Str} {params : Arguments} {body : List Stmt} {scope : Scope} {dvs : List V} {kws : List (Str × V)} {f : Addr} {fd : FuncData} {N ps : List Str} {k : Nat} {F : ASp} (Fn : FunD K x qual params body scope dvs kws f fd) (S : FnScope N ps scope) (len : ∀ ds M Post, F ds M Post → ds.length = ps.length)
    (h : ∀ (cdv : Value) (A : Around) (outer : List Env) (s : Shared) (H : Hp) (E : XK), Room k (A.deeper (envOfC qual scope s.heap.objs.size f cdv)) → ∀ ds M Post, F ds M Post →
      AB (cxOf CX0 P w K mg base N qual scope f cdv A outer s H E) body (ds.map some ++ List.replicate (N.length - ds.length) none) M { nx := fun _ M' => Post .non M', rt := Post }) :
    FnOk P w K mg base CX0 (k + 1) f fd ps (spA F) := by
  refine Fn.ok S (fun vs H Q E hs => ?_) (fun cdv A outer s H vs Q E hr hs => ?_)
  · obtain ⟨G, M, ds, Post, n, r, f, _⟩ := hs
    rw [r.length]
    exact len ds M Post f
  · obtain ⟨G, M, ds, Post, n, r, f, q⟩ := hs
    refine ⟨_, pb_w, h cdv A outer s H E hr ds M Post f G H _ _ n ?_ ⟨fun ρ' M' σ' G' H' p st _ => q .non M' .non G' H' p st (rep_non.mpr rfl), fun d M' v G' H' p st rv => q d M' v G' H' p st rv, fun _ _ _ _ _ p => p.elim, fun _ _ _ _ _ p => p.elim⟩⟩
    unfold L2.start
    rw [r.length]
    exact RepS.start _ r
section
variable {X : Cx} {ρ : Rh} {M : Mm} {e a b c tg iter elt o i f : Expr} {es rest : List Expr} {pos p apos : Pos} {k : Nat}
/-- the same, the list known late -/
theorem al_map' {α : Type} {scope : Scope} {own : List (Str × Nat)} {Post : D → Mm → Prop} (enc f : α → D)
    (h : AI X tg iter ρ M fun ds Stb M1 => ∃ l : List α, ds = l.map enc ∧ l.length ≤ 1000 ∧ Stb M1 ∧
      (∀ x ∈ l, ∀ (s : Shared) (H : Hp) (C : Addr) (cl : List (Str × Addr)) (fp : List Addr), AGc (X.blk s H scope (compEnvC scope cl C X.env) fp) tg (own.map (·.2)) (wipeR ρ (own.map (·.2))) (enc x) fun ρ2 =>
        ∀ (s : Shared) (H : Hp) (C : Addr) (cl : List (Str × Addr)) (fp : List Addr), AE (X.blk s H scope (compEnvC scope cl C X.env) fp) elt ρ2 M1 fun y M3 => y = f x ∧ M3 = M1) ∧
      Post (.lst (l.map f)) M1) : AL X elt tg iter [] scope own ρ M Post := by
  refine al_0 (fun G H σ R n r kk => h G H σ R n r fun ds Stb M1 G1 H1 J ⟨l, e1, hl, hst, ht, hp⟩ => kk ds Stb M1 G1 H1 J ⟨fun i acc M' => M' = M1 ∧ i ≤ l.length ∧ acc = (l.take i).map f, ?_, ?_, ?_, ?_, ?_⟩)
  · rw [e1, List.length_map]
    exact hl
  · exact ⟨rfl, Nat.zero_le _, rfl⟩
  · rintro i acc M' ⟨rfl, hi, rfl⟩
    exact ⟨hst, by rw [List.length_map, List.length_take]; omega⟩
  · rintro i acc M' d hd ⟨rfl, hi, rfl⟩ s0 H0 C cl fp
    rw [e1, List.getElem?_map] at hd
    obtain ⟨x, hx, rfl⟩ := Option.map_eq_some_iff.mp hd
    refine fun G H σ v Q e rr rv kq => ht x (List.mem_of_getElem? hx) s0 H0 C cl fp G H σ v Q e rr rv fun ρ' σ' hp' => kq ρ' σ' fun s0 H0 C cl fp => ?_
    refine (hp' s0 H0 C cl fp).mono fun y M3 ⟨ey, eM⟩ => ⟨eM, ?_, ?_⟩
    · exact (List.getElem?_eq_some_iff.mp hx).1
    · rw [ey, take_next hx, List.map_append]
      rfl
  · rintro acc M' ⟨rfl, hi, rfl⟩
    rw [e1, List.length_map, List.take_of_length_le (Nat.le_refl _)]
    exact hp
end
abbrev sArePeople : Stmt := top 39
abbrev sIsWillOf : Stmt := top 40
abbrev sAreWills : Stmt := top 41
abbrev sAreFacts : Stmt := top 42
abbrev sHasRing : Stmt := top 43
abbrev cFam : Stmt := top 44
abbrev sFamInit : Stmt := inClass cFam 0
abbrev sFamDead : Stmt := inClass cFam 2
abbrev sFamLiving : Stmt := inClass cFam 3
abbrev sFamWillOf : Stmt := inClass cFam 5
abbrev sFamWithFact : Stmt := inClass cFam 6
abbrev sFamAdd : Stmt := inClass cFam 9
theorem scArePeople : FnScope ["value", "name", "amount"] ["value"] (defScope sArePeople) := ⟨rfl, rfl, rfl, by decide +kernel, rfl, by decide +kernel, by decide +kernel⟩
theorem scIsWillOf : FnScope ["name", "will", "names", "other"] ["name", "will", "names"] (defScope sIsWillOf) := ⟨rfl, rfl, rfl, by decide +kernel, rfl, by decide +kernel, by decide +kernel⟩
theorem scAreWills : FnScope ["value", "names", "name", "will"] ["value", "names"] (defScope sAreWills) := ⟨rfl, rfl, rfl, by decide +kernel, rfl, by decide +kernel, by decide +kernel⟩
theorem scAreFacts : FnScope ["value", "dead", "first", "then"] ["value", "dead"] (defScope sAreFacts) := ⟨rfl, rfl, rfl, by decide +kernel, rfl, by decide +kernel, by decide +kernel⟩
theorem scHasRing : FnScope ["dead", "facts", "left", "held", "free", "first", "then", "name"] ["dead", "facts"] (defScope sHasRing) := ⟨rfl, rfl, rfl, by decide +kernel, rfl, by decide +kernel, by decide +kernel⟩
theorem scFamInit : FnScope ["self", "people", "wills", "facts", "dead", "name", "amount", "will"] ["self", "people", "wills", "facts"] (defScope sFamInit) := ⟨rfl, rfl, rfl, by decide +kernel, rfl, by decide +kernel, by decide +kernel⟩
theorem scFamDead : FnScope ["self", "name", "will"] ["self"] (defScope sFamDead) := ⟨rfl, rfl, rfl, by decide +kernel, rfl, by decide +kernel, by decide +kernel⟩
theorem scFamLiving : FnScope ["self", "dead", "name", "amount"] ["self"] (defScope sFamLiving) := ⟨rfl, rfl, rfl, by decide +kernel, rfl, by decide +kernel, by decide +kernel⟩
theorem scFamWillOf : FnScope ["self", "name", "other", "will"] ["self", "name"] (defScope sFamWillOf) := ⟨rfl, rfl, rfl, by decide +kernel, rfl, by decide +kernel, by decide +kernel⟩
theorem scFamWithFact : FnScope ["self", "first", "then"] ["self", "first", "then"] (defScope sFamWithFact) := ⟨rfl, rfl, rfl, by decide +kernel, rfl, by decide +kernel, by decide +kernel⟩
theorem scFamAdd : FnScope ["self", "other"] ["self", "other"] (defScope sFamAdd) := ⟨rfl, rfl, rfl, by decide +kernel, rfl, by decide +kernel, by decide +kernel⟩

/-! ### a family's data -/
def encPe (p : Str × Nat) : D := .tup [.str p.1, .int (p.2 : Int)]
def encWi (W : Addr) (x : Str × List Share) : D := .tup [.str x.1, encWill W x.2]
def encFa (x : Str × Str) : D := .tup [.str x.1, .str x.2]
structure Fam where
  people : List (Str × Nat)
  wills : List (Str × List Share)
  facts : List (Str × Str)
def Fam.names (m : Fam) : List Str := m.people.map (·.1)
def Fam.dead (m : Fam) : List Str := m.wills.map (·.1)
def encFam (F W : Addr) (m : Fam) : D := .obj F [("people", .tup (m.people.map encPe)), ("wills", .tup (m.wills.map (encWi W))), ("facts", .tup (m.facts.map encFa))]
/-- o sets every first ahead of its then -/
def Keeps (o : List Str) (facts : List (Str × Str)) : Prop := ∀ f ∈ facts, ∃ i j : Nat, o[i]? = some f.1 ∧ o[j]? = some f.2 ∧ i < j
structure PplOk (people : List (Str × Nat)) : Prop where
  ne : people ≠ []
  few : people.length ≤ 30
  ok : ∀ p ∈ people, NameOk p.1
  nd : (people.map (·.1)).Nodup
structure WilOk (names : List Str) (wills : List (Str × List Share)) : Prop where
  few : wills.length ≤ 30
  nd : (wills.map (·.1)).Nodup
  in_ : ∀ x ∈ wills, x.1 ∈ names
  sh : ∀ x ∈ wills, ShB x.2
  nm : ∀ x ∈ wills, ∀ s ∈ x.2, ∀ g ∈ s.2, ∀ y ∈ g, y ∈ names ∧ y ≠ x.1
structure FacOk (dead : List Str) (facts : List (Str × Str)) : Prop where
  few : facts.length ≤ 100
  ord : ∃ o : List Str, o.Nodup ∧ o.length ≤ 30 ∧ (∀ d, d ∈ o ↔ d ∈ dead) ∧ Keeps o facts
structure FamOk (m : Fam) : Prop where
  pp : PplOk m.people
  wi : WilOk m.names m.wills
  fa : FacOk m.dead m.facts
def spArePeople : ASp := fun ds M Post => ∃ d people, ds = [d] ∧ IsSeq M d (people.map encPe) ∧ PplOk people ∧ Post (.bl true) M
def spIsWillOf (W : Addr) : ASp := fun ds M Post => ∃ n sh nm, ds = [.str n, encWill W sh, encNs nm] ∧ nm.length ≤ 30 ∧ n ∈ nm ∧ ShB sh ∧ (∀ s ∈ sh, ∀ g ∈ s.2, ∀ y ∈ g, y ∈ nm ∧ y ≠ n) ∧ Post (.bl true) M
def spAreWills (W : Addr) : ASp := fun ds M Post => ∃ d wills nm, ds = [d, encNs nm] ∧ IsSeq M d (wills.map (encWi W)) ∧ nm.length ≤ 30 ∧ WilOk nm wills ∧ Post (.bl true) M
def spAreFacts : ASp := fun ds M Post => ∃ d facts dead, ds = [d, encNs dead] ∧ IsSeq M d (facts.map encFa) ∧ FacOk dead facts ∧ Post (.bl true) M
theorem is_len {d : D} {ds : List D} {M : Mm} (h : IsSeq M d ds) : IsSeq M d ds := h
section
variable {P : Program} {w : World} {K : PySem.W.Frag} {mg : Str → Option Value} {base : Heap}
theorem ok_arePeople {f : Addr} {fd : FuncData} (Fn : Fun K "are_people" "are_people" sArePeople f fd) (g : Glb mg) (hP : Has ⟨P, w, K, mg, base⟩ 2 "are_pairs" spArePairs) (hN : Has ⟨P, w, K, mg, base⟩ 1 "is_name" spIsName) (hI : Has ⟨P, w, K, mg, base⟩ 2 "is_number" spIsNumber) (hU : Has ⟨P, w, K, mg, base⟩ 1 "are_unlike" spAreUnlike) : FnOk P w K mg base CX0 3 f fd ["value"] (spA spArePeople) := by
  refine fn_abs (k := 2) Fn scArePeople (fun ds M Post h => ?_) (fun cdv A outer s H E hr ds M Post h => ?_)
  · obtain ⟨a, _, rfl, _⟩ := h
    rfl
  · obtain ⟨d, ppl, rfl, hd, hp, post⟩ := h
    have hr1 : Room 1 _ := hr.mono (by decide)
    have hlen := hp.few
    refine ab_cons (as_if (at_w (aw_or (at_not (at_val ?_)))))
    refine ae_call hP hr rfl (aa_cons (ae_var 0 rfl (aa_nil ⟨d, _, rfl, hd, by rw [List.length_map]; omega, fun x hx => ?_, true, rfl, fun _ => ?_, fun q => nomatch q⟩)))
    · obtain ⟨p, _, rfl⟩ := List.mem_map.mp hx
      exact ⟨_, _, rfl⟩
    refine aw_or1 (at_cmp op_eq (nomark _) (ae_callB call_len_seq rfl g.len boot_len' (aa_cons (ae_var 0 rfl (aa_nil (rc_len hd (ae_int (rr_eqI ⟨_, rfl, fun q => ?_, fun _ => ?_⟩))))))))
    · have q' := of_decide_eq_true q
      have := List.length_pos_iff.mpr hp.ne
      rw [List.length_map] at q'
      omega
    refine ab_nil (ab_cons (as_if (at_not (at_val ?_))))
    refine ae_callB (cr_all rfl) rfl g.all boot_all' (aa_cons ?_)
    refine ae_L [("name", 1), ("amount", 2)] rfl scArePeople.nd (blkOk_by (by kernel_rfl)) (al_map ppl encPe (fun n => D.bl true) ?_)
    refine ai_seq (ae_var 0 rfl ⟨_, hd, rfl, by omega, hd, fun x hx s H C cl fp => ?_, ?_⟩)
    · refine agc_two 1 2 (fun s H C cl fp => ?_) (by decide) (by decide) rfl scArePeople.nd
      refine ae_and (ae_call hN hr1 rfl (aa_cons (ae_var 1 rfl (aa_nil ⟨x.1, rfl, hp.ok x hx, true, rfl, fun _ => ?_, fun q => nomatch q⟩))))
      exact ae_one (ae_call hI hr rfl (aa_cons (ae_var 2 rfl (aa_nil ⟨_, rfl, Int.natCast_nonneg _, rfl, rfl⟩))))
    refine aa_nil (rc_allT ppl rfl ⟨true, rfl, fun q => (nomatch q), fun _ => ?_⟩)
    refine ab_nil (ab_one (as_ret (ae_call hU hr1 rfl (aa_cons ?_))))
    refine ae_L [("name", 1), ("amount", 2)] rfl scArePeople.nd (blkOk_by (by kernel_rfl)) (al_map ppl encPe (fun p => D.str p.1) ?_)
    refine ai_seq (ae_var 0 rfl ⟨_, hd, rfl, by omega, hd, fun x hx s H C cl fp => ?_, ?_⟩)
    · refine agc_two 1 2 (fun s H C cl fp => ?_) (by decide) (by decide) rfl scArePeople.nd
      exact ae_var 1 rfl ⟨rfl, rfl⟩
    · refine aa_nil ⟨ppl.map (·.1), ?_, hp.nd, by rw [List.length_map]; omega, post⟩
      unfold encNs
      rw [List.map_map]
      rfl
theorem ok_isWillOf {f W : Addr} {fd : FuncData} (Fn : Fun K "is_will_of" "is_will_of" sIsWillOf f fd) (g : Glb mg) (C : WillCls K W) (iW : C8.InsC K W) (hW : mg "Will" = some (.ref W)) (hN : HasP ⟨P, w, K, mg, base⟩ 1 W "names" (spWillNames W)) : FnOk P w K mg base CX0 3 f fd ["name", "will", "names"] (spA (spIsWillOf W)) := by
  refine fn_abs (k := 2) Fn scIsWillOf (fun ds M Post h => ?_) (fun cdv A outer s H E hr ds M Post h => ?_)
  · obtain ⟨a, _, _, rfl, _⟩ := h
    rfl
  · obtain ⟨n, sh, nm, rfl, hl, hn, hs, hnm, post⟩ := h
    have hs1 := hs.few
    refine ab_cons (as_if (at_w (aw_or (at_not (at_val ?_)))))
    refine ae_isi g rfl rfl g.str boot_str' kit_ss (ae_var 0 rfl ⟨ty_str, true, rfl, fun _ => ?_, fun q => nomatch q⟩)
    refine aw_or (at_cmp op_notIn_seq (by rfl) (ae_var 0 rfl (ae_var 2 rfl (rr_in (l := nm) (.inl rfl) ⟨_, rfl, fun _ => ?_, fun q => ?_⟩))))
    · refine aw_or1 (at_not (at_val ?_))
      refine ae_callB (C8.call_isC iW) rfl g.isinstance boot_isinstance (aa_cons (ae_var 1 rfl (aa_cons (ae_globC rfl hW (aa_nil (rc_isC (.inl rfl) ⟨true, rfl, fun q => (nomatch q), fun _ => ?_⟩))))))
      refine ab_nil (ab_one (as_ret (ae_callB (cr_all rfl) rfl g.all boot_all' (aa_cons ?_))))
      refine ae_L [("other", 3)] rfl scIsWillOf.nd (blkOk_by (by kernel_rfl)) (al_map' D.str (fun n => D.bl true) ?_)
      refine ai_seq (ae_prop hN C.cl hr (ae_var 1 rfl ⟨_, .inl rfl, sh, nm.filter (fun y => !decide (y = n)), rfl, ?_, ?_, fun r hr0 hrl => ⟨_, .inr (.inl rfl), r, rfl, by omega, .inr (.inl rfl), fun x hx s H C cl fp => ?_, aa_nil (rc_allT r rfl post)⟩⟩))
      · refine ⟨by omega, fun s h => Nat.le_trans (hs.gr s h) (by decide), fun s h gg hg => Nat.le_trans (hs.gl s h gg hg) (by decide), fun s h gg hg x hx => ?_⟩
        obtain ⟨h1, h2⟩ := hnm s h gg hg x hx
        exact List.mem_filter.mpr ⟨h1, by simp [h2]⟩
      · exact Nat.lt_of_le_of_lt (List.length_filter_le _ _) (by omega)
      · obtain ⟨h1, h2⟩ := List.mem_filter.mp (hr0 x hx)
        have h2' : x ≠ n := by simpa using h2
        refine agc_name 3 (fun s H C cl fp => ?_) (by decide) scIsWillOf.nd
        refine ae_and (ae_cmp op_in_seq (by rfl) (ae_var 3 rfl (ae_var 2 rfl (rr_in (l := nm) (.inl rfl) ⟨_, rfl, fun _ => ?_, fun q => ?_⟩))))
        · refine ae_one (ae_cmp op_ne (nomark _) (ae_var 3 rfl (ae_var 0 rfl (rr_neS ⟨?_, rfl⟩))))
          simp [h2']
        · simp [h1] at q
    · simp [hn] at q
end
end Hr
set_option Elab.async false
set_option linter.all false
set_option maxRecDepth 100000
set_option maxHeartbeats 4000000
set_option exponentiation.threshold 300000
/-! HeirK2: families: wills, facts, rings. -/
namespace Hr
open PySem L2
open PyProof.Rows (sortedS envOfC)
theorem FacOk.at {dead : List Str} {facts : List (Str × Str)} (h : FacOk dead facts) {x : Str × Str} (hx : x ∈ facts) : x.1 ∈ dead ∧ x.2 ∈ dead ∧ x.1 ≠ x.2 := by
  obtain ⟨o, nd, _, hd, hk⟩ := h.ord
  obtain ⟨i, j, e1, e2, hij⟩ := hk x hx
  refine ⟨(hd _).mp (List.mem_of_getElem? e1), (hd _).mp (List.mem_of_getElem? e2), fun z => ?_⟩
  rw [← z] at e2
  have := (List.getElem?_inj (List.getElem?_eq_some_iff.mp e1).1 nd).mp (e1.trans e2.symm)
  omega
/-- the names that a first in l holds back -/
def heldBy (facts : List (Str × Str)) (l : List Str) : List Str := (facts.filter fun f => decide (f.1 ∈ l)).map (·.2)
theorem free_ne {dead : List Str} {facts : List (Str × Str)} (h : FacOk dead facts) {l : List Str} (hl : ∀ x ∈ l, x ∈ dead) (hne : l ≠ []) : l.filter (fun x => !decide (x ∈ heldBy facts l)) ≠ [] := by
  obtain ⟨o, nd, _, hd, hk⟩ := h.ord
  have hs : (o.find? fun x => decide (x ∈ l)).isSome := by
    rw [List.find?_isSome]
    obtain ⟨x, hx⟩ := List.exists_mem_of_ne_nil l hne
    exact ⟨x, (hd x).mpr (hl x hx), decide_eq_true hx⟩
  obtain ⟨x, hx⟩ := Option.isSome_iff_exists.mp hs
  obtain ⟨h1, pre, post, rfl, h2⟩ := List.find?_eq_some_iff_append.mp hx
  have hxl : x ∈ l := of_decide_eq_true h1
  refine List.ne_nil_of_mem (List.mem_filter.mpr ⟨hxl, ?_⟩)
  rw [Bool.not_eq_true', decide_eq_false_iff_not]
  intro hm
  obtain ⟨f, hf, e⟩ := List.mem_map.mp hm
  obtain ⟨hf1, hf2⟩ := List.mem_filter.mp hf
  obtain ⟨i, j, e1, e2, hij⟩ := hk f hf1
  have e3 : (pre ++ x :: post)[pre.length]? = some x := by simp
  rw [e] at e2
  have hjp : j = pre.length := (List.getElem?_inj (List.getElem?_eq_some_iff.mp e2).1 nd).mp (e2.trans e3.symm)
  have hip : i < pre.length := by omega
  rw [List.getElem?_append_left hip] at e1
  have hmem := List.mem_of_getElem? e1
  have := h2 _ hmem
  rw [Bool.not_eq_true', decide_eq_false_iff_not] at this
  exact this (of_decide_eq_true hf2)
theorem left_lt {l fr : List Str} (hf : fr ≠ []) (hs : ∀ x ∈ fr, x ∈ l) : (l.filter fun x => !decide (x ∈ fr)).length < l.length := by
  obtain ⟨x, hx⟩ := List.exists_mem_of_ne_nil fr hf
  refine List.length_filter_lt_length_iff_exists.mpr ⟨x, hs x hx, ?_⟩
  simp [hx]
def spHasRing : ASp := fun ds M Post => ∃ d facts dead, ds = [encNs dead, d] ∧ IsSeq M d (facts.map encFa) ∧ FacOk dead facts ∧ dead.length ≤ 30 ∧ (∀ x ∈ dead, PySem.PyData.strOk x = true) ∧ Post (.bl false) M
section
variable {P : Program} {w : World} {K : PySem.W.Frag} {mg : Str → Option Value} {base : Heap}
theorem ok_areWills {f W : Addr} {fd : FuncData} (Fn : Fun K "are_wills" "are_wills" sAreWills f fd) (g : Glb mg) (hP : Has ⟨P, w, K, mg, base⟩ 2 "are_pairs" spArePairs) (hW : Has ⟨P, w, K, mg, base⟩ 3 "is_will_of" (spIsWillOf W)) (hU : Has ⟨P, w, K, mg, base⟩ 1 "are_unlike" spAreUnlike) : FnOk P w K mg base CX0 4 f fd ["value", "names"] (spA (spAreWills W)) := by
  refine fn_abs (k := 3) Fn scAreWills (fun ds M Post h => ?_) (fun cdv A outer s H E hr ds M Post h => ?_)
  · obtain ⟨a, _, _, rfl, _⟩ := h
    rfl
  · obtain ⟨d, wl, nm, rfl, hd, hnm, hp, post⟩ := h
    have hr1 : Room 1 _ := hr.mono (by decide)
    have hr2 : Room 2 _ := hr.mono (by decide)
    have hlen := hp.few
    refine ab_cons (as_if (at_w (aw_or (at_not (at_val ?_)))))
    refine ae_call hP hr2 rfl (aa_cons (ae_var 0 rfl (aa_nil ⟨d, _, rfl, hd, by rw [List.length_map]; omega, fun x hx => ?_, true, rfl, fun _ => ?_, fun q => nomatch q⟩)))
    · obtain ⟨p, _, rfl⟩ := List.mem_map.mp hx
      exact ⟨_, _, rfl⟩
    refine aw_or1 (at_not (at_val ?_))
    refine ae_callB (cr_all rfl) rfl g.all boot_all' (aa_cons ?_)
    refine ae_L [("name", 2), ("will", 3)] rfl scAreWills.nd (blkOk_by (by kernel_rfl)) (al_map wl (encWi W) (fun n => D.bl true) ?_)
    refine ai_seq (ae_var 0 rfl ⟨_, hd, rfl, by omega, hd, fun x hx s H C cl fp => ?_, ?_⟩)
    · refine agc_two 2 3 (fun s H C cl fp => ?_) (by decide) (by decide) rfl scAreWills.nd
      exact ae_call hW hr rfl (aa_cons (ae_var 2 rfl (aa_cons (ae_var 3 rfl (aa_cons (ae_var 1 rfl (aa_nil ⟨x.1, x.2, nm, rfl, hnm, hp.in_ x hx, hp.sh x hx, hp.nm x hx, rfl, rfl⟩)))))))
    refine aa_nil (rc_allT wl rfl ⟨true, rfl, fun q => (nomatch q), fun _ => ?_⟩)
    refine ab_nil (ab_one (as_ret (ae_call hU hr1 rfl (aa_cons ?_))))
    refine ae_L [("name", 2), ("will", 3)] rfl scAreWills.nd (blkOk_by (by kernel_rfl)) (al_map wl (encWi W) (fun p => D.str p.1) ?_)
    refine ai_seq (ae_var 0 rfl ⟨_, hd, rfl, by omega, hd, fun x hx s H C cl fp => ?_, ?_⟩)
    · refine agc_two 2 3 (fun s H C cl fp => ?_) (by decide) (by decide) rfl scAreWills.nd
      exact ae_var 2 rfl ⟨rfl, rfl⟩
    · refine aa_nil ⟨wl.map (·.1), ?_, hp.nd, by rw [List.length_map]; omega, post⟩
      unfold encNs
      rw [List.map_map]
      rfl
theorem ok_areFacts {f : Addr} {fd : FuncData} (Fn : Fun K "are_facts" "are_facts" sAreFacts f fd) (g : Glb mg) (hP : Has ⟨P, w, K, mg, base⟩ 2 "are_pairs" spArePairs) : FnOk P w K mg base CX0 3 f fd ["value", "dead"] (spA spAreFacts) := by
  refine fn_abs (k := 2) Fn scAreFacts (fun ds M Post h => ?_) (fun cdv A outer s H E hr ds M Post h => ?_)
  · obtain ⟨a, _, _, rfl, _⟩ := h
    rfl
  · obtain ⟨d, fa, dead, rfl, hd, hp, post⟩ := h
    have hlen := hp.few
    refine ab_cons (as_if (at_not (at_val ?_)))
    refine ae_call hP hr rfl (aa_cons (ae_var 0 rfl (aa_nil ⟨d, _, rfl, hd, by rw [List.length_map]; omega, fun x hx => ?_, true, rfl, fun q => (nomatch q), fun _ => ?_⟩)))
    · obtain ⟨p, _, rfl⟩ := List.mem_map.mp hx
      exact ⟨_, _, rfl⟩
    refine ab_nil (ab_cons (as_for (ai_seq (ae_var 0 rfl ⟨_, hd, fun i ρ' M' => ∃ (o2 o3 : Option D), ρ' = [some d, some (encNs dead), o2, o3] ∧ M' = M, ?_, ?_, ?_, ?_⟩))))
    · exact ⟨none, none, rfl, rfl⟩
    · rintro i ρ' M' ⟨o2, o3, rfl, rfl⟩
      exact hd
    · rintro i x ρ' M' hx ⟨o2, o3, rfl, rfl⟩
      rw [List.getElem?_map] at hx
      obtain ⟨y, hy, rfl⟩ := Option.map_eq_some_iff.mp hx
      obtain ⟨y1, y2, y3⟩ := hp.at (List.mem_of_getElem? hy)
      refine ag_two 2 3 ?_ rfl scAreFacts.nd
      refine ab_cons (as_if (at_w (aw_or (at_not (at_val ?_)))))
      refine ae_isi g rfl rfl g.str boot_str' kit_ss (ae_var 2 rfl ⟨ty_str, true, rfl, fun _ => ?_, fun q => nomatch q⟩)
      refine aw_or1 (at_not (at_val ?_))
      refine ae_isi g rfl rfl g.str boot_str' kit_ss (ae_var 3 rfl ⟨ty_str, true, rfl, fun q => (nomatch q), fun _ => ?_⟩)
      refine ab_nil (ab_one (as_if (at_w (aw_or (at_cmp op_notIn_seq (by rfl) (ae_var 2 rfl (ae_var 1 rfl (rr_in (l := dead) (.inl rfl) ⟨_, rfl, fun _ => ?_, fun q => ?_⟩))))))))
      · refine aw_or (at_cmp op_notIn_seq (by rfl) (ae_var 3 rfl (ae_var 1 rfl (rr_in (l := dead) (.inl rfl) ⟨_, rfl, fun _ => ?_, fun q => ?_⟩))))
        · refine aw_or1 (at_cmp op_eq (nomark _) (ae_var 2 rfl (ae_var 3 rfl (rr_eqS ⟨_, rfl, fun q => ?_, fun _ => ?_⟩))))
          · exact absurd (of_decide_eq_true q) y3
          · exact ab_nil ⟨_, _, rfl, rfl⟩
        · simp [y2] at q
      · simp [y1] at q
    · rintro ρ' M' ⟨o2, o3, rfl, rfl⟩
      exact ab_one (as_ret (ae_bl post))
theorem ok_hasRing {f : Addr} {fd : FuncData} (Fn : Fun K "has_ring" "has_ring" sHasRing f fd) (g : Glb mg) : FnOk P w K mg base CX0 1 f fd ["dead", "facts"] (spA spHasRing) := by
  refine fn_abs (k := 0) Fn scHasRing (fun ds M Post h => ?_) (fun cdv A outer s H E hr ds M Post h => ?_)
  · obtain ⟨a, _, _, rfl, _⟩ := h
    rfl
  · obtain ⟨d, fa, dead, rfl, hd, hp, hdl, hok, post⟩ := h
    have hlen := hp.few
    refine ab_cons (as_set 2 ?_ scHasRing.nd)
    refine ae_callTy call_list_of rfl g.list boot_list' (aa_cons (ae_var 0 rfl (aa_nil (rc_listOf (ds := dead.map .str) (.inl rfl) ?_))))
    refine ab_cons (as_while (fun m ρ' M' => M' = M ∧ ∃ (o3 o4 : Option D) (l : List Str), ρ' = [some (encNs dead), some d, some (encNs l), o3, o4, none, none, none] ∧ m = l.length ∧ (∀ x ∈ l, x ∈ dead) ∧ l.length ≤ 30) dead.length ⟨rfl, none, none, dead, rfl, rfl, fun x hx => hx, hdl⟩ ?_)
    rintro m ρ' M' ⟨rfl, o3, o4, l, rfl, rfl, hl, hll⟩
    have hlo : ∀ z ∈ l, PySem.PyData.strOk z = true := fun z hz => hok z (hl z hz)
    refine at_cmp (op_neD hr.units) (nomark _) (ae_var 2 rfl (ae_lst (aa_nil ⟨Nat.le_of_ble_eq_true rfl, rr_neNilS (l := l) rfl hlo ⟨_, rfl, fun hk => ?_, fun hk => ?_⟩⟩)))
    · have hne : l ≠ [] := fun z => by
        rw [z] at hk
        cases hk
      have hfr := free_ne hp hl hne
      refine ab_cons (as_set 3 (ae_L [("first", 5), ("then", 6)] rfl scHasRing.nd (blkOk_by (by kernel_rfl)) (al_filter fa encFa (fun f => D.str f.2) (fun f => decide (f.1 ∈ l)) ?_)) scHasRing.nd)
      refine ai_seq (ae_var 1 rfl ⟨_, hd, rfl, by omega, hd, fun x hx s H C cl fp => ?_, ?_⟩)
      · refine agc_two 5 6 (fun s H C cl fp => ?_) (by decide) (by decide) rfl scHasRing.nd
        exact at_cmp op_in_seq (by rfl) (ae_var 5 rfl (ae_var 2 rfl (rr_in (l := l) (.inl rfl) ⟨_, rfl, rfl, rfl, fun _ s H C cl fp => ae_var 6 rfl ⟨rfl, rfl⟩⟩)))
      rw [show ((fa.filter fun f => decide (f.1 ∈ l)).map fun f => D.str f.2) = (heldBy fa l).map .str from by unfold heldBy; rw [List.map_map]; rfl]
      refine ab_cons (as_set 4 (ae_L [("name", 7)] rfl scHasRing.nd (blkOk_by (by kernel_rfl)) (al_filter l D.str D.str (fun x => !decide (x ∈ heldBy fa l)) ?_)) scHasRing.nd)
      refine ai_seq (ae_var 2 rfl ⟨_, .inl rfl, rfl, by omega, .inl rfl, fun x hx s H C cl fp => ?_, ?_⟩)
      · refine agc_name 7 (fun s H C cl fp => ?_) (by decide) scHasRing.nd
        exact at_cmp op_notIn_seq (by rfl) (ae_var 7 rfl (ae_var 3 rfl (rr_in (l := heldBy fa l) (.inl rfl) ⟨_, rfl, rfl, rfl, fun _ s H C cl fp => ae_var 7 rfl ⟨rfl, rfl⟩⟩)))
      refine ab_cons (as_if (at_cmp (op_eqD hr.units) (nomark _) (ae_var 4 rfl (ae_lst (aa_nil ⟨Nat.le_of_ble_eq_true rfl, rr_eqNilS (l := l.filter fun x => !decide (x ∈ heldBy fa l)) rfl (fun z hz => hlo z (List.mem_filter.mp hz).1) ⟨_, rfl, fun q => ?_, fun _ => ?_⟩⟩)))))
      · exact absurd (List.isEmpty_iff.mp q) hfr
      refine ab_nil (ab_one (as_set 2 (ae_L [("name", 7)] rfl scHasRing.nd (blkOk_by (by kernel_rfl)) (al_filter l D.str D.str (fun x => !decide (x ∈ l.filter fun x => !decide (x ∈ heldBy fa l))) ?_)) scHasRing.nd))
      refine ai_seq (ae_var 2 rfl ⟨_, .inl rfl, rfl, by omega, .inl rfl, fun x hx s H C cl fp => ?_, ?_⟩)
      · refine agc_name 7 (fun s H C cl fp => ?_) (by decide) scHasRing.nd
        exact at_cmp op_notIn_seq (by rfl) (ae_var 7 rfl (ae_var 4 rfl (rr_in (l := l.filter fun x => !decide (x ∈ heldBy fa l)) (.inl rfl) ⟨_, rfl, rfl, rfl, fun _ s H C cl fp => ae_var 7 rfl ⟨rfl, rfl⟩⟩)))
      refine ⟨_, left_lt (l := l) hfr (fun x hx => (List.mem_filter.mp hx).1), rfl, _, _, _, rfl, rfl, fun x hx => hl x (List.mem_filter.mp hx).1, Nat.le_trans (List.length_filter_le _ _) hll⟩
    · exact ab_one (as_ret (ae_bl post))
end
end Hr
set_option Elab.async false
set_option linter.all false
set_option maxRecDepth 100000
set_option maxHeartbeats 4000000
set_option exponentiation.threshold 300000
/-! HeirK3: Family. -/
namespace Hr
open PySem L2
open PyProof.Rows (sortedS envOfC)
structure FamCls (K : PySem.W.Frag) (F W : Addr) : Prop where
  cl : Cls K F
  p : NoAttr K F "people"
  w : NoAttr K F "wills"
  f : NoAttr K F "facts"
  wc : WillCls K W
/-- a list or a tuple (not one whose object is known) -/
def Sq2 (M : Mm) (d : D) (ds : List D) : Prop := deref M d = .lst ds ∨ d = .tup ds
theorem Sq2.seq {M : Mm} {d : D} {ds : List D} (h : Sq2 M d ds) : IsSeq M d ds := h.elim .inl fun e => .inr (.inl e)
theorem Sq2.upd {M : Mm} {d : D} {ds : List D} {q C : Addr} {fs : List (Str × D)} {e : D} (h : Sq2 M d ds) (hq : M q = some (.obj C fs)) : Sq2 (updM M q e) d ds := by
  rcases h with h | h
  · left
    cases d with
    | adr p =>
      have h' : (M p).getD (.adr p) = .lst ds := h
      have hne : p ≠ q := fun z => by
        rw [z, hq] at h'
        cases h'
      show (updM M q e p).getD (.adr p) = .lst ds
      rw [updM_ne hne]
      exact h'
    | _ => exact h
  · exact .inr h
theorem put3 (a b c : D) : putFD "facts" c (putFD "wills" b (putFD "people" a [])) = [(("people" : Str), a), ("wills", b), ("facts", c)] := by
  have h1 : ¬ (("people" : Str) = "wills") := by decide +kernel
  have h2 : ¬ (("people" : Str) = "facts") := by decide +kernel
  have h3 : ¬ (("wills" : Str) = "facts") := by decide +kernel
  simp [putFD, h1, h2, h3]
def Fam.living (m : Fam) : List Str := m.names.filter fun x => !decide (x ∈ m.dead)
def Fam.wl (m : Fam) : Str → Option (List Share) := getA m.wills
def spFamInit (F W : Addr) : ASp := fun ds M Post => ∃ (q : Addr) (dp dw df : D) (m : Fam), ds = [.adr q, dp, dw, df] ∧ M q = some (.obj F []) ∧ Sq2 M dp (m.people.map encPe) ∧ Sq2 M dw (m.wills.map (encWi W)) ∧ Sq2 M df (m.facts.map encFa) ∧ FamOk m ∧
  Post .non (updM M q (encFam F W m))
def spFamDead (F W : Addr) : ASp := fun ds M Post => ∃ m, ds = [encFam F W m] ∧ FamOk m ∧ Post (.tup ((srt m.dead).map .str)) M
def spFamLiving (F W : Addr) : ASp := fun ds M Post => ∃ m, ds = [encFam F W m] ∧ FamOk m ∧ Post (.tup ((srt m.living).map .str)) M
def spFamWillOf (F W : Addr) : ASp := fun ds M Post => ∃ m n sh, ds = [encFam F W m, .str n] ∧ FamOk m ∧ m.wl n = some sh ∧ Post (encWill W sh) M
def spFamWithFact (F W : Addr) : ASp := fun ds M Post => ∃ (m : Fam) (a b : Str), ds = [encFam F W m, .str a, .str b] ∧ FamOk m ∧ a ∈ m.dead ∧ b ∈ m.dead ∧ FamOk { m with facts := m.facts ++ [(a, b)] } ∧ Post (encFam F W { m with facts := m.facts ++ [(a, b)] }) M
def Fam.add (m n : Fam) : Fam := ⟨m.people ++ n.people, m.wills ++ n.wills, m.facts ++ n.facts⟩
def spFamAdd (F W : Addr) : ASp := fun ds M Post => ∃ m n : Fam, ds = [encFam F W m, encFam F W n] ∧ FamOk m ∧ FamOk n ∧ FamOk (m.add n) ∧ Post (encFam F W (m.add n)) M
section
variable {P : Program} {w : World} {K : PySem.W.Frag} {mg : Str → Option Value} {base : Heap}
theorem ok_famInit {f F W : Addr} {fd : FuncData} {dvs : List V} {kws : List (Str × V)} (Fn : FunD K "__init__" "Family.__init__" (defArgs sFamInit) (defBody sFamInit) (defScope sFamInit) dvs kws f fd) (g : Glb mg) (C : FamCls K F W) (hP : Has ⟨P, w, K, mg, base⟩ 3 "are_people" spArePeople) (hW : Has ⟨P, w, K, mg, base⟩ 4 "are_wills" (spAreWills W)) (hF : Has ⟨P, w, K, mg, base⟩ 3 "are_facts" spAreFacts) (hR : Has ⟨P, w, K, mg, base⟩ 1 "has_ring" spHasRing) :
    FnOk P w K mg base CX0 5 f fd ["self", "people", "wills", "facts"] (spA (spFamInit F W)) := by
  refine fn_absD (k := 4) Fn scFamInit (fun ds M Post h => ?_) (fun cdv A outer s H E hr ds M Post h => ?_)
  · obtain ⟨a, _, _, _, _, rfl, _⟩ := h
    rfl
  · obtain ⟨q, dp, dw, df, m, rfl, hq, hp, hw, hf, hm, post⟩ := h
    have hr3 : Room 3 _ := hr.mono (by decide)
    have hr1 : Room 1 _ := hr.mono (by decide)
    have l1 := hm.pp.few
    have l2 := hm.wi.few
    have en : D.lst (m.people.map fun p => D.str p.1) = encNs m.names := by
      unfold encNs Fam.names
      rw [List.map_map]
      rfl
    have ed : D.lst (m.wills.map fun p => D.str p.1) = encNs m.dead := by
      unfold encNs Fam.dead
      rw [List.map_map]
      rfl
    refine ab_cons (as_if (at_not (at_val (ae_call hP hr3 rfl (aa_cons (ae_var 1 rfl (aa_nil ⟨dp, m.people, rfl, hp.seq, hm.pp, true, rfl, fun q => (nomatch q), fun _ => ?_⟩)))))))
    refine ab_nil (ab_cons (as_if (at_not (at_val (ae_call hW hr rfl (aa_cons (ae_var 2 rfl (aa_cons ?_))))))))
    refine ae_L [("name", 5), ("amount", 6)] rfl scFamInit.nd (blkOk_by (by kernel_rfl)) (al_map m.people encPe (fun p => D.str p.1) ?_)
    refine ai_seq (ae_var 1 rfl ⟨_, hp.seq, rfl, by omega, hp.seq, fun x hx s H C cl fp => ?_, ?_⟩)
    · refine agc_two 5 6 (fun s H C cl fp => ?_) (by decide) (by decide) rfl scFamInit.nd
      exact ae_var 5 rfl ⟨rfl, rfl⟩
    refine aa_nil ⟨dw, m.wills, m.names, ?_, hw.seq, by unfold Fam.names; rw [List.length_map]; omega, hm.wi, true, rfl, fun q => (nomatch q), fun _ => ?_⟩
    · rw [en]
    refine ab_nil (ab_cons (as_setL 4 [("name", 5), ("will", 7)] rfl scFamInit.nd (blkOk_by (by kernel_rfl)) (al_map m.wills (encWi W) (fun p => D.str p.1) ?_)))
    refine ai_seq (ae_var 2 rfl ⟨_, hw.seq, rfl, by omega, hw.seq, fun x hx s H C cl fp => ?_, ?_⟩)
    · refine agc_two 5 7 (fun s H C cl fp => ?_) (by decide) (by decide) rfl scFamInit.nd
      exact ae_var 5 rfl ⟨rfl, rfl⟩
    rw [ed]
    refine ab_cons (as_if (at_not (at_val (ae_call hF hr3 rfl (aa_cons (ae_var 3 rfl (aa_cons (ae_var 4 rfl (aa_nil ⟨df, m.facts, m.dead, rfl, hf.seq, hm.fa, true, rfl, fun q => (nomatch q), fun _ => ?_⟩)))))))))
    refine ab_nil (ab_cons (as_if (at_val (ae_call hR hr1 rfl (aa_cons (ae_var 4 rfl (aa_cons (ae_var 3 rfl (aa_nil ⟨df, m.facts, m.dead, rfl, hf.seq, hm.fa, ?_, fun x hx => ?_, false, rfl, fun q => (nomatch q), fun _ => ?_⟩)))))))))
    · unfold Fam.dead
      rw [List.length_map]
      exact l2
    · obtain ⟨y, hy, rfl⟩ := List.mem_map.mp hx
      obtain ⟨z, hz, e⟩ := List.mem_map.mp (hm.wi.in_ y hy)
      rw [← e]
      exact (hm.pp.ok z hz).ok
    refine ab_nil (ab_cons (as_fld ?_))
    refine ae_callTy call_tuple_of rfl g.tuple boot_tuple' (aa_cons (ae_var 1 rfl (aa_nil (rc_tupleOf hp (ae_var 0 rfl ⟨q, F, [], rfl, hq, C.cl, C.p, by decide, ?_⟩)))))
    refine ab_cons (as_fld ?_)
    refine ae_callTy call_tuple_of rfl g.tuple boot_tuple' (aa_cons (ae_var 2 rfl (aa_nil (rc_tupleOf (hw.upd hq) (ae_var 0 rfl ⟨q, F, _, rfl, updM_same, C.cl, C.w, Nat.le_of_ble_eq_true rfl, ?_⟩)))))
    rw [updM_upd]
    refine ab_one (as_fld ?_)
    refine ae_callTy call_tuple_of rfl g.tuple boot_tuple' (aa_cons (ae_var 3 rfl (aa_nil (rc_tupleOf (hf.upd hq) (ae_var 0 rfl ⟨q, F, _, rfl, updM_same, C.cl, C.f, ?_, ?_⟩)))))
    · exact Nat.le_of_ble_eq_true rfl
    · rw [updM_upd, put3]
      exact post
theorem ok_famDead {f F W : Addr} {fd : FuncData} (Fn : Fun K "dead" "Family.dead" sFamDead f fd) (g : Glb mg) (C : FamCls K F W) : FnOk P w K mg base CX0 1 f fd ["self"] (spA (spFamDead F W)) := by
  refine fn_abs (k := 0) Fn scFamDead (fun ds M Post h => ?_) (fun cdv A outer s H E hr ds M Post h => ?_)
  · obtain ⟨a, rfl, _⟩ := h
    rfl
  · obtain ⟨m, rfl, hm, post⟩ := h
    have l2 := hm.wi.few
    have ed : D.lst (m.wills.map fun p => D.str p.1) = .lst (m.dead.map .str) := by
      unfold Fam.dead
      rw [List.map_map]
      rfl
    have ld : m.dead.length < 64 := by
      unfold Fam.dead
      rw [List.length_map]
      omega
    refine ab_one (as_ret (ae_callTy call_tuple_of rfl g.tuple boot_tuple' (aa_cons ?_)))
    refine ae_callB cr_sortedS rfl g.sorted boot_sorted' (aa_cons ?_)
    refine ae_L [("name", 1), ("will", 2)] rfl scFamDead.nd (blkOk_by (by kernel_rfl)) (al_map m.wills (encWi W) (fun p => D.str p.1) ?_)
    refine ai_seq (ae_fld (ae_var 0 rfl ⟨F, _, _, .inl rfl, C.cl, C.w, rfl, _, .inr (.inl rfl), rfl, by omega, .inr (.inl rfl), fun x hx s H C cl fp => ?_, ?_⟩))
    · refine agc_two 1 2 (fun s H C cl fp => ?_) (by decide) (by decide) rfl scFamDead.nd
      exact ae_var 1 rfl ⟨rfl, rfl⟩
    · refine aa_nil (rc_sorted (ns := m.dead) ed ld fun ys hp hs => aa_nil (rc_tupleOf (.inl rfl) ?_))
      rw [srt_eq hp hs]
      exact post
theorem ok_famLiving {f F W : Addr} {fd : FuncData} (Fn : Fun K "living" "Family.living" sFamLiving f fd) (g : Glb mg) (C : FamCls K F W) (hD : HasP ⟨P, w, K, mg, base⟩ 1 F "dead" (spFamDead F W)) : FnOk P w K mg base CX0 3 f fd ["self"] (spA (spFamLiving F W)) := by
  refine fn_abs (k := 2) Fn scFamLiving (fun ds M Post h => ?_) (fun cdv A outer s H E hr ds M Post h => ?_)
  · obtain ⟨a, rfl, _⟩ := h
    rfl
  · obtain ⟨m, rfl, hm, post⟩ := h
    have l1 := hm.pp.few
    have ed : D.lst ((m.people.filter fun p => !decide (p.1 ∈ srt m.dead)).map fun p => D.str p.1) = .lst (m.living.map .str) := by
      unfold Fam.living Fam.names
      rw [List.filter_map, List.map_map]
      congr 1
      refine congrArg (fun l => List.map _ l) (List.filter_congr fun p _ => ?_)
      simp only [Function.comp, mem_srt]
    have ld : m.living.length < 64 := by
      unfold Fam.living Fam.names
      refine Nat.lt_of_le_of_lt (List.length_filter_le _ _) ?_
      rw [List.length_map]
      omega
    refine ab_cons (as_set 1 (ae_prop hD C.cl hr (ae_var 0 rfl ⟨_, .inl rfl, m, rfl, hm, ?_⟩)) scFamLiving.nd)
    refine ab_one (as_ret (ae_callTy call_tuple_of rfl g.tuple boot_tuple' (aa_cons ?_)))
    refine ae_callB cr_sortedS rfl g.sorted boot_sorted' (aa_cons ?_)
    refine ae_L [("name", 2), ("amount", 3)] rfl scFamLiving.nd (blkOk_by (by kernel_rfl)) (al_filter m.people encPe (fun p => D.str p.1) (fun p => !decide (p.1 ∈ srt m.dead)) ?_)
    refine ai_seq (ae_fld (ae_var 0 rfl ⟨F, _, _, .inl rfl, C.cl, C.p, rfl, _, .inr (.inl rfl), rfl, by omega, .inr (.inl rfl), fun x hx s H C cl fp => ?_, ?_⟩))
    · refine agc_two 2 3 (fun s H C cl fp => ?_) (by decide) (by decide) rfl scFamLiving.nd
      exact at_cmp op_notIn_seq (by rfl) (ae_var 2 rfl (ae_var 1 rfl (rr_in (l := srt m.dead) (.inr (.inl rfl)) ⟨_, rfl, rfl, rfl, fun _ s H C cl fp => ae_var 2 rfl ⟨rfl, rfl⟩⟩)))
    · refine aa_nil (rc_sorted (ns := m.living) ed ld fun ys hp hs => aa_nil (rc_tupleOf (.inl rfl) ?_))
      rw [srt_eq hp hs]
      exact post
theorem ok_famWillOf {f F W : Addr} {fd : FuncData} (Fn : Fun K "will_of" "Family.will_of" sFamWillOf f fd) (g : Glb mg) (C : FamCls K F W) : FnOk P w K mg base CX0 1 f fd ["self", "name"] (spA (spFamWillOf F W)) := by
  refine fn_abs (k := 0) Fn scFamWillOf (fun ds M Post h => ?_) (fun cdv A outer s H E hr ds M Post h => ?_)
  · obtain ⟨a, _, _, rfl, _⟩ := h
    rfl
  · obtain ⟨m, n, sh, rfl, hm, hn, post⟩ := h
    refine ab_cons (as_for (ai_seq (ae_fld (ae_var 0 rfl ⟨F, _, _, .inl rfl, C.cl, C.w, rfl, _, .inr (.inl rfl), fun i ρ' M' => ∃ (o2 o3 : Option D), ρ' = [some (encFam F W m), some (.str n), o2, o3] ∧ M' = M ∧ ∀ x ∈ m.wills.take i, x.1 ≠ n, ?_, ?_, ?_, ?_⟩))))
    · exact ⟨none, none, rfl, rfl, fun x hx => by simp at hx⟩
    · rintro i ρ' M' _
      exact .inr (.inl rfl)
    · rintro i x ρ' M' hx ⟨o2, o3, rfl, rfl, hno⟩
      rw [List.getElem?_map] at hx
      obtain ⟨y, hy, rfl⟩ := Option.map_eq_some_iff.mp hx
      refine ag_two 2 3 ?_ rfl scFamWillOf.nd
      refine ab_one (as_if (at_w (aw_and (at_val ?_))))
      refine ae_isi g rfl rfl g.str boot_str' kit_ss (ae_var 1 rfl ⟨ty_str, true, rfl, fun _ => ?_, fun q => nomatch q⟩)
      refine aw_and1 (at_cmp op_eq (nomark _) (ae_var 2 rfl (ae_var 1 rfl (rr_eqS ⟨_, rfl, fun q => ?_, fun q => ?_⟩))))
      · refine ab_one (as_ret (ae_var 3 rfl ?_))
        have e1 : y.1 = n := of_decide_eq_true q
        have e2 : getA m.wills n = some y.2 := getA_of_mem hm.wi.nd (by rw [← e1]; exact List.mem_of_getElem? hy)
        rw [show getA m.wills n = some sh from hn] at e2
        cases e2
        exact post
      · refine ab_nil ⟨_, _, rfl, rfl, fun z hz => ?_⟩
        rw [take_next hy] at hz
        rcases List.mem_append.mp hz with hz | hz
        · exact hno z hz
        · rw [List.mem_singleton.mp hz]
          exact of_decide_eq_false q
    · rintro ρ' M' ⟨o2, o3, rfl, rfl, hno⟩
      rw [List.length_map, List.take_length] at hno
      exact absurd rfl (hno _ (mem_of_getA hn))
theorem ok_famWithFact {f F W : Addr} {fd : FuncData} (Fn : Fun K "with_fact" "Family.with_fact" sFamWithFact f fd) (g : Glb mg) (C : FamCls K F W) (hO : HasM ⟨P, w, K, mg, base⟩ 1 F "will_of" (spFamWillOf F W)) (hM : HasK ⟨P, w, K, mg, base⟩ 5 "Family" F (spFamInit F W)) :
    FnOk P w K mg base CX0 7 f fd ["self", "first", "then"] (spA (spFamWithFact F W)) := by
  refine fn_abs (k := 6) Fn scFamWithFact (fun ds M Post h => ?_) (fun cdv A outer s H E hr ds M Post h => ?_)
  · obtain ⟨a, _, _, rfl, _⟩ := h
    rfl
  · obtain ⟨m, a, b, rfl, hm, ha, hb, hm2, post⟩ := h
    have hr1 : Room 1 _ := hr.mono (by decide)
    have wl : ∀ x ∈ m.dead, ∃ sh, m.wl x = some sh := fun x hx => by
      cases e : m.wl x with
      | some sh => exact ⟨sh, rfl⟩
      | none => exact absurd hx (getA_none.mp e)
    obtain ⟨s1, e1⟩ := wl a ha
    obtain ⟨s2, e2⟩ := wl b hb
    have l3 := hm.fa.few
    refine ab_cons (as_expr (ae_meth hO C.cl hr1 (ae_var 0 rfl ⟨_, .inl rfl, rfl, aa_cons (ae_var 1 rfl (aa_nil ⟨m, a, s1, rfl, hm, e1, ?_⟩))⟩)))
    refine ab_cons (as_expr (ae_meth hO C.cl hr1 (ae_var 0 rfl ⟨_, .inl rfl, rfl, aa_cons (ae_var 2 rfl (aa_nil ⟨m, b, s2, rfl, hm, e2, ?_⟩))⟩)))
    refine ab_one (as_ret (ae_make hM hr rfl (aa_cons (ae_fld (ae_var 0 rfl ⟨F, _, _, .inl rfl, C.cl, C.p, rfl, ?_⟩)))))
    refine aa_cons (ae_fld (ae_var 0 rfl ⟨F, _, _, .inl rfl, C.cl, C.w, rfl, ?_⟩))
    refine aa_cons (ae_tup (aa_star (ae_fld (ae_var 0 rfl ⟨F, _, _, .inl rfl, C.cl, C.f, rfl, _, .inr (.inl rfl), ?_⟩))))
    refine aa_cons (ae_tup (aa_cons (ae_var 1 rfl (aa_cons (ae_var 2 rfl (aa_nil ⟨Nat.le_of_ble_eq_true rfl, aa_nil ⟨?_, aa_nil fun q hq => ?_⟩⟩))))))
    · rw [List.length_append, List.length_map]
      simp
      omega
    · refine ⟨q, _, _, _, { m with facts := m.facts ++ [(a, b)] }, rfl, updM_same, .inr rfl, .inr rfl, .inr ?_, hm2, rfl, _, updM_same, ?_⟩
      · show D.tup (m.facts.map encFa ++ [_]) = D.tup ((m.facts ++ [(a, b)]).map encFa)
        rw [List.map_append]
        rfl
      · rw [updM_upd, delM_upd hq]
        exact post
theorem ok_famAdd {f F W : Addr} {fd : FuncData} (Fn : Fun K "__add__" "Family.__add__" sFamAdd f fd) (g : Glb mg) (C : FamCls K F W) (iF : C8.InsC K F) (hF : mg "Family" = some (.ref F)) (hM : HasK ⟨P, w, K, mg, base⟩ 5 "Family" F (spFamInit F W)) :
    FnOk P w K mg base CX0 7 f fd ["self", "other"] (spA (spFamAdd F W)) := by
  refine fn_abs (k := 6) Fn scFamAdd (fun ds M Post h => ?_) (fun cdv A outer s H E hr ds M Post h => ?_)
  · obtain ⟨a, _, rfl, _⟩ := h
    rfl
  · obtain ⟨m, n, rfl, hm, hn, hmn, post⟩ := h
    have l1 := hm.pp.few
    have l2 := hm.wi.few
    have l3 := hm.fa.few
    have k1 := hn.pp.few
    have k2 := hn.wi.few
    have k3 := hn.fa.few
    refine ab_cons (as_if (at_not (at_val ?_)))
    refine ae_callB (C8.call_isC iF) rfl g.isinstance boot_isinstance (aa_cons (ae_var 1 rfl (aa_cons (ae_globC rfl hF (aa_nil (rc_isC (.inl rfl) ⟨true, rfl, fun q => (nomatch q), fun _ => ?_⟩))))))
    refine ab_nil (ab_one (as_ret (ae_make hM hr rfl (aa_cons ?_))))
    refine ae_bin op_catA (ae_fld (ae_var 0 rfl ⟨F, _, _, .inl rfl, C.cl, C.p, rfl, ae_fld (ae_var 1 rfl ⟨F, _, _, .inl rfl, C.cl, C.p, rfl, rr_catT (by rw [List.length_map, List.length_map]; omega) (aa_cons ?_)⟩)⟩))
    refine ae_bin op_catA (ae_fld (ae_var 0 rfl ⟨F, _, _, .inl rfl, C.cl, C.w, rfl, ae_fld (ae_var 1 rfl ⟨F, _, _, .inl rfl, C.cl, C.w, rfl, rr_catT (by rw [List.length_map, List.length_map]; omega) (aa_cons ?_)⟩)⟩))
    refine ae_bin op_catA (ae_fld (ae_var 0 rfl ⟨F, _, _, .inl rfl, C.cl, C.f, rfl, ae_fld (ae_var 1 rfl ⟨F, _, _, .inl rfl, C.cl, C.f, rfl, rr_catT (by rw [List.length_map, List.length_map]; omega) (aa_nil fun q hq => ?_)⟩)⟩))
    refine ⟨q, _, _, _, m.add n, rfl, updM_same, .inr ?_, .inr ?_, .inr ?_, hmn, rfl, _, updM_same, ?_⟩
    · rw [← List.map_append]
      rfl
    · rw [← List.map_append]
      rfl
    · rw [← List.map_append]
      rfl
    · rw [updM_upd, delM_upd hq]
      exact post
end
end Hr
set_option Elab.async false
set_option linter.all false
set_option maxRecDepth 100000
set_option maxHeartbeats 4000000
set_option exponentiation.threshold 300000
/-! HeirM2: the run of deaths: who is there, sizes (plain). -/
namespace Hr
open PySem L2
theorem giveH_some (h : Held) (a : Fr) (pt : Str → Option Fr) (k : Str) : (giveH h a pt k).isSome = (h k).isSome := by
  unfold giveH
  cases pt k with
  | none => rfl
  | some p => cases h k <;> rfl
theorem stepH_some (wl : Str → Option (List Share)) (h : Held) (n k : Str) : (stepH wl h n k).isSome = ((h k).isSome && !decide (k = n)) := by
  unfold stepH
  rw [giveH_some]
  unfold dropH
  by_cases e : k = n
  · simp [e]
  · simp [e]
theorem runH_some (wl : Str → Option (List Share)) : ∀ (o : List Str) (h : Held) (k : Str), (runH wl h o k).isSome = ((h k).isSome && !decide (k ∈ o))
  | [], h, k => by simp [runH]
  | n :: o, h, k => by
    show (runH wl (stepH wl h n) o k).isSome = _
    rw [runH_some wl o, stepH_some]
    by_cases e : k = n
    · simp [e]
    · simp [e]
theorem runH_take {wl : Str → Option (List Share)} {h : Held} {o : List Str} {i : Nat} {n : Str} (hn : o[i]? = some n) : runH wl h (o.take (i + 1)) = stepH wl (runH wl h (o.take i)) n := by
  rw [take_next hn]
  unfold runH
  rw [List.foldl_append]
  rfl
def dB (t : Nat) : Nat := 2 ^ (20 * (2 ^ t - 1))
def vB (t : Nat) : Nat := 2 ^ (40 + 2 * t)
theorem dB_succ (t : Nat) : dB t * (dB t * 2 ^ 20) = dB (t + 1) := by
  unfold dB
  rw [← Nat.pow_add, ← Nat.pow_add]
  congr 1
  have h1 : 2 ^ (t + 1) = 2 * 2 ^ t := by rw [Nat.pow_succ, Nat.mul_comm]
  have h2 : 0 < 2 ^ t := Nat.pow_pos (by decide)
  rw [h1]
  omega
theorem vB_succ (t : Nat) : vB t + vB t * 3 = vB (t + 1) := by
  unfold vB
  have h1 : 2 ^ (40 + 2 * (t + 1)) = 2 ^ (40 + 2 * t) * 4 := by
    rw [show 40 + 2 * (t + 1) = (40 + 2 * t) + 2 from by omega, Nat.pow_add]
  rw [h1]
  omega
theorem dB_mono {s t : Nat} (h : s ≤ t) : dB s ≤ dB t := by
  unfold dB
  refine Nat.pow_le_pow_right (by decide) ?_
  have : 2 ^ s ≤ 2 ^ t := Nat.pow_le_pow_right (by decide) h
  omega
theorem vB_mono {s t : Nat} (h : s ≤ t) : vB s ≤ vB t := Nat.pow_le_pow_right (by decide) (by omega)
theorem dB_pos (t : Nat) : 1 ≤ dB t := Nat.one_le_pow _ _ (by decide)
/-- all that is held is small -/
def HB (t : Nat) (h : Held) : Prop := ∀ k f, h k = some f → Bd (dB t) (vB t) f
theorem HB.get {t : Nat} {h : Held} (hb : HB t h) (n : Str) : Bd (dB t) (vB t) ((h n).getD (0, 1)) := by
  cases e : h n with
  | none => exact bd_zero.mono (dB_pos t) (Nat.zero_le _)
  | some f => exact hb n f e
theorem more_bd {t : Nat} {a p : Fr} (ha : Bd (dB t) (vB t) a) (hp : Bd (2 ^ 20) 3 p) : Bd (dB t * 2 ^ 20) (vB t * 3) (timesF a p) := ha.times hp
theorem step_bd {t : Nat} {h : Held} {wl : Str → Option (List Share)} {n : Str} {sh : List Share} (hb : HB t h) (hw : wl n = some sh) (hs : ShB sh) : HB (t + 1) (stepH wl h n) := by
  intro k f hf
  unfold stepH giveH at hf
  have hd : ∀ g, dropH h n k = some g → Bd (dB t) (vB t) g := fun g hg => by
    unfold dropH at hg
    split at hg
    · cases hg
    · exact hb k g hg
  rw [hw] at hf
  cases e : partOf ((some sh).getD []) (aliveH (dropH h n)) k with
  | none =>
    rw [e] at hf
    exact (hd f hf).mono (dB_mono (Nat.le_succ t)) (vB_mono (Nat.le_succ t))
  | some p =>
    rw [e] at hf
    obtain ⟨g, hg, rfl⟩ := Option.map_eq_some_iff.mp hf
    have := (hd g hg).plus (more_bd (hb.get n) (part_bd hs e))
    rw [dB_succ, vB_succ] at this
    exact this
theorem run_bd {wl : Str → Option (List Share)} : ∀ (o : List Str) (t : Nat) (h : Held), HB t h → (∀ n ∈ o, ∃ sh, wl n = some sh ∧ ShB sh) → HB (t + o.length) (runH wl h o)
  | [], t, h, hb, _ => hb
  | n :: o, t, h, hb, hw => by
    obtain ⟨sh, e1, e2⟩ := hw n List.mem_cons_self
    have := run_bd o (t + 1) (stepH wl h n) (step_bd hb e1 e2) fun x hx => hw x (List.mem_cons_of_mem _ hx)
    rw [List.length_cons, show t + (o.length + 1) = t + 1 + o.length from by omega]
    exact this
theorem dB8 {t : Nat} (h : t ≤ 8) : dB t < 2 ^ 9000 := by
  refine Nat.lt_of_le_of_lt (dB_mono h) ?_
  unfold dB
  exact Nat.pow_lt_pow_right (by decide) (by decide)
theorem vd8 {t : Nat} (h : t ≤ 8) : vB t * dB t < 2 ^ 100000 := by
  refine Nat.lt_of_le_of_lt (Nat.mul_le_mul (vB_mono h) (dB_mono h)) ?_
  unfold dB vB
  rw [← Nat.pow_add]
  exact Nat.pow_lt_pow_right (by decide) (by decide)
theorem frok_times {t : Nat} (h : t < 8) {a p : Fr} (ha : Bd (dB t) (vB t) a) (hp : Bd (2 ^ 20) 3 p) : FrOk a p := by
  refine ha.frok hp ?_ (vd8 (by omega)) ?_
  · refine Nat.lt_of_le_of_lt (Nat.le_mul_of_pos_left _ (dB_pos t)) ?_
    rw [dB_succ]
    exact dB8 (by omega)
  · exact Nat.lt_of_lt_of_le (by decide : 3 * 2 ^ 20 < 2 ^ 30) (Nat.pow_le_pow_right (by decide) (by decide))
theorem frok_plus {t : Nat} (h : t < 8) {a b : Fr} (ha : Bd (dB t) (vB t) a) (hb : Bd (dB t * 2 ^ 20) (vB t * 3) b) : FrOk a b := by
  refine ha.frok hb ?_ (vd8 (by omega)) ?_
  · rw [dB_succ]
    exact dB8 (by omega)
  · refine Nat.lt_of_le_of_lt ?_ (vd8 (t := t + 1) (by omega))
    refine Nat.mul_le_mul ?_ ?_
    · rw [← vB_succ]
      exact Nat.le_add_left _ _
    · rw [← dB_succ]
      exact Nat.le_mul_of_pos_left _ (dB_pos t)
end Hr
set_option Elab.async false
set_option linter.all false
set_option maxRecDepth 100000
set_option maxHeartbeats 4000000
set_option exponentiation.threshold 300000
/-! HeirO1: orders: first_fault, need_order, is_order. -/
namespace Hr
open PySem L2
open PyProof.Rows (sortedS envOfC)
abbrev sFault : Stmt := top 22
abbrev sNeed : Stmt := top 23
abbrev sHours : Stmt := top 24
abbrev sBehind : Stmt := top 25
abbrev sTold : Stmt := top 26
abbrev sIsOrder : Stmt := top 27
abbrev sPaid : Stmt := top 28
abbrev sSteps : Stmt := top 29
theorem scFault : FnScope ["family", "value", "gone", "at", "name", "first", "then"] ["family", "value"] (defScope sFault) := ⟨rfl, rfl, rfl, by decide +kernel, rfl, by decide +kernel, by decide +kernel⟩
theorem scNeed : FnScope ["family", "value", "at"] ["family", "value"] (defScope sNeed) := ⟨rfl, rfl, rfl, by decide +kernel, rfl, by decide +kernel, by decide +kernel⟩
theorem scIsOrder : FnScope ["family", "value"] ["family", "value"] (defScope sIsOrder) := ⟨rfl, rfl, rfl, by decide +kernel, rfl, by decide +kernel, by decide +kernel⟩
structure OrdOk (m : Fam) (o : List Str) : Prop where
  nd : o.Nodup
  mem : ∀ d, d ∈ o ↔ d ∈ m.dead
  kp : Keeps o m.facts
theorem OrdOk.len {m : Fam} {o : List Str} (h : OrdOk m o) (hn : m.dead.Nodup) : o.length = m.dead.length :=
  Nat.le_antisymm (len_le_of_sub h.nd fun x hx => (h.mem x).mp hx) (len_le_of_sub hn fun x hx => (h.mem x).mpr hx)
theorem IsSeq.upd {M : Mm} {d : D} {ds : List D} {q : Addr} {e : D} (h : IsSeq M d ds) (hq : M q = none) : IsSeq (updM M q e) d ds := by
  rcases h with h | h
  · left
    cases d with
    | adr p =>
      have h' : (M p).getD (.adr p) = .lst ds := h
      have hne : p ≠ q := fun z => by
        rw [z, hq] at h'
        cases h'
      show (updM M q e p).getD (.adr p) = .lst ds
      rw [updM_ne hne]
      exact h'
    | _ => exact h
  · exact .inr h
/-- the first name is one that a fact wants behind another -/
def Bad (m : Fam) (o : List Str) : Prop := ∃ x r, o = x :: r ∧ x ∈ m.dead ∧ ∃ f ∈ m.facts, f.2 = x
def spFault (F W : Addr) : ASp := fun ds M Post => ∃ m d o, ds = [encFam F W m, d] ∧ IsSeq M d (o.map .str) ∧ FamOk m ∧ o.length ≤ 30 ∧ ((OrdOk m o ∧ Post .non M) ∨ (Bad m o ∧ Post (.int 0) M))
def spNeed (F W : Addr) : ASp := fun ds M Post => ∃ m d o, ds = [encFam F W m, d] ∧ IsSeq M d (o.map .str) ∧ FamOk m ∧ o.length ≤ 30 ∧ OrdOk m o ∧ Post .non M
def spIsOrder (F W : Addr) : ASp := fun ds M Post => ∃ m d o, ds = [encFam F W m, d] ∧ IsSeq M d (o.map .str) ∧ FamOk m ∧ o.length ≤ 30 ∧ ((OrdOk m o ∧ Post (.bl true) M) ∨ (Bad m o ∧ Post (.bl false) M))
theorem keeps_take {o : List Str} {fa : List (Str × Str)} (nd : o.Nodup) (h : Keeps o fa) {i : Nat} {x : Str} (hx : o[i]? = some x) {f : Str × Str} (hf : f ∈ fa) (e : f.2 = x) : f.1 ∈ o.take i := by
  obtain ⟨a, b, e1, e2, hab⟩ := h f hf
  rw [e] at e2
  have hb : b = i := (List.getElem?_inj (List.getElem?_eq_some_iff.mp e2).1 nd).mp (e2.trans hx.symm)
  have ha : (o.take i)[a]? = some f.1 := by
    rw [List.getElem?_take_of_lt (by omega)]
    exact e1
  exact List.mem_of_getElem? ha
section
variable {P : Program} {w : World} {K : PySem.W.Frag} {mg : Str → Option Value} {base : Heap}
theorem ok_fault {f F W : Addr} {fd : FuncData} (Fn : Fun K "first_fault" "first_fault" sFault f fd) (g : Glb mg) (C : FamCls K F W) (hS : Has ⟨P, w, K, mg, base⟩ 1 "is_sequence" spIsSequence) (hD : HasP ⟨P, w, K, mg, base⟩ 1 F "dead" (spFamDead F W)) :
    FnOk P w K mg base CX0 3 f fd ["family", "value"] (spA (spFault F W)) := by
  refine fn_abs (k := 2) Fn scFault (fun ds M Post h => ?_) (fun cdv A outer s H E hr ds M Post h => ?_)
  · obtain ⟨a, _, _, rfl, _⟩ := h
    rfl
  · obtain ⟨m, d, o, rfl, hd, hm, hol, hcase⟩ := h
    have hr1 : Room 1 _ := hr.mono (by decide)
    have l3 := hm.fa.few
    refine ab_cons (as_if (at_not (at_val (ae_call hS hr1 rfl (aa_cons (ae_var 1 rfl (aa_nil ⟨d, _, rfl, hd, true, rfl, fun q => (nomatch q), fun _ => ?_⟩)))))))
    refine ab_nil (ab_cons (as_set 2 (ae_lstO (aa_nil ⟨Nat.le_of_ble_eq_true rfl, fun q hq => ?_⟩)) scFault.nd))
    refine ab_cons (as_for (ai_enum rfl g.enumerate (ae_var 1 rfl ⟨_, hd.upd hq, fun i ρ' M' => ∃ (o3 o4 : Option D), ρ' = [some (encFam F W m), some d, some (.adr q), o3, o4, none, none] ∧ M' = updM M q (.lst ((o.take i).map .str)) ∧ (¬ OrdOk m o → i = 0), ?_, ?_, ?_, ?_⟩)))
    · exact ⟨none, none, rfl, rfl, fun _ => rfl⟩
    · rintro i ρ' M' ⟨o3, o4, rfl, rfl, _⟩
      exact hd.upd hq
    · rintro i x ρ' M' hx ⟨o3, o4, rfl, rfl, hi0⟩
      rw [enumD_get, List.getElem?_map, Option.map_map] at hx
      obtain ⟨n, hn, rfl⟩ := Option.map_eq_some_iff.mp hx
      have hnd : n ∈ m.dead := by
        rcases hcase with ⟨h1, _⟩ | ⟨⟨x, r, rfl, h1, _⟩, _⟩
        · exact (h1.mem n).mp (List.mem_of_getElem? hn)
        · by_cases h2 : OrdOk m (x :: r)
          · exact (h2.mem n).mp (List.mem_of_getElem? hn)
          · rw [hi0 h2] at hn
            simp at hn
            exact hn ▸ h1
      have hng : n ∉ o.take i := by
        by_cases h2 : OrdOk m o
        · exact nodup_take h2.nd hn
        · rw [hi0 h2]
          simp
      refine ag_two 3 4 ?_ rfl scFault.nd
      refine ab_cons (as_if (at_w (aw_or (at_not (at_val ?_)))))
      refine ae_isi g rfl rfl g.str boot_str' kit_ss (ae_var 4 rfl ⟨ty_str, true, rfl, fun _ => ?_, fun q => nomatch q⟩)
      refine aw_or (at_cmp op_notIn_seq (by rfl) (ae_var 4 rfl (ae_prop hD C.cl hr (ae_var 0 rfl ⟨_, .inl rfl, m, rfl, hm, rr_in (l := srt m.dead) (.inr (.inl rfl)) ⟨_, rfl, fun _ => ?_, fun q => ?_⟩⟩))))
      rotate_left
      · have : n ∈ srt m.dead := mem_srt.mpr hnd
        simp [this] at q
      refine aw_or1 (at_cmp op_in_seq (by rfl) (ae_var 4 rfl (ae_var 2 rfl (rr_in (l := o.take i) (.inl (deref_own updM_same)) ⟨_, rfl, fun q => ?_, fun _ => ?_⟩))))
      · exact absurd (of_decide_eq_true q) hng
      refine ab_nil (ab_cons (as_if (at_val (ae_callB (cr_any rfl) rfl g.any boot_any' (aa_cons ?_)))))
      refine ae_L [("first", 5), ("then", 6)] rfl scFault.nd (blkOk_by (by kernel_rfl)) (al_map m.facts encFa (fun f => D.bl (decide (f.2 = n) && !decide (f.1 ∈ o.take i))) ?_)
      refine ai_seq (ae_fld (ae_var 0 rfl ⟨F, _, _, .inl rfl, C.cl, C.f, rfl, _, .inr (.inl rfl), rfl, by omega, .inr (.inl rfl), fun x hx s H C cl fp => ?_, ?_⟩))
      · refine agc_two 5 6 (fun s H C cl fp => ?_) (by decide) (by decide) rfl scFault.nd
        refine ae_and (ae_cmp op_eq (nomark _) (ae_var 6 rfl (ae_var 4 rfl (rr_eqS ⟨_, rfl, fun q => ?_, fun q => ?_⟩))))
        · refine ae_one (ae_cmp op_notIn_seq (by rfl) (ae_var 5 rfl (ae_var 2 rfl (rr_in (l := o.take i) (.inl (deref_own updM_same)) ⟨?_, rfl⟩))))
          rw [q]
          rfl
        · refine ⟨?_, rfl⟩
          rw [q]
          rfl
      refine aa_nil (rc_any (ns := m.facts.map fun f => decide (f.2 = n) && !decide (f.1 ∈ o.take i)) (by rw [List.map_map]; rfl) ⟨_, rfl, fun q => ?_, fun q => ?_⟩)
      · -- a fault here: only the bad case
        have hbad : ¬ OrdOk m o := fun h2 => by
          obtain ⟨b, hb, e⟩ := List.any_eq_true.mp q
          obtain ⟨f, hf, rfl⟩ := List.mem_map.mp hb
          simp only [id, Bool.and_eq_true, decide_eq_true_eq, Bool.not_eq_true', decide_eq_false_iff_not] at e
          exact e.2 (keeps_take h2.nd h2.kp hn hf e.1)
        have hi := hi0 hbad
        subst hi
        rcases hcase with ⟨h1, _⟩ | ⟨_, post⟩
        · exact absurd h1 hbad
        · exact ab_one (as_ret (ae_le (ae_var 3 rfl ⟨_, le_upd hq, post⟩)))
      · refine ab_nil (ab_one (as_expr (ae_bmL PySem.F.plainAttrs_list PySem.F.slot_list_append (by kernel_rfl) mt_append (ae_var 2 rfl ⟨⟨_, deref_own updM_same⟩, aa_cons (ae_var 4 rfl (aa_nil (rm_append updM_same ?_ ?_)))⟩))))
        · rw [List.length_map, List.length_take]
          omega
        · refine ⟨_, _, rfl, ?_, fun h2 => ?_⟩
          · rw [updM_upd, take_next hn, List.map_append]
            rfl
          · exfalso
            have hi := hi0 h2
            subst hi
            rcases hcase with ⟨h1, _⟩ | ⟨⟨x, r, rfl, _, f, hf, e⟩, _⟩
            · exact h2 h1
            · simp at hn
              subst hn
              have := List.any_eq_false.mp q _ (List.mem_map.mpr ⟨f, hf, rfl⟩)
              simp [e] at this
    · rintro ρ' M' ⟨o3, o4, rfl, rfl, hi0⟩
      rw [enumD_len, List.length_map] at hi0
      rw [enumD_len, List.length_map, List.take_length]
      have h2 : OrdOk m o := by
        by_cases h2 : OrdOk m o
        · exact h2
        · have := hi0 h2
          rcases hcase with ⟨h1, _⟩ | ⟨⟨x, r, rfl, _⟩, _⟩
          · exact h1
          · simp at this
      have hpost : Post .non M := by
        rcases hcase with ⟨_, p⟩ | ⟨⟨x, r, rfl, _, f, hf, e⟩, _⟩
        · exact p
        · have := keeps_take h2.nd h2.kp (i := 0) (x := x) rfl hf e
          simp at this
      refine ab_one (as_ret (ae_if (at_cmp op_eq (nomark _) (ae_callB call_len_seq rfl g.len boot_len' (aa_cons (ae_var 2 rfl (aa_nil (rc_len (.inl (deref_own updM_same)) (ae_callB call_len_seq rfl g.len boot_len' (aa_cons (ae_prop hD C.cl hr (ae_var 0 rfl ⟨_, .inl rfl, m, rfl, hm, aa_nil (rc_len (.inr (.inl rfl)) (rr_eqI ⟨_, rfl, fun _ => ?_, fun q => ?_⟩))⟩))))))))))))
      · exact ae_le (ae_non ⟨_, le_upd hq, hpost⟩)
      · rw [List.length_map, List.length_map, srt_len, h2.len hm.wi.nd] at q
        simp at q
theorem ok_need {f F W : Addr} {fd : FuncData} (Fn : Fun K "need_order" "need_order" sNeed f fd) (g : Glb mg) (hF : Has ⟨P, w, K, mg, base⟩ 3 "first_fault" (spFault F W)) : FnOk P w K mg base CX0 4 f fd ["family", "value"] (spA (spNeed F W)) := by
  refine fn_abs (k := 3) Fn scNeed (fun ds M Post h => ?_) (fun cdv A outer s H E hr ds M Post h => ?_)
  · obtain ⟨a, _, _, rfl, _⟩ := h
    rfl
  · obtain ⟨m, d, o, rfl, hd, hm, hol, ho, post⟩ := h
    refine ab_cons (as_set 2 (ae_call hF hr rfl (aa_cons (ae_var 0 rfl (aa_cons (ae_var 1 rfl (aa_nil ⟨m, d, o, rfl, hd, hm, hol, .inl ⟨ho, ?_⟩⟩)))))) scNeed.nd)
    refine ab_one (as_if (at_cmp op_notN (nomark _) (ae_var 2 rfl (ae_non (rr_notN non_non ⟨_, rfl, fun q => (nomatch q), fun _ => ?_⟩)))))
    exact ab_nil post
theorem ok_isOrder {f F W : Addr} {fd : FuncData} (Fn : Fun K "is_order" "is_order" sIsOrder f fd) (g : Glb mg) (hF : Has ⟨P, w, K, mg, base⟩ 3 "first_fault" (spFault F W)) : FnOk P w K mg base CX0 4 f fd ["family", "value"] (spA (spIsOrder F W)) := by
  refine fn_abs (k := 3) Fn scIsOrder (fun ds M Post h => ?_) (fun cdv A outer s H E hr ds M Post h => ?_)
  · obtain ⟨a, _, _, rfl, _⟩ := h
    rfl
  · obtain ⟨m, d, o, rfl, hd, hm, hol, hcase⟩ := h
    refine ab_one (as_ret (ae_cmp op_isN (nomark _) (ae_call hF hr rfl (aa_cons (ae_var 0 rfl (aa_cons (ae_var 1 rfl (aa_nil ⟨m, d, o, rfl, hd, hm, hol, ?_⟩))))))))
    rcases hcase with ⟨h1, post⟩ | ⟨h1, post⟩
    · exact .inl ⟨h1, ae_non (rr_isN non_non post)⟩
    · exact .inr ⟨h1, ae_non (rr_isN non_int post)⟩
end
end Hr
set_option Elab.async false
set_option linter.all false
set_option maxRecDepth 100000
set_option maxHeartbeats 4000000
set_option exponentiation.threshold 300000
/-! HeirO2: held_by_hours. -/
namespace Hr
open PySem L2
open PyProof.Rows (sortedS envOfC)
theorem scHours : FnScope ["family", "hours", "held", "passed", "hour", "gone", "alive", "name", "amount", "given", "heir", "more", "part"] ["family", "hours"] (defScope sHours) := ⟨rfl, rfl, rfl, by decide +kernel, rfl, by decide +kernel, by decide +kernel⟩
/-- what each holds at first -/
def heldO (m : Fam) : Held := fun k => if k = crown then some (0, 1) else (getA m.people k).map fun a => (a, 1)
structure RunOk (m : Fam) (o : List Str) : Prop where
  fam : FamOk m
  am : ∀ p ∈ m.people, p.2 ≤ 2 ^ 40
  nd : o.Nodup
  mem : ∀ x ∈ o, x ∈ m.dead
  few : o.length ≤ 8
def spHours (F W : Addr) : ASp := fun ds M Post => ∃ m o, ds = [encFam F W m, .lst (o.map fun n => .tup [.str n])] ∧ RunOk m o ∧
  ∀ (q : Addr) (l : List (Str × Fr)) (ps : List D), M q = none → (keysA l).Nodup → (∀ k, getA l k = runH m.wl (heldO m) o k) → ps.length = o.length → Post (.tup [.adr q, .lst ps]) (updM M q (.dct (encK encF l)))
theorem putA_fresh {α : Type} {l : List (Str × α)} {k : Str} {d : α} (h : k ∉ keysA l) : putA l k d = l ++ [(k, d)] := by
  unfold putA
  rw [any_keys, decide_eq_false h]
  rfl
def ppl1 (p : Str × Nat) : Str × Fr := (p.1, (p.2, 1))
theorem keys_ppl (l : List (Str × Nat)) : keysA (l.map ppl1) = l.map (·.1) := by
  unfold keysA
  rw [List.map_map]
  rfl
theorem getA_ppl (l : List (Str × Nat)) (k : Str) : getA (l.map ppl1) k = (getA l k).map fun a => (a, 1) := by
  induction l with
  | nil => rfl
  | cons a l ih =>
    rw [List.map_cons, getA_cons, getA_cons, ih]
    show (if a.1 = k then some (a.2, 1) else _) = _
    split <;> rfl
theorem crown_no {m : Fam} (h : FamOk m) : crown ∉ m.names := fun hc => by
  obtain ⟨p, hp, e⟩ := List.mem_map.mp hc
  exact (h.pp.ok p hp).no e
theorem heldO_some {m : Fam} (k : Str) : (heldO m k).isSome = (decide (k = crown) || decide (k ∈ m.names)) := by
  unfold heldO
  by_cases h : k = crown
  · simp [h]
  · rw [if_neg h, Option.isSome_map, getA_isSome, decide_eq_false h, Bool.false_or]
    rfl
theorem heldO_bd {m : Fam} {o : List Str} (h : RunOk m o) : HB 0 (heldO m) := by
  intro k f hf
  unfold heldO at hf
  split at hf
  · cases hf
    exact bd_zero.mono (dB_pos 0) (Nat.zero_le _)
  · obtain ⟨a, ha, rfl⟩ := Option.map_eq_some_iff.mp hf
    refine ⟨Nat.one_pos, dB_pos 0, ?_⟩
    rw [Nat.mul_one]
    exact h.am _ (mem_of_getA ha)
theorem RunOk.wl {m : Fam} {o : List Str} (h : RunOk m o) {x : Str} (hx : x ∈ o) : ∃ sh, m.wl x = some sh ∧ (x, sh) ∈ m.wills ∧ ShB sh := by
  have hd := h.mem x hx
  cases e : m.wl x with
  | none => exact absurd hd (getA_none.mp e)
  | some sh =>
    have := mem_of_getA e
    exact ⟨sh, rfl, this, h.fam.wi.sh _ this⟩
/-- the held at the i-th death -/
abbrev RunOk.at_ (m : Fam) (o : List Str) (i : Nat) : Held := runH m.wl (heldO m) (o.take i)
theorem RunOk.bd {m : Fam} {o : List Str} (h : RunOk m o) (i : Nat) : HB i (RunOk.at_ m o i) ∨ o.length < i := by
  by_cases hi : i ≤ o.length
  · left
    have := run_bd (o.take i) 0 (heldO m) (heldO_bd h) fun n hn => by
      obtain ⟨sh, e1, _, e2⟩ := h.wl (List.mem_of_mem_take hn)
      exact ⟨sh, e1, e2⟩
    rw [Nat.zero_add, List.length_take, Nat.min_eq_left hi] at this
    exact this
  · right
    omega
/-- one heir's share put: the table after the first gifts -/
theorem give_step {l : List (Str × Fr)} {hs : List (Str × Fr)} {i : Nat} {x : Str × Fr} {old : Held} {gift : Fr → Fr} (nd : (keysA hs).Nodup) (hx : hs[i]? = some x) (hin : (old x.1).isSome = true)
    (h : ∀ k, getA l k = if k ∈ (keysA hs).take i then (old k).map fun f => plusF f (gift ((getA hs k).getD (0, 1))) else old k) :
    ∃ f, old x.1 = some f ∧ getA l x.1 = some f ∧ ∀ k, getA (putA l x.1 (plusF f (gift x.2))) k = if k ∈ (keysA hs).take (i + 1) then (old k).map fun f => plusF f (gift ((getA hs k).getD (0, 1))) else old k := by
  obtain ⟨f, hf⟩ := Option.isSome_iff_exists.mp hin
  have hkx : (keysA hs)[i]? = some x.1 := by
    unfold keysA
    rw [List.getElem?_map, hx]
    rfl
  have hnx : x.1 ∉ (keysA hs).take i := nodup_take nd hkx
  refine ⟨f, hf, by rw [h x.1, if_neg hnx, hf], fun k => ?_⟩
  rw [getA_putA, take_next hkx]
  by_cases e : k = x.1
  · subst e
    have e2 : getA hs x.1 = some x.2 := getA_of_mem nd (List.mem_of_getElem? hx)
    rw [if_pos rfl, if_pos (by simp), hf, e2]
    rfl
  · rw [if_neg e, h k]
    simp [e]
section
variable {X : Cx} {ρ : Rh} {M : Mm} {st : Stmt}
/-- a statement that walks a dict -/
theorem as_lock {q : Addr} {l : List (Str × D)} {A : AEnds} (hq : M q = some (.dct l)) (h : AS X st ρ (updM M q (.fdct l)) { nx := fun ρ' M' => A.nx ρ' (updM M' q (.dct l)), rt := fun _ _ => False, bk := fun _ _ => False, ct := fun _ _ => False }) : AS X st ρ M A := fun G H σ Dn n r k => by
  obtain ⟨hg, kvs, h1, h2⟩ := n.own q _ hq
  refine wS_of (ps_lock ps_w) ⟨q, .dK kvs, h1, True.intro, fun od => ?_⟩
  have s0 := Step.write (o := .frz od (.dK kvs)) (d := .fdct l) n hq ⟨od, kvs, upd_same, h2⟩
  refine h G _ σ _ s0.now r ⟨fun ρ' M' σ' G' H' post s1 r1 => ?_, fun _ _ _ _ _ p => p.elim, fun _ _ _ _ _ p => p.elim, fun _ _ _ _ _ p => p.elim⟩
  obtain ⟨z1, z2⟩ := s1.fz q l updM_same
  refine ⟨z2 _ upd_same, ?_⟩
  have st := (s0.trans s1).over (o := .dK kvs) (d := .dct l) hq (fun _ z => by cases z) z1 ⟨kvs, upd_same, h2.mono s1.g⟩
  exact k.nx ρ' _ σ' G' _ post st r1
end
/-- the two own objects of the walk: the table, the list -/
def MM (M : Mm) (q p : Addr) (l : List (Str × Fr)) (ps : List D) : Mm := updM (updM M q (.dct (encK encF l))) p (.lst ps)
section
variable {M : Mm} {q p : Addr} {l l' : List (Str × Fr)} {ps ps' : List D}
theorem MM_q (h : p ≠ q) : MM M q p l ps q = some (.dct (encK encF l)) := by
  unfold MM
  rw [updM_ne (Ne.symm h)]
  exact updM_same
theorem MM_p : MM M q p l ps p = some (.lst ps) := updM_same
theorem MM_setq (h : p ≠ q) : updM (MM M q p l ps) q (.dct (encK encF l')) = MM M q p l' ps := by
  unfold MM
  rw [updM_comm h, updM_upd, updM_comm (Ne.symm h)]
theorem MM_setp : updM (MM M q p l ps) p (.lst ps') = MM M q p l ps' := updM_upd
end
section
variable {P : Program} {w : World} {K : PySem.W.Frag} {mg : Str → Option Value} {base : Heap}
theorem ok_hours {f F W : Addr} {fd : FuncData} (Fn : Fun K "held_by_hours" "held_by_hours" sHours f fd) (g : Glb mg) (C : FamCls K F W) (hT : Has ⟨P, w, K, mg, base⟩ 3 "times" spTimes) (hP : Has ⟨P, w, K, mg, base⟩ 3 "plus" spPlus) (hO : HasM ⟨P, w, K, mg, base⟩ 1 F "will_of" (spFamWillOf F W)) (hH : HasM ⟨P, w, K, mg, base⟩ 4 W "heirs" (spWillHeirs W)) :
    FnOk P w K mg base CX0 5 f fd ["family", "hours"] (spA (spHours F W)) := by
  refine fn_abs (k := 4) Fn scHours (fun ds M Post h => ?_) (fun cdv A outer s H E hr ds M Post h => ?_)
  · obtain ⟨a, _, rfl, _⟩ := h
    rfl
  · obtain ⟨m, o, rfl, hro, post⟩ := h
    have hr3 : Room 3 _ := hr.mono (by decide)
    have hr1 : Room 1 _ := hr.mono (by decide)
    have hr0 : Room 0 _ := hr.mono (by decide)
    have hm := hro.fam
    have l1 := hm.pp.few
    have l8 := hro.few
    refine ab_cons (as_set 2 (ae_dc [("name", 7), ("amount", 8)] rfl scHours.nd (blkOk_by (by kernel_rfl)) ?_) scHours.nd)
    refine ai_seq (ae_fld (ae_var 0 rfl ⟨F, _, _, .inl rfl, C.cl, C.p, rfl, _, .inr (.inl rfl), fun i acc M' => M' = M ∧ i ≤ m.people.length ∧ acc = encK encF ((m.people.take i).map ppl1), ?_, ?_, ?_, ?_, ?_⟩))
    · rw [List.length_map]
      omega
    · exact ⟨rfl, Nat.zero_le _, rfl⟩
    · rintro i acc M' ⟨rfl, hi, rfl⟩
      exact ⟨.inr (.inl rfl), by rw [encK_len, List.length_map, List.length_take]; omega⟩
    · rintro i acc M' d hd ⟨rfl, hi, rfl⟩ s0 H0 C0 cl fp
      rw [List.getElem?_map] at hd
      obtain ⟨p, hp, rfl⟩ := Option.map_eq_some_iff.mp hd
      refine agc_two 7 8 (fun s H C cl fp => ?_) (by decide) (by decide) rfl scHours.nd
      refine ae_var 7 rfl ⟨p.1, rfl, fun s H C cl fp => ae_tup (aa_cons (ae_var 8 rfl (aa_cons (ae_int (aa_nil ⟨Nat.le_of_ble_eq_true rfl, rfl, (List.getElem?_eq_some_iff.mp hp).1, ?_⟩)))))⟩
      show putD (encK encF _) p.1 (encF (p.2, 1)) = _
      rw [putD_enc, putA_fresh, take_next hp, List.map_append]
      · rfl
      · rw [keys_ppl]
        have hkx : (m.people.map (·.1))[i]? = some p.1 := by
          rw [List.getElem?_map, hp]
          rfl
        have := nodup_take hm.pp.nd hkx
        rwa [← List.map_take] at this
    rintro acc M' ⟨rfl, hi, rfl⟩ q hq
    rw [List.length_map, List.take_length]
    refine ab_cons (as_dput hr0 (ae_tup (aa_cons (ae_int (aa_cons (ae_int (aa_nil ⟨Nat.le_of_ble_eq_true rfl, ?_⟩)))))))
    refine ae_var 2 rfl (ae_globS rfl g.crown ⟨q, crown, _, rfl, rfl, updM_same, ?_, ?_⟩)
    · rw [encK_len, List.length_map]
      omega
    have e0 : putD (encK encF (m.people.map ppl1)) crown (.tup [.int 0, .int 1]) = encK encF (putA (m.people.map ppl1) crown (0, 1)) := putD_enc encF _ _ (0, 1)
    rw [updM_upd, e0]
    let l0 : List (Str × Fr) := putA (m.people.map ppl1) crown (0, 1)
    have hl0n : (keysA l0).Nodup := putA_nodup (by rw [keys_ppl]; exact hm.pp.nd) _ _
    have hl0g : ∀ k, getA l0 k = heldO m k := fun k => by
      show getA (putA _ _ _) k = _
      rw [getA_putA, getA_ppl]
      rfl
    have hl0k : ∀ k ∈ keysA l0, k ∈ crown :: m.names := fun k hk => by
      have h2 := getA_isSome l0 k
      rw [decide_eq_true hk, hl0g, heldO_some] at h2
      rcases Bool.or_eq_true_iff.mp h2 with h2 | h2
      · rw [of_decide_eq_true h2]
        exact List.mem_cons_self
      · exact List.mem_cons_of_mem _ (of_decide_eq_true h2)
    refine ab_cons (as_set 3 (ae_lstO (aa_nil ⟨Nat.le_of_ble_eq_true rfl, fun p hp => ?_⟩)) scHours.nd)
    have hpq : p ≠ q := fun z => by
      subst z
      rw [updM_same] at hp
      cases hp
    have hpM : M' p = none := by
      rw [updM_ne hpq] at hp
      exact hp
    have hnl : m.names.length ≤ 30 := by
      unfold Fam.names
      rw [List.length_map]
      exact l1
    have hll : ∀ l : List (Str × Fr), (keysA l).Nodup → (∀ k ∈ keysA l, k ∈ crown :: m.names) → l.length ≤ 31 := fun l h1 h2 => by
      have := len_le_of_sub h1 h2
      rw [show (keysA l).length = l.length from by simp [keysA], List.length_cons] at this
      omega
    -- the state after some deaths
    refine ab_cons (as_for (ai_seq (ae_var 1 rfl ⟨_, .inl rfl, fun i ρ' M2 => ∃ (o4 o5 o6 o7 o8 o9 o10 o11 o12 : Option D) (l : List (Str × Fr)) (ps : List D), ρ' = [some (encFam F W m), some (.lst (o.map fun n => .tup [.str n])), some (.adr q), some (.adr p), o4, o5, o6, o7, o8, o9, o10, o11, o12] ∧
      M2 = MM M' q p l ps ∧ (keysA l).Nodup ∧ (∀ k ∈ keysA l, k ∈ crown :: m.names) ∧ (∀ k, getA l k = RunOk.at_ m o i k) ∧ ps.length = i ∧ i ≤ o.length, ?_, ?_, ?_, ?_⟩)))
    · exact ⟨none, none, none, none, none, none, none, none, none, l0, [], rfl, rfl, hl0n, hl0k, fun k => by rw [hl0g k]; rfl, rfl, Nat.zero_le _⟩
    · rintro i ρ' M2 _
      exact .inl rfl
    · rintro i x ρ' M2 hx ⟨o4, o5, o6, o7, o8, o9, o10, o11, o12, l, ps, rfl, rfl, hln, hlk, hlg, hps, _⟩
      rw [List.getElem?_map] at hx
      obtain ⟨n, hn, rfl⟩ := Option.map_eq_some_iff.mp hx
      have hilt : i < o.length := (List.getElem?_eq_some_iff.mp hn).1
      have hno : n ∈ o := List.mem_of_getElem? hn
      obtain ⟨sh, hwl, hwm, hsh⟩ := hro.wl hno
      have hbd : HB i (RunOk.at_ m o i) := by
        rcases hro.bd i with h | h
        · exact h
        · omega
      have hnn : n ∈ m.names := hm.wi.in_ _ hwm
      have hsome : ∀ k, (RunOk.at_ m o i k).isSome = ((decide (k = crown) || decide (k ∈ m.names)) && !decide (k ∈ o.take i)) := fun k => by
        show (runH m.wl (heldO m) (o.take i) k).isSome = _
        rw [runH_some, heldO_some]
      have hns : (RunOk.at_ m o i n).isSome = true := by
        rw [hsome]
        have := nodup_take hro.nd hn
        simp [hnn, this]
      obtain ⟨amt, hamt⟩ := Option.isSome_iff_exists.mp hns
      let h1 : Held := dropH (RunOk.at_ m o i) n
      let l1 : List (Str × Fr) := dropA l n
      have hl1n : (keysA l1).Nodup := dropA_nodup hln n
      have hl1k : ∀ k ∈ keysA l1, k ∈ crown :: m.names := fun k hk => by
        have hk' : k ∈ keysA (dropA l n) := hk
        rw [dropA_keys] at hk'
        exact hlk k (List.mem_filter.mp hk').1
      have hl1g : ∀ k, getA l1 k = h1 k := fun k => by
        show getA (dropA l n) k = (if k = n then none else RunOk.at_ m o i k)
        rw [getA_dropA, hlg k]
      have hqM : M' q = none := hq
      have hl31 := hll l hln hlk
      refine ag_name 4 ?_ scHours.nd
      -- gone
      refine ab_cons (as_setL 5 [("name", 7)] rfl scHours.nd (blkOk_by (by kernel_rfl)) (al_0 ?_))
      refine ai_seq (ae_var 4 rfl ⟨[.str n], .inr (.inl rfl), fun j acc M3 => (j = 0 ∧ acc = [] ∧ M3 = MM M' q p l ps) ∨ (j = 1 ∧ acc = [.tup [.str n, encF amt]] ∧ M3 = MM M' q p l1 ps), Nat.le_of_ble_eq_true rfl, .inl ⟨rfl, rfl, rfl⟩, ?_, ?_, ?_⟩)
      · rintro j acc M3 (⟨rfl, rfl, rfl⟩ | ⟨rfl, rfl, rfl⟩)
        · exact ⟨.inr (.inl rfl), Nat.zero_le _⟩
        · exact ⟨.inr (.inl rfl), Nat.le_refl _⟩
      · rintro j acc M3 d hd (⟨rfl, rfl, rfl⟩ | ⟨rfl, rfl, rfl⟩) s0 H0 C0 cl fp
        · cases hd
          refine agc_name 7 (fun s H C cl fp => ?_) (by decide) scHours.nd
          refine ae_tup (aa_cons (ae_var 7 rfl (aa_cons (ae_dpop (ae_var 2 rfl ⟨q, rfl, ⟨_, .inl (MM_q hpq)⟩, ae_var 7 rfl ⟨n, _, encF amt, rfl, MM_q hpq, ?_, aa_nil ⟨Nat.le_of_ble_eq_true rfl, .inr ⟨rfl, rfl, ?_⟩⟩⟩⟩)))))
          · rw [valD_enc, hlg n, hamt]
            rfl
          · rw [dropD_enc, MM_setq hpq]
        · cases hd
      rintro acc M3 (⟨z, _, _⟩ | ⟨_, rfl, rfl⟩)
      · cases z
      -- alive
      let aliveL : List Str := (keysA l1).filter fun k => !decide (k = crown)
      have hal : (fun k => decide (k ∈ aliveL)) = aliveH h1 := by
        funext k
        show decide (k ∈ (keysA l1).filter fun k => !decide (k = crown)) = ((h1 k).isSome && !decide (k = crown))
        rw [← hl1g k, getA_isSome]
        by_cases e1 : k ∈ keysA l1
        · by_cases e2 : k = crown
          · simp [e1, e2]
          · simp [e1, e2]
        · simp [e1]
      have hl131 := hll l1 hl1n hl1k
      refine ab_cons (as_lock (MM_q hpq) (as_setL 6 [("name", 7)] rfl scHours.nd (blkOk_by (by kernel_rfl)) (al_filter (keysA l1) D.str D.str (fun k => !decide (k = crown)) ?_)))
      refine ai_keys (ae_var 2 rfl ⟨q, _, rfl, updM_same, ?_, ?_, True.intro, fun x hx s H C cl fp => ?_, ?_⟩)
      · unfold encK keysA
        rw [List.map_map, List.map_map]
        rfl
      · rw [show (keysA l1).length = l1.length from by simp [keysA]]
        omega
      · refine agc_name 7 (fun s H C cl fp => ?_) (by decide) scHours.nd
        refine at_cmp op_ne (nomark _) (ae_var 7 rfl (ae_globS rfl g.crown (rr_neS ⟨_, rfl, rfl, rfl, fun _ s H C cl fp => ae_var 7 rfl ⟨rfl, rfl⟩⟩)))
      show AB _ _ _ (updM (updM (MM M' q p l1 ps) q _) q _) _
      rw [updM_upd, updM_id (MM_q hpq)]
      have haln : aliveL.Nodup := hl1n.filter _
      have hall : aliveL.length ≤ 60 := by
        refine Nat.le_trans (List.length_filter_le _ _) ?_
        rw [show (keysA l1).length = l1.length from by simp [keysA]]
        omega
      -- the one death of this hour
      refine ab_one (as_for (ai_seq (ae_var 5 rfl ⟨[.tup [.str n, encF amt]], .inl rfl, fun j ρ' M3 => ∃ (o7 o8 o9 o10 o11 o12 : Option D) (l' : List (Str × Fr)) (ps' : List D), ρ' = [some (encFam F W m), some (.lst (o.map fun n => .tup [.str n])), some (.adr q), some (.adr p), some (.tup [.str n]), some (.lst [.tup [.str n, encF amt]]), some (.lst (aliveL.map D.str)), o7, o8, o9, o10, o11, o12] ∧
        M3 = MM M' q p l' ps' ∧ ((j = 0 ∧ l' = l1 ∧ ps' = ps) ∨ (j = 1 ∧ (keysA l').Nodup ∧ (∀ k ∈ keysA l', k ∈ crown :: m.names) ∧ (∀ k, getA l' k = RunOk.at_ m o (i + 1) k) ∧ ps'.length = i + 1)), ?_, ?_, ?_, ?_⟩)))
      · exact ⟨o7, o8, o9, o10, o11, o12, l1, ps, rfl, rfl, .inl ⟨rfl, rfl, rfl⟩⟩
      · rintro j ρ' M3 _
        exact .inl rfl
      · rintro j x ρ' M3 hx ⟨o7, o8, o9, o10, o11, o12, l', ps', rfl, rfl, hcase⟩
        rcases hcase with ⟨rfl, rfl, rfl⟩ | ⟨rfl, _⟩
        · cases hx
          refine ag_two 7 8 ?_ rfl scHours.nd
          -- what is given
          refine ab_cons (as_setL 9 [("heir", 10), ("part", 12)] rfl scHours.nd (blkOk_by (by kernel_rfl)) (al_map' encP (fun hf : Str × Fr => encP (hf.1, timesF amt hf.2)) ?_))
          refine ai_seq (ae_meth hH C.wc.cl hr (ae_meth hO C.cl hr1 (ae_var 0 rfl ⟨_, .inl rfl, rfl, aa_cons (ae_var 7 rfl (aa_nil ⟨m, n, sh, rfl, hm, hwl, ?_⟩))⟩)))
          refine ⟨_, .inl rfl, rfl, aa_cons (ae_var 6 rfl (aa_nil ⟨sh, aliveL, rfl, hsh, haln, hall, fun hs hsn hsg hsl => ⟨_, .inr (.inl rfl), hs, rfl, by omega, .inr (.inl rfl), fun x hx s H C cl fp => ?_, ?_⟩⟩))⟩
          · have hpx : partOf sh (fun k => decide (k ∈ aliveL)) x.1 = some x.2 := by
              rw [← hsg]
              exact getA_of_mem hsn hx
            refine agc_two 10 12 (fun s H C cl fp => ?_) (by decide) (by decide) rfl scHours.nd
            refine ae_tup (aa_cons (ae_var 10 rfl (aa_cons (ae_call hT hr3 rfl (aa_cons (ae_var 8 rfl (aa_cons (ae_var 12 rfl (aa_nil ⟨amt, x.2, rfl, frok_times (t := i) (by omega) (hbd n amt hamt) (part_bd hsh hpx), aa_nil ⟨Nat.le_of_ble_eq_true rfl, rfl, rfl⟩⟩)))))))))
          rw [hal] at hsg
          have hpart : ∀ x ∈ hs, partOf sh (aliveH h1) x.1 = some x.2 := fun x hx => by
            rw [← hsg]
            exact getA_of_mem hsn hx
          have hh1 : ∀ k f, h1 k = some f → Bd (dB i) (vB i) f := fun k f hf => by
            have hf' : (if k = n then none else RunOk.at_ m o i k) = some f := hf
            split at hf'
            · cases hf'
            · exact hbd k f hf'
          have hin : ∀ x ∈ hs, (h1 x.1).isSome = true := fun x hx => by
            have hp := hpart x hx
            -- an heir is alive, or the crown
            have key : ∀ (ss : List Share), (∀ s ∈ ss, s ∈ sh) → ∀ (oo : Option Fr), (oo.isSome = true → (h1 x.1).isSome = true) → (ss.foldl (addP (aliveH h1) (whole sh) x.1) oo).isSome = true → (h1 x.1).isSome = true := fun ss => by
              induction ss with
              | nil => exact fun _ oo ho h => ho h
              | cons s ss ih =>
                intro hss oo ho h
                refine ih (fun t ht => hss t (List.mem_cons_of_mem _ ht)) _ (fun h2 => ?_) h
                unfold addP at h2
                split at h2
                · rename_i hk
                  obtain ⟨_, _, _, n4⟩ := heirs_ok (al := aliveH h1) (hsh.gl s (hss s List.mem_cons_self)) (hsh.nd s (hss s List.mem_cons_self))
                  rcases n4 x.1 hk with e | ⟨e, _⟩
                  · rw [← hl1g, e, getA_isSome]
                    have h3 : (h1 crown).isSome = true := by
                      have hcn : crown ≠ n := fun z => crown_no hm (z ▸ hnn)
                      have hco : crown ∉ o.take i := fun z => crown_no hm (by
                        have hd := hro.mem _ (List.mem_of_mem_take z)
                        obtain ⟨y, hy, e⟩ := List.mem_map.mp hd
                        rw [← e]
                        exact hm.wi.in_ y hy)
                      show (if crown = n then none else RunOk.at_ m o i crown).isSome = true
                      rw [if_neg hcn, hsome]
                      simp [hco]
                    rw [← hl1g, getA_isSome] at h3
                    exact h3
                  · exact (Bool.and_eq_true_iff.mp e).1
                · exact ho h2
            exact key sh (fun _ h => h) none (fun z => nomatch z) (by
              show (partOf sh (aliveH h1) x.1).isSome = true
              rw [hp]
              rfl)
          -- the gifts
          refine ab_cons (as_for (ai_seq (ae_var 9 rfl ⟨hs.map fun hf => encP (hf.1, timesF amt hf.2), .inl rfl, fun j ρ' M3 => ∃ (o10 o11 : Option D) (l' : List (Str × Fr)), ρ' = [some (encFam F W m), some (.lst (o.map fun n => .tup [.str n])), some (.adr q), some (.adr p), some (.tup [.str n]), some (.lst [.tup [.str n, encF amt]]), some (.lst (aliveL.map D.str)), some (.str n), some (encF amt), some (.lst (hs.map fun hf => encP (hf.1, timesF amt hf.2))), o10, o11, o12] ∧
            M3 = MM M' q p l' ps' ∧ (keysA l').Nodup ∧ (∀ k ∈ keysA l', k ∈ crown :: m.names) ∧ (∀ k, getA l' k = if k ∈ (keysA hs).take j then (h1 k).map fun f => plusF f (timesF amt ((getA hs k).getD (0, 1))) else h1 k), ?_, ?_, ?_, ?_⟩)))
          · exact ⟨o10, o11, l1, rfl, rfl, hl1n, hl1k, fun k => by rw [hl1g]; simp⟩
          · rintro j ρ' M3 _
            exact .inl rfl
          · rintro j y ρ' M3 hy ⟨o10, o11, l', rfl, rfl, hn', hk', hg'⟩
            rw [List.getElem?_map] at hy
            obtain ⟨x, hx, rfl⟩ := Option.map_eq_some_iff.mp hy
            have hxm := List.mem_of_getElem? hx
            obtain ⟨f, hf1, hf2, hf3⟩ := give_step (gift := timesF amt) hsn hx (hin x hxm) hg'
            refine ag_two 10 11 ?_ rfl scHours.nd
            refine ab_one (as_dput hr0 (ae_call hP hr3 rfl (aa_cons (ae_dget hr0 (ae_var 2 rfl (ae_var 10 rfl ⟨q, x.1, _, encF f, rfl, rfl, .inl (MM_q hpq), ?_, ?_⟩))))))
            · rw [valD_enc, hf2]
              rfl
            refine aa_cons (ae_var 11 rfl (aa_nil ⟨f, timesF amt x.2, rfl, frok_plus (t := i) (by omega) (hh1 x.1 f hf1) (more_bd (hbd n amt hamt) (part_bd hsh (hpart x hxm))), ?_⟩))
            have hl' := hll l' hn' hk'
            refine ae_var 2 rfl (ae_var 10 rfl ⟨q, x.1, _, rfl, rfl, MM_q hpq, by rw [encK_len]; omega, ?_⟩)
            refine ⟨some (.str x.1), some (encF (timesF amt x.2)), putA l' x.1 (plusF f (timesF amt x.2)), rfl, ?_, putA_nodup hn' _ _, fun k hk => ?_, hf3⟩
            · rw [putD_enc, MM_setq hpq]
            · rw [putA_keys] at hk
              split at hk
              · exact hk' k hk
              · rename_i hno'
                have : x.1 ∈ keysA l' := by
                  cases e : getA l' x.1 with
                  | none =>
                    rw [hf2] at e
                    cases e
                  | some v =>
                    have h9 := getA_isSome l' x.1
                    rw [e] at h9
                    exact of_decide_eq_true h9.symm
                exact absurd this hno'
          · rintro ρ' M3 ⟨o10, o11, l', rfl, rfl, hn', hk', hg'⟩
            rw [List.length_map, show hs.length = (keysA hs).length from by simp [keysA], List.take_length] at hg'
            refine ab_one (as_expr (ae_bmL PySem.F.plainAttrs_list PySem.F.slot_list_append (by kernel_rfl) mt_append (ae_var 3 rfl ⟨⟨_, deref_own MM_p⟩, aa_cons ?_⟩)))
            refine ae_callTy call_tuple_of rfl g.tuple boot_tuple' (aa_cons ?_)
            refine ae_L [("heir", 10), ("more", 11)] rfl scHours.nd (blkOk_by (by kernel_rfl)) (al_filter hs (fun hf : Str × Fr => encP (hf.1, timesF amt hf.2)) (fun hf : Str × Fr => encP (hf.1, timesF amt hf.2)) (fun hf => decide ((0 : Int) < (((timesF amt hf.2).1 : Nat) : Int))) ?_)
            refine ai_seq (ae_var 9 rfl ⟨_, .inl rfl, rfl, by omega, .inl rfl, fun x hx s H C cl fp => ?_, ?_⟩)
            · refine agc_two 10 11 (fun s H C cl fp => ?_) (by decide) (by decide) rfl scHours.nd
              refine at_cmp op_gt (nomark _) (ae_ix ix_tup (ae_var 11 rfl (ae_int (rr_ixT 0 (.inl rfl) rfl rfl (ae_int (rr_bool ⟨_, rfl, rfl, rfl, fun _ s H C cl fp => ?_⟩))))))
              exact ae_tup (aa_cons (ae_var 10 rfl (aa_cons (ae_var 11 rfl (aa_nil ⟨Nat.le_of_ble_eq_true rfl, rfl, rfl⟩)))))
            refine aa_nil (rc_tupleOf (.inl rfl) (aa_nil (rm_append MM_p (by omega) ?_)))
            rw [MM_setp]
            refine ⟨_, _, _, _, _, _, l', _, rfl, rfl, .inr ⟨rfl, hn', hk', fun k => ?_, by rw [List.length_append, hps]; rfl⟩⟩
            rw [hg' k]
            show _ = runH m.wl (heldO m) (o.take (i + 1)) k
            rw [runH_take hn]
            show _ = giveH h1 ((RunOk.at_ m o i n).getD (0, 1)) (partOf ((m.wl n).getD []) (aliveH h1)) k
            rw [hamt, hwl]
            unfold giveH
            show _ = match partOf sh (aliveH h1) k with
              | some p => (h1 k).map fun f => plusF f (timesF amt p)
              | none => h1 k
            rw [← hsg k]
            cases e : getA hs k with
            | none => rw [if_neg (getA_none.mp e)]
            | some v =>
              have h9 := getA_isSome hs k
              rw [e] at h9
              rw [if_pos (of_decide_eq_true h9.symm)]
              rfl
        · cases hx
      · rintro ρ' M3 ⟨o7, o8, o9, o10, o11, o12, l', ps', rfl, rfl, hcase⟩
        rcases hcase with ⟨z, _⟩ | ⟨_, a1, a2, a3, a4⟩
        · cases z
        · exact ⟨_, _, _, _, _, _, _, _, _, l', ps', rfl, rfl, a1, a2, a3, a4, hilt⟩
    · rintro ρ' M2 ⟨o4, o5, o6, o7, o8, o9, o10, o11, o12, l, ps, rfl, rfl, hln, hlk, hlg, hps, _⟩
      rw [List.length_map] at hlg hps
      refine ab_give 3 rfl MM_p (.inl ⟨_, rfl⟩) ?_
      refine ab_one (as_ret (ae_tup (aa_cons (ae_var 2 rfl (aa_cons (ae_var 3 rfl (aa_nil ⟨Nat.le_of_ble_eq_true rfl, ?_⟩)))))))
      rw [show delM (MM M' q p l ps) p = updM M' q (.dct (encK encF l)) from delM_upd (by rw [updM_ne hpq]; exact hpM)]
      refine post q l ps hq hln (fun k => ?_) hps
      rw [hlg k]
      show runH m.wl (heldO m) (o.take o.length) k = _
      rw [List.take_length]
end
end Hr
set_option Elab.async false
set_option linter.all false
set_option maxRecDepth 100000
set_option maxHeartbeats 4000000
set_option exponentiation.threshold 300000
/-! HeirO3: held_behind, told_of, paid, steps. -/
namespace Hr
open PySem L2
open PyProof.Rows (sortedS envOfC)
theorem scBehind : FnScope ["family", "order", "name"] ["family", "order"] (defScope sBehind) := ⟨rfl, rfl, rfl, by decide +kernel, rfl, by decide +kernel, by decide +kernel⟩
theorem scTold : FnScope ["family", "held", "name"] ["family", "held"] (defScope sTold) := ⟨rfl, rfl, rfl, by decide +kernel, rfl, by decide +kernel, by decide +kernel⟩
theorem scPaid : FnScope ["family", "order", "held", "passed"] ["family", "order"] (defScope sPaid) := ⟨rfl, rfl, rfl, by decide +kernel, rfl, by decide +kernel, by decide +kernel⟩
theorem scSteps : FnScope ["family", "order", "held", "passed"] ["family", "order"] (defScope sSteps) := ⟨rfl, rfl, rfl, by decide +kernel, rfl, by decide +kernel, by decide +kernel⟩
def spBehind (F W : Addr) : ASp := fun ds M Post => ∃ m d o, ds = [encFam F W m, d] ∧ IsSeq M d (o.map .str) ∧ RunOk m o ∧
  ∀ (q : Addr) (l : List (Str × Fr)) (ps : List D), M q = none → (keysA l).Nodup → (∀ k, getA l k = runH m.wl (heldO m) o k) → ps.length = o.length → Post (.tup [.adr q, .lst ps]) (updM M q (.dct (encK encF l)))
/-- who is told of, and what each holds -/
def toldK (m : Fam) : List Str := srt m.living ++ [crown]
def toldL (m : Fam) (h : Held) : List (Str × Fr) := (toldK m).map fun k => (k, (h k).getD (0, 1))
def spTold (F W : Addr) : ASp := fun ds M Post => ∃ m q l h, ds = [encFam F W m, .adr q] ∧ M q = some (.dct (encK encF l)) ∧ (∀ k, getA l k = h k) ∧ (∀ k ∈ toldK m, (h k).isSome = true) ∧ FamOk m ∧ Post (.ptup ((toldL m h).map encP)) M
def endH (m : Fam) (o : List Str) : Held := runH m.wl (heldO m) o
def spPaid (F W : Addr) : ASp := fun ds M Post => ∃ m d o, ds = [encFam F W m, d] ∧ IsSeq M d (o.map .str) ∧ RunOk m o ∧ OrdOk m o ∧ Post (.ptup ((toldL m (endH m o)).map encP)) M
def spSteps (F W : Addr) : ASp := fun ds M Post => ∃ m d o, ds = [encFam F W m, d] ∧ IsSeq M d (o.map .str) ∧ RunOk m o ∧ OrdOk m o ∧ ∀ ps : List D, ps.length = o.length → Post (.tup ps) M
theorem told_some {m : Fam} {o : List Str} (h : RunOk m o) : ∀ k ∈ toldK m, (endH m o k).isSome = true := by
  intro k hk
  unfold endH
  rw [runH_some, heldO_some]
  rcases List.mem_append.mp hk with hk | hk
  · have hk' := mem_srt.mp hk
    obtain ⟨h1, h2⟩ := List.mem_filter.mp hk'
    have h3 : k ∉ o := fun z => by
      have := h.mem k z
      simp [this] at h2
    simp [h1, h3]
  · have e := List.mem_singleton.mp hk
    have h3 : crown ∉ o := fun z => crown_no h.fam (by
      obtain ⟨y, hy, e⟩ := List.mem_map.mp (h.mem _ z)
      rw [← e]
      exact h.fam.wi.in_ y hy)
    simp [e, h3]
section
variable {P : Program} {w : World} {K : PySem.W.Frag} {mg : Str → Option Value} {base : Heap}
theorem ok_behind {f F W : Addr} {fd : FuncData} (Fn : Fun K "held_behind" "held_behind" sBehind f fd) (hH : Has ⟨P, w, K, mg, base⟩ 5 "held_by_hours" (spHours F W)) : FnOk P w K mg base CX0 6 f fd ["family", "order"] (spA (spBehind F W)) := by
  refine fn_abs (k := 5) Fn scBehind (fun ds M Post h => ?_) (fun cdv A outer s H E hr ds M Post h => ?_)
  · obtain ⟨a, _, _, rfl, _⟩ := h
    rfl
  · obtain ⟨m, d, o, rfl, hd, hro, post⟩ := h
    have l8 := hro.few
    refine ab_one (as_ret (ae_call hH hr rfl (aa_cons (ae_var 0 rfl (aa_cons ?_)))))
    refine ae_L [("name", 2)] rfl scBehind.nd (blkOk_by (by kernel_rfl)) (al_map o D.str (fun n => D.tup [.str n]) ?_)
    refine ai_seq (ae_var 1 rfl ⟨_, hd, rfl, by omega, hd, fun x hx s H C cl fp => ?_, ?_⟩)
    · refine agc_name 2 (fun s H C cl fp => ?_) (by decide) scBehind.nd
      exact ae_tup (aa_cons (ae_var 2 rfl (aa_nil ⟨Nat.le_of_ble_eq_true rfl, rfl, rfl⟩)))
    · exact aa_nil ⟨m, o, rfl, hro, post⟩
theorem ok_told {f F W : Addr} {fd : FuncData} (Fn : Fun K "told_of" "told_of" sTold f fd) (g : Glb mg) (C : FamCls K F W) (hL : HasP ⟨P, w, K, mg, base⟩ 3 F "living" (spFamLiving F W)) : FnOk P w K mg base CX0 5 f fd ["family", "held"] (spA (spTold F W)) := by
  refine fn_abs (k := 4) Fn scTold (fun ds M Post h => ?_) (fun cdv A outer s H E hr ds M Post h => ?_)
  · obtain ⟨a, _, _, _, rfl, _⟩ := h
    rfl
  · obtain ⟨m, q, l, h, rfl, hq, hlg, hs, hm, post⟩ := h
    have l1 := hm.pp.few
    have hr0 : Room 0 _ := hr.mono (by decide)
    have ll : (toldK m).length ≤ 1000 := by
      unfold toldK Fam.living Fam.names
      rw [List.length_append, srt_len]
      have := List.length_filter_le (fun x => !decide (x ∈ m.dead)) (m.people.map (·.1))
      rw [List.length_map] at this
      simp
      omega
    refine ab_one (as_ret (ae_callTy call_tupleP rfl g.tuple boot_tuple' (aa_cons ?_)))
    refine ae_L [("name", 2)] rfl scTold.nd (blkOk_by (by kernel_rfl)) (al_map (toldK m) D.str (fun k => encP (k, (h k).getD (0, 1))) ?_)
    refine ai_seq (ae_tup (aa_star (ae_prop hL C.cl hr (ae_var 0 rfl ⟨_, .inl rfl, m, rfl, hm, _, .inr (.inl rfl), aa_cons (ae_globS rfl g.crown (aa_nil ⟨?_, _, .inr (.inl rfl), ?_, ll, .inr (.inl rfl), fun x hx s H C cl fp => ?_, ?_⟩))⟩))))
    · have : ((srt m.living).map D.str ++ [D.str crown]).length = (toldK m).length := by
        unfold toldK
        rw [List.length_append, List.length_append, List.length_map]
        rfl
      rw [this]
      exact ll
    · unfold toldK
      rw [List.map_append]
      rfl
    · have hx1 := hs x hx
      obtain ⟨v, hv⟩ := Option.isSome_iff_exists.mp hx1
      refine agc_name 2 (fun s H C cl fp => ?_) (by decide) scTold.nd
      refine ae_tup (aa_cons (ae_var 2 rfl (aa_cons (ae_dget hr0 (ae_var 1 rfl (ae_var 2 rfl ⟨q, x, _, encF ((h x).getD (0, 1)), rfl, rfl, .inl hq, ?_, ?_⟩))))))
      · rw [valD_enc, hlg x, hv]
        rfl
      · exact aa_nil ⟨Nat.le_of_ble_eq_true rfl, rfl, rfl⟩
    · refine aa_nil (rc_tupleP rfl ?_)
      rw [show ((toldK m).map fun k => encP (k, (h k).getD (0, 1))) = (toldL m h).map encP from by unfold toldL; rw [List.map_map]; rfl]
      exact post
theorem ok_paid {f F W : Addr} {fd : FuncData} (Fn : Fun K "paid" "paid" sPaid f fd) (hN : Has ⟨P, w, K, mg, base⟩ 4 "need_order" (spNeed F W)) (hB : Has ⟨P, w, K, mg, base⟩ 6 "held_behind" (spBehind F W)) (hT : Has ⟨P, w, K, mg, base⟩ 5 "told_of" (spTold F W)) : FnOk P w K mg base CX0 7 f fd ["family", "order"] (spA (spPaid F W)) := by
  refine fn_abs (k := 6) Fn scPaid (fun ds M Post h => ?_) (fun cdv A outer s H E hr ds M Post h => ?_)
  · obtain ⟨a, _, _, rfl, _⟩ := h
    rfl
  · obtain ⟨m, d, o, rfl, hd, hro, ho, post⟩ := h
    have hr4 : Room 4 _ := hr.mono (by decide)
    have hr5 : Room 5 _ := hr.mono (by decide)
    have l8 := hro.few
    refine ab_cons (as_expr (ae_call hN hr4 rfl (aa_cons (ae_var 0 rfl (aa_cons (ae_var 1 rfl (aa_nil ⟨m, d, o, rfl, hd, hro.fam, by omega, ho, ?_⟩)))))))
    refine ab_cons (as_asg (ae_call hB hr rfl (aa_cons (ae_var 0 rfl (aa_cons (ae_var 1 rfl (aa_nil ⟨m, d, o, rfl, hd, hro, fun q l ps hq hn hg hl => ?_⟩)))))))
    refine ag_two 2 3 ?_ rfl scPaid.nd
    refine ab_one (as_ret (ae_le (ae_call hT hr5 rfl (aa_cons (ae_var 0 rfl (aa_cons (ae_var 2 rfl (aa_nil ⟨m, q, l, _, rfl, updM_same, hg, told_some hro, hro.fam, _, le_upd hq, post⟩))))))))
theorem ok_steps {f F W : Addr} {fd : FuncData} (Fn : Fun K "steps" "steps" sSteps f fd) (g : Glb mg) (hN : Has ⟨P, w, K, mg, base⟩ 4 "need_order" (spNeed F W)) (hB : Has ⟨P, w, K, mg, base⟩ 6 "held_behind" (spBehind F W)) : FnOk P w K mg base CX0 7 f fd ["family", "order"] (spA (spSteps F W)) := by
  refine fn_abs (k := 6) Fn scSteps (fun ds M Post h => ?_) (fun cdv A outer s H E hr ds M Post h => ?_)
  · obtain ⟨a, _, _, rfl, _⟩ := h
    rfl
  · obtain ⟨m, d, o, rfl, hd, hro, ho, post⟩ := h
    have hr4 : Room 4 _ := hr.mono (by decide)
    have l8 := hro.few
    refine ab_cons (as_expr (ae_call hN hr4 rfl (aa_cons (ae_var 0 rfl (aa_cons (ae_var 1 rfl (aa_nil ⟨m, d, o, rfl, hd, hro.fam, by omega, ho, ?_⟩)))))))
    refine ab_cons (as_asg (ae_call hB hr rfl (aa_cons (ae_var 0 rfl (aa_cons (ae_var 1 rfl (aa_nil ⟨m, d, o, rfl, hd, hro, fun q l ps hq hn hg hl => ?_⟩)))))))
    refine ag_two 2 3 ?_ rfl scSteps.nd
    exact ab_one (as_ret (ae_le (ae_callTy call_tuple_of rfl g.tuple boot_tuple' (aa_cons (ae_var 3 rfl (aa_nil (rc_tupleOf (.inl rfl) ⟨_, le_upd hq, post ps hl⟩)))))))
end
end Hr
set_option Elab.async false
set_option linter.all false
set_option maxRecDepth 100000
set_option maxHeartbeats 4000000
set_option exponentiation.threshold 300000
/-! HeirL1: the deal, draws. -/
namespace Hr
open PySem L2
open PyProof.Rows (sortedS envOfC)
section
variable {X : Cx} {ρ : Rh} {M : Mm} {a : Expr} {pos : Pos}
theorem ae_neg {Post : D → Mm → Prop} (h : AE X a ρ M fun d M1 => ∃ i, d = .int i ∧ Post (.int (-i)) M1) : AE X (.UnaryOp .USub a pos) ρ M Post := fun G H σ Q n r k =>
  wE_of (pe_un un_neg pe_w) (h G H σ _ n r fun d M1 v G1 H1 ⟨i, ed, p⟩ s1 r1 rv => ⟨i, by
    subst ed
    exact rep_int.mp rv, k _ M1 _ G1 H1 p s1 r1 (rep_int.mpr rfl)⟩)
end
abbrev sDeal : Stmt := top 48
abbrev sDraw : Stmt := top 49
abbrev sPick : Stmt := top 50
abbrev sMixed : Stmt := top 51
abbrev sTitles : Stmt := top 52
abbrev sLShare : Stmt := top 53
abbrev sLFam : Stmt := top 54
abbrev sMade : Stmt := top 55
abbrev sLDead : Stmt := top 56
abbrev sLLowest : Stmt := top 58
abbrev sLPlus : Stmt := top 59
abbrev sKeeps : Stmt := top 64
abbrev sOrders : Stmt := top 65
abbrev sLedOver : Stmt := top 66
abbrev sMixedUp : Stmt := top 67
abbrev sWoven : Stmt := top 68
abbrev sLaw : Stmt := top 69
theorem scDeal : FnScope ["_law_script", "_law_base", "_law_numbers", "_law_mixed_here", "_law_cell"] ["_law_script", "_law_base"] (defScope sDeal) := ⟨rfl, rfl, rfl, by decide +kernel, rfl, by decide +kernel, by decide +kernel⟩
theorem scDraw : FnScope ["_law_deal_here", "_law_many", "_law_rest"] ["_law_deal_here", "_law_many"] (defScope sDraw) := ⟨rfl, rfl, rfl, by decide +kernel, rfl, by decide +kernel, by decide +kernel⟩
theorem scPick : FnScope ["_law_deal_here", "_law_some"] ["_law_deal_here", "_law_some"] (defScope sPick) := ⟨rfl, rfl, rfl, by decide +kernel, rfl, by decide +kernel, by decide +kernel⟩
theorem scMixed : FnScope ["_law_deal_here", "_law_some", "_law_rest", "_law_found", "_law_turn"] ["_law_deal_here", "_law_some"] (defScope sMixed) := ⟨rfl, rfl, rfl, by decide +kernel, rfl, by decide +kernel, by decide +kernel⟩
theorem scTitles : FnScope ["_law_deal_here", "_law_many", "_law_some"] ["_law_deal_here", "_law_many"] (defScope sTitles) := ⟨rfl, rfl, rfl, by decide +kernel, rfl, by decide +kernel, by decide +kernel⟩
/-- the deal's own two lists -/
structure DealAt (M : Mm) (p q : Addr) : Prop where
  ne : p ≠ q
  at_ : ∃ (ns : List Int) (m : Nat), M p = some (.lst [.adr q, .int (m : Int)]) ∧ M q = some (.lst (ns.map .int)) ∧ ns.length ≤ 60 ∧ m < 2147483647 ∧ ∀ n ∈ ns, 0 ≤ n
/-- nothing else changed -/
def SB (p q : Addr) (M M' : Mm) : Prop := ∀ a, a ≠ p → a ≠ q → M' a = M a
theorem SB.refl {p q : Addr} (M : Mm) : SB p q M M := fun _ _ _ => rfl
theorem SB.trans {p q : Addr} {M M' M'' : Mm} (h : SB p q M M') (h' : SB p q M' M'') : SB p q M M'' := fun a h1 h2 => (h' a h1 h2).trans (h a h1 h2)
theorem DealAt.p1 {M : Mm} {p q : Addr} (h : DealAt M p q) : M p ≠ none := by
  obtain ⟨ns, m, h1, _⟩ := h.at_
  rw [h1]
  exact fun z => nomatch z
theorem DealAt.q1 {M : Mm} {p q : Addr} (h : DealAt M p q) : M q ≠ none := by
  obtain ⟨ns, m, _, h1, _⟩ := h.at_
  rw [h1]
  exact fun z => nomatch z
theorem DealAt.upd {M : Mm} {p q r : Addr} {d : D} (h : DealAt M p q) (hr : M r = none) : DealAt (updM M r d) p q := by
  have hp : p ≠ r := fun z => h.p1 (z ▸ hr)
  have hq : q ≠ r := fun z => h.q1 (z ▸ hr)
  obtain ⟨ns, m, h1, h2, h3⟩ := h.at_
  exact ⟨h.ne, ns, m, by rw [updM_ne hp]; exact h1, by rw [updM_ne hq]; exact h2, h3⟩
theorem DealAt.nep {M : Mm} {p q r : Addr} (h : DealAt M p q) (hr : M r = none) : r ≠ p := fun z => h.p1 (z ▸ hr)
theorem DealAt.neq {M : Mm} {p q r : Addr} (h : DealAt M p q) (hr : M r = none) : r ≠ q := fun z => h.q1 (z ▸ hr)
theorem SB.none {p q r : Addr} {M M' : Mm} (h : SB p q M M') (hd : DealAt M p q) (hr : M r = none) : M' r = none := by
  rw [h r (hd.nep hr) (hd.neq hr)]
  exact hr
def spDeal (K : PySem.W.Frag) : ASp := fun ds M Post => ∃ (Pr : Hp → V → Prop) (ns : List Int), ds = [.opq Pr, .int 0] ∧ (∀ G0 v, Pr G0 v → ∃ a, v = .ref a ∧ SqL K G0 a (ns.map V.int)) ∧ ∀ p q M', DealAt M' p q → SB p q M M' → Post (.adr p) M'
def spDraw : ASp := fun ds M Post => ∃ (p q : Addr) (many : Nat), ds = [.adr p, .int (many : Int)] ∧ 0 < many ∧ many ≤ 100000 ∧ DealAt M p q ∧ ∀ (r : Nat) M', r < many → DealAt M' p q → SB p q M M' → Post (.int (r : Int)) M'
def spPick : ASp := fun ds M Post => ∃ (p q : Addr) (l : List D), ds = [.adr p, .lst l] ∧ l ≠ [] ∧ l.length ≤ 100000 ∧ DealAt M p q ∧ ∀ x M', x ∈ l → DealAt M' p q → SB p q M M' → Post x M'
def spMixed : ASp := fun ds M Post => ∃ (p q : Addr) (d : D) (l : List D), ds = [.adr p, d] ∧ IsSeq M d l ∧ l.length ≤ 1000 ∧ DealAt M p q ∧ ∀ (l' : List D) M', l'.Perm l → DealAt M' p q → SB p q M M' → Post (.lst l') M'
def titles12 : List Str := ["ann", "bob", "cid", "dan", "eve", "a", "b", "ab", "zzzzz", "will", "first", "crow"]
def spTitles : ASp := fun ds M Post => ∃ (p q : Addr) (many : Nat), ds = [.adr p, .int (many : Int)] ∧ many ≤ 12 ∧ DealAt M p q ∧ ∀ (l : List Str) M', l.Nodup → (∀ x ∈ l, x ∈ titles12) → l.length = many → DealAt M' p q → SB p q M M' → Post (encNs l) M'
section
variable {P : Program} {w : World} {K : PySem.W.Frag} {mg : Str → Option Value} {base : Heap}
theorem ok_draw {f : Addr} {fd : FuncData} (Fn : Fun K "_law_draw" "_law_draw" sDraw f fd) (g : Glb mg) : FnOk P w K mg base CX0 1 f fd ["_law_deal_here", "_law_many"] (spA spDraw) := by
  refine fn_abs (k := 0) Fn scDraw (fun ds M Post h => ?_) (fun cdv A outer s H E hr ds M Post h => ?_)
  · obtain ⟨_, _, _, rfl, _⟩ := h
    rfl
  · obtain ⟨p, q, many, rfl, h0, h5, hdl, post⟩ := h
    obtain ⟨ns, m, hp, hq, hl, hm, hns⟩ := hdl.at_
    have hpq := hdl.ne
    have hdiv : CDivW 0 (many : Int) := wdiv h0 (Nat.lt_of_le_of_lt h5 (Nat.lt_of_lt_of_le (by decide : 100000 < 2 ^ 20) (Nat.pow_le_pow_right (by decide) (by decide))))
    -- the zeros behind
    refine ab_cons (as_while (fun n ρ' M' => ρ' = [some (.adr p), some (.int (many : Int)), none] ∧ ∃ ns' : List Int, M' = updM M q (.lst (ns'.map .int)) ∧ n = ns'.length ∧ ns'.length ≤ 60 ∧ ∀ x ∈ ns', 0 ≤ x) ns.length ⟨rfl, ns, by rw [updM_id hq], rfl, hl, hns⟩ ?_)
    rintro n ρ' M' ⟨rfl, ns', rfl, rfl, hl', hn'⟩
    have hMp : updM M q (.lst (ns'.map .int)) p = some (.lst [.adr q, .int (m : Int)]) := by rw [updM_ne hpq]; exact hp
    refine at_w (aw_and (at_cmp (op_neD hr.units) (nomark _) (ae_ix ix_list (ae_var 0 rfl (ae_int (rr_ixL 0 (deref_own hMp) rfl rfl ?_))))))
    refine ae_lst (aa_nil ⟨Nat.le_of_ble_eq_true rfl, rr_neNilI (l := ns') (deref_own updM_same) ⟨_, rfl, fun hk => ?_, fun hk => ?_⟩⟩)
    · have hne : ns' ≠ [] := fun z => by
        rw [z] at hk
        cases hk
      have hpos : 0 < ns'.length := List.length_pos_iff.mpr hne
      have hlast : (ns'.map D.int)[ns'.length - 1]? = some (.int (ns'.getLast hne)) := by
        rw [List.getElem?_map, List.getLast_eq_getElem, List.getElem?_eq_getElem (by omega)]
        rfl
      refine aw_and1 (at_cmp op_eq (nomark _) (ae_ix ix_list (ae_ix ix_list (ae_var 0 rfl (ae_int (rr_ixL 0 (deref_own hMp) rfl rfl (ae_neg (ae_int ⟨1, rfl, ?_⟩))))))))
      refine rr_ixL (ns'.length - 1) (deref_own updM_same) (by rw [List.length_map]; exact ixN_last hpos) hlast (ae_int (rr_eqI ⟨_, rfl, fun hz => ?_, fun hz => ?_⟩))
      · refine ab_one (as_expr (ae_bmL0 PySem.F.plainAttrs_list PySem.F.slot_list_pop (by kernel_rfl) mt_pop (ae_ix ix_list (ae_var 0 rfl (ae_int (rr_ixL 0 (deref_own hMp) rfl rfl ⟨⟨_, deref_own updM_same⟩, rm_pop updM_same (by rw [List.length_map]; exact hlast) ?_⟩))))))
        refine ⟨ns'.length - 1, by omega, rfl, ns'.dropLast, ?_, by rw [List.length_dropLast], by rw [List.length_dropLast]; omega, fun x hx => hn' x (List.dropLast_subset _ hx)⟩
        rw [updM_upd, List.map_dropLast]
      · -- done: a number is there
        refine ab_cons (as_if (at_cmp (op_neD hr.units) (nomark _) (ae_ix ix_list (ae_var 0 rfl (ae_int (rr_ixL 0 (deref_own hMp) rfl rfl ?_))))))
        refine ae_lst (aa_nil ⟨Nat.le_of_ble_eq_true rfl, rr_neNilI (l := ns') (deref_own updM_same) ⟨_, rfl, fun _ => ?_, fun z => ?_⟩⟩)
        · have hlp : 0 ≤ ns'.getLast hne := hn' _ (List.getLast_mem hne)
          have hdv : CDivW (ns'.getLast hne) (many : Int) := hdiv
          refine ab_cons (as_set 2 (ae_bmL0 PySem.F.plainAttrs_list PySem.F.slot_list_pop (by kernel_rfl) mt_pop (ae_ix ix_list (ae_var 0 rfl (ae_int (rr_ixL 0 (deref_own hMp) rfl rfl ⟨⟨_, deref_own updM_same⟩, rm_pop updM_same (by rw [List.length_map]; exact hlast) ?_⟩))))) scDraw.nd)
          rw [updM_upd, ← List.map_dropLast]
          have hMp2 : updM M q (.lst (ns'.dropLast.map .int)) p = some (.lst [.adr q, .int (m : Int)]) := by rw [updM_ne hpq]; exact hp
          refine ab_cons (as_expr (ae_bmL PySem.F.plainAttrs_list PySem.F.slot_list_append (by kernel_rfl) mt_append (ae_ix ix_list (ae_var 0 rfl (ae_int (rr_ixL 0 (deref_own hMp2) rfl rfl ⟨⟨_, deref_own updM_same⟩, aa_cons (ae_bin op_fdivW (ae_var 2 rfl (ae_var 1 rfl (rr_int hdv (aa_nil (rm_append updM_same ?_ ?_))))))⟩))))))
          · rw [List.length_map, List.length_dropLast]
            omega
          rw [updM_upd]
          have hd2 : DealAt (updM M q (.lst (ns'.dropLast.map D.int ++ [D.int (ns'.getLast hne / (many : Int))]))) p q := by
            refine ⟨hpq, ns'.dropLast ++ [ns'.getLast hne / (many : Int)], m, by rw [updM_ne hpq]; exact hp, ?_, ?_, hm, fun x hx => ?_⟩
            · rw [updM_same, List.map_append]
              rfl
            · rw [List.length_append, List.length_dropLast]
              simp
              omega
            · rcases List.mem_append.mp hx with hx | hx
              · exact hn' x (List.dropLast_subset _ hx)
              · rw [List.mem_singleton.mp hx]
                exact Int.ediv_nonneg hlp (by omega)
          have hsb : SB p q M (updM M q (.lst (ns'.dropLast.map D.int ++ [D.int (ns'.getLast hne / (many : Int))]))) := fun a h1 h2 => updM_ne h2
          refine ab_one (as_ret (ae_bin op_mod (ae_callTy call_int1 rfl g.int boot_int' (aa_cons (ae_var 2 rfl (aa_nil (rc_int (ae_var 1 rfl (rr_int (by omega) ?_)))))))))
          have hmod := Int.emod_nonneg (ns'.getLast hne) (show (many : Int) ≠ 0 by omega)
          have hlt := Int.emod_lt_of_pos (ns'.getLast hne) (show (0 : Int) < many by omega)
          have := post (ns'.getLast hne % (many : Int)).toNat _ (by omega) hd2 hsb
          rw [Int.toNat_of_nonneg hmod] at this
          exact this
        · exfalso
          cases ns' with
          | nil => exact hne rfl
          | cons a r => cases z
    · have hnil : ns' = [] := by
        cases ns' with
        | nil => rfl
        | cons a r => cases hk
      subst hnil
      refine ⟨(fun z => nomatch z), fun _ => ?_⟩
      refine ab_cons (as_if (at_cmp (op_neD hr.units) (nomark _) (ae_ix ix_list (ae_var 0 rfl (ae_int (rr_ixL 0 (deref_own hMp) rfl rfl ?_))))))
      refine ae_lst (aa_nil ⟨Nat.le_of_ble_eq_true rfl, rr_neNilI (l := []) (deref_own updM_same) ⟨_, rfl, fun z => (by cases z), fun _ => ?_⟩⟩)
      refine ab_nil (ab_cons (as_putL ?_))
      refine ae_bin op_mod ?_
      refine ae_callTy call_int1 rfl g.int boot_int' (aa_cons (ae_bin op_add (ae_bin op_mul (ae_ix ix_list (ae_var 0 rfl (ae_int (rr_ixL 1 (deref_own hMp) rfl rfl (ae_int (rr_int (.inr ⟨by decide, by decide⟩) (ae_int (rr_add (aa_nil (rc_int (ae_int (rr_int (by decide) ?_)))))))))))))))
      have hm2 : (0 : Int) ≤ ((m : Int) * 48271 + 11) % 2147483647 ∧ ((m : Int) * 48271 + 11) % 2147483647 < 2147483647 := by omega
      refine ae_var 0 rfl (ae_int ⟨p, _, 1, 1, rfl, rfl, hMp, rfl, ?_⟩)
      have hMp3 : updM (updM M q (.lst [])) p (.lst [.adr q, .int (((m : Int) * 48271 + 11) % 2147483647)]) p = some (.lst [.adr q, .int (((m : Int) * 48271 + 11) % 2147483647)]) := updM_same
      refine ab_one (as_ret (ae_bin op_mod (ae_callTy call_int1 rfl g.int boot_int' (aa_cons (ae_bin op_fdiv (ae_ix ix_list (ae_var 0 rfl (ae_int (rr_ixL 1 (deref_own hMp3) rfl rfl (ae_int (rr_int ⟨by decide, by decide⟩ (aa_nil (rc_int (ae_var 1 rfl (rr_int (by omega) ?_)))))))))))))))
      have hd2 : DealAt (updM (updM M q (.lst [])) p (.lst [.adr q, .int (((m : Int) * 48271 + 11) % 2147483647)])) p q := by
        refine ⟨hpq, [], (((m : Int) * 48271 + 11) % 2147483647).toNat, ?_, ?_, by decide, by omega, fun x hx => nomatch hx⟩
        · rw [updM_same, Int.toNat_of_nonneg hm2.1]
        · rw [updM_ne (Ne.symm hpq), updM_same]
          rfl
      have hsb : SB p q M (updM (updM M q (.lst [])) p (.lst [.adr q, .int (((m : Int) * 48271 + 11) % 2147483647)])) := fun a h1 h2 => by rw [updM_ne h1, updM_ne h2]
      have hmod := Int.emod_nonneg ((((m : Int) * 48271 + 11) % 2147483647) / 8) (show (many : Int) ≠ 0 by omega)
      have hlt := Int.emod_lt_of_pos ((((m : Int) * 48271 + 11) % 2147483647) / 8) (show (0 : Int) < many by omega)
      have := post ((((m : Int) * 48271 + 11) % 2147483647) / 8 % (many : Int)).toNat _ (by omega) hd2 hsb
      rw [Int.toNat_of_nonneg hmod] at this
      exact this
end
end Hr
set_option Elab.async false
set_option linter.all false
set_option maxRecDepth 100000
set_option maxHeartbeats 4000000
set_option exponentiation.threshold 300000
/-! HeirL2: the deal, picks, mixes, titles. -/
namespace Hr
open PySem L2
open PyProof.Rows (sortedS envOfC)
section
variable {X : Cx} {ρ : Rh} {M : Mm}
def cS (x : Str × Nat × Pos) : Expr := .Constant (.str x.1) x.2.1 x.2.2
def cI (x : Int × Nat × Pos) : Expr := .Constant (.int x.1) x.2.1 x.2.2
theorem aa_strs {Post : List D → Mm → Prop} : ∀ (l : List (Str × Nat × Pos)), Post (l.map fun x => D.str x.1) M → AA X (l.map cS) ρ M Post
  | [], h => aa_nil h
  | x :: l, h => aa_cons (ae_str (aa_strs (Post := fun ds M' => Post (D.str x.1 :: ds) M') l h)) rfl
theorem ae_strsE {e : Expr} {p : Pos} {Post : D → Mm → Prop} (l : List (Str × Nat × Pos)) (he : Expr.List (l.map cS) p = e) (hl : l.length ≤ 1000) (h : Post (.lst (l.map fun x => D.str x.1)) M) : AE X e ρ M Post := by
  subst he
  exact ae_lst (aa_strs l ⟨by rw [List.length_map]; exact hl, h⟩)
theorem aa_ints {Post : List D → Mm → Prop} : ∀ (l : List (Int × Nat × Pos)), Post (l.map fun x => D.int x.1) M → AA X (l.map cI) ρ M Post
  | [], h => aa_nil h
  | x :: l, h => aa_cons (ae_int (aa_ints (Post := fun ds M' => Post (D.int x.1 :: ds) M') l h)) rfl
end
def decS : D → Option Str
  | .str s => some s
  | _ => none
theorem dec_map (l : List Str) : (l.map D.str).filterMap decS = l := by
  rw [List.filterMap_map]
  exact List.filterMap_some
theorem perm_str {l : List Str} {l' : List D} (h : l'.Perm (l.map .str)) : ∃ k : List Str, k.Perm l ∧ l' = k.map .str := by
  have hall : ∀ (m : List D), (∀ d ∈ m, ∃ s, d = D.str s) → ∃ k : List Str, m = k.map .str := fun m => by
    induction m with
    | nil => exact fun _ => ⟨[], rfl⟩
    | cons d m ih =>
      intro h
      obtain ⟨s, rfl⟩ := h d List.mem_cons_self
      obtain ⟨k, rfl⟩ := ih fun x hx => h x (List.mem_cons_of_mem _ hx)
      exact ⟨s :: k, rfl⟩
  obtain ⟨k, rfl⟩ := hall l' fun d hd => by
    obtain ⟨s, _, rfl⟩ := List.mem_map.mp (h.subset hd)
    exact ⟨s, rfl⟩
  have := h.filterMap decS
  rw [dec_map, dec_map] at this
  exact ⟨k, this, rfl⟩
section
variable {P : Program} {w : World} {K : PySem.W.Frag} {mg : Str → Option Value} {base : Heap}
theorem ok_pick {f : Addr} {fd : FuncData} (Fn : Fun K "_law_pick" "_law_pick" sPick f fd) (g : Glb mg) (hD : Has ⟨P, w, K, mg, base⟩ 1 "_law_draw" spDraw) : FnOk P w K mg base CX0 2 f fd ["_law_deal_here", "_law_some"] (spA spPick) := by
  refine fn_abs (k := 1) Fn scPick (fun ds M Post h => ?_) (fun cdv A outer s H E hr ds M Post h => ?_)
  · obtain ⟨_, _, _, rfl, _⟩ := h
    rfl
  · obtain ⟨p, q, l, rfl, hne, hl, hdl, post⟩ := h
    have hpos := List.length_pos_iff.mpr hne
    refine ab_one (as_ret (ae_ix ix_list (ae_var 1 rfl (ae_call hD hr rfl (aa_cons (ae_var 0 rfl (aa_cons (ae_callB call_len_seq rfl g.len boot_len' (aa_cons (ae_var 1 rfl (aa_nil (rc_len (.inl rfl) (aa_nil ⟨p, q, l.length, rfl, hpos, hl, hdl, fun r M' hr' hd' hs => ?_⟩)))))))))))))
    exact rr_ixL r rfl (ixN_of hr') (List.getElem?_eq_getElem hr') (post _ M' (List.getElem_mem hr') hd' hs)
theorem ok_mixed {f : Addr} {fd : FuncData} (Fn : Fun K "_law_mixed" "_law_mixed" sMixed f fd) (g : Glb mg) (hD : Has ⟨P, w, K, mg, base⟩ 1 "_law_draw" spDraw) : FnOk P w K mg base CX0 2 f fd ["_law_deal_here", "_law_some"] (spA spMixed) := by
  refine fn_abs (k := 1) Fn scMixed (fun ds M Post h => ?_) (fun cdv A outer s H E hr ds M Post h => ?_)
  · obtain ⟨_, _, _, _, rfl, _⟩ := h
    rfl
  · obtain ⟨p, q, d, l, rfl, hd, hl, hdl, post⟩ := h
    refine ab_cons (as_par 2 3 (aa_cons (ae_callTy call_list_of rfl g.list boot_list' (aa_cons (ae_var 1 rfl (aa_nil (rc_listOfO hd fun r hr0 => aa_cons (ae_lstO (aa_nil ⟨Nat.le_of_ble_eq_true rfl, fun ff hf => aa_nil ?_⟩))))))) ) rfl scMixed.nd)
    refine ⟨_, _, rfl, ?_⟩
    have hfr : ff ≠ r := fun z => by
      subst z
      rw [updM_same] at hf
      cases hf
    have hf0 : M ff = none := by
      rw [updM_ne hfr] at hf
      exact hf
    have hrp := hdl.nep hr0
    have hrq := hdl.neq hr0
    have hfp := hdl.nep hf0
    have hfq := hdl.neq hf0
    have h1r : updM (updM M r (.lst l)) ff (.lst []) r = some (.lst l) := by rw [updM_ne (Ne.symm hfr)]; exact updM_same
    refine ab_cons (as_for (ai_range rfl g.range (ae_callB call_len_seq rfl g.len boot_len' (aa_cons (ae_var 2 rfl (aa_nil (rc_len (.inl (deref_own h1r)) ⟨l.length, rfl, hl, fun i ρ' M' => ∃ (o4 : Option D) (rs fs : List D), ρ' = [some (.adr p), some d, some (.adr r), some (.adr ff), o4] ∧ M' r = some (.lst rs) ∧ M' ff = some (.lst fs) ∧ (rs ++ fs).Perm l ∧ rs.length + i = l.length ∧ fs.length = i ∧ DealAt M' p q ∧ (∀ a, a ≠ p → a ≠ q → a ≠ r → a ≠ ff → M' a = M a), ?_, ?_, ?_, ?_⟩)))))))
    · refine ⟨none, l, [], rfl, h1r, updM_same, by rw [List.append_nil], rfl, rfl, (hdl.upd hr0).upd hf, fun a h1 h2 h3 h4 => by rw [updM_ne h4, updM_ne h3]⟩
    · rintro i ρ' M' _
      exact True.intro
    · rintro i x ρ' M' hx ⟨o4, rs, fs, rfl, hR, hF, hp, hlen, hfl, hd', hsb⟩
      have hil : i < l.length := by
        have := (List.getElem?_eq_some_iff.mp hx).1
        simpa using this
      have hrs : 0 < rs.length := by omega
      refine ag_name 4 ?_ scMixed.nd
      refine ab_one (as_expr (ae_bmL PySem.F.plainAttrs_list PySem.F.slot_list_append (by kernel_rfl) mt_append (ae_var 3 rfl ⟨⟨_, deref_own hF⟩, aa_cons ?_⟩)))
      refine ae_bmL PySem.F.plainAttrs_list PySem.F.slot_list_pop (by kernel_rfl) mt_popAt (ae_var 2 rfl ⟨⟨_, deref_own hR⟩, aa_cons ?_⟩)
      refine ae_call hD hr rfl (aa_cons (ae_var 0 rfl (aa_cons (ae_callB call_len_seq rfl g.len boot_len' (aa_cons (ae_var 2 rfl (aa_nil (rc_len (.inl (deref_own hR)) (aa_nil ⟨p, q, rs.length, rfl, hrs, by omega, hd', fun j M2 hj hd2 hs2 => aa_nil ?_⟩)))))))))
      have hR2 : M2 r = some (.lst rs) := by rw [hs2 r hrp hrq]; exact hR
      have hF2 : M2 ff = some (.lst fs) := by rw [hs2 ff hfp hfq]; exact hF
      refine rm_popAt (j := j) hR2 (by omega) (List.getElem?_eq_getElem hj) (aa_nil (rm_append (ds := fs) ?_ (by omega) ?_))
      · rw [updM_ne hfr]
        exact hF2
      refine ⟨_, rs.eraseIdx j, fs ++ [rs[j]], rfl, ?_, updM_same, ?_, ?_, ?_, ?_, ?_⟩
      · rw [updM_ne (Ne.symm hfr)]
        exact updM_same
      · refine List.Perm.trans ?_ hp
        have h1 : (rs[j] :: rs.eraseIdx j).Perm rs := by
          have := List.perm_middle (a := rs[j]) (l₁ := rs.take j) (l₂ := rs.drop (j + 1))
          rw [List.eraseIdx_eq_take_drop_succ]
          refine this.symm.trans ?_
          rw [List.getElem_cons_drop, List.take_append_drop]
        rw [← List.append_assoc]
        refine (List.perm_append_comm (l₁ := rs.eraseIdx j ++ fs) (l₂ := [rs[j]])).trans ?_
        show (rs[j] :: (rs.eraseIdx j ++ fs)).Perm (rs ++ fs)
        exact h1.append_right fs
      · rw [List.length_eraseIdx, if_pos hj]
        omega
      · rw [List.length_append, hfl]
        rfl
      · have hp2 : p ≠ r := Ne.symm hrp
        obtain ⟨ns, m, e1, e2, e3⟩ := hd2.at_
        refine ⟨hd2.ne, ns, m, ?_, ?_, e3⟩
        · rw [updM_ne (Ne.symm hfp), updM_ne (Ne.symm hrp)]
          exact e1
        · rw [updM_ne (Ne.symm hfq), updM_ne (Ne.symm hrq)]
          exact e2
      · intro a h1 h2 h3 h4
        rw [updM_ne h4, updM_ne h3, hs2 a h1 h2]
        exact hsb a h1 h2 h3 h4
    · rintro ρ' M' ⟨o4, rs, fs, rfl, hR, hF, hp, hlen, hfl, hd', hsb⟩
      rw [List.length_map, List.length_range] at hlen hfl
      have hrs0 : rs = [] := List.eq_nil_of_length_eq_zero (by omega)
      subst hrs0
      refine ab_give 3 rfl hF (.inl ⟨_, rfl⟩) ?_
      have hR2 : delM M' ff r = some (.lst []) := by rw [delM_ne (Ne.symm hfr)]; exact hR
      refine ab_one (as_ret (ae_le (ae_var 3 rfl ⟨delM (delM M' ff) r, le_del (by intro l z; rw [hR2] at z; cases z), ?_⟩)))
      refine post fs _ hp ?_ ?_
      · obtain ⟨ns, m, e1, e2, e3⟩ := hd'.at_
        refine ⟨hd'.ne, ns, m, ?_, ?_, e3⟩
        · rw [delM_ne (Ne.symm hrp), delM_ne (Ne.symm hfp)]
          exact e1
        · rw [delM_ne (Ne.symm hrq), delM_ne (Ne.symm hfq)]
          exact e2
      · intro a h1 h2
        by_cases h3 : a = r
        · subst h3
          rw [delM_same]
          exact hr0.symm
        · rw [delM_ne h3]
          by_cases h4 : a = ff
          · subst h4
            rw [delM_same]
            exact hf0.symm
          · rw [delM_ne h4]
            exact hsb a h1 h2 h3 h4
theorem ok_titles {f : Addr} {fd : FuncData} (Fn : Fun K "_law_titles" "_law_titles" sTitles f fd) (hM : Has ⟨P, w, K, mg, base⟩ 2 "_law_mixed" spMixed) : FnOk P w K mg base CX0 3 f fd ["_law_deal_here", "_law_many"] (spA spTitles) := by
  refine fn_abs (k := 2) Fn scTitles (fun ds M Post h => ?_) (fun cdv A outer s H E hr ds M Post h => ?_)
  · obtain ⟨_, _, _, rfl, _⟩ := h
    rfl
  · obtain ⟨p, q, many, rfl, hm, hdl, post⟩ := h
    refine ab_cons ?_
    generalize he : Expr.List _ _ = e
    refine as_set 2 ?_ scTitles.nd rfl (Or.inl rfl) (by rw [← he]; rfl) (Or.inr rfl)
    refine ae_strsE [("ann", _, _), ("bob", _, _), ("cid", _, _), ("dan", _, _), ("eve", _, _), ("a", _, _), ("b", _, _), ("ab", _, _), ("zzzzz", _, _), ("will", _, _), ("first", _, _), ("crow", _, _)] he (Nat.le_of_ble_eq_true rfl) ?_
    clear he e
    refine ab_one (as_ret (ae_slice sl_list (ae_call hM hr rfl (aa_cons (ae_var 0 rfl (aa_cons (ae_var 2 rfl (aa_nil ⟨p, q, _, titles12.map .str, rfl, .inl rfl, by decide, hdl, fun l' M' hp hd hs => ao_none (ao_some (ae_var 1 rfl ⟨_, rfl, rsl_list rfl ?_⟩))⟩))))))))
    have hl := hp.length_eq
    rw [List.length_map] at hl
    have hl12 : titles12.length = 12 := rfl
    rw [cut_to _ (by omega)]
    obtain ⟨k, hk, rfl⟩ := perm_str hp
    rw [← List.map_take]
    have hkn : k.Nodup := hk.nodup_iff.mpr (by decide +kernel)
    refine post (k.take many) M' (hkn.sublist (List.take_sublist _ _)) (fun x hx => hk.subset (List.mem_of_mem_take hx)) ?_ hd hs
    rw [List.length_take, hk.length_eq, hl12]
    omega
end
end Hr
set_option Elab.async false
set_option linter.all false
set_option maxRecDepth 100000
set_option maxHeartbeats 4000000
set_option exponentiation.threshold 300000
/-! HeirL3: the deal. -/
namespace Hr
open PySem L2
open PyProof.Rows (sortedS envOfC)
section
variable {P : Program} {w : World} {K : PySem.W.Frag} {mg : Str → Option Value} {base : Heap}
theorem ok_deal {f : Addr} {fd : FuncData} (Fn : Fun K "_law_deal" "_law_deal" sDeal f fd) (g : Glb mg) : FnOk P w K mg base CX0 1 f fd ["_law_script", "_law_base"] (spA (spDeal K)) := by
  refine fn_abs (k := 0) Fn scDeal (fun ds M Post h => ?_) (fun cdv A outer s H E hr ds M Post h => ?_)
  · obtain ⟨_, _, rfl, _⟩ := h
    rfl
  · obtain ⟨Pr, ns, rfl, hP, post⟩ := h
    let ms : List Int := cutD ns (some 0) (some 60)
    have hms : ms.length ≤ 60 := by
      show (cutD ns (some 0) (some 60)).length ≤ 60
      unfold cutD
      rw [show (60 : Int) = ((60 : Nat) : Int) from rfl, show (0 : Int) = ((0 : Nat) : Int) from rfl, HT.sIx_nat, HT.sIx_nat, List.length_take]
      omega
    have hcut : cutD (ns.map D.int) (some 0) (some 60) = ms.map D.int := by
      show cutD (ns.map D.int) (some 0) (some 60) = (cutD ns (some 0) (some 60)).map D.int
      unfold cutD
      rw [List.length_map, List.map_take, List.map_drop]
    let ab : List Int := ms.map fun i => if i < 0 then -i else i
    have hab : ∀ n ∈ ab, 0 ≤ n := fun n hn => by
      obtain ⟨i, _, rfl⟩ := List.mem_map.mp hn
      split <;> omega
    have habl : ab.length ≤ 60 := by
      show (ms.map _).length ≤ 60
      rw [List.length_map]
      exact hms
    refine ab_cons (as_setL 2 [("_law_cell", 4)] rfl scDeal.nd (blkOk_by (by kernel_rfl)) (al_map ms D.int (fun i => D.int (if i < 0 then -i else i)) ?_))
    refine ai_seq (ae_slice sl_list (ae_var 0 rfl (ao_some (ae_var 1 rfl ⟨0, rfl, ao_some (ae_int ⟨60, rfl, rsl_listX rfl hP ?_⟩)⟩))))
    rw [hcut]
    refine ⟨_, .inl rfl, rfl, by omega, .inl rfl, fun x hx s H C cl fp => ?_, ?_⟩
    · refine agc_name 4 (fun s H C cl fp => ?_) (by decide) scDeal.nd
      exact ae_callB call_abs rfl g.abs (by decide +kernel) (aa_cons (ae_var 4 rfl (aa_nil (rc_abs ⟨rfl, rfl⟩))))
    rw [show (ms.map fun i => D.int (if i < 0 then -i else i)) = ab.map D.int from by show _ = (ms.map _).map _; rw [List.map_map]; rfl]
    refine ab_cons (as_set 3 (ae_bin op_add (ae_int (ae_bin op_mul (ae_int (ae_var 1 rfl (rr_int (.inl ⟨by decide, by decide⟩) (rr_add ?_))))))) scDeal.nd)
    refine ab_cons (as_for (ai_seq (ae_var 2 rfl ⟨_, .inl rfl, fun i ρ' M' => M' = M ∧ ∃ (o4 : Option D) (m : Nat), m < 2147483647 ∧ ρ' = [some (.opq Pr), some (.int 0), some (.lst (ab.map D.int)), some (.int (m : Int)), o4], ?_, ?_, ?_, ?_⟩)))
    · exact ⟨rfl, none, 36195017, by decide, congrArg (fun z : Int => [some (D.opq Pr), some (D.int 0), some (D.lst (ab.map D.int)), some (D.int z), none]) (show (36195017 : Int) + 43 * 0 = ((36195017 : Nat) : Int) from by decide)⟩
    · rintro i ρ' M' _
      exact .inl rfl
    · rintro i x ρ' M' hx ⟨rfl, o4, m, hm, rfl⟩
      rw [List.getElem?_map] at hx
      obtain ⟨y, hy, rfl⟩ := Option.map_eq_some_iff.mp hx
      refine ag_name 4 ?_ scDeal.nd
      refine ab_one (as_set 3 (ae_bin op_mod ?_) scDeal.nd)
      refine ae_callTy call_int1 rfl g.int boot_int' (aa_cons (ae_bin op_add (ae_bin op_mul (ae_var 3 rfl (ae_int (rr_int (.inr ⟨by decide, by decide⟩) ?_))))))
      refine ae_bin op_mod (ae_callTy call_int1 rfl g.int boot_int' (aa_cons (ae_var 4 rfl (aa_nil (rc_int (ae_int (rr_int (by decide) (rr_add (aa_nil (rc_int (ae_int (rr_int (by decide) ?_))))))))))))
      have h1 := Int.emod_nonneg ((m : Int) * 16807 + y % 2147483629) (show (2147483647 : Int) ≠ 0 by decide)
      have h2 := Int.emod_lt_of_pos ((m : Int) * 16807 + y % 2147483629) (show (0 : Int) < 2147483647 by decide)
      refine ⟨rfl, some (.int y), (((m : Int) * 16807 + y % 2147483629) % 2147483647).toNat, by omega, ?_⟩
      rw [Int.toNat_of_nonneg h1]
      rfl
    · rintro ρ' M' ⟨rfl, o4, m, hm, rfl⟩
      refine ab_one (as_ret (ae_lstO (aa_cons (ae_revLO ?_))))
      refine ae_L [("_law_cell", 4)] rfl scDeal.nd (blkOk_by (by kernel_rfl)) (al_filter ab D.int D.int (fun i => decide ((10 : Int) ^ 18 ≤ i)) ?_)
      refine ai_seq (ae_var 2 rfl ⟨_, .inl rfl, rfl, by omega, .inl rfl, fun x hx s H C cl fp => ?_, ?_⟩)
      · refine agc_name 4 (fun s H C cl fp => ?_) (by decide) scDeal.nd
        refine at_cmp op_ge (nomark _) (ae_var 4 rfl (ae_bin op_pow (ae_int (ae_int (rr_int ⟨by decide, by decide, by decide⟩ (rr_bool ⟨_, rfl, ?_, rfl, fun _ s H C cl fp => ae_var 4 rfl ⟨rfl, rfl⟩⟩))))))
        rfl
      · refine ⟨_, rfl, fun q hq => aa_cons (ae_var 3 rfl (aa_nil ⟨Nat.le_of_ble_eq_true rfl, fun p hp => ?_⟩))⟩
        have hpq : p ≠ q := fun z => by
          subst z
          rw [updM_same] at hp
          cases hp
        refine post p q _ ⟨hpq, (ab.filter fun i => decide ((10 : Int) ^ 18 ≤ i)).reverse, m, updM_same, ?_, ?_, hm, fun n hn => hab n (List.mem_filter.mp (List.mem_reverse.mp hn)).1⟩ fun a h1 h2 => by rw [updM_ne h1, updM_ne h2]
        · rw [updM_ne (Ne.symm hpq), updM_same, List.map_reverse]
        · rw [List.length_reverse]
          exact Nat.le_trans (List.length_filter_le _ _) habl
end
end Hr
set_option Elab.async false
set_option linter.all false
set_option maxRecDepth 100000
set_option maxHeartbeats 4000000
set_option exponentiation.threshold 300000
/-! HeirL4: shares drawn, a family made, the law's own plus. -/
namespace Hr
open PySem L2
open PyProof.Rows (sortedS envOfC)
theorem scLShare : FnScope ["_law_deal_here", "_law_others", "_law_groups", "_law_turn"] ["_law_deal_here", "_law_others"] (defScope sLShare) := ⟨rfl, rfl, rfl, by decide +kernel, rfl, by decide +kernel, by decide +kernel⟩
theorem scMade : FnScope ["_law_family_here", "_law_wills", "_law_name", "_law_shares"] ["_law_family_here"] (defScope sMade) := ⟨rfl, rfl, rfl, by decide +kernel, rfl, by decide +kernel, by decide +kernel⟩
theorem scLDead : FnScope ["_law_family_here", "_law_name", "_law_shares"] ["_law_family_here"] (defScope sLDead) := ⟨rfl, rfl, rfl, by decide +kernel, rfl, by decide +kernel, by decide +kernel⟩
theorem scLLowest : FnScope ["_law_upper", "_law_lower", "_law_one", "_law_other"] ["_law_upper", "_law_lower"] (defScope sLLowest) := ⟨rfl, rfl, rfl, by decide +kernel, rfl, by decide +kernel, by decide +kernel⟩
theorem scLPlus : FnScope ["_law_one", "_law_other"] ["_law_one", "_law_other"] (defScope sLPlus) := ⟨rfl, rfl, rfl, by decide +kernel, rfl, by decide +kernel, by decide +kernel⟩
theorem scKeeps : FnScope ["_law_order", "_law_facts", "_law_first", "_law_then"] ["_law_order", "_law_facts"] (defScope sKeeps) := ⟨rfl, rfl, rfl, by decide +kernel, rfl, by decide +kernel, by decide +kernel⟩
/-- a share as drawn -/
structure ShRaw (others : List Str) (s : Share) : Prop where
  w1 : 1 ≤ s.1
  w9 : s.1 ≤ 9
  gr : s.2.length ≤ 3
  ne : ∀ g ∈ s.2, g ≠ []
  gl : ∀ g ∈ s.2, g.length ≤ 3
  nd : ∀ g ∈ s.2, g.Nodup
  in_ : ∀ g ∈ s.2, ∀ x ∈ g, x ∈ others
def spLShare : ASp := fun ds M Post => ∃ (p q : Addr) (others : List Str), ds = [.adr p, encNs others] ∧ others ≠ [] ∧ others.Nodup ∧ others.length ≤ 12 ∧ DealAt M p q ∧ ∀ (s : Share) M', ShRaw others s → DealAt M' p q → SB p q M M' → Post (encShIn s) M'
/-- a family as the law deals it: the wills' shares as drawn -/
structure RawOk (r : Fam) : Prop where
  pn : r.people ≠ []
  pf : r.people.length ≤ 14
  po : ∀ p ∈ r.people, NameOk p.1
  pd : (r.people.map (·.1)).Nodup
  pa : ∀ p ∈ r.people, p.2 ≤ 2 ^ 40
  wf : r.wills.length ≤ 8
  wd : (r.wills.map (·.1)).Nodup
  wi : ∀ x ∈ r.wills, x.1 ∈ r.people.map (·.1)
  ws : ∀ x ∈ r.wills, x.2 ≠ [] ∧ x.2.length ≤ 3 ∧ ∀ s ∈ x.2, ShRaw ((r.people.map (·.1)).filter fun y => !decide (y = x.1)) s
  ff : r.facts.length ≤ 10
  fo : ∃ o : List Str, o.Nodup ∧ o.length ≤ 30 ∧ (∀ d, d ∈ o ↔ d ∈ r.wills.map (·.1)) ∧ Keeps o r.facts
def encWl (x : Str × List Share) : D := .tup [.str x.1, .lst (x.2.map encShIn)]
def encRaw (r : Fam) : List (Str × D) := [("people", .lst (r.people.map encPe)), ("wills", .lst (r.wills.map encWl)), ("facts", .lst (r.facts.map encFa))]
/-- the family made of it -/
def Fam.norm (r : Fam) : Fam := ⟨r.people, r.wills.map fun x => (x.1, x.2.map normSh), r.facts⟩
theorem RawOk.nm {r : Fam} (h : RawOk r) : ∀ x ∈ r.people.map (·.1), NameOk x := fun x hx => by
  obtain ⟨p, hp, rfl⟩ := List.mem_map.mp hx
  exact h.po p hp
theorem ShRaw.ok {others : List Str} {s : Share} (h : ShRaw others s) (hn : ∀ x ∈ others, NameOk x) : ShareOk s :=
  ⟨h.w1, fun g hg => ⟨h.ne g hg, fun x hx => hn x (h.in_ g hg x hx), h.nd g hg, Nat.le_trans (h.gl g hg) (by decide)⟩, Nat.le_trans h.gr (by decide)⟩
theorem RawOk.shares {r : Fam} (h : RawOk r) {x : Str × List Share} (hx : x ∈ r.wills) : SharesOk x.2 := by
  obtain ⟨h1, h2, h3⟩ := h.ws x hx
  exact ⟨h1, fun s hs => (h3 s hs).ok fun y hy => h.nm y (List.mem_filter.mp hy).1, fun s hs g hg => Nat.lt_of_le_of_lt ((h3 s hs).gl g hg) (by decide), by omega⟩
theorem RawOk.shb {r : Fam} (h : RawOk r) {x : Str × List Share} (hx : x ∈ r.wills) : ShB (x.2.map normSh) := by
  obtain ⟨h1, h2, h3⟩ := h.ws x hx
  have key : ∀ s ∈ x.2.map normSh, ∃ s0 ∈ x.2, s = normSh s0 := fun s hs => by
    obtain ⟨s0, h0, rfl⟩ := List.mem_map.mp hs
    exact ⟨s0, h0, rfl⟩
  have kg : ∀ s ∈ x.2.map normSh, ∀ g ∈ s.2, ∃ s0 ∈ x.2, ∃ g0 ∈ s0.2, g = srt g0 := fun s hs g hg => by
    obtain ⟨s0, h0, rfl⟩ := key s hs
    obtain ⟨g0, hg0, rfl⟩ := List.mem_map.mp hg
    exact ⟨s0, h0, g0, hg0, rfl⟩
  refine ⟨fun z => h1 (by simpa using z), by rw [List.length_map]; exact h2, fun s hs => ?_, fun s hs => ?_, fun s hs => ?_, fun s hs g hg => ?_, fun s hs g hg => ?_, fun s hs g hg y hy => ?_⟩
  · obtain ⟨s0, h0, rfl⟩ := key s hs
    exact (h3 s0 h0).w1
  · obtain ⟨s0, h0, rfl⟩ := key s hs
    exact (h3 s0 h0).w9
  · obtain ⟨s0, h0, rfl⟩ := key s hs
    show (s0.2.map srt).length ≤ 3
    rw [List.length_map]
    exact (h3 s0 h0).gr
  · obtain ⟨s0, h0, g0, hg0, rfl⟩ := kg s hs g hg
    rw [srt_len]
    exact (h3 s0 h0).gl g0 hg0
  · obtain ⟨s0, h0, g0, hg0, rfl⟩ := kg s hs g hg
    exact srt_nodup.mpr ((h3 s0 h0).nd g0 hg0)
  · obtain ⟨s0, h0, g0, hg0, rfl⟩ := kg s hs g hg
    exact h.nm y (List.mem_filter.mp ((h3 s0 h0).in_ g0 hg0 y (mem_srt.mp hy))).1
theorem norm_dead (r : Fam) : r.norm.dead = r.wills.map (·.1) := by
  unfold Fam.norm Fam.dead
  rw [List.map_map]
  rfl
theorem RawOk.fam {r : Fam} (h : RawOk r) : FamOk r.norm := by
  refine ⟨⟨h.pn, Nat.le_trans h.pf (by decide), h.po, h.pd⟩, ⟨?_, ?_, ?_, ?_, ?_⟩, ⟨Nat.le_trans h.ff (by decide), ?_⟩⟩
  · show (r.wills.map _).length ≤ 30
    rw [List.length_map]
    exact Nat.le_trans h.wf (by decide)
  · show (r.norm.dead).Nodup
    rw [norm_dead]
    exact h.wd
  · intro x hx
    obtain ⟨y, hy, rfl⟩ := List.mem_map.mp hx
    exact h.wi y hy
  · intro x hx
    obtain ⟨y, hy, rfl⟩ := List.mem_map.mp hx
    exact h.shb hy
  · intro x hx s hs g hg z hz
    obtain ⟨y, hy, rfl⟩ := List.mem_map.mp hx
    obtain ⟨s0, h0, rfl⟩ := List.mem_map.mp hs
    obtain ⟨g0, hg0, rfl⟩ := List.mem_map.mp hg
    obtain ⟨_, _, h3⟩ := h.ws y hy
    obtain ⟨k1, k2⟩ := List.mem_filter.mp ((h3 s0 h0).in_ g0 hg0 z (mem_srt.mp hz))
    exact ⟨k1, by simpa using k2⟩
  · obtain ⟨o, o1, o2, o3, o4⟩ := h.fo
    exact ⟨o, o1, o2, fun d => by rw [norm_dead]; exact o3 d, o4⟩
def spMade (F W : Addr) : ASp := fun ds M Post => ∃ (a : Addr) (r : Fam), ds = [.adr a] ∧ M a = some (.dct (encRaw r)) ∧ RawOk r ∧ Post (encFam F W r.norm) M
def spLDead : ASp := fun ds M Post => ∃ (a : Addr) (r : Fam), ds = [.adr a] ∧ M a = some (.dct (encRaw r)) ∧ RawOk r ∧ Post (encNs (srt (r.wills.map (·.1)))) M
def spLLowest : ASp := fun ds M Post => ∃ a b : Nat, ds = [.int (a : Int), .int (b : Int)] ∧ 0 < b ∧ b < 2 ^ 9000 ∧ Post (encF (low a b)) M
def spLPlus : ASp := fun ds M Post => ∃ x y : Fr, ds = [encF x, encF y] ∧ FrOk x y ∧ Post (encF (plusF x y)) M
section
variable {P : Program} {w : World} {K : PySem.W.Frag} {mg : Str → Option Value} {base : Heap}
theorem ok_lshare {f : Addr} {fd : FuncData} (Fn : Fun K "_law_share" "_law_share" sLShare f fd) (g : Glb mg) (hP : Has ⟨P, w, K, mg, base⟩ 2 "_law_pick" spPick) (hM : Has ⟨P, w, K, mg, base⟩ 2 "_law_mixed" spMixed) (hD : Has ⟨P, w, K, mg, base⟩ 1 "_law_draw" spDraw) : FnOk P w K mg base CX0 3 f fd ["_law_deal_here", "_law_others"] (spA spLShare) := by
  refine fn_abs (k := 2) Fn scLShare (fun ds M Post h => ?_) (fun cdv A outer s H E hr ds M Post h => ?_)
  · obtain ⟨_, _, _, rfl, _⟩ := h
    rfl
  · obtain ⟨p, q, others, rfl, hone, hnd, hol, hdl, post⟩ := h
    have hr1 : Room 1 _ := hr.mono (by decide)
    refine ab_cons (as_set 2 (ae_lstO (aa_nil ⟨Nat.le_of_ble_eq_true rfl, fun u hu => ?_⟩)) scLShare.nd)
    have hup := hdl.nep hu
    have huq := hdl.neq hu
    refine ab_cons (as_for (ai_range rfl g.range (ae_call hP hr rfl (aa_cons (ae_var 0 rfl (aa_cons (ae_lst (aa_ints [(0, _, _), (1, _, _), (1, _, _), (2, _, _), (2, _, _), (3, _, _)] ⟨Nat.le_of_ble_eq_true rfl, aa_nil ⟨p, q, _, rfl, (by intro z; cases z), Nat.le_of_ble_eq_true rfl, hdl.upd hu, fun x M1 hx hd1 hs1 => ?_⟩⟩))))))))
    have hx3 : ∃ j : Nat, x = .int (j : Int) ∧ j ≤ 3 := by
      simp only [List.map_cons, List.map_nil, List.mem_cons, List.not_mem_nil, or_false] at hx
      rcases hx with e | e | e | e | e | e
      · exact ⟨0, e, by decide⟩
      · exact ⟨1, e, by decide⟩
      · exact ⟨1, e, by decide⟩
      · exact ⟨2, e, by decide⟩
      · exact ⟨2, e, by decide⟩
      · exact ⟨3, e, by decide⟩
    obtain ⟨j, rfl, hj⟩ := hx3
    have hs0 : ∀ a, a ≠ p → a ≠ q → a ≠ u → M1 a = M a := fun a h1 h2 h3 => by rw [hs1 a h1 h2, updM_ne h3]
    have hu1 : M1 u = some (.lst []) := by rw [hs1 u hup huq]; exact updM_same
    refine ⟨j, rfl, by omega, fun i ρ' M' => ∃ (o3 : Option D) (gs : List (List Str)), ρ' = [some (.adr p), some (encNs others), some (.adr u), o3] ∧ M' u = some (.lst (gs.map encNs)) ∧ gs.length = i ∧ i ≤ j ∧ (∀ g ∈ gs, g ≠ [] ∧ g.length ≤ 3 ∧ g.Nodup ∧ ∀ x ∈ g, x ∈ others) ∧ DealAt M' p q ∧ (∀ a, a ≠ p → a ≠ q → a ≠ u → M' a = M a), ?_, ?_, ?_, ?_⟩
    · exact ⟨none, [], rfl, hu1, rfl, Nat.zero_le _, (fun g hg => nomatch hg), hd1, hs0⟩
    · rintro i ρ' M' _
      exact True.intro
    · rintro i x ρ' M' hx ⟨o3, gs, rfl, hU, hgl, hij, hgs, hd', hsb⟩
      have hij' : i < j := by
        have := (List.getElem?_eq_some_iff.mp hx).1
        simpa using this
      refine ag_name 3 ?_ scLShare.nd
      refine ab_one (as_expr (ae_bmL PySem.F.plainAttrs_list PySem.F.slot_list_append (by kernel_rfl) mt_append (ae_var 2 rfl ⟨⟨_, deref_own hU⟩, aa_cons ?_⟩)))
      refine ae_slice sl_list (ae_call hM hr rfl (aa_cons (ae_var 0 rfl (aa_cons (ae_var 1 rfl (aa_nil ⟨p, q, _, others.map .str, rfl, .inl rfl, by rw [List.length_map]; omega, hd', fun l' M2 hp hd2 hs2 => ?_⟩))))))
      obtain ⟨k, hk, rfl⟩ := perm_str hp
      refine ao_none (ao_some (ae_bin op_add (ae_int (ae_call hD hr1 rfl (aa_cons (ae_var 0 rfl (aa_cons (ae_int (aa_nil ⟨p, q, 3, rfl, by decide, by decide, hd2, fun t M3 ht hd3 hs3 => rr_add ⟨_, rfl, rsl_list rfl (aa_nil ?_)⟩⟩)))))))))
      have hU3 : M3 u = some (.lst (gs.map encNs)) := by rw [hs3 u hup huq, hs2 u hup huq]; exact hU
      have hkl := hk.length_eq
      have hop := List.length_pos_iff.mpr hone
      let n : Nat := min (1 + t) others.length
      have hcut : cutD (k.map D.str) none (some ((1 : Int) + (t : Int))) = (k.take n).map D.str := by
        show cutD (k.map D.str) none (some ((1 : Int) + (t : Int))) = (k.take (min (1 + t) others.length)).map D.str
        unfold cutD
        rw [show ((1 : Int) + (t : Int)) = (((1 + t : Nat)) : Int) from by omega, HT.sIx_none, HT.sIx_nat, List.length_map, hkl, List.map_take]
        simp
      rw [hcut]
      refine rm_append hU3 (by rw [List.length_map]; omega) ?_
      refine ⟨_, gs ++ [k.take n], rfl, ?_, by rw [List.length_append, hgl]; rfl, hij', fun g hg => ?_, ?_, fun a h1 h2 h3 => ?_⟩
      · rw [updM_same, List.map_append]
        rfl
      · rcases List.mem_append.mp hg with hg | hg
        · exact hgs g hg
        · rw [List.mem_singleton.mp hg]
          have hnl : (k.take n).length = n := by
            rw [List.length_take, hkl]
            show min (min (1 + t) others.length) others.length = min (1 + t) others.length
            omega
          have hn1 : 1 ≤ n ∧ n ≤ 3 := by
            show 1 ≤ min (1 + t) others.length ∧ min (1 + t) others.length ≤ 3
            omega
          exact ⟨fun z => by rw [z] at hnl; simp at hnl; omega, by omega, (hk.nodup_iff.mpr hnd).sublist (List.take_sublist _ _), fun x hx => hk.subset (List.mem_of_mem_take hx)⟩
      · obtain ⟨ns, m, e1, e2, e3⟩ := hd3.at_
        exact ⟨hd3.ne, ns, m, by rw [updM_ne (Ne.symm hup)]; exact e1, by rw [updM_ne (Ne.symm huq)]; exact e2, e3⟩
      · rw [updM_ne h3, hs3 a h1 h2, hs2 a h1 h2]
        exact hsb a h1 h2 h3
    · rintro ρ' M' ⟨o3, gs, rfl, hU, hgl, hij, hgs, hd', hsb⟩
      rw [List.length_map, List.length_range] at hgl
      refine ab_give 2 rfl hU (.inl ⟨_, rfl⟩) ?_
      have hd'' : DealAt (delM M' u) p q := by
        obtain ⟨ns, m, e1, e2, e3⟩ := hd'.at_
        exact ⟨hd'.ne, ns, m, by rw [delM_ne (Ne.symm hup)]; exact e1, by rw [delM_ne (Ne.symm huq)]; exact e2, e3⟩
      refine ab_one (as_ret (ae_tup (aa_cons (ae_call hP hr rfl (aa_cons (ae_var 0 rfl (aa_cons (ae_lst (aa_ints [(1, _, _), (1, _, _), (2, _, _), (3, _, _), (9, _, _)] ⟨Nat.le_of_ble_eq_true rfl, aa_nil ⟨p, q, _, rfl, (by intro z; cases z), Nat.le_of_ble_eq_true rfl, hd'', fun x M3 hx hd3 hs3 => aa_cons (ae_var 2 rfl (aa_nil ⟨Nat.le_of_ble_eq_true rfl, ?_⟩))⟩⟩)))))))))
      have hx9 : ∃ w : Nat, x = .int (w : Int) ∧ 1 ≤ w ∧ w ≤ 9 := by
        simp only [List.map_cons, List.map_nil, List.mem_cons, List.not_mem_nil, or_false] at hx
        rcases hx with e | e | e | e | e
        · exact ⟨1, e, by decide, by decide⟩
        · exact ⟨1, e, by decide, by decide⟩
        · exact ⟨2, e, by decide, by decide⟩
        · exact ⟨3, e, by decide, by decide⟩
        · exact ⟨9, e, by decide, by decide⟩
      obtain ⟨w', rfl, hw1, hw9⟩ := hx9
      refine post (w', gs) M3 ⟨hw1, hw9, (by show gs.length ≤ 3; omega), fun g hg => (hgs g hg).1, fun g hg => (hgs g hg).2.1, fun g hg => (hgs g hg).2.2.1, fun g hg => (hgs g hg).2.2.2⟩ hd3 fun a h1 h2 => ?_
      rw [hs3 a h1 h2]
      by_cases h3 : a = u
      · subst h3
        rw [delM_same]
        exact hu.symm
      · rw [delM_ne h3]
        exact hsb a h1 h2 h3
theorem ok_made {f F W : Addr} {fd : FuncData} (Fn : Fun K "_law_made" "_law_made" sMade f fd) (hW : HasK ⟨P, w, K, mg, base⟩ 4 "Will" W (spWillInit W)) (hF : HasK ⟨P, w, K, mg, base⟩ 5 "Family" F (spFamInit F W)) : FnOk P w K mg base CX0 7 f fd ["_law_family_here"] (spA (spMade F W)) := by
  refine fn_abs (k := 6) Fn scMade (fun ds M Post h => ?_) (fun cdv A outer s H E hr ds M Post h => ?_)
  · obtain ⟨_, _, rfl, _⟩ := h
    rfl
  · obtain ⟨a, r, rfl, ha, hro, post⟩ := h
    have hr5 : Room 5 _ := hr.mono (by decide)
    have hr0 : Room 0 _ := hr.mono (by decide)
    have l2 := hro.wf
    refine ab_cons (as_setL 1 [("_law_name", 2), ("_law_shares", 3)] rfl scMade.nd (blkOk_by (by kernel_rfl)) (al_map r.wills encWl (fun x => encWi W (x.1, x.2.map normSh)) ?_))
    refine ai_seq (ae_dget hr0 (ae_var 0 rfl (ae_str ⟨a, "wills", _, .lst (r.wills.map encWl), rfl, rfl, .inl ha, rfl, _, .inl rfl, rfl, by omega, .inl rfl, fun x hx s H C cl fp => ?_, ?_⟩)))
    · refine agc_two 2 3 (fun s H C cl fp => ?_) (by decide) (by decide) rfl scMade.nd
      refine ae_tup (aa_cons (ae_var 2 rfl (aa_cons (ae_make hW hr5 rfl (aa_cons (ae_var 3 rfl (aa_nil fun q hq => ⟨q, x.2, rfl, updM_same, hro.shares hx, rfl, _, updM_same, ?_⟩)))))))
      rw [updM_upd, delM_upd hq]
      exact aa_nil ⟨Nat.le_of_ble_eq_true rfl, rfl, rfl⟩
    refine ab_one (as_ret (ae_make hF hr rfl (aa_cons (ae_dget hr0 (ae_var 0 rfl (ae_str ⟨a, "people", _, .lst (r.people.map encPe), rfl, rfl, .inl ha, rfl, ?_⟩))))))
    refine aa_cons (ae_var 1 rfl (aa_cons (ae_dget hr0 (ae_var 0 rfl (ae_str ⟨a, "facts", _, .lst (r.facts.map encFa), rfl, rfl, .inl ha, rfl, aa_nil fun q hq => ?_⟩)))))
    refine ⟨q, _, _, _, r.norm, rfl, updM_same, .inl rfl, .inl ?_, .inl rfl, hro.fam, rfl, _, updM_same, ?_⟩
    · show D.lst (r.wills.map fun x => encWi W (x.1, x.2.map normSh)) = D.lst ((r.wills.map fun x => (x.1, x.2.map normSh)).map (encWi W))
      rw [List.map_map]
      rfl
    · rw [updM_upd, delM_upd hq]
      exact post
theorem ok_ldead {f : Addr} {fd : FuncData} (Fn : Fun K "_law_dead" "_law_dead" sLDead f fd) (g : Glb mg) : FnOk P w K mg base CX0 1 f fd ["_law_family_here"] (spA spLDead) := by
  refine fn_abs (k := 0) Fn scLDead (fun ds M Post h => ?_) (fun cdv A outer s H E hr ds M Post h => ?_)
  · obtain ⟨_, _, rfl, _⟩ := h
    rfl
  · obtain ⟨a, r, rfl, ha, hro, post⟩ := h
    have l2 := hro.wf
    refine ab_one (as_ret (ae_callB cr_sortedS rfl g.sorted boot_sorted' (aa_cons ?_)))
    refine ae_L [("_law_name", 1), ("_law_shares", 2)] rfl scLDead.nd (blkOk_by (by kernel_rfl)) (al_map r.wills encWl (fun x => D.str x.1) ?_)
    refine ai_seq (ae_dget hr (ae_var 0 rfl (ae_str ⟨a, "wills", _, .lst (r.wills.map encWl), rfl, rfl, .inl ha, rfl, _, .inl rfl, rfl, by omega, .inl rfl, fun x hx s H C cl fp => ?_, ?_⟩)))
    · refine agc_two 1 2 (fun s H C cl fp => ?_) (by decide) (by decide) rfl scLDead.nd
      exact ae_callTy SkE.call_str_str rfl g.str boot_str' (aa_cons (ae_var 1 rfl (aa_nil (rc_strS ⟨rfl, rfl⟩))))
    · refine aa_nil (rc_sorted (ns := r.wills.map (·.1)) (by rw [List.map_map]; rfl) (by rw [List.length_map]; omega) fun ys hp hs => ?_)
      rw [srt_eq hp hs]
      exact post
theorem ok_llowest {f : Addr} {fd : FuncData} (Fn : Fun K "_law_lowest" "_law_lowest" sLLowest f fd) (g : Glb mg) : FnOk P w K mg base CX0 1 f fd ["_law_upper", "_law_lower"] (spA spLLowest) := by
  refine fn_abs (k := 0) Fn scLLowest (fun ds M Post h => ?_) (fun cdv A outer s H E hr ds M Post h => ?_)
  · obtain ⟨a, b, rfl, _⟩ := h
    rfl
  · obtain ⟨a, b, rfl, hb, hb9, post⟩ := h
    have hg : 0 < Nat.gcd a b := Nat.gcd_pos_of_pos_right _ hb
    have hg9 : Nat.gcd a b < 2 ^ 9000 := Nat.lt_of_le_of_lt (Nat.gcd_le_right _ hb) hb9
    refine ab_cons (as_par 2 3 (aa_cons (ae_callB call_abs rfl g.abs (by decide +kernel) (aa_cons (ae_var 0 rfl (aa_nil (rc_abs (aa_cons (ae_var 1 rfl (aa_nil ⟨_, _, rfl, ?_⟩))))))))) rfl scLLowest.nd)
    rw [if_neg (by omega)]
    refine ab_cons (as_while (fun m ρ' M' => M' = M ∧ ∃ x y : Nat, ρ' = [some (.int (a : Int)), some (.int (b : Int)), some (.int (x : Int)), some (.int (y : Int))] ∧ Nat.gcd x y = Nat.gcd a b ∧ m = y) b ⟨rfl, a, b, rfl, rfl, rfl⟩ ?_)
    rintro m ρ' M' ⟨rfl, x, y, rfl, hg', rfl⟩
    refine at_cmp op_gt (nomark _) (ae_var 3 rfl (ae_int (rr_bool ⟨_, rfl, fun hk => ?_, fun hk => ?_⟩)))
    · have hy : 0 < m := by
        have := of_decide_eq_true hk
        omega
      refine ab_one (as_par 2 3 (aa_cons (ae_var 3 rfl (aa_cons (ae_bin op_mod (ae_callTy call_int1 rfl g.int boot_int' (aa_cons (ae_var 2 rfl (aa_nil (rc_int (ae_var 3 rfl (rr_int (by omega) (aa_nil ⟨_, _, rfl, ?_⟩)))))))))))) rfl scLLowest.nd)
      refine ⟨x % m, Nat.mod_lt _ hy, rfl, m, x % m, ?_, ?_, rfl⟩
      · show [some (D.int (a : Int)), some (D.int (b : Int)), some (D.int (m : Int)), some (D.int ((x : Int) % (m : Int)))] = _
        rw [Int.natCast_emod]
      · rw [← hg', Nat.gcd_comm x m, Nat.gcd_rec m x, Nat.gcd_comm]
    · have hy : m = 0 := by
        have := of_decide_eq_false hk
        omega
      subst hy
      rw [Nat.gcd_zero_right] at hg'
      subst hg'
      refine ab_one (as_ret (ae_if (at_cmp op_gt (nomark _) (ae_var 2 rfl (ae_int (rr_bool ⟨_, rfl, fun _ => ?_, fun q => ?_⟩))))))
      · refine ae_tup (aa_cons (ae_bin op_fdivW (ae_var 0 rfl (ae_var 2 rfl (rr_int (wdiv hg hg9) (aa_cons ?_))))))
        refine ae_bin op_fdivW (ae_var 1 rfl (ae_var 2 rfl (rr_int (wdiv hg hg9) (aa_nil ⟨Nat.le_of_ble_eq_true rfl, ?_⟩))))
        exact post
      · have := of_decide_eq_false q
        omega
theorem ok_lplus {f : Addr} {fd : FuncData} (Fn : Fun K "_law_plus" "_law_plus" sLPlus f fd) (hL : Has ⟨P, w, K, mg, base⟩ 1 "_law_lowest" spLLowest) : FnOk P w K mg base CX0 2 f fd ["_law_one", "_law_other"] (spA spLPlus) := by
  refine fn_abs (k := 1) Fn scLPlus (fun ds M Post h => ?_) (fun cdv A outer s H E hr ds M Post h => ?_)
  · obtain ⟨a, b, rfl, _⟩ := h
    rfl
  · obtain ⟨x, y, rfl, hb, post⟩ := h
    refine ab_one (as_ret (ae_call hL hr rfl (aa_cons (ae_bin op_add (ae_bin op_mulW (ae_ix ix_tup (ae_var 0 rfl (ae_int (rr_ixT 0 (.inl rfl) rfl rfl ?_)))))))))
    refine ae_ix ix_tup (ae_var 1 rfl (ae_int (rr_ixT 1 (.inl rfl) rfl rfl (rr_int (wmul hb.n1 (up9 hb.e2)) ?_))))
    refine ae_bin op_mulW (ae_ix ix_tup (ae_var 1 rfl (ae_int (rr_ixT 0 (.inl rfl) rfl rfl ?_))))
    refine ae_ix ix_tup (ae_var 0 rfl (ae_int (rr_ixT 1 (.inl rfl) rfl rfl (rr_int (wmul hb.n2 (up9 hb.e1)) (rr_add ?_)))))
    refine aa_cons (ae_bin op_mulW (ae_ix ix_tup (ae_var 0 rfl (ae_int (rr_ixT 1 (.inl rfl) rfl rfl ?_)))))
    refine ae_ix ix_tup (ae_var 1 rfl (ae_int (rr_ixT 1 (.inl rfl) rfl rfl (rr_int (wmul (up9 hb.e1) (up9 hb.e2)) (aa_nil ?_)))))
    refine ⟨x.1 * y.2 + y.1 * x.2, x.2 * y.2, ?_, Nat.mul_pos hb.p1 hb.p2, hb.d, post⟩
    simp only [Int.natCast_add, Int.natCast_mul]
end
end Hr
set_option Elab.async false
set_option linter.all false
set_option maxRecDepth 100000
set_option maxHeartbeats 4000000
set_option exponentiation.threshold 300000
/-! HeirL5: the family dealt. -/
namespace Hr
open PySem L2
open PyProof.Rows (sortedS envOfC)
theorem scLFam : FnScope ["_law_deal_here", "_law_dead_here", "_law_living_here", "_law_titles_here", "_law_gone", "_law_some", "_law_bound", "_law_wills", "_law_facts", "_law_name", "_law_others", "_law_turn", "_law_at", "_law_one"] ["_law_deal_here", "_law_dead_here", "_law_living_here"] (defScope sLFam) := ⟨rfl, rfl, rfl, by decide +kernel, rfl, by decide +kernel, by decide +kernel⟩
/-- any list that is another mixed, of things encoded -/
theorem perm_enc {α : Type} {f : α → D} : ∀ {l' : List D} {l : List α}, l'.Perm (l.map f) → ∃ k : List α, k.Perm l ∧ l' = k.map f
  | [], l, h => by
    have := h.length_eq
    rw [List.length_map] at this
    have e : l = [] := List.eq_nil_of_length_eq_zero this.symm
    subst e
    exact ⟨[], List.Perm.refl _, rfl⟩
  | d :: m, l, h => by
    have hd : d ∈ l.map f := h.subset List.mem_cons_self
    obtain ⟨x, hx, rfl⟩ := List.mem_map.mp hd
    obtain ⟨l1, l2, rfl⟩ := List.append_of_mem hx
    have h2 : (f x :: m).Perm (f x :: (l1 ++ l2).map f) := by
      refine h.trans ?_
      rw [List.map_append, List.map_cons, List.map_append]
      exact List.perm_middle
    obtain ⟨k, hk, rfl⟩ := perm_enc ((List.perm_cons (f x)).mp h2)
    exact ⟨x :: k, ((List.perm_cons x).mpr hk).trans List.perm_middle.symm, rfl⟩
def spLFam : ASp := fun ds M Post => ∃ (p q : Addr) (dead living : Nat), ds = [.adr p, .int (dead : Int), .int (living : Int)] ∧ 1 ≤ dead ∧ dead ≤ 4 ∧ 1 ≤ living ∧ living ≤ 2 ∧ DealAt M p q ∧
  ∀ (a : Addr) (r : Fam) M', RawOk r → (∀ x ∈ r.people.map (·.1), x ∈ titles12) → r.wills ≠ [] → r.people.length = dead + living → r.wills.length = dead → M a = none → M' a = some (.dct (encRaw r)) → DealAt M' p q → (∀ b, b ≠ p → b ≠ q → b ≠ a → M' b = M b) → Post (.adr a) M'
/-- only p, q and a few others changed -/
def SBx (p q : Addr) (xs : List Addr) (M M' : Mm) : Prop := ∀ a, a ≠ p → a ≠ q → a ∉ xs → M' a = M a
theorem DealAt.del {M : Mm} {p q u : Addr} (h : DealAt M p q) (hp : u ≠ p) (hq : u ≠ q) : DealAt (delM M u) p q := by
  obtain ⟨ns, m, e1, e2, e3⟩ := h.at_
  exact ⟨h.ne, ns, m, by rw [delM_ne (Ne.symm hp)]; exact e1, by rw [delM_ne (Ne.symm hq)]; exact e2, e3⟩
theorem DealAt.put {M : Mm} {p q u : Addr} {d : D} (h : DealAt M p q) (hp : u ≠ p) (hq : u ≠ q) : DealAt (updM M u d) p q := by
  obtain ⟨ns, m, e1, e2, e3⟩ := h.at_
  exact ⟨h.ne, ns, m, by rw [updM_ne (Ne.symm hp)]; exact e1, by rw [updM_ne (Ne.symm hq)]; exact e2, e3⟩
theorem names12_ok : ∀ x ∈ titles12, NameOk x := by
  intro x hx
  have h : ∀ x ∈ titles12, 0 < x.length ∧ x.length < 6 ∧ x ≠ "crown" ∧ ∀ c ∈ x.cps.toList, c ∈ letters.cps.toList := by decide +kernel
  obtain ⟨h1, h2, h3, h4⟩ := h x hx
  exact ⟨h1, h2, h3, h4⟩
theorem ShRaw.mono {o o' : List Str} {s : Share} (h : ShRaw o s) (hs : ∀ x ∈ o, x ∈ o') : ShRaw o' s := ⟨h.w1, h.w9, h.gr, h.ne, h.gl, h.nd, fun g hg x hx => hs x (h.in_ g hg x hx)⟩
theorem merge3 (a b c : D) : mergeD [] [(("people" : Str), a), ("wills", b), ("facts", c)] = [(("people" : Str), a), ("wills", b), ("facts", c)] := by
  have h1 : ¬ (("people" : Str) = "wills") := by decide +kernel
  have h2 : ¬ (("people" : Str) = "facts") := by decide +kernel
  have h3 : ¬ (("wills" : Str) = "facts") := by decide +kernel
  simp [mergeD, putD, h1, h2, h3]
section
variable {P : Program} {w : World} {K : PySem.W.Frag} {mg : Str → Option Value} {base : Heap}
theorem ok_lfam {f : Addr} {fd : FuncData} (Fn : Fun K "_law_family" "_law_family" sLFam f fd) (g : Glb mg) (hT : Has ⟨P, w, K, mg, base⟩ 3 "_law_titles" spTitles) (hP : Has ⟨P, w, K, mg, base⟩ 2 "_law_pick" spPick) (hM : Has ⟨P, w, K, mg, base⟩ 2 "_law_mixed" spMixed) (hD : Has ⟨P, w, K, mg, base⟩ 1 "_law_draw" spDraw) (hS : Has ⟨P, w, K, mg, base⟩ 3 "_law_share" spLShare) :
    FnOk P w K mg base CX0 4 f fd ["_law_deal_here", "_law_dead_here", "_law_living_here"] (spA spLFam) := by
  refine fn_abs (k := 3) Fn scLFam (fun ds M Post h => ?_) (fun cdv A outer s H E hr ds M Post h => ?_)
  · obtain ⟨_, _, _, _, rfl, _⟩ := h
    rfl
  · obtain ⟨p, q, dead, living, rfl, hd1, hd4, hl1, hl2, hdl, post⟩ := h
    have hr2 : Room 2 _ := hr.mono (by decide)
    have hr1 : Room 1 _ := hr.mono (by decide)
    refine ab_cons (as_set 3 (ae_call hT hr rfl (aa_cons (ae_var 0 rfl (aa_cons (ae_bin op_add (ae_var 1 rfl (ae_var 2 rfl (rr_add (aa_nil ⟨p, q, dead + living, rfl, by omega, hdl, fun ts M1 htn ht12 htl hdl1 hsb1 => ?_⟩))))))))) scLFam.nd)
    -- the dead, the amounts
    refine ab_cons (as_asg (ae_tup (aa_cons (ae_slice sl_list (ae_var 3 rfl (ao_none (ao_some (ae_var 1 rfl ⟨_, rfl, rsl_list rfl (aa_cons ?_)⟩))))))))
    rw [cut_to _ (by rw [List.length_map]; omega), ← List.map_take]
    refine ae_lst (aa_cons (ae_int (aa_cons (ae_int (aa_cons (ae_int (aa_cons (ae_int (aa_cons (ae_int (aa_cons (ae_bin op_pow (ae_int (ae_int (rr_int ⟨by decide, by decide, by decide⟩ (aa_nil ⟨Nat.le_of_ble_eq_true rfl, aa_nil ⟨Nat.le_of_ble_eq_true rfl, ?_⟩⟩))))))))))))))))
    refine ag_two 4 5 ?_ rfl scLFam.nd
    let gone : List Str := ts.take dead
    have hgl : gone.length = dead := by
      show (ts.take dead).length = dead
      rw [List.length_take]
      omega
    have hgn : gone.Nodup := htn.sublist (List.take_sublist _ _)
    have hgt : ∀ x ∈ gone, x ∈ ts := fun x hx => List.mem_of_mem_take hx
    have htl6 : ts.length ≤ 6 := by omega
    -- the people
    refine ab_cons (as_setL 6 [("_law_name", 9)] rfl scLFam.nd (blkOk_by (by kernel_rfl)) (al_0 ?_))
    refine ai_seq (ae_call hM hr2 rfl (aa_cons (ae_var 0 rfl (aa_cons (ae_var 3 rfl (aa_nil ⟨p, q, _, ts.map .str, rfl, .inl rfl, by rw [List.length_map]; omega, hdl1, fun l' M2 hp hd2 hs2 => ?_⟩))))))
    obtain ⟨k, hk, rfl⟩ := perm_str hp
    have hkl := hk.length_eq
    refine ⟨k.map .str, .inl rfl, fun i acc M' => ∃ am : List (Str × Nat), acc = am.map encPe ∧ am.map (·.1) = k.take i ∧ i ≤ k.length ∧ (∀ x ∈ am, x.2 ≤ 2 ^ 40) ∧ DealAt M' p q ∧ SB p q M M', by rw [List.length_map]; omega, ⟨[], rfl, rfl, Nat.zero_le _, (fun x hx => nomatch hx), hd2, hsb1.trans hs2⟩, ?_, ?_, ?_⟩
    · rintro i acc M' ⟨am, rfl, h1, h2, _⟩
      refine ⟨.inl rfl, ?_⟩
      have := congrArg List.length h1
      rw [List.length_map, List.length_take] at this
      rw [List.length_map]
      omega
    · rintro i acc M' d hd ⟨am, rfl, h1, h2, h3, h4, h5⟩ s0 H0 C0 cl fp
      rw [List.getElem?_map] at hd
      obtain ⟨n, hn, rfl⟩ := Option.map_eq_some_iff.mp hd
      refine agc_name 9 (fun s H C cl fp => ?_) (by decide) scLFam.nd
      refine ae_tup (aa_cons (ae_var 9 rfl (aa_cons (ae_call hP hr2 rfl (aa_cons (ae_var 0 rfl (aa_cons (ae_var 5 rfl (aa_nil ⟨p, q, _, rfl, (by intro z; cases z), Nat.le_of_ble_eq_true rfl, h4, fun x M3 hx hd3 hs3 => aa_nil ⟨Nat.le_of_ble_eq_true rfl, ?_⟩⟩)))))))))
      have hxn : ∃ w : Nat, x = .int (w : Int) ∧ w ≤ 2 ^ 40 := by
        simp only [List.mem_cons, List.not_mem_nil, or_false] at hx
        rcases hx with e | e | e | e | e | e
        · exact ⟨0, e, by decide⟩
        · exact ⟨1, e, by decide⟩
        · exact ⟨6, e, by decide⟩
        · exact ⟨12, e, by decide⟩
        · exact ⟨35, e, by decide⟩
        · exact ⟨10 ^ 9, e.trans (congrArg D.int (by decide)), by decide⟩
      obtain ⟨w', rfl, hw⟩ := hxn
      refine ⟨am ++ [(n, w')], ?_, ?_, (List.getElem?_eq_some_iff.mp hn).1, fun x hx => ?_, hd3, h5.trans hs3⟩
      · rw [List.map_append]
        rfl
      · rw [List.map_append, h1, take_next hn]
        rfl
      · rcases List.mem_append.mp hx with hx | hx
        · exact h3 x hx
        · rw [List.mem_singleton.mp hx]
          exact hw
    rintro acc M3 ⟨am, rfl, ham, _, ham2, hdl3, hsb3⟩
    rw [List.length_map, List.take_length] at ham
    -- the wills and the facts: two own lists
    refine ab_cons (as_par 7 8 (aa_cons (ae_lstO (aa_nil ⟨Nat.le_of_ble_eq_true rfl, fun u hu => aa_cons (ae_lstO (aa_nil ⟨Nat.le_of_ble_eq_true rfl, fun v hv => aa_nil ⟨_, _, rfl, ?_⟩⟩))⟩))) rfl scLFam.nd)
    have hvu : v ≠ u := fun z => by
      subst z
      rw [updM_same] at hv
      cases hv
    have hv0 : M3 v = none := by
      rw [updM_ne hvu] at hv
      exact hv
    have hup := hdl3.nep hu
    have huq := hdl3.neq hu
    have hvp := hdl3.nep hv0
    have hvq := hdl3.neq hv0
    refine ab_cons (as_for (ai_seq (ae_var 4 rfl ⟨gone.map .str, .inl rfl, fun i ρ' M' => ∃ (o9 o10 o11 o12 : Option D) (wl : List (Str × List Share)), ρ' = [some (.adr p), some (.int (dead : Int)), some (.int (living : Int)), some (encNs ts), some (.lst (gone.map .str)), some (.lst [.int 0, .int 1, .int 6, .int 12, .int 35, .int (10 ^ (9 : Int).toNat)]), some (.lst (am.map encPe)), some (.adr u), some (.adr v), o9, o10, o11, o12, none] ∧
      M' u = some (.lst (wl.map encWl)) ∧ M' v = some (.lst []) ∧ wl.map (·.1) = gone.take i ∧ (∀ x ∈ wl, x.2 ≠ [] ∧ x.2.length ≤ 3 ∧ ∀ s ∈ x.2, ShRaw (ts.filter fun y => !decide (y = x.1)) s) ∧ i ≤ gone.length ∧ DealAt M' p q ∧ (∀ a, a ≠ p → a ≠ q → a ≠ u → a ≠ v → M' a = M a), ?_, ?_, ?_, ?_⟩)))
    · refine ⟨none, none, none, none, [], rfl, ?_, updM_same, rfl, (fun x hx => nomatch hx), Nat.zero_le _, (hdl3.put hup huq).put hvp hvq, fun a h1 h2 h3 h4 => ?_⟩
      · rw [updM_ne (Ne.symm hvu)]
        exact updM_same
      · rw [updM_ne h4, updM_ne h3]
        exact hsb3 a h1 h2
    · rintro i ρ' M' _
      exact .inl rfl
    · rintro i x ρ' M' hx ⟨o9, o10, o11, o12, wl, rfl, hU, hV, hwl, hws, hig, hd', hsb⟩
      rw [List.getElem?_map] at hx
      obtain ⟨n, hn, rfl⟩ := Option.map_eq_some_iff.mp hx
      have hnm := List.mem_of_getElem? hn
      have higl : i < gone.length := (List.getElem?_eq_some_iff.mp hn).1
      have hwll : wl.length = i := by
        have := congrArg List.length hwl
        rw [List.length_map, List.length_take] at this
        omega
      refine ag_name 9 ?_ scLFam.nd
      let oth : List Str := ts.filter fun y => !decide (y = n)
      have hothn : oth.Nodup := htn.filter _
      have hoth0 : oth ≠ [] := by
        have h2 : 1 < ts.length := by omega
        intro z
        have h3 : ∀ y ∈ ts, y = n := fun y hy => by
          by_cases e : y = n
          · exact e
          · have : y ∈ oth := List.mem_filter.mpr ⟨hy, by simp [e]⟩
            rw [z] at this
            cases this
        have h4 := htn
        have e0 := h3 ts[0] (List.getElem_mem _)
        have e1 := h3 ts[1] (List.getElem_mem _)
        have := (List.getElem_inj (h₀ := by omega) (h₁ := h2) htn).mp (e0.trans e1.symm)
        omega
      refine ab_cons (as_set 10 (ae_L [("_law_one", 13)] rfl scLFam.nd (blkOk_by (by kernel_rfl)) (al_filter ts D.str D.str (fun y => !decide (y = n)) ?_)) scLFam.nd)
      refine ai_seq (ae_var 3 rfl ⟨_, .inl rfl, rfl, by omega, .inl rfl, fun x hx s H C cl fp => ?_, ?_⟩)
      · refine agc_name 13 (fun s H C cl fp => ?_) (by decide) scLFam.nd
        exact at_cmp op_ne (nomark _) (ae_var 13 rfl (ae_var 9 rfl (rr_neS ⟨_, rfl, rfl, rfl, fun _ s H C cl fp => ae_var 13 rfl ⟨rfl, rfl⟩⟩)))
      refine ab_one (as_expr (ae_bmL PySem.F.plainAttrs_list PySem.F.slot_list_append (by kernel_rfl) mt_append (ae_var 7 rfl ⟨⟨_, deref_own hU⟩, aa_cons (ae_tup (aa_cons (ae_var 9 rfl (aa_cons ?_))))⟩)))
      refine ae_L [("_law_turn", 11)] rfl scLFam.nd (blkOk_by (by kernel_rfl)) (al_0 ?_)
      refine ai_range rfl g.range (ae_bin op_add (ae_int (ae_call hD hr1 rfl (aa_cons (ae_var 0 rfl (aa_cons (ae_int (aa_nil ⟨p, q, 3, rfl, by decide, by decide, hd', fun t M4 ht hd4 hs4 => rr_add ⟨1 + t, (by simp), by omega, ?_⟩⟩))))))))
      refine ⟨fun j acc M' => ∃ ss : List Share, acc = ss.map encShIn ∧ ss.length = j ∧ (∀ s ∈ ss, ShRaw oth s) ∧ DealAt M' p q ∧ SB p q M4 M', by rw [List.length_map, List.length_range]; omega, ⟨[], rfl, rfl, (fun s hs => nomatch hs), hd4, SB.refl M4⟩, ?_, ?_, ?_⟩
      · rintro j acc M' ⟨ss, rfl, h1, _⟩
        exact ⟨True.intro, by rw [List.length_map, h1]; exact Nat.le_refl _⟩
      · rintro j acc M' d hd ⟨ss, rfl, h1, h2, h3, h4⟩ s0 H0 C0 cl fp
        refine agc_name 11 (fun s H C cl fp => ?_) (by decide) scLFam.nd
        refine ae_call hS hr rfl (aa_cons (ae_var 0 rfl (aa_cons (ae_var 10 rfl (aa_nil ⟨p, q, oth, rfl, hoth0, hothn, ?_, h3, fun s M5 hs hd5 hs5 => ?_⟩)))))
        · exact Nat.le_trans (List.length_filter_le _ _) (by omega)
        · refine ⟨ss ++ [s], ?_, by rw [List.length_append, h1]; rfl, fun x hx => ?_, hd5, h4.trans hs5⟩
          · rw [List.map_append]
            rfl
          · rcases List.mem_append.mp hx with hx | hx
            · exact h2 x hx
            · rw [List.mem_singleton.mp hx]
              exact hs
      rintro acc M5 ⟨ss, rfl, h1, h2, hd5, hs5⟩
      rw [List.length_map, List.length_range] at h1
      have hU5 : M5 u = some (.lst (wl.map encWl)) := by rw [hs5 u hup huq, hs4 u hup huq]; exact hU
      have hV5 : M5 v = some (.lst []) := by rw [hs5 v hvp hvq, hs4 v hvp hvq]; exact hV
      refine aa_nil ⟨Nat.le_of_ble_eq_true rfl, aa_nil (rm_append hU5 (by rw [List.length_map]; omega) ?_)⟩
      refine ⟨_, _, _, _, wl ++ [(n, ss)], rfl, ?_, ?_, ?_, fun x hx => ?_, higl, hd5.put hup huq, fun a h3 h4 h5 h6 => ?_⟩
      · rw [updM_same, List.map_append]
        rfl
      · rw [updM_ne hvu]
        exact hV5
      · rw [List.map_append, hwl, take_next hn]
        rfl
      · rcases List.mem_append.mp hx with hx | hx
        · exact hws x hx
        · rw [List.mem_singleton.mp hx]
          exact ⟨fun z => by rw [show ss = [] from z] at h1; simp at h1; omega, by show ss.length ≤ 3; omega, h2⟩
      · rw [updM_ne h5, hs5 a h3 h4, hs4 a h3 h4]
        exact hsb a h3 h4 h5 h6
    rintro ρ' M4 ⟨o9, o10, o11, o12, wl, rfl, hU, hV, hwl, hws, _, hd4', hsb4⟩
    rw [List.length_map, List.take_length] at hwl
    have hwll : wl.length = dead := by
      have := congrArg List.length hwl
      rw [List.length_map] at this
      omega
    -- the facts
    refine ab_cons (as_for (ai_range rfl g.range ((?_ : AE _ _ _ _ fun d M5 => ∃ j : Nat, d = .int (j : Int) ∧ j ≤ 2 ∧ (j = 0 ∨ 1 < dead) ∧ DealAt M5 p q ∧ SB p q M4 M5).mono fun d M5 ⟨j, hdj, hj2, hj1, hd5, hs5⟩ => ?_)))
    · refine ae_if (at_cmp op_gt (nomark _) (ae_var 1 rfl (ae_int (rr_bool ⟨_, rfl, fun hk => ?_, fun hk => ?_⟩))))
      · have hk' := of_decide_eq_true hk
        refine ae_call hD hr1 rfl (aa_cons (ae_var 0 rfl (aa_cons (ae_int (aa_nil ⟨p, q, 3, rfl, by decide, by decide, hd4', fun t M5 ht hd5 hs5 => ?_⟩)))))
        exact ⟨t, rfl, by omega, .inr (by omega), hd5, hs5⟩
      · exact ae_int ⟨0, rfl, by decide, .inl rfl, hd4', SB.refl M4⟩
    subst hdj
    have hU5 : M5 u = some (.lst (wl.map encWl)) := by rw [hs5 u hup huq]; exact hU
    have hV5 : M5 v = some (.lst []) := by rw [hs5 v hvp hvq]; exact hV
    refine ⟨j, rfl, by omega, fun i ρ' M' => ∃ (o9 o10 o11 o12 : Option D) (fa : List (Str × Str)), ρ' = [some (.adr p), some (.int (dead : Int)), some (.int (living : Int)), some (encNs ts), some (.lst (gone.map .str)), some (.lst [.int 0, .int 1, .int 6, .int 12, .int 35, .int (10 ^ (9 : Int).toNat)]), some (.lst (am.map encPe)), some (.adr u), some (.adr v), o9, o10, o11, o12, none] ∧
      M' u = some (.lst (wl.map encWl)) ∧ M' v = some (.lst (fa.map encFa)) ∧ fa.length = i ∧ i ≤ j ∧ Keeps gone fa ∧ DealAt M' p q ∧ (∀ a, a ≠ p → a ≠ q → a ≠ u → a ≠ v → M' a = M a), ?_, ?_, ?_, ?_⟩
    · exact ⟨o9, o10, o11, o12, [], rfl, hU5, hV5, rfl, Nat.zero_le _, (fun f hf => nomatch hf), hd5, fun a h1 h2 h3 h4 => by rw [hs5 a h1 h2]; exact hsb4 a h1 h2 h3 h4⟩
    · rintro i ρ' M' _
      exact True.intro
    · rintro i x ρ' M' hx ⟨o9, o10, o11, o12, fa, rfl, hU', hV', hfl, hij, hkp, hd', hsb'⟩
      have hij' : i < j := by
        have := (List.getElem?_eq_some_iff.mp hx).1
        simpa using this
      have hd2 : 1 < dead := by omega
      refine ag_name 11 ?_ scLFam.nd
      refine ab_cons (as_set 12 (ae_call hD hr1 rfl (aa_cons (ae_var 0 rfl (aa_cons (ae_bin op_sub (ae_var 1 rfl (ae_int (rr_sub (aa_nil ⟨p, q, dead - 1, ?_, by omega, by omega, hd', fun t M6 ht hd6 hs6 => ?_⟩))))))))) scLFam.nd)
      · rw [show ((dead : Int) - 1) = ((dead - 1 : Nat) : Int) from by omega]
      have hV6 : M6 v = some (.lst (fa.map encFa)) := by rw [hs6 v hvp hvq]; exact hV'
      have hgt : t < gone.length := by omega
      refine ab_one (as_expr (ae_bmL PySem.F.plainAttrs_list PySem.F.slot_list_append (by kernel_rfl) mt_append (ae_var 8 rfl ⟨⟨_, deref_own hV6⟩, aa_cons ?_⟩)))
      refine ae_tup (aa_cons (ae_ix ix_list (ae_var 4 rfl (ae_var 12 rfl (rr_ixL t rfl (by rw [List.length_map]; exact ixN_of hgt) (by rw [List.getElem?_map, List.getElem?_eq_getElem hgt]; rfl) ?_)))))
      refine aa_cons (ae_ix ix_list (ae_var 4 rfl (ae_bin op_add (ae_bin op_add (ae_var 12 rfl (ae_int (rr_add ?_)))))))
      refine ae_call hD hr1 rfl (aa_cons (ae_var 0 rfl (aa_cons (ae_bin op_sub (ae_bin op_sub (ae_var 1 rfl (ae_int (rr_sub (ae_var 12 rfl (rr_sub (aa_nil ⟨p, q, dead - 1 - t, ?_, by omega, by omega, hd6, fun t2 M7 ht2 hd7 hs7 => rr_add ?_⟩)))))))))))
      · rw [show ((dead : Int) - 1 - (t : Int)) = ((dead - 1 - t : Nat) : Int) from by omega]
      have hg2 : t + 1 + t2 < gone.length := by omega
      rw [show ((t : Int) + 1 + (t2 : Int)) = ((t + 1 + t2 : Nat) : Int) from by omega]
      refine rr_ixL (t + 1 + t2) rfl (by rw [List.length_map]; exact ixN_of hg2) (by rw [List.getElem?_map, List.getElem?_eq_getElem hg2]; rfl) ?_
      have hV7 : M7 v = some (.lst (fa.map encFa)) := by rw [hs7 v hvp hvq]; exact hV6
      have hU7 : M7 u = some (.lst (wl.map encWl)) := by rw [hs7 u hup huq, hs6 u hup huq]; exact hU'
      refine aa_nil ⟨Nat.le_of_ble_eq_true rfl, aa_nil (rm_append hV7 (by rw [List.length_map]; omega) ?_)⟩
      refine ⟨_, _, _, _, fa ++ [(gone[t], gone[t + 1 + t2])], rfl, ?_, ?_, by rw [List.length_append, hfl]; rfl, hij', fun f hf => ?_, hd7.put hvp hvq, fun a h1 h2 h3 h4 => ?_⟩
      · rw [updM_ne (Ne.symm hvu)]
        exact hU7
      · rw [updM_same, List.map_append]
        rfl
      · rcases List.mem_append.mp hf with hf | hf
        · exact hkp f hf
        · rw [List.mem_singleton.mp hf]
          exact ⟨t, t + 1 + t2, List.getElem?_eq_getElem hgt, List.getElem?_eq_getElem hg2, by omega⟩
      · rw [updM_ne h4, hs7 a h1 h2, hs6 a h1 h2]
        exact hsb' a h1 h2 h3 h4
    rintro ρ' M6 ⟨o9, o10, o11, o12, fa, rfl, hU6, hV6, hfl, _, hkp, hd6, hsb6⟩
    rw [List.length_map, List.length_range] at hfl
    -- the end
    refine ab_give 8 rfl hV6 (.inl ⟨_, rfl⟩) ?_
    have hU6' : delM M6 v u = some (.lst (wl.map encWl)) := by rw [delM_ne (Ne.symm hvu)]; exact hU6
    refine ab_one (as_ret (ae_le (ae_disp (ad_cons (ae_var 6 rfl (ad_cons ?_))))))
    refine ae_call hM hr2 rfl (aa_cons (ae_var 0 rfl (aa_cons (ae_var 7 rfl (aa_nil ⟨p, q, _, wl.map encWl, rfl, .inl (deref_own hU6'), by rw [List.length_map]; omega, hd6.del hvp hvq, fun l' M7 hp7 hd7 hs7 => ?_⟩)))))
    obtain ⟨wl', hwp, rfl⟩ := perm_enc hp7
    refine ad_cons (ae_var 8 rfl (ad_nil ⟨Nat.le_of_ble_eq_true rfl, fun a ha => ?_⟩))
    rw [merge3]
    have hu7 : M7 u = some (.lst (wl.map encWl)) := by rw [hs7 u hup huq]; exact hU6'
    have hau : a ≠ u := fun z => by
      rw [z, hu7] at ha
      cases ha
    have hwm : ∀ x, x ∈ wl' ↔ x ∈ wl := fun x => hwp.mem_iff
    have hpn : (am.map (·.1)).Perm ts := by rw [ham]; exact hk
    have hwn : (wl'.map (·.1)).Perm gone := by rw [← hwl]; exact hwp.map _
    have hwl' := hwp.length_eq
    have hgm : ∀ x ∈ gone, x ∈ am.map (·.1) := fun x hx => hpn.symm.subset (hgt x hx)
    have ham14 : am.length = dead + living := by
      have := hpn.length_eq
      rw [List.length_map] at this
      omega
    let r : Fam := ⟨am, wl', fa⟩
    have hraw : RawOk r := by
      refine ⟨fun z => ?_, ?_, fun x hx => ?_, hpn.nodup_iff.mpr htn, ham2, ?_, hwn.nodup_iff.mpr hgn, fun x hx => ?_, fun x hx => ?_, ?_, gone, hgn, by omega, fun d => hwn.mem_iff.symm, hkp⟩
      · have z' : am = [] := z
        rw [z'] at ham14
        simp at ham14
        omega
      · show am.length ≤ 14
        omega
      · exact names12_ok _ (ht12 _ (hpn.subset (List.mem_map.mpr ⟨x, hx, rfl⟩)))
      · show wl'.length ≤ 8
        omega
      · exact hgm _ (hwn.subset (List.mem_map.mpr ⟨x, hx, rfl⟩))
      · obtain ⟨k1, k2, k3⟩ := hws x ((hwm x).mp hx)
        refine ⟨k1, k2, fun s hs => (k3 s hs).mono fun y hy => ?_⟩
        obtain ⟨y1, y2⟩ := List.mem_filter.mp hy
        exact List.mem_filter.mpr ⟨hpn.symm.subset y1, y2⟩
      · show fa.length ≤ 10
        omega
    have hM7 : ∀ b, b ≠ p → b ≠ q → b ≠ u → b ≠ v → M7 b = M b := fun b h1 h2 h3 h4 => by
      rw [hs7 b h1 h2, delM_ne h4]
      exact hsb6 b h1 h2 h3 h4
    have hv7 : M7 v = none := by
      rw [hs7 v hvp hvq]
      exact delM_same
    have hMu : M u = none := by
      rw [← hsb3 u hup huq]
      exact hu
    have hMv : M v = none := by
      rw [← hsb3 v hvp hvq]
      exact hv0
    have hap := hd7.nep ha
    have haq := hd7.neq ha
    have hMa : M a = none := by
      by_cases hav : a = v
      · rw [hav]
        exact hMv
      · rw [← hM7 a hap haq hau hav]
        exact ha
    refine ⟨delM (updM M7 a (.dct (encRaw r))) u, le_del (fun l z => ?_), post a r _ hraw (fun x hx => ht12 _ (hpn.subset hx)) (fun z => ?_) ham14 (by show wl'.length = dead; omega) hMa ?_ ((hd7.put hap haq).del hup huq) fun b h1 h2 h3 => ?_⟩
    · rw [updM_ne (Ne.symm hau), hu7] at z
      cases z
    · have z' : wl' = [] := z
      rw [z'] at hwl'
      simp at hwl'
      omega
    · rw [delM_ne hau]
      exact updM_same
    · by_cases h4 : b = u
      · subst h4
        rw [delM_same]
        exact hMu.symm
      · rw [delM_ne h4, updM_ne h3]
        by_cases h5 : b = v
        · subst h5
          rw [hv7]
          exact hMv.symm
        · exact hM7 b h1 h2 h4 h5
end
end Hr
set_option Elab.async false
set_option linter.all false
set_option maxRecDepth 100000
set_option maxHeartbeats 4000000
set_option exponentiation.threshold 300000
/-! HeirL6: orders. -/
namespace Hr
open PySem L2
open PyProof.Rows (sortedS envOfC)
section
variable {X : Cx} {ρ : Rh} {M : Mm} {a b c : Expr} {pos : Pos}
theorem as_par3 (i j l : Nat) {x y z : Str} {px py pz pt : Pos} {kt k2 : Nat} {pt2 : Pos} {A : AEnds} (h : AA X [a, b, c] ρ M fun ds M1 => ∃ d d' d'', ds = [d, d', d''] ∧ A.nx (((ρ.set i (some d)).set j (some d')).set l (some d'')) M1) (hc : X.calm = true) (hN : X.N.Nodup) (hij : i ≠ j := by decide) (hil : i ≠ l := by decide) (hjl : j ≠ l := by decide) (hi : X.N[i]? = some x := by rfl) (hj : X.N[j]? = some y := by rfl) (hl : X.N[l]? = some z := by rfl)
    (hx : X.env.scope.names.lookup x = some .local := by rfl) (hy : X.env.scope.names.lookup y = some .local := by rfl) (hz : X.env.scope.names.lookup z = some .local := by rfl) (hw : swappedStores [.Tuple [.Name x px, .Name y py, .Name z pz] kt pt] (.Tuple [a, b, c] k2 pt2) X.env = pure (some [x, y, z]) := by rfl)
    (hs : swapsWithSole [.Tuple [.Name x px, .Name y py, .Name z pz] kt pt] (.Tuple [a, b, c] k2 pt2) pos.line X.env = pure false := by rfl) : AS X (.Assign [.Tuple [.Name x px, .Name y py, .Name z pz] kt pt] (.Tuple [a, b, c] k2 pt2) pos) ρ M A := fun G H σ Dn n r k =>
  wS_of (ps_par3 hc hN hi hj hl hij hil hjl hx hy hz pa_w hw hs) (h G H σ _ n r fun ds M1 vs G1 H1 ⟨d, d', d'', ed, p⟩ s1 r1 rvs => by
    subst ed
    obtain ⟨v1, q1, e4, w1, e5⟩ := reps_cons.mp rvs
    obtain ⟨v2, v3, e6, w2, w3⟩ := reps2 e5
    subst e6 e4
    exact ⟨v1, v2, v3, rfl, k.nx _ M1 _ G1 H1 p s1 (((r1.set i w1).set j w2).set l w3)⟩)
end
theorem scOrders : FnScope ["_law_family_here", "_law_found", "_law_gone", "_law_turn", "_law_longer", "_law_some", "_law_name", "_law_order"] ["_law_family_here"] (defScope sOrders) := ⟨rfl, rfl, rfl, by decide +kernel, rfl, by decide +kernel, by decide +kernel⟩
theorem scWoven : FnScope ["_law_deal_here", "_law_one", "_law_other", "_law_found", "_law_left", "_law_right", "_law_turn", "_law_is_left"] ["_law_deal_here", "_law_one", "_law_other"] (defScope sWoven) := ⟨rfl, rfl, rfl, by decide +kernel, rfl, by decide +kernel, by decide +kernel⟩
def encO (o : List Str) : D := .ptup (o.map .str)
/-- the order keeps the facts -/
def keepsB (o : List Str) (facts : List (Str × Str)) : Bool := facts.all fun f => decide (o.idxOf f.1 ≤ o.idxOf f.2)
def spKeeps : ASp := fun ds M Post => ∃ (o : List Str) (facts : List (Str × Str)), ds = [encO o, .lst (facts.map encFa)] ∧ (∀ f ∈ facts, f.1 ∈ o ∧ f.2 ∈ o) ∧ facts.length ≤ 100 ∧ Post (.bl (keepsB o facts)) M
theorem idx_le : ∀ {o : List Str} {m : Nat} {x : Str}, o[m]? = some x → o.idxOf x ≤ m
  | [], m, x, h => by simp at h
  | a :: o, 0, x, h => by
    have e : a = x := by simpa using h
    rw [e, List.idxOf_cons_self]
    exact Nat.le_refl _
  | a :: o, m + 1, x, h => by
    have h' : o[m]? = some x := by simpa using h
    have := idx_le h'
    rw [List.idxOf_cons]
    cases a == x
    · show o.idxOf x + 1 ≤ m + 1
      omega
    · exact Nat.zero_le _
theorem idx_get {o : List Str} {x : Str} (h : x ∈ o) : o[o.idxOf x]? = some x ∧ ∀ m, m < o.idxOf x → o[m]? ≠ some x := by
  have hl := List.idxOf_lt_length_iff.mpr h
  refine ⟨by rw [List.getElem?_eq_getElem hl, List.getElem_idxOf], fun m hm e => ?_⟩
  have := idx_le e
  omega
section
variable {P : Program} {w : World} {K : PySem.W.Frag} {mg : Str → Option Value} {base : Heap}
theorem ok_keeps {f : Addr} {fd : FuncData} (Fn : Fun K "_law_keeps" "_law_keeps" sKeeps f fd) : FnOk P w K mg base CX0 1 f fd ["_law_order", "_law_facts"] (spA spKeeps) := by
  refine fn_abs (k := 0) Fn scKeeps (fun ds M Post h => ?_) (fun cdv A outer s H E hr ds M Post h => ?_)
  · obtain ⟨_, _, rfl, _⟩ := h
    rfl
  · obtain ⟨o, facts, rfl, hin, hl, post⟩ := h
    refine ab_one (as_ret (ae_cmp (op_eqD hr.units) (nomark _) ?_))
    refine ae_L [("_law_first", 2), ("_law_then", 3)] rfl scKeeps.nd (blkOk_by (by kernel_rfl)) (al_filter facts encFa (fun f => D.int 1) (fun f => decide ((o.idxOf f.2 : Int) < (o.idxOf f.1 : Int))) ?_)
    refine ai_seq (ae_var 1 rfl ⟨_, .inl rfl, rfl, by omega, .inl rfl, fun x hx s H C cl fp => ?_, ?_⟩)
    · obtain ⟨h1, h2⟩ := hin x hx
      obtain ⟨a1, a2⟩ := idx_get h1
      obtain ⟨b1, b2⟩ := idx_get h2
      refine agc_two 2 3 (fun s H C cl fp => ?_) (by decide) (by decide) rfl scKeeps.nd
      refine at_cmp op_gt (by rfl) (ae_tupIndex (ae_var 0 rfl ⟨o, rfl, ae_var 2 rfl ⟨x.1, _, rfl, a1, a2, ?_⟩⟩))
      exact ae_tupIndex (ae_var 0 rfl ⟨o, rfl, ae_var 3 rfl ⟨x.2, _, rfl, b1, b2, rr_bool ⟨_, rfl, rfl, rfl, fun _ s H C cl fp => ae_int ⟨rfl, rfl⟩⟩⟩⟩)
    · refine ae_lst (aa_nil ⟨Nat.le_of_ble_eq_true rfl, rr_eqNilI (l := (facts.filter fun f => decide ((o.idxOf f.2 : Int) < (o.idxOf f.1 : Int))).map fun _ => (1 : Int)) ?_ ?_⟩)
      · rw [List.map_map]
        rfl
      · have e : ((facts.filter fun f => decide ((o.idxOf f.2 : Int) < (o.idxOf f.1 : Int))).map fun _ => (1 : Int)).isEmpty = keepsB o facts := by
          rw [Bool.eq_iff_iff, List.isEmpty_iff, List.map_eq_nil_iff, List.filter_eq_nil_iff]
          unfold keepsB
          rw [List.all_eq_true]
          refine forall_congr' fun f => forall_congr' fun _ => ?_
          simp only [decide_eq_true_eq]
          omega
        rw [e]
        exact post
end
end Hr
set_option Elab.async false
set_option linter.all false
set_option maxRecDepth 100000
set_option maxHeartbeats 4000000
set_option exponentiation.threshold 300000
/-! HeirL7: the orders of a family. -/
namespace Hr
open PySem L2
open PyProof.Rows (sortedS envOfC)
def encO' (o : List Str) : D := if o = [] then .tup [] else .ptup (o.map .str)
theorem encO'_ne {o : List Str} (h : o ≠ []) : encO' o = encO o := if_neg h
theorem encO'_seq (o : List Str) (M : Mm) : IsSeq M (encO' o) (o.map .str) := by
  unfold encO'
  by_cases h : o = []
  · rw [if_pos h, h]
    exact .inr (.inl rfl)
  · rw [if_neg h]
    exact .inr (.inr rfl)
theorem encO'_tup (o : List Str) : encO' o = .tup (o.map .str) ∨ encO' o = .ptup (o.map .str) := by
  unfold encO'
  by_cases h : o = []
  · rw [if_pos h, h]
    exact .inl rfl
  · rw [if_neg h]
    exact .inr rfl
def extO (gone o : List Str) : List (List Str) := (gone.filter fun x => !decide (x ∈ o)).map fun x => o ++ [x]
theorem all_of_len {o gone : List Str} (hn : o.Nodup) (hs : ∀ x ∈ o, x ∈ gone) (hl : o.length = gone.length) : ∀ x ∈ gone, x ∈ o := fun x hx => by
  by_cases h : x ∈ o
  · exact h
  · have := len_le_of_sub (l := x :: o) (m := gone) (List.nodup_cons.mpr ⟨h, hn⟩) fun y hy => by
      rcases List.mem_cons.mp hy with e | hy
      · rw [e]
        exact hx
      · exact hs y hy
    rw [List.length_cons] at this
    omega
theorem keepsB_iff {o : List Str} {facts : List (Str × Str)} (hn : o.Nodup) (hin : ∀ f ∈ facts, f.1 ∈ o ∧ f.2 ∈ o ∧ f.1 ≠ f.2) : keepsB o facts = true ↔ Keeps o facts := by
  unfold keepsB
  rw [List.all_eq_true]
  constructor
  · intro h f hf
    have hle := of_decide_eq_true (h f hf)
    obtain ⟨h1, h2, h3⟩ := hin f hf
    obtain ⟨a1, _⟩ := idx_get h1
    obtain ⟨b1, _⟩ := idx_get h2
    refine ⟨_, _, a1, b1, ?_⟩
    rcases Nat.lt_or_eq_of_le hle with h4 | h4
    · exact h4
    · rw [h4, b1] at a1
      exact absurd (Option.some.inj a1).symm h3
  · intro h f hf
    obtain ⟨i, j, e1, e2, hij⟩ := h f hf
    obtain ⟨h1, h2, _⟩ := hin f hf
    have := idx_le e1
    obtain ⟨b1, _⟩ := idx_get h2
    have hj : j = o.idxOf f.2 := (List.getElem?_inj (List.getElem?_eq_some_iff.mp e2).1 hn).mp (e2.trans b1.symm)
    exact decide_eq_true (by omega)
structure OsOk (gone : List Str) (best : List Str) (i : Nat) (os : List (List Str)) : Prop where
  nd : ∀ o ∈ os, o.Nodup
  in_ : ∀ o ∈ os, ∀ x ∈ o, x ∈ gone
  len : ∀ o ∈ os, o.length = i
  few : os.length ≤ 4 ^ i
  best : best.take i ∈ os
theorem extO_few {gone : List Str} (hg : gone.length ≤ 4) : ∀ os : List (List Str), (os.flatMap (extO gone)).length ≤ os.length * 4
  | [] => Nat.le_refl _
  | o :: os => by
    rw [List.flatMap_cons, List.length_append, List.length_cons, Nat.add_mul]
    have h1 := extO_few hg os
    have h2 : (extO gone o).length ≤ 4 := by
      unfold extO
      rw [List.length_map]
      exact Nat.le_trans (List.length_filter_le _ _) hg
    omega
theorem OsOk.next {gone best : List Str} {i : Nat} {os : List (List Str)} (h : OsOk gone best i os) (hg : gone.length ≤ 4) (hbn : best.Nodup) (hb : ∀ x ∈ best, x ∈ gone) (hi : i < best.length) : OsOk gone best (i + 1) (os.flatMap (extO gone)) := by
  have key : ∀ o' ∈ os.flatMap (extO gone), ∃ o ∈ os, ∃ x ∈ gone, x ∉ o ∧ o' = o ++ [x] := fun o' ho' => by
    obtain ⟨o, ho, h1⟩ := List.mem_flatMap.mp ho'
    obtain ⟨x, hx, rfl⟩ := List.mem_map.mp h1
    obtain ⟨hx1, hx2⟩ := List.mem_filter.mp hx
    exact ⟨o, ho, x, hx1, by simpa using hx2, rfl⟩
  refine ⟨fun o' ho' => ?_, fun o' ho' => ?_, fun o' ho' => ?_, ?_, ?_⟩
  · obtain ⟨o, ho, x, hx1, hx2, rfl⟩ := key o' ho'
    exact List.nodup_append.mpr ⟨h.nd o ho, by simp, fun a ha b hb => by
      rw [List.mem_singleton.mp hb]
      exact fun z => hx2 (z ▸ ha)⟩
  · obtain ⟨o, ho, x, hx1, hx2, rfl⟩ := key o' ho'
    intro y hy
    rcases List.mem_append.mp hy with hy | hy
    · exact h.in_ o ho y hy
    · rw [List.mem_singleton.mp hy]
      exact hx1
  · obtain ⟨o, ho, x, hx1, hx2, rfl⟩ := key o' ho'
    rw [List.length_append, h.len o ho]
    rfl
  · refine Nat.le_trans (extO_few hg os) ?_
    rw [Nat.pow_succ]
    exact Nat.mul_le_mul_right _ h.few
  · have hx : best[i]? = some best[i] := List.getElem?_eq_getElem hi
    refine List.mem_flatMap.mpr ⟨_, h.best, ?_⟩
    rw [take_next hx]
    refine List.mem_map.mpr ⟨best[i], List.mem_filter.mpr ⟨hb _ (List.getElem_mem hi), ?_⟩, rfl⟩
    have := nodup_take hbn hx
    simp [this]
def spOrders : ASp := fun ds M Post => ∃ (a : Addr) (r : Fam), ds = [.adr a] ∧ M a = some (.dct (encRaw r)) ∧ RawOk r ∧ r.wills ≠ [] ∧ r.wills.length ≤ 4 ∧ ∀ os : List (List Str), os ≠ [] → os.length ≤ 1000 → (∀ o ∈ os, OrdOk r.norm o) → Post (.lst (os.map encO)) M
section
variable {P : Program} {w : World} {K : PySem.W.Frag} {mg : Str → Option Value} {base : Heap}
theorem ok_orders {f : Addr} {fd : FuncData} (Fn : Fun K "_law_orders" "_law_orders" sOrders f fd) (g : Glb mg) (hD : Has ⟨P, w, K, mg, base⟩ 1 "_law_dead" spLDead) (hK : Has ⟨P, w, K, mg, base⟩ 1 "_law_keeps" spKeeps) : FnOk P w K mg base CX0 2 f fd ["_law_family_here"] (spA spOrders) := by
  refine fn_abs (k := 1) Fn scOrders (fun ds M Post h => ?_) (fun cdv A outer s H E hr ds M Post h => ?_)
  · obtain ⟨_, _, rfl, _⟩ := h
    rfl
  · obtain ⟨a, r, rfl, ha, hro, hw0, hw4, post⟩ := h
    have hr0 : Room 0 _ := hr.mono (by decide)
    let gone : List Str := srt (r.wills.map (·.1))
    have hgn : gone.Nodup := srt_nodup.mpr hro.wd
    have hgl : gone.length = r.wills.length := by
      show (srt _).length = _
      rw [srt_len, List.length_map]
    have hgm : ∀ x, x ∈ gone ↔ x ∈ r.wills.map (·.1) := fun x => mem_srt
    have hg1 : 1 ≤ gone.length := by
      have := List.length_pos_iff.mpr hw0
      omega
    obtain ⟨best, bn, bl, bm, bk⟩ := hro.fo
    have hbg : ∀ x ∈ best, x ∈ gone := fun x hx => (hgm x).mpr ((bm x).mp hx)
    have hbl : best.length = gone.length := Nat.le_antisymm (len_le_of_sub bn hbg) (len_le_of_sub hgn fun x hx => (bm x).mpr ((hgm x).mp hx))
    refine ab_cons (as_par 1 2 (aa_cons (ae_lst (aa_cons (ae_tup (aa_nil ⟨Nat.le_of_ble_eq_true rfl, aa_nil ⟨Nat.le_of_ble_eq_true rfl, aa_cons (ae_call hD hr rfl (aa_cons (ae_var 0 rfl (aa_nil ⟨a, r, rfl, ha, hro, aa_nil ⟨_, _, rfl, ?_⟩⟩))))⟩⟩))))) rfl scOrders.nd)
    refine ab_cons (as_for (ai_range rfl g.range (ae_callB call_len_seq rfl g.len boot_len' (aa_cons (ae_var 2 rfl (aa_nil (rc_len (ds := gone.map .str) (.inl rfl) ⟨gone.length, by rw [List.length_map], by omega, fun i ρ' M' => M' = M ∧ ∃ (o3 o4 o5 : Option D) (os : List (List Str)), ρ' = [some (.adr a), some (.lst (os.map encO')), some (encNs gone), o3, o4, o5, none, none] ∧ i ≤ gone.length ∧ OsOk gone best i os, ?_, ?_, ?_, ?_⟩)))))))
    · refine ⟨rfl, none, none, none, [[]], rfl, Nat.zero_le _, ⟨fun o ho => ?_, fun o ho => ?_, fun o ho => ?_, Nat.le_refl _, List.mem_cons_self⟩⟩
      · rw [List.mem_singleton.mp ho]
        exact List.nodup_nil
      · rw [List.mem_singleton.mp ho]
        exact fun x hx => nomatch hx
      · rw [List.mem_singleton.mp ho]
        rfl
    · rintro i ρ' M' _
      exact True.intro
    · rintro i x ρ' M' hx ⟨rfl, o3, o4, o5, os, rfl, hi, hos⟩
      have hil : i < gone.length := by
        have := (List.getElem?_eq_some_iff.mp hx).1
        simpa using this
      have hosl : os.length ≤ 64 := by
        refine Nat.le_trans hos.few (Nat.le_trans (Nat.pow_le_pow_right (by decide) (show i ≤ 3 by omega)) (by decide))
      refine ag_name 3 ?_ scOrders.nd
      refine ab_cons (as_set 4 (ae_lstO (aa_nil ⟨Nat.le_of_ble_eq_true rfl, fun L hL => ?_⟩)) scOrders.nd)
      refine ab_cons (as_for (ai_seq (ae_var 1 rfl ⟨os.map encO', .inl rfl, fun j ρ' M2 => ∃ (o3 o5 : Option D), ρ' = [some (.adr a), some (.lst (os.map encO')), some (encNs gone), o3, some (.adr L), o5, none, none] ∧ M2 = updM M' L (.lst (((os.take j).flatMap (extO gone)).map encO')), ?_, ?_, ?_, ?_⟩)))
      · exact ⟨_, o5, rfl, rfl⟩
      · rintro j ρ' M2 _
        exact .inl rfl
      · rintro j y ρ' M2 hy ⟨o3, o5, rfl, rfl⟩
        rw [List.getElem?_map] at hy
        obtain ⟨o, ho, rfl⟩ := Option.map_eq_some_iff.mp hy
        have hom := List.mem_of_getElem? ho
        have hol := hos.len o hom
        refine ag_name 5 ?_ scOrders.nd
        refine ab_one (as_expr (ae_bmL PySem.F.plainAttrs_list PySem.F.slot_list_extend (by kernel_rfl) mt_extend (ae_var 4 rfl ⟨⟨_, deref_own updM_same⟩, aa_cons ?_⟩)))
        refine ae_L [("_law_name", 6)] rfl scOrders.nd (blkOk_by (by kernel_rfl)) (al_filter gone D.str (fun x => encO' (o ++ [x])) (fun x => !decide (x ∈ o)) ?_)
        refine ai_seq (ae_var 2 rfl ⟨_, .inl rfl, rfl, by omega, .inl rfl, fun x hx s H C cl fp => ?_, ?_⟩)
        · refine agc_name 6 (fun s H C cl fp => ?_) (by decide) scOrders.nd
          refine at_cmp op_notIn_seq (by rfl) (ae_var 6 rfl (ae_var 5 rfl (rr_in (l := o) (encO'_seq o _) ⟨_, rfl, rfl, rfl, fun _ s H C cl fp => ?_⟩)))
          refine ae_bin op_catP (ae_var 5 rfl (ae_tupP (aa_cons (ae_var 6 rfl (aa_nil ⟨Nat.le_of_ble_eq_true rfl, rr_catP (encO'_tup o) rfl (by intro z; cases z) ?_ ⟨?_, rfl⟩⟩)))))
          · rw [List.length_map, hol]
            show i + 1 ≤ 1000
            omega
          · rw [encO'_ne (by simp)]
            unfold encO
            rw [List.map_append]
            rfl
        · have hacc : ((os.take j).flatMap (extO gone)).length ≤ 256 := by
            refine Nat.le_trans (extO_few (by omega) _) ?_
            rw [List.length_take]
            omega
          have hext : (extO gone o).length ≤ 4 := by
            unfold extO
            rw [List.length_map]
            exact Nat.le_trans (List.length_filter_le _ _) (by omega)
          rw [show ((gone.filter fun x => !decide (x ∈ o)).map fun x => encO' (o ++ [x])) = (extO gone o).map encO' from by unfold extO; rw [List.map_map]; rfl]
          refine aa_nil (rm_extend updM_same rfl ?_ ?_)
          · rw [List.length_map, List.length_map]
            omega
          · refine ⟨_, _, rfl, ?_⟩
            rw [updM_upd, take_next ho, List.flatMap_append, List.map_append, List.flatMap_singleton]
      · rintro ρ' M2 ⟨o3, o5, rfl, rfl⟩
        rw [List.length_map, List.take_length]
        refine ab_give 4 rfl updM_same (.inl ⟨_, rfl⟩) ?_
        rw [delM_upd hL]
        refine ab_one (as_set 1 (ae_var 4 rfl ?_) scOrders.nd)
        exact ⟨rfl, _, _, _, os.flatMap (extO gone), rfl, hil, hos.next (by omega) bn hbg (by omega)⟩
    · rintro ρ' M' ⟨rfl, o3, o4, o5, os, rfl, hi, hos⟩
      rw [List.length_map, List.length_range] at hos
      have hone : ∀ o ∈ os, o ≠ [] := fun o ho z => by
        have := hos.len o ho
        rw [z] at this
        simp at this
        omega
      have hosl : os.length ≤ 256 := Nat.le_trans hos.few (Nat.le_trans (Nat.pow_le_pow_right (by decide) (show gone.length ≤ 4 by omega)) (by decide))
      rw [show os.map encO' = os.map encO from List.map_congr_left fun o ho => encO'_ne (hone o ho)]
      have hfd : ∀ f ∈ r.facts, f.1 ∈ gone ∧ f.2 ∈ gone ∧ f.1 ≠ f.2 := fun f hf => by
        have := hro.fam.fa.at hf
        rw [norm_dead] at this
        exact ⟨(hgm _).mpr this.1, (hgm _).mpr this.2.1, this.2.2⟩
      have hfo : ∀ o ∈ os, ∀ f ∈ r.facts, f.1 ∈ o ∧ f.2 ∈ o ∧ f.1 ≠ f.2 := fun o ho f hf => by
        have k := all_of_len (hos.nd o ho) (hos.in_ o ho) (hos.len o ho)
        obtain ⟨h1, h2, h3⟩ := hfd f hf
        exact ⟨k _ h1, k _ h2, h3⟩
      refine ab_one (as_ret (ae_L [("_law_order", 7)] rfl scOrders.nd (blkOk_by (by kernel_rfl)) (al_filter os encO encO (fun o => keepsB o r.facts) ?_)))
      refine ai_seq (ae_var 1 rfl ⟨_, .inl rfl, rfl, by omega, .inl rfl, fun o ho s H C cl fp => ?_, ?_⟩)
      · refine agc_name 7 (fun s H C cl fp => ?_) (by decide) scOrders.nd
        refine at_val (ae_call hK hr rfl (aa_cons (ae_var 7 rfl (aa_cons (ae_dget hr0 (ae_var 0 rfl (ae_str ⟨a, "facts", _, .lst (r.facts.map encFa), rfl, rfl, .inl ha, rfl, aa_nil ⟨o, r.facts, rfl, fun f hf => ?_, by have := hro.ff; omega, _, rfl, rfl, rfl, fun _ s H C cl fp => ae_var 7 rfl ⟨rfl, rfl⟩⟩⟩)))))))
        obtain ⟨h1, h2, _⟩ := hfo o ho f hf
        exact ⟨h1, h2⟩
      · have hbest : best ∈ os := by
          have := hos.best
          rw [← hbl, List.take_length] at this
          exact this
        refine post _ (List.ne_nil_of_mem (List.mem_filter.mpr ⟨hbest, (keepsB_iff bn (hfo best hbest)).mpr bk⟩)) (Nat.le_trans (List.length_filter_le _ _) (by omega)) fun o ho => ?_
        obtain ⟨ho1, ho2⟩ := List.mem_filter.mp ho
        refine ⟨hos.nd o ho1, fun d => ?_, (keepsB_iff (hos.nd o ho1) (hfo o ho1)).mp ho2⟩
        rw [norm_dead]
        exact ⟨fun h => (hgm d).mp (hos.in_ o ho1 d h), fun h => all_of_len (hos.nd o ho1) (hos.in_ o ho1) (hos.len o ho1) d ((hgm d).mpr h)⟩
end
end Hr
set_option Elab.async false
set_option linter.all false
set_option maxRecDepth 100000
set_option maxHeartbeats 4000000
set_option exponentiation.threshold 300000
/-! HeirL8: woven, led over, mixed up. -/
namespace Hr
open PySem L2
open PyProof.Rows (sortedS envOfC)
theorem scLedOver : FnScope ["_law_family_here", "_law_names", "_law_wills", "_law_name", "_law_shares", "_law_some", "_law_found", "_law_weight", "_law_groups", "_law_one", "_law_group", "_law_amount", "_law_first", "_law_then"] ["_law_family_here", "_law_names"] (defScope sLedOver) := ⟨rfl, rfl, rfl, by decide +kernel, rfl, by decide +kernel, by decide +kernel⟩
theorem scMixedUp : FnScope ["_law_deal_here", "_law_family_here", "_law_word"] ["_law_deal_here", "_law_family_here"] (defScope sMixedUp) := ⟨rfl, rfl, rfl, by decide +kernel, rfl, by decide +kernel, by decide +kernel⟩
/-- two lists woven into one -/
inductive Weave : List Str → List Str → List Str → Prop where
  | nil : Weave [] [] []
  | left {x : Str} {a b w : List Str} : Weave a b w → Weave (x :: a) b (x :: w)
  | right {x : Str} {a b w : List Str} : Weave a b w → Weave a (x :: b) (x :: w)
def spWoven : ASp := fun ds M Post => ∃ (p q : Addr) (d1 d2 : D) (a b : List Str), ds = [.adr p, d1, d2] ∧ IsSeq M d1 (a.map .str) ∧ IsSeq M d2 (b.map .str) ∧ a.length ≤ 100 ∧ b.length ≤ 100 ∧ (∀ x ∈ a, PySem.PyData.strOk x = true) ∧ (∀ x ∈ b, PySem.PyData.strOk x = true) ∧ DealAt M p q ∧
  ∀ (w : List Str) M', Weave a b w → DealAt M' p q → SB p q M M' → Post (encNs w) M'
/-- a family under other names -/
def Fam.over (φ : Str → Str) (r : Fam) : Fam := ⟨r.people.map fun x => (φ x.1, x.2), r.wills.map fun x => (φ x.1, x.2.map fun s => (s.1, s.2.map fun g => g.map φ)), r.facts.map fun f => (φ f.1, φ f.2)⟩
def spLedOver : ASp := fun ds M Post => ∃ (a nd : Addr) (r : Fam) (σ : List (Str × Str)), ds = [.adr a, .adr nd] ∧ M a = some (.dct (encRaw r)) ∧ M nd = some (.dct (encK D.str σ)) ∧ RawOk r ∧ (∀ x ∈ r.people.map (·.1), x ∈ keysA σ) ∧
  ∀ c, M c = none → Post (.adr c) (updM M c (.dct (encRaw (r.over fun x => (getA σ x).getD ""))))
structure MixOf (r r' : Fam) : Prop where
  p : r'.people.Perm r.people
  w : r'.wills.Perm r.wills
  f : r'.facts.Perm r.facts
def spMixedUp : ASp := fun ds M Post => ∃ (p q a : Addr) (r : Fam), ds = [.adr p, .adr a] ∧ M a = some (.dct (encRaw r)) ∧ r.people.length ≤ 100 ∧ r.wills.length ≤ 100 ∧ r.facts.length ≤ 100 ∧ DealAt M p q ∧ a ≠ p ∧ a ≠ q ∧
  ∀ (c : Addr) (r' : Fam) M', MixOf r r' → M c = none → M' c = some (.dct (encRaw r')) → DealAt M' p q → (∀ b, b ≠ p → b ≠ q → b ≠ c → M' b = M b) → Post (.adr c) M'
section
variable {P : Program} {w : World} {K : PySem.W.Frag} {mg : Str → Option Value} {base : Heap}
theorem ok_woven {f : Addr} {fd : FuncData} (Fn : Fun K "_law_woven" "_law_woven" sWoven f fd) (g : Glb mg) (hD : Has ⟨P, w, K, mg, base⟩ 1 "_law_draw" spDraw) : FnOk P w K mg base CX0 2 f fd ["_law_deal_here", "_law_one", "_law_other"] (spA spWoven) := by
  refine fn_abs (k := 1) Fn scWoven (fun ds M Post h => ?_) (fun cdv A outer s H E hr ds M Post h => ?_)
  · obtain ⟨_, _, _, _, _, _, rfl, _⟩ := h
    rfl
  · obtain ⟨p, q, d1, d2, a, b, rfl, h1, h2, hal, hbl, hao, hbo, hdl, post⟩ := h
    refine ab_cons (as_par3 3 4 5 (aa_cons (ae_lstO (aa_nil ⟨Nat.le_of_ble_eq_true rfl, fun u hu => aa_cons ?_⟩))) rfl scWoven.nd)
    refine ae_callTy call_list_of rfl g.list boot_list' (aa_cons (ae_var 1 rfl (aa_nil (rc_listOfO (h1.upd hu) fun v hv => aa_cons ?_))))
    refine ae_callTy call_list_of rfl g.list boot_list' (aa_cons (ae_var 2 rfl (aa_nil (rc_listOfO ((h2.upd hu).upd hv) fun z hz => aa_nil ⟨_, _, _, rfl, ?_⟩))))
    have hvu : v ≠ u := fun e => by
      rw [e, updM_same] at hv
      cases hv
    have hv0 : M v = none := by rw [updM_ne hvu] at hv; exact hv
    have hzv : z ≠ v := fun e => by
      rw [e, updM_same] at hz
      cases hz
    have hz1 : updM M u (.lst []) z = none := by rw [updM_ne hzv] at hz; exact hz
    have hzu : z ≠ u := fun e => by
      rw [e, updM_same] at hz1
      cases hz1
    have hz0 : M z = none := by rw [updM_ne hzu] at hz1; exact hz1
    have up := hdl.nep hu
    have uq := hdl.neq hu
    have vp := hdl.nep hv0
    have vq := hdl.neq hv0
    have zp := hdl.nep hz0
    have zq := hdl.neq hz0
    refine ab_cons (as_for (ai_range rfl g.range (ae_bin op_add (ae_callB call_len_seq rfl g.len boot_len' (aa_cons (ae_var 1 rfl (aa_nil (rc_len (((h1.upd hu).upd hv).upd hz) (ae_callB call_len_seq rfl g.len boot_len' (aa_cons (ae_var 2 rfl (aa_nil (rc_len (((h2.upd hu).upd hv).upd hz) (rr_add ⟨a.length + b.length, ?_, by omega, fun i ρ' M' => ∃ (o6 o7 : Option D) (la lb fa : List Str), ρ' = [some (.adr p), some d1, some d2, some (.adr u), some (.adr v), some (.adr z), o6, o7] ∧ M' u = some (.lst (fa.map .str)) ∧ M' v = some (.lst (la.map .str)) ∧ M' z = some (.lst (lb.map .str)) ∧ la.length + lb.length + i = a.length + b.length ∧ fa.length = i ∧
      (∀ x ∈ la, x ∈ a) ∧ (∀ x ∈ lb, x ∈ b) ∧ (∀ w', Weave la lb w' → Weave a b (fa ++ w')) ∧ DealAt M' p q ∧ (∀ c, c ≠ p → c ≠ q → c ≠ u → c ≠ v → c ≠ z → M' c = M c), ?_, ?_, ?_, ?_⟩))))))))))))))
    · rw [List.length_map, List.length_map, Int.natCast_add]
    · refine ⟨none, none, a, b, [], rfl, ?_, ?_, updM_same, rfl, rfl, fun x hx => hx, fun x hx => hx, fun w' hw => hw, ((hdl.put up uq).put vp vq).put zp zq, fun c e1 e2 e3 e4 e5 => ?_⟩
      · rw [updM_ne (Ne.symm hzu), updM_ne (Ne.symm hvu)]
        exact updM_same
      · rw [updM_ne (Ne.symm hzv)]
        exact updM_same
      · rw [updM_ne e5, updM_ne e4, updM_ne e3]
    · rintro i ρ' M' _
      exact True.intro
    · rintro i x ρ' M' hx ⟨o6, o7, la, lb, fa, rfl, hU, hV, hZ, hlen, hfl, hla, hlb, hw, hd', hsb⟩
      have hil : i < a.length + b.length := by
        have := (List.getElem?_eq_some_iff.mp hx).1
        simpa using this
      refine ag_name 6 ?_ scWoven.nd
      -- whose turn
      refine ab_cons (as_set 7 ((?_ : AE _ _ _ _ fun d M2 => ∃ k : Bool, d = .bl k ∧ (k = true → la ≠ []) ∧ (k = false → lb ≠ []) ∧ DealAt M2 p q ∧ SB p q M' M2).mono fun d M2 ⟨k, hk, hk1, hk2, hd2, hs2⟩ => ?_) scWoven.nd)
      · refine ae_or (ae_cmp (op_eqD hr.units) (nomark _) (ae_var 5 rfl (ae_lst (aa_nil ⟨Nat.le_of_ble_eq_true rfl, rr_eqNilS (l := lb) (deref_own hZ) (fun y hy => hbo y (hlb y hy)) ⟨_, rfl, fun hb => ?_, fun hb => ?_⟩⟩))))
        · have hbne : lb ≠ [] := fun e => by
            rw [e] at hb
            cases hb
          refine ae_one (ae_and (ae_cmp (op_neD hr.units) (nomark _) (ae_var 4 rfl (ae_lst (aa_nil ⟨Nat.le_of_ble_eq_true rfl, rr_neNilS (l := la) (deref_own hV) (fun y hy => hao y (hla y hy)) ⟨_, rfl, fun hc => ?_, fun hc => ?_⟩⟩)))))
          · have hane : la ≠ [] := fun e => by
              rw [e] at hc
              cases hc
            refine ae_one (ae_cmp op_eq (nomark _) (ae_call hD hr rfl (aa_cons (ae_var 0 rfl (aa_cons (ae_int (aa_nil ⟨p, q, 2, rfl, by decide, by decide, hd', fun t M2 ht hd2 hs2 => ae_int (rr_eqI ⟨_, rfl, fun _ => hane, fun _ => hbne, hd2, hs2⟩)⟩)))))))
          · exact ⟨false, rfl, (fun e => nomatch e), fun _ => hbne, hd', SB.refl M'⟩
        · have hb0 : lb = [] := List.isEmpty_iff.mp hb
          refine ⟨true, rfl, fun _ e => ?_, (fun e => nomatch e), hd', SB.refl M'⟩
          rw [hb0, e] at hlen
          simp at hlen
          omega
      subst hk
      have hU2 : M2 u = some (.lst (fa.map .str)) := by rw [hs2 u up uq]; exact hU
      have hV2 : M2 v = some (.lst (la.map .str)) := by rw [hs2 v vp vq]; exact hV
      have hZ2 : M2 z = some (.lst (lb.map .str)) := by rw [hs2 z zp zq]; exact hZ
      refine ab_one (as_expr (ae_bmL PySem.F.plainAttrs_list PySem.F.slot_list_append (by kernel_rfl) mt_append (ae_var 3 rfl ⟨⟨_, deref_own hU2⟩, aa_cons (ae_if (at_val (ae_var 7 rfl ⟨k, rfl, fun hk => ?_, fun hk => ?_⟩)))⟩)))
      · subst hk
        cases la with
        | nil => exact absurd rfl (hk1 rfl)
        | cons y la =>
          refine ae_bmL PySem.F.plainAttrs_list PySem.F.slot_list_pop (by kernel_rfl) mt_popAt (ae_var 4 rfl ⟨⟨_, deref_own hV2⟩, aa_cons (ae_int (aa_nil (rm_popAt (j := 0) (d := .str y) hV2 (by decide) rfl (aa_nil (rm_append (ds := fa.map .str) (by rw [updM_ne (Ne.symm hvu)]; exact hU2) (by rw [List.length_map]; omega) ?_)))))⟩)
          simp only [List.length_cons] at hlen
          refine ⟨_, _, la, lb, fa ++ [y], rfl, ?_, ?_, ?_, by omega, by rw [List.length_append, hfl]; rfl, fun t ht => hla t (List.mem_cons_of_mem _ ht), hlb, fun w' hw' => ?_, (hd2.put vp vq).put up uq, fun c e1 e2 e3 e4 e5 => ?_⟩
          · rw [updM_same, List.map_append]
            rfl
          · rw [updM_ne hvu, updM_same]
            rfl
          · rw [updM_ne hzu, updM_ne hzv]
            exact hZ2
          · rw [List.append_assoc]
            exact hw _ (.left hw')
          · rw [updM_ne e3, updM_ne e4, hs2 c e1 e2]
            exact hsb c e1 e2 e3 e4 e5
      · subst hk
        cases lb with
        | nil => exact absurd rfl (hk2 rfl)
        | cons y lb =>
          refine ae_bmL PySem.F.plainAttrs_list PySem.F.slot_list_pop (by kernel_rfl) mt_popAt (ae_var 5 rfl ⟨⟨_, deref_own hZ2⟩, aa_cons (ae_int (aa_nil (rm_popAt (j := 0) (d := .str y) hZ2 (by decide) rfl (aa_nil (rm_append (ds := fa.map .str) (by rw [updM_ne (Ne.symm hzu)]; exact hU2) (by rw [List.length_map]; omega) ?_)))))⟩)
          simp only [List.length_cons] at hlen
          refine ⟨_, _, la, lb, fa ++ [y], rfl, ?_, ?_, ?_, by omega, by rw [List.length_append, hfl]; rfl, hla, fun t ht => hlb t (List.mem_cons_of_mem _ ht), fun w' hw' => ?_, (hd2.put zp zq).put up uq, fun c e1 e2 e3 e4 e5 => ?_⟩
          · rw [updM_same, List.map_append]
            rfl
          · rw [updM_ne hvu, updM_ne (Ne.symm hzv)]
            exact hV2
          · rw [updM_ne hzu, updM_same]
            rfl
          · rw [List.append_assoc]
            exact hw _ (.right hw')
          · rw [updM_ne e3, updM_ne e5, hs2 c e1 e2]
            exact hsb c e1 e2 e3 e4 e5
    · rintro ρ' M' ⟨o6, o7, la, lb, fa, rfl, hU, hV, hZ, hlen, hfl, hla, hlb, hw, hd', hsb⟩
      rw [List.length_map, List.length_range] at hlen hfl
      have ha0 : la = [] := List.eq_nil_of_length_eq_zero (by omega)
      have hb0 : lb = [] := List.eq_nil_of_length_eq_zero (by omega)
      subst ha0 hb0
      have hwv := hw [] .nil
      rw [List.append_nil] at hwv
      refine ab_give 3 rfl hU (.inl ⟨_, rfl⟩) ?_
      have hV2 : delM M' u v = some (.lst []) := by rw [delM_ne hvu]; exact hV
      have hZ2 : delM (delM M' u) v z = some (.lst []) := by rw [delM_ne hzv, delM_ne hzu]; exact hZ
      refine ab_one (as_ret (ae_le (ae_var 3 rfl ⟨delM (delM (delM M' u) v) z, (le_del (M := delM (delM M' u) v) (by intro l e; rw [hZ2] at e; cases e)).trans (le_del (by intro l e; rw [hV2] at e; cases e)), ?_⟩)))
      refine post fa _ hwv (((hd'.del up uq).del vp vq).del zp zq) fun c e1 e2 => ?_
      by_cases e5 : c = z
      · subst e5
        rw [delM_same]
        exact hz0.symm
      · rw [delM_ne e5]
        by_cases e4 : c = v
        · subst e4
          rw [delM_same]
          exact hv0.symm
        · rw [delM_ne e4]
          by_cases e3 : c = u
          · subst e3
            rw [delM_same]
            exact hu.symm
          · rw [delM_ne e3]
            exact hsb c e1 e2 e3 e4 e5
end
end Hr
set_option Elab.async false
set_option linter.all false
set_option maxRecDepth 100000
set_option maxHeartbeats 4000000
set_option exponentiation.threshold 300000
/-! HeirL9: led over, mixed up. -/
namespace Hr
open PySem L2
open PyProof.Rows (sortedS envOfC)
theorem val_str {σ : List (Str × Str)} {x : Str} (h : x ∈ keysA σ) : valD (encK D.str σ) x = some (.str ((getA σ x).getD "")) := by
  rw [valD_enc]
  cases e : getA σ x with
  | none => exact absurd h (getA_none.mp e)
  | some v => rfl
theorem put3' (a b c : D) : putD [(("people" : Str), a), ("wills", b)] "facts" c = [(("people" : Str), a), ("wills", b), ("facts", c)] := by
  have h2 : ¬ (("people" : Str) = "facts") := by decide +kernel
  have h3 : ¬ (("wills" : Str) = "facts") := by decide +kernel
  simp [putD, h2, h3]
theorem merge2 (a b : D) : mergeD [] [(("people" : Str), a), ("wills", b)] = [(("people" : Str), a), ("wills", b)] := by
  have h1 : ¬ (("people" : Str) = "wills") := by decide +kernel
  simp [mergeD, putD, h1]
section
variable {P : Program} {w : World} {K : PySem.W.Frag} {mg : Str → Option Value} {base : Heap}
theorem ok_ledOver {f : Addr} {fd : FuncData} (Fn : Fun K "_law_led_over" "_law_led_over" sLedOver f fd) : FnOk P w K mg base CX0 1 f fd ["_law_family_here", "_law_names"] (spA spLedOver) := by
  refine fn_abs (k := 0) Fn scLedOver (fun ds M Post h => ?_) (fun cdv A outer s H E hr ds M Post h => ?_)
  · obtain ⟨_, _, _, _, rfl, _⟩ := h
    rfl
  · obtain ⟨a, nd, r, σ, rfl, ha, hnd, hro, hin, post⟩ := h
    let φ : Str → Str := fun x => (getA σ x).getD ""
    have hv : ∀ x ∈ r.people.map (·.1), valD (encK D.str σ) x = some (.str (φ x)) := fun x hx => val_str (hin x hx)
    have l1 := hro.pf
    have l2 := hro.wf
    have l3 := hro.ff
    refine ab_cons (as_set 2 (ae_lstO (aa_nil ⟨Nat.le_of_ble_eq_true rfl, fun u hu => ?_⟩)) scLedOver.nd)
    have hau : a ≠ u := fun e => by rw [e, hu] at ha; cases ha
    have hnu : nd ≠ u := fun e => by rw [e, hu] at hnd; cases hnd
    have hA : ∀ d, updM M u d a = some (.dct (encRaw r)) := fun d => by rw [updM_ne hau]; exact ha
    have hN : ∀ d, updM M u d nd = some (.dct (encK D.str σ)) := fun d => by rw [updM_ne hnu]; exact hnd
    let fw : Str × List Share → Str × List Share := fun x => (φ x.1, x.2.map fun s => (s.1, s.2.map fun g => g.map φ))
    refine ab_cons (as_for (ai_seq (ae_dget hr (ae_var 0 rfl (ae_str ⟨a, "wills", _, .lst (r.wills.map encWl), rfl, rfl, .inl (hA _), rfl, _, .inl rfl, fun i ρ' M' => ∃ (o3 o4 o5 : Option D), ρ' = [some (.adr a), some (.adr nd), some (.adr u), o3, o4, o5, none, none, none, none, none, none, none, none] ∧ M' = updM M u (.lst (((r.wills.take i).map fw).map encWl)), ?_, ?_, ?_, ?_⟩)))))
    · exact ⟨none, none, none, rfl, rfl⟩
    · rintro i ρ' M' _
      exact .inl rfl
    · rintro i y ρ' M' hy ⟨o3, o4, o5, rfl, rfl⟩
      rw [List.getElem?_map] at hy
      obtain ⟨x, hx, rfl⟩ := Option.map_eq_some_iff.mp hy
      have hxm := List.mem_of_getElem? hx
      obtain ⟨k1, k2, k3⟩ := hro.ws x hxm
      refine ag_two 3 4 ?_ rfl scLedOver.nd
      refine ab_cons (as_setL 5 [("_law_weight", 7), ("_law_groups", 8)] rfl scLedOver.nd (blkOk_by (by kernel_rfl)) (al_map x.2 encShIn (fun s => encShIn (s.1, s.2.map fun g => g.map φ)) ?_))
      refine ai_seq (ae_var 4 rfl ⟨_, .inl rfl, rfl, by omega, .inl rfl, fun sh hsh s H C cl fp => ?_, ?_⟩)
      · refine agc_two 7 8 (fun s H C cl fp => ?_) (by decide) (by decide) rfl scLedOver.nd
        refine ae_tup (aa_cons (ae_var 7 rfl (aa_cons ?_)))
        refine ae_L [("_law_group", 10)] rfl scLedOver.nd (blkOk_by (by kernel_rfl)) (al_map sh.2 encNs (fun g => encNs (g.map φ)) ?_)
        refine ai_seq (ae_var 8 rfl ⟨_, .inl rfl, rfl, Nat.le_trans (k3 sh hsh).gr (by decide), .inl rfl, fun gg hgg s H C cl fp => ?_, ?_⟩)
        · refine agc_name 10 (fun s H C cl fp => ?_) (by decide) scLedOver.nd
          refine ae_L [("_law_one", 9)] rfl scLedOver.nd (blkOk_by (by kernel_rfl)) (al_map gg D.str (fun z => D.str (φ z)) ?_)
          refine ai_seq (ae_var 10 rfl ⟨_, .inl rfl, rfl, Nat.le_trans ((k3 sh hsh).gl gg hgg) (by decide), .inl rfl, fun z hz s H C cl fp => ?_, ?_⟩)
          · refine agc_name 9 (fun s H C cl fp => ?_) (by decide) scLedOver.nd
            exact ae_dget hr (ae_var 1 rfl (ae_var 9 rfl ⟨nd, z, _, _, rfl, rfl, .inl (hN _), hv z (List.mem_filter.mp ((k3 sh hsh).in_ gg hgg z hz)).1, rfl, rfl⟩))
          · refine ⟨?_, rfl⟩
            unfold encNs
            rw [List.map_map]
            rfl
        · refine aa_nil ⟨Nat.le_of_ble_eq_true rfl, ?_, rfl⟩
          show D.tup [.int (sh.1 : Int), .lst (sh.2.map fun g => encNs (g.map φ))] = D.tup [.int (sh.1 : Int), .lst ((sh.2.map fun g => g.map φ).map encNs)]
          rw [List.map_map]
          rfl
      refine ab_one (as_expr (ae_bmL PySem.F.plainAttrs_list PySem.F.slot_list_append (by kernel_rfl) mt_append (ae_var 2 rfl ⟨⟨_, deref_own updM_same⟩, aa_cons ?_⟩)))
      refine ae_tup (aa_cons (ae_dget hr (ae_var 1 rfl (ae_var 3 rfl ⟨nd, x.1, _, _, rfl, rfl, .inl (hN _), hv x.1 (hro.wi x hxm), ?_⟩))))
      refine aa_cons (ae_var 5 rfl (aa_nil ⟨Nat.le_of_ble_eq_true rfl, aa_nil (rm_append updM_same ?_ ?_)⟩))
      · rw [List.length_map, List.length_map, List.length_take]
        omega
      · refine ⟨_, _, _, rfl, ?_⟩
        rw [updM_upd, take_next hx, List.map_append, List.map_append]
        congr 3
        show [D.tup [D.str (φ x.1), .lst (x.2.map fun s => encShIn (s.1, s.2.map fun g => g.map φ))]] = [encWl (fw x)]
        show _ = [D.tup [D.str (φ x.1), .lst ((x.2.map fun s => (s.1, s.2.map fun g => g.map φ)).map encShIn)]]
        rw [List.map_map]
        rfl
    rintro ρ' M' ⟨o3, o4, o5, rfl, rfl⟩
    rw [List.length_map, List.take_length]
    refine ab_give 2 rfl updM_same (.inl ⟨_, rfl⟩) ?_
    rw [delM_upd hu]
    refine ab_cons (as_set 6 (ae_disp (ad_cons ?_)) scLedOver.nd)
    refine ae_L [("_law_name", 3), ("_law_amount", 11)] rfl scLedOver.nd (blkOk_by (by kernel_rfl)) (al_map r.people encPe (fun x => encPe (φ x.1, x.2)) ?_)
    refine ai_seq (ae_dget hr (ae_var 0 rfl (ae_str ⟨a, "people", _, .lst (r.people.map encPe), rfl, rfl, .inl ha, rfl, _, .inl rfl, rfl, by omega, .inl rfl, fun x hx s H C cl fp => ?_, ?_⟩)))
    · refine agc_two 3 11 (fun s H C cl fp => ?_) (by decide) (by decide) rfl scLedOver.nd
      refine ae_tup (aa_cons (ae_dget hr (ae_var 1 rfl (ae_var 3 rfl ⟨nd, x.1, _, _, rfl, rfl, .inl hnd, hv x.1 (List.mem_map.mpr ⟨x, hx, rfl⟩), aa_cons (ae_var 11 rfl (aa_nil ⟨Nat.le_of_ble_eq_true rfl, rfl, rfl⟩))⟩))))
    refine ad_cons (ae_var 2 rfl (ad_nil ⟨Nat.le_of_ble_eq_true rfl, fun c hc => ?_⟩))
    rw [merge2]
    have hac : a ≠ c := fun e => by rw [e, hc] at ha; cases ha
    have hnc : nd ≠ c := fun e => by rw [e, hc] at hnd; cases hnd
    have hA2 : ∀ d, updM M c d a = some (.dct (encRaw r)) := fun d => by rw [updM_ne hac]; exact ha
    have hN2 : ∀ d, updM M c d nd = some (.dct (encK D.str σ)) := fun d => by rw [updM_ne hnc]; exact hnd
    refine ab_cons (as_dput hr ?_)
    refine ae_L [("_law_first", 12), ("_law_then", 13)] rfl scLedOver.nd (blkOk_by (by kernel_rfl)) (al_map r.facts encFa (fun x => encFa (φ x.1, φ x.2)) ?_)
    refine ai_seq (ae_dget hr (ae_var 0 rfl (ae_str ⟨a, "facts", _, .lst (r.facts.map encFa), rfl, rfl, .inl (hA2 _), rfl, _, .inl rfl, rfl, by omega, .inl rfl, fun x hx s H C cl fp => ?_, ?_⟩)))
    · have hfa := hro.fam.fa.at hx
      rw [norm_dead] at hfa
      have h1 : x.1 ∈ r.people.map (·.1) := by
        obtain ⟨y, hy, e⟩ := List.mem_map.mp hfa.1
        rw [← e]
        exact hro.wi y hy
      have h2 : x.2 ∈ r.people.map (·.1) := by
        obtain ⟨y, hy, e⟩ := List.mem_map.mp hfa.2.1
        rw [← e]
        exact hro.wi y hy
      refine agc_two 12 13 (fun s H C cl fp => ?_) (by decide) (by decide) rfl scLedOver.nd
      refine ae_tup (aa_cons (ae_dget hr (ae_var 1 rfl (ae_var 12 rfl ⟨nd, x.1, _, _, rfl, rfl, .inl (hN2 _), hv x.1 h1, aa_cons (ae_dget hr (ae_var 1 rfl (ae_var 13 rfl ⟨nd, x.2, _, _, rfl, rfl, .inl (hN2 _), hv x.2 h2, aa_nil ⟨Nat.le_of_ble_eq_true rfl, rfl, rfl⟩⟩)))⟩))))
    refine ae_var 6 rfl (ae_str ⟨c, "facts", _, rfl, rfl, updM_same, Nat.le_of_ble_eq_true rfl, ?_⟩)
    rw [updM_upd, put3']
    refine ab_one (as_ret (ae_var 6 rfl ?_))
    have := post c hc
    rw [show encRaw (r.over fun x => (getA σ x).getD "") = [(("people" : Str), D.lst (r.people.map fun x => encPe (φ x.1, x.2))), ("wills", D.lst ((r.wills.map fw).map encWl)), ("facts", D.lst (r.facts.map fun x => encFa (φ x.1, φ x.2)))] from by
      unfold encRaw Fam.over
      simp only [List.map_map]
      rfl] at this
    exact this
theorem ok_mixedUp {f : Addr} {fd : FuncData} (Fn : Fun K "_law_mixed_up" "_law_mixed_up" sMixedUp f fd) (g : Glb mg) (hM : Has ⟨P, w, K, mg, base⟩ 2 "_law_mixed" spMixed) : FnOk P w K mg base CX0 3 f fd ["_law_deal_here", "_law_family_here"] (spA spMixedUp) := by
  refine fn_abs (k := 2) Fn scMixedUp (fun ds M Post h => ?_) (fun cdv A outer s H E hr ds M Post h => ?_)
  · obtain ⟨_, _, _, _, rfl, _⟩ := h
    rfl
  · obtain ⟨p, q, a, r, rfl, ha, l1, l2, l3, hdl, hap, haq, post⟩ := h
    have hr0 : Room 0 _ := hr.mono (by decide)
    let raws : List (Str × List D) := [("people", r.people.map encPe), ("wills", r.wills.map encWl), ("facts", r.facts.map encFa)]
    have hraw : encRaw r = raws.map fun x => (x.1, D.lst x.2) := rfl
    refine ab_one (as_ret (ae_callTy (call_dictP rfl) rfl g.dict boot_dict' (aa_cons (ae_lock ha (ae_L [("_law_word", 2)] rfl scMixedUp.nd (blkOk_by (by kernel_rfl)) (al_0 ?_))))))
    refine ai_keys (ae_var 1 rfl ⟨a, _, rfl, updM_same, fun i acc M' => acc.length = i ∧ (∀ (j : Nat) (kv : Str × List D), raws[j]? = some kv → j < i → ∃ vs', acc[j]? = some (prD (kv.1, .lst vs')) ∧ vs'.Perm kv.2) ∧ DealAt M' p q ∧ SB p q (updM M a (.fdct (encRaw r))) M', ?_, ⟨rfl, fun j kv _ h => absurd h (Nat.not_lt_zero j), hdl.put hap haq, SB.refl _⟩, ?_, ?_, ?_⟩)
    · exact Nat.le_of_ble_eq_true rfl
    · rintro i acc M' ⟨h1, _⟩
      exact ⟨True.intro, Nat.le_of_eq h1⟩
    · rintro i acc M' d hd ⟨h1, h2, h3, h4⟩ s0 H0 C0 cl fp
      rw [hraw, List.map_map, List.getElem?_map] at hd
      obtain ⟨kv, hkv, rfl⟩ := Option.map_eq_some_iff.mp hd
      have hMa : M' a = some (.fdct (encRaw r)) := by rw [h4 a hap haq]; exact updM_same
      have hkl : valD (encRaw r) kv.1 = some (.lst kv.2) ∧ kv.2.length ≤ 100 := by
        have hm := List.mem_of_getElem? hkv
        simp only [raws, List.mem_cons, List.not_mem_nil, or_false] at hm
        rcases hm with e | e | e
        · rw [e]
          exact ⟨rfl, by rw [List.length_map]; exact l1⟩
        · rw [e]
          exact ⟨rfl, by rw [List.length_map]; exact l2⟩
        · rw [e]
          exact ⟨rfl, by rw [List.length_map]; exact l3⟩
      refine agc_name 2 (fun s H C cl fp => ?_) (by decide) scMixedUp.nd
      refine ae_tup (aa_cons (ae_var 2 rfl (aa_cons (ae_call hM hr rfl (aa_cons (ae_var 0 rfl (aa_cons (ae_dget hr0 (ae_var 1 rfl (ae_var 2 rfl ⟨a, kv.1, _, .lst kv.2, rfl, rfl, .inr hMa, hkl.1, aa_nil ⟨p, q, _, kv.2, rfl, .inl rfl, Nat.le_trans hkl.2 (by decide), h3, fun l' M3 hp hd3 hs3 => aa_nil ⟨Nat.le_of_ble_eq_true rfl, ?_⟩⟩⟩))))))))))
      refine ⟨by rw [List.length_append, h1]; rfl, fun j kv' hj hji => ?_, hd3, h4.trans hs3⟩
      rcases Nat.lt_or_ge j i with hlt | hge
      · obtain ⟨vs', e1, e2⟩ := h2 j kv' hj hlt
        exact ⟨vs', by rw [List.getElem?_append_left (by omega)]; exact e1, e2⟩
      · have e : j = i := by omega
        subst e
        rw [hkv] at hj
        cases hj
        refine ⟨l', ?_, hp⟩
        rw [List.getElem?_append_right (by omega), h1, Nat.sub_self]
        rfl
    rintro acc M3 ⟨h1, h2, h3, h4⟩
    have h1' : acc.length = 3 := h1
    obtain ⟨v0, a0, p0⟩ := h2 0 _ rfl (Nat.le_of_ble_eq_true rfl)
    obtain ⟨v1, a1, p1⟩ := h2 1 _ rfl (Nat.le_of_ble_eq_true rfl)
    obtain ⟨v2, a2, p2⟩ := h2 2 _ rfl (Nat.le_of_ble_eq_true rfl)
    obtain ⟨pp, hpp, rfl⟩ := perm_enc p0
    obtain ⟨ww, hww, rfl⟩ := perm_enc p1
    obtain ⟨ff, hff, rfl⟩ := perm_enc p2
    let r' : Fam := ⟨pp, ww, ff⟩
    have hacc : acc = (encRaw r').map prD := by
      match acc, h1', a0, a1, a2 with
      | [x0, x1, x2], _, a0, a1, a2 =>
        cases a0
        cases a1
        cases a2
        rfl
    subst hacc
    refine aa_nil (rc_dictP (l := encRaw r') rfl fun c hc => ?_)
    have hca : c ≠ a := fun e => by
      rw [e, updM_same] at hc
      cases hc
    have hc3 : M3 c = none := by rw [updM_ne hca] at hc; exact hc
    have hcp := h3.nep hc3
    have hcq := h3.neq hc3
    have hM3 : ∀ b, b ≠ p → b ≠ q → updM M3 a (.dct (encRaw r)) b = M b := fun b e1 e2 => by
      by_cases e3 : b = a
      · subst e3
        rw [updM_same]
        exact ha.symm
      · rw [updM_ne e3, h4 b e1 e2, updM_ne e3]
    rw [show mergeD [] (encRaw r') = encRaw r' from merge3 _ _ _]
    refine post c r' _ ⟨hpp, hww, hff⟩ ?_ updM_same ((h3.put hap haq).put hcp hcq) fun b e1 e2 e3 => ?_
    · rw [← hM3 c hcp hcq]
      exact hc
    · rw [updM_ne e3]
      exact hM3 b e1 e2
end
end Hr
set_option Elab.async false
set_option linter.all false
set_option maxRecDepth 100000
set_option maxHeartbeats 4000000
/-! HeirP1: sums of fractions in lowest terms (plain). -/
namespace Hr
theorem low_fst (a b : Nat) : Nat.gcd a b * (low a b).1 = a := Nat.mul_div_cancel' (Nat.gcd_dvd_left a b)
theorem low_snd (a b : Nat) : Nat.gcd a b * (low a b).2 = b := Nat.mul_div_cancel' (Nat.gcd_dvd_right a b)
theorem low_cop {a b : Nat} (h : 0 < b) : Nat.Coprime (low a b).1 (low a b).2 := Nat.coprime_div_gcd_div_gcd (Nat.gcd_pos_of_pos_right _ h)
/-- the value of a low fraction -/
theorem low_val (a b : Nat) : (low a b).1 * b = a * (low a b).2 := by
  have h1 := low_fst a b
  have h2 := low_snd a b
  calc (low a b).1 * b = (low a b).1 * (Nat.gcd a b * (low a b).2) := by rw [h2]
    _ = (Nat.gcd a b * (low a b).1) * (low a b).2 := by rw [← Nat.mul_assoc, Nat.mul_comm (low a b).1]
    _ = a * (low a b).2 := by rw [h1]
theorem cop_uniq {a b c d : Nat} (h1 : Nat.Coprime a b) (h2 : Nat.Coprime c d) (hb : 0 < b) (hd : 0 < d) (e : a * d = c * b) : a = c ∧ b = d := by
  have k1 : b ∣ d := h1.symm.dvd_of_dvd_mul_left (k := b) (m := a) (n := d) (by
    rw [e]
    exact Nat.dvd_mul_left b c)
  have k2 : d ∣ b := h2.symm.dvd_of_dvd_mul_left (k := d) (m := c) (n := b) (by
    rw [← e]
    exact Nat.dvd_mul_left d a)
  have hbd : b = d := Nat.dvd_antisymm k1 k2
  subst hbd
  exact ⟨Nat.eq_of_mul_eq_mul_right hb e, rfl⟩
theorem low_congr {a b c d : Nat} (hb : 0 < b) (hd : 0 < d) (e : a * d = c * b) : low a b = low c d := by
  have hb' := low_pos (a := a) hb
  have hd' := low_pos (a := c) hd
  have v1 := low_val a b
  have v2 := low_val c d
  have key : (low a b).1 * (low c d).2 = (low c d).1 * (low a b).2 := by
    refine Nat.eq_of_mul_eq_mul_right (Nat.mul_pos hb hd) ?_
    calc (low a b).1 * (low c d).2 * (b * d) = ((low a b).1 * b) * ((low c d).2 * d) := Nat.mul_mul_mul_comm _ _ _ _
      _ = (a * (low a b).2) * ((low c d).2 * d) := by rw [v1]
      _ = (a * d) * ((low a b).2 * (low c d).2) := by
        rw [Nat.mul_comm (low c d).2 d, Nat.mul_mul_mul_comm]
      _ = (c * b) * ((low a b).2 * (low c d).2) := by rw [e]
      _ = (c * (low c d).2) * (b * (low a b).2) := by
        rw [Nat.mul_comm (low a b).2, Nat.mul_mul_mul_comm]
      _ = ((low c d).1 * d) * (b * (low a b).2) := by rw [v2]
      _ = (low c d).1 * (low a b).2 * (b * d) := by
        rw [Nat.mul_comm b, Nat.mul_mul_mul_comm, Nat.mul_comm d b]
  obtain ⟨e1, e2⟩ := cop_uniq (low_cop hb) (low_cop hd) hb' hd' key
  exact Prod.ext e1 e2
theorem plusF_comm (x y : Fr) : plusF x y = plusF y x := by
  unfold plusF
  rw [Nat.add_comm, Nat.mul_comm x.2 y.2]
theorem plusF_pos {x y : Fr} (hx : 0 < x.2) (hy : 0 < y.2) : 0 < (plusF x y).2 := low_pos (Nat.mul_pos hx hy)
/-- a sum with a reduced sum: reduce at the end -/
theorem plusF_low {a b : Nat} {z : Fr} (hb : 0 < b) (hz : 0 < z.2) : plusF (low a b) z = low (a * z.2 + z.1 * b) (b * z.2) := by
  unfold plusF
  have hb' := low_pos (a := a) hb
  refine low_congr (Nat.mul_pos hb' hz) (Nat.mul_pos hb hz) ?_
  have v := low_val a b
  have e1 : (low a b).1 * z.2 * (b * z.2) = a * z.2 * ((low a b).2 * z.2) := by
    calc (low a b).1 * z.2 * (b * z.2) = ((low a b).1 * b) * (z.2 * z.2) := Nat.mul_mul_mul_comm _ _ _ _
      _ = (a * (low a b).2) * (z.2 * z.2) := by rw [v]
      _ = a * z.2 * ((low a b).2 * z.2) := Nat.mul_mul_mul_comm _ _ _ _
  have e2 : z.1 * (low a b).2 * (b * z.2) = z.1 * b * ((low a b).2 * z.2) := by
    rw [Nat.mul_mul_mul_comm z.1 (low a b).2, Nat.mul_mul_mul_comm z.1 b]
  rw [Nat.add_mul, Nat.add_mul, e1, e2]
theorem plusF_assoc {x y z : Fr} (hx : 0 < x.2) (hy : 0 < y.2) (hz : 0 < z.2) : plusF (plusF x y) z = plusF x (plusF y z) := by
  rw [show plusF x y = low (x.1 * y.2 + y.1 * x.2) (x.2 * y.2) from rfl, plusF_low (Nat.mul_pos hx hy) hz]
  rw [plusF_comm x, show plusF y z = low (y.1 * z.2 + z.1 * y.2) (y.2 * z.2) from rfl, plusF_low (Nat.mul_pos hy hz) hx]
  have e2 : x.2 * y.2 * z.2 = y.2 * z.2 * x.2 := by rw [Nat.mul_assoc, Nat.mul_comm x.2]
  have e1 : (x.1 * y.2 + y.1 * x.2) * z.2 + z.1 * (x.2 * y.2) = (y.1 * z.2 + z.1 * y.2) * x.2 + x.1 * (y.2 * z.2) := by
    rw [Nat.add_mul, Nat.add_mul]
    have a1 : x.1 * y.2 * z.2 = x.1 * (y.2 * z.2) := Nat.mul_assoc _ _ _
    have a2 : y.1 * x.2 * z.2 = y.1 * z.2 * x.2 := Nat.mul_right_comm _ _ _
    have a3 : z.1 * (x.2 * y.2) = z.1 * y.2 * x.2 := by rw [Nat.mul_comm x.2 y.2, Nat.mul_assoc]
    rw [a1, a2, a3]
    omega
  rw [e1, e2]
/-- a gift into a sum -/
theorem plusF_right {x y g : Fr} (hx : 0 < x.2) (hy : 0 < y.2) (hg : 0 < g.2) : plusF (plusF x y) g = plusF (plusF x g) y := by
  rw [plusF_assoc hx hy hg, plusF_comm y g, ← plusF_assoc hx hg hy]
theorem plusF_zero : plusF (0, 1) (0, 1) = (0, 1) := by decide
end Hr
set_option Elab.async false
set_option linter.all false
set_option maxRecDepth 100000
set_option maxHeartbeats 4000000
/-! HeirP2: one family within a bigger one; two woven (plain). -/
namespace Hr
open PySem
theorem heirs_fold_congr {al al' : Str → Bool} : ∀ (l : List (List Str)) (h0 : List Str), (∀ g ∈ l, ∀ x ∈ g, al x = al' x) → l.foldl (pickH al) h0 = l.foldl (pickH al') h0
  | [], h0, _ => rfl
  | g :: l, h0, h => by
    have e : here al g = here al' g := List.filter_congr fun x hx => h g List.mem_cons_self x hx
    show l.foldl (pickH al) (pickH al h0 g) = l.foldl (pickH al') (pickH al' h0 g)
    have e2 : pickH al h0 g = pickH al' h0 g := by
      unfold pickH
      rw [e]
    rw [e2]
    exact heirs_fold_congr l _ fun g' hg' => h g' (List.mem_cons_of_mem _ hg')
theorem heirsOf_congr {al al' : Str → Bool} {gs : List (List Str)} (h : ∀ g ∈ gs, ∀ x ∈ g, al x = al' x) : heirsOf al gs = heirsOf al' gs :=
  heirs_fold_congr _ _ fun g hg => h g (List.mem_reverse.mp hg)
theorem heirs_mem {al : Str → Bool} {gs : List (List Str)} {k : Str} (hk : k ∈ heirsOf al gs) : k = crown ∨ (al k = true ∧ ∃ g ∈ gs, k ∈ g) := by
  have key : ∀ (l : List (List Str)) (h0 : List Str), (∀ g ∈ l, g ∈ gs) → (∀ k ∈ h0, k = crown ∨ (al k = true ∧ ∃ g ∈ gs, k ∈ g)) → ∀ k ∈ l.foldl (pickH al) h0, k = crown ∨ (al k = true ∧ ∃ g ∈ gs, k ∈ g) := fun l => by
    induction l with
    | nil => exact fun h0 _ h => h
    | cons g l ih =>
      intro h0 hm h
      refine ih _ (fun g' hg' => hm g' (List.mem_cons_of_mem _ hg')) ?_
      unfold pickH
      split
      · intro k hk
        obtain ⟨h1, h2⟩ := List.mem_filter.mp hk
        exact .inr ⟨h2, g, hm g List.mem_cons_self, h1⟩
      · exact h
  exact key gs.reverse [crown] (fun g hg => List.mem_reverse.mp hg) (fun k hk => .inl (List.mem_singleton.mp hk)) k hk
theorem addP_congr {al al' : Str → Bool} {W : Nat} {k : Str} {o : Option Fr} {s : Share} (h : heirsOf al s.2 = heirsOf al' s.2) : addP al W k o s = addP al' W k o s := by
  unfold addP
  rw [h]
theorem partOf_congr {sh : List Share} {al al' : Str → Bool} (h : ∀ s ∈ sh, ∀ g ∈ s.2, ∀ x ∈ g, al x = al' x) (k : Str) : partOf sh al k = partOf sh al' k := by
  unfold partOf
  have key : ∀ (l : List Share) (o : Option Fr) (W : Nat), (∀ s ∈ l, ∀ g ∈ s.2, ∀ x ∈ g, al x = al' x) → l.foldl (addP al W k) o = l.foldl (addP al' W k) o := fun l => by
    induction l with
    | nil => exact fun _ _ _ => rfl
    | cons s l ih =>
      intro o W h
      show l.foldl (addP al W k) (addP al W k o s) = l.foldl (addP al' W k) (addP al' W k o s)
      rw [addP_congr (heirsOf_congr (h s List.mem_cons_self))]
      exact ih _ W fun t ht => h t (List.mem_cons_of_mem _ ht)
  exact key sh none _ h
theorem partOf_none {sh : List Share} {al : Str → Bool} {k : Str} (hc : k ≠ crown) (h : ∀ s ∈ sh, ∀ g ∈ s.2, k ∉ g) : partOf sh al k = none := by
  unfold partOf
  have key : ∀ (l : List Share) (W : Nat), (∀ s ∈ l, ∀ g ∈ s.2, k ∉ g) → l.foldl (addP al W k) none = none := fun l => by
    induction l with
    | nil => exact fun _ _ => rfl
    | cons s l ih =>
      intro W h
      show l.foldl (addP al W k) (addP al W k none s) = none
      have e : addP al W k none s = none := by
        unfold addP
        rw [if_neg]
        intro hk
        rcases heirs_mem hk with e | ⟨_, g, hg, hkg⟩
        · exact hc e
        · exact h s List.mem_cons_self g hg hkg
      rw [e]
      exact ih W fun t ht => h t (List.mem_cons_of_mem _ ht)
  exact key sh _ h
/-- a gift, or none -/
def addO (h : Option Fr) : Option Fr → Option Fr
  | some g => h.map fun f => plusF f g
  | none => h
theorem giveH_add (h : Held) (a : Fr) (pt : Str → Option Fr) (k : Str) : giveH h a pt k = addO (h k) ((pt k).map (timesF a)) := by
  unfold giveH addO
  cases pt k <;> rfl
/-- one death of a family within a bigger one -/
theorem emb_step {A : List Str} {wb wm : Str → Option (List Share)} {hb hm : Held} {n : Str} {sh : List Share} {t : Nat} (hA : crown ∉ A) (hn : n ∈ A) (e1 : wb n = some sh) (e2 : wm n = some sh) (hs : ∀ s ∈ sh, ∀ g ∈ s.2, ∀ x ∈ g, x ∈ A) (hB : ShB sh)
    (hag : ∀ k ∈ A, hb k = hm k) (hbd : HB t hm) :
    (∀ k ∈ A, stepH wb hb n k = stepH wm hm n k) ∧ (∀ k, k ∉ A → k ≠ crown → stepH wb hb n k = hb k) ∧ ∃ g : Option Fr, (∀ f, g = some f → 0 < f.2) ∧ stepH wb hb n crown = addO (hb crown) g ∧ stepH wm hm n crown = addO (hm crown) g := by
  have hcn : crown ≠ n := fun z => hA (z ▸ hn)
  have hdrop : ∀ k ∈ A, dropH hb n k = dropH hm n k := fun k hk => by
    unfold dropH
    split
    · rfl
    · exact hag k hk
  have hal : ∀ k ∈ A, aliveH (dropH hb n) k = aliveH (dropH hm n) k := fun k hk => by
    unfold aliveH
    rw [hdrop k hk]
  have hpt : ∀ k, partOf sh (aliveH (dropH hb n)) k = partOf sh (aliveH (dropH hm n)) k := fun k => partOf_congr (fun s h g hg x hx => hal x (hs s h g hg x hx)) k
  have hpf : partOf sh (aliveH (dropH hb n)) = partOf sh (aliveH (dropH hm n)) := funext hpt
  have sb : ∀ k, stepH wb hb n k = addO (dropH hb n k) ((partOf sh (aliveH (dropH hm n)) k).map (timesF ((hm n).getD (0, 1)))) := fun k => by
    unfold stepH
    rw [giveH_add, e1, hag n hn]
    show addO _ ((partOf sh (aliveH (dropH hb n)) k).map _) = _
    rw [hpf]
  have sm : ∀ k, stepH wm hm n k = addO (dropH hm n k) ((partOf sh (aliveH (dropH hm n)) k).map (timesF ((hm n).getD (0, 1)))) := fun k => by
    unfold stepH
    rw [giveH_add, e2]
    rfl
  refine ⟨fun k hk => by rw [sb, sm, hdrop k hk], fun k hk hc => ?_, (partOf sh (aliveH (dropH hm n)) crown).map (timesF ((hm n).getD (0, 1))), fun f hf => ?_, ?_, ?_⟩
  · rw [sb, partOf_none hc fun s h g hg hkg => hk (hs s h g hg k hkg)]
    have : k ≠ n := fun z => hk (z ▸ hn)
    show dropH hb n k = hb k
    unfold dropH
    rw [if_neg this]
  · obtain ⟨p, hp, rfl⟩ := Option.map_eq_some_iff.mp hf
    exact (more_bd (hbd.get n) (part_bd hB hp)).pos
  · rw [sb]
    congr 1
    unfold dropH
    rw [if_neg hcn]
  · rw [sm]
    congr 1
    unfold dropH
    rw [if_neg hcn]
/-- what a family's wills are, to the runs -/
structure WlOk (A : List Str) (wb wm : Str → Option (List Share)) (o : List Str) : Prop where
  cr : crown ∉ A
  in_ : ∀ n ∈ o, n ∈ A
  wl : ∀ n ∈ o, ∃ sh, wb n = some sh ∧ wm n = some sh ∧ ShB sh ∧ ∀ s ∈ sh, ∀ g ∈ s.2, ∀ x ∈ g, x ∈ A
theorem WlOk.tail {A : List Str} {wb wm : Str → Option (List Share)} {n : Str} {o : List Str} (h : WlOk A wb wm (n :: o)) : WlOk A wb wm o :=
  ⟨h.cr, fun x hx => h.in_ x (List.mem_cons_of_mem _ hx), fun x hx => h.wl x (List.mem_cons_of_mem _ hx)⟩
/-- the whole run within a bigger family -/
theorem emb_run {A : List Str} {wb wm : Str → Option (List Share)} : ∀ {o : List Str} {hb hm : Held} {t : Nat}, WlOk A wb wm o → (∀ k ∈ A, hb k = hm k) → hb crown = hm crown → HB t hm →
    (∀ k ∈ A, runH wb hb o k = runH wm hm o k) ∧ runH wb hb o crown = runH wm hm o crown ∧ ∀ k, k ∉ A → k ≠ crown → runH wb hb o k = hb k
  | [], hb, hm, t, _, h1, h2, _ => ⟨h1, h2, fun _ _ _ => rfl⟩
  | n :: o, hb, hm, t, hw, h1, h2, h3 => by
    obtain ⟨sh, e1, e2, hB, hs⟩ := hw.wl n List.mem_cons_self
    obtain ⟨a1, a2, g, _, a3, a4⟩ := emb_step hw.cr (hw.in_ n List.mem_cons_self) e1 e2 hs hB h1 h3
    obtain ⟨b1, b2, b3⟩ := emb_run (hb := stepH wb hb n) (hm := stepH wm hm n) hw.tail a1 (by rw [a3, a4, h2]) (step_bd h3 e2 hB)
    exact ⟨b1, b2, fun k hk hc => (b3 k hk hc).trans (a2 k hk hc)⟩
/-- two families' tables within one -/
structure Two (A B : List Str) (hb hm hn : Held) : Prop where
  a : ∀ k ∈ A, hb k = hm k
  b : ∀ k ∈ B, hb k = hn k
  c : ∃ c1 c2 : Fr, hm crown = some c1 ∧ hn crown = some c2 ∧ hb crown = some (plusF c1 c2) ∧ 0 < c1.2 ∧ 0 < c2.2
theorem weave_run {A B : List Str} {wb wm wn : Str → Option (List Share)} (hd : ∀ x ∈ A, x ∉ B) {a b w : List Str} (h : Weave a b w) : ∀ {hb hm hn : Held} {t t' : Nat}, WlOk A wb wm a → WlOk B wb wn b → Two A B hb hm hn → HB t hm → HB t' hn → Two A B (runH wb hb w) (runH wm hm a) (runH wn hn b) := by
  induction h with
  | nil => exact fun _ _ h _ _ => h
  | @left x a b w _ ih =>
    intro hb hm hn t t' ha hb' h2 h3 h4
    obtain ⟨sh, e1, e2, hB, hs⟩ := ha.wl x List.mem_cons_self
    obtain ⟨a1, a2, g, ag, a3, a4⟩ := emb_step ha.cr (ha.in_ x List.mem_cons_self) e1 e2 hs hB h2.a h3
    refine ih (hb := stepH wb hb x) (hm := stepH wm hm x) (hn := hn) ha.tail hb' ⟨a1, fun k hk => ?_, ?_⟩ (step_bd h3 e2 hB) h4
    · have hkA : k ∉ A := fun z => hd k z hk
      have hkc : k ≠ crown := fun z => hb'.cr (z ▸ hk)
      rw [a2 k hkA hkc]
      exact h2.b k hk
    · obtain ⟨c1, c2, e3, e4, e5, p1, p2⟩ := h2.c
      rw [a3, a4, e3, e5]
      cases g with
      | none => exact ⟨c1, c2, rfl, e4, rfl, p1, p2⟩
      | some g =>
        have pg := ag g rfl
        exact ⟨plusF c1 g, c2, rfl, e4, congrArg some (plusF_right p1 p2 pg), plusF_pos p1 pg, p2⟩
  | @right x a b w _ ih =>
    intro hb hm hn t t' ha hb' h2 h3 h4
    obtain ⟨sh, e1, e2, hB, hs⟩ := hb'.wl x List.mem_cons_self
    obtain ⟨a1, a2, g, ag, a3, a4⟩ := emb_step hb'.cr (hb'.in_ x List.mem_cons_self) e1 e2 hs hB h2.b h4
    refine ih (hb := stepH wb hb x) (hm := hm) (hn := stepH wn hn x) ha hb'.tail ⟨fun k hk => ?_, a1, ?_⟩ h3 (step_bd h4 e2 hB)
    · have hkA : k ∉ B := hd k hk
      have hkc : k ≠ crown := fun z => ha.cr (z ▸ hk)
      rw [a2 k hkA hkc]
      exact h2.a k hk
    · obtain ⟨c1, c2, e3, e4, e5, p1, p2⟩ := h2.c
      rw [a3, a4, e4, e5]
      cases g with
      | none => exact ⟨c1, c2, e3, rfl, rfl, p1, p2⟩
      | some g =>
        have pg := ag g rfl
        refine ⟨c1, plusF c2 g, e3, rfl, congrArg some ?_, p1, plusF_pos p2 pg⟩
        exact plusF_assoc p1 p2 pg
theorem weave_mem {a b w : List Str} (h : Weave a b w) : ∀ x, x ∈ w ↔ x ∈ a ∨ x ∈ b := by
  induction h with
  | nil => simp
  | left _ ih =>
    intro y
    simp only [List.mem_cons, ih y, or_assoc]
  | right _ ih =>
    intro y
    simp only [List.mem_cons, ih y]
    constructor
    · rintro (h | h | h)
      · exact .inr (.inl h)
      · exact .inl h
      · exact .inr (.inr h)
    · rintro (h | h | h)
      · exact .inr (.inl h)
      · exact .inl h
      · exact .inr (.inr h)
theorem weave_len {a b w : List Str} (h : Weave a b w) : w.length = a.length + b.length := by
  induction h with
  | nil => rfl
  | left _ ih => simp only [List.length_cons, ih]; omega
  | right _ ih => simp only [List.length_cons, ih]; omega
theorem weave_nodup {a b w : List Str} (h : Weave a b w) : a.Nodup → b.Nodup → (∀ x ∈ a, x ∉ b) → w.Nodup := by
  induction h with
  | nil => exact fun _ _ _ => List.nodup_nil
  | @left x a b w hw ih =>
    intro h1 h2 h3
    obtain ⟨n1, n2⟩ := List.nodup_cons.mp h1
    refine List.nodup_cons.mpr ⟨fun z => ?_, ih n2 h2 fun y hy => h3 y (List.mem_cons_of_mem _ hy)⟩
    rcases (weave_mem hw x).mp z with z | z
    · exact n1 z
    · exact h3 x List.mem_cons_self z
  | @right x a b w hw ih =>
    intro h1 h2 h3
    obtain ⟨n1, n2⟩ := List.nodup_cons.mp h2
    refine List.nodup_cons.mpr ⟨fun z => ?_, ih h1 n2 fun y hy hb => h3 y hy (List.mem_cons_of_mem _ hb)⟩
    rcases (weave_mem hw x).mp z with z | z
    · exact h3 x z List.mem_cons_self
    · exact n1 z
/-- the order of either stands in the weave -/
theorem weave_keeps {a b w : List Str} (h : Weave a b w) : (∀ (i j : Nat) (x y : Str), a[i]? = some x → a[j]? = some y → i < j → ∃ i' j' : Nat, w[i']? = some x ∧ w[j']? = some y ∧ i' < j') ∧ (∀ (i j : Nat) (x y : Str), b[i]? = some x → b[j]? = some y → i < j → ∃ i' j' : Nat, w[i']? = some x ∧ w[j']? = some y ∧ i' < j') := by
  induction h with
  | nil => exact ⟨fun i j x y h => by simp at h, fun i j x y h => by simp at h⟩
  | @left z a b w hw ih =>
    obtain ⟨i1, i2⟩ := ih
    refine ⟨fun i j x y h1 h2 hij => ?_, fun i j x y h1 h2 hij => ?_⟩
    · cases i with
      | zero =>
        cases j with
        | zero => omega
        | succ j =>
          have e : z = x := by simpa using h1
          have hy : y ∈ w := (weave_mem hw y).mpr (.inl (List.mem_of_getElem? (by simpa using h2)))
          obtain ⟨j', hj'⟩ := List.mem_iff_getElem?.mp hy
          exact ⟨0, j' + 1, by rw [e]; rfl, by simpa using hj', by omega⟩
      | succ i =>
        cases j with
        | zero => omega
        | succ j =>
          obtain ⟨i', j', k1, k2, k3⟩ := i1 i j x y (by simpa using h1) (by simpa using h2) (by omega)
          exact ⟨i' + 1, j' + 1, by simpa using k1, by simpa using k2, by omega⟩
    · obtain ⟨i', j', k1, k2, k3⟩ := i2 i j x y h1 h2 hij
      exact ⟨i' + 1, j' + 1, by simpa using k1, by simpa using k2, by omega⟩
  | @right z a b w hw ih =>
    obtain ⟨i1, i2⟩ := ih
    refine ⟨fun i j x y h1 h2 hij => ?_, fun i j x y h1 h2 hij => ?_⟩
    · obtain ⟨i', j', k1, k2, k3⟩ := i1 i j x y h1 h2 hij
      exact ⟨i' + 1, j' + 1, by simpa using k1, by simpa using k2, by omega⟩
    · cases i with
      | zero =>
        cases j with
        | zero => omega
        | succ j =>
          have e : z = x := by simpa using h1
          have hy : y ∈ w := (weave_mem hw y).mpr (.inr (List.mem_of_getElem? (by simpa using h2)))
          obtain ⟨j', hj'⟩ := List.mem_iff_getElem?.mp hy
          exact ⟨0, j' + 1, by rw [e]; rfl, by simpa using hj', by omega⟩
      | succ i =>
        cases j with
        | zero => omega
        | succ j =>
          obtain ⟨i', j', k1, k2, k3⟩ := i2 i j x y (by simpa using h1) (by simpa using h2) (by omega)
          exact ⟨i' + 1, j' + 1, by simpa using k1, by simpa using k2, by omega⟩
end Hr
set_option Elab.async false
set_option linter.all false
set_option maxRecDepth 100000
set_option maxHeartbeats 4000000
/-! HeirP3: a family under other names runs alike (plain). -/
namespace Hr
open PySem
theorem nodup_map_on {α β : Type} {f : α → β} : ∀ {l : List α}, (∀ x ∈ l, ∀ y ∈ l, f x = f y → x = y) → l.Nodup → (l.map f).Nodup
  | [], _, _ => List.nodup_nil
  | a :: l, h, hn => by
    obtain ⟨n1, n2⟩ := List.nodup_cons.mp hn
    refine List.nodup_cons.mpr ⟨fun z => ?_, nodup_map_on (fun x hx y hy => h x (List.mem_cons_of_mem _ hx) y (List.mem_cons_of_mem _ hy)) n2⟩
    obtain ⟨b, hb, e⟩ := List.mem_map.mp z
    have := h b (List.mem_cons_of_mem _ hb) a List.mem_cons_self e
    exact n1 (this ▸ hb)
theorem getA_perm {α : Type} {l l' : List (Str × α)} (hp : l'.Perm l) (hn : (keysA l).Nodup) (k : Str) : getA l' k = getA l k := by
  have hn' : (keysA l').Nodup := (hp.map fun x : Str × α => x.1).nodup_iff.mpr hn
  cases e : getA l k with
  | some v => exact getA_of_mem hn' (hp.symm.subset (mem_of_getA e))
  | none =>
    refine getA_none.mpr fun z => getA_none.mp e ?_
    exact (hp.map fun x : Str × α => x.1).subset z
theorem getA_map {α β : Type} {f : Str × α → Str × β} {φ : Str → Str} {g : α → β} (hf : ∀ x, f x = (φ x.1, g x.2)) : ∀ {l : List (Str × α)} {k : Str}, (∀ x ∈ keysA l, φ x = φ k → x = k) → getA (l.map f) (φ k) = (getA l k).map g
  | [], k, _ => rfl
  | a :: l, k, h => by
    rw [List.map_cons, getA_cons, getA_cons, hf, getA_map (g := g) hf fun x hx => h x (List.mem_cons_of_mem _ hx)]
    by_cases e : a.1 = k
    · rw [if_pos (by rw [e]), if_pos e]
      rfl
    · rw [if_neg fun z => e (h a.1 List.mem_cons_self z), if_neg e]
/-- other names for the names N -/
structure Ren (N : List Str) (φ : Str → Str) : Prop where
  inj : ∀ x ∈ N, ∀ y ∈ N, φ x = φ y → x = y
  nc : ∀ x ∈ N, φ x ≠ crown
  cr : crown ∉ N
/-- the crown keeps its name -/
def psi (φ : Str → Str) (k : Str) : Str := if k = crown then crown else φ k
section
variable {N : List Str} {φ : Str → Str}
theorem Ren.psi_n (h : Ren N φ) {x : Str} (hx : x ∈ N) : psi φ x = φ x := if_neg fun z : x = crown => h.cr (z ▸ hx)
theorem Ren.psi_inj (h : Ren N φ) {x y : Str} (hx : x ∈ crown :: N) (hy : y ∈ crown :: N) (e : psi φ x = psi φ y) : x = y := by
  rcases List.mem_cons.mp hx with hx | hx
  · rcases List.mem_cons.mp hy with hy | hy
    · rw [hx, hy]
    · rw [hx, h.psi_n hy] at e
      exact absurd e.symm (h.nc y hy)
  · rcases List.mem_cons.mp hy with hy | hy
    · rw [hy, h.psi_n hx] at e
      exact absurd e (h.nc x hx)
    · rw [h.psi_n hx, h.psi_n hy] at e
      exact h.inj x hx y hy e
/-- a share, normed, under the other names -/
def overS (φ : Str → Str) (s : Share) : Share := (s.1, s.2.map fun g => g.map φ)
theorem here_over (h : Ren N φ) {al1 al2 : Str → Bool} (ha : ∀ x ∈ N, al2 (φ x) = al1 x) {g : List Str} (hg : ∀ x ∈ g, x ∈ N) : (here al2 (srt (g.map φ))).Perm ((here al1 (srt g)).map (psi φ)) := by
  have h1 : (here al2 (srt (g.map φ))).Perm ((g.map φ).filter al2) := (srt_perm _).filter al2
  have h2 : (g.map φ).filter al2 = (g.filter al1).map φ := by
    rw [List.filter_map]
    congr 1
    exact List.filter_congr fun x hx => ha x (hg x hx)
  have h3 : (g.filter al1).map φ = (g.filter al1).map (psi φ) := List.map_congr_left fun x hx => (h.psi_n (hg x (List.mem_filter.mp hx).1)).symm
  rw [h2, h3] at h1
  exact h1.trans (((srt_perm g).filter al1).symm.map _)
theorem heirs_over (h : Ren N φ) {al1 al2 : Str → Bool} (ha : ∀ x ∈ N, al2 (φ x) = al1 x) {gs : List (List Str)} (hg : ∀ g ∈ gs, ∀ x ∈ g, x ∈ N) : (heirsOf al2 ((gs.map fun g => g.map φ).map srt)).Perm ((heirsOf al1 (gs.map srt)).map (psi φ)) := by
  unfold heirsOf
  have key : ∀ (l : List (List Str)) (h1 h2 : List Str), (∀ g ∈ l, ∀ x ∈ g, x ∈ N) → h2.Perm (h1.map (psi φ)) → ((l.map fun g => srt (g.map φ)).foldl (pickH al2) h2).Perm (((l.map srt).foldl (pickH al1) h1).map (psi φ)) := fun l => by
    induction l with
    | nil => exact fun _ _ _ hp => hp
    | cons g l ih =>
      intro h1 h2 hl hp
      refine ih _ _ (fun g' hg' => hl g' (List.mem_cons_of_mem _ hg')) ?_
      have hh := here_over h ha (hl g List.mem_cons_self)
      unfold pickH
      by_cases e : here al1 (srt g) = []
      · have e2 : here al2 (srt (g.map φ)) = [] := by
          rw [e] at hh
          exact List.perm_nil.mp hh
        rw [if_neg (fun z => z e2), if_neg (fun z => z e)]
        exact hp
      · have e2 : here al2 (srt (g.map φ)) ≠ [] := fun z => by
          rw [z] at hh
          have := List.nil_perm.mp hh
          exact e (List.map_eq_nil_iff.mp this)
        rw [if_pos e2, if_pos e]
        exact hh
  have := key gs.reverse [crown] [crown] (fun g hg' => hg g (List.mem_reverse.mp hg')) (by simp [psi])
  rw [List.map_map, ← List.map_reverse, ← List.map_reverse]
  exact this
theorem whole_over (sh : List Share) : whole ((sh.map (overS φ)).map normSh) = whole (sh.map normSh) := by
  unfold whole
  rw [List.map_map, List.map_map, List.map_map]
  rfl
theorem part_over (h : Ren N φ) {al1 al2 : Str → Bool} (ha : ∀ x ∈ N, al2 (φ x) = al1 x) {sh : List Share} (hs : ∀ s ∈ sh, ∀ g ∈ s.2, ∀ x ∈ g, x ∈ N) {k : Str} (hk : k ∈ crown :: N) :
    partOf ((sh.map (overS φ)).map normSh) al2 (psi φ k) = partOf (sh.map normSh) al1 k := by
  unfold partOf
  rw [whole_over]
  have key : ∀ (l : List Share) (o : Option Fr) (W : Nat), (∀ s ∈ l, ∀ g ∈ s.2, ∀ x ∈ g, x ∈ N) → ((l.map (overS φ)).map normSh).foldl (addP al2 W (psi φ k)) o = (l.map normSh).foldl (addP al1 W k) o := fun l => by
    induction l with
    | nil => exact fun _ _ _ => rfl
    | cons s l ih =>
      intro o W hl
      have hp := heirs_over h ha (hl s List.mem_cons_self)
      have hstep : addP al2 W (psi φ k) o (normSh (overS φ s)) = addP al1 W k o (normSh s) := by
        unfold addP
        have hm : (psi φ k ∈ heirsOf al2 (normSh (overS φ s)).2) ↔ k ∈ heirsOf al1 (normSh s).2 := by
          refine hp.mem_iff.trans ⟨fun hm => ?_, fun hm => List.mem_map.mpr ⟨k, hm, rfl⟩⟩
          obtain ⟨y, hy, e⟩ := List.mem_map.mp hm
          have hyK : y ∈ crown :: N := by
            rcases heirs_mem hy with e | ⟨_, g, hg, hyg⟩
            · rw [e]
              exact List.mem_cons_self
            · obtain ⟨g0, hg0, rfl⟩ := List.mem_map.mp hg
              exact List.mem_cons_of_mem _ (hl s List.mem_cons_self g0 hg0 y (mem_srt.mp hyg))
          rw [← h.psi_inj hyK hk e]
          exact hy
        have hlen : (heirsOf al2 (normSh (overS φ s)).2).length = (heirsOf al1 (normSh s).2).length := by
          have := hp.length_eq
          rw [List.length_map] at this
          exact this
        by_cases e : k ∈ heirsOf al1 (normSh s).2
        · rw [if_pos e, if_pos (hm.mpr e), hlen]
          rfl
        · rw [if_neg e, if_neg fun z => e (hm.mp z)]
      show ((l.map (overS φ)).map normSh).foldl _ (addP al2 W (psi φ k) o (normSh (overS φ s))) = (l.map normSh).foldl _ (addP al1 W k o (normSh s))
      rw [hstep]
      exact ih _ W fun t ht => hl t (List.mem_cons_of_mem _ ht)
  exact key sh none _ hs
theorem step_over (h : Ren N φ) {w1 w2 : Str → Option (List Share)} {h1 h2 : Held} {n : Str} {sh : List Share} (hn : n ∈ N) (e1 : w1 n = some (sh.map normSh)) (e2 : w2 (φ n) = some ((sh.map (overS φ)).map normSh)) (hs : ∀ s ∈ sh, ∀ g ∈ s.2, ∀ x ∈ g, x ∈ N)
    (hh : ∀ k ∈ crown :: N, h2 (psi φ k) = h1 k) : ∀ k ∈ crown :: N, stepH w2 h2 (φ n) (psi φ k) = stepH w1 h1 n k := by
  have hdrop : ∀ k ∈ crown :: N, dropH h2 (φ n) (psi φ k) = dropH h1 n k := fun k hk => by
    unfold dropH
    by_cases e : k = n
    · subst e
      rw [if_pos (h.psi_n hn), if_pos rfl]
    · rw [if_neg e, if_neg, hh k hk]
      intro z
      rw [← h.psi_n hn] at z
      exact e (h.psi_inj hk (List.mem_cons_of_mem _ hn) z)
  have ha : ∀ x ∈ N, aliveH (dropH h2 (φ n)) (φ x) = aliveH (dropH h1 n) x := fun x hx => by
    unfold aliveH
    rw [← h.psi_n hx, hdrop x (List.mem_cons_of_mem _ hx), h.psi_n hx]
    congr 1
    rw [decide_eq_false (h.nc x hx), decide_eq_false (show ¬ x = crown from fun z => h.cr (z ▸ hx))]
  intro k hk
  unfold stepH
  rw [giveH_add, giveH_add, hdrop k hk, e1, e2]
  show addO _ ((partOf ((sh.map (overS φ)).map normSh) (aliveH (dropH h2 (φ n))) (psi φ k)).map (timesF ((h2 (φ n)).getD (0, 1)))) = addO _ ((partOf (sh.map normSh) (aliveH (dropH h1 n)) k).map (timesF ((h1 n).getD (0, 1))))
  rw [part_over h ha hs hk, ← h.psi_n hn, hh n (List.mem_cons_of_mem _ hn)]
theorem run_over (h : Ren N φ) {w1 w2 : Str → Option (List Share)} : ∀ {o : List Str} {h1 h2 : Held}, (∀ n ∈ o, n ∈ N ∧ ∃ sh : List Share, w1 n = some (sh.map normSh) ∧ w2 (φ n) = some ((sh.map (overS φ)).map normSh) ∧ ∀ s ∈ sh, ∀ g ∈ s.2, ∀ x ∈ g, x ∈ N) →
    (∀ k ∈ crown :: N, h2 (psi φ k) = h1 k) → ∀ k ∈ crown :: N, runH w2 h2 (o.map φ) (psi φ k) = runH w1 h1 o k
  | [], h1, h2, _, hh => hh
  | n :: o, h1, h2, hw, hh => by
    obtain ⟨hn, sh, e1, e2, hs⟩ := hw n List.mem_cons_self
    exact run_over h (h1 := stepH w1 h1 n) (h2 := stepH w2 h2 (φ n)) (fun x hx => hw x (List.mem_cons_of_mem _ hx)) (step_over h hn e1 e2 hs hh)
end
end Hr
set_option Elab.async false
set_option linter.all false
set_option maxRecDepth 100000
set_option maxHeartbeats 4000000
/-! HeirP4: the families of the law are good (plain). -/
namespace Hr
open PySem
def Fam.nms (r : Fam) : List Str := r.people.map (·.1)
theorem keeps_perm {o : List Str} {f f' : List (Str × Str)} (hp : f'.Perm f) (h : Keeps o f) : Keeps o f' := fun x hx => h x (hp.subset hx)
theorem mix_raw {r r' : Fam} (h : RawOk r) (hm : MixOf r r') : RawOk r' := by
  have pn : (r'.people.map (·.1)).Perm (r.people.map (·.1)) := hm.p.map _
  have wn : (r'.wills.map (·.1)).Perm (r.wills.map (·.1)) := hm.w.map _
  obtain ⟨o, o1, o2, o3, o4⟩ := h.fo
  refine ⟨fun z => ?_, ?_, fun p hp => h.po p (hm.p.subset hp), pn.nodup_iff.mpr h.pd, fun p hp => h.pa p (hm.p.subset hp), ?_, wn.nodup_iff.mpr h.wd, fun x hx => pn.symm.subset (h.wi x (hm.w.subset hx)), fun x hx => ?_, ?_, o, o1, o2, fun d => (o3 d).trans wn.mem_iff.symm, keeps_perm hm.f o4⟩
  · have := hm.p.length_eq
    rw [z] at this
    exact h.pn (List.eq_nil_of_length_eq_zero this.symm)
  · rw [hm.p.length_eq]
    exact h.pf
  · rw [hm.w.length_eq]
    exact h.wf
  · obtain ⟨k1, k2, k3⟩ := h.ws x (hm.w.subset hx)
    refine ⟨k1, k2, fun s hs => (k3 s hs).mono fun y hy => ?_⟩
    obtain ⟨y1, y2⟩ := List.mem_filter.mp hy
    exact List.mem_filter.mpr ⟨pn.symm.subset y1, y2⟩
  · rw [hm.f.length_eq]
    exact h.ff
theorem RawOk.dn {r : Fam} (h : RawOk r) {x : Str} (hx : x ∈ r.wills.map (·.1)) : x ∈ r.nms := by
  obtain ⟨y, hy, rfl⟩ := List.mem_map.mp hx
  exact h.wi y hy
theorem RawOk.fn {r : Fam} (h : RawOk r) {f : Str × Str} (hf : f ∈ r.facts) : f.1 ∈ r.nms ∧ f.2 ∈ r.nms := by
  have := h.fam.fa.at hf
  rw [norm_dead] at this
  exact ⟨h.dn this.1, h.dn this.2.1⟩
theorem RawOk.cr {r : Fam} (h : RawOk r) : crown ∉ r.nms := fun hc => by
  obtain ⟨p, hp, e⟩ := List.mem_map.mp hc
  exact (h.po p hp).no e
theorem keeps_map {o : List Str} {f : List (Str × Str)} {φ : Str → Str} (h : Keeps o f) : Keeps (o.map φ) (f.map fun x => (φ x.1, φ x.2)) := fun x hx => by
  obtain ⟨y, hy, rfl⟩ := List.mem_map.mp hx
  obtain ⟨i, j, e1, e2, hij⟩ := h y hy
  exact ⟨i, j, by rw [List.getElem?_map, e1]; rfl, by rw [List.getElem?_map, e2]; rfl, hij⟩
theorem over_raw {r : Fam} {φ : Str → Str} (h : RawOk r) (hr : Ren r.nms φ) (hok : ∀ x ∈ r.nms, NameOk (φ x)) : RawOk (r.over φ) := by
  have pe : (r.over φ).people.map (·.1) = r.nms.map φ := by
    show (r.people.map _).map _ = (r.people.map _).map _
    rw [List.map_map, List.map_map]
    rfl
  have we : (r.over φ).wills.map (·.1) = (r.wills.map (·.1)).map φ := by
    show (r.wills.map _).map _ = _
    rw [List.map_map, List.map_map]
    rfl
  obtain ⟨o, o1, o2, o3, o4⟩ := h.fo
  have oN : ∀ x ∈ o, x ∈ r.nms := fun x hx => h.dn ((o3 x).mp hx)
  refine ⟨fun z => h.pn (List.map_eq_nil_iff.mp z), ?_, fun p hp => ?_, ?_, fun p hp => ?_, ?_, ?_, fun x hx => ?_, fun x hx => ?_, ?_, o.map φ, nodup_map_on (fun x hx y hy e => hr.inj x (oN x hx) y (oN y hy) e) o1, by rw [List.length_map]; exact o2, fun d => ?_, keeps_map o4⟩
  · show (r.people.map _).length ≤ 14
    rw [List.length_map]
    exact h.pf
  · obtain ⟨y, hy, rfl⟩ := List.mem_map.mp hp
    exact hok y.1 (List.mem_map.mpr ⟨y, hy, rfl⟩)
  · rw [pe]
    exact nodup_map_on hr.inj h.pd
  · obtain ⟨y, hy, rfl⟩ := List.mem_map.mp hp
    exact h.pa y hy
  · show (r.wills.map _).length ≤ 8
    rw [List.length_map]
    exact h.wf
  · rw [we]
    exact nodup_map_on (fun x hx y hy e => hr.inj x (h.dn hx) y (h.dn hy) e) h.wd
  · obtain ⟨y, hy, rfl⟩ := List.mem_map.mp hx
    rw [pe]
    exact List.mem_map.mpr ⟨y.1, h.wi y hy, rfl⟩
  · obtain ⟨y, hy, rfl⟩ := List.mem_map.mp hx
    obtain ⟨k1, k2, k3⟩ := h.ws y hy
    refine ⟨fun z => k1 (List.map_eq_nil_iff.mp z), by show (y.2.map _).length ≤ 3; rw [List.length_map]; exact k2, fun s hs => ?_⟩
    obtain ⟨s0, hs0, rfl⟩ := List.mem_map.mp hs
    have k := k3 s0 hs0
    have gN : ∀ g ∈ s0.2, ∀ x ∈ g, x ∈ r.nms ∧ x ≠ y.1 := fun g hg x hx => by
      obtain ⟨h1, h2⟩ := List.mem_filter.mp (k.in_ g hg x hx)
      exact ⟨h1, by simpa using h2⟩
    refine ⟨k.w1, k.w9, by show (s0.2.map _).length ≤ 3; rw [List.length_map]; exact k.gr, fun g hg => ?_, fun g hg => ?_, fun g hg => ?_, fun g hg x hx => ?_⟩
    · obtain ⟨g0, hg0, rfl⟩ := List.mem_map.mp hg
      exact fun z => k.ne g0 hg0 (List.map_eq_nil_iff.mp z)
    · obtain ⟨g0, hg0, rfl⟩ := List.mem_map.mp hg
      rw [List.length_map]
      exact k.gl g0 hg0
    · obtain ⟨g0, hg0, rfl⟩ := List.mem_map.mp hg
      exact nodup_map_on (fun a ha b hb e => hr.inj a (gN g0 hg0 a ha).1 b (gN g0 hg0 b hb).1 e) (k.nd g0 hg0)
    · obtain ⟨g0, hg0, rfl⟩ := List.mem_map.mp hg
      obtain ⟨x0, hx0, rfl⟩ := List.mem_map.mp hx
      obtain ⟨n1, n2⟩ := gN g0 hg0 x0 hx0
      rw [pe]
      refine List.mem_filter.mpr ⟨List.mem_map.mpr ⟨x0, n1, rfl⟩, ?_⟩
      have : φ x0 ≠ φ y.1 := fun z => n2 (hr.inj x0 n1 y.1 (h.wi y hy) z)
      show (!decide (φ x0 = φ y.1)) = true
      simp [this]
  · show (r.facts.map _).length ≤ 10
    rw [List.length_map]
    exact h.ff
  · rw [we]
    constructor
    · intro hd
      obtain ⟨x, hx, rfl⟩ := List.mem_map.mp hd
      exact List.mem_map.mpr ⟨x, (o3 x).mp hx, rfl⟩
    · intro hd
      obtain ⟨x, hx, rfl⟩ := List.mem_map.mp hd
      exact List.mem_map.mpr ⟨x, (o3 x).mpr hx, rfl⟩
theorem RawOk.run {r : Fam} (h : RawOk r) {o : List Str} (ho : OrdOk r.norm o) : RunOk r.norm o := by
  refine ⟨h.fam, h.pa, ho.nd, fun x hx => (ho.mem x).mp hx, ?_⟩
  rw [ho.len h.fam.wi.nd, norm_dead, List.length_map]
  exact h.wf
section
variable {r r' : Fam} {φ : Str → Str} {o : List Str}
theorem over_dead (hm : MixOf (r.over φ) r') (d : Str) : d ∈ r'.norm.dead ↔ ∃ x ∈ r.norm.dead, φ x = d := by
  rw [norm_dead, norm_dead]
  have e : (r'.wills.map (·.1)).Perm ((r.wills.map (·.1)).map φ) := by
    refine (hm.w.map (·.1)).trans (List.Perm.of_eq ?_)
    show (r.wills.map _).map _ = _
    rw [List.map_map, List.map_map]
    rfl
  rw [e.mem_iff, List.mem_map]
theorem over_ord (h : RawOk r) (hr : Ren r.nms φ) (hm : MixOf (r.over φ) r') (ho : OrdOk r.norm o) : OrdOk r'.norm (o.map φ) := by
  have oN : ∀ x ∈ o, x ∈ r.nms := fun x hx => by
    have := (ho.mem x).mp hx
    rw [norm_dead] at this
    exact h.dn this
  refine ⟨nodup_map_on (fun x hx y hy e => hr.inj x (oN x hx) y (oN y hy) e) ho.nd, fun d => ?_, keeps_perm hm.f (keeps_map ho.kp)⟩
  rw [over_dead hm, List.mem_map]
  constructor
  · rintro ⟨x, hx, rfl⟩
    exact ⟨x, (ho.mem x).mp hx, rfl⟩
  · rintro ⟨x, hx, rfl⟩
    exact ⟨x, (ho.mem x).mpr hx, rfl⟩
theorem norm_wl (r : Fam) (k : Str) : r.norm.wl k = (getA r.wills k).map fun sh : List Share => sh.map normSh := by
  show getA (r.wills.map fun x => (x.1, x.2.map normSh)) k = _
  exact getA_map (φ := fun x => x) (g := fun sh : List Share => sh.map normSh) (fun x => rfl) (fun x _ e => e)
theorem over_end (h : RawOk r) (hr : Ren r.nms φ) (hok : ∀ x ∈ r.nms, NameOk (φ x)) (hm : MixOf (r.over φ) r') (ho : OrdOk r.norm o) : ∀ k ∈ crown :: r.nms, endH r'.norm (o.map φ) (psi φ k) = endH r.norm o k := by
  have h2 := over_raw h hr hok
  unfold endH
  refine run_over hr (fun n hn => ?_) fun k hk => ?_
  · have hd := (ho.mem n).mp hn
    rw [norm_dead] at hd
    refine ⟨h.dn hd, ?_⟩
    cases e : getA r.wills n with
    | none => exact absurd hd (getA_none.mp e)
    | some sh =>
      refine ⟨sh, by rw [norm_wl, e]; rfl, ?_, fun s hs g hg x hx => ?_⟩
      · rw [norm_wl, getA_perm hm.w h2.wd]
        have e2 : getA (r.over φ).wills (φ n) = (getA r.wills n).map fun sh : List Share => sh.map (overS φ) :=
          getA_map (φ := φ) (g := fun sh : List Share => sh.map (overS φ)) (fun x => rfl) (fun x hx e => hr.inj x (h.dn hx) n (h.dn hd) e)
        rw [e2, e]
        rfl
      · obtain ⟨_, _, k3⟩ := h.ws (n, sh) (mem_of_getA e)
        exact (List.mem_filter.mp ((k3 s hs).in_ g hg x hx)).1
  · rcases List.mem_cons.mp hk with e | hk
    · subst e
      rfl
    · rw [hr.psi_n hk]
      unfold heldO
      rw [if_neg (hr.nc k hk), if_neg (show ¬ k = crown from fun z => hr.cr (z ▸ hk))]
      congr 1
      show getA r'.people (φ k) = getA r.people k
      rw [getA_perm hm.p h2.pd]
      have e2 : getA (r.over φ).people (φ k) = (getA r.people k).map fun a => a :=
        getA_map (φ := φ) (g := fun a => a) (fun x => rfl) (fun x hx e => hr.inj x hx k hk e)
      rw [e2]
      cases getA r.people k <;> rfl
theorem over_names (hm : MixOf (r.over φ) r') : r'.norm.names.Perm (r.norm.names.map φ) := by
  refine (hm.p.map (·.1)).trans (List.Perm.of_eq ?_)
  show (r.people.map _).map _ = (r.people.map _).map φ
  rw [List.map_map, List.map_map]
  rfl
theorem over_living (h : RawOk r) (hr : Ren r.nms φ) (hm : MixOf (r.over φ) r') : r'.norm.living.Perm (r.norm.living.map φ) := by
  have h1 := (over_names hm).filter fun x => !decide (x ∈ r'.norm.dead)
  have h2 : (r.norm.names.map φ).filter (fun x => !decide (x ∈ r'.norm.dead)) = r.norm.living.map φ := by
    rw [List.filter_map]
    congr 1
    refine List.filter_congr fun x hx => ?_
    show (!decide (φ x ∈ r'.norm.dead)) = !decide (x ∈ r.norm.dead)
    congr 1
    refine decide_eq_decide.mpr ((over_dead hm _).trans ⟨?_, fun hd => ⟨x, hd, rfl⟩⟩)
    rintro ⟨y, hy, e⟩
    have hyN : y ∈ r.nms := by
      rw [norm_dead] at hy
      exact h.dn hy
    exact hr.inj y hyN x hx e ▸ hy
  rw [h2] at h1
  exact h1
end
end Hr
set_option Elab.async false
set_option linter.all false
set_option maxRecDepth 100000
set_option maxHeartbeats 4000000
/-! HeirP5: one more person, two families, one more fact (plain). -/
namespace Hr
open PySem
abbrev q3 : Str := "qqq"
def Fam.more (m : Fam) : Fam := ⟨m.people ++ [(q3, 7)], m.wills, m.facts⟩
def Fam.late (m : Fam) (a b : Str) : Fam := { m with facts := m.facts ++ [(a, b)] }
theorem qqq_ok : NameOk q3 := by
  have h : 0 < q3.length ∧ q3.length < 6 ∧ q3 ≠ "crown" ∧ ∀ c ∈ q3.cps.toList, c ∈ letters.cps.toList := by decide +kernel
  exact ⟨h.1, h.2.1, h.2.2.1, h.2.2.2⟩
theorem more_names (m : Fam) : m.more.names = m.names ++ [q3] := by
  show (m.people ++ [(q3, 7)]).map (fun p : Str × Nat => p.1) = _
  rw [List.map_append]
  rfl
theorem FamOk.dn {m : Fam} (h : FamOk m) {x : Str} (hx : x ∈ m.dead) : x ∈ m.names := by
  obtain ⟨y, hy, rfl⟩ := List.mem_map.mp hx
  exact h.wi.in_ y hy
theorem more_fam {m : Fam} (h : FamOk m) (hq : q3 ∉ m.names) (hl : m.people.length ≤ 29) : FamOk m.more := by
  refine ⟨⟨fun z => ?_, ?_, fun p hp => ?_, ?_⟩, ⟨h.wi.few, h.wi.nd, fun x hx => ?_, h.wi.sh, fun x hx s hs g hg y hy => ?_⟩, h.fa⟩
  · exact absurd (List.append_eq_nil_iff.mp z).2 (by simp)
  · show (m.people ++ [(q3, 7)]).length ≤ 30
    rw [List.length_append]
    simp
    omega
  · rcases List.mem_append.mp hp with hp | hp
    · exact h.pp.ok p hp
    · rw [List.mem_singleton.mp hp]
      exact qqq_ok
  · show (m.more.names).Nodup
    rw [more_names]
    exact List.nodup_append.mpr ⟨h.pp.nd, by simp, fun a ha b hb => by
      rw [List.mem_singleton.mp hb]
      exact fun z => hq (z ▸ ha)⟩
  · rw [more_names]
    exact List.mem_append_left _ (h.wi.in_ x hx)
  · obtain ⟨h1, h2⟩ := h.wi.nm x hx s hs g hg y hy
    rw [more_names]
    exact ⟨List.mem_append_left _ h1, h2⟩
theorem more_run {m : Fam} {o : List Str} (h : RunOk m o) (hq : q3 ∉ m.names) (hl : m.people.length ≤ 29) : RunOk m.more o := by
  refine ⟨more_fam h.fam hq hl, fun p hp => ?_, h.nd, h.mem, h.few⟩
  rcases List.mem_append.mp hp with hp | hp
  · exact h.am p hp
  · rw [List.mem_singleton.mp hp]
    exact by decide
theorem more_ord {m : Fam} {o : List Str} (h : OrdOk m o) : OrdOk m.more o := ⟨h.nd, h.mem, h.kp⟩
/-- a family's own wills, to its run within a bigger one -/
theorem wlok {m : Fam} {o : List Str} (h : RunOk m o) {wb : Str → Option (List Share)} (hw : ∀ x ∈ m.names, wb x = m.wl x) : WlOk m.names wb m.wl o := by
  refine ⟨crown_no h.fam, fun n hn => h.fam.dn (h.mem n hn), fun n hn => ?_⟩
  obtain ⟨sh, e1, e2, e3⟩ := h.wl hn
  exact ⟨sh, (hw n (h.fam.dn (h.mem n hn))).trans e1, e1, e3, fun s hs g hg x hx => (h.fam.wi.nm _ e2 s hs g hg x hx).1⟩
theorem heldO_n {m : Fam} (h : FamOk m) {k : Str} (hk : k ∈ m.names) : heldO m k = (getA m.people k).map fun a => (a, 1) := if_neg fun z : k = crown => crown_no h (z ▸ hk)
theorem more_end {m : Fam} {o : List Str} (h : RunOk m o) (hq : q3 ∉ m.names) : (∀ k ∈ m.names, endH m.more o k = endH m o k) ∧ endH m.more o crown = endH m o crown ∧ endH m.more o q3 = some (7, 1) := by
  have hc : q3 ≠ crown := qqq_ok.no
  have hg : ∀ k, k ≠ q3 → heldO m.more k = heldO m k := fun k hk => by
    unfold heldO
    show (if k = crown then _ else (getA (m.people ++ [(q3, 7)]) k).map _) = _
    rw [getA_append]
    have e : getA [(q3, 7)] k = none := by rw [getA_cons, if_neg (fun z => hk z.symm)]; rfl
    rw [e]
    cases getA m.people k <;> rfl
  obtain ⟨h1, h2, h3⟩ := emb_run (A := m.names) (wb := m.more.wl) (wm := m.wl) (o := o) (hb := heldO m.more) (hm := heldO m) (t := 0) (wlok h fun _ _ => rfl) (fun k hk => hg k fun z => hq (z ▸ hk)) (hg crown fun z => hc z.symm) (heldO_bd h)
  refine ⟨h1, h2, ?_⟩
  show runH m.more.wl (heldO m.more) o q3 = _
  rw [h3 q3 hq hc]
  unfold heldO
  rw [if_neg hc]
  show (getA (m.people ++ [(q3, 7)]) q3).map _ = _
  rw [getA_append, getA_none.mpr hq, getA_cons, if_pos rfl]
  rfl
theorem more_living {m : Fam} (h : FamOk m) (hq : q3 ∉ m.names) : m.more.living = m.living ++ [q3] := by
  unfold Fam.living
  rw [more_names, List.filter_append]
  congr 1
  have : q3 ∉ m.more.dead := fun z => hq (h.dn z)
  simp [this]
/-! ### two families -/
section
variable {m n : Fam}
theorem add_names : (m.add n).names = m.names ++ n.names := List.map_append
theorem add_dead : (m.add n).dead = m.dead ++ n.dead := List.map_append
theorem add_ord {a b w : List Str} (hm : FamOk m) (hn : FamOk n) (hd : ∀ x ∈ m.names, x ∉ n.names) (ha : OrdOk m a) (hb : OrdOk n b) (hw : Weave a b w) : OrdOk (m.add n) w := by
  refine ⟨weave_nodup hw ha.nd hb.nd fun x hx hy => hd x (hm.dn ((ha.mem x).mp hx)) (hn.dn ((hb.mem x).mp hy)), fun d => ?_, fun f hf => ?_⟩
  · rw [add_dead, weave_mem hw, List.mem_append, ha.mem, hb.mem]
  · obtain ⟨k1, k2⟩ := weave_keeps hw
    rcases List.mem_append.mp hf with hf | hf
    · obtain ⟨i, j, e1, e2, hij⟩ := ha.kp f hf
      exact k1 i j _ _ e1 e2 hij
    · obtain ⟨i, j, e1, e2, hij⟩ := hb.kp f hf
      exact k2 i j _ _ e1 e2 hij
theorem add_fam {a b w : List Str} (hm : FamOk m) (hn : FamOk n) (hd : ∀ x ∈ m.names, x ∉ n.names) (ha : OrdOk m a) (hb : OrdOk n b) (hw : Weave a b w) (hl : w.length ≤ 30) (l1 : m.people.length ≤ 15) (l2 : n.people.length ≤ 15) (l3 : m.wills.length ≤ 15) (l4 : n.wills.length ≤ 15) (l5 : m.facts.length ≤ 50) (l6 : n.facts.length ≤ 50) : FamOk (m.add n) := by
  have ho := add_ord hm hn hd ha hb hw
  refine ⟨⟨fun z => ?_, ?_, fun p hp => ?_, ?_⟩, ⟨?_, ?_, fun x hx => ?_, fun x hx => ?_, fun x hx s hs g hg y hy => ?_⟩, ⟨?_, w, ho.nd, hl, ho.mem, ho.kp⟩⟩
  · exact hm.pp.ne (List.append_eq_nil_iff.mp z).1
  · show (m.people ++ n.people).length ≤ 30
    rw [List.length_append]
    omega
  · rcases List.mem_append.mp hp with hp | hp
    · exact hm.pp.ok p hp
    · exact hn.pp.ok p hp
  · show ((m.add n).names).Nodup
    rw [add_names]
    exact List.nodup_append.mpr ⟨hm.pp.nd, hn.pp.nd, fun a ha b hb z => hd a ha (z ▸ hb)⟩
  · show (m.wills ++ n.wills).length ≤ 30
    rw [List.length_append]
    omega
  · show ((m.add n).dead).Nodup
    rw [add_dead]
    exact List.nodup_append.mpr ⟨hm.wi.nd, hn.wi.nd, fun a ha b hb z => hd a (hm.dn ha) (z ▸ hn.dn hb)⟩
  · rw [add_names]
    rcases List.mem_append.mp hx with hx | hx
    · exact List.mem_append_left _ (hm.wi.in_ x hx)
    · exact List.mem_append_right _ (hn.wi.in_ x hx)
  · rcases List.mem_append.mp hx with hx | hx
    · exact hm.wi.sh x hx
    · exact hn.wi.sh x hx
  · rw [add_names]
    rcases List.mem_append.mp hx with hx | hx
    · obtain ⟨h1, h2⟩ := hm.wi.nm x hx s hs g hg y hy
      exact ⟨List.mem_append_left _ h1, h2⟩
    · obtain ⟨h1, h2⟩ := hn.wi.nm x hx s hs g hg y hy
      exact ⟨List.mem_append_right _ h1, h2⟩
  · show (m.facts ++ n.facts).length ≤ 100
    rw [List.length_append]
    omega
theorem add_run {a b w : List Str} (hm : RunOk m a) (hn : RunOk n b) (hf : FamOk (m.add n)) (ho : OrdOk (m.add n) w) (hl : w.length ≤ 8) : RunOk (m.add n) w :=
  ⟨hf, fun p hp => (List.mem_append.mp hp).elim (hm.am p) (hn.am p), ho.nd, fun x hx => (ho.mem x).mp hx, hl⟩
theorem add_end {a b w : List Str} (hm : RunOk m a) (hn : RunOk n b) (hd : ∀ x ∈ m.names, x ∉ n.names) (hw : Weave a b w) : Two m.names n.names (endH (m.add n) w) (endH m a) (endH n b) := by
  unfold endH
  have wl1 : ∀ x ∈ m.names, (m.add n).wl x = m.wl x := fun x hx => by
    show getA (m.wills ++ n.wills) x = getA m.wills x
    rw [getA_append, getA_none.mpr (fun z => hd x hx (hn.fam.dn z))]
    cases getA m.wills x <;> rfl
  have wl2 : ∀ x ∈ n.names, (m.add n).wl x = n.wl x := fun x hx => by
    show getA (m.wills ++ n.wills) x = getA n.wills x
    rw [getA_append, getA_none.mpr (fun z => hd x (hm.fam.dn z) hx)]
    rfl
  refine weave_run hd hw (wlok hm wl1) (wlok hn wl2) ⟨fun k hk => ?_, fun k hk => ?_, (0, 1), (0, 1), rfl, rfl, ?_, by decide, by decide⟩ (heldO_bd hm) (heldO_bd hn)
  · rw [heldO_n hm.fam hk]
    unfold heldO
    rw [if_neg (show ¬ k = crown from fun z => crown_no hm.fam (z ▸ hk))]
    congr 1
    show getA (m.people ++ n.people) k = getA m.people k
    rw [getA_append, getA_none.mpr (fun z => hd k hk z)]
    cases getA m.people k <;> rfl
  · rw [heldO_n hn.fam hk]
    unfold heldO
    rw [if_neg (show ¬ k = crown from fun z => crown_no hn.fam (z ▸ hk))]
    congr 1
    show getA (m.people ++ n.people) k = getA n.people k
    rw [getA_append, getA_none.mpr (fun z => hd k z hk)]
    rfl
  · show some ((0, 1) : Fr) = some (plusF (0, 1) (0, 1))
    rw [plusF_zero]
theorem add_living (hm : FamOk m) (hn : FamOk n) (hd : ∀ x ∈ m.names, x ∉ n.names) : (m.add n).living = m.living ++ n.living := by
  unfold Fam.living
  rw [add_names, List.filter_append, add_dead]
  congr 1
  · refine List.filter_congr fun x hx => ?_
    have : x ∉ n.dead := fun z => hd x hx (hn.dn z)
    simp [this]
  · refine List.filter_congr fun x hx => ?_
    have : x ∉ m.dead := fun z => hd x (hm.dn z) hx
    simp [this]
end
/-! ### one more fact -/
section
variable {m : Fam} {a b : Str} {rest : List Str}
theorem late_ord (ho : OrdOk m (a :: b :: rest)) : OrdOk (m.late a b) (a :: b :: rest) := by
  refine ⟨ho.nd, ho.mem, fun f hf => ?_⟩
  rcases List.mem_append.mp hf with hf | hf
  · exact ho.kp f hf
  · rw [List.mem_singleton.mp hf]
    exact ⟨0, 1, rfl, rfl, by decide⟩
theorem late_fam (hm : FamOk m) (ho : OrdOk m (a :: b :: rest)) (hl : (a :: b :: rest).length ≤ 30) (hf : m.facts.length ≤ 50) : FamOk (m.late a b) := by
  refine ⟨hm.pp, hm.wi, ⟨?_, _, ho.nd, hl, ho.mem, (late_ord ho).kp⟩⟩
  show (m.facts ++ [(a, b)]).length ≤ 100
  rw [List.length_append]
  simp
  omega
theorem late_run (h : RunOk m (a :: b :: rest)) (hf : FamOk (m.late a b)) : RunOk (m.late a b) (a :: b :: rest) := ⟨hf, h.am, h.nd, h.mem, h.few⟩
theorem late_bad (ho : OrdOk m (a :: b :: rest)) : Bad (m.late a b) (b :: a :: rest) :=
  ⟨b, a :: rest, rfl, (ho.mem b).mp (by simp), (a, b), List.mem_append_right _ (List.mem_singleton.mpr rfl), rfl⟩
theorem late_told (o : List Str) : toldL (m.late a b) (endH (m.late a b) o) = toldL m (endH m o) := rfl
end
end Hr
set_option Elab.async false
set_option linter.all false
set_option maxRecDepth 100000
set_option maxHeartbeats 4000000
/-! HeirP6: what is told, as tables. -/
namespace Hr
open PySem L2
/-! ### tables made of pairs -/
theorem merge_nodup (f : Fr → D) : ∀ (l acc : List (Str × Fr)), (keysA (acc ++ l)).Nodup → mergeD (encK f acc) (encK f l) = encK f (acc ++ l)
  | [], acc, _ => by
    rw [List.append_nil]
    rfl
  | x :: l, acc, h => by
    have hx : x.1 ∉ keysA acc := by
      unfold keysA at h ⊢
      rw [List.map_append, List.map_cons] at h
      intro z
      exact (List.nodup_append.mp h).2.2 _ z _ List.mem_cons_self rfl
    show mergeD (putD (encK f acc) x.1 (f x.2)) (encK f l) = _
    rw [putD_enc, putA_fresh hx, show acc ++ x :: l = (acc ++ [x]) ++ l from by simp]
    exact merge_nodup f l (acc ++ [x]) (by simpa using h)
theorem merge_all (f : Fr → D) {l : List (Str × Fr)} (h : (keysA l).Nodup) : mergeD [] (encK f l) = encK f l := merge_nodup f l [] (by simpa using h)
theorem encP_pr (l : List (Str × Fr)) : l.map encP = (encK encF l).map prD := by
  unfold encK
  rw [List.map_map]
  rfl
theorem told_keys (m : Fam) (h : Held) : keysA (toldL m h) = toldK m := by
  unfold toldL keysA
  rw [List.map_map]
  exact List.map_id _
theorem toldK_nodup {m : Fam} (hm : FamOk m) : (toldK m).Nodup := by
  unfold toldK
  refine List.nodup_append.mpr ⟨srt_nodup.mpr (hm.pp.nd.filter _), by simp, fun a ha b hb z => ?_⟩
  rw [List.mem_singleton.mp hb] at z
  have : a ∈ m.living := mem_srt.mp ha
  exact crown_no hm (z ▸ (List.mem_filter.mp this).1)
theorem told_get {m : Fam} (h : Held) (hm : FamOk m) {k : Str} (hk : k ∈ toldK m) : getA (toldL m h) k = some ((h k).getD (0, 1)) :=
  getA_of_mem (by rw [told_keys]; exact toldK_nodup hm) (List.mem_map.mpr ⟨k, hk, rfl⟩)
theorem toldK_mem {m : Fam} {k : Str} : k ∈ toldK m ↔ k ∈ m.living ∨ k = crown := by
  unfold toldK
  rw [List.mem_append, mem_srt, List.mem_singleton]
theorem told_len (m : Fam) (h : Held) : (toldL m h).length = m.living.length + 1 := by
  unfold toldL toldK
  rw [List.length_map, List.length_append, srt_len]
  rfl
theorem living_n {m : Fam} {k : Str} (h : k ∈ m.living) : k ∈ m.names := (List.mem_filter.mp h).1
/-- the all but last, and the last -/
theorem told_split (m : Fam) (h : Held) : toldL m h = ((srt m.living).map fun k => (k, (h k).getD (0, 1))) ++ [(crown, (h crown).getD (0, 1))] := by
  unfold toldL toldK
  rw [List.map_append]
  rfl
theorem encF_prI (f : Fr) : encF f = prI ((f.1 : Int), (f.2 : Int)) := rfl
/-- two tables alike, as the program asks -/
theorem same_dict {l l2 : List (Str × Fr)} (hl : l.length = l2.length) (h : ∀ x ∈ l, getA l2 x.1 = some x.2) : (encK encF l).length = (encK encF l2).length ∧ ∀ p ∈ encK encF l, ∃ ij : Int × Int, p.2 = prI ij ∧ valD (encK encF l2) p.1 = some (prI ij) := by
  refine ⟨by rw [encK_len, encK_len]; exact hl, fun p hp => ?_⟩
  obtain ⟨x, hx, rfl⟩ := List.mem_map.mp hp
  refine ⟨((x.2.1 : Int), (x.2.2 : Int)), encF_prI x.2, ?_⟩
  rw [valD_enc, h x hx]
  rfl
/-! ### tuples of pairs compared -/
def pdP (x : Str × Fr) : PyData := .tuple [.str x.1, .tuple [.int (x.2.1 : Int), .int (x.2.2 : Int)]]
theorem ofP_pd (x : Str × Fr) : ofP (pdP x) = encP x := by
  simp [pdP, ofP, ofPs, encP, encF]
theorem dp_told {K : PySem.W.Frag} {G H : Hp} (hE : Ex G H) {l : List (Str × Fr)} {v : V} (h : Rep G (.ptup (l.map encP)) v) : Dp K H v (.tuple (l.map pdP)) := by
  obtain ⟨a, o, vs, rfl, h2, _, _, h3⟩ := rep_ptup.mp h
  have e : l.map encP = ofPs (l.map pdP) := by
    rw [ofPs_map]
    exact List.map_congr_left fun x _ => (ofP_pd x).symm
  rw [e] at h3
  exact .tup (.inl (.inr ⟨o, hE _ _ h2⟩)) (dp_all hE _ h3)
theorem shaped_told {l : List (Str × Fr)} (h : ∀ x ∈ l, PySem.PyData.strOk x.1 = true) : SeqAt.shaped (.tuple (l.map pdP)) = true := by
  have k1 : ∀ l : List (Str × Fr), (∀ x ∈ l, PySem.PyData.strOk x.1 = true) → PyData.canLayAll0 (l.map pdP) = true := fun l => by
    induction l with
    | nil => intro _; simp [PyData.canLayAll0]
    | cons x l ih =>
      intro h
      simp only [List.map_cons, PyData.canLayAll0, PyData.canLay0, pdP]
      rw [h x List.mem_cons_self]
      have := ih fun y hy => h y (List.mem_cons_of_mem _ hy)
      simpa [pdP] using this
  have k2 : ∀ l : List (Str × Fr), PyData.depthAll (l.map pdP) ≤ 2 := fun l => by
    induction l with
    | nil => simp [PyData.depthAll]
    | cons x l ih =>
      have hd : PyData.depth (pdP x) ≤ 2 := by simp [pdP, PyData.depth, PyData.depthAll]
      simp only [List.map_cons, PyData.depthAll]
      omega
  refine shaped_of (by simpa [PyData.canLay0] using k1 l h) ?_
  have := k2 l
  simp only [PyData.depth]
  omega
theorem eqv_self_told : ∀ l : List (Str × Fr), PyData.eqvAll (l.map pdP) (l.map pdP) = true
  | [] => by simp [PyData.eqvAll]
  | x :: l => by
    have := eqv_self_told l
    simp only [List.map_cons, PyData.eqvAll, this, Bool.and_true]
    simp [pdP, PyData.eqv, PyData.eqvAll]
/-- told != told, the same: False -/
theorem rr_neTold {K : PySem.W.Frag} {M : Mm} {l : List (Str × Fr)} {Post : D → Mm → Prop} (ho : ∀ x ∈ l, PySem.PyData.strOk x.1 = true) (h : Post (.bl false) M) : RR (rNeD K) (.ptup (l.map encP)) (.ptup (l.map encP)) M Post := fun G H v u Q n rv ru k => by
  refine ⟨.tuple (l.map pdP), .tuple (l.map pdP), dp_told n.sub rv, dp_told n.sub ru, shaped_told ho, shaped_told ho, ?_⟩
  have e : PyData.eqv (.tuple (l.map pdP)) (.tuple (l.map pdP)) = true := by
    simp only [PyData.eqv]
    exact eqv_self_told l
  rw [e]
  exact k _ M _ G H h (Step.refl n) (rep_bl.mpr rfl)
/-- fractions compared, the same: False -/
theorem rr_neFr {K : PySem.W.Frag} {M : Mm} {x : Fr} {Post : D → Mm → Prop} (h : Post (.bl false) M) : RR (rNeD K) (encF x) (encF x) M Post := by
  have s1 : SeqAt.shaped (.tuple [.int (x.1 : Int), .int (x.2 : Int)]) = true := shaped_of (by simp [PyData.canLay0, PyData.canLayAll0]) (by simp [PyData.depth, PyData.depthAll])
  refine rr_neD (.tuple [.int (x.1 : Int), .int (x.2 : Int)]) (.tuple [.int (x.1 : Int), .int (x.2 : Int)]) (by simp [deref, encF, ofP, ofPs]) (by simp [deref, encF, ofP, ofPs]) s1 s1 ?_
  have e : PyData.eqv (.tuple [.int (x.1 : Int), .int (x.2 : Int)]) (.tuple [.int (x.1 : Int), .int (x.2 : Int)]) = true := by simp [PyData.eqv, PyData.eqvAll]
  rw [e]
  exact h
end Hr
set_option Elab.async false
set_option linter.all false
set_option maxRecDepth 100000
set_option maxHeartbeats 4000000
/-! HeirP7: the other names. -/
namespace Hr
open PySem L2
def q7 : List Str := ["qa", "qb", "qc", "qd", "qe", "qf", "q"]
theorem q7_ok : ∀ x ∈ q7, NameOk x := by
  intro x hx
  have h : ∀ x ∈ q7, 0 < x.length ∧ x.length < 6 ∧ x ≠ "crown" ∧ ∀ c ∈ x.cps.toList, c ∈ letters.cps.toList := by decide +kernel
  obtain ⟨h1, h2, h3, h4⟩ := h x hx
  exact ⟨h1, h2, h3, h4⟩
theorem q7_no : ∀ x ∈ q7, x ∉ titles12 ∧ x ≠ crown ∧ x ≠ q3 := by decide
theorem q3_no : q3 ∉ titles12 := by decide
theorem keys_zip {a b : List Str} (h : a.length ≤ b.length) : keysA (a.zip b) = a := List.map_fst_zip h
/-- the table of the other names -/
def phi (σ : List (Str × Str)) (x : Str) : Str := (getA σ x).getD ""
theorem phi_mem {a b : List Str} (h : a.length ≤ b.length) (hn : a.Nodup) {x : Str} (hx : x ∈ a) : (x, phi (a.zip b) x) ∈ a.zip b := by
  have hk : x ∈ keysA (a.zip b) := by rw [keys_zip h]; exact hx
  obtain ⟨⟨x', v⟩, hm, rfl⟩ := List.mem_map.mp hk
  have : phi (a.zip b) x' = v := by
    unfold phi
    rw [getA_of_mem (by rw [keys_zip h]; exact hn) hm]
    rfl
  rw [this]
  exact hm
theorem phi_in {a b : List Str} (h : a.length ≤ b.length) (hn : a.Nodup) {x : Str} (hx : x ∈ a) : phi (a.zip b) x ∈ b := (List.of_mem_zip (phi_mem h hn hx)).2
theorem zip_inj : ∀ {a b : List Str}, b.Nodup → ∀ {x y v : Str}, (x, v) ∈ a.zip b → (y, v) ∈ a.zip b → x = y
  | [], b, _, x, y, v, h, _ => by simp at h
  | _ :: _, [], _, x, y, v, h, _ => by simp at h
  | c :: a, d :: b, hn, x, y, v, h1, h2 => by
    rw [List.zip_cons_cons] at h1 h2
    have hd := (List.nodup_cons.mp hn).1
    rcases List.mem_cons.mp h1 with e1 | e1
    · rcases List.mem_cons.mp h2 with e2 | e2
      · exact (Prod.ext_iff.mp e1).1.trans (Prod.ext_iff.mp e2).1.symm
      · have ev : v = d := (Prod.ext_iff.mp e1).2
        exact absurd (ev ▸ (List.of_mem_zip e2).2) hd
    · rcases List.mem_cons.mp h2 with e2 | e2
      · have ev : v = d := (Prod.ext_iff.mp e2).2
        exact absurd (ev ▸ (List.of_mem_zip e1).2) hd
      · exact zip_inj (List.nodup_cons.mp hn).2 e1 e2
/-- the other names, as the law makes them -/
structure Oth (N : List Str) (σ : List (Str × Str)) : Prop where
  keys : keysA σ = N
  nd : N.Nodup
  ren : Ren N (phi σ)
  ok : ∀ x ∈ N, NameOk (phi σ x)
  ti : ∀ x ∈ N, phi σ x ∉ titles12
  cr : ∀ x ∈ N, phi σ x ≠ crown
  q3 : ∀ x ∈ N, phi σ x ≠ q3
theorem oth_of {a b : List Str} (hb : b.Perm q7) (hn : a.Nodup) (hl : a.length ≤ 7) (hc : crown ∉ a) : Oth a (a.zip b) := by
  have h : a.length ≤ b.length := by
    rw [hb.length_eq]
    exact hl
  have hbn : b.Nodup := hb.nodup_iff.mpr (by decide)
  have hq : ∀ x ∈ a, phi (a.zip b) x ∈ q7 := fun x hx => hb.subset (phi_in h hn hx)
  exact ⟨keys_zip h, hn, ⟨fun x hx y hy e => zip_inj hbn (phi_mem h hn hx) (e ▸ phi_mem h hn hy), fun x hx => (q7_no _ (hq x hx)).2.1, hc⟩, fun x hx => q7_ok _ (hq x hx), fun x hx => (q7_no _ (hq x hx)).1, fun x hx => (q7_no _ (hq x hx)).2.1, fun x hx => (q7_no _ (hq x hx)).2.2⟩
end Hr
set_option Elab.async false
set_option linter.all false
set_option maxRecDepth 100000
set_option maxHeartbeats 4000000
/-! HeirP8: what the law asks, in plain words. -/
namespace Hr
open PySem L2
/-- a family, the same under other names, an order -/
structure Sit (r r' : Fam) (σ : List (Str × Str)) (o : List Str) : Prop where
  raw : RawOk r
  oth : Oth r.nms σ
  mix : MixOf (r.over (phi σ)) r'
  ord : OrdOk r.norm o
  ti : ∀ x ∈ r.nms, x ∈ titles12
  dd : r.wills.length ≤ 4
  lv : r.wills.length < r.people.length
section
variable {r r' : Fam} {σ : List (Str × Str)} {o : List Str}
theorem Sit.raw' (h : Sit r r' σ o) : RawOk r' := mix_raw (over_raw h.raw h.oth.ren h.oth.ok) h.mix
theorem Sit.ord' (h : Sit r r' σ o) : OrdOk r'.norm (o.map (phi σ)) := over_ord h.raw h.oth.ren h.mix h.ord
theorem Sit.run (h : Sit r r' σ o) : RunOk r.norm o := h.raw.run h.ord
theorem Sit.run' (h : Sit r r' σ o) : RunOk r'.norm (o.map (phi σ)) := h.raw'.run h.ord'
theorem Sit.len (h : Sit r r' σ o) : o.length = r.wills.length := by
  rw [h.ord.len h.raw.fam.wi.nd, norm_dead, List.length_map]
theorem Sit.q (h : Sit r r' σ o) : q3 ∉ r.norm.names := fun z => q3_no (h.ti _ z)
theorem Sit.dj (h : Sit r r' σ o) : ∀ x ∈ r.norm.names, x ∉ r'.norm.names := fun x hx z => by
  obtain ⟨y, hy, e⟩ := List.mem_map.mp ((over_names h.mix).subset z)
  exact h.oth.ti y hy (e ▸ h.ti x hx)
theorem Sit.ln' (h : Sit r r' σ o) : r'.people.length = r.people.length ∧ r'.wills.length = r.wills.length ∧ r'.facts.length = r.facts.length := by
  refine ⟨h.mix.p.length_eq.trans ?_, h.mix.w.length_eq.trans ?_, h.mix.f.length_eq.trans ?_⟩ <;> exact List.length_map _
theorem Sit.living_ne (h : Sit r r' σ o) : r.norm.living ≠ [] := fun z => by
  have h1 : ∀ x ∈ r.norm.names, x ∈ r.norm.dead := fun x hx => by
    refine Classical.byContradiction fun hn => ?_
    have : x ∈ r.norm.living := List.mem_filter.mpr ⟨hx, by simp [hn]⟩
    rw [z] at this
    cases this
  have h2 := len_le_of_sub h.raw.fam.pp.nd h1
  rw [norm_dead, List.length_map, List.length_map] at h2
  have := h.lv
  have h3 : r.norm.people.length = r.people.length := rfl
  omega
theorem Sit.living_ln (h : Sit r r' σ o) : r'.norm.living.length = r.norm.living.length := (over_living h.raw h.oth.ren h.mix).length_eq.trans (List.length_map _)
theorem Sit.living_ne' (h : Sit r r' σ o) : r'.norm.living ≠ [] := fun z => by
  have := h.living_ln
  rw [z] at this
  exact h.living_ne (List.eq_nil_of_length_eq_zero this.symm)
theorem Sit.toldK_n (h : Sit r r' σ o) {k : Str} (hk : k ∈ toldK r.norm) : k ∈ crown :: r.nms := by
  rcases toldK_mem.mp hk with hk | hk
  · exact List.mem_cons_of_mem _ (show k ∈ r.norm.names from living_n hk)
  · rw [hk]
    exact List.mem_cons_self
def reN (φ : Str → Str) (l : List (Str × Fr)) : List (Str × Fr) := l.map fun x => (psi φ x.1, x.2)
theorem keys_reN (φ : Str → Str) (l : List (Str × Fr)) : keysA (reN φ l) = (keysA l).map (psi φ) := by
  unfold reN keysA
  rw [List.map_map, List.map_map]
  rfl
theorem Sit.reN_nd (h : Sit r r' σ o) : (keysA (reN (phi σ) (toldL r.norm (endH r.norm o)))).Nodup := by
  rw [keys_reN, told_keys]
  exact nodup_map_on (fun x hx y hy e => h.oth.ren.psi_inj (h.toldK_n hx) (h.toldK_n hy) e) (toldK_nodup h.raw.fam)
/-- paid under the other names -/
theorem Sit.chk2 (h : Sit r r' σ o) : (toldL r'.norm (endH r'.norm (o.map (phi σ)))).length = (reN (phi σ) (toldL r.norm (endH r.norm o))).length ∧ ∀ x ∈ toldL r'.norm (endH r'.norm (o.map (phi σ))), getA (reN (phi σ) (toldL r.norm (endH r.norm o))) x.1 = some x.2 := by
  have he := over_end h.raw h.oth.ren h.oth.ok h.mix h.ord
  refine ⟨?_, fun x hx => ?_⟩
  · unfold reN
    rw [List.length_map, told_len, told_len, h.living_ln]
  · obtain ⟨k', hk', rfl⟩ := List.mem_map.mp hx
    have hk : ∃ k ∈ toldK r.norm, psi (phi σ) k = k' := by
      rcases toldK_mem.mp hk' with hl | hl
      · obtain ⟨k, hk, e⟩ := List.mem_map.mp ((over_living h.raw h.oth.ren h.mix).subset hl)
        exact ⟨k, toldK_mem.mpr (.inl hk), (h.oth.ren.psi_n (show k ∈ r.norm.names from living_n hk)).trans e⟩
      · exact ⟨crown, toldK_mem.mpr (.inr rfl), (if_pos rfl).trans hl.symm⟩
    obtain ⟨k, hk, rfl⟩ := hk
    show getA _ (psi (phi σ) k) = some ((endH r'.norm (o.map (phi σ)) (psi (phi σ) k)).getD (0, 1))
    rw [he k (h.toldK_n hk)]
    have e2 : getA (reN (phi σ) (toldL r.norm (endH r.norm o))) (psi (phi σ) k) = (getA (toldL r.norm (endH r.norm o)) k).map fun a => a :=
      getA_map (φ := psi (phi σ)) (g := fun a : Fr => a) (fun x => rfl) (fun x hx e => h.oth.ren.psi_inj (h.toldK_n (by rw [told_keys] at hx; exact hx)) (h.toldK_n hk) e)
    rw [e2, told_get _ h.raw.fam hk]
    rfl
/-- one more person -/
theorem Sit.more (h : Sit r r' σ o) : RunOk r.norm.more o ∧ OrdOk r.norm.more o := by
  have hl : r.norm.people.length ≤ 29 := Nat.le_trans h.raw.pf (by decide)
  exact ⟨more_run h.run h.q hl, more_ord h.ord⟩
theorem Sit.chk3nd (h : Sit r r' σ o) : (keysA (toldL r.norm (endH r.norm o) ++ [(q3, ((7, 1) : Fr))])).Nodup := by
  have e : keysA (toldL r.norm (endH r.norm o) ++ [(q3, ((7, 1) : Fr))]) = toldK r.norm ++ [q3] := by
    unfold keysA
    rw [List.map_append]
    congr 1
    exact told_keys _ _
  rw [e]
  refine List.nodup_append.mpr ⟨toldK_nodup h.raw.fam, by simp, fun a ha b hb z => ?_⟩
  rw [List.mem_singleton.mp hb] at z
  rcases toldK_mem.mp ha with hl | hl
  · exact h.q (z ▸ living_n hl)
  · rw [hl] at z
    exact absurd z (by decide)
theorem Sit.chk3 (h : Sit r r' σ o) : (toldL r.norm.more (endH r.norm.more o)).length = (toldL r.norm (endH r.norm o) ++ [(q3, ((7, 1) : Fr))]).length ∧ ∀ x ∈ toldL r.norm.more (endH r.norm.more o), getA (toldL r.norm (endH r.norm o) ++ [(q3, ((7, 1) : Fr))]) x.1 = some x.2 := by
  obtain ⟨e1, e2, e3⟩ := more_end h.run h.q
  refine ⟨?_, fun x hx => ?_⟩
  · rw [List.length_append, told_len, told_len, more_living h.raw.fam h.q, List.length_append]
    rfl
  · obtain ⟨k, hk, rfl⟩ := List.mem_map.mp hx
    show getA _ k = some ((endH r.norm.more o k).getD (0, 1))
    have hk3 : k ∈ toldK r.norm ∨ k = q3 := by
      rcases toldK_mem.mp hk with hl | hl
      · rw [more_living h.raw.fam h.q] at hl
        rcases List.mem_append.mp hl with hl | hl
        · exact .inl (toldK_mem.mpr (.inl hl))
        · exact .inr (List.mem_singleton.mp hl)
      · exact .inl (toldK_mem.mpr (.inr hl))
    rcases hk3 with hk | rfl
    · rw [getA_append, told_get _ h.raw.fam hk]
      have e : endH r.norm.more o k = endH r.norm o k := by
        rcases toldK_mem.mp hk with hl | hl
        · exact e1 k (living_n hl)
        · rw [hl]
          exact e2
      rw [e]
      rfl
    · rw [e3, getA_append]
      have : getA (toldL r.norm (endH r.norm o)) q3 = none := getA_none.mpr fun z => by
        rw [told_keys] at z
        rcases toldK_mem.mp z with hl | hl
        · exact h.q (living_n hl)
        · exact absurd hl (by decide)
      rw [this]
      rfl
/-- both families, woven -/
theorem Sit.both (h : Sit r r' σ o) {w : List Str} (hw : Weave o (o.map (phi σ)) w) : FamOk (r.norm.add r'.norm) ∧ RunOk (r.norm.add r'.norm) w ∧ OrdOk (r.norm.add r'.norm) w ∧ w.length ≤ 8 := by
  have l0 := h.len
  have ld := h.dd
  have hwl : w.length ≤ 8 := by
    rw [weave_len hw, List.length_map]
    omega
  obtain ⟨n1, n2, n3⟩ := h.ln'
  have p1 := h.raw.pf
  have p2 := h.raw.wf
  have p3 := h.raw.ff
  have hw1 : r.norm.wills.length = r.wills.length := List.length_map _
  have hw2 : r'.norm.wills.length = r'.wills.length := List.length_map _
  have hf : FamOk (r.norm.add r'.norm) := add_fam h.raw.fam h.raw'.fam h.dj h.ord h.ord' hw (by omega) (by show r.people.length ≤ 15; omega) (by show r'.people.length ≤ 15; omega) (by omega) (by omega) (by show r.facts.length ≤ 50; omega) (by show r'.facts.length ≤ 50; omega)
  have ho := add_ord h.raw.fam h.raw'.fam h.dj h.ord h.ord' hw
  exact ⟨hf, add_run h.run h.run' hf ho hwl, ho, hwl⟩
def initT (m : Fam) (h : Held) : List (Str × Fr) := (srt m.living).map fun k => (k, (h k).getD (0, 1))
theorem Sit.chk4 (h : Sit r r' σ o) {w : List Str} (hw : Weave o (o.map (phi σ)) w) : ∀ x ∈ initT r.norm (endH r.norm o) ++ initT r'.norm (endH r'.norm (o.map (phi σ))), getA (toldL (r.norm.add r'.norm) (endH (r.norm.add r'.norm) w)) x.1 = some x.2 := by
  obtain ⟨hf, hr, ho, _⟩ := h.both hw
  have ht := add_end h.run h.run' h.dj hw
  intro x hx
  have hlv := add_living h.raw.fam h.raw'.fam h.dj
  rcases List.mem_append.mp hx with hx | hx
  · obtain ⟨k, hk, rfl⟩ := List.mem_map.mp hx
    have hk := mem_srt.mp hk
    rw [told_get _ hf (toldK_mem.mpr (.inl (by rw [hlv]; exact List.mem_append_left _ hk))), ht.a k (living_n hk)]
  · obtain ⟨k, hk, rfl⟩ := List.mem_map.mp hx
    have hk := mem_srt.mp hk
    rw [told_get _ hf (toldK_mem.mpr (.inl (by rw [hlv]; exact List.mem_append_right _ hk))), ht.b k (living_n hk)]
theorem Sit.chk5 (h : Sit r r' σ o) {w : List Str} (hw : Weave o (o.map (phi σ)) w) : ∃ c : Fr, (endH r.norm o crown).getD (0, 1) = c ∧ FrOk c c ∧ getA (toldL (r.norm.add r'.norm) (endH (r.norm.add r'.norm) w)) crown = some (plusF c c) := by
  obtain ⟨hf, hr, ho, _⟩ := h.both hw
  have ht := add_end h.run h.run' h.dj hw
  obtain ⟨c1, c2, k1, k2, k3, k4, k5⟩ := ht.c
  have he := over_end h.raw h.oth.ren h.oth.ok h.mix h.ord crown List.mem_cons_self
  rw [show psi (phi σ) crown = crown from if_pos rfl, k1, k2] at he
  cases he
  refine ⟨c1, by rw [k1]; rfl, ?_, ?_⟩
  · have hb : HB (0 + o.length) (endH r.norm o) := run_bd o 0 _ (heldO_bd h.run) fun n hn => by
      have hd := h.run.mem n hn
      obtain ⟨y, hy, rfl⟩ := List.mem_map.mp hd
      exact ⟨y.2, getA_of_mem h.raw.fam.wi.nd hy, h.raw.fam.wi.sh y hy⟩
    have l0 := h.len
    have ld := h.dd
    have b1 := hb crown c1 k1
    rw [Nat.zero_add] at b1
    exact frok_plus (t := o.length) (by omega) b1 (b1.mono (Nat.le_mul_of_pos_right _ (by decide)) (Nat.le_mul_of_pos_right _ (by decide)))
  · rw [told_get _ hf (toldK_mem.mpr (.inr rfl)), k3]
    rfl
end
end Hr
set_option Elab.async false
set_option linter.all false
set_option maxRecDepth 100000
set_option maxHeartbeats 4000000
set_option exponentiation.threshold 300000
/-! HeirQ1: the law's own body, what it stands on. -/
namespace Hr
open PySem L2
open PyProof.Rows (sortedS envOfC)
def lawN : List Str := ["_law_script", "_law_deal_here", "_law_turn", "_law_family_here", "_law_titles_here", "_law_names", "_law_made_here", "_law_other", "_law_order", "_law_led_here", "_law_told_here", "_law_more", "_law_both", "_law_woven_here", "_law_found", "_law_late", "_law_name", "_law_amount"]
theorem scLaw : FnScope lawN ["_law_script"] (defScope sLaw) := ⟨rfl, rfl, rfl, by decide +kernel, rfl, by decide +kernel, by decide +kernel⟩
def forB : Stmt → List Stmt
  | .For _ _ b _ _ => b
  | _ => []
def sndS : List Stmt → List Stmt
  | _ :: s :: _ => forB s
  | _ => []
abbrev lawBody : List Stmt := sndS (defBody sLaw)
/-- what the law calls -/
structure LawH (Y : Sys) (F W : Addr) : Prop where
  g : Glb Y.mg
  C : FamCls Y.K F W
  sf : PySem.W.selfFirst Y.K F = true
  deal : Has Y 1 "_law_deal" (spDeal Y.K)
  draw : Has Y 1 "_law_draw" spDraw
  pick : Has Y 2 "_law_pick" spPick
  mixed : Has Y 2 "_law_mixed" spMixed
  fam : Has Y 4 "_law_family" spLFam
  made : Has Y 7 "_law_made" (spMade F W)
  orders : Has Y 2 "_law_orders" spOrders
  woven : Has Y 2 "_law_woven" spWoven
  over : Has Y 1 "_law_led_over" spLedOver
  mixedUp : Has Y 3 "_law_mixed_up" spMixedUp
  plus : Has Y 2 "_law_plus" spLPlus
  paid : Has Y 7 "paid" (spPaid F W)
  steps : Has Y 7 "steps" (spSteps F W)
  isOrder : Has Y 4 "is_order" (spIsOrder F W)
  famK : HasK Y 5 "Family" F (spFamInit F W)
  addM : HasM Y 7 F "__add__" (spFamAdd F W)
  factM : HasM Y 7 F "with_fact" (spFamWithFact F W)
theorem merge_strF (f : Str → D) : ∀ (l acc : List (Str × Str)), (keysA (acc ++ l)).Nodup → mergeD (encK f acc) (encK f l) = encK f (acc ++ l)
  | [], acc, _ => by
    rw [List.append_nil]
    rfl
  | x :: l, acc, h => by
    have hx : x.1 ∉ keysA acc := by
      unfold keysA at h ⊢
      rw [List.map_append, List.map_cons] at h
      intro z
      exact (List.nodup_append.mp h).2.2 _ z _ List.mem_cons_self rfl
    show mergeD (putD (encK f acc) x.1 (f x.2)) (encK f l) = _
    rw [putD_enc, putA_fresh hx, show acc ++ x :: l = (acc ++ [x]) ++ l from by simp]
    exact merge_strF f l (acc ++ [x]) (by simpa using h)
theorem merge_str {l : List (Str × Str)} (h : (keysA l).Nodup) : mergeD [] (encK D.str l) = encK D.str l := merge_strF D.str l [] (by simpa using h)
/-- x + y of one's own class -/
theorem rr_own {C : Addr} {F : ASp} {M : Mm} {x y : D} {fs gs : List (Str × D)} {Post : D → Mm → Prop} (ex : x = .obj C fs) (ey : y = .obj C gs) (h : F [x, y] M Post) :
    RR (fun x y H Q => ∃ a dx fs b dy gs, x = .ref a ∧ y = .ref b ∧ H a = some (.ins C dx fs) ∧ H b = some (.ins C dy gs) ∧ spA F [x, y] H Q E0) x y M Post := fun G H v u Q n rv ru k => by
  obtain ⟨a, dx, fvs, e1, e2, _⟩ := rep_obj_at n rv (.inl ex)
  obtain ⟨b, dy, gvs, e3, e4, _⟩ := rep_obj_at n ru (.inl ey)
  exact ⟨a, dx, fvs, b, dy, gvs, e1, e3, e2, e4, G, M, [x, y], Post, n, reps_cons.mpr ⟨v, [u], rfl, rv, reps_one ru⟩, h, k⟩
end Hr
set_option Elab.async false
set_option linter.all false
set_option maxRecDepth 100000
set_option maxHeartbeats 4000000
set_option exponentiation.threshold 300000
/-! HeirQ2: the law's body, statements 1 to 6. -/
namespace Hr
open PySem L2
open PyProof.Rows (sortedS envOfC)
section
variable {P : Program} {w : World} {K : PySem.W.Frag} {mg : Str → Option Value} {base : Heap}
theorem law_A {F W f : Addr} {cdv : Value} {A : Around} {outer : List Env} {s : Shared} {H : Hp} {E : XK} (L : LawH ⟨P, w, K, mg, base⟩ F W) (hr : Room 7 (A.deeper (envOfC "law" (defScope sLaw) s.heap.objs.size f cdv))) {M : Mm} {p q : Addr} {o0 o2 o3 o4 o5 o6 o7 o8 o9 o10 o11 o12 o13 o14 o15 o16 o17 : Option D} {AE0 : AEnds} (hdl : DealAt M p q)
    (post : ∀ (a nd : Addr) (r r' : Fam) (σ : List (Str × Str)) (o : List Str) M' (x3 x4 : Option D), Sit r r' σ o → o ≠ [] → DealAt M' p q → nd ≠ p → nd ≠ q → M' nd = some (.dct (encK D.str σ)) →
      AB (cxOf CX0 P w K mg base lawN "law" (defScope sLaw) f cdv A outer s H E).nox (lawBody.drop 6) [o0, some (.adr p), o2, x3, x4, some (.adr nd), some (encFam F W r.norm), some (encFam F W r'.norm), some (encO o), some (encNs (o.map (phi σ))), some (.ptup ((toldL r.norm (endH r.norm o)).map encP)), o11, o12, o13, o14, o15, o16, o17] M' AE0) :
    AB (cxOf CX0 P w K mg base lawN "law" (defScope sLaw) f cdv A outer s H E).nox lawBody [o0, some (.adr p), o2, o3, o4, o5, o6, o7, o8, o9, o10, o11, o12, o13, o14, o15, o16, o17] M AE0 := by
  have hr4 : Room 4 _ := hr.mono (by decide)
  have hr3 : Room 3 _ := hr.mono (by decide)
  have hr2 : Room 2 _ := hr.mono (by decide)
  have hr1 : Room 1 _ := hr.mono (by decide)
  have hr0 : Room 0 _ := hr.mono (by decide)
  have g := L.g
  -- the family
  refine ab_cons (as_set 3 (ae_call L.fam hr4 rfl (aa_cons (ae_var 1 rfl (aa_cons ?_)))) scLaw.nd)
  refine ae_bin op_add (ae_int (ae_call L.draw hr1 rfl (aa_cons (ae_var 1 rfl (aa_cons (ae_int (aa_nil ⟨p, q, 4, rfl, by decide, by decide, hdl, fun t M1 ht hd1 hs1 => rr_add (aa_cons ?_)⟩)))))))
  refine ae_bin op_add (ae_int (ae_call L.draw hr1 rfl (aa_cons (ae_var 1 rfl (aa_cons (ae_int (aa_nil ⟨p, q, 2, rfl, by decide, by decide, hd1, fun u M2 hu hd2 hs2 => rr_add (aa_nil ⟨p, q, 1 + t, 1 + u, by simp, by omega, by omega, by omega, by omega, hd2, fun a r M3 hraw hti hwne hpl hwl hfa ha hd3 hf3 => ?_⟩)⟩)))))))
  have hpf := hraw.pf
  -- the titles
  refine ab_cons (as_setL 4 [("_law_name", 16), ("_law_amount", 17)] rfl scLaw.nd (blkOk_by (by kernel_rfl)) (al_map r.people encPe (fun x => D.str x.1) ?_))
  refine ai_seq (ae_dget hr0 (ae_var 3 rfl (ae_str ⟨a, "people", _, .lst (r.people.map encPe), rfl, rfl, .inl ha, rfl, _, .inl rfl, rfl, by omega, .inl rfl, fun x hx s H C cl fp => ?_, ?_⟩)))
  · refine agc_two 16 17 (fun s H C cl fp => ?_) (by decide) (by decide) rfl scLaw.nd
    exact ae_var 16 rfl ⟨rfl, rfl⟩
  -- the other names
  refine ab_cons (as_set 5 (ae_callTy (call_dictP rfl) rfl g.dict boot_dict' (aa_cons (ae_listZip rfl rfl g.list rfl g.zip (ae_var 4 rfl (ae_call L.mixed hr2 rfl (aa_cons (ae_var 1 rfl (aa_cons ?_)))))))) scLaw.nd)
  refine ae_lst (aa_cons (ae_str (aa_cons (ae_str (aa_cons (ae_str (aa_cons (ae_str (aa_cons (ae_str (aa_cons (ae_str (aa_cons (ae_str (aa_nil ⟨Nat.le_of_ble_eq_true rfl, aa_nil ?_⟩)))))))))))))))
  refine ⟨p, q, _, q7.map D.str, rfl, .inl rfl, Nat.le_of_ble_eq_true rfl, hd3, fun l' M4 hp4 hd4 hs4 => ?_⟩
  obtain ⟨b, hb, rfl⟩ := perm_str hp4
  refine ⟨r.people.map fun x => D.str x.1, b.map D.str, rfl, rfl, by rw [List.length_map]; omega, ?_⟩
  have hnms : (r.people.map fun x => D.str x.1) = r.nms.map D.str := by
    unfold Fam.nms
    rw [List.map_map]
    rfl
  let σ : List (Str × Str) := r.nms.zip b
  have hoth : Oth r.nms σ := oth_of hb hraw.pd (by show (r.people.map _).length ≤ 7; rw [List.length_map]; omega) hraw.cr
  have hzip : (((r.people.map fun x => D.str x.1).zip (b.map D.str)).map fun p : D × D => D.tup [p.1, p.2]) = (encK D.str σ).map prD := by
    rw [hnms, List.zip_map, List.map_map]
    unfold encK
    rw [List.map_map]
    rfl
  rw [hzip]
  refine aa_nil (rc_dictP rfl fun nd hnd => ?_)
  have hmg : mergeD [] (encK D.str σ) = encK D.str σ := merge_str (by rw [hoth.keys]; exact hoth.nd)
  rw [hmg]
  have hap : a ≠ p := hd2.nep hfa
  have haq : a ≠ q := hd2.neq hfa
  have ha4 : M4 a = some (.dct (encRaw r)) := by rw [hs4 a hap haq]; exact ha
  have hna : nd ≠ a := fun e => by rw [e, ha4] at hnd; cases hnd
  have hnp : nd ≠ p := hd4.nep hnd
  have hnq : nd ≠ q := hd4.neq hnd
  generalize hM5 : updM M4 nd (.dct (encK D.str σ)) = M5
  have hn5 : M5 nd = some (.dct (encK D.str σ)) := by rw [← hM5]; exact updM_same
  have ha5 : M5 a = some (.dct (encRaw r)) := by rw [← hM5, updM_ne (Ne.symm hna)]; exact ha4
  have hd5 : DealAt M5 p q := by rw [← hM5]; exact hd4.upd hnd
  have hin : ∀ x ∈ r.people.map (·.1), x ∈ keysA σ := fun x hx => by rw [hoth.keys]; exact hx
  -- both families
  refine ab_cons (as_par 6 7 (aa_cons (ae_call L.made hr rfl (aa_cons (ae_var 3 rfl (aa_nil ⟨a, r, rfl, ha5, hraw, ?_⟩))))) rfl scLaw.nd)
  refine aa_cons (ae_call L.made hr rfl (aa_cons (ae_call L.mixedUp hr3 rfl (aa_cons (ae_var 1 rfl (aa_cons (ae_call L.over hr1 rfl (aa_cons (ae_var 3 rfl (aa_cons (ae_var 5 rfl (aa_nil ⟨a, nd, r, σ, rfl, ha5, hn5, hraw, hin, fun c hc => ?_⟩))))))))))))
  have l1 : (r.over (phi σ)).people.length = r.people.length := List.length_map _
  have l2 : (r.over (phi σ)).wills.length = r.wills.length := List.length_map _
  have l3 : (r.over (phi σ)).facts.length = r.facts.length := List.length_map _
  have lf := hraw.ff
  refine aa_nil ⟨p, q, c, r.over (phi σ), rfl, updM_same, by omega, by omega, by omega, hd5.upd hc, hd5.nep hc, hd5.neq hc, fun c' r' M6 hmix hc' h6c hd6 hf6 => ?_⟩
  have hraw' : RawOk r' := mix_raw (over_raw hraw hoth.ren hoth.ok) hmix
  have keep6 : ∀ b d, M5 b = some d → b ≠ p → b ≠ q → M6 b = some d := fun b d hb hp hq => by
    have hbc : b ≠ c := fun e => by rw [e, hc] at hb; cases hb
    have e1 : updM M5 c (.dct (encRaw (r.over (phi σ)))) b = some d := by rw [updM_ne hbc]; exact hb
    have hbc' : b ≠ c' := fun e => by rw [e] at e1; exact absurd (hc'.symm.trans e1) (fun z => nomatch z)
    rw [hf6 b hp hq hbc']
    exact e1
  have ha6 := keep6 a _ ha5 hap haq
  have hn6 := keep6 nd _ hn5 hnp hnq
  refine aa_nil ⟨c', r', rfl, h6c, hraw', aa_nil ⟨_, _, rfl, ?_⟩⟩
  -- the order
  refine ab_cons (as_set 8 (ae_call L.pick hr2 rfl (aa_cons (ae_var 1 rfl (aa_cons (ae_call L.orders hr2 rfl (aa_cons (ae_var 3 rfl (aa_nil ⟨a, r, rfl, ha6, hraw, hwne, by omega, fun os hne hol hos => ?_⟩)))))))) scLaw.nd)
  refine aa_nil ⟨p, q, os.map encO, rfl, fun z => hne (List.map_eq_nil_iff.mp z), by rw [List.length_map]; omega, hd6, fun x M7 hx hd7 hs7 => ?_⟩
  obtain ⟨o, ho, rfl⟩ := List.mem_map.mp hx
  have hord := hos o ho
  have hsit : Sit r r' σ o := ⟨hraw, hoth, hmix, hord, hti, by omega, by omega⟩
  have hn7 : M7 nd = some (.dct (encK D.str σ)) := by rw [hs7 nd hnp hnq]; exact hn6
  have hol4 : o.length ≤ 4 := Nat.le_trans (Nat.le_of_eq hsit.len) hsit.dd
  have hon : ∀ x ∈ o, x ∈ keysA σ := fun x hx => by
    rw [hoth.keys]
    exact hraw.dn (by rw [← norm_dead]; exact (hord.mem x).mp hx)
  have hone : o ≠ [] := fun z => by
    have := hsit.len
    rw [z] at this
    exact hwne (List.eq_nil_of_length_eq_zero this.symm)
  -- led, told
  refine ab_cons (as_par 9 10 (aa_cons (ae_L [("_law_name", 16)] rfl scLaw.nd (blkOk_by (by kernel_rfl)) (al_map o D.str (fun z => D.str (phi σ z)) ?_))) rfl scLaw.nd)
  refine ai_seq (ae_var 8 rfl ⟨_, .inr (.inr rfl), rfl, by omega, .inr (.inr rfl), fun z hz s H C cl fp => ?_, ?_⟩)
  · refine agc_name 16 (fun s H C cl fp => ?_) (by decide) scLaw.nd
    exact ae_dget hr0 (ae_var 5 rfl (ae_var 16 rfl ⟨nd, z, _, _, rfl, rfl, .inl hn7, val_str (hon z hz), rfl, rfl⟩))
  refine aa_cons (ae_call L.paid hr rfl (aa_cons (ae_var 6 rfl (aa_cons (ae_var 8 rfl (aa_nil ⟨r.norm, _, o, rfl, .inr (.inr rfl), hsit.run, hord, aa_nil ⟨_, _, rfl, ?_⟩⟩))))))
  have hps := post a nd r r' σ o M7 (some (.adr a)) (some (.lst (r.people.map fun x => D.str x.1))) hsit hone hd7 hnp hnq hn7
  have eL : (o.map fun z => D.str (phi σ z)) = (o.map (phi σ)).map D.str := by
    rw [List.map_map]
    rfl
  rw [eL]
  exact hps
end
end Hr
set_option Elab.async false
set_option linter.all false
set_option maxRecDepth 100000
set_option maxHeartbeats 4000000
set_option exponentiation.threshold 300000
/-! HeirQ3: the law's body, statements 7 to 10. -/
namespace Hr
open PySem L2
open PyProof.Rows (sortedS envOfC)
section
variable {P : Program} {w : World} {K : PySem.W.Frag} {mg : Str → Option Value} {base : Heap}
theorem law_B {F W f : Addr} {cdv : Value} {A : Around} {outer : List Env} {s : Shared} {H : Hp} {E : XK} (L : LawH ⟨P, w, K, mg, base⟩ F W) (hr : Room 7 (A.deeper (envOfC "law" (defScope sLaw) s.heap.objs.size f cdv))) {M : Mm} {p q : Addr} {o0 o2 o3 o4 o11 o12 o13 o14 o15 o16 o17 : Option D} {AE0 : AEnds} {nd : Addr} {r r' : Fam} {σ : List (Str × Str)} {o : List Str} (h : Sit r r' σ o) (hone : o ≠ []) (hdl : DealAt M p q) (hnp : nd ≠ p) (hnq : nd ≠ q) (hnd : M nd = some (.dct (encK D.str σ)))
    (post : ∀ M' (x11 : Option D), DealAt M' p q →
      AB (cxOf CX0 P w K mg base lawN "law" (defScope sLaw) f cdv A outer s H E).nox (lawBody.drop 10) [o0, some (.adr p), o2, o3, o4, some (.adr nd), some (encFam F W r.norm), some (encFam F W r'.norm), some (encO o), some (encNs (o.map (phi σ))), some (.ptup ((toldL r.norm (endH r.norm o)).map encP)), x11, o12, o13, o14, o15, o16, o17] M' AE0) :
    AB (cxOf CX0 P w K mg base lawN "law" (defScope sLaw) f cdv A outer s H E).nox (lawBody.drop 6) [o0, some (.adr p), o2, o3, o4, some (.adr nd), some (encFam F W r.norm), some (encFam F W r'.norm), some (encO o), some (encNs (o.map (phi σ))), some (.ptup ((toldL r.norm (endH r.norm o)).map encP)), o11, o12, o13, o14, o15, o16, o17] M AE0 := by
  have hr4 : Room 4 _ := hr.mono (by decide)
  have hr2 : Room 2 _ := hr.mono (by decide)
  have hr0 : Room 0 _ := hr.mono (by decide)
  have hu : (A.deeper (envOfC "law" (defScope sLaw) s.heap.objs.size f cdv)).units + 68 < cLine := by
    have := hr.un
    omega
  have g := L.g
  have hol4 : o.length ≤ 4 := Nat.le_trans (Nat.le_of_eq h.len) h.dd
  have hl' : (o.map (phi σ)).length = o.length := List.length_map _
  -- an order for the other
  refine ab_cons (as_if (at_w (aw_or (at_cmp op_notBl (nomark _) (ae_call L.isOrder hr4 rfl (aa_cons (ae_var 7 rfl (aa_cons (ae_var 9 rfl (aa_nil ⟨r'.norm, _, o.map (phi σ), rfl, .inl rfl, h.raw'.fam, by omega, .inl ⟨h.ord', ?_⟩⟩))))))))))
  refine ae_bl (rr_notBl ⟨_, rfl, fun _ => ?_, fun z => absurd z (by decide)⟩)
  refine aw_or1 (at_cmp op_ne (nomark _) (ae_callB call_len_seq rfl g.len boot_len' (aa_cons (ae_call L.steps hr rfl (aa_cons (ae_var 7 rfl (aa_cons (ae_var 9 rfl (aa_nil ⟨r'.norm, _, o.map (phi σ), rfl, .inl rfl, h.run', h.ord', fun ps hps => ?_⟩)))))))))
  refine aa_nil (rc_len (.inr (.inl rfl)) (ae_callB call_len_seq rfl g.len boot_len' (aa_cons (ae_var 8 rfl (aa_nil (rc_len (.inr (.inr rfl)) (rr_neI ⟨_, rfl, fun z => ?_, fun _ => ab_nil ?_⟩)))))))
  · exfalso
    rw [List.length_map, hps, hl'] at z
    simp at z
  -- paid alike under the other names
  refine ab_cons (as_if (at_cmp (op_neDD hu) (nomark _) (ae_callTy (call_dictT rfl) rfl g.dict boot_dict' (aa_cons (ae_call L.paid hr rfl (aa_cons (ae_var 7 rfl (aa_cons (ae_var 9 rfl (aa_nil ⟨r'.norm, _, o.map (phi σ), rfl, .inl rfl, h.run', h.ord', ?_⟩))))))))))
  refine aa_nil (rc_dictT (l := encK encF (toldL r'.norm (endH r'.norm (o.map (phi σ))))) (by rw [encP_pr]) fun q1 hq1 => ?_)
  rw [merge_all encF (by rw [told_keys]; exact toldK_nodup h.raw'.fam)]
  have h1p : nd ≠ q1 := fun e => by rw [e, hq1] at hnd; cases hnd
  have hd1 := hdl.upd (d := .dct (encK encF (toldL r'.norm (endH r'.norm (o.map (phi σ)))))) hq1
  have hnd1 : updM M q1 (.dct (encK encF (toldL r'.norm (endH r'.norm (o.map (phi σ)))))) nd = some (.dct (encK D.str σ)) := by rw [updM_ne h1p]; exact hnd
  have htl : (toldL r.norm (endH r.norm o)).length ≤ 20 := by
    rw [told_len]
    have h1 : r.norm.living.length ≤ r.norm.names.length := List.length_filter_le _ _
    have h2 : r.norm.names.length = r.people.length := List.length_map _
    have := h.raw.pf
    omega
  refine ae_callTy (call_dictP rfl) rfl g.dict boot_dict' (aa_cons (ae_L [("_law_name", 16), ("_law_amount", 17)] rfl scLaw.nd (blkOk_by (by kernel_rfl)) (al_map (toldL r.norm (endH r.norm o)) encP (fun x => encP (psi (phi σ) x.1, x.2)) ?_)))
  refine ai_seq (ae_var 10 rfl ⟨_, .inr (.inr rfl), rfl, by omega, .inr (.inr rfl), fun x hx s H C cl fp => ?_, ?_⟩)
  · refine agc_two 16 17 (fun s H C cl fp => ?_) (by decide) (by decide) rfl scLaw.nd
    refine ae_tup (aa_cons (ae_dget2 hr0 (ae_var 5 rfl ⟨nd, rfl, ⟨_, .inl hnd1⟩, ae_var 16 rfl (ae_var 16 rfl ⟨x.1, _, rfl, .inl hnd1, aa_cons (ae_var 17 rfl (aa_nil ⟨Nat.le_of_ble_eq_true rfl, ?_, rfl⟩))⟩)⟩)))
    have hk : x.1 ∈ toldK r.norm := by
      rw [← told_keys r.norm (endH r.norm o)]
      exact List.mem_map.mpr ⟨x, hx, rfl⟩
    have e : (valD (encK D.str σ) x.1).getD (.str x.1) = .str (psi (phi σ) x.1) := by
      rcases toldK_mem.mp hk with hl | hl
      · have hn : x.1 ∈ r.nms := show x.1 ∈ r.norm.names from living_n hl
        rw [val_str (by rw [h.oth.keys]; exact hn), h.oth.ren.psi_n hn]
        rfl
      · rw [hl, valD_enc, getA_none.mpr (by rw [h.oth.keys]; exact h.oth.ren.cr)]
        rfl
    show D.tup [_, _] = encP _
    rw [e]
    rfl
  have hre : ((toldL r.norm (endH r.norm o)).map fun x => encP (psi (phi σ) x.1, x.2)) = (encK encF (reN (phi σ) (toldL r.norm (endH r.norm o)))).map prD := by
    rw [← encP_pr]
    unfold reN
    rw [List.map_map]
    rfl
  rw [hre]
  refine aa_nil (rc_dictP rfl fun q2 hq2 => ?_)
  rw [merge_all encF h.reN_nd]
  obtain ⟨c1, c2⟩ := h.chk2
  obtain ⟨c3, c4⟩ := same_dict c1 c2
  have h12 : q1 ≠ q2 := fun e => by rw [← e, updM_same] at hq2; cases hq2
  refine rr_neDD rfl rfl (by rw [updM_ne h12]; exact updM_same) updM_same c3 c4 ⟨_, rfl, (fun z => nomatch z), fun _ => ab_nil ?_⟩
  have hd2 := hd1.upd (d := .dct (encK encF (reN (phi σ) (toldL r.norm (endH r.norm o))))) hq2
  generalize updM (updM M q1 _) q2 _ = M2 at hd2 ⊢
  -- one more person
  have hr6 : Room 6 _ := hr.mono (by decide)
  have hmf := h.more.1.fam
  have hpl : (r.norm.people.map encPe).length ≤ 14 := by
    rw [List.length_map]
    exact h.raw.pf
  refine ab_cons (as_set 11 (ae_make L.famK hr6 rfl (aa_cons ?_)) scLaw.nd)
  refine ae_bin op_cat (ae_callTy call_list_of rfl g.list boot_list' (aa_cons (ae_fld (ae_var 6 rfl ⟨F, _, _, .inl rfl, L.C.cl, L.C.p, rfl, aa_nil (rc_listOf (.inr (.inl rfl)) ?_)⟩))))
  refine ae_lst (aa_cons (ae_tup (aa_cons (ae_str (aa_cons (ae_int (aa_nil ⟨Nat.le_of_ble_eq_true rfl, aa_nil ⟨Nat.le_of_ble_eq_true rfl, rr_cat rfl rfl (Nat.le_trans (Nat.add_le_add_right hpl 1) (by decide)) ?_⟩⟩)))))))
  refine aa_cons (ae_fld (ae_var 6 rfl ⟨F, _, _, .inl rfl, L.C.cl, L.C.w, rfl, aa_cons (ae_fld (ae_var 6 rfl ⟨F, _, _, .inl rfl, L.C.cl, L.C.f, rfl, aa_nil fun q3' hq3 => ?_⟩))⟩))
  refine ⟨q3', _, _, _, r.norm.more, rfl, updM_same, .inl ?_, .inr rfl, .inr rfl, hmf, rfl, _, updM_same, ?_⟩
  · show D.lst (r.norm.people.map encPe ++ [encPe (q3, 7)]) = D.lst ((r.norm.people ++ [(q3, 7)]).map encPe)
    rw [List.map_append]
    rfl
  rw [updM_upd, delM_upd hq3]
  have hne : (toldL r.norm (endH r.norm o)).map encP ≠ [] := fun z => by
    have := congrArg List.length z
    rw [List.length_map, told_len] at this
    simp at this
  refine ab_cons (as_if (at_cmp (op_neDD hu) (nomark _) (ae_callTy (call_dictT rfl) rfl g.dict boot_dict' (aa_cons (ae_call L.paid hr rfl (aa_cons (ae_var 11 rfl (aa_cons (ae_var 8 rfl (aa_nil ⟨r.norm.more, _, o, rfl, .inr (.inr rfl), h.more.1, h.more.2, ?_⟩))))))))))
  refine aa_nil (rc_dictT (l := encK encF (toldL r.norm.more (endH r.norm.more o))) (by rw [encP_pr]) fun q4 hq4 => ?_)
  rw [merge_all encF (by rw [told_keys]; exact toldK_nodup hmf)]
  have hd4 := hd2.upd (d := .dct (encK encF (toldL r.norm.more (endH r.norm.more o)))) hq4
  refine ae_callTy (call_dictT rfl) rfl g.dict boot_dict' (aa_cons (ae_bin op_catP (ae_var 10 rfl (ae_tup (aa_cons (ae_tup (aa_cons (ae_str (aa_cons (ae_tup (aa_cons (ae_int (aa_cons (ae_int (aa_nil ⟨Nat.le_of_ble_eq_true rfl, aa_nil ⟨Nat.le_of_ble_eq_true rfl, aa_nil ⟨Nat.le_of_ble_eq_true rfl, ?_⟩⟩⟩)))))))))))))))
  refine rr_catP' (.inr rfl) (.inl rfl) hne (fun z => nomatch z) (by rw [List.length_map]; exact Nat.le_trans (Nat.add_le_add_right htl 1) (by decide)) ?_
  have hcat : (toldL r.norm (endH r.norm o)).map encP ++ [D.tup [D.str q3, D.tup [D.int 7, D.int 1]]] = (encK encF (toldL r.norm (endH r.norm o) ++ [(q3, ((7, 1) : Fr))])).map prD := by
    rw [← encP_pr, List.map_append]
    rfl
  refine aa_nil (rc_dictT (l := encK encF (toldL r.norm (endH r.norm o) ++ [(q3, ((7, 1) : Fr))])) (congrArg D.ptup hcat) fun q5 hq5 => ?_)
  rw [merge_all encF h.chk3nd]
  obtain ⟨c5, c6⟩ := h.chk3
  obtain ⟨c7, c8⟩ := same_dict c5 c6
  have h45 : q4 ≠ q5 := fun e => by rw [← e, updM_same] at hq5; cases hq5
  refine rr_neDD rfl rfl (by rw [updM_ne h45]; exact updM_same) updM_same c7 c8 ⟨_, rfl, (fun z => nomatch z), fun _ => ab_nil ?_⟩
  exact post _ _ (hd4.upd hq5)
end
end Hr
set_option Elab.async false
set_option linter.all false
set_option maxRecDepth 100000
set_option maxHeartbeats 4000000
set_option exponentiation.threshold 300000
/-! HeirQ4: the law's body, statements 11 to 15. -/
namespace Hr
open PySem L2
open PyProof.Rows (sortedS envOfC)
theorem weave_app : ∀ a b : List Str, Weave a b (a ++ b)
  | [], [] => .nil
  | [], y :: b => .right (weave_app [] b)
  | x :: a, b => .left (weave_app a b)
theorem sIx_some (n d : Nat) (v : Int) : HT.sIx n d (some v) = if v < 0 then (v + (n : Int)).toNat else min v.toNat n := rfl
theorem ix0 {a b : Str} {rest : List Str} : ixN ((a :: b :: rest).map D.str).length 0 = some 0 := ixN_of (j := 0) (by simp)
theorem ix1 {a b : Str} {rest : List Str} : ixN ((a :: b :: rest).map D.str).length 1 = some 1 := ixN_of (j := 1) (by simp)
theorem ixN_pred {n : Nat} (h : 0 < n) : ixN n ((n : Int) - 1) = some (n - 1) := by
  have e : ((n : Int) - 1) = ((n - 1 : Nat) : Int) := by omega
  rw [e]
  exact ixN_of (by omega)
theorem told_cut {m : Fam} {h : Held} : cutD ((toldL m h).map encP) none (some (-1)) = (initT m h).map encP := by
  have e : (toldL m h).map encP = (initT m h).map encP ++ [encP (crown, (h crown).getD (0, 1))] := by
    rw [told_split, List.map_append]
    rfl
  have hs : HT.sIx ((initT m h).length + 1) ((initT m h).length + 1) (some (-1)) = (initT m h).length := by
    rw [sIx_some, if_pos (by decide)]
    omega
  rw [e]
  unfold cutD
  rw [List.length_append, List.length_map, List.length_singleton, hs, HT.sIx_none, List.drop_zero, Nat.sub_zero]
  exact List.take_left' (List.length_map _)
theorem told_nw {m : Fam} {h : Held} : ¬ (HT.sIx ((toldL m h).map encP).length 0 none = 0 ∧ HT.sIx ((toldL m h).map encP).length ((toldL m h).map encP).length (some (-1)) = ((toldL m h).map encP).length) := by
  rw [List.length_map, told_len]
  rintro ⟨_, h2⟩
  have e : HT.sIx (m.living.length + 1) (m.living.length + 1) (some (-1)) = m.living.length := by
    rw [sIx_some, if_pos (by decide)]
    omega
  omega
theorem told_last {m : Fam} {h : Held} : ((toldL m h).map encP)[((toldL m h).map encP).length - 1]? = some (D.tup [.str crown, encF ((h crown).getD (0, 1))]) := by
  have e : (toldL m h).map encP = (initT m h).map encP ++ [encP (crown, (h crown).getD (0, 1))] := by
    rw [told_split, List.map_append]
    rfl
  rw [e, List.length_append, List.length_singleton, Nat.add_sub_cancel, List.getElem?_append_right (Nat.le_refl _), Nat.sub_self]
  rfl
theorem told_pos {m : Fam} {h : Held} : 0 < ((toldL m h).map encP).length := by
  rw [List.length_map, told_len]
  omega
theorem cut2 {a b : Str} {rest : List Str} : cutD ((a :: b :: rest).map D.str) (some 2) none = rest.map D.str := by
  have e : HT.sIx ((a :: b :: rest).map D.str).length 0 (some 2) = 2 := by
    rw [List.length_map, sIx_some, if_neg (by decide)]
    simp
  unfold cutD
  rw [e, HT.sIx_none]
  show List.take (((a :: b :: rest).map D.str).length - 2) (rest.map D.str) = rest.map D.str
  refine List.take_of_length_le ?_
  rw [List.length_map, List.length_map]
  exact Nat.le_refl _
theorem cut2_nw {a b : Str} {rest : List Str} : ¬ (HT.sIx ((a :: b :: rest).map D.str).length 0 (some 2) = 0 ∧ HT.sIx ((a :: b :: rest).map D.str).length ((a :: b :: rest).map D.str).length none = ((a :: b :: rest).map D.str).length) := by
  rintro ⟨h1, _⟩
  rw [List.length_map] at h1
  have e : HT.sIx (a :: b :: rest).length 0 (some 2) = 2 := by
    rw [sIx_some, if_neg (by decide)]
    simp
  omega
section
variable {P : Program} {w : World} {K : PySem.W.Frag} {mg : Str → Option Value} {base : Heap}
theorem law_C {F W f : Addr} {cdv : Value} {A : Around} {outer : List Env} {s : Shared} {H : Hp} {E : XK} (L : LawH ⟨P, w, K, mg, base⟩ F W) (hr : Room 7 (A.deeper (envOfC "law" (defScope sLaw) s.heap.objs.size f cdv))) {M : Mm} {p q : Addr} {o0 o2 o3 o4 o5 o11 o12 o13 o14 o15 o16 o17 : Option D} {AE0 : AEnds} {r r' : Fam} {σ : List (Str × Str)} {o : List Str} (h : Sit r r' σ o) (hone : o ≠ []) (hdl : DealAt M p q)
    (post : ∀ M' (x12 x13 x14 x15 x16 x17 : Option D), DealAt M' p q →
      AE0.nx [o0, some (.adr p), o2, o3, o4, o5, some (encFam F W r.norm), some (encFam F W r'.norm), some (encO o), some (encNs (o.map (phi σ))), some (.ptup ((toldL r.norm (endH r.norm o)).map encP)), o11, x12, x13, x14, x15, x16, x17] M') :
    AB (cxOf CX0 P w K mg base lawN "law" (defScope sLaw) f cdv A outer s H E).nox (lawBody.drop 10) [o0, some (.adr p), o2, o3, o4, o5, some (encFam F W r.norm), some (encFam F W r'.norm), some (encO o), some (encNs (o.map (phi σ))), some (.ptup ((toldL r.norm (endH r.norm o)).map encP)), o11, o12, o13, o14, o15, o16, o17] M AE0 := by
  have hr2 : Room 2 _ := hr.mono (by decide)
  have hr4 : Room 4 _ := hr.mono (by decide)
  have hr0 : Room 0 _ := hr.mono (by decide)
  have hu : (A.deeper (envOfC "law" (defScope sLaw) s.heap.objs.size f cdv)).units + 68 < cLine := by
    have := hr.un
    omega
  have g := L.g
  have hol4 : o.length ≤ 4 := Nat.le_trans (Nat.le_of_eq h.len) h.dd
  have hl' : (o.map (phi σ)).length = o.length := List.length_map _
  have hso : ∀ x ∈ o, PySem.PyData.strOk x = true := fun x hx => by
    obtain ⟨y, hy, e⟩ := List.mem_map.mp (h.raw.fam.dn ((h.ord.mem x).mp hx))
    exact e ▸ (h.raw.po y hy).ok
  have hso' : ∀ x ∈ o.map (phi σ), PySem.PyData.strOk x = true := fun x hx => by
    obtain ⟨y, hy, e⟩ := List.mem_map.mp (h.raw'.fam.dn ((h.ord'.mem x).mp hx))
    exact e ▸ (h.raw'.po y hy).ok
  -- both, woven
  refine ab_cons (as_par 12 13 (aa_cons ?_) rfl scLaw.nd)
  obtain ⟨fa, fd, ps, Fk, hm, hb⟩ := L.addM
  refine ae_bin (op_own L.sf hm Fk hr hb pass0) (ae_var 6 rfl (ae_var 7 rfl (rr_own rfl rfl ⟨r.norm, r'.norm, rfl, h.raw.fam, h.raw'.fam, (h.both (weave_app _ _)).1, ?_⟩)))
  refine aa_cons (ae_call L.woven hr2 rfl (aa_cons (ae_var 1 rfl (aa_cons (ae_var 8 rfl (aa_cons (ae_var 9 rfl (aa_nil ⟨p, q, _, _, o, o.map (phi σ), rfl, .inr (.inr rfl), .inl rfl, by omega, by omega, hso, hso', hdl, fun wv M1 hw hd1 hs1 => aa_nil ⟨_, _, rfl, ?_⟩⟩))))))))
  obtain ⟨bf, br, bo, bl⟩ := h.both hw
  have nb : (keysA (toldL (r.norm.add r'.norm) (endH (r.norm.add r'.norm) wv))).Nodup := by
    rw [told_keys]
    exact toldK_nodup bf
  -- found
  refine ab_cons (as_set 14 (ae_callTy (call_dictT rfl) rfl g.dict boot_dict' (aa_cons (ae_call L.paid hr rfl (aa_cons (ae_var 12 rfl (aa_cons (ae_var 13 rfl (aa_nil ⟨r.norm.add r'.norm, _, wv, rfl, .inl rfl, br, bo, ?_⟩)))))))) scLaw.nd)
  refine aa_nil (rc_dictT (l := encK encF (toldL (r.norm.add r'.norm) (endH (r.norm.add r'.norm) wv))) (by rw [encP_pr]) fun fd2 hfd => ?_)
  rw [merge_all encF nb]
  have hd2 := hd1.upd (d := .dct (encK encF (toldL (r.norm.add r'.norm) (endH (r.norm.add r'.norm) wv)))) hfd
  have hfp := hd1.nep hfd
  have hfq := hd1.neq hfd
  have hf2 : updM M1 fd2 (.dct (encK encF (toldL (r.norm.add r'.norm) (endH (r.norm.add r'.norm) wv)))) fd2 = some (.dct (encK encF (toldL (r.norm.add r'.norm) (endH (r.norm.add r'.norm) wv)))) := updM_same
  generalize updM M1 fd2 _ = M2 at hd2 hf2 ⊢
  have lt1 : ((initT r.norm (endH r.norm o)).map encP).length ≤ 20 := by
    rw [List.length_map]
    unfold initT
    rw [List.length_map, srt_len]
    have h1 : r.norm.living.length ≤ r.norm.names.length := List.length_filter_le _ _
    have h2 : r.norm.names.length = r.people.length := List.length_map _
    have := h.raw.pf
    omega
  have lt2 : ((initT r'.norm (endH r'.norm (o.map (phi σ)))).map encP).length ≤ 20 := by
    rw [List.length_map]
    unfold initT
    rw [List.length_map, srt_len]
    have h1 : r'.norm.living.length ≤ r'.norm.names.length := List.length_filter_le _ _
    have h2 : r'.norm.names.length = r'.people.length := List.length_map _
    have := h.raw'.pf
    omega
  have hk4 := h.chk4 hw
  obtain ⟨c, hc1, hc2, hc3⟩ := h.chk5 hw
  -- each its own
  refine ab_cons (as_for (ai_seq (ae_bin op_catA (ae_slice sl_tup (ae_var 10 rfl (ao_none (ao_some (ae_neg (ae_int ⟨1, rfl, ⟨-1, rfl, rsl_tup (.inr rfl) told_nw ?_⟩⟩)))))))))
  rw [told_cut]
  refine ae_slice sl_tup (ae_call L.paid hr rfl (aa_cons (ae_var 7 rfl (aa_cons (ae_var 9 rfl (aa_nil ⟨r'.norm, _, o.map (phi σ), rfl, .inl rfl, h.run', h.ord', ?_⟩))))))
  refine ao_none (ao_some (ae_neg (ae_int ⟨1, rfl, ⟨-1, rfl, rsl_tup (.inr rfl) told_nw ?_⟩⟩)))
  rw [told_cut]
  refine rr_catT (by omega) ?_
  rw [← List.map_append]
  refine ⟨_, .inr (.inl rfl), fun i ρ' M' => ∃ (o16 o17 : Option D), ρ' = [o0, some (.adr p), o2, o3, o4, o5, some (encFam F W r.norm), some (encFam F W r'.norm), some (encO o), some (encNs (o.map (phi σ))), some (.ptup ((toldL r.norm (endH r.norm o)).map encP)), o11, some (encFam F W (r.norm.add r'.norm)), some (encNs wv), some (.adr fd2), o15, o16, o17] ∧ M' = M2, ?_, ?_, ?_, ?_⟩
  · exact ⟨o16, o17, rfl, rfl⟩
  · rintro i ρ' M' _
    exact .inr (.inl rfl)
  · rintro i x ρ' M' hx ⟨o16, o17, rfl, rfl⟩
    rw [List.getElem?_map] at hx
    obtain ⟨y, hy, rfl⟩ := Option.map_eq_some_iff.mp hx
    have hym := hk4 y (List.mem_of_getElem? hy)
    refine ag_two 16 17 ?_ rfl scLaw.nd
    refine ab_one (as_if (at_cmp (op_neD hr.units) (nomark _) (ae_dget hr0 (ae_var 14 rfl (ae_var 16 rfl ⟨fd2, y.1, _, encF y.2, rfl, rfl, .inl hf2, ?_, ae_var 17 rfl (rr_neFr ⟨_, rfl, (fun z => nomatch z), fun _ => ab_nil ⟨_, _, rfl, rfl⟩⟩)⟩)))))
    rw [valD_enc, hym]
    rfl
  rintro ρ' M' ⟨o16, o17, rfl, rfl⟩
  -- the crown
  refine ab_cons (as_if (at_cmp (op_neD hr.units) (nomark _) (ae_dget hr0 (ae_var 14 rfl (ae_str ⟨fd2, crown, _, encF (plusF c c), rfl, rfl, .inl hf2, ?_, ?_⟩)))))
  · rw [valD_enc, hc3]
    rfl
  refine ae_call L.plus hr2 rfl (aa_cons ?_)
  refine ae_ix ix_tup (ae_ix ix_tup (ae_var 10 rfl (ae_bin op_sub (ae_callB call_len_seq rfl g.len boot_len' (aa_cons (ae_var 10 rfl (aa_nil (rc_len (.inr (.inr rfl)) (ae_int (rr_sub (rr_ixT _ (.inr rfl) (ixN_pred told_pos) told_last ?_)))))))))))
  refine ae_int (rr_ixT 1 (.inl rfl) rfl rfl (aa_cons ?_))
  refine ae_ix ix_tup (ae_ix ix_tup (ae_var 10 rfl (ae_bin op_sub (ae_callB call_len_seq rfl g.len boot_len' (aa_cons (ae_var 10 rfl (aa_nil (rc_len (.inr (.inr rfl)) (ae_int (rr_sub (rr_ixT _ (.inr rfl) (ixN_pred told_pos) told_last ?_)))))))))))
  refine ae_int (rr_ixT 1 (.inl rfl) rfl rfl (aa_nil ⟨c, c, by rw [hc1], hc2, rr_neFr ⟨_, rfl, (fun z => nomatch z), fun _ => ab_nil ?_⟩⟩))
  -- a fact more
  have hpost : ∀ (x15 x16 x17 : Option D), _ := fun x15 x16 x17 => post M' (some (encFam F W (r.norm.add r'.norm))) (some (encNs wv)) (some (.adr fd2)) x15 x16 x17 hd2
  refine ab_one (as_if (at_cmp op_gt (nomark _) (ae_callB call_len_seq rfl g.len boot_len' (aa_cons (ae_var 8 rfl (aa_nil (rc_len (.inr (.inr rfl)) (ae_int (rr_bool ⟨_, rfl, fun hk => ?_, fun _ => ab_nil (hpost _ _ _)⟩)))))))))
  have hl1 : 1 < o.length := by
    have := of_decide_eq_true hk
    rw [List.length_map] at this
    omega
  obtain ⟨a, b, rest, rfl⟩ : ∃ a b rest, o = a :: b :: rest := by
    match o, hl1 with
    | a :: b :: rest, _ => exact ⟨a, b, rest, rfl⟩
  have hfl : FamOk (r.norm.late a b) := late_fam h.raw.fam h.ord (by omega) (Nat.le_trans h.raw.ff (by decide))
  have hda : a ∈ r.norm.dead := (h.ord.mem a).mp (by simp)
  have hdb : b ∈ r.norm.dead := (h.ord.mem b).mp (by simp)
  refine ab_cons (as_set 15 (ae_meth L.factM L.C.cl hr (ae_var 6 rfl ⟨_, .inl rfl, rfl, aa_cons ?_⟩)) scLaw.nd)
  refine ae_ix ix_tup (ae_var 8 rfl (ae_int (rr_ixT 0 (.inr rfl) ix0 rfl (aa_cons ?_))))
  refine ae_ix ix_tup (ae_var 8 rfl (ae_int (rr_ixT 1 (.inr rfl) ix1 rfl (aa_nil ⟨r.norm, a, b, rfl, h.raw.fam, hda, hdb, hfl, ?_⟩))))
  refine ab_cons (as_if (at_w (aw_or (at_cmp op_notBl (nomark _) (ae_call L.isOrder hr4 rfl (aa_cons (ae_var 15 rfl (aa_cons (ae_var 8 rfl (aa_nil ⟨r.norm.late a b, _, a :: b :: rest, rfl, .inr (.inr rfl), hfl, by omega, .inl ⟨late_ord h.ord, ?_⟩⟩))))))))))
  refine ae_bl (rr_notBl ⟨_, rfl, fun _ => ?_, fun z => absurd z (by decide)⟩)
  refine aw_or1 (at_cmp (op_neD hr.units) (nomark _) (ae_call L.paid hr rfl (aa_cons (ae_var 15 rfl (aa_cons (ae_var 8 rfl (aa_nil ⟨r.norm.late a b, _, a :: b :: rest, rfl, .inr (.inr rfl), late_run h.run hfl, late_ord h.ord, ae_var 10 rfl ?_⟩)))))))
  rw [late_told]
  refine rr_neTold (fun x hx => ?_) ⟨_, rfl, (fun z => nomatch z), fun _ => ab_nil ?_⟩
  · obtain ⟨k, hk, rfl⟩ := List.mem_map.mp hx
    show PySem.PyData.strOk k = true
    rcases toldK_mem.mp hk with hl | hl
    · obtain ⟨y, hy, e⟩ := List.mem_map.mp (show k ∈ r.norm.names from living_n hl)
      exact e ▸ (h.raw.po y hy).ok
    · rw [hl]
      decide +kernel
  refine ab_one (as_if (at_cmp op_notBl (nomark _) (ae_call L.isOrder hr4 rfl (aa_cons (ae_var 15 rfl (aa_cons ?_))))))
  refine ae_bin op_cat (ae_lst (aa_cons (ae_ix ix_tup (ae_var 8 rfl (ae_int (rr_ixT 1 (.inr rfl) ix1 rfl (aa_cons ?_)))))))
  refine ae_ix ix_tup (ae_var 8 rfl (ae_int (rr_ixT 0 (.inr rfl) ix0 rfl (aa_nil ⟨Nat.le_of_ble_eq_true rfl, ?_⟩))))
  refine ae_callTy call_list_of rfl g.list boot_list' (aa_cons (ae_slice sl_tup (ae_var 8 rfl (ao_some (ae_int ⟨2, rfl, ao_none (rsl_tup (.inr rfl) cut2_nw ?_)⟩)))))
  rw [cut2]
  refine aa_nil (rc_listOf (.inr (.inl rfl)) (rr_cat rfl rfl ?_ ?_))
  · rw [List.length_map]
    simp at hol4 ⊢
    omega
  refine aa_nil ⟨r.norm.late a b, _, b :: a :: rest, rfl, .inl rfl, hfl, by simp at hol4 ⊢; omega, .inr ⟨late_bad h.ord, ae_bl (rr_notBl ⟨_, rfl, fun z => absurd z (by decide), fun _ => ab_nil (hpost _ _ _)⟩)⟩⟩
end
end Hr
set_option Elab.async false
set_option linter.all false
set_option maxRecDepth 100000
set_option maxHeartbeats 4000000
set_option exponentiation.threshold 300000
/-! HeirQ5: the law itself. -/
namespace Hr
open PySem L2
open PyProof.Rows (sortedS envOfC)
def spLaw (K : PySem.W.Frag) : ASp := fun ds M Post => ∃ (Pr : Hp → V → Prop) (ns : List Int), ds = [.opq Pr] ∧ (∀ G0 v, Pr G0 v → ∃ a, v = .ref a ∧ SqL K G0 a (ns.map V.int)) ∧ ∀ M', Post (.bl true) M'
section
variable {P : Program} {w : World} {K : PySem.W.Frag} {mg : Str → Option Value} {base : Heap}
theorem ok_law {f F W : Addr} {fd : FuncData} (Fn : Fun K "law" "law" sLaw f fd) (L : LawH ⟨P, w, K, mg, base⟩ F W) : FnOk P w K mg base CX0 8 f fd ["_law_script"] (spA (spLaw K)) := by
  refine fn_abs (k := 7) Fn scLaw (fun ds M Post h => ?_) (fun cdv A outer s H E hr ds M Post h => ?_)
  · obtain ⟨_, _, rfl, _⟩ := h
    rfl
  · obtain ⟨Pr, ns, rfl, hP, post⟩ := h
    have hr1 : Room 1 _ := hr.mono (by decide)
    refine ab_cons (as_set 1 (ae_call L.deal hr1 rfl (aa_cons (ae_var 0 rfl (aa_cons (ae_int (aa_nil ⟨Pr, ns, rfl, hP, fun p q M1 hd hs => ?_⟩)))))) scLaw.nd)
    refine ab_cons (as_for (ai_range rfl L.g.range (ae_int ⟨4, rfl, by decide, fun i ρ' M' => DealAt M' p q ∧ ∃ o2 o3 o4 o5 o6 o7 o8 o9 o10 o11 o12 o13 o14 o15 o16 o17 : Option D, ρ' = [some (.opq Pr), some (.adr p), o2, o3, o4, o5, o6, o7, o8, o9, o10, o11, o12, o13, o14, o15, o16, o17], ?_, ?_, ?_, ?_⟩)))
    · exact ⟨hd, none, none, none, none, none, none, none, none, none, none, none, none, none, none, none, none, rfl⟩
    · intro i ρ' M' _
      exact True.intro
    · rintro i x ρ' M' hx ⟨hd', o2, o3, o4, o5, o6, o7, o8, o9, o10, o11, o12, o13, o14, o15, o16, o17, rfl⟩
      refine ag_name 2 ?_ scLaw.nd
      refine law_A L hr hd' fun a nd r r' σ o M2 x3 x4 hsit hone hd2 hnp hnq hn => ?_
      refine law_B L hr hsit hone hd2 hnp hnq hn fun M3 x11 hd3 => ?_
      exact law_C L hr hsit hone hd3 fun M4 x12 x13 x14 x15 x16 x17 hd4 => ⟨hd4, _, _, _, _, _, _, _, _, _, _, _, _, _, _, _, _, rfl⟩
    · rintro ρ' M' ⟨hd', _⟩
      exact ab_one (as_ret (ae_bl (post _)))
end
end Hr
set_option Elab.async false
set_option linter.all false
set_option maxRecDepth 100000
set_option maxHeartbeats 4000000
/-! HeirR1: what the head tells of defs, methods, properties, classes. -/
namespace Hr
open PySem L2
open PySem.W (Frag)
theorem fun_ofD {K : Frag} {x qual : Str} {st : Stmt} {f : Addr} {fd : FuncData} (F : FunD K x qual (defArgs st) (defBody st) (defScope st) [] [] f fd) : Fun K x qual st f fd := by
  obtain ⟨⟨oc, od, dV, kV, doc, pm, an, cdv, ct, osl, rfl, lk, hcd, hD, hKw⟩, kp⟩ := F
  rcases hD with ⟨_, rfl⟩ | ⟨e, _⟩
  · exact ⟨⟨oc, od, kV, doc, pm, an, cdv, ct, osl, rfl, lk, hcd⟩, kp⟩
  · exact absurd rfl e
/-! ### properties -/
/-- the getter of a class's property -/
def pAd (K : Frag) (C m : Str) : Addr := match PySem.W.recIn K (He.ma K (He.ga K C) m) "property" with
  | some (.ref g :: _) => g
  | _ => 0
structure PrD where
  cls : Str
  name : Str
  qual : Str
  st : Stmt
/-- what stands at an address, as a def -/
def fnA (K : Frag) (f : Addr) : He.FnW := match K.lookup f with
  | some ⟨_, _, .func z, _⟩ => some (z.name, z.qualname, z.params, z.body, z.scope, z.globals, z.closure, z.builtins)
  | _ => none
def PrD.val (d : PrD) : He.FnW := some (d.name, d.qual, defArgs d.st, .stmts (defBody d.st), defScope d.st, mainGlobals, [], builtinsNs)
def refHd : Option (List Value) → Bool
  | some (.ref _ :: _) => true
  | _ => false
def isNonV : Value → Bool
  | .none => true
  | _ => false
def getterB (K : Frag) (f : Addr) (q : Str) : Bool := match K.lookup f with
  | some ⟨_, _, .func z, _⟩ => PySem.W.codeIn K z.code q && isNonV z.defaults
  | _ => false
def PrD.ok (K : Frag) (d : PrD) : Bool :=
  He.eqO (PySem.W.findIn K (.ref (He.ga K d.cls)) d.name) (some (some (.ref (He.ma K (He.ga K d.cls) d.name)))) &&
  (He.eqO (PySem.W.specialIn K (.ref (He.ma K (He.ga K d.cls) d.name)) "__get__") (some (some (.builtin "property.__get__"))) &&
  (decide (PySem.W.takesIn K (.ref (He.ma K (He.ga K d.cls) d.name)) = some true) &&
  (refHd (PySem.W.recIn K (He.ma K (He.ga K d.cls) d.name) "property") &&
  (PySem.W.keepIn K (.ref (pAd K d.cls d.name)) && getterB K (pAd K d.cls d.name) d.qual))))
theorem PrD.prop {K : Frag} {d : PrD} (h : d.ok K = true) : PropOf K (He.ga K d.cls) d.name (He.ma K (He.ga K d.cls) d.name) (pAd K d.cls d.name) := by
  obtain ⟨h1, h⟩ := He.ba h
  obtain ⟨h2, h⟩ := He.ba h
  obtain ⟨h3, h⟩ := He.ba h
  obtain ⟨h4, _⟩ := He.ba h
  refine ⟨He.eqO_ok h1, He.eqO_ok h2, of_decide_eq_true h3, ?_⟩
  unfold pAd
  cases e : PySem.W.recIn K (He.ma K (He.ga K d.cls) d.name) "property" with
  | none =>
    rw [e] at h4
    cases h4
  | some l =>
    rw [e] at h4
    cases l with
    | nil => cases h4
    | cons v r =>
      cases v with
      | ref g => exact ⟨r, rfl⟩
      | _ => cases h4
theorem PrD.fun_ {K : Frag} {d : PrD} (e : fnA K (pAd K d.cls d.name) = d.val) (h : d.ok K = true) : ∃ fd, Fun K d.name d.qual d.st (pAd K d.cls d.name) fd := by
  obtain ⟨_, h⟩ := He.ba h
  obtain ⟨_, h⟩ := He.ba h
  obtain ⟨_, h⟩ := He.ba h
  obtain ⟨_, h⟩ := He.ba h
  obtain ⟨kp, c⟩ := He.ba h
  unfold fnA at e
  unfold getterB at c
  cases q : K.lookup (pAd K d.cls d.name) with
  | none =>
    rw [q] at c
    cases c
  | some o =>
    obtain ⟨oc, od, dt, osl⟩ := o
    rw [q] at c e
    cases dt with
    | func fd =>
      obtain ⟨m1, m2, m3, m4, m5, m6, m7, m8, m9, m10, m11, m12, m13, m14, m15⟩ := fd
      have e2 : (some (m1, m2, m3, m4, m5, m6, m7, m15) : He.FnW) = some (d.name, d.qual, defArgs d.st, .stmts (defBody d.st), defScope d.st, mainGlobals, [], builtinsNs) := e
      simp only [Option.some.injEq, Prod.mk.injEq] at e2
      obtain ⟨i1, i2, i3, i4, i5, i6, i7, i8⟩ := e2
      subst i1 i2 i3 i4 i5 i6 i7 i8
      obtain ⟨c1, c2⟩ := He.ba (show (PySem.W.codeIn K m13 d.qual && isNonV m8) = true from c)
      cases m8 with
      | none => exact ⟨_, ⟨oc, od, m9, m10, m11, m12, m13, m14, osl, rfl, q, c1⟩, kp⟩
      | _ => cases c2
    | _ => cases c
/-! ### isinstance of an own class -/
def insB (K : Frag) (C : Addr) : Bool :=
  He.eqO (PySem.W.findIn K (.ref C) "__class__") (some (some (.builtin "object.__class__"))) &&
  (He.eqO (PySem.W.specialIn K (.builtin "object.__class__") "__get__") (some (some (.builtin "getset_descriptor.__get__"))) &&
  (decide (PySem.W.takesIn K (.builtin "object.__class__") = some true) && (decide (PySem.W.mroIn K C (.type "object") = some true) && decide (PySem.W.kitOne K (.ref C) (.ref C) = some true))))
theorem insB_ok {K : Frag} {C : Addr} (cl : Cls K C) (h : insB K C = true) : C8.InsC K C := by
  obtain ⟨h1, h⟩ := He.ba h
  obtain ⟨h2, h⟩ := He.ba h
  obtain ⟨h3, h⟩ := He.ba h
  obtain ⟨h4, h5⟩ := He.ba h
  exact ⟨cl, He.eqO_ok h1, He.eqO_ok h2, of_decide_eq_true h3, of_decide_eq_true h4, of_decide_eq_true h5⟩
/-! ### where the head looks: the module's names asked for, their code and defaults, their classes' tables, what these hold, its code -/
def reFn (o : Obj) : List Addr := match o.data with
  | .func z => He.refV z.code ++ He.refV z.defaults
  | .cls z => [z.ns]
  | _ => []
def reTab (o : Obj) : List Addr := match o.data with
  | .dict es _ => es.toList.flatMap fun z => He.refV z.val
  | _ => []
def reFld (o : Obj) : List Addr := match o.data with
  | .func z => He.refV z.code ++ He.refV z.defaults
  | .fields vs => vs.toList.flatMap He.refV
  | _ => []
def stepA (g : Addr → Option Obj) (r : Obj → List Addr) (l : List Addr) : List Addr := l.flatMap fun a => match g a with
  | some o => r o
  | none => []
def lookA (g : Addr → Option Obj) (xs : List Str) : List Addr :=
  (fun l1 => (fun l2 => (fun l3 => (fun l4 => mainGlobals :: (l1 ++ (l2 ++ (l3 ++ (l4 ++ stepA g reFn l4))))) (stepA g reFld l3)) (stepA g reTab l2)) (stepA g reFn l1)) (xs.map (He.ga (He.frG g [mainGlobals])))
/-! ### the Hook -/
abbrev AlP : Type := He.AlD × (Bool × List He.FnW)
section
variable (ad : (Addr → Option Obj) → List Addr) (fa : List He.Fa) (fn : List He.DefD) (pr : List PrD) (ex : Frag → Bool)
def obsP (K : Frag) : AlP := (He.obsD fa fn K, ((pr.all fun d => d.ok K) && ex K, pr.map fun d => fnA K (pAd K d.cls d.name)))
def valP : AlP := (He.valD fn, (true, pr.map PrD.val))
def SaysP (K : Frag) : Prop := obsP fa fn pr ex K = valP fn pr
def obsPG (g : Addr → Option Obj) : AlP := obsP fa fn pr ex (He.frG g (ad g))
def hookP : PySem.W.Hook where
  α := AlP
  obs := fun s => obsPG ad fa fn pr ex s.heap.get?
  val := fun _ => valP fn pr
  says := fun _ h => ∃ K : Frag, K.In h ∧ SaysP fa fn pr ex K
  of := fun _ _ q => ⟨_, He.frG_in, q⟩
  keeps := fun _ _ _ ⟨K, inK, c⟩ kp => ⟨K, PySem.W.Frag.In.keeps inK kp, c⟩
end
section
variable {ad : (Addr → Option Obj) → List Addr} {fa : List He.Fa} {fn : List He.DefD} {pr : List PrD} {ex : Frag → Bool} {K : Frag}
theorem obsPG_eq {g : Addr → Option Obj} {s : Shared} (h : ∀ a, g a = s.heap.get? a) : obsPG ad fa fn pr ex g = (hookP ad fa fn pr ex).obs s := by
  rw [funext h]
  rfl
theorem SaysP.d (c : SaysP fa fn pr ex K) : He.SaysD fa fn K := congrArg (fun z : AlP => z.1) c
theorem SaysP.x (c : SaysP fa fn pr ex K) : ex K = true := (He.ba (show ((pr.all fun d => d.ok K) && ex K) = true from congrArg (fun z : AlP => z.2.1) c)).2
theorem SaysP.p (c : SaysP fa fn pr ex K) (i : Nat) {d : PrD} (h : pr[i]? = some d := by rfl) : PropOf K (He.ga K d.cls) d.name (He.ma K (He.ga K d.cls) d.name) (pAd K d.cls d.name) ∧ ∃ fd, Fun K d.name d.qual d.st (pAd K d.cls d.name) fd := by
  have c1 := (He.ba (show ((pr.all fun d => d.ok K) && ex K) = true from congrArg (fun z : AlP => z.2.1) c)).1
  have c2 := List.all_eq_true.mp c1 d (List.mem_of_getElem? h)
  have e : pr.map (fun d => fnA K (pAd K d.cls d.name)) = pr.map PrD.val := congrArg (fun z : AlP => z.2.2) c
  have e2 : (pr.map fun d => fnA K (pAd K d.cls d.name))[i]? = (pr.map PrD.val)[i]? := by rw [e]
  rw [List.getElem?_map, List.getElem?_map, h] at e2
  exact ⟨PrD.prop c2, PrD.fun_ (Option.some.inj e2) c2⟩
end
end Hr
set_option Elab.async false
set_option linter.all false
set_option maxRecDepth 100000
set_option maxHeartbeats 4000000
/-! HeirR2: the head's facts, all promises joined (printed by gen_facts.py). -/
namespace Hr
open PySem L2
open PySem.W (Frag)
def gN1 : List (Str × Nat) := [("is_integer", 12), ("is_number", 13), ("is_name", 14), ("is_sequence", 15), ("common_of", 17), ("lowest", 18), ("plus", 19), ("times", 20), ("is_group", 31), ("is_share", 32), ("are_pairs", 37), ("are_unlike", 38), ("are_people", 39), ("is_will_of", 40), ("are_wills", 41), ("are_facts", 42), ("has_ring", 43), ("first_fault", 22), ("need_order", 23), ("held_by_hours", 24)]
def gN2 : List (Str × Nat) := [("held_behind", 25), ("told_of", 26), ("is_order", 27), ("paid", 28), ("steps", 29), ("_law_deal", 48), ("_law_draw", 49), ("_law_pick", 50), ("_law_mixed", 51), ("_law_titles", 52), ("_law_share", 53), ("_law_family", 54), ("_law_made", 55), ("_law_dead", 56), ("_law_lowest", 58), ("_law_plus", 59), ("_law_keeps", 64), ("_law_orders", 65), ("_law_led_over", 66), ("_law_mixed_up", 67), ("_law_woven", 68), ("law", 69)]
def gN : List (Str × Nat) := gN1 ++ gN2
def freeN : List Str := ["isinstance", "int", "bool", "str", "list", "tuple", "dict", "len", "all", "any", "sum", "sorted", "range", "reversed", "enumerate", "abs", "zip"]
def dG (q : Str × Nat) : He.DefD := ⟨(q.1, none), q.1, q.1, defArgs (top q.2), defBody (top q.2), defScope (top q.2), [], []⟩
def dM (C m q : Str) (st : Stmt) (l : List He.Dv) : He.DefD := ⟨(C, some m), m, q, defArgs st, defBody st, defScope st, l, []⟩
def dflF (i : Nat) : He.Dv := .adr (He.dflAt ("Family", some "__init__") i)
def dFI : He.DefD := dM "Family" "__init__" "Family.__init__" sFamInit [dflF 0, dflF 1]
def mN : List He.DefD := [dM "Will" "__init__" "Will.__init__" sWillInit [], dM "Will" "heirs" "Will.heirs" sWillHeirs [], dM "Family" "will_of" "Family.will_of" sFamWillOf [], dM "Family" "with_fact" "Family.with_fact" sFamWithFact [], dM "Family" "__add__" "Family.__add__" sFamAdd [], dFI]
def fnN : List He.DefD := mN ++ gN.map dG
def prN : List PrD := [⟨"Will", "names", "Will.names", sWillNames⟩, ⟨"Family", "dead", "Family.dead", sFamDead⟩, ⟨"Family", "living", "Family.living", sFamLiving⟩]
def clN : List He.Fa := [.cls "Will", .noat "Will" "shares", .mkr "Will", .cls "Family", .noat "Family" "people", .noat "Family" "wills", .noat "Family" "facts", .mkr "Family", .glo "Will", .glo "Family", .str "CROWN" "crown", .str "LETTERS" "abcdefghijklmnopqrstuvwxyz", .meth "Will" "heirs", .meth "Family" "will_of", .meth "Family" "with_fact", .meth "Family" "__add__"]
def faN : List He.Fa := clN ++ (gN.map fun q => He.Fa.glo q.1) ++ freeN.map He.Fa.free
def exN (K : Frag) : Bool := insB K (He.ga K "Will") && (insB K (He.ga K "Family") && PySem.W.selfFirst K (He.ga K "Family"))
abbrev Says (K : Frag) : Prop := SaysP faN fnN prN exN K
section
variable {K : Frag} {h : Heap} {mg : Str → Option Value}
theorem says_fact (c : Says K) {f : He.Fa} (hf : f ∈ faN) : f.ok K = true := by
  obtain ⟨i, e⟩ := List.mem_iff_getElem?.mp hf
  exact c.d.fact i e
theorem says_cl (c : Says K) (i : Nat) {f : He.Fa} (e : clN[i]? = some f := by rfl) : f.ok K = true := says_fact c (List.mem_append_left _ (List.mem_append_left _ (List.mem_of_getElem? e)))
theorem says_glo (c : Says K) (X : K.In h) (G : h.Ns mainGlobals mg) {q : Str × Nat} (hq : q ∈ gN) : mg q.1 = some (.ref (He.ga K q.1)) :=
  He.glo_ok X G (says_fact c (List.mem_append_left _ (List.mem_append_right _ (List.mem_map.mpr ⟨q, hq, rfl⟩))))
theorem says_free (c : Says K) (X : K.In h) (G : h.Ns mainGlobals mg) {x : Str} (hx : x ∈ freeN) : mg x = none :=
  He.free_ok X G (says_fact c (List.mem_append_right _ (List.mem_map.mpr ⟨x, hx, rfl⟩)))
theorem says_def (c : Says K) {d : He.DefD} (hd : d ∈ fnN) : ∃ fd, FunD K d.name d.qual d.params d.body d.scope (d.dvs K) (d.kws K) (He.fAd K d.at_) fd := by
  obtain ⟨i, e⟩ := List.mem_iff_getElem?.mp hd
  exact c.d.def_ i e
theorem says_fun (c : Says K) {q : Str × Nat} (hq : q ∈ gN) : ∃ fd, Fun K q.1 q.1 (top q.2) (He.ga K q.1) fd := by
  obtain ⟨fd, F⟩ := says_def c (d := dG q) (List.mem_append_right _ (List.mem_map.mpr ⟨q, hq, rfl⟩))
  exact ⟨fd, fun_ofD F⟩
theorem says_meth (c : Says K) {C m q : Str} {st : Stmt} (i : Nat) (e : mN[i]? = some (dM C m q st []) := by rfl) : ∃ fd, Fun K m q st (He.ma K (He.ga K C) m) fd := by
  obtain ⟨fd, F⟩ := says_def c (d := dM C m q st []) (List.mem_append_left _ (List.mem_of_getElem? e))
  exact ⟨fd, fun_ofD F⟩
theorem says_init (c : Says K) : ∃ fd, FunD K "__init__" "Family.__init__" (defArgs sFamInit) (defBody sFamInit) (defScope sFamInit) (dFI.dvs K) (dFI.kws K) (He.ma K (He.ga K "Family") "__init__") fd :=
  says_def c (d := dFI) (List.mem_append_left _ (List.mem_of_getElem? (i := 5) rfl))
theorem says_glb (c : Says K) (X : K.In h) (G : h.Ns mainGlobals mg) : Glb mg :=
  ⟨says_free c X G (by decide), says_free c X G (by decide), says_free c X G (by decide), says_free c X G (by decide), says_free c X G (by decide), says_free c X G (by decide), says_free c X G (by decide), says_free c X G (by decide), says_free c X G (by decide), says_free c X G (by decide), says_free c X G (by decide), says_free c X G (by decide), says_free c X G (by decide), says_free c X G (by decide), says_free c X G (by decide), says_free c X G (by decide), says_free c X G (by decide), He.str_ok X G (says_cl c 10), He.str_ok X G (says_cl c 11)⟩
end
section
variable {P : Program} {w : World} {K : Frag} {mg : Str → Option Value} {base h : Heap}
theorem bind_init {f : Addr} {fd : FuncData} (Fn : FunD K "__init__" "Family.__init__" (defArgs sFamInit) (defBody sFamInit) (defScope sFamInit) (dFI.dvs K) (dFI.kws K) f fd) : Binds K fd ["self", "people", "wills", "facts"] [] := by
  obtain ⟨ds, h1, h2⟩ := FunD.binds1 (ps := ["self", "people", "wills", "facts"]) Fn 4 2 (by intro z; cases z) rfl fun T kV doc pm an cdv ct us its hu hi => by
    match us, its, hu, hi with
    | [_, _, _, _], [_, _], _, _ => exact ⟨_, rfl, rfl⟩
  cases h1
  exact h2
theorem lawH_of (c : Says K) (X : K.In h) (G : h.Ns mainGlobals mg) : LawH ⟨P, w, K, mg, base⟩ (He.ga K "Family") (He.ga K "Will") := by
  have g : Glb mg := says_glb c X G
  generalize hW : He.ga K "Will" = W
  generalize hF : He.ga K "Family" = F
  have mW : mg "Will" = some (.ref W) := hW ▸ He.glo_ok X G (says_cl c 8)
  have mF : mg "Family" = some (.ref F) := hF ▸ He.glo_ok X G (says_cl c 9)
  have clW : Cls K W := hW ▸ He.cls_ok (says_cl c 0)
  have clF : Cls K F := hF ▸ He.cls_ok (says_cl c 3)
  have CW : WillCls K W := ⟨clW, hW ▸ He.noat_ok (says_cl c 1)⟩
  have CF : FamCls K F W := ⟨clF, hF ▸ He.noat_ok (says_cl c 4), hF ▸ He.noat_ok (says_cl c 5), hF ▸ He.noat_ok (says_cl c 6), CW⟩
  obtain ⟨x1, x2⟩ := He.ba c.x
  obtain ⟨x2, x3⟩ := He.ba x2
  have iW : C8.InsC K W := insB_ok clW (hW ▸ x1)
  have iF : C8.InsC K F := insB_ok clF (hF ▸ x2)
  have sF : PySem.W.selfFirst K F = true := hF ▸ x3
  have h_is_integer : Has ⟨P, w, K, mg, base⟩ 1 "is_integer" spIsInteger := by
    obtain ⟨fd, Fn⟩ := says_fun c (q := ("is_integer", 12)) (by decide)
    exact ⟨_, fd, _, ok_isInteger Fn g, says_glo c X G (q := ("is_integer", 12)) (by decide), Fn.kp, (Fun.binds Fn fun _ _ _ _ _ _ us hl => match us, hl with | [_], _ => rfl)⟩
  have h_is_number : Has ⟨P, w, K, mg, base⟩ 2 "is_number" spIsNumber := by
    obtain ⟨fd, Fn⟩ := says_fun c (q := ("is_number", 13)) (by decide)
    exact ⟨_, fd, _, ok_isNumber Fn h_is_integer, says_glo c X G (q := ("is_number", 13)) (by decide), Fn.kp, (Fun.binds Fn fun _ _ _ _ _ _ us hl => match us, hl with | [_], _ => rfl)⟩
  have h_is_name : Has ⟨P, w, K, mg, base⟩ 1 "is_name" spIsName := by
    obtain ⟨fd, Fn⟩ := says_fun c (q := ("is_name", 14)) (by decide)
    exact ⟨_, fd, _, ok_isName Fn g, says_glo c X G (q := ("is_name", 14)) (by decide), Fn.kp, (Fun.binds Fn fun _ _ _ _ _ _ us hl => match us, hl with | [_], _ => rfl)⟩
  have h_is_sequence : Has ⟨P, w, K, mg, base⟩ 1 "is_sequence" spIsSequence := by
    obtain ⟨fd, Fn⟩ := says_fun c (q := ("is_sequence", 15)) (by decide)
    exact ⟨_, fd, _, ok_isSequence Fn g, says_glo c X G (q := ("is_sequence", 15)) (by decide), Fn.kp, (Fun.binds Fn fun _ _ _ _ _ _ us hl => match us, hl with | [_], _ => rfl)⟩
  have h_common_of : Has ⟨P, w, K, mg, base⟩ 1 "common_of" spCommon := by
    obtain ⟨fd, Fn⟩ := says_fun c (q := ("common_of", 17)) (by decide)
    exact ⟨_, fd, _, ok_common Fn, says_glo c X G (q := ("common_of", 17)) (by decide), Fn.kp, (Fun.binds Fn fun _ _ _ _ _ _ us hl => match us, hl with | [_, _], _ => rfl)⟩
  have h_lowest : Has ⟨P, w, K, mg, base⟩ 2 "lowest" spLowest := by
    obtain ⟨fd, Fn⟩ := says_fun c (q := ("lowest", 18)) (by decide)
    exact ⟨_, fd, _, ok_lowest Fn h_common_of g.abs, says_glo c X G (q := ("lowest", 18)) (by decide), Fn.kp, (Fun.binds Fn fun _ _ _ _ _ _ us hl => match us, hl with | [_, _], _ => rfl)⟩
  have h_plus : Has ⟨P, w, K, mg, base⟩ 3 "plus" spPlus := by
    obtain ⟨fd, Fn⟩ := says_fun c (q := ("plus", 19)) (by decide)
    exact ⟨_, fd, _, ok_plus Fn h_lowest, says_glo c X G (q := ("plus", 19)) (by decide), Fn.kp, (Fun.binds Fn fun _ _ _ _ _ _ us hl => match us, hl with | [_, _], _ => rfl)⟩
  have h_times : Has ⟨P, w, K, mg, base⟩ 3 "times" spTimes := by
    obtain ⟨fd, Fn⟩ := says_fun c (q := ("times", 20)) (by decide)
    exact ⟨_, fd, _, ok_times Fn h_lowest, says_glo c X G (q := ("times", 20)) (by decide), Fn.kp, (Fun.binds Fn fun _ _ _ _ _ _ us hl => match us, hl with | [_, _], _ => rfl)⟩
  have h_is_group : Has ⟨P, w, K, mg, base⟩ 2 "is_group" spIsGroup := by
    obtain ⟨fd, Fn⟩ := says_fun c (q := ("is_group", 31)) (by decide)
    exact ⟨_, fd, _, ok_isGroup Fn g h_is_sequence h_is_name, says_glo c X G (q := ("is_group", 31)) (by decide), Fn.kp, (Fun.binds Fn fun _ _ _ _ _ _ us hl => match us, hl with | [_], _ => rfl)⟩
  have h_is_share : Has ⟨P, w, K, mg, base⟩ 3 "is_share" spIsShare := by
    obtain ⟨fd, Fn⟩ := says_fun c (q := ("is_share", 32)) (by decide)
    exact ⟨_, fd, _, ok_isShare Fn g h_is_sequence h_is_integer h_is_group, says_glo c X G (q := ("is_share", 32)) (by decide), Fn.kp, (Fun.binds Fn fun _ _ _ _ _ _ us hl => match us, hl with | [_], _ => rfl)⟩
  have h_are_pairs : Has ⟨P, w, K, mg, base⟩ 2 "are_pairs" spArePairs := by
    obtain ⟨fd, Fn⟩ := says_fun c (q := ("are_pairs", 37)) (by decide)
    exact ⟨_, fd, _, ok_arePairs Fn g h_is_sequence, says_glo c X G (q := ("are_pairs", 37)) (by decide), Fn.kp, (Fun.binds Fn fun _ _ _ _ _ _ us hl => match us, hl with | [_], _ => rfl)⟩
  have h_are_unlike : Has ⟨P, w, K, mg, base⟩ 1 "are_unlike" spAreUnlike := by
    obtain ⟨fd, Fn⟩ := says_fun c (q := ("are_unlike", 38)) (by decide)
    exact ⟨_, fd, _, ok_areUnlike Fn g, says_glo c X G (q := ("are_unlike", 38)) (by decide), Fn.kp, (Fun.binds Fn fun _ _ _ _ _ _ us hl => match us, hl with | [_], _ => rfl)⟩
  have k_Will : HasK ⟨P, w, K, mg, base⟩ 4 "Will" W (spWillInit W) := by
    obtain ⟨fd, Fn⟩ := says_meth c (C := "Will") (m := "__init__") (q := "Will.__init__") (st := sWillInit) 0
    have mk := He.mkr_ok (says_cl c 2)
    rw [hW] at mk Fn
    exact ⟨_, fd, _, ok_willInit Fn g CW h_is_sequence h_is_share, mk, mW, (Fun.binds Fn fun _ _ _ _ _ _ us hl => match us, hl with | [_, _], _ => rfl)⟩
  have p_names : HasP ⟨P, w, K, mg, base⟩ 1 W "names" (spWillNames W) := by
    obtain ⟨mk, fd, Fn⟩ := c.p 0
    simp only [hW] at mk Fn
    exact ⟨_, _, fd, _, ok_willNames Fn g CW, mk, (Fun.binds Fn fun _ _ _ _ _ _ us hl => match us, hl with | [_], _ => rfl)⟩
  have m_heirs : HasM ⟨P, w, K, mg, base⟩ 4 W "heirs" (spWillHeirs W) := by
    obtain ⟨fd, Fn⟩ := says_meth c (C := "Will") (m := "heirs") (q := "Will.heirs") (st := sWillHeirs) 1
    have mk := He.meth_ok (says_cl c 12)
    rw [hW] at mk Fn
    exact ⟨_, fd, _, ok_willHeirs Fn g CW h_plus h_lowest, mk, (Fun.binds Fn fun _ _ _ _ _ _ us hl => match us, hl with | [_, _], _ => rfl)⟩
  have h_are_people : Has ⟨P, w, K, mg, base⟩ 3 "are_people" spArePeople := by
    obtain ⟨fd, Fn⟩ := says_fun c (q := ("are_people", 39)) (by decide)
    exact ⟨_, fd, _, ok_arePeople Fn g h_are_pairs h_is_name h_is_number h_are_unlike, says_glo c X G (q := ("are_people", 39)) (by decide), Fn.kp, (Fun.binds Fn fun _ _ _ _ _ _ us hl => match us, hl with | [_], _ => rfl)⟩
  have h_is_will_of : Has ⟨P, w, K, mg, base⟩ 3 "is_will_of" (spIsWillOf W) := by
    obtain ⟨fd, Fn⟩ := says_fun c (q := ("is_will_of", 40)) (by decide)
    exact ⟨_, fd, _, ok_isWillOf Fn g CW iW mW p_names, says_glo c X G (q := ("is_will_of", 40)) (by decide), Fn.kp, (Fun.binds Fn fun _ _ _ _ _ _ us hl => match us, hl with | [_, _, _], _ => rfl)⟩
  have h_are_wills : Has ⟨P, w, K, mg, base⟩ 4 "are_wills" (spAreWills W) := by
    obtain ⟨fd, Fn⟩ := says_fun c (q := ("are_wills", 41)) (by decide)
    exact ⟨_, fd, _, ok_areWills Fn g h_are_pairs h_is_will_of h_are_unlike, says_glo c X G (q := ("are_wills", 41)) (by decide), Fn.kp, (Fun.binds Fn fun _ _ _ _ _ _ us hl => match us, hl with | [_, _], _ => rfl)⟩
  have h_are_facts : Has ⟨P, w, K, mg, base⟩ 3 "are_facts" spAreFacts := by
    obtain ⟨fd, Fn⟩ := says_fun c (q := ("are_facts", 42)) (by decide)
    exact ⟨_, fd, _, ok_areFacts Fn g h_are_pairs, says_glo c X G (q := ("are_facts", 42)) (by decide), Fn.kp, (Fun.binds Fn fun _ _ _ _ _ _ us hl => match us, hl with | [_, _], _ => rfl)⟩
  have h_has_ring : Has ⟨P, w, K, mg, base⟩ 1 "has_ring" spHasRing := by
    obtain ⟨fd, Fn⟩ := says_fun c (q := ("has_ring", 43)) (by decide)
    exact ⟨_, fd, _, ok_hasRing Fn g, says_glo c X G (q := ("has_ring", 43)) (by decide), Fn.kp, (Fun.binds Fn fun _ _ _ _ _ _ us hl => match us, hl with | [_, _], _ => rfl)⟩
  have k_Family : HasK ⟨P, w, K, mg, base⟩ 5 "Family" F (spFamInit F W) := by
    obtain ⟨fd, Fn⟩ := says_init c
    have mk := He.mkr_ok (says_cl c 7)
    rw [hF] at mk Fn
    exact ⟨_, fd, _, ok_famInit Fn g CF h_are_people h_are_wills h_are_facts h_has_ring, mk, mF, bind_init Fn⟩
  have p_dead : HasP ⟨P, w, K, mg, base⟩ 1 F "dead" (spFamDead F W) := by
    obtain ⟨mk, fd, Fn⟩ := c.p 1
    simp only [hF] at mk Fn
    exact ⟨_, _, fd, _, ok_famDead Fn g CF, mk, (Fun.binds Fn fun _ _ _ _ _ _ us hl => match us, hl with | [_], _ => rfl)⟩
  have p_living : HasP ⟨P, w, K, mg, base⟩ 3 F "living" (spFamLiving F W) := by
    obtain ⟨mk, fd, Fn⟩ := c.p 2
    simp only [hF] at mk Fn
    exact ⟨_, _, fd, _, ok_famLiving Fn g CF p_dead, mk, (Fun.binds Fn fun _ _ _ _ _ _ us hl => match us, hl with | [_], _ => rfl)⟩
  have m_will_of : HasM ⟨P, w, K, mg, base⟩ 1 F "will_of" (spFamWillOf F W) := by
    obtain ⟨fd, Fn⟩ := says_meth c (C := "Family") (m := "will_of") (q := "Family.will_of") (st := sFamWillOf) 2
    have mk := He.meth_ok (says_cl c 13)
    rw [hF] at mk Fn
    exact ⟨_, fd, _, ok_famWillOf Fn g CF, mk, (Fun.binds Fn fun _ _ _ _ _ _ us hl => match us, hl with | [_, _], _ => rfl)⟩
  have m_with_fact : HasM ⟨P, w, K, mg, base⟩ 7 F "with_fact" (spFamWithFact F W) := by
    obtain ⟨fd, Fn⟩ := says_meth c (C := "Family") (m := "with_fact") (q := "Family.with_fact") (st := sFamWithFact) 3
    have mk := He.meth_ok (says_cl c 14)
    rw [hF] at mk Fn
    exact ⟨_, fd, _, ok_famWithFact Fn g CF m_will_of k_Family, mk, (Fun.binds Fn fun _ _ _ _ _ _ us hl => match us, hl with | [_, _, _], _ => rfl)⟩
  have m___add__ : HasM ⟨P, w, K, mg, base⟩ 7 F "__add__" (spFamAdd F W) := by
    obtain ⟨fd, Fn⟩ := says_meth c (C := "Family") (m := "__add__") (q := "Family.__add__") (st := sFamAdd) 4
    have mk := He.meth_ok (says_cl c 15)
    rw [hF] at mk Fn
    exact ⟨_, fd, _, ok_famAdd Fn g CF iF mF k_Family, mk, (Fun.binds Fn fun _ _ _ _ _ _ us hl => match us, hl with | [_, _], _ => rfl)⟩
  have h_first_fault : Has ⟨P, w, K, mg, base⟩ 3 "first_fault" (spFault F W) := by
    obtain ⟨fd, Fn⟩ := says_fun c (q := ("first_fault", 22)) (by decide)
    exact ⟨_, fd, _, ok_fault Fn g CF h_is_sequence p_dead, says_glo c X G (q := ("first_fault", 22)) (by decide), Fn.kp, (Fun.binds Fn fun _ _ _ _ _ _ us hl => match us, hl with | [_, _], _ => rfl)⟩
  have h_need_order : Has ⟨P, w, K, mg, base⟩ 4 "need_order" (spNeed F W) := by
    obtain ⟨fd, Fn⟩ := says_fun c (q := ("need_order", 23)) (by decide)
    exact ⟨_, fd, _, ok_need Fn g h_first_fault, says_glo c X G (q := ("need_order", 23)) (by decide), Fn.kp, (Fun.binds Fn fun _ _ _ _ _ _ us hl => match us, hl with | [_, _], _ => rfl)⟩
  have h_held_by_hours : Has ⟨P, w, K, mg, base⟩ 5 "held_by_hours" (spHours F W) := by
    obtain ⟨fd, Fn⟩ := says_fun c (q := ("held_by_hours", 24)) (by decide)
    exact ⟨_, fd, _, ok_hours Fn g CF h_times h_plus m_will_of m_heirs, says_glo c X G (q := ("held_by_hours", 24)) (by decide), Fn.kp, (Fun.binds Fn fun _ _ _ _ _ _ us hl => match us, hl with | [_, _], _ => rfl)⟩
  have h_held_behind : Has ⟨P, w, K, mg, base⟩ 6 "held_behind" (spBehind F W) := by
    obtain ⟨fd, Fn⟩ := says_fun c (q := ("held_behind", 25)) (by decide)
    exact ⟨_, fd, _, ok_behind Fn h_held_by_hours, says_glo c X G (q := ("held_behind", 25)) (by decide), Fn.kp, (Fun.binds Fn fun _ _ _ _ _ _ us hl => match us, hl with | [_, _], _ => rfl)⟩
  have h_told_of : Has ⟨P, w, K, mg, base⟩ 5 "told_of" (spTold F W) := by
    obtain ⟨fd, Fn⟩ := says_fun c (q := ("told_of", 26)) (by decide)
    exact ⟨_, fd, _, ok_told Fn g CF p_living, says_glo c X G (q := ("told_of", 26)) (by decide), Fn.kp, (Fun.binds Fn fun _ _ _ _ _ _ us hl => match us, hl with | [_, _], _ => rfl)⟩
  have h_is_order : Has ⟨P, w, K, mg, base⟩ 4 "is_order" (spIsOrder F W) := by
    obtain ⟨fd, Fn⟩ := says_fun c (q := ("is_order", 27)) (by decide)
    exact ⟨_, fd, _, ok_isOrder Fn g h_first_fault, says_glo c X G (q := ("is_order", 27)) (by decide), Fn.kp, (Fun.binds Fn fun _ _ _ _ _ _ us hl => match us, hl with | [_, _], _ => rfl)⟩
  have h_paid : Has ⟨P, w, K, mg, base⟩ 7 "paid" (spPaid F W) := by
    obtain ⟨fd, Fn⟩ := says_fun c (q := ("paid", 28)) (by decide)
    exact ⟨_, fd, _, ok_paid Fn h_need_order h_held_behind h_told_of, says_glo c X G (q := ("paid", 28)) (by decide), Fn.kp, (Fun.binds Fn fun _ _ _ _ _ _ us hl => match us, hl with | [_, _], _ => rfl)⟩
  have h_steps : Has ⟨P, w, K, mg, base⟩ 7 "steps" (spSteps F W) := by
    obtain ⟨fd, Fn⟩ := says_fun c (q := ("steps", 29)) (by decide)
    exact ⟨_, fd, _, ok_steps Fn g h_need_order h_held_behind, says_glo c X G (q := ("steps", 29)) (by decide), Fn.kp, (Fun.binds Fn fun _ _ _ _ _ _ us hl => match us, hl with | [_, _], _ => rfl)⟩
  have h__law_deal : Has ⟨P, w, K, mg, base⟩ 1 "_law_deal" (spDeal K) := by
    obtain ⟨fd, Fn⟩ := says_fun c (q := ("_law_deal", 48)) (by decide)
    exact ⟨_, fd, _, ok_deal Fn g, says_glo c X G (q := ("_law_deal", 48)) (by decide), Fn.kp, (Fun.binds Fn fun _ _ _ _ _ _ us hl => match us, hl with | [_, _], _ => rfl)⟩
  have h__law_draw : Has ⟨P, w, K, mg, base⟩ 1 "_law_draw" spDraw := by
    obtain ⟨fd, Fn⟩ := says_fun c (q := ("_law_draw", 49)) (by decide)
    exact ⟨_, fd, _, ok_draw Fn g, says_glo c X G (q := ("_law_draw", 49)) (by decide), Fn.kp, (Fun.binds Fn fun _ _ _ _ _ _ us hl => match us, hl with | [_, _], _ => rfl)⟩
  have h__law_pick : Has ⟨P, w, K, mg, base⟩ 2 "_law_pick" spPick := by
    obtain ⟨fd, Fn⟩ := says_fun c (q := ("_law_pick", 50)) (by decide)
    exact ⟨_, fd, _, ok_pick Fn g h__law_draw, says_glo c X G (q := ("_law_pick", 50)) (by decide), Fn.kp, (Fun.binds Fn fun _ _ _ _ _ _ us hl => match us, hl with | [_, _], _ => rfl)⟩
  have h__law_mixed : Has ⟨P, w, K, mg, base⟩ 2 "_law_mixed" spMixed := by
    obtain ⟨fd, Fn⟩ := says_fun c (q := ("_law_mixed", 51)) (by decide)
    exact ⟨_, fd, _, ok_mixed Fn g h__law_draw, says_glo c X G (q := ("_law_mixed", 51)) (by decide), Fn.kp, (Fun.binds Fn fun _ _ _ _ _ _ us hl => match us, hl with | [_, _], _ => rfl)⟩
  have h__law_titles : Has ⟨P, w, K, mg, base⟩ 3 "_law_titles" spTitles := by
    obtain ⟨fd, Fn⟩ := says_fun c (q := ("_law_titles", 52)) (by decide)
    exact ⟨_, fd, _, ok_titles Fn h__law_mixed, says_glo c X G (q := ("_law_titles", 52)) (by decide), Fn.kp, (Fun.binds Fn fun _ _ _ _ _ _ us hl => match us, hl with | [_, _], _ => rfl)⟩
  have h__law_share : Has ⟨P, w, K, mg, base⟩ 3 "_law_share" spLShare := by
    obtain ⟨fd, Fn⟩ := says_fun c (q := ("_law_share", 53)) (by decide)
    exact ⟨_, fd, _, ok_lshare Fn g h__law_pick h__law_mixed h__law_draw, says_glo c X G (q := ("_law_share", 53)) (by decide), Fn.kp, (Fun.binds Fn fun _ _ _ _ _ _ us hl => match us, hl with | [_, _], _ => rfl)⟩
  have h__law_family : Has ⟨P, w, K, mg, base⟩ 4 "_law_family" spLFam := by
    obtain ⟨fd, Fn⟩ := says_fun c (q := ("_law_family", 54)) (by decide)
    exact ⟨_, fd, _, ok_lfam Fn g h__law_titles h__law_pick h__law_mixed h__law_draw h__law_share, says_glo c X G (q := ("_law_family", 54)) (by decide), Fn.kp, (Fun.binds Fn fun _ _ _ _ _ _ us hl => match us, hl with | [_, _, _], _ => rfl)⟩
  have h__law_made : Has ⟨P, w, K, mg, base⟩ 7 "_law_made" (spMade F W) := by
    obtain ⟨fd, Fn⟩ := says_fun c (q := ("_law_made", 55)) (by decide)
    exact ⟨_, fd, _, ok_made Fn k_Will k_Family, says_glo c X G (q := ("_law_made", 55)) (by decide), Fn.kp, (Fun.binds Fn fun _ _ _ _ _ _ us hl => match us, hl with | [_], _ => rfl)⟩
  have h__law_dead : Has ⟨P, w, K, mg, base⟩ 1 "_law_dead" spLDead := by
    obtain ⟨fd, Fn⟩ := says_fun c (q := ("_law_dead", 56)) (by decide)
    exact ⟨_, fd, _, ok_ldead Fn g, says_glo c X G (q := ("_law_dead", 56)) (by decide), Fn.kp, (Fun.binds Fn fun _ _ _ _ _ _ us hl => match us, hl with | [_], _ => rfl)⟩
  have h__law_lowest : Has ⟨P, w, K, mg, base⟩ 1 "_law_lowest" spLLowest := by
    obtain ⟨fd, Fn⟩ := says_fun c (q := ("_law_lowest", 58)) (by decide)
    exact ⟨_, fd, _, ok_llowest Fn g, says_glo c X G (q := ("_law_lowest", 58)) (by decide), Fn.kp, (Fun.binds Fn fun _ _ _ _ _ _ us hl => match us, hl with | [_, _], _ => rfl)⟩
  have h__law_plus : Has ⟨P, w, K, mg, base⟩ 2 "_law_plus" spLPlus := by
    obtain ⟨fd, Fn⟩ := says_fun c (q := ("_law_plus", 59)) (by decide)
    exact ⟨_, fd, _, ok_lplus Fn h__law_lowest, says_glo c X G (q := ("_law_plus", 59)) (by decide), Fn.kp, (Fun.binds Fn fun _ _ _ _ _ _ us hl => match us, hl with | [_, _], _ => rfl)⟩
  have h__law_keeps : Has ⟨P, w, K, mg, base⟩ 1 "_law_keeps" spKeeps := by
    obtain ⟨fd, Fn⟩ := says_fun c (q := ("_law_keeps", 64)) (by decide)
    exact ⟨_, fd, _, ok_keeps Fn, says_glo c X G (q := ("_law_keeps", 64)) (by decide), Fn.kp, (Fun.binds Fn fun _ _ _ _ _ _ us hl => match us, hl with | [_, _], _ => rfl)⟩
  have h__law_orders : Has ⟨P, w, K, mg, base⟩ 2 "_law_orders" spOrders := by
    obtain ⟨fd, Fn⟩ := says_fun c (q := ("_law_orders", 65)) (by decide)
    exact ⟨_, fd, _, ok_orders Fn g h__law_dead h__law_keeps, says_glo c X G (q := ("_law_orders", 65)) (by decide), Fn.kp, (Fun.binds Fn fun _ _ _ _ _ _ us hl => match us, hl with | [_], _ => rfl)⟩
  have h__law_led_over : Has ⟨P, w, K, mg, base⟩ 1 "_law_led_over" spLedOver := by
    obtain ⟨fd, Fn⟩ := says_fun c (q := ("_law_led_over", 66)) (by decide)
    exact ⟨_, fd, _, ok_ledOver Fn, says_glo c X G (q := ("_law_led_over", 66)) (by decide), Fn.kp, (Fun.binds Fn fun _ _ _ _ _ _ us hl => match us, hl with | [_, _], _ => rfl)⟩
  have h__law_mixed_up : Has ⟨P, w, K, mg, base⟩ 3 "_law_mixed_up" spMixedUp := by
    obtain ⟨fd, Fn⟩ := says_fun c (q := ("_law_mixed_up", 67)) (by decide)
    exact ⟨_, fd, _, ok_mixedUp Fn g h__law_mixed, says_glo c X G (q := ("_law_mixed_up", 67)) (by decide), Fn.kp, (Fun.binds Fn fun _ _ _ _ _ _ us hl => match us, hl with | [_, _], _ => rfl)⟩
  have h__law_woven : Has ⟨P, w, K, mg, base⟩ 2 "_law_woven" spWoven := by
    obtain ⟨fd, Fn⟩ := says_fun c (q := ("_law_woven", 68)) (by decide)
    exact ⟨_, fd, _, ok_woven Fn g h__law_draw, says_glo c X G (q := ("_law_woven", 68)) (by decide), Fn.kp, (Fun.binds Fn fun _ _ _ _ _ _ us hl => match us, hl with | [_, _, _], _ => rfl)⟩
  exact ⟨g, CF, sF, h__law_deal, h__law_draw, h__law_pick, h__law_mixed, h__law_family, h__law_made, h__law_orders, h__law_woven, h__law_led_over, h__law_mixed_up, h__law_plus, h_paid, h_steps, h_is_order, k_Family, m___add__, m_with_fact⟩
end
end Hr
set_option Elab.async false
set_option linter.all false
set_option maxRecDepth 100000
set_option maxHeartbeats 0
/-! HeirR3: the top's run (the names printed by gen_head.py). -/
namespace Hr
open PySem L2
def names1 : List PySem.Str := ["_wall", "HeirError", "InvalidWill", "InvalidFamily", "InvalidText", "InvalidOrder", "NoName", "CROWN", "LETTERS", "FIGURES", "is_integer", "is_number", "is_name", "is_sequence", "number_in", "common_of", "lowest", "plus", "times", "first_fault", "need_order", "held_by_hours", "held_behind", "told_of", "is_order", "paid", "steps", "is_group", "is_share", "share_text", "share_in", "Will"]
def names2 : List PySem.Str := ["are_pairs", "are_unlike", "are_people", "is_will_of", "are_wills", "are_facts", "has_ring", "Family", "will_in", "line_in", "_law_deal", "_law_draw", "_law_pick", "_law_mixed", "_law_titles", "_law_share", "_law_family", "_law_made", "_law_dead", "_law_living", "_law_lowest", "_law_plus", "_law_heirs", "_law_led", "_law_told", "_law_alone", "_law_keeps", "_law_orders", "_law_led_over", "_law_mixed_up", "_law_woven"]

abbrev Rw : PySem.W.OpenRow := PySem.W.OpenLaw.row PySem.Challenge.rw_heirorders_k26_whole_people_by_other_nam
def adN (g : Addr → Option Obj) : List Addr := lookA g ("Will" :: "Family" :: gN.map (·.1))
abbrev hkN : PySem.W.Hook := hookP adN faN fnN prN exN
def obN (s : PySem.W.SharedT) : AlP := obsPG adN faN fnN prN exN (HandSHeadRun.getT s)
theorem obN_eq (s : PySem.W.SharedT) : obN s = hkN.obs s.abs := obsPG_eq (HandSHeadRun.getT_eq s)
theorem runN (w : World) : HandSHeadRun.RunEq Rw (PySem.W.view Rw.prog [69]) hkN obN 20000 (names1 ++ names2) w := by
  intro os
  kernel_rfl
end Hr
set_option Elab.async false
set_option linter.all false
set_option maxRecDepth 100000
set_option maxHeartbeats 0
/-! HeirR4: the end. -/
namespace Hr
open PySem L2
theorem factsN {P : Program} {w : World} {K : PySem.W.Frag} {h : Heap} {mg : Str → Option Value} {f : Addr} (X : K.In h) (G : h.Ns mainGlobals mg) (hfa : mg ("law" : Str) = some (.ref f)) (c : Says K) :
    ∃ fd : FuncData, (∀ (s : Shared) (v : Value), BindsTo s fd ⟨[v], []⟩ [("_law_script", v)]) ∧ ∀ base : Heap, K.In base → base.Ns mainGlobals mg → FnOk P w K mg base CX0 8 f fd ["_law_script"] (spA (spLaw K)) := by
  obtain ⟨fd, Fd⟩ := says_def c (d := dG ("law", 69)) (List.mem_append_right _ (List.mem_map.mpr ⟨("law", 69), by decide, rfl⟩))
  have e := hfa.symm.trans (says_glo c X G (q := ("law", 69)) (by decide))
  cases e
  have b := FunD.bindsA (ps := ["_law_script"]) Fd fun _ _ _ _ _ _ us hl => match us, hl with | [_], _ => rfl
  exact ⟨fd, fun s v => b s [v] rfl, fun base _ _ => ok_law (fun_ofD Fd) (lawH_of c X G)⟩
theorem start_ok {K : PySem.W.Frag} {H : Hp} {a : Addr} {ns : List Int} (hS : SqL K H a (ns.map V.int)) : spA (spLaw K) [.ref a] H (fun v _ => v = .bl true) fun _ _ _ => False := by
  refine ⟨H, fun _ => none, [.opq fun G0 v => ∃ a, v = .ref a ∧ SqL K G0 a (ns.map V.int)], fun d _ => d = .bl true, ⟨Ex.refl H, fun p d z => nomatch z⟩, reps_one (rep_opq.mpr ⟨H, Ex.refl H, a, rfl, hS⟩), ⟨_, ns, rfl, fun G0 v hv => hv, fun _ => rfl⟩, fun d M' v G' H' p s r => ?_⟩
  subst p
  exact rep_bl.mp r
end Hr
open PySem PySem.W PySem.Calls PyProof.Rows
theorem PySem.Challenge.cw_heirorders_k26_whole_people_by_other_nam_holds : PySem.Challenge.rw_heirorders_k26_whole_people_by_other_nam.Holds := by
  w_on; o_law
  refine HandSHeadRun.head_any (r := Hr.Rw) (q := view Hr.Rw.prog [69]) (H := Hr.hkN) (ob := Hr.obN) (M := 20000) (loose := Hr.names1 ++ Hr.names2) (d := HandSHeadRun.topDef Hr.Rw.prog 69) (kwd := []) Hr.obN_eq
    (by kernel_rfl) (fun s => by kernel_rfl) Hr.runN (by kernel_rfl) (by kernel_rfl) (by kernel_rfl) (by rfl) (by first | assumption | decide +kernel) (by decide +kernel) ⟨rfl, rfl, rfl, rfl, rfl, by decide +kernel⟩ ?hw ?hc
  case hw => w_witness2
  case hc =>
    refine L2.walk_ofE (l := PySem.Challenge.rw_heirorders_k26_whole_people_by_other_nam) (n := 63) (k := 8) (x := "_law_script") (CX := L2.CX0) rfl (by decide) (by kernel_rfl) ⟨rfl, by decide, by decide⟩ ?F (fun _ _ _ _ z => z)
    intro w mg fa h Y G hmg0
    obtain ⟨K, KX, c⟩ := Y
    have hmg : mg ("law" : PySem.Str) = some (.ref fa) := by
      have e : (HandSHeadRun.topDef Hr.Rw.prog 69).name = ("law" : PySem.Str) := by kernel_rfl
      rw [← e]
      exact hmg0
    obtain ⟨fd, hb, hF⟩ := Hr.factsN (P := (PySem.Challenge.rw_heirorders_k26_whole_people_by_other_nam).prog) (w := w) KX G hmg c
    exact ⟨K, fd, Hr.spA (Hr.spLaw K), KX, hb, fun H a ns hl _ hS => Hr.start_ok hS, hF⟩
