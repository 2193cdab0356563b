import PyProof.Rows.All
import Wide.All
import OpenK.AllK
import Wide.FinOn
import HandS.ForMost
import HandS.ForExc
import HandS.Wide
import HandS.Flow
import HandS.IsInst
import HandS.TupAny
import HandS.Deep
import KE.DataEq
import HandS.WordsDict
import HandS.StrMore
import HandS.SortInts
import HandS.TupLe
import HandS.Style
import HandS.More
import KE.KRevSl
import HandS.Small
import HandS.Replace
import HandS.Codes
import HandS.TupMul
import HandS.Conv
import HandS.Zip
import HandS.Iter
import PySem.Challenge.RW_cosetyard_k11_rooms_made
set_option Elab.async false
set_option linter.all false
set_option maxRecDepth 100000
set_option autoImplicit false
namespace Lv
open PySem PySem.Spec L2

/-! ### data: values as trees -/
inductive D where
  | non | bl (b : Bool) | int (i : Int) | str (x : Str) | ref (a : Addr) | ty (n : String)
  | lst (ds : List D) | tup (ds : List D) | dK (kvs : List (Key × D)) | dT (kvs : List (List Key × D)) | scr (ns : List Int)
  /-- dicts that a loop walks -/
  | fK (kvs : List (Key × D)) | fT (kvs : List (List Key × D))

/-! ### what stands for what, over a part F of the heap that no one changes -/
mutual
inductive DR (K : PySem.W.Frag) (F : Hp) : V → D → Prop
  | non : DR K F .non .non
  | bl (b : Bool) : DR K F (.bl b) (.bl b)
  | int (i : Int) : DR K F (.int i) (.int i)
  | str (x : Str) : DR K F (.str x) (.str x)
  | ref (a : Addr) : DR K F (.ref a) (.ref a)
  | ty (n : String) : DR K F (.ty n) (.ty n)
  | lst {a : Addr} {vs : List V} {ds : List D} : F a = some (.lst vs) → DRs K F vs ds → DR K F (.ref a) (.lst ds)
  | tup {a : Addr} {vs : List V} {ds : List D} : F a = some (.tup vs) → DRs K F vs ds → DR K F (.ref a) (.tup ds)
  | dK {a : Addr} {vs : List (Key × V)} {ds : List (Key × D)} : F a = some (.dK vs) → DKs K F vs ds → DR K F (.ref a) (.dK ds)
  | dT {a : Addr} {vs : List (List Key × V)} {ds : List (List Key × D)} : F a = some (.dT vs) → DTs K F vs ds → DR K F (.ref a) (.dT ds)
  | scr {a : Addr} {ns : List Int} : SqL K F a (ns.map V.int) → DR K F (.ref a) (.scr ns)
inductive DRs (K : PySem.W.Frag) (F : Hp) : List V → List D → Prop
  | nil : DRs K F [] []
  | cons {v : V} {vs : List V} {d : D} {ds : List D} : DR K F v d → DRs K F vs ds → DRs K F (v :: vs) (d :: ds)
inductive DKs (K : PySem.W.Frag) (F : Hp) : List (Key × V) → List (Key × D) → Prop
  | nil : DKs K F [] []
  | cons {k : Key} {v : V} {vs : List (Key × V)} {d : D} {ds : List (Key × D)} : DR K F v d → DKs K F vs ds → DKs K F ((k, v) :: vs) ((k, d) :: ds)
inductive DTs (K : PySem.W.Frag) (F : Hp) : List (List Key × V) → List (List Key × D) → Prop
  | nil : DTs K F [] []
  | cons {k : List Key} {v : V} {vs : List (List Key × V)} {d : D} {ds : List (List Key × D)} : DR K F v d → DTs K F vs ds → DTs K F ((k, v) :: vs) ((k, d) :: ds)
end
section
variable {K : PySem.W.Frag} {F F' : Hp}
mutual
theorem DR.mono (e : Same F F') : ∀ {v : V} {d : D}, DR K F v d → DR K F' v d
  | _, _, .non => .non
  | _, _, .bl b => .bl b
  | _, _, .int i => .int i
  | _, _, .str x => .str x
  | _, _, .ref a => .ref a
  | _, _, .ty n => .ty n
  | _, _, .lst h hs => .lst (e _ _ h) (DRs.mono e hs)
  | _, _, .tup h hs => .tup (e _ _ h) (DRs.mono e hs)
  | _, _, .dK h hs => .dK (e _ _ h) (DKs.mono e hs)
  | _, _, .dT h hs => .dT (e _ _ h) (DTs.mono e hs)
  | _, _, .scr h => .scr (e.seq h)
theorem DRs.mono (e : Same F F') : ∀ {vs : List V} {ds : List D}, DRs K F vs ds → DRs K F' vs ds
  | _, _, .nil => .nil
  | _, _, .cons h hs => .cons (DR.mono e h) (DRs.mono e hs)
theorem DKs.mono (e : Same F F') : ∀ {vs : List (Key × V)} {ds : List (Key × D)}, DKs K F vs ds → DKs K F' vs ds
  | _, _, .nil => .nil
  | _, _, .cons h hs => .cons (DR.mono e h) (DKs.mono e hs)
theorem DTs.mono (e : Same F F') : ∀ {vs : List (List Key × V)} {ds : List (List Key × D)}, DTs K F vs ds → DTs K F' vs ds
  | _, _, .nil => .nil
  | _, _, .cons h hs => .cons (DR.mono e h) (DTs.mono e hs)
end
theorem DRs.length : ∀ {vs : List V} {ds : List D}, DRs K F vs ds → vs.length = ds.length
  | _, _, .nil => rfl
  | _, _, .cons _ hs => by simp [DRs.length hs]
theorem DKs.length : ∀ {vs : List (Key × V)} {ds : List (Key × D)}, DKs K F vs ds → vs.length = ds.length
  | _, _, .nil => rfl
  | _, _, .cons _ hs => by simp [DKs.length hs]
theorem DTs.length : ∀ {vs : List (List Key × V)} {ds : List (List Key × D)}, DTs K F vs ds → vs.length = ds.length
  | _, _, .nil => rfl
  | _, _, .cons _ hs => by simp [DTs.length hs]
theorem DRs.get : ∀ {vs : List V} {ds : List D} {i : Nat} {d : D}, DRs K F vs ds → ds[i]? = some d → ∃ v, vs[i]? = some v ∧ DR K F v d
  | _, _, _, _, .nil, e => by simp at e
  | _, _, 0, _, .cons h _, e => by simp at e; subst e; exact ⟨_, rfl, h⟩
  | _, _, i + 1, d, .cons _ hs, e => by
    obtain ⟨u, h1, h2⟩ := DRs.get (i := i) (d := d) hs (by simpa using e)
    exact ⟨u, by simpa using h1, h2⟩
theorem DRs.getV : ∀ {vs : List V} {ds : List D} {i : Nat} {v : V}, DRs K F vs ds → vs[i]? = some v → ∃ d, ds[i]? = some d ∧ DR K F v d
  | _, _, _, _, .nil, e => by simp at e
  | _, _, 0, _, .cons h _, e => by simp at e; subst e; exact ⟨_, rfl, h⟩
  | _, _, i + 1, v, .cons _ hs, e => by
    obtain ⟨u, h1, h2⟩ := DRs.getV (i := i) (v := v) hs (by simpa using e)
    exact ⟨u, by simpa using h1, h2⟩
theorem DRs.append : ∀ {vs ws : List V} {ds es : List D}, DRs K F vs ds → DRs K F ws es → DRs K F (vs ++ ws) (ds ++ es)
  | _, _, _, _, .nil, s => s
  | _, _, _, _, .cons r t, s => .cons r (DRs.append t s)
theorem DRs.take : ∀ {vs : List V} {ds : List D} (n : Nat), DRs K F vs ds → DRs K F (vs.take n) (ds.take n)
  | _, _, 0, _ => .nil
  | _, _, _ + 1, .nil => .nil
  | _, _, n + 1, .cons r t => .cons r (DRs.take n t)
theorem DRs.drop : ∀ {vs : List V} {ds : List D} (n : Nat), DRs K F vs ds → DRs K F (vs.drop n) (ds.drop n)
  | _, _, 0, r => r
  | _, _, _ + 1, .nil => .nil
  | _, _, n + 1, .cons r t => DRs.drop n t
theorem DRs.reverse {vs : List V} {ds : List D} (h : DRs K F vs ds) : DRs K F vs.reverse ds.reverse := by
  induction ds generalizing vs with
  | nil => cases h; exact .nil
  | cons d ds ih =>
    cases h with
    | cons h hs => rw [List.reverse_cons, List.reverse_cons]; exact (ih hs).append (.cons h .nil)
theorem DRs.set {x : V} {y : D} (r : DR K F x y) : ∀ {vs : List V} {ds : List D} (i : Nat), DRs K F vs ds → DRs K F (vs.set i x) (ds.set i y)
  | _, _, _, .nil => .nil
  | _, _, 0, .cons _ t => .cons r t
  | _, _, i + 1, .cons q t => .cons q (DRs.set r i t)
theorem DRs.eraseIdx : ∀ {vs : List V} {ds : List D} (i : Nat), DRs K F vs ds → DRs K F (vs.eraseIdx i) (ds.eraseIdx i)
  | _, _, _, .nil => .nil
  | _, _, 0, .cons _ t => t
  | _, _, i + 1, .cons q t => .cons q (DRs.eraseIdx i t)
theorem DRs.dropLast {vs : List V} {ds : List D} (h : DRs K F vs ds) : DRs K F vs.dropLast ds.dropLast := by
  rw [List.dropLast_eq_take, List.dropLast_eq_take, h.length]
  exact h.take _
theorem DRs.rep {vs : List V} {ds : List D} (h : DRs K F vs ds) : ∀ k : Nat, DRs K F (List.replicate k vs).flatten (List.replicate k ds).flatten
  | 0 => .nil
  | k + 1 => by rw [List.replicate_succ, List.replicate_succ, List.flatten_cons, List.flatten_cons]; exact h.append (DRs.rep h k)
theorem DRs.ints : ∀ {vs : List V} {ns : List Int}, DRs K F vs (ns.map D.int) → vs = ns.map V.int
  | _, [], h => by cases h; rfl
  | _, n :: ns, h => by
    cases h with
    | cons h hs => cases h; rw [List.map_cons, DRs.ints hs]
theorem DRs.ofInts : ∀ (ns : List Int), DRs K F (ns.map V.int) (ns.map D.int)
  | [] => .nil
  | n :: ns => .cons (.int n) (DRs.ofInts ns)
end
/-- what an object of one's own holds -/
inductive OR (K : PySem.W.Frag) (F : Hp) : HO → D → Prop
  | lst {vs : List V} {ds : List D} : DRs K F vs ds → OR K F (.lst vs) (.lst ds)
  | dK {vs : List (Key × V)} {ds : List (Key × D)} : DKs K F vs ds → OR K F (.dK vs) (.dK ds)
  | dT {vs : List (List Key × V)} {ds : List (List Key × D)} : DTs K F vs ds → OR K F (.dT vs) (.dT ds)
theorem OR.mono {K : PySem.W.Frag} {F F' : Hp} {o : HO} {d : D} (h : OR K F o d) (e : Same F F') : OR K F' o d := by
  cases h with
  | lst h => exact .lst (h.mono e)
  | dK h => exact .dK (h.mono e)
  | dT h => exact .dT (h.mono e)
theorem OR.frozen {K : PySem.W.Frag} {F : Hp} {o : HO} {d : D} {a : Addr} (h : OR K F o d) (e : F a = some o) : DR K F (.ref a) d := by
  cases h with
  | lst h => exact .lst e h
  | dK h => exact .dK e h
  | dT h => exact .dT e h

/-- what is told of what stands: an object of one's own, a dict that is walked -/
inductive RR (K : PySem.W.Frag) (F : Hp) : HO → D → Prop
  | own {o : HO} {d : D} : OR K F o d → RR K F o d
  | fK {ob : Obj} {vs : List (Key × V)} {ds : List (Key × D)} : DKs K F vs ds → RR K F (.frz ob (.dK vs)) (.fK ds)
  | fT {ob : Obj} {vs : List (List Key × V)} {ds : List (List Key × D)} : DTs K F vs ds → RR K F (.frz ob (.dT vs)) (.fT ds)
theorem RR.mono {K : PySem.W.Frag} {F F' : Hp} {o : HO} {d : D} (h : RR K F o d) (e : Same F F') : RR K F' o d := by
  cases h with
  | own h => exact .own (h.mono e)
  | fK h => exact .fK (h.mono e)
  | fT h => exact .fT (h.mono e)
/-- what may be read now: frozen, or a container with frozen things in it -/
def DT (K : PySem.W.Frag) (F He H : Hp) (v : V) (d : D) : Prop := DR K F v d ∨ ∃ a o, v = .ref a ∧ H a = some o ∧ RR K F o d
/-- what may be read, and stays so -/
def DZ (K : PySem.W.Frag) (F He H : Hp) (v : V) (d : D) : Prop := DR K F v d ∨ ∃ a o, v = .ref a ∧ H a = some o ∧ He a = none ∧ OR K F o d
theorem DZ.dt {K : PySem.W.Frag} {F He H : Hp} {v : V} {d : D} (h : DZ K F He H v d) : DT K F He H v d := h.elim .inl fun ⟨a, o, e, ho, _, q⟩ => .inr ⟨a, o, e, ho, .own q⟩

/-! ### the world beside: things that are named by their places, and change -/
inductive Cell where
  | lst (ds : List D) | dK (kvs : List (Key × D)) | dT (kvs : List (List Key × D)) | ins (cn : Str) (fs : List (Str × D))
  | fK (ob : Obj) (vs : List (Key × V)) (kvs : List (Key × D)) | fT (ob : Obj) (vs : List (List Key × V)) (kvs : List (List Key × D))
abbrev Om := Addr → Option Cell
inductive DFs (K : PySem.W.Frag) (F : Hp) : List (Str × V) → List (Str × D) → Prop
  | nil : DFs K F [] []
  | cons {k : Str} {v : V} {vs : List (Str × V)} {d : D} {ds : List (Str × D)} : DR K F v d → DFs K F vs ds → DFs K F ((k, v) :: vs) ((k, d) :: ds)
theorem DFs.mono {K : PySem.W.Frag} {F F' : Hp} (e : Same F F') : ∀ {vs : List (Str × V)} {ds : List (Str × D)}, DFs K F vs ds → DFs K F' vs ds
  | _, _, .nil => .nil
  | _, _, .cons h hs => .cons (h.mono e) (DFs.mono e hs)
inductive CR (K : PySem.W.Frag) (F He : Hp) (a : Addr) : HO → Cell → Prop
  | lst {vs : List V} {ds : List D} : DRs K F vs ds → CR K F He a (.lst vs) (.lst ds)
  | dK {vs : List (Key × V)} {ds : List (Key × D)} : DKs K F vs ds → CR K F He a (.dK vs) (.dK ds)
  | dT {vs : List (List Key × V)} {ds : List (List Key × D)} : DTs K F vs ds → CR K F He a (.dT vs) (.dT ds)
  | fK {ob : Obj} {vs : List (Key × V)} {ds : List (Key × D)} : DKs K F vs ds → CR K F He a (.frz ob (.dK vs)) (.fK ob vs ds)
  | fT {ob : Obj} {vs : List (List Key × V)} {ds : List (List Key × D)} : DTs K F vs ds → CR K F He a (.frz ob (.dT vs)) (.fT ob vs ds)
  | ins {C dx : Addr} {cn : Str} {vs : List (Str × V)} {fs : List (Str × D)} : PySem.W.nsIn K mainGlobals cn = some (some (.ref C)) → He dx = some (.own a) → DFs K F vs fs → CR K F He a (.ins C dx vs) (.ins cn fs)
theorem CR.mono {K : PySem.W.Frag} {F F' He : Hp} {a : Addr} {o : HO} {c : Cell} (h : CR K F He a o c) (e : Same F F') : CR K F' He a o c := by
  cases h with
  | lst h => exact .lst (h.mono e)
  | dK h => exact .dK (h.mono e)
  | dT h => exact .dT (h.mono e)
  | fK h => exact .fK (h.mono e)
  | fT h => exact .fT (h.mono e)
  | ins n h g => exact .ins n h (g.mono e)
/-- the part He of the heap holds just what w tells -/
structure rep (K : PySem.W.Frag) (w : Om) (F He : Hp) : Prop where
  some_ : ∀ a c, w a = some c → ∃ o, He a = some o ∧ CR K F He a o c
  none_ : ∀ a, w a = none → He a = none ∨ ∃ p, He a = some (.own p)
theorem grow {K : PySem.W.Frag} {w : Om} {F F' He : Hp} (h : rep K w F He) (s : Same F F') : rep K w F' He :=
  ⟨fun a c e => let ⟨o, h1, h2⟩ := h.some_ a c e; ⟨o, h1, h2.mono s⟩, h.none_⟩
/-- what is read at a name -/
def Cell.toD : Cell → Option D
  | .lst ds => some (.lst ds) | .dK kvs => some (.dK kvs) | .dT kvs => some (.dT kvs) | .fK _ _ kvs => some (.fK kvs) | .fT _ _ kvs => some (.fT kvs) | .ins _ _ => none
def resC (d : D) : Option Cell → D
  | some (.lst ds) => .lst ds | some (.dK kvs) => .dK kvs | some (.dT kvs) => .dT kvs | some (.fK _ _ kvs) => .fK kvs | some (.fT _ _ kvs) => .fT kvs | _ => d
def res (w : Om) : D → D
  | .ref a => resC (.ref a) (w a)
  | d => d
theorem res_ok {K : PySem.W.Frag} {w : Om} {F He H : Hp} {v : V} {d : D} (h : rep K w F He) (sh : Same He H) (r : DZ K F He H v d) : DT K F He H v (res w d) := by
  have key : ∀ {u : D}, res w u = u → DZ K F He H v u → DT K F He H v (res w u) := fun e r => by rw [e]; exact r.dt
  cases d with
  | ref a =>
    have hv : v = .ref a := by
      rcases r with r | ⟨_, _, _, _, _, q⟩
      · cases r; rfl
      · cases q
    subst hv
    cases e : w a with
    | none => exact key (by show resC (.ref a) (w a) = _; rw [e]; rfl) r
    | some c =>
      obtain ⟨o, h1, h2⟩ := h.some_ a c e
      have h3 := sh _ _ h1
      show DT K F He H (.ref a) (resC (.ref a) (w a))
      rw [e]
      cases h2 with
      | lst q => exact .inr ⟨a, _, rfl, h3, .own (.lst q)⟩
      | dK q => exact .inr ⟨a, _, rfl, h3, .own (.dK q)⟩
      | dT q => exact .inr ⟨a, _, rfl, h3, .own (.dT q)⟩
      | fK q => exact .inr ⟨a, _, rfl, h3, .fK q⟩
      | fT q => exact .inr ⟨a, _, rfl, h3, .fT q⟩
      | ins _ _ _ => exact r.dt
  | _ => exact key rfl r

/-- the heap in its parts: F frozen, He of the world beside -/
structure Wd  (K : PySem.W.Frag) (w : Om) (F He H : Hp) : Prop where
  sf : Same F H
  sh : Same He H
  dj : ∀ b o, He b = some o → F b = none
  ex : rep K w F He
/-- from one state to a later one -/
structure Step (F He H F' He' H' : Hp) : Prop where
  fz : Same F F'
  fzN : ∀ b, F' b ≠ none → F b ≠ none ∨ H b = none ∨ ∃ xs, H b = some (.tup xs)
  heN : ∀ b, He' b ≠ none → He b ≠ none ∨ H b = none
  keep : ∀ b o, H b = some o → He b = none → H' b = some o
  dom : ∀ b, H b ≠ none → H' b ≠ none
  tp : ∀ b xs, H' b = some (.tup xs) → H b = none ∨ H b = some (.tup xs)
theorem Step.refl {F He H : Hp} : Step F He H F He H := ⟨Same.refl _, fun _ h => .inl h, fun _ h => .inl h, fun _ _ h _ => h, fun _ h => h, fun _ _ h => .inr h⟩
theorem Step.trans {F He H F1 He1 H1 F2 He2 H2 : Hp} (a : Step F He H F1 He1 H1) (b : Step F1 He1 H1 F2 He2 H2) : Step F He H F2 He2 H2 where
  fz := a.fz.trans b.fz
  fzN := fun c h => by
    rcases b.fzN c h with h | h | ⟨xs, h⟩
    · exact a.fzN c h
    · exact .inr (.inl (Classical.byContradiction fun q => a.dom c q h))
    · rcases a.tp c xs h with h | h
      · exact .inr (.inl h)
      · exact .inr (.inr ⟨xs, h⟩)
  heN := fun c h => (b.heN c h).elim (fun h => a.heN c h) fun h => .inr (Classical.byContradiction fun q => a.dom c q h)
  keep := fun c o h n => b.keep c o (a.keep c o h n) (by
    cases e : He1 c with
    | none => rfl
    | some u =>
      rcases a.heN c (by rw [e]; exact fun z => nomatch z) with q | q
      · exact absurd n q
      · rw [q] at h; cases h)
  dom := fun c h => b.dom c (a.dom c h)
  tp := fun c xs h => (b.tp c xs h).elim (fun h => .inl (Classical.byContradiction fun q => a.dom c q h)) fun h => a.tp c xs h
section
variable  {K : PySem.W.Frag} {w : Om} {F He H F' He' H' : Hp} {p : Addr} {o : HO}
theorem Wd.fnone (x : Wd K w F He H) (h : H p = none) : F p = none := x.sf.free h
theorem Wd.henone (x : Wd K w F He H) (h : H p = none) : He p = none := x.sh.free h
/-- a new object -/
theorem Wd.alloc (x : Wd K w F He H) (h : H p = none) : Wd K w F He (upd H p o) where
  sf := fun b u e => by rw [upd_ne (ne_of_none (x.sf b u e) h)]; exact x.sf b u e
  sh := fun b u e => by rw [upd_ne (ne_of_none (x.sh b u e) h)]; exact x.sh b u e
  dj := x.dj
  ex := x.ex
theorem Step.alloc (h : H p = none) : Step F He H F He (upd H p o) where
  fz := Same.refl _
  fzN := fun _ h => .inl h
  heN := fun _ h => .inl h
  keep := fun b u e _ => by rw [upd_ne (ne_of_none e h)]; exact e
  dom := fun b e => by
    by_cases hb : b = p
    · subst hb; exact absurd h e
    · rw [upd_ne hb]; exact e
  tp := fun b xs e => by
    by_cases hb : b = p
    · subst hb; exact .inl h
    · rw [upd_ne hb] at e; exact .inr e
/-- an own object is frozen -/
theorem Wd.freeze (x : Wd K w F He H) (h : H p = some o) (n : F p = none) (m : He p = none) : Wd K w (upd F p o) He H where
  sf := fun b u e => by
    by_cases hb : b = p
    · subst hb; rw [upd_same] at e; rw [h]; exact e
    · rw [upd_ne hb] at e; exact x.sf b u e
  sh := x.sh
  dj := fun b u e => by rw [upd_ne (ne_of_none e m)]; exact x.dj b u e
  ex := grow x.ex fun b u e => by rw [upd_ne (ne_of_none e n)]; exact e
theorem same_upd (n : F p = none) : Same F (upd F p o) := fun b u e => by rw [upd_ne (ne_of_none e n)]; exact e
theorem Step.freeze (s : Step F He H F' He' H') (n : F' p = none) (h : H p = none) : Step F He H (upd F' p o) He' H' where
  fz := s.fz.trans (same_upd n)
  fzN := fun b e => by
    by_cases hb : b = p
    · subst hb; exact .inr (.inl h)
    · rw [upd_ne hb] at e; exact s.fzN b e
  heN := s.heN
  keep := s.keep
  dom := s.dom
  tp := s.tp
end

/-! ### the entry of a def: where its frame's story begins -/
structure Ent where
  K : PySem.W.Frag
  F0 : Hp
  He0 : Hp
  H0 : Hp
  w0 : Om
  rep0 : rep K w0 F0 He0
/-- a slot: nothing known, or own (true: a container that nothing else refers to), and the data -/
abbrev Sl := Option (Bool × D)
abbrev DSt := List Sl
def SlO (z : Ent) (F He H : Hp) : Sl → Option V → Prop
  | none, _ => True
  | some (false, d), v => ∃ x, v = some x ∧ DR z.K F x d
  | some (true, d), v => ∃ a o, v = some (.ref a) ∧ H a = some o ∧ F a = none ∧ He a = none ∧ z.H0 a = none ∧ OR z.K F o d
structure Rel (z : Ent) (δ : DSt) (w : Om) (F He : Hp) (σ : St) (H : Hp) : Prop where
  wd : Wd z.K w F He H
  st : Step z.F0 z.He0 z.H0 F He H
  len : σ.length = δ.length
  sl : ∀ (i : Nat) (s : Sl), δ[i]? = some s → ∃ v, σ[i]? = some v ∧ SlO z F He H s v
  inj : ∀ (i j : Nat) (d e : D) (a : Addr), δ[i]? = some (some (true, d)) → δ[j]? = some (some (true, e)) → σ[i]? = some (some (.ref a)) → σ[j]? = some (some (.ref a)) → i = j
section
variable {z : Ent} {δ : DSt} {w w' : Om} {F He H F' He' H' : Hp} {σ : St}
theorem SlO.step {s : Sl} {v : Option V} (x : SlO z F He H s v) (k : Step F He H F' He' H') : SlO z F' He' H' s v := by
  match s, x with
  | none, _ => exact True.intro
  | some (false, d), ⟨u, e, r⟩ => exact ⟨u, e, r.mono k.fz⟩
  | some (true, d), ⟨a, o, e, ho, n, m, f, r⟩ =>
    refine ⟨a, o, e, k.keep a o ho m, ?_, ?_, f, r.mono k.fz⟩
    · refine Classical.byContradiction fun q => ?_
      rcases k.fzN a q with q | q | ⟨xs, q⟩
      · exact q n
      · rw [ho] at q; cases q
      · rw [ho] at q; cases q; cases r
    · refine Classical.byContradiction fun q => (k.heN a q).elim (fun q => q m) fun q => ?_
      rw [ho] at q; cases q
theorem Rel.step (x : Rel z δ w F He σ H) (y : Wd z.K w' F' He' H') (k : Step F He H F' He' H') : Rel z δ w' F' He' σ H' where
  wd := y
  st := x.st.trans k
  len := x.len
  sl := fun i s e => let ⟨v, hv, r⟩ := x.sl i s e; ⟨v, hv, r.step k⟩
  inj := x.inj
end
/-- a result: own and new, or frozen -/
def Res (K : PySem.W.Frag) (F' He' Hb H' : Hp) : Bool → V → D → Prop
  | false, v, d => DR K F' v d
  | true, v, d => ∃ a o, v = .ref a ∧ H' a = some o ∧ F' a = none ∧ He' a = none ∧ Hb a = none ∧ OR K F' o d
section
variable  {K : PySem.W.Frag} {w w' : Om} {F He H F' He' H' F2 He2 H2 Hb : Hp} {v : V} {d : D}
theorem Res.thaw {b : Bool} (k : Step F He H F' He' H') (x : Wd K w' F' He' H') (r : Res K F' He' H H' b v d) :
    ∃ F2, Step F He H F2 He' H' ∧ Wd K w' F2 He' H' ∧ DR K F2 v d ∧ Same F' F2 := by
  cases b with
  | false => exact ⟨F', k, x, r, Same.refl _⟩
  | true =>
    obtain ⟨a, o, rfl, ho, n, m, f, q⟩ := r
    exact ⟨upd F' a o, k.freeze n f, x.freeze ho n m, (q.mono (same_upd n)).frozen upd_same, same_upd n⟩
theorem Res.dz {b : Bool} (r : Res K F' He' Hb H' b v d) : DZ K F' He' H' v d := by
  cases b with
  | false => exact .inl r
  | true =>
    obtain ⟨a, o, rfl, ho, n, m, f, q⟩ := r
    exact .inr ⟨a, o, rfl, ho, m, q⟩
theorem Res.dt {b : Bool} (r : Res K F' He' Hb H' b v d) : DT K F' He' H' v d := r.dz.dt
theorem Res.base {b : Bool} (k : Step F He H F' He' H') (r : Res K F2 He2 H' H2 b v d) : Res K F2 He2 H H2 b v d := by
  cases b with
  | false => exact r
  | true =>
    obtain ⟨a, o, e, ho, n, m, f, q⟩ := r
    exact ⟨a, o, e, ho, n, m, Classical.byContradiction fun q => k.dom a q f, q⟩
theorem DZ.step (r : DZ K F He H v d) (k : Step F He H F' He' H') : DZ K F' He' H' v d := by
  rcases r with r | ⟨a, o, e, ho, m, q⟩
  · exact .inl (r.mono k.fz)
  · refine .inr ⟨a, o, e, k.keep a o ho m, ?_, q.mono k.fz⟩
    refine Classical.byContradiction fun q => (k.heN a q).elim (fun q => q m) fun q => ?_
    rw [ho] at q; cases q
theorem DT.plain (h : ∀ o, ¬ RR K F o d) (r : DT K F He H v d) : DR K F v d := r.elim id fun ⟨_, _, _, _, q⟩ => absurd q (h _)
theorem DT.int {i : Int} (r : DT K F He H v (.int i)) : v = .int i := by
  cases r.plain fun o q => by cases q with | own q => cases q
  rfl
theorem DT.bl {i : Bool} (r : DT K F He H v (.bl i)) : v = .bl i := by
  cases r.plain fun o q => by cases q with | own q => cases q
  rfl
theorem DT.str {i : Str} (r : DT K F He H v (.str i)) : v = .str i := by
  cases r.plain fun o q => by cases q with | own q => cases q
  rfl
theorem DT.non (r : DT K F He H v .non) : v = .non := by
  cases r.plain fun o q => by cases q with | own q => cases q
  rfl
theorem DT.refV {a : Addr} (r : DT K F He H v (.ref a)) : v = .ref a := by
  cases r.plain fun o q => by cases q with | own q => cases q
  rfl
theorem DT.dr_tup {ds : List D} (r : DT K F He H v (.tup ds)) : DR K F v (.tup ds) := r.plain fun o q => by cases q with | own q => cases q
theorem DT.lst {ds : List D} (r : DT K F He H v (.lst ds)) (s : Same F H) : ∃ a vs, v = .ref a ∧ H a = some (.lst vs) ∧ DRs K F vs ds := by
  rcases r with r | ⟨a, o, e, ho, q⟩
  · cases r with | lst h hs => exact ⟨_, _, rfl, s _ _ h, hs⟩
  · cases q with | own q => cases q with | lst hs => exact ⟨a, _, e, ho, hs⟩
theorem DT.tup {ds : List D} (r : DT K F He H v (.tup ds)) (s : Same F H) : ∃ a vs, v = .ref a ∧ H a = some (.tup vs) ∧ DRs K F vs ds := by
  cases r.dr_tup with | tup h hs => exact ⟨_, _, rfl, s _ _ h, hs⟩
theorem DT.dK {ds : List (Key × D)} (r : DT K F He H v (.dK ds)) (s : Same F H) : ∃ a vs, v = .ref a ∧ H a = some (.dK vs) ∧ DKs K F vs ds := by
  rcases r with r | ⟨a, o, e, ho, q⟩
  · cases r with | dK h hs => exact ⟨_, _, rfl, s _ _ h, hs⟩
  · cases q with | own q => cases q with | dK hs => exact ⟨a, _, e, ho, hs⟩
theorem DT.dT {ds : List (List Key × D)} (r : DT K F He H v (.dT ds)) (s : Same F H) : ∃ a vs, v = .ref a ∧ H a = some (.dT vs) ∧ DTs K F vs ds := by
  rcases r with r | ⟨a, o, e, ho, q⟩
  · cases r with | dT h hs => exact ⟨_, _, rfl, s _ _ h, hs⟩
  · cases q with | own q => cases q with | dT hs => exact ⟨a, _, e, ho, hs⟩
theorem DT.fK {ds : List (Key × D)} (r : DT K F He H v (.fK ds)) : ∃ a ob vs, v = .ref a ∧ H a = some (.frz ob (.dK vs)) ∧ DKs K F vs ds := by
  rcases r with r | ⟨a, o, e, ho, q⟩
  · cases r
  · cases q with
    | own q => cases q
    | fK hs => exact ⟨a, _, _, e, ho, hs⟩
theorem DT.fT {ds : List (List Key × D)} (r : DT K F He H v (.fT ds)) : ∃ a ob vs, v = .ref a ∧ H a = some (.frz ob (.dT vs)) ∧ DTs K F vs ds := by
  rcases r with r | ⟨a, o, e, ho, q⟩
  · cases r
  · cases q with
    | own q => cases q
    | fT hs => exact ⟨a, _, _, e, ho, hs⟩
theorem DT.scr {ns : List Int} (r : DT K F He H v (.scr ns)) (s : Same F H) : ∃ a, v = .ref a ∧ SqL K H a (ns.map V.int) := by
  cases r.plain fun o q => by cases q with | own q => cases q
  exact ⟨_, rfl, s.seq (by assumption)⟩
theorem DT.of (r : DR K F v d) : DT K F He H v d := .inl r
end
end Lv

namespace Lv
open PySem PySem.Spec L2

/-! ### readings over data -/
abbrev DX  := DSt → Om → (Bool → D → Om → Prop) → Prop
abbrev DO  := DSt → Om → (D → Om → Prop) → Prop
abbrev DTs_  := DSt → Om → (Bool → Om → Prop) → Prop
abbrev DA  := DSt → Om → (List D → Om → Prop) → Prop
def liftX (z : Ent) (t : DX) : TE := fun σ H Q => ∃ δ w F He P, Rel z δ w F He σ H ∧ t δ w P ∧ ∀ b d w', P b d w' → ∀ v H' F' He', Wd z.K w' F' He' H' → Step F He H F' He' H' → Res z.K F' He' H H' b v d → Q v H'
def liftO (z : Ent) (t : DO) : TE := fun σ H Q => ∃ δ w F He P, Rel z δ w F He σ H ∧ t δ w P ∧ ∀ d w', P d w' → ∀ v H' F' He', Wd z.K w' F' He' H' → Step F He H F' He' H' → DZ z.K F' He' H' v d → Q v H'
def liftT (z : Ent) (t : DTs_) : TT := fun σ H Q => ∃ δ w F He P, Rel z δ w F He σ H ∧ t δ w P ∧ ∀ k w', P k w' → ∀ H' F' He', Wd z.K w' F' He' H' → Step F He H F' He' H' → Q k H'
def liftA (z : Ent) (t : DA) : TA := fun σ H Q => ∃ δ w F He P, Rel z δ w F He σ H ∧ t δ w P ∧ ∀ ds w', P ds w' → ∀ vs H' F' He', Wd z.K w' F' He' H' → Step F He H F' He' H' → DRs z.K F' vs ds → Q vs H'
/-- what is wanted behind a statement -/
structure DEnds  where
  nx : DSt → Om → Prop
  rt : Bool → D → Om → Prop
  bk : DSt → Om → Prop := fun _ _ => False
  ct : DSt → Om → Prop := fun _ _ => False
abbrev DS  := DEnds → DSt → Om → Prop
structure Conn (z : Ent) (F₀ : Hp) (E : DEnds) (D : Ends) : Prop where
  nx : ∀ δ w F He σ H, E.nx δ w → Rel z δ w F He σ H → Same F₀ F → D.nx σ H
  rt : ∀ b d w, E.rt b d w → ∀ v H F He, Wd z.K w F He H → Step z.F0 z.He0 z.H0 F He H → Res z.K F He z.H0 H b v d → D.rt v H
  bk : ∀ δ w F He σ H, E.bk δ w → Rel z δ w F He σ H → Same F₀ F → D.bk σ H
  ct : ∀ δ w F He σ H, E.ct δ w → Rel z δ w F He σ H → Same F₀ F → D.ct σ H
theorem Conn.mono {z : Ent} {F F' : Hp} {E : DEnds} {D : Ends} (c : Conn z F E D) (s : Same F F') : Conn z F' E D :=
  ⟨fun δ w G He σ H q R s' => c.nx δ w G He σ H q R (s.trans s'), c.rt, fun δ w G He σ H q R s' => c.bk δ w G He σ H q R (s.trans s'), fun δ w G He σ H q R s' => c.ct δ w G He σ H q R (s.trans s')⟩
def liftS (z : Ent) (t : DS) : TS := fun D σ H => ∃ δ w F He E, Rel z δ w F He σ H ∧ t E δ w ∧ Conn z F E D

theorem PE.imp {X : Cx} {e : Expr} {t t' : TE} (h : PE X e t) (f : ∀ σ H Q, t' σ H Q → t σ H Q) : PE X e t' := ⟨fun pins s σ H Q I q => h.run pins s σ H Q I (f σ H Q q)⟩
theorem PT.imp {X : Cx} {e : Expr} {t t' : TT} (h : PT X e t) (f : ∀ σ H Q, t' σ H Q → t σ H Q) : PT X e t' := ⟨fun pins s σ H Q I q => h.run pins s σ H Q I (f σ H Q q)⟩
theorem PW.imp {X : Cx} {e : Expr} {t t' : TT} (h : PW X e t) (f : ∀ σ H Q, t' σ H Q → t σ H Q) : PW X e t' := ⟨fun w pins s σ H Q I q => h.run w pins s σ H Q I (f σ H Q q)⟩
theorem PA.imp {X : Cx} {es : List Expr} {t t' : TA} (h : PA X es t) (f : ∀ σ H Q, t' σ H Q → t σ H Q) : PA X es t' := ⟨fun p pins s σ H Q I q => h.run p pins s σ H Q I (f σ H Q q)⟩
theorem PS.imp {X : Cx} {st : Stmt} {t t' : TS} (h : PS X st t) (f : ∀ D σ H, t' D σ H → t D σ H) : PS X st t' := ⟨fun pins s σ H D I q => h.run pins s σ H D I (f D σ H q)⟩
theorem PSs.imp {X : Cx} {st : List Stmt} {t t' : TS} (h : PSs X st t) (f : ∀ D σ H, t' D σ H → t D σ H) : PSs X st t' := ⟨fun pins s σ H D I q => h.run pins s σ H D I (f D σ H q)⟩

section
variable {X : Cx} {z : Ent} {pos : Pos}
abbrev JX (X : Cx) (z : Ent) (e : Expr) (t : DX) : Prop := PE X e (liftX z t)
abbrev JO (X : Cx) (z : Ent) (e : Expr) (t : DO) : Prop := PE X e (liftO z t)
abbrev JT (X : Cx) (z : Ent) (e : Expr) (t : DTs_) : Prop := PT X e (liftT z t)
abbrev JA (X : Cx) (z : Ent) (es : List Expr) (t : DA) : Prop := PA X es (liftA z t)
abbrev JS (X : Cx) (z : Ent) (st : Stmt) (t : DS) : Prop := PS X st (liftS z t)
abbrev JSs (X : Cx) (z : Ent) (st : List Stmt) (t : DS) : Prop := PSs X st (liftS z t)

/-! ### names and constants -/
def dVar  (i : Nat) : DX := fun δ w Q => match δ[i]? with
  | some (some (false, d)) => Q false d w
  | _ => False
def dVarR  (i : Nat) : DO := fun δ w Q => match δ[i]? with
  | some (some (_, d)) => Q d w
  | _ => False
def dC  (d : D) : DX := fun _ w Q => Q false d w
def oX  (t : DX) : DO := fun δ w Q => t δ w fun _ d w' => Q d w'
theorem jx_var {i : Nat} {e : Expr} (h : PE X e (tVar i)) : JX X z e (dVar i) := PE.imp h fun σ H Q ⟨δ, w, F, He, P, R, q, k⟩ => by
  unfold dVar at q
  split at q
  · next d e =>
    obtain ⟨v, hv, x, rfl, r⟩ := R.sl i _ e
    exact ⟨x, hv, k _ _ _ q x H F He R.wd .refl r⟩
  · exact q.elim
theorem jo_var {i : Nat} {e : Expr} (h : PE X e (tVar i)) : JO X z e (dVarR i) := PE.imp h fun σ H Q ⟨δ, w, F, He, P, R, q, k⟩ => by
  unfold dVarR at q
  split at q
  · next b d e =>
    obtain ⟨v, hv, r⟩ := R.sl i _ e
    cases b with
    | false =>
      obtain ⟨x, rfl, r⟩ := r
      exact ⟨x, hv, k _ _ q x H F He R.wd .refl (.inl r)⟩
    | true =>
      obtain ⟨a, o, rfl, ho, n, m, f, r⟩ := r
      exact ⟨.ref a, hv, k _ _ q _ H F He R.wd .refl (.inr ⟨a, o, rfl, ho, m, r⟩)⟩
  · exact q.elim
theorem jo_of {e : Expr} {t : DX} (h : JX X z e t) : JO X z e (oX t) := PE.imp h fun σ H Q ⟨δ, w, F, He, P, R, q, k⟩ =>
  ⟨δ, w, F, He, _, R, q, fun b d w' p v H' F' He' wd st r => k d w' p v H' F' He' wd st r.dz⟩
theorem jx_c {e : Expr} {v : V} {d : D} (h : PE X e (tC v)) (r : ∀ F, DR z.K F v d) : JX X z e (dC d) := PE.imp h fun σ H Q ⟨δ, w, F, He, P, R, q, k⟩ => k _ _ _ q v H F He R.wd .refl (r F)
theorem jx_int {i : Int} {j : Nat} : JX X z (.Constant (.int i) j pos) (dC (.int i)) := jx_c pe_int fun _ => .int i
theorem jx_bl {b : Bool} {j : Nat} : JX X z (.Constant (.bool b) j pos) (dC (.bl b)) := jx_c pe_bl fun _ => .bl b
theorem jx_non {j : Nat} : JX X z (.Constant .none j pos) (dC .non) := jx_c pe_non fun _ => .non
theorem jx_str {x : Str} {j : Nat} : JX X z (.Constant (.str x) j pos) (dC (.str x)) := jx_c pe_str fun _ => .str x

/-! ### operations of two operands -/
/-- sem: what comes, by the data; the ties of a value's rule -/
def Sem2 (z : Ent) (r : R2) (sem : D → D → (Bool → D → Prop) → Prop) : Prop := ∀ (w : Om) (F He H : Hp) (x y : V) (d e : D) (P : Bool → D → Prop) (Q : VK), Wd z.K w F He H → DT z.K F He H x d → DT z.K F He H y e → sem d e P →
  (∀ b d', P b d' → ∀ v H' F' He', Wd z.K w F' He' H' → Step F He H F' He' H' → Res z.K F' He' H H' b v d' → Q v H') → r x y H Q
def dBin  (sem : D → D → (Bool → D → Prop) → Prop) (ta tb : DO) : DX := fun δ w Q => ta δ w fun d w1 => tb δ w1 fun e w2 => sem (res w2 d) (res w2 e) fun b d' => Q b d' w2
theorem bin2 {r : R2} {sem : D → D → (Bool → D → Prop) → Prop} (hs : Sem2 z r sem) {ta tb : DO} {σ : St} {H : Hp} {Q : VK} (h : liftX z (dBin sem ta tb) σ H Q) : tOp r (liftO z ta) (liftO z tb) σ H Q := by
  obtain ⟨δ, w, F, He, P, R, q, k⟩ := h
  refine ⟨δ, w, F, He, _, R, q, fun d w1 q1 x H1 F1 He1 wd1 st1 r1 => ?_⟩
  refine ⟨δ, w1, F1, He1, _, R.step wd1 st1, q1, fun e w2 q2 y H2 F2 He2 wd2 st2 r2 => ?_⟩
  exact hs w2 F2 He2 H2 x y _ _ _ Q wd2 (res_ok wd2.ex wd2.sh (r1.step st2)) (res_ok wd2.ex wd2.sh r2) q2 fun b d' p v H' F' He' wd st rr => k b d' w2 p v H' F' He' wd ((st1.trans st2).trans st) (rr.base (st1.trans st2))
theorem jx_op {op : Operator} {r : R2} {sem : D → D → (Bool → D → Prop) → Prop} {a b : Expr} {ta tb : DO} (ho : OpR X (binaryOp op) r) (hs : Sem2 z r sem) (ha : JO X z a ta) (hb : JO X z b tb) : JX X z (.BinOp a op b pos) (dBin sem ta tb) :=
  PE.imp (pe_op ho ha hb) fun _ _ _ h => bin2 hs h
theorem jx_cmp {op : CmpOp} {r : R2} {sem : D → D → (Bool → D → Prop) → Prop} {a b : Expr} {ta tb : DO} (ho : OpR X (compareOp op) r) (hs : Sem2 z r sem) (ha : JO X z a ta) (hb : JO X z b tb) (hm : behindInMarks op b = false) : JX X z (.Compare a [op] [b] pos) (dBin sem ta tb) :=
  PE.imp (pe_cmpR ho ha hb hm) fun _ _ _ h => bin2 hs h
/-- the truth of a comparison -/
def dB  (t : DX) : DTs_ := fun δ w Q => t δ w fun _ d w' => match d with
  | .bl k => Q k w'
  | _ => False
theorem jt_cmp {op : CmpOp} {r : R2} {sem : D → D → (Bool → D → Prop) → Prop} {a b : Expr} {ta tb : DO} (ho : OpR X (compareOp op) r) (hs : Sem2 z r sem) (ha : JO X z a ta) (hb : JO X z b tb) (hm : behindInMarks op b = false) : JT X z (.Compare a [op] [b] pos) (dB (dBin sem ta tb)) :=
  PT.imp (pt_cmpR ho ha hb hm) fun σ H Q ⟨δ, w, F, He, P, R, q, k⟩ => by
    refine bin2 hs ⟨δ, w, F, He, _, R, q, fun b d w' p v H' F' He' wd st r => ?_⟩
    cases d with
    | bl c =>
      have e := r.dt.bl
      subst e
      exact ⟨c, rfl, k c w' p H' F' He' wd st⟩
    | _ => exact p.elim
/-- a new object as a result -/
theorem res_new {w : Om} {F He H : Hp} {p : Addr} {o : HO} {d : D} {P : Bool → D → Prop} {Q : VK} (wd : Wd z.K w F He H) (hp : H p = none) (r : OR z.K F o d) (q : P true d)
    (k : ∀ b d', P b d' → ∀ v H' F' He', Wd z.K w F' He' H' → Step F He H F' He' H' → Res z.K F' He' H H' b v d' → Q v H') : Q (.ref p) (upd H p o) :=
  k true d q _ _ F He (wd.alloc hp) (.alloc hp) ⟨p, o, rfl, upd_same, wd.fnone hp, wd.henone hp, hp, r⟩
/-- a new tuple -/
theorem res_tup {w : Om} {F He H : Hp} {p : Addr} {vs : List V} {ds : List D} {P : Bool → D → Prop} {Q : VK} (wd : Wd z.K w F He H) (hp : H p = none) (r : DRs z.K F vs ds) (q : P false (.tup ds))
    (k : ∀ b d', P b d' → ∀ v H' F' He', Wd z.K w F' He' H' → Step F He H F' He' H' → Res z.K F' He' H H' b v d' → Q v H') : Q (.ref p) (upd H p (.tup vs)) :=
  k false _ q _ _ (upd F p (.tup vs)) He ((wd.alloc hp).freeze upd_same (wd.fnone hp) (wd.henone hp)) ((Step.alloc hp).freeze (wd.fnone hp) hp)
    (.tup upd_same (r.mono (same_upd (wd.fnone hp))))
theorem res_at {w : Om} {F He H : Hp} {v : V} {d : D} {P : Bool → D → Prop} {Q : VK} (wd : Wd z.K w F He H) (r : DR z.K F v d) (q : P false d)
    (k : ∀ b d', P b d' → ∀ v H' F' He', Wd z.K w F' He' H' → Step F He H F' He' H' → Res z.K F' He' H H' b v d' → Q v H') : Q v H :=
  k false d q _ _ F He wd .refl r

def sAdd (d e : D) (P : Bool → D → Prop) : Prop := match d, e with
  | .int i, .int j => P false (.int (i + j))
  | .str x, .str y => x.length + y.length ≤ sizeLine ∧ P false (.str (x ++ y))
  | .lst xs, .lst ys => xs.length + ys.length ≤ sizeLine ∧ P true (.lst (xs ++ ys))
  | .tup xs, .tup ys => xs.length + ys.length ≤ sizeLine ∧ P false (.tup (xs ++ ys))
  | _, _ => False
def rAddD (K : PySem.W.Frag) : R2 := fun x y H Q => (∃ i j, x = .int i ∧ y = .int j ∧ Q (.int (i + j)) H) ∨ (∃ i j, x = .str i ∧ y = .str j ∧ i.length + j.length ≤ sizeLine ∧ Q (.str (i ++ j)) H) ∨ rCat x y H Q ∨ rCatA K x y H Q
theorem op_addD : OpR X (binaryOp .Add) (rAddD X.K) := op_add.or (op_add_str.or (op_cat.or op_catA))
end
end Lv

namespace Lv
open PySem PySem.Spec L2

/-! ### dicts over data -/
section
variable {κ : Type} [DecidableEq κ]
def valD (kvs : List (κ × D)) (k : κ) : Option D := (kvs.find? fun kv => decide (kv.1 = k)).map (·.2)
def putD (kvs : List (κ × D)) (k : κ) (v : D) : List (κ × D) :=
  if kvs.any fun kv => decide (kv.1 = k) then kvs.map fun kv => if kv.1 = k then (kv.1, v) else kv else kvs ++ [(k, v)]
def dropD (kvs : List (κ × D)) (k : κ) : List (κ × D) := kvs.filter fun kv => decide (kv.1 ≠ k)
end
def kD : Key → D
  | .inl i => .int i
  | .inr x => .str x
section
variable {K : PySem.W.Frag} {F : Hp}
theorem DKs.val {k : Key} : ∀ {vs : List (Key × V)} {ds : List (Key × D)}, DKs K F vs ds → (valV vs k = none ∧ valD ds k = none) ∨ ∃ v d, valV vs k = some v ∧ valD ds k = some d ∧ DR K F v d
  | _, _, .nil => .inl ⟨rfl, rfl⟩
  | _, _, .cons (k := j) (v := v) (d := d) h hs => by
    by_cases e : j = k
    · exact .inr ⟨v, d, by simp [valV, List.find?_cons, e], by simp [valD, List.find?_cons, e], h⟩
    · have := DKs.val (k := k) hs
      simpa [valV, valD, List.find?_cons, e] using this
theorem DTs.val {k : List Key} : ∀ {vs : List (List Key × V)} {ds : List (List Key × D)}, DTs K F vs ds → (valV vs k = none ∧ valD ds k = none) ∨ ∃ v d, valV vs k = some v ∧ valD ds k = some d ∧ DR K F v d
  | _, _, .nil => .inl ⟨rfl, rfl⟩
  | _, _, .cons (k := j) (v := v) (d := d) h hs => by
    by_cases e : j = k
    · exact .inr ⟨v, d, by simp [valV, List.find?_cons, e], by simp [valD, List.find?_cons, e], h⟩
    · have := DTs.val (k := k) hs
      simpa [valV, valD, List.find?_cons, e] using this
theorem DKs.app : ∀ {vs ws : List (Key × V)} {ds es : List (Key × D)}, DKs K F vs ds → DKs K F ws es → DKs K F (vs ++ ws) (ds ++ es)
  | _, _, _, _, .nil, s => s
  | _, _, _, _, .cons r t, s => .cons r (DKs.app t s)
theorem DTs.app : ∀ {vs ws : List (List Key × V)} {ds es : List (List Key × D)}, DTs K F vs ds → DTs K F ws es → DTs K F (vs ++ ws) (ds ++ es)
  | _, _, _, _, .nil, s => s
  | _, _, _, _, .cons r t, s => .cons r (DTs.app t s)
theorem DKs.any {k : Key} : ∀ {vs : List (Key × V)} {ds : List (Key × D)}, DKs K F vs ds → (vs.any fun kv => decide (kv.1 = k)) = ds.any fun kv => decide (kv.1 = k)
  | _, _, .nil => rfl
  | _, _, .cons r t => by simp [DKs.any t]
theorem DTs.any {k : List Key} : ∀ {vs : List (List Key × V)} {ds : List (List Key × D)}, DTs K F vs ds → (vs.any fun kv => decide (kv.1 = k)) = ds.any fun kv => decide (kv.1 = k)
  | _, _, .nil => rfl
  | _, _, .cons r t => by simp [DTs.any t]
theorem DKs.repl {k : Key} {x : V} {y : D} (r : DR K F x y) : ∀ {vs : List (Key × V)} {ds : List (Key × D)}, DKs K F vs ds → DKs K F (vs.map fun kv => if kv.1 = k then (kv.1, x) else kv) (ds.map fun kv => if kv.1 = k then (kv.1, y) else kv)
  | _, _, .nil => .nil
  | _, _, .cons (k := j) h t => by
    rw [List.map_cons, List.map_cons]
    by_cases e : j = k
    · simp only [e, if_true]; exact .cons r (DKs.repl r t)
    · simp only [e, if_false]; exact .cons h (DKs.repl r t)
theorem DTs.repl {k : List Key} {x : V} {y : D} (r : DR K F x y) : ∀ {vs : List (List Key × V)} {ds : List (List Key × D)}, DTs K F vs ds → DTs K F (vs.map fun kv => if kv.1 = k then (kv.1, x) else kv) (ds.map fun kv => if kv.1 = k then (kv.1, y) else kv)
  | _, _, .nil => .nil
  | _, _, .cons (k := j) h t => by
    rw [List.map_cons, List.map_cons]
    by_cases e : j = k
    · simp only [e, if_true]; exact .cons r (DTs.repl r t)
    · simp only [e, if_false]; exact .cons h (DTs.repl r t)
theorem DKs.put {k : Key} {x : V} {y : D} (r : DR K F x y) {vs : List (Key × V)} {ds : List (Key × D)} (h : DKs K F vs ds) : DKs K F (putK vs k x) (putD ds k y) := by
  unfold putK putD
  rw [h.any]
  split
  · exact h.repl r
  · exact h.app (.cons r .nil)
theorem DTs.put {k : List Key} {x : V} {y : D} (r : DR K F x y) {vs : List (List Key × V)} {ds : List (List Key × D)} (h : DTs K F vs ds) : DTs K F (putK vs k x) (putD ds k y) := by
  unfold putK putD
  rw [h.any]
  split
  · exact h.repl r
  · exact h.app (.cons r .nil)
theorem DKs.drop {k : Key} : ∀ {vs : List (Key × V)} {ds : List (Key × D)}, DKs K F vs ds → DKs K F (dropK vs k) (dropD ds k)
  | _, _, .nil => .nil
  | _, _, .cons (k := j) h t => by
    have ih := DKs.drop (k := k) t
    unfold dropK dropD at ih ⊢
    by_cases e : j = k
    · simpa [List.filter_cons, e] using ih
    · simpa [List.filter_cons, e] using DKs.cons h ih
theorem DR.key {v : V} {k : Key} (h : DR K F v (kD k)) : v = kV k := by
  cases k with
  | inl i => cases h; rfl
  | inr x => cases h; rfl
theorem DRs.keys : ∀ {ks : List Key} {vs : List V}, DRs K F vs (ks.map kD) → vs = ks.map kV
  | [], _, h => by cases h; rfl
  | k :: ks, _, h => by
    cases h with
    | cons h hs => rw [List.map_cons, h.key, DRs.keys hs]
theorem DRs.ofKeys : ∀ (ks : List Key), DRs K F (ks.map kV) (ks.map kD)
  | [] => .nil
  | .inl i :: ks => .cons (.int i) (DRs.ofKeys ks)
  | .inr x :: ks => .cons (.str x) (DRs.ofKeys ks)
end

/-! ### == over data -/
mutual
def D.py : D → PyData
  | .non => .none | .bl b => .bool b | .int i => .int i | .str x => .str x
  | .lst ds => .list (pyAll ds) | .tup ds => .tuple (pyAll ds)
  | .ref _ => .none | .ty _ => .none | .dK _ => .none | .dT _ => .none | .fK _ => .none | .fT _ => .none | .scr ns => .list (ns.map .int)
def pyAll : List D → List PyData
  | [] => []
  | d :: ds => d.py :: pyAll ds
end
mutual
/-- none of the things that == is not told of here -/
def D.pl : D → Bool
  | .non => true | .bl _ => true | .int _ => true | .str _ => true
  | .lst ds => plAll ds | .tup ds => plAll ds
  | .ref _ => false | .ty _ => false | .dK _ => false | .dT _ => false | .fK _ => false | .fT _ => false | .scr _ => true
def plAll : List D → Bool
  | [] => true
  | d :: ds => d.pl && plAll ds
end
section
variable {K : PySem.W.Frag} {F : Hp}
theorem dpInts (H : Hp) : ∀ ns : List Int, DpAll K H (ns.map V.int) (ns.map PyData.int)
  | [] => .nil
  | n :: ns => .cons (.int n) (dpInts H ns)
mutual
theorem DR.dp (F : Hp) : ∀ {v : V} {d : D}, DR K F v d → d.pl = true → Dp K F v d.py
  | _, _, .non, _ => by rw [D.py]; exact .non
  | _, _, .bl b, _ => by rw [D.py]; exact .bl b
  | _, _, .int i, _ => by rw [D.py]; exact .int i
  | _, _, .str x, _ => by rw [D.py]; exact .str x
  | _, _, .ref a, h => by simp [D.pl] at h
  | _, _, .ty n, h => by simp [D.pl] at h
  | _, _, .lst e hs, h => by rw [D.py]; exact .lst (.of e) (DRs.dp F hs (by simpa [D.pl] using h))
  | _, _, .tup e hs, h => by rw [D.py]; exact .tup (.of e) (DRs.dp F hs (by simpa [D.pl] using h))
  | _, _, .dK _ _, h => by simp [D.pl] at h
  | _, _, .dT _ _, h => by simp [D.pl] at h
  | _, _, .scr e, h => by rw [D.py]; exact .lst e (dpInts F _)
theorem DRs.dp (F : Hp) : ∀ {vs : List V} {ds : List D}, DRs K F vs ds → plAll ds = true → DpAll K F vs (pyAll ds)
  | _, _, .nil, _ => by rw [pyAll]; exact .nil
  | _, _, .cons (d := d) (ds := ds) h hs, p => by
    have p' : d.pl = true ∧ plAll ds = true := by simpa [plAll] using p
    rw [pyAll]
    exact .cons (DR.dp F h p'.1) (DRs.dp F hs p'.2)
end
theorem DT.dp {He H : Hp} {v : V} {d : D} (h : DT K F He H v d) (s : Same F H) (p : d.pl = true) : Dp K H v d.py := by
  rcases h with h | ⟨a, o, rfl, ho, q⟩
  · exact DR.dp H (h.mono s) p
  · cases q with
    | fK _ => simp [D.pl] at p
    | fT _ => simp [D.pl] at p
    | own q =>
    cases q with
    | lst hs => rw [D.py]; exact .lst (.of ho) (DRs.dp H (hs.mono s) (by simpa [D.pl] using p))
    | dK _ => simp [D.pl] at p
    | dT _ => simp [D.pl] at p
end
mutual
theorem plain_py : ∀ d : D, d.py.plain = true
  | .non => by simp [D.py, PyData.plain]
  | .bl _ => by simp [D.py, PyData.plain]
  | .int _ => by simp [D.py, PyData.plain]
  | .str _ => by simp [D.py, PyData.plain]
  | .lst ds => by simp [D.py, PyData.plain, plain_pyAll ds]
  | .tup ds => by simp [D.py, PyData.plain, plain_pyAll ds]
  | .ref _ => by simp [D.py, PyData.plain]
  | .ty _ => by simp [D.py, PyData.plain]
  | .dK _ => by simp [D.py, PyData.plain]
  | .dT _ => by simp [D.py, PyData.plain]
  | .fK _ => by simp [D.py, PyData.plain]
  | .fT _ => by simp [D.py, PyData.plain]
  | .scr ns => by
    simp only [D.py, PyData.plain]
    induction ns with
    | nil => rfl
    | cons n ns ih => simp [PyData.plainAll, PyData.plain, ih]
theorem plain_pyAll : ∀ ds : List D, PyData.plainAll (pyAll ds) = true
  | [] => rfl
  | d :: ds => by simp [pyAll, PyData.plainAll, plain_py d, plain_pyAll ds]
end
/-- d == e -/
def D.eqv (d e : D) : Bool := PyData.eqv d.py e.py
def sEq (d e : D) (P : Bool → D → Prop) : Prop := (d.pl = true ∧ e.pl = true) ∧ (d.py.depth ≤ 64 ∨ e.py.depth ≤ 64) ∧ P false (.bl (d.eqv e))
def sNe (d e : D) (P : Bool → D → Prop) : Prop := (d.pl = true ∧ e.pl = true) ∧ (d.py.depth ≤ 64 ∨ e.py.depth ≤ 64) ∧ P false (.bl (!d.eqv e))
def rEqP (K : PySem.W.Frag) : R2 := fun x y H Q => ∃ d e, Dp K H x d ∧ Dp K H y e ∧ d.plain = true ∧ e.plain = true ∧ (d.depth ≤ 64 ∨ e.depth ≤ 64) ∧ Q (.bl (PyData.eqv d e)) H
def rNeP (K : PySem.W.Frag) : R2 := fun x y H Q => ∃ d e, Dp K H x d ∧ Dp K H y e ∧ d.plain = true ∧ e.plain = true ∧ (d.depth ≤ 64 ∨ e.depth ≤ 64) ∧ Q (.bl (!PyData.eqv d e)) H
theorem wp_eqPlain {prog : Program} {w : World} {A : Around} {E : Value → Shared → Prop} {s : Shared} {a b : Value} {da db : PyData} {as bs : List Addr} {Q : Value → Shared → Prop} (ra : Reads s.heap a da as) (rb : Reads s.heap b db bs) (ha : da.plain = true) (hb : db.plain = true)
    (hu : A.units + 64 < cLine) (hd : da.depth ≤ 64 ∨ db.depth ≤ 64) (h : Q (.bool (PyData.eqv da db)) s) : wpAny (model prog w) A (compareOp .Eq a b) Q E s := by
  have hm : A.units + min da.depth db.depth < cLine := by
    have h1 : min da.depth db.depth ≤ da.depth := Nat.min_le_left _ _
    have h2 : min da.depth db.depth ≤ db.depth := Nat.min_le_right _ _
    rcases hd with h | h <;> omega
  exact SeqAt.eq_plain ra rb ha hb hm h
theorem wp_nePlain {prog : Program} {w : World} {A : Around} {E : Value → Shared → Prop} {s : Shared} {a b : Value} {da db : PyData} {as bs : List Addr} {Q : Value → Shared → Prop} (ra : Reads s.heap a da as) (rb : Reads s.heap b db bs) (ha : da.plain = true) (hb : db.plain = true)
    (hu : A.units + 64 < cLine) (hd : da.depth ≤ 64 ∨ db.depth ≤ 64) (h : Q (.bool (!PyData.eqv da db)) s) : wpAny (model prog w) A (compareOp .NotEq a b) Q E s := by
  have hm : A.units + min da.depth db.depth < cLine := by
    have h1 : min da.depth db.depth ≤ da.depth := Nat.min_le_left _ _
    have h2 : min da.depth db.depth ≤ db.depth := Nat.min_le_right _ _
    rcases hd with h | h <;> omega
  exact SeqAt.ne_plain ra rb ha hb hm h
section
variable {X : Cx} {z : Ent} {pos : Pos}
theorem op_eqP (hu : X.A.units + 64 < cLine) : OpR X (compareOp .Eq) (rEqP X.K) := by
  intro pins s σ H x y v u Q I rx ry h
  obtain ⟨d, e, hd, he, sd, se, hh, q⟩ := h
  obtain ⟨as, r1⟩ := Dp.reads I d x v hd rx
  obtain ⟨bs, r2⟩ := Dp.reads I e y u he ry
  exact wp_eqPlain r1 r2 sd se hu hh ⟨.bl _, H, I, rfl, q⟩
theorem op_neP (hu : X.A.units + 64 < cLine) : OpR X (compareOp .NotEq) (rNeP X.K) := by
  intro pins s σ H x y v u Q I rx ry h
  obtain ⟨d, e, hd, he, sd, se, hh, q⟩ := h
  obtain ⟨as, r1⟩ := Dp.reads I d x v hd rx
  obtain ⟨bs, r2⟩ := Dp.reads I e y u he ry
  exact wp_nePlain r1 r2 sd se hu hh ⟨.bl _, H, I, rfl, q⟩
theorem sem_eq : Sem2 z (rEqP z.K) sEq := fun w F He H x y d e P Q wd dx dy ⟨⟨p1, p2⟩, p3, q⟩ k => ⟨d.py, e.py, dx.dp wd.sf p1, dy.dp wd.sf p2, plain_py d, plain_py e, p3, k false _ q _ H F He wd .refl (.bl _)⟩
theorem sem_ne : Sem2 z (rNeP z.K) sNe := fun w F He H x y d e P Q wd dx dy ⟨⟨p1, p2⟩, p3, q⟩ k => ⟨d.py, e.py, dx.dp wd.sf p1, dy.dp wd.sf p2, plain_py d, plain_py e, p3, k false _ q _ H F He wd .refl (.bl _)⟩
end
end Lv

namespace Lv
open PySem PySem.Spec L2
section
variable {X : Cx} {z : Ent} {pos : Pos}

/-! ### arithmetic -/
theorem dt_int {K : PySem.W.Frag} {F He H : Hp} {v : V} {i : Int} (r : DT K F He H v (.int i)) : v = .int i := r.int
theorem sem_add : Sem2 z (rAddD z.K) sAdd := fun w F He H x y d e P Q wd dx dy q k => by
  unfold sAdd at q
  split at q
  · exact .inl ⟨_, _, dx.int, dy.int, k _ _ q _ H F He wd .refl (.int _)⟩
  · exact .inr (.inl ⟨_, _, dx.str, dy.str, q.1, k _ _ q.2 _ H F He wd .refl (.str _)⟩)
  · obtain ⟨a, vs, rfl, ha, ra⟩ := dx.lst wd.sf
    obtain ⟨b, us, rfl, hb, rb⟩ := dy.lst wd.sf
    refine .inr (.inr (.inl ⟨a, b, vs, us, rfl, rfl, ha, hb, by rw [ra.length, rb.length]; exact q.1, fun p hp => res_new wd hp (.lst (ra.append rb)) q.2 k⟩))
  · obtain ⟨a, vs, rfl, ha, ra⟩ := dx.tup wd.sf
    obtain ⟨b, us, rfl, hb, rb⟩ := dy.tup wd.sf
    refine .inr (.inr (.inr ⟨a, b, vs, us, rfl, rfl, .of ha, .of hb, by rw [ra.length, rb.length]; exact q.1, fun e => ?_, fun _ e => ?_, fun _ _ p hp => res_tup wd hp (ra.append rb) q.2 k⟩))
    · subst e
      cases ra
      have q2 := q.2
      rw [List.nil_append] at q2
      exact res_at wd dy.dr_tup q2 k
    · subst e
      cases rb
      have q2 := q.2
      rw [List.append_nil] at q2
      exact res_at wd dx.dr_tup q2 k
  · exact q.elim
def sI2 (C : Int → Int → Prop) (g : Int → Int → D) (d e : D) (P : Bool → D → Prop) : Prop := match d, e with
  | .int i, .int j => C i j ∧ P false (g i j)
  | _, _ => False
theorem sem_I {C C' : Int → Int → Prop} {g : Int → Int → V} {g' : Int → Int → D} (h : ∀ i j, C' i j → C i j) (hg : ∀ F i j, DR z.K F (g i j) (g' i j)) : Sem2 z (rI C g) (sI2 C' g') := fun w F He H x y d e P Q wd dx dy q k => by
  unfold sI2 at q
  split at q
  · exact ⟨_, _, dx.int, dy.int, h _ _ q.1, k _ _ q.2 _ H F He wd .refl (hg _ _ _)⟩
  · exact q.elim
def sJ2 (g : Int → Int → D) (d e : D) (P : Bool → D → Prop) : Prop := match d, e with
  | .int i, .int j => P false (g i j)
  | _, _ => False
theorem sem_J {g : Int → Int → V} {g' : Int → Int → D} (hg : ∀ F i j, DR z.K F (g i j) (g' i j)) : Sem2 z (rI0 g) (sJ2 g') := fun w F He H x y d e P Q wd dx dy q k => by
  unfold sJ2 at q
  split at q
  · exact ⟨_, _, dx.int, dy.int, k _ _ q _ H F He wd .refl (hg _ _ _)⟩
  · exact q.elim
abbrev sSub := sJ2 fun i j => .int (i - j)
theorem sem_sub : Sem2 z (rI0 fun i j => .int (i - j)) sSub := sem_J fun _ _ _ => .int _
abbrev sFdiv := sI2 CDivW fun i j => .int (i / j)
theorem sem_fdiv : Sem2 z (rI CDivW fun i j => .int (i / j)) sFdiv := sem_I (fun _ _ h => h) fun _ _ _ => .int _
abbrev sMod := sI2 (fun _ j => 0 < j) fun i j => .int (i % j)
theorem sem_mod : Sem2 z (rI (fun _ j => 0 < j) fun i j => .int (i % j)) sMod := sem_I (fun _ _ h => h) fun _ _ _ => .int _
abbrev sPow := sI2 CPow fun i j => .int (i ^ j.toNat)
theorem sem_pow : Sem2 z (rI CPow fun i j => .int (i ^ j.toNat)) sPow := sem_I (fun _ _ h => h) fun _ _ _ => .int _
abbrev sLt0 := sJ2 fun i j => .bl (decide (i < j))
abbrev sLe := sJ2 fun i j => .bl (decide (i ≤ j))
abbrev sGt := sJ2 fun i j => .bl (decide (j < i))
abbrev sGe := sJ2 fun i j => .bl (decide (j ≤ i))
theorem sem_le : Sem2 z (rI0 fun i j => .bl (decide (i ≤ j))) sLe := sem_J fun _ _ _ => .bl _
theorem sem_gt : Sem2 z (rI0 fun i j => .bl (decide (j < i))) sGt := sem_J fun _ _ _ => .bl _
theorem sem_ge : Sem2 z (rI0 fun i j => .bl (decide (j ≤ i))) sGe := sem_J fun _ _ _ => .bl _
/-- < of numbers, of tuples of numbers -/
def toInts : List D → Option (List Int)
  | [] => some []
  | .int i :: ds => (toInts ds).map (i :: ·)
  | _ :: _ => none
theorem toInts_eq : ∀ {ds : List D} {ns : List Int}, toInts ds = some ns → ds = ns.map D.int
  | [], ns, h => by simp [toInts] at h; subst h; rfl
  | .int i :: ds, ns, h => by
    simp only [toInts, Option.map_eq_some_iff] at h
    obtain ⟨ms, h1, rfl⟩ := h
    rw [toInts_eq h1]; rfl
  | .non :: _, _, h => by simp [toInts] at h
  | .bl _ :: _, _, h => by simp [toInts] at h
  | .str _ :: _, _, h => by simp [toInts] at h
  | .ref _ :: _, _, h => by simp [toInts] at h
  | .ty _ :: _, _, h => by simp [toInts] at h
  | .lst _ :: _, _, h => by simp [toInts] at h
  | .tup _ :: _, _, h => by simp [toInts] at h
  | .dK _ :: _, _, h => by simp [toInts] at h
  | .dT _ :: _, _, h => by simp [toInts] at h
  | .scr _ :: _, _, h => by simp [toInts] at h
  | .fK _ :: _, _, h => by simp [toInts] at h
  | .fT _ :: _, _, h => by simp [toInts] at h
theorem toInts_map : ∀ (ns : List Int), toInts (ns.map D.int) = some ns
  | [] => rfl
  | n :: ns => by simp [toInts, toInts_map ns]
def sLt (d e : D) (P : Bool → D → Prop) : Prop := match d, e with
  | .int i, .int j => P false (.bl (decide (i < j)))
  | .tup xs, .tup ys => ∃ ns ms, toInts xs = some ns ∧ toInts ys = some ms ∧ P false (.bl (HT.lexLt ns ms))
  | _, _ => False
def rLtD (K : PySem.W.Frag) : R2 := fun x y H Q => (∃ i j, x = .int i ∧ y = .int j ∧ Q (.bl (decide (i < j))) H) ∨ rLtT K x y H Q
theorem op_ltD (hu : X.A.units < cLine) : OpR X (compareOp .Lt) (rLtD X.K) := op_lt.or (op_ltT hu)
theorem sem_lt : Sem2 z (rLtD z.K) sLt := fun w F He H x y d e P Q wd dx dy q k => by
  unfold sLt at q
  split at q
  · exact .inl ⟨_, _, dx.int, dy.int, k _ _ q _ H F He wd .refl (.bl _)⟩
  · obtain ⟨ns, ms, h1, h2, q⟩ := q
    have e1 := toInts_eq h1
    have e2 := toInts_eq h2
    subst e1 e2
    obtain ⟨a, vs, rfl, ha, ra⟩ := dx.tup wd.sf
    obtain ⟨b, us, rfl, hb, rb⟩ := dy.tup wd.sf
    have := ra.ints
    have := rb.ints
    subst vs us
    exact .inr ⟨a, b, ns, ms, rfl, rfl, .of ha, .of hb, k _ _ q _ H F He wd .refl (.bl _)⟩
  · exact q.elim
/-- a * b: numbers; a list so many times -/
def MulC (i j : Int) : Prop := CMul i j ∨ CMulW i j
theorem op_mulD : OpR X (binaryOp .Mult) (rI MulC fun i j => .int (i * j)) := opI fun _ _ _ _ _ _ _ hc q => PyProof.Rows.mul_int q (hc.elim CMul.ok CMulW.ok)
def sMul (d e : D) (P : Bool → D → Prop) : Prop := match d, e with
  | .int i, .int j => MulC i j ∧ P false (.int (i * j))
  | .lst xs, .int k => (-(2 ^ 63) ≤ k ∧ k < 2 ^ 63) ∧ xs.length * k.toNat ≤ sizeLine ∧ P true (.lst (List.replicate k.toNat xs).flatten)
  | _, _ => False
def rMulD : R2 := fun x y H Q => rI MulC (fun i j => .int (i * j)) x y H Q ∨ rRep x y H Q
theorem op_mulA : OpR X (binaryOp .Mult) rMulD := op_mulD.or op_rep
theorem sem_mul : Sem2 z rMulD sMul := fun w F He H x y d e P Q wd dx dy q k => by
  unfold sMul at q
  split at q
  · exact .inl ⟨_, _, dx.int, dy.int, q.1, k _ _ q.2 _ H F He wd .refl (.int _)⟩
  · obtain ⟨a, vs, rfl, ha, ra⟩ := dx.lst wd.sf
    exact .inr ⟨a, _, vs, rfl, dy.int, ha, q.1.1, q.1.2, by rw [ra.length]; exact q.2.1, fun p hp => res_new wd hp (.lst (ra.rep _)) q.2.2 k⟩
  · exact q.elim
end
section
variable {X : Cx} {z : Ent} {pos : Pos}
/-! ### operations of one operand -/
def Sem1 (z : Ent) (r : V → Hp → VK → Prop) (sem : D → (Bool → D → Prop) → Prop) : Prop := ∀ (w : Om) (F He H : Hp) (x : V) (d : D) (P : Bool → D → Prop) (Q : VK), Wd z.K w F He H → DT z.K F He H x d → sem d P →
  (∀ b d', P b d' → ∀ v H' F' He', Wd z.K w F' He' H' → Step F He H F' He' H' → Res z.K F' He' H H' b v d' → Q v H') → r x H Q
def dUn  (sem : D → (Bool → D → Prop) → Prop) (ta : DO) : DX := fun δ w Q => ta δ w fun d w1 => sem (res w1 d) fun b d' => Q b d' w1
theorem un1 {r : V → Hp → VK → Prop} {sem : D → (Bool → D → Prop) → Prop} (hs : Sem1 z r sem) {ta : DO} {σ : St} {H : Hp} {Q : VK} (h : liftX z (dUn sem ta) σ H Q) : liftO z ta σ H (fun x H1 => r x H1 Q) := by
  obtain ⟨δ, w, F, He, P, R, q, k⟩ := h
  refine ⟨δ, w, F, He, _, R, q, fun d w1 q1 x H1 F1 He1 wd1 st1 r1 => ?_⟩
  exact hs w1 F1 He1 H1 x _ _ Q wd1 (res_ok wd1.ex wd1.sh r1) q1 fun b d' p v H' F' He' wd st rr => k b d' w1 p v H' F' He' wd (st1.trans st) (rr.base st1)
theorem jx_un {op : UnaryOp} {r : V → Hp → VK → Prop} {sem : D → (Bool → D → Prop) → Prop} {a : Expr} {ta : DO} (ho : UnR X (unaryOp op) r) (hs : Sem1 z r sem) (ha : JO X z a ta) : JX X z (.UnaryOp op a pos) (dUn sem ta) :=
  PE.imp (pe_un ho ha) fun _ _ _ h => un1 hs h
def sNeg (d : D) (P : Bool → D → Prop) : Prop := match d with
  | .int i => P false (.int (-i))
  | _ => False
theorem sem_neg : Sem1 z (rU fun i => .int (-i)) sNeg := fun w F He H x d P Q wd dx q k => by
  unfold sNeg at q
  split at q
  · exact ⟨_, dx.int, k _ _ q _ H F He wd .refl (.int _)⟩
  · exact q.elim
/-- f(e) of a built-in -/
theorem jx_b1 {id : String} {r : List V → Hp → VK → Prop} {sem : D → (Bool → D → Prop) → Prop} {a : Expr} {ta : DO} {x : Str} {p : Pos} (hc : CallR X (.builtin id) r) (hs : Sem1 z (fun x H Q => r [x] H Q) sem) (hg : Gl X x) (hm : X.mg x = none) (hv : bootBuiltins x = some (.builtin id)) (ha : JO X z a ta)
    (hn : x ≠ "__name__" := by decide) (hdb : (x == ("__debug__" : Str)) = false := by decide)
    (he : starEach [a] X.env = (false, eval a X.env) :: starEach [] X.env := by rfl) (hpl : (backTo pos (starEach [] X.env)).any (·.1) = false := by rfl) : JX X z (.Call (.Name x p) [a] [] pos) (dUn sem ta) :=
  PE.imp (pe_callB hc hg hm hv (pa_cons ha pa_nil he) hn hdb he hpl) fun _ _ _ h => un1 hs h
/-- T(e) of a built-in class -/
theorem jx_t1 {id : String} {r : List V → Hp → VK → Prop} {sem : D → (Bool → D → Prop) → Prop} {a : Expr} {ta : DO} {x : Str} {p : Pos} (hc : CallR X (.type id) r) (hs : Sem1 z (fun x H Q => r [x] H Q) sem) (hg : Gl X x) (hm : X.mg x = none) (hv : bootBuiltins x = some (.type id)) (ha : JO X z a ta)
    (hn : x ≠ "__name__" := by decide) (hdb : (x == ("__debug__" : Str)) = false := by decide)
    (he : starEach [a] X.env = (false, eval a X.env) :: starEach [] X.env := by rfl) (hpl : (backTo pos (starEach [] X.env)).any (·.1) = false := by rfl) : JX X z (.Call (.Name x p) [a] [] pos) (dUn sem ta) :=
  PE.imp (pe_callTy hc hg hm hv (pa_cons ha pa_nil he) hn hdb he hpl) fun _ _ _ h => un1 hs h
/-- f(e, g) of a built-in -/
theorem jx_b2 {id : String} {r : List V → Hp → VK → Prop} {sem : D → D → (Bool → D → Prop) → Prop} {a b : Expr} {ta tb : DO} {x : Str} {p : Pos} (hc : CallR X (.builtin id) r) (hs : Sem2 z (fun x y H Q => r [x, y] H Q) sem) (hg : Gl X x) (hm : X.mg x = none) (hv : bootBuiltins x = some (.builtin id)) (ha : JO X z a ta) (hb : JO X z b tb)
    (hn : x ≠ "__name__" := by decide) (hdb : (x == ("__debug__" : Str)) = false := by decide)
    (he : starEach [a, b] X.env = (false, eval a X.env) :: starEach [b] X.env := by rfl) (he2 : starEach [b] X.env = (false, eval b X.env) :: starEach [] X.env := by rfl) (hpl : (backTo pos (starEach [b] X.env)).any (·.1) = false := by rfl) : JX X z (.Call (.Name x p) [a, b] [] pos) (dBin sem ta tb) :=
  PE.imp (pe_callB hc hg hm hv (pa_cons ha (pa_cons hb pa_nil he2) he) hn hdb he hpl) fun _ _ _ h => bin2 hs h
def sLen (d : D) (P : Bool → D → Prop) : Prop := match d with
  | .lst ds => P false (.int ds.length)
  | .tup ds => P false (.int ds.length)
  | .scr ds => P false (.int ds.length)
  | .str x => x.length ≤ sizeLine ∧ P false (.int x.length)
  | .dK ds => P false (.int ds.length)
  | _ => False
def rLenD (K : PySem.W.Frag) : List V → Hp → VK → Prop := fun xs H Q => (∃ x n, xs = [x] ∧ LenV K x H n ∧ Q (.int n) H) ∨ ∃ a kvs, xs = [V.ref a] ∧ H a = some (.dK kvs) ∧ Q (.int kvs.length) H
theorem call_lenA : CallR X (.builtin "len") (rLenD X.K) := call_len.or call_lenD
theorem sem_len : Sem1 z (fun x H Q => rLenD z.K [x] H Q) sLen := fun w F He H x d P Q wd dx q k => by
  unfold sLen at q
  split at q
  · obtain ⟨a, vs, rfl, ha, ra⟩ := dx.lst wd.sf
    exact .inl ⟨_, _, rfl, .inl ⟨_, .of ha, rfl⟩, by rw [ra.length]; exact res_at wd (.int _) q k⟩
  · obtain ⟨a, vs, rfl, ha, ra⟩ := dx.tup wd.sf
    exact .inl ⟨_, _, rfl, .inr ⟨_, .of ha, rfl⟩, by rw [ra.length]; exact res_at wd (.int _) q k⟩
  · obtain ⟨a, rfl, ha⟩ := dx.scr wd.sf
    exact .inl ⟨_, _, rfl, .inl ⟨_, ha, rfl⟩, by rw [List.length_map]; exact res_at wd (.int _) q k⟩
  · have := dx.str
    subst x
    exact .inl ⟨_, _, rfl, ⟨q.1, rfl⟩, k _ _ q.2 _ H F He wd .refl (.int _)⟩
  · obtain ⟨a, vs, rfl, ha, ra⟩ := dx.dK wd.sf
    exact .inr ⟨a, vs, rfl, ha, by rw [ra.length]; exact res_at wd (.int _) q k⟩
  · exact q.elim
def sAbs (d : D) (P : Bool → D → Prop) : Prop := match d with
  | .int i => P false (.int (if i < 0 then -i else i))
  | _ => False
theorem sem_abs : Sem1 z (fun x H Q => ∃ i, [x] = [V.int i] ∧ Q (.int (if i < 0 then -i else i)) H) sAbs := fun w F He H x d P Q wd dx q k => by
  unfold sAbs at q
  split at q
  · have := dx.int
    subst x
    exact ⟨_, rfl, k _ _ q _ H F He wd .refl (.int _)⟩
  · exact q.elim
abbrev sMax := sJ2 fun i j => .int (if j > i then j else i)
abbrev sMin := sJ2 fun i j => .int (if j < i then j else i)
theorem sem_max : Sem2 z (fun x y H Q => ∃ i j, [x, y] = [V.int i, V.int j] ∧ Q (.int (if j > i then j else i)) H) sMax := fun w F He H x y d e P Q wd dx dy q k => by
  unfold sMax sJ2 at q
  split at q
  · have := dx.int
    have := dy.int
    subst x y
    exact ⟨_, _, rfl, k _ _ q _ H F He wd .refl (.int _)⟩
  · exact q.elim
theorem sem_min : Sem2 z (fun x y H Q => ∃ i j, [x, y] = [V.int i, V.int j] ∧ Q (.int (if j < i then j else i)) H) sMin := fun w F He H x y d e P Q wd dx dy q k => by
  unfold sMin sJ2 at q
  split at q
  · have := dx.int
    have := dy.int
    subst x y
    exact ⟨_, _, rfl, k _ _ q _ H F He wd .refl (.int _)⟩
  · exact q.elim
/-- int(n), int(flag) -/
def sInt (d : D) (P : Bool → D → Prop) : Prop := match d with
  | .int i => P false (.int i)
  | .bl k => P false (.int (if k then 1 else 0))
  | .str x => ∃ n, PySem.intText? x = some n ∧ x.length ≤ 640 ∧ P false (.int n)
  | _ => False
def rIntD : List V → Hp → VK → Prop := fun xs H Q => ((∃ i, xs = [.int i] ∧ Q (.int i) H) ∨ ∃ k, xs = [.bl k] ∧ Q (.int (if k then 1 else 0)) H) ∨ ∃ a n, xs = [.str a] ∧ PySem.intText? a = some n ∧ a.length ≤ 640 ∧ Q (.int n) H
theorem call_intD : CallR X (.type "int") rIntD := call_int1.or call_int_str
theorem sem_int : Sem1 z (fun x H Q => rIntD [x] H Q) sInt := fun w F He H x d P Q wd dx q k => by
  unfold sInt at q
  split at q
  · have := dx.int; subst x
    exact .inl (.inl ⟨_, rfl, k _ _ q _ H F He wd .refl (.int _)⟩)
  · have := dx.bl; subst x
    exact .inl (.inr ⟨_, rfl, k _ _ q _ H F He wd .refl (.int _)⟩)
  · have := dx.str; subst x
    obtain ⟨n, h1, h2, q⟩ := q
    exact .inr ⟨_, n, rfl, h1, h2, k _ _ q _ H F He wd .refl (.int _)⟩
  · exact q.elim
/-- str(n) -/
def sStr (d : D) (P : Bool → D → Prop) : Prop := match d with
  | .int i => i.natAbs.log2 < 1920 ∧ P false (.str (toString i))
  | _ => False
theorem sem_str : Sem1 z (fun x H Q => ∃ i, [x] = [V.int i] ∧ i.natAbs.log2 < 1920 ∧ Q (.str (toString i)) H) sStr := fun w F He H x d P Q wd dx q k => by
  unfold sStr at q
  split at q
  · have := dx.int; subst x
    exact ⟨_, rfl, q.1, k _ _ q.2 _ H F He wd .refl (.str _)⟩
  · exact q.elim
/-- list(x), tuple(x) -/
def sList (d : D) (P : Bool → D → Prop) : Prop := match d with
  | .lst ds => P true (.lst ds)
  | .tup ds => P true (.lst ds)
  | .scr ns => P true (.lst (ns.map .int))
  | _ => False
theorem sem_list : Sem1 z (fun x H Q => ∃ p ys, [x] = [V.ref p] ∧ (SqL z.K H p ys ∨ SqT z.K H p ys) ∧ ∀ l, H l = none → Q (.ref l) (upd H l (.lst ys))) sList := fun w F He H x d P Q wd dx q k => by
  unfold sList at q
  split at q
  · obtain ⟨a, vs, rfl, ha, ra⟩ := dx.lst wd.sf
    exact ⟨a, vs, rfl, .inl (.of ha), fun p hp => res_new wd hp (.lst ra) q k⟩
  · obtain ⟨a, vs, rfl, ha, ra⟩ := dx.tup wd.sf
    exact ⟨a, vs, rfl, .inr (.of ha), fun p hp => res_new wd hp (.lst ra) q k⟩
  · obtain ⟨a, rfl, ha⟩ := dx.scr wd.sf
    exact ⟨a, _, rfl, .inl ha, fun p hp => res_new wd hp (.lst (DRs.ofInts _)) q k⟩
  · exact q.elim
def sTuple (d : D) (P : Bool → D → Prop) : Prop := match d with
  | .lst ds => P false (.tup ds)
  | .tup ds => P false (.tup ds)
  | .scr ns => P false (.tup (ns.map .int))
  | _ => False
theorem sem_tuple : Sem1 z (fun x H Q => ∃ p ys, [x] = [V.ref p] ∧ ((SqL z.K H p ys ∧ ∀ l, H l = none → Q (.ref l) (upd H l (.tup ys))) ∨ (SqT z.K H p ys ∧ Q (.ref p) H))) sTuple := fun w F He H x d P Q wd dx q k => by
  unfold sTuple at q
  split at q
  · obtain ⟨a, vs, rfl, ha, ra⟩ := dx.lst wd.sf
    exact ⟨a, vs, rfl, .inl ⟨.of ha, fun p hp => res_tup wd hp ra q k⟩⟩
  · obtain ⟨a, vs, e, ha, ra⟩ := dx.tup wd.sf
    refine ⟨a, vs, by rw [e], .inr ⟨.of ha, ?_⟩⟩
    rw [← e]; exact res_at wd dx.dr_tup q k
  · obtain ⟨a, rfl, ha⟩ := dx.scr wd.sf
    exact ⟨a, _, rfl, .inl ⟨ha, fun p hp => res_tup wd hp (DRs.ofInts _) q k⟩⟩
  · exact q.elim
/-- isinstance(x, T) for a built-in T -/
def tyD : D → Option String
  | .non => some "NoneType" | .bl _ => some "bool" | .int _ => some "int" | .str _ => some "str" | .lst _ => some "list" | .tup _ => some "tuple" | .dK _ => some "dict" | .dT _ => some "dict"
  | _ => none
def sIsi (d e : D) (P : Bool → D → Prop) : Prop := match e with
  | .ty n => ∃ t b, tyD d = some t ∧ kitB t n = some b ∧ P false (.bl b)
  | _ => False
theorem DT.ty {K : PySem.W.Frag} {F He H : Hp} {v : V} {n : String} (r : DT K F He H v (.ty n)) : v = .ty n := by
  cases r.plain fun o q => by cases q with | own q => cases q
  rfl
theorem tyx_of {K : PySem.W.Frag} {F He H : Hp} {v : V} {d : D} {t : String} (r : DT K F He H v d) (s : Same F H) (e : tyD d = some t) : TyX K H v (.type t) := by
  cases d with
  | non => cases r.non; cases e; exact .base .non
  | bl b => cases r.bl; cases e; exact .base (.bl b)
  | int i => cases r.int; cases e; exact .base (.int i)
  | str x => cases r.str; cases e; exact .base (.str x)
  | lst ds => obtain ⟨a, vs, rfl, ha, _⟩ := r.lst s; cases e; exact .base (.lst ha)
  | tup ds => obtain ⟨a, vs, rfl, ha, _⟩ := r.tup s; cases e; exact .base (.tup ha)
  | dK ds => obtain ⟨a, vs, rfl, ha, _⟩ := r.dK s; cases e; exact .base (.dK ha)
  | dT ds => obtain ⟨a, vs, rfl, ha, _⟩ := r.dT s; cases e; exact .base (.dT ha)
  | ref a => cases e
  | ty n => cases e
  | scr ns => cases e
  | fK ds => cases e
  | fT ds => cases e
theorem sem_isi : Sem2 z (fun x y H Q => rIsi z.K [x, y] H Q) sIsi := fun w F He H x y d e P Q wd dx dy q k => by
  unfold sIsi at q
  split at q
  · obtain ⟨t, b, h1, h2, q⟩ := q
    have := dy.ty; subst y
    exact ⟨x, _, _, _, b, rfl, .ty _, tyx_of dx wd.sf h1, kit_ty h2, k _ _ q _ H F He wd .refl (.bl _)⟩
  · exact q.elim
theorem jx_ty {x : Str} {n : String} (hg : Gl X x) (hm : X.mg x = none) (hv : bootBuiltins x = some (.type n)) (hn : x ≠ "__name__" := by decide) (hd : (x == ("__debug__" : Str)) = false := by decide) : JX X z (.Name x pos) (dC (.ty n)) :=
  jx_c (pe_bltn hg hm hv (show RelV (.ty n) (.type n) from rfl) hn hd) fun _ => .ty n
/-- a constant of the module -/
theorem jx_glob {x : Str} {v : V} {d : D} {u : Value} (hg : Gl X x) (hm : X.mg x = some u) (r : RelV v u) (rd : ∀ F, DR z.K F v d) (hd : (x == ("__debug__" : Str)) = false := by decide) : JX X z (.Name x pos) (dC d) := jx_c (pe_glob hg hm r hd) rd

/-! ### is None -/
def D.isNon : D → Bool
  | .non => true
  | _ => false
theorem isNon_of {K : PySem.W.Frag} {F He H : Hp} {v : V} {d : D} (r : DT K F He H v d) : decide (v = .non) = d.isNon := by
  cases d with
  | non => cases r.non; rfl
  | _ => rcases r with r | ⟨a, o, rfl, ho, q⟩ <;> (first | (cases r; done) | (cases r; rfl) | rfl)
def sIsN (d e : D) (P : Bool → D → Prop) : Prop := match e with
  | .non => P false (.bl d.isNon)
  | _ => False
def sNotN (d e : D) (P : Bool → D → Prop) : Prop := match e with
  | .non => P false (.bl (!d.isNon))
  | _ => False
theorem sem_isN : Sem2 z (fun x y H Q => y = .non ∧ Q (.bl (decide (x = .non))) H) sIsN := fun w F He H x y d e P Q wd dx dy q k => by
  unfold sIsN at q
  split at q
  · exact ⟨dy.non, by rw [isNon_of dx]; exact k _ _ q _ H F He wd .refl (.bl _)⟩
  · exact q.elim
theorem sem_notN : Sem2 z (fun x y H Q => y = .non ∧ Q (.bl (!decide (x = .non))) H) sNotN := fun w F He H x y d e P Q wd dx dy q k => by
  unfold sNotN at q
  split at q
  · exact ⟨dy.non, by rw [isNon_of dx]; exact k _ _ q _ H F He wd .refl (.bl _)⟩
  · exact q.elim

/-! ### subscripts -/
theorem ix_dct (hu : X.A.units + 1 < cLine) : IxR X (fun x y H Q => ∃ a v, x = .ref a ∧ DGet H a y (some v) ∧ Q v H) := by
  intro value slice pins s σ H x y v u Q I rx ry h hs
  obtain ⟨a, z, rfl, g, q⟩ := h
  cases rx
  exact PyProof.Rows.tail_any (dict_typeIs I g) PySem.F.slot_dict_getitem.lookup (d_getItem hu I g ry fun w' s3 I3 rw' => ⟨z, H, I3, rw', q⟩) hs
def rIxA (K : PySem.W.Frag) : R2 := fun x y H Q => rIx K x y H Q ∨ ∃ a v, x = .ref a ∧ DGet H a y (some v) ∧ Q v H
theorem ix_all (hu : X.A.units + 1 < cLine) : IxR X (rIxA X.K) := ix_seq.or (ix_dct hu)
def sIx (d e : D) (P : Bool → D → Prop) : Prop := match d, e with
  | .lst ds, .int i => ∃ x, atI ds i = some x ∧ P false x
  | .tup ds, .int i => ∃ x, atI ds i = some x ∧ P false x
  | .scr ns, .int i => ∃ x, atI ns i = some x ∧ P false (.int x)
  | .str x, .int i => x.length ≤ sizeLine ∧ ∃ c, atI x.cps.toList i = some c ∧ P false (.str ⟨#[c]⟩)
  | .dK kvs, .int i => ∃ x, valD kvs (.inl i) = some x ∧ P false x
  | .dK kvs, .str i => ∃ x, valD kvs (.inr i) = some x ∧ P false x
  | .dT kvs, .tup ds => ∃ ks x, ds = ks.map kD ∧ valD kvs ks = some x ∧ P false x
  | .fK kvs, .int i => ∃ x, valD kvs (.inl i) = some x ∧ P false x
  | .fT kvs, .tup ds => ∃ ks x, ds = ks.map kD ∧ valD kvs ks = some x ∧ P false x
  | _, _ => False
theorem atI_rel {K : PySem.W.Frag} {F : Hp} {vs : List V} {ds : List D} {i : Int} {x : D} (r : DRs K F vs ds) (e : atI ds i = some x) : ∃ v, atI vs i = some v ∧ DR K F v x := by
  unfold atI at e ⊢
  rw [r.length]
  cases h : ixN ds.length i with
  | none => rw [h] at e; cases e
  | some j =>
    rw [h] at e
    exact r.get e
theorem atI_map {α β : Type} (f : α → β) (xs : List α) (i : Int) : atI (xs.map f) i = (atI xs i).map f := by
  unfold atI
  rw [List.length_map]
  cases ixN xs.length i with
  | none => rfl
  | some j => simp
theorem sem_ix : Sem2 z (rIxA z.K) sIx := fun w F He H x y d e P Q wd dx dy q k => by
  unfold sIx at q
  split at q
  · obtain ⟨c, h, q⟩ := q
    obtain ⟨a, vs, rfl, ha, ra⟩ := dx.lst wd.sf
    obtain ⟨v, hv, rv⟩ := atI_rel ra h
    exact .inl (.inl ⟨a, vs, _, v, rfl, dy.int, .of ha, hv, res_at wd rv q k⟩)
  · obtain ⟨c, h, q⟩ := q
    obtain ⟨a, vs, rfl, ha, ra⟩ := dx.tup wd.sf
    obtain ⟨v, hv, rv⟩ := atI_rel ra h
    exact .inl (.inr (.inl ⟨a, vs, _, v, rfl, dy.int, .of ha, hv, res_at wd rv q k⟩))
  · obtain ⟨c, h, q⟩ := q
    obtain ⟨a, rfl, ha⟩ := dx.scr wd.sf
    exact .inl (.inl ⟨a, _, _, .int c, rfl, dy.int, ha, by rw [atI_map, h]; rfl, res_at wd (.int c) q k⟩)
  · obtain ⟨h1, c, h, q⟩ := q
    exact .inl (.inr (.inr ⟨_, _, c, dx.str, dy.int, h1, h, res_at wd (.str _) q k⟩))
  · obtain ⟨c, h, q⟩ := q
    obtain ⟨a, vs, rfl, ha, ra⟩ := dx.dK wd.sf
    have := dy.int; subst y
    rcases ra.val (k := .inl _) with ⟨_, h2⟩ | ⟨v, c', h1, h2, rv⟩
    · rw [h] at h2; cases h2
    · rw [h] at h2; cases h2
      exact .inr ⟨a, v, rfl, by rw [← h1]; exact DGet.k (k := .inl _) ha, res_at wd rv q k⟩
  · obtain ⟨c, h, q⟩ := q
    obtain ⟨a, vs, rfl, ha, ra⟩ := dx.dK wd.sf
    have := dy.str; subst y
    rcases ra.val (k := .inr _) with ⟨_, h2⟩ | ⟨v, c', h1, h2, rv⟩
    · rw [h] at h2; cases h2
    · rw [h] at h2; cases h2
      exact .inr ⟨a, v, rfl, by rw [← h1]; exact DGet.k (k := .inr _) ha, res_at wd rv q k⟩
  · obtain ⟨ks, c, rfl, h, q⟩ := q
    obtain ⟨a, vs, rfl, ha, ra⟩ := dx.dT wd.sf
    obtain ⟨b, us, rfl, hb, rb⟩ := dy.tup wd.sf
    have := rb.keys; subst us
    rcases ra.val (k := ks) with ⟨_, h2⟩ | ⟨v, c', h1, h2, rv⟩
    · rw [h] at h2; cases h2
    · rw [h] at h2; cases h2
      exact .inr ⟨a, v, rfl, by rw [← h1]; exact DGet.t ha hb, res_at wd rv q k⟩
  · obtain ⟨c, h, q⟩ := q
    obtain ⟨a, ob, vs, rfl, ha, ra⟩ := dx.fK
    have := dy.int; subst y
    rcases ra.val (k := .inl _) with ⟨_, h2⟩ | ⟨v, c', h1, h2, rv⟩
    · rw [h] at h2; cases h2
    · rw [h] at h2; cases h2
      exact .inr ⟨a, v, rfl, by rw [← h1]; exact .inl ⟨_, .inl _, .inr ⟨_, ha⟩, rfl, rfl⟩, res_at wd rv q k⟩
  · obtain ⟨ks, c, rfl, h, q⟩ := q
    obtain ⟨a, ob, vs, rfl, ha, ra⟩ := dx.fT
    obtain ⟨b, us, rfl, hb, rb⟩ := dy.tup wd.sf
    have := rb.keys; subst us
    rcases ra.val (k := ks) with ⟨_, h2⟩ | ⟨v, c', h1, h2, rv⟩
    · rw [h] at h2; cases h2
    · rw [h] at h2; cases h2
      exact .inr ⟨a, v, rfl, by rw [← h1]; exact .inr ⟨_, ks, b, .inr ⟨_, ha⟩, rfl, hb, rfl⟩, res_at wd rv q k⟩
  · exact q.elim
theorem jx_ix {a b : Expr} {ta tb : DO} (hK : z.K = X.K) (hu : X.A.units + 1 < cLine) (ha : JO X z a ta) (hb : JO X z b tb) (hs : PlainIx b := by exact fun _ _ => rfl) : JX X z (.Subscript a b pos) (dBin sIx ta tb) :=
  PE.imp (pe_ix (ix_all hu) ha hb hs) fun _ _ _ h => bin2 (by rw [← hK]; exact sem_ix) h
end
end Lv

/-! ### t[::-1] of a tuple -/
namespace HT
open PySem PySem.Spec PyProof.Rows PySem.Calls
section
variable {prog : Program} {w : World} {A : Around} {E : Value → Shared → Prop} {s : Shared}
theorem pick_back (xs : Array Value) : ((List.range xs.size).filterMap fun (m : Nat) => xs[(((xs.size : Int) - 1) + (m : Int) * (-1)).toNat]?).toArray = xs.toList.reverse.toArray := by
  have e : (List.range xs.size).filterMap (fun (m : Nat) => xs[(((xs.size : Int) - 1) + (m : Int) * (-1)).toNat]?) = ((List.range xs.size).map fun k => xs.size - 1 - k).filterMap (xs[·]?) := by
    rw [List.filterMap_map]
    have e : ∀ m : Nat, (((xs.size : Int) - 1) + (m : Int) * (-1)).toNat = xs.size - 1 - m := fun m => by omega
    have e2 : (fun (m : Nat) => xs[(((xs.size : Int) - 1) + (m : Int) * (-1)).toNat]?) = ((xs[·]?) ∘ fun k => xs.size - 1 - k) := by
      funext m
      rw [e m]
      rfl
    rw [e2]
  rw [e, PySem.W.krv_range, List.filterMap_reverse, PySem.W.krv_all]
theorem places_back (n : Nat) : Builtin.Slice.slicePlaces ((n : Int) - 1) (-1) (-1) = n := by
  unfold Builtin.Slice.slicePlaces
  have h1 : ¬ ((-1 : Int) > 0) := by omega
  simp only [h1, if_false, show (- -1 : Int) = 1 by decide, Int.ediv_one]
  split <;> omega
theorem sliceApplied_back {sl : Addr} {vl vu vs : Value} {n : Nat} {Q : Int × Int × Nat → Shared → Prop} (hs : s.heap.IsSliceOf sl vl vu vs) (pl : IsPart vl none) (pu : IsPart vu none) (ps : IsPart vs (some (-1)))
    (h : Q ((n : Int) - 1, -1, n) s) : wpAny (model prog w) A (Builtin.Slice.sliceApplied (.ref sl) (pure (n : Int))) Q E s := by
  obtain ⟨os, hos, hcs, hds⟩ := id hs
  unfold Builtin.Slice.sliceApplied Builtin.Slice.sliceFields
  refine wpAny_bind (wpAny_bind (wpAny_field hos hds (x := vl) rfl (wpAny_bind (wpAny_field hos hds (x := vu) rfl (wpAny_bind (wpAny_field hos hds (x := vs) rfl (wpAny_pure ?_)))))))
  refine wpAny_bind (slicePart_ ps ?_)
  show wpAny _ _ (if ((-1 : Int) == 0) = true then _ else _) _ _ s
  rw [if_neg (by decide)]
  refine wpAny_bind (slicePart_ pl (wpAny_bind (slicePart_ pu (wpAny_bind (wpAny_pure ?_)))))
  show wpAny _ _ (pure ((n : Int) - 1, (-1 : Int), Builtin.Slice.slicePlaces ((n : Int) - 1) (-1) (-1))) _ _ s
  rw [places_back]
  exact wpAny_pure h
theorem getItem_tuple_back {t sl : Addr} {items : Array Value} {vl vu vs : Value} {Q : Value → Shared → Prop} (ht : IsTup s.heap t items) (hs : s.heap.IsSliceOf sl vl vu vs) (pl : IsPart vl none) (pu : IsPart vu none) (ps : IsPart vs (some (-1)))
    (h : Q (.ref s.heap.objs.size) { s with heap := s.heap.push { cls := .type "tuple", data := .seq items.toList.reverse.toArray } })
    (hsz : items.size ≤ sizeLine) : wpAny (model prog w) A (getItem (.ref t) (.ref sl)) Q E s := by
  have htake : sizeOk (.seq items.toList.reverse.toArray) := by
    show items.toList.reverse.toArray.size ≤ sizeLine
    rw [List.size_toArray, List.length_reverse, Array.length_toList]
    exact hsz
  obtain ⟨os, hos, hcs, hds⟩ := id hs
  have hTs : s.TypeIs (.ref sl) "slice" := ⟨os, hos, hcs⟩
  unfold getItem
  try with_reducible refine wpAny_holding ?_
  first | refine wpAny_bind (wpAny_pure ?_) | skip
  refine wpAny_bind (wpAny_sequenceKey ht.typeIs (by decide) ?_)
  refine wpAny_bind (wpAny_callSpecial?_slot (name := Str.ofString "__getitem__") ht.typeIs PyProof.Rows.slot_tuple_getitem
    (wpAny_call_entry PyProof.Rows.slot_tuple_getitem ht.typeIs entry_tuple_getitem ?_ (args_tuple_getitem _ _)))
  show wpAny _ _ (Builtin.Tuple.tupleItemsOf (.ref t) >>= _) _ _ s
  refine wpAny_bind (tupleItemsOf_ ht ?_)
  refine wpAny_bind (wpAny_typeOf hTs ?_)
  rw [if_pos (by decide)]
  refine wpAny_bind (sliceApplied_back hs pl pu ps ?_)
  have hno : ¬ ((((items.size : Int) - 1) == 0 && (-1 : Int) == 1 && items.size == items.size) = true) := by
    intro q
    rw [Bool.and_eq_true, Bool.and_eq_true] at q
    exact absurd q.1.2 (by decide)
  show wpAny _ _ (if (((items.size : Int) - 1) == 0 && (-1 : Int) == 1 && items.size == items.size) = true then _ else _) _ _ s
  rw [if_neg hno, pick_back]
  first
    | exact wpAny_bind (m := Builtin.Tuple.tupleExact _) (wpAny_newObj_type (wpAny_pure ⟨_, rfl, wpAny_pure h⟩) htake)
    | exact wpAny_bind (m := Builtin.Tuple.tupleExact _) (wpAny_newObj_type (wpAny_bind (wpAny_pure (wpAny_pure ⟨_, rfl, wpAny_pure h⟩))) htake)
    | exact wpAny_bind (wpAny_bind (m := Builtin.Tuple.tupleExact _) (wpAny_newObj_type (wpAny_pure (wpAny_pure ⟨_, rfl, wpAny_pure h⟩)) htake))
    | exact wpAny_bind (wpAny_bind (m := Builtin.Tuple.tupleExact _) (wpAny_newObj_type (wpAny_pure ⟨_, rfl, wpAny_pure h⟩) htake))
end
end HT
namespace Lv
open PySem PySem.Spec L2
section
variable {X : Cx} {z : Ent} {pos : Pos}
open PyProof.Rows in
/-- x[::-1] of a list or a tuple -/
def tRev (K : PySem.W.Frag) (te : TE) : TE := fun σ H Q => te σ H fun x H1 => ∃ a xs, x = .ref a ∧ ((SqL K H1 a xs ∧ ∀ p, H1 p = none → Q (.ref p) (upd H1 p (.lst xs.reverse))) ∨ (SqT K H1 a xs ∧ ∀ p, H1 p = none → Q (.ref p) (upd H1 p (.tup xs.reverse))))
open PyProof.Rows in
theorem pe_rev {e : Expr} {te : TE} {k : Nat} {p1 p2 p3 pos : Pos} (he : PE X e te) : PE X (.Subscript e (.Slice none none (some (.UnaryOp .USub (.Constant (.int 1) k p1) p2)) p3) pos) (tRev X.K te) := by
  refine ⟨fun pins s σ H Q I h => ?_⟩
  refine PyProof.Rows.Subscript_ (thn (he.run pins s σ H _ I h) fun v s1 ⟨x, H1, I1, r1, q1⟩ => ?_)
  obtain ⟨a, xs, ex, hx⟩ := q1
  subst ex
  cases r1
  have hst : PO X (some (.UnaryOp .USub (.Constant (.int 1) k p1) p2)) (tPart (tUn (rU fun i => .int (-i)) (tC (.int 1)))) := po_some (pe_un un_neg pe_int)
  refine wpAny_Slice (thn (po_none.run pins s1 σ H1 (fun o H2 => o = none ∧ H2 = H1) I1 ⟨rfl, rfl⟩) fun vl s2 ⟨l, H2, I2, pl, el, e2⟩ => ?_)
  subst el e2
  refine thn (po_none.run pins s2 σ H2 (fun o H3 => o = none ∧ H3 = H2) I2 ⟨rfl, rfl⟩) fun vu s3 ⟨u, H3, I3, pu, eu, e3⟩ => ?_
  subst eu e3
  refine thn (hst.run pins s3 σ H3 (fun o H4 => o = some (-1) ∧ H4 = H3) I3 ⟨1, rfl, -1, rfl, rfl, rfl⟩) fun vs s4 ⟨o, H4, I4, ps, eo, e4⟩ => ?_
  subst eo e4
  have I5 : Inv X pins σ H4 { s4 with heap := s4.heap.push { cls := .type "slice", data := .fields #[vl, vu, vs] } } := I4.kept (t' := s4.toks) fun b ob q => Heap.get?_push_of_some _ q
  show wpAny (model X.prog X.w) X.A (subscriptTail e (.Slice none none (some (.UnaryOp .USub (.Constant (.int 1) k p1) p2)) p3) (.ref a) (.ref s4.heap.objs.size)) (EP X pins σ Q) X.xe { s4 with heap := s4.heap.push { cls := .type "slice", data := .fields #[vl, vu, vs] } }
  rcases hx with ⟨hx, q⟩ | ⟨hx, q⟩
  · obtain ⟨its, r, ht, hz⟩ := I5.list hx
    have hlen := r.length
    refine tail_any (ops := [.ref a, .ref s4.heap.objs.size]) ht.isList.typeIs (PySem.slot_list_getitem.lookup) ?_ (by with_unfolding_all rfl)
    refine wpAny_getItem_list_slice ht.isList (Heap.IsSliceOf.new _ vl vu vs) pl pu ps (by decide) ?_ (by rw [List.size_toArray]; omega)
    rw [PySem.W.krv_pick]
    refine ⟨.ref _, _, I5.laid (t' := s4.toks) (o := .lst xs.reverse) (fun b ob q => Heap.get?_push_of_some _ q) (Nat.le_refl _) ?_, rfl, q _ (I5.hok.fresh (Nat.le_refl _))⟩
    exact ⟨by rw [List.length_reverse]; exact hz, _, 0, r.reverse, Heap.get?_push_size _ rfl⟩
  · obtain ⟨its, r, ht, hz⟩ := I5.tuple hx
    have hlen := r.length
    refine tail_any (ops := [.ref a, .ref s4.heap.objs.size]) ht.typeIs (PyProof.Rows.slot_tuple_getitem.lookup) ?_ (by with_unfolding_all rfl)
    refine HT.getItem_tuple_back ht (Heap.IsSliceOf.new _ vl vu vs) pl pu ps ?_ (by rw [List.size_toArray]; omega)
    refine ⟨.ref _, _, I5.laid (t' := s4.toks) (o := .tup xs.reverse) (fun b ob q => Heap.get?_push_of_some _ q) (Nat.le_refl _) ?_, rfl, q _ (I5.hok.fresh (Nat.le_refl _))⟩
    exact ⟨by rw [List.length_reverse]; exact hz, _, r.reverse, ⟨_, Heap.get?_push_size _ rfl, rfl, _, rfl⟩⟩
def sRev (d : D) (P : Bool → D → Prop) : Prop := match d with
  | .lst ds => P true (.lst ds.reverse)
  | .tup ds => P false (.tup ds.reverse)
  | .scr ns => P true (.lst (ns.map .int).reverse)
  | _ => False
theorem sem_rev : Sem1 z (fun x H Q => ∃ a xs, x = .ref a ∧ ((SqL z.K H a xs ∧ ∀ p, H p = none → Q (.ref p) (upd H p (.lst xs.reverse))) ∨ (SqT z.K H a xs ∧ ∀ p, H p = none → Q (.ref p) (upd H p (.tup xs.reverse))))) sRev := fun w F He H x d P Q wd dx q k => by
  unfold sRev at q
  split at q
  · obtain ⟨a, vs, rfl, ha, ra⟩ := dx.lst wd.sf
    exact ⟨a, vs, rfl, .inl ⟨.of ha, fun p hp => res_new wd hp (.lst ra.reverse) q k⟩⟩
  · obtain ⟨a, vs, rfl, ha, ra⟩ := dx.tup wd.sf
    exact ⟨a, vs, rfl, .inr ⟨.of ha, fun p hp => res_tup wd hp ra.reverse q k⟩⟩
  · obtain ⟨a, rfl, ha⟩ := dx.scr wd.sf
    exact ⟨a, _, rfl, .inl ⟨ha, fun p hp => res_new wd hp (.lst (DRs.ofInts _).reverse) q k⟩⟩
  · exact q.elim
theorem jx_rev {e : Expr} {te : DO} {k : Nat} {p1 p2 p3 : Pos} (hK : z.K = X.K) (he : JO X z e te) : JX X z (.Subscript e (.Slice none none (some (.UnaryOp .USub (.Constant (.int 1) k p1) p2)) p3) pos) (dUn sRev te) :=
  PE.imp (pe_rev he) fun _ _ _ h => by rw [← hK]; exact un1 sem_rev h
end
end Lv

namespace Lv
open PySem PySem.Spec L2
section
variable {X : Cx} {z : Ent} {pos : Pos}

/-! ### in, not in -/
def inD (d : D) (ds : List D) : Bool := ds.any fun y => y.eqv d
def sIn (neg : Bool) (d e : D) (P : Bool → D → Prop) : Prop := match e, d with
  | .lst ds, d => d.pl = true ∧ plAll ds = true ∧ d.py.depth ≤ 64 ∧ P false (.bl (if neg then !inD d ds else inD d ds))
  | .tup ds, d => d.pl = true ∧ plAll ds = true ∧ d.py.depth ≤ 64 ∧ P false (.bl (if neg then !inD d ds else inD d ds))
  | .str y, .str x => P false (.bl (if neg then !(!(Builtin.Str.occurrences y x 0 y.length 1).isEmpty) else !(Builtin.Str.occurrences y x 0 y.length 1).isEmpty))
  | .dK kvs, .int i => P false (.bl (if neg then !(valD kvs (.inl i)).isSome else (valD kvs (.inl i)).isSome))
  | .dK kvs, .str i => P false (.bl (if neg then !(valD kvs (.inr i)).isSome else (valD kvs (.inr i)).isSome))
  | .dT kvs, .tup ds => ∃ ks, ds = ks.map kD ∧ P false (.bl (if neg then !(valD kvs ks).isSome else (valD kvs ks).isSome))
  | .fK kvs, .int i => P false (.bl (if neg then !(valD kvs (.inl i)).isSome else (valD kvs (.inl i)).isSome))
  | .fT kvs, .tup ds => ∃ ks, ds = ks.map kD ∧ P false (.bl (if neg then !(valD kvs ks).isSome else (valD kvs ks).isSome))
  | _, _ => False
def rInA (K : PySem.W.Frag) (neg : Bool) : R2 := fun x y H Q =>
  (∃ d ds, Dp K H x d ∧ (Dp K H y (.list ds) ∨ Dp K H y (.tuple ds)) ∧ d.plain = true ∧ PyData.plainAll ds = true ∧ d.depth ≤ 64 ∧ Q (.bl (if neg then !(ds.any fun w => PyData.eqv w d) else ds.any fun w => PyData.eqv w d)) H) ∨
  (∃ i j, x = .str i ∧ y = .str j ∧ Q (.bl (if neg then !(!(Builtin.Str.occurrences j i 0 j.length 1).isEmpty) else !(Builtin.Str.occurrences j i 0 j.length 1).isEmpty)) H) ∨
  ∃ a o, y = .ref a ∧ DGet H a x o ∧ Q (.bl (if neg then !o.isSome else o.isSome)) H
theorem op_inA (hu : X.A.units + 65 < cLine) : OpR X (compareOp .In) (rInA X.K false) := by
  intro pins s σ H x y v u Q I rx ry h
  rcases h with ⟨d, ds, hd, hl, pd, pl, dd, q⟩ | ⟨i, j, rfl, rfl, q⟩ | ⟨a, o, rfl, g, q⟩
  · obtain ⟨as, r1⟩ := Dp.reads I d x v hd rx
    have hm : X.A.units + 1 + min (PyData.depthAll ds) d.depth < cLine := by
      have := Nat.min_le_right (PyData.depthAll ds) d.depth
      omega
    rcases hl with hl | hl
    · obtain ⟨bs, r2⟩ := Dp.reads I (.list ds) y u hl ry
      exact SeqAt.in_list_data r2 r1 pl pd hm ⟨.bl _, H, I, rfl, q⟩
    · obtain ⟨bs, r2⟩ := Dp.reads I (.tuple ds) y u hl ry
      exact SeqAt.in_tuple_data r2 r1 pl pd hm ⟨.bl _, H, I, rfl, q⟩
  · exact op_in_str pins s σ H _ _ v u Q I rx ry ⟨i, j, rfl, rfl, q⟩
  · cases ry
    exact d_in (by omega) I g rx fun s' I' => ⟨.bl _, H, I', rfl, q⟩
theorem op_notInA (hu : X.A.units + 65 < cLine) : OpR X (compareOp .NotIn) (rInA X.K true) := by
  intro pins s σ H x y v u Q I rx ry h
  rcases h with ⟨d, ds, hd, hl, pd, pl, dd, q⟩ | ⟨i, j, rfl, rfl, q⟩ | ⟨a, o, rfl, g, q⟩
  · obtain ⟨as, r1⟩ := Dp.reads I d x v hd rx
    have hm : X.A.units + 1 + min (PyData.depthAll ds) d.depth < cLine := by
      have := Nat.min_le_right (PyData.depthAll ds) d.depth
      omega
    rcases hl with hl | hl
    · obtain ⟨bs, r2⟩ := Dp.reads I (.list ds) y u hl ry
      exact SeqAt.notIn_list_data r2 r1 pl pd hm ⟨.bl _, H, I, rfl, q⟩
    · obtain ⟨bs, r2⟩ := Dp.reads I (.tuple ds) y u hl ry
      exact SeqAt.notIn_tuple_data r2 r1 pl pd hm ⟨.bl _, H, I, rfl, q⟩
  · exact op_notin_str pins s σ H _ _ v u Q I rx ry ⟨i, j, rfl, rfl, q⟩
  · cases ry
    exact d_notIn (by omega) I g rx fun s' I' => ⟨.bl _, H, I', rfl, q⟩
theorem any_py (d : D) : ∀ ds : List D, ((pyAll ds).any fun w => PyData.eqv w d.py) = inD d ds
  | [] => rfl
  | e :: ds => by
    have := any_py d ds
    simp only [pyAll, List.any_cons, inD] at this ⊢
    rw [this]
    rfl
theorem sem_in (neg : Bool) : Sem2 z (rInA z.K neg) (sIn neg) := fun w F He H x y d e P Q wd dx dy q k => by
  unfold sIn at q
  split at q
  · next ds =>
    obtain ⟨p1, p2, p3, q⟩ := q
    have hl := dy.dp wd.sf (by simpa [D.pl] using p2)
    rw [D.py] at hl
    exact .inl ⟨d.py, pyAll ds, dx.dp wd.sf p1, .inl hl, plain_py d, plain_pyAll ds, p3, by rw [any_py]; exact res_at wd (.bl _) q k⟩
  · next ds =>
    obtain ⟨p1, p2, p3, q⟩ := q
    have hl := dy.dp wd.sf (by simpa [D.pl] using p2)
    rw [D.py] at hl
    exact .inl ⟨d.py, pyAll ds, dx.dp wd.sf p1, .inr hl, plain_py d, plain_pyAll ds, p3, by rw [any_py]; exact res_at wd (.bl _) q k⟩
  · exact .inr (.inl ⟨_, _, dx.str, dy.str, res_at wd (.bl _) q k⟩)
  · obtain ⟨a, vs, rfl, ha, ra⟩ := dy.dK wd.sf
    have := dx.int; subst x
    refine .inr (.inr ⟨a, _, rfl, DGet.k (k := .inl _) ha, ?_⟩)
    rcases ra.val (k := .inl _) with ⟨h1, h2⟩ | ⟨v, c', h1, h2, rv⟩
    · rw [h1]; rw [h2] at q; exact res_at wd (.bl _) q k
    · rw [h1]; rw [h2] at q; exact res_at wd (.bl _) q k
  · obtain ⟨a, vs, rfl, ha, ra⟩ := dy.dK wd.sf
    have := dx.str; subst x
    refine .inr (.inr ⟨a, _, rfl, DGet.k (k := .inr _) ha, ?_⟩)
    rcases ra.val (k := .inr _) with ⟨h1, h2⟩ | ⟨v, c', h1, h2, rv⟩
    · rw [h1]; rw [h2] at q; exact res_at wd (.bl _) q k
    · rw [h1]; rw [h2] at q; exact res_at wd (.bl _) q k
  · obtain ⟨ks, rfl, q⟩ := q
    obtain ⟨a, vs, rfl, ha, ra⟩ := dy.dT wd.sf
    obtain ⟨b, us, rfl, hb, rb⟩ := dx.tup wd.sf
    have := rb.keys; subst us
    refine .inr (.inr ⟨a, _, rfl, DGet.t ha hb, ?_⟩)
    rcases ra.val (k := ks) with ⟨h1, h2⟩ | ⟨v, c', h1, h2, rv⟩
    · rw [h1]; rw [h2] at q; exact res_at wd (.bl _) q k
    · rw [h1]; rw [h2] at q; exact res_at wd (.bl _) q k
  · obtain ⟨a, ob, vs, rfl, ha, ra⟩ := dy.fK
    have := dx.int; subst x
    refine .inr (.inr ⟨a, _, rfl, .inl ⟨_, .inl _, .inr ⟨_, ha⟩, rfl, rfl⟩, ?_⟩)
    rcases ra.val (k := .inl _) with ⟨h1, h2⟩ | ⟨v, c', h1, h2, rv⟩
    · rw [h1]; rw [h2] at q; exact res_at wd (.bl _) q k
    · rw [h1]; rw [h2] at q; exact res_at wd (.bl _) q k
  · obtain ⟨ks, rfl, q⟩ := q
    obtain ⟨a, ob, vs, rfl, ha, ra⟩ := dy.fT
    obtain ⟨b, us, rfl, hb, rb⟩ := dx.tup wd.sf
    have := rb.keys; subst us
    refine .inr (.inr ⟨a, _, rfl, .inr ⟨_, ks, b, .inr ⟨_, ha⟩, rfl, hb, rfl⟩, ?_⟩)
    rcases ra.val (k := ks) with ⟨h1, h2⟩ | ⟨v, c', h1, h2, rv⟩
    · rw [h1]; rw [h2] at q; exact res_at wd (.bl _) q k
    · rw [h1]; rw [h2] at q; exact res_at wd (.bl _) q k
  · exact q.elim

/-! ### argument lists, displays -/
def dNil  : DA := fun _ w Q => Q [] w
def dCons  (t : DX) (ts : DA) : DA := fun δ w Q => t δ w fun _ d w1 => ts δ w1 fun ds w2 => Q (d :: ds) w2
theorem ja_nil : JA X z [] dNil := PA.imp pa_nil fun σ H Q ⟨δ, w, F, He, P, R, q, k⟩ => k _ _ q [] H F He R.wd .refl .nil
theorem ja_cons {e : Expr} {es : List Expr} {t : DX} {ts : DA} (ha : JX X z e t) (hr : JA X z es ts) (hs : starEach (e :: es) X.env = (false, eval e X.env) :: starEach es X.env := by rfl) : JA X z (e :: es) (dCons t ts) :=
  PA.imp (pa_cons ha hr hs) fun σ H Q ⟨δ, w, F, He, P, R, q, k⟩ => by
    refine ⟨δ, w, F, He, _, R, q, fun b d w1 q1 x H1 F1 He1 wd1 st1 r1 => ?_⟩
    obtain ⟨F2, st2, wd2, r2, s2⟩ := r1.thaw st1 wd1
    refine ⟨δ, w1, F2, He1, _, R.step wd2 st2, q1, fun ds w2 q2 vs H3 F3 He3 wd3 st3 r3 => ?_⟩
    exact k _ _ q2 _ H3 F3 He3 wd3 (st2.trans st3) (.cons (r2.mono st3.fz) r3)
def dTup  (t : DA) : DX := fun δ w Q => t δ w fun ds w1 => ds.length ≤ sizeLine ∧ Q false (.tup ds) w1
def dLst  (t : DA) : DX := fun δ w Q => t δ w fun ds w1 => ds.length ≤ sizeLine ∧ Q true (.lst ds) w1
theorem jx_tup {es : List Expr} {t : DA} {x1 : Nat} (h : JA X z es t) : JX X z (.Tuple es x1 pos) (dTup t) := PE.imp (pe_tup h) fun σ H Q ⟨δ, w, F, He, P, R, q, k⟩ => by
  refine ⟨δ, w, F, He, _, R, q, fun ds w1 q1 vs H1 F1 He1 wd1 st1 r1 => ⟨by rw [r1.length]; exact q1.1, fun p hp => ?_⟩⟩
  exact res_tup (z := z) (P := fun b d => P b d w1) wd1 hp r1 q1.2 fun b d' p v H' F' He' wd st rr => k b d' w1 p v H' F' He' wd (st1.trans st) (rr.base st1)
theorem jx_lst {es : List Expr} {t : DA} (h : JA X z es t) : JX X z (.List es pos) (dLst t) := PE.imp (pe_lst h) fun σ H Q ⟨δ, w, F, He, P, R, q, k⟩ => by
  refine ⟨δ, w, F, He, _, R, q, fun ds w1 q1 vs H1 F1 He1 wd1 st1 r1 => ⟨by rw [r1.length]; exact q1.1, fun p hp => ?_⟩⟩
  exact res_new (z := z) (P := fun b d => P b d w1) wd1 hp (.lst r1) q1.2 fun b d' p v H' F' He' wd st rr => k b d' w1 p v H' F' He' wd (st1.trans st) (rr.base st1)
def dDicK  : DX := fun _ w Q => Q true (.dK []) w
def dDicT  : DX := fun _ w Q => Q true (.dT []) w
theorem jx_dicK : JX X z (.Dict [] [] pos) dDicK := PE.imp pe_dnewK fun σ H Q ⟨δ, w, F, He, P, R, q, k⟩ p hp => res_new (z := z) (P := fun b d => P b d w) R.wd hp (.dK .nil) q fun b d' p => k b d' w p
theorem jx_dicT : JX X z (.Dict [] [] pos) dDicT := PE.imp pe_dnewT fun σ H Q ⟨δ, w, F, He, P, R, q, k⟩ p hp => res_new (z := z) (P := fun b d => P b d w) R.wd hp (.dT .nil) q fun b d' p => k b d' w p

/-! ### slices -/
abbrev DP  := DSt → Om → (Option Int → Om → Prop) → Prop
def liftP (z : Ent) (t : DP) : TO := fun σ H Q => ∃ δ w F He P, Rel z δ w F He σ H ∧ t δ w P ∧ ∀ o w', P o w' → ∀ H' F' He', Wd z.K w' F' He' H' → Step F He H F' He' H' → Q o H'
theorem PO.imp {X : Cx} {e : Option Expr} {t t' : TO} (h : PO X e t) (f : ∀ σ H Q, t' σ H Q → t σ H Q) : PO X e t' := ⟨fun pins s σ H Q I q => h.run pins s σ H Q I (f σ H Q q)⟩
def dNoP  : DP := fun _ w Q => Q none w
def dP  (t : DO) : DP := fun δ w Q => t δ w fun d w1 => match d with
  | .int i => Q (some i) w1
  | _ => False
theorem jp_none : PO X none (liftP z dNoP) := PO.imp po_none fun σ H Q ⟨δ, w, F, He, P, R, q, k⟩ => k _ _ q H F He R.wd .refl
theorem jp_some {e : Expr} {t : DO} (h : JO X z e t) : PO X (some e) (liftP z (dP t)) := PO.imp (po_some h) fun σ H Q ⟨δ, w, F, He, P, R, q, k⟩ => by
  refine ⟨δ, w, F, He, _, R, q, fun d w1 q1 v H1 F1 He1 wd1 st1 r1 => ?_⟩
  cases d with
  | int i => exact ⟨i, r1.dt.int, k _ _ q1 H1 F1 He1 wd1 st1⟩
  | _ => exact q1.elim
def cutD {α : Type} (xs : List α) (lo hi : Option Int) : List α := (xs.drop (HT.sIx xs.length 0 lo)).take (HT.sIx xs.length xs.length hi - HT.sIx xs.length 0 lo)
def sSl (d : D) (lo hi : Option Int) (P : Bool → D → Prop) : Prop := match d with
  | .lst ds => P true (.lst (cutD ds lo hi))
  | .tup ds => P false (.tup (cutD ds lo hi))
  | .str x => x.length ≤ sizeLine ∧ P false (.str (cutS x lo hi))
  | .scr ns => P true (.lst ((cutD ns lo hi).map .int))
  | _ => False
def rSlD (K : PySem.W.Frag) : V → Option Int → Option Int → Hp → VK → Prop := fun x lo hi H Q => rSlL K x lo hi H Q ∨ rSlA K x lo hi H Q ∨ rSlS x lo hi H Q
theorem sl_all : SlR X (rSlD X.K) := sl_list.or (sl_tupA.or sl_str)
theorem cut_rel {K : PySem.W.Frag} {F : Hp} {vs : List V} {ds : List D} (r : DRs K F vs ds) (lo hi : Option Int) : DRs K F (cutV vs lo hi) (cutD ds lo hi) := by
  unfold cutV cutD
  rw [r.length]
  exact (r.drop _).take _
theorem cut_whole {α : Type} {xs : List α} {lo hi : Option Int} (h : HT.sIx xs.length 0 lo = 0 ∧ HT.sIx xs.length xs.length hi = xs.length) : cutD xs lo hi = xs := by
  unfold cutD
  rw [h.1, h.2]
  simp
theorem sem_sl {w : Om} {F He H : Hp} {x : V} {d : D} {lo hi : Option Int} {P : Bool → D → Prop} {Q : VK} (wd : Wd z.K w F He H) (dx : DT z.K F He H x d) (q : sSl d lo hi P)
    (k : ∀ b d', P b d' → ∀ v H' F' He', Wd z.K w F' He' H' → Step F He H F' He' H' → Res z.K F' He' H H' b v d' → Q v H') : rSlD z.K x lo hi H Q := by
  unfold sSl at q
  split at q
  · obtain ⟨a, vs, rfl, ha, ra⟩ := dx.lst wd.sf
    exact .inl ⟨a, vs, rfl, .of ha, fun p hp => res_new wd hp (.lst (cut_rel ra lo hi)) q k⟩
  · obtain ⟨a, vs, e, ha, ra⟩ := dx.tup wd.sf
    refine .inr (.inl ⟨a, vs, e, .of ha, fun hw => ?_, fun _ p hp => res_tup wd hp (cut_rel ra lo hi) q k⟩)
    rw [ra.length] at hw
    rw [cut_whole hw] at q
    rw [← e]; exact res_at wd dx.dr_tup q k
  · exact .inr (.inr ⟨_, dx.str, q.1, res_at wd (.str _) q.2 k⟩)
  · next ns =>
    obtain ⟨a, rfl, ha⟩ := dx.scr wd.sf
    refine .inl ⟨a, _, rfl, ha, fun p hp => res_new wd hp (.lst ?_) q k⟩
    have e : cutV (List.map V.int ns) lo hi = (cutD ns lo hi).map V.int := by
      unfold cutV cutD
      rw [List.length_map, List.map_take, List.map_drop]
    rw [e]
    exact DRs.ofInts _
  · exact q.elim
def dSl  (t : DO) (l h : DP) : DX := fun δ w Q => t δ w fun d w1 => l δ w1 fun lo w2 => h δ w2 fun hi w3 => sSl (res w3 d) lo hi fun b d' => Q b d' w3
theorem jx_sl {e : Expr} {lo hi : Option Expr} {t : DO} {tl th : DP} {p2 : Pos} (hK : z.K = X.K) (he : JO X z e t) (hl : PO X lo (liftP z tl)) (hh : PO X hi (liftP z th)) : JX X z (.Subscript e (.Slice lo hi none p2) pos) (dSl t tl th) :=
  PE.imp (pe_slice sl_all he hl hh) fun σ H Q ⟨δ, w, F, He, P, R, q, k⟩ => by
    refine ⟨δ, w, F, He, _, R, q, fun d w1 q1 v H1 F1 He1 wd1 st1 r1 => ?_⟩
    refine ⟨δ, w1, F1, He1, _, R.step wd1 st1, q1, fun o w2 q2 H2 F2 He2 wd2 st2 => ?_⟩
    refine ⟨δ, w2, F2, He2, _, (R.step wd1 st1).step wd2 st2, q2, fun o' w3 q3 H3 F3 He3 wd3 st3 => ?_⟩
    have st := st1.trans (st2.trans st3)
    show rSlD X.K v o o' H3 Q
    rw [← hK]
    exact sem_sl wd3 (res_ok wd3.ex wd3.sh (r1.step (st2.trans st3))) q3 fun b d' p v H' F' He' wd s' rr => k b d' w3 p v H' F' He' wd (st.trans s') (rr.base st)

/-! ### truth, and, or, not, if -/
def dTru  (t : DO) : DTs_ := fun δ w Q => t δ w fun d w1 => match res w1 d with
  | .non => Q false w1
  | .bl k => Q k w1
  | .int i => Q (i != 0) w1
  | .str x => x.length ≤ sizeLine ∧ Q ((x.length : Int) != 0) w1
  | .lst ds => Q (!ds.isEmpty) w1
  | .tup ds => Q (!ds.isEmpty) w1
  | .scr ds => Q (!ds.isEmpty) w1
  | .dK ds => Q (!ds.isEmpty) w1
  | _ => False
theorem isEmpty_len {α β : Type} {xs : List α} {ys : List β} (h : xs.length = ys.length) : xs.isEmpty = ys.isEmpty := by
  cases xs <;> cases ys <;> simp at h <;> rfl
theorem jt_tru {e : Expr} {t : DO} (hK : z.K = X.K) (h : JO X z e t) (he : ∀ whole, isTrue e X.env whole = (do let v ← whole; standAt e.pos; holding [v] (truthy v)) := by exact fun _ => rfl) : JT X z e (dTru t) :=
  PT.imp (pt_truth h he) fun σ H Q ⟨δ, w, F, He, P, R, q, k⟩ => by
    refine ⟨δ, w, F, He, _, R, q, fun d w1 q1 v H1 F1 He1 wd1 st1 r1 => ?_⟩
    have fin : ∀ b, P b w1 → Q b H1 := fun b p => k b w1 p H1 F1 He1 wd1 st1
    show ∃ k, TruV X.K v H1 k ∧ Q k H1
    rw [← hK]
    have r1 := res_ok wd1.ex wd1.sh r1
    generalize res w1 d = d at q1 r1
    cases d with
    | non => cases r1.non; exact ⟨_, rfl, fin _ q1⟩
    | bl c => cases r1.bl; exact ⟨_, rfl, fin _ q1⟩
    | int i => cases r1.int; exact ⟨_, rfl, fin _ q1⟩
    | str x => cases r1.str; exact ⟨_, ⟨q1.1, rfl⟩, fin _ q1.2⟩
    | lst ds => obtain ⟨a, vs, rfl, ha, ra⟩ := r1.lst wd1.sf; exact ⟨_, .inl ⟨vs, .of ha, rfl⟩, fin _ (by rw [isEmpty_len ra.length]; exact q1)⟩
    | tup ds => obtain ⟨a, vs, rfl, ha, ra⟩ := r1.tup wd1.sf; exact ⟨_, .inr (.inl ⟨vs, .of ha, rfl⟩), fin _ (by rw [isEmpty_len ra.length]; exact q1)⟩
    | scr ds => obtain ⟨a, rfl, ha⟩ := r1.scr wd1.sf; exact ⟨_, .inl ⟨_, ha, rfl⟩, fin _ (by rw [isEmpty_len (List.length_map (as := ds) V.int)]; exact q1)⟩
    | dK ds => obtain ⟨a, vs, rfl, ha, ra⟩ := r1.dK wd1.sf; exact ⟨_, .inr (.inr ⟨vs, ha, rfl⟩), fin _ (by rw [isEmpty_len ra.length]; exact q1)⟩
    | _ => exact q1.elim
def dTNot  (t : DTs_) : DTs_ := fun δ w Q => t δ w fun k w1 => Q (!k) w1
def dTAnd  (t u : DTs_) : DTs_ := fun δ w Q => t δ w fun k w1 => if k = true then u δ w1 Q else Q false w1
def dTOr  (t u : DTs_) : DTs_ := fun δ w Q => t δ w fun k w1 => if k = true then Q true w1 else u δ w1 Q
theorem jt_not {a : Expr} {t : DTs_} (h : JT X z a t) : JT X z (.UnaryOp .Not a pos) (dTNot t) := PT.imp (pt_not h) fun σ H Q ⟨δ, w, F, He, P, R, q, k⟩ =>
  ⟨δ, w, F, He, _, R, q, fun b w1 q1 => k _ w1 q1⟩
abbrev JW (X : Cx) (z : Ent) (e : Expr) (t : DTs_) : Prop := PW X e (liftT z t)
theorem jw_and1 {a : Expr} {t : DTs_} (h : JT X z a t) : JW X z (.BoolOp .And [a] pos) t := pw_and1 h
theorem jw_or1 {a : Expr} {t : DTs_} (h : JT X z a t) : JW X z (.BoolOp .Or [a] pos) t := pw_or1 h
theorem jw_and {a b : Expr} {rest : List Expr} {t u : DTs_} (ha : JT X z a t) (hb : JW X z (.BoolOp .And (b :: rest) pos) u) : JW X z (.BoolOp .And (a :: b :: rest) pos) (dTAnd t u) := PW.imp (pw_and ha hb) fun σ H Q ⟨δ, w, F, He, P, R, q, k⟩ => by
  refine ⟨δ, w, F, He, _, R, q, fun b w1 q1 H1 F1 He1 wd1 st1 => ?_⟩
  cases b with
  | true => exact ⟨δ, w1, F1, He1, _, R.step wd1 st1, q1, fun c w2 q2 H2 F2 He2 wd2 st2 => k c w2 q2 H2 F2 He2 wd2 (st1.trans st2)⟩
  | false => exact k _ w1 q1 H1 F1 He1 wd1 st1
theorem jw_or {a b : Expr} {rest : List Expr} {t u : DTs_} (ha : JT X z a t) (hb : JW X z (.BoolOp .Or (b :: rest) pos) u) : JW X z (.BoolOp .Or (a :: b :: rest) pos) (dTOr t u) := PW.imp (pw_or ha hb) fun σ H Q ⟨δ, w, F, He, P, R, q, k⟩ => by
  refine ⟨δ, w, F, He, _, R, q, fun b w1 q1 H1 F1 He1 wd1 st1 => ?_⟩
  cases b with
  | false => exact ⟨δ, w1, F1, He1, _, R.step wd1 st1, q1, fun c w2 q2 H2 F2 He2 wd2 st2 => k c w2 q2 H2 F2 He2 wd2 (st1.trans st2)⟩
  | true => exact k _ w1 q1 H1 F1 He1 wd1 st1
theorem jt_w {e : Expr} {t : DTs_} (h : JW X z e t) : JT X z e t := PW.pt h
/-- as values, all but the last True or False -/
def dAndV  (t u : DX) : DX := fun δ w Q => t δ w fun _ d w1 => match d with
  | .bl k => if k = true then u δ w1 Q else Q false (.bl false) w1
  | _ => False
def dOrV  (t u : DX) : DX := fun δ w Q => t δ w fun _ d w1 => match d with
  | .bl k => if k = true then Q false (.bl true) w1 else u δ w1 Q
  | _ => False
def dNotV  (t : DX) : DX := fun δ w Q => t δ w fun _ d w1 => match d with
  | .bl k => Q false (.bl (!k)) w1
  | _ => False
theorem jx_one {op : BoolOp} {a : Expr} {t : DX} (h : JX X z a t) : JX X z (.BoolOp op [a] pos) t := pe_one h
theorem jx_and {a b : Expr} {rest : List Expr} {t u : DX} (ha : JX X z a t) (hb : JX X z (.BoolOp .And (b :: rest) pos) u) : JX X z (.BoolOp .And (a :: b :: rest) pos) (dAndV t u) := PE.imp (pe_and ha hb) fun σ H Q ⟨δ, w, F, He, P, R, q, k⟩ => by
  refine ⟨δ, w, F, He, _, R, q, fun b d w1 q1 v H1 F1 He1 wd1 st1 r1 => ?_⟩
  cases d with
  | bl c =>
    have := r1.dt.bl; subst v
    refine ⟨c, rfl, ?_⟩
    cases c with
    | true => exact ⟨δ, w1, F1, He1, _, R.step wd1 st1, q1, fun b d w2 q2 v H2 F2 He2 wd2 st2 rr => k b d w2 q2 v H2 F2 He2 wd2 (st1.trans st2) (rr.base st1)⟩
    | false => exact k _ _ w1 q1 _ H1 F1 He1 wd1 st1 (.bl _)
  | _ => exact q1.elim
theorem jx_or {a b : Expr} {rest : List Expr} {t u : DX} (ha : JX X z a t) (hb : JX X z (.BoolOp .Or (b :: rest) pos) u) : JX X z (.BoolOp .Or (a :: b :: rest) pos) (dOrV t u) := PE.imp (pe_or ha hb) fun σ H Q ⟨δ, w, F, He, P, R, q, k⟩ => by
  refine ⟨δ, w, F, He, _, R, q, fun b d w1 q1 v H1 F1 He1 wd1 st1 r1 => ?_⟩
  cases d with
  | bl c =>
    have := r1.dt.bl; subst v
    refine ⟨c, rfl, ?_⟩
    cases c with
    | false => exact ⟨δ, w1, F1, He1, _, R.step wd1 st1, q1, fun b d w2 q2 v H2 F2 He2 wd2 st2 rr => k b d w2 q2 v H2 F2 He2 wd2 (st1.trans st2) (rr.base st1)⟩
    | true => exact k _ _ w1 q1 _ H1 F1 He1 wd1 st1 (.bl _)
  | _ => exact q1.elim
theorem jx_not {a : Expr} {t : DX} (h : JX X z a t) : JX X z (.UnaryOp .Not a pos) (dNotV t) := PE.imp (pe_not h) fun σ H Q ⟨δ, w, F, He, P, R, q, k⟩ => by
  refine ⟨δ, w, F, He, _, R, q, fun b d w1 q1 v H1 F1 He1 wd1 st1 r1 => ?_⟩
  cases d with
  | bl c =>
    have := r1.dt.bl; subst v
    exact ⟨c, rfl, k _ _ w1 q1 _ H1 F1 He1 wd1 st1 (.bl _)⟩
  | _ => exact q1.elim
def dIfX  (c : DTs_) (t u : DX) : DX := fun δ w Q => c δ w fun k w1 => if k = true then t δ w1 Q else u δ w1 Q
theorem jx_if {c a b : Expr} {tc : DTs_} {t u : DX} (hc : JT X z c tc) (ha : JX X z a t) (hb : JX X z b u) : JX X z (.IfExp c a b pos) (dIfX tc t u) := PE.imp (pe_ifExp hc ha hb) fun σ H Q ⟨δ, w, F, He, P, R, q, k⟩ => by
  refine ⟨δ, w, F, He, _, R, q, fun c w1 q1 H1 F1 He1 wd1 st1 => ?_⟩
  cases c <;> exact ⟨δ, w1, F1, He1, _, R.step wd1 st1, q1, fun b d w2 q2 v H2 F2 He2 wd2 st2 rr => k b d w2 q2 v H2 F2 He2 wd2 (st1.trans st2) (rr.base st1)⟩
/-- a op b op' c -/
def dChain  (s1 s2 : D → D → (Bool → D → Prop) → Prop) (ta tb tc : DO) : DX := fun δ w Q => ta δ w fun d w1 => tb δ w1 fun e w2 => s1 (res w2 d) (res w2 e) fun _ r => match r with
  | .bl k => if k = true then tc δ w2 fun f w3 => s2 (res w3 e) (res w3 f) fun b d' => Q b d' w3 else Q false (.bl false) w2
  | _ => False
theorem chain2 {r r' : R2} {s1 s2 : D → D → (Bool → D → Prop) → Prop} (hs : Sem2 z r s1) (hs' : Sem2 z r' s2) {ta tb tc : DO} {σ : St} {H : Hp} {Q : VK} (h : liftX z (dChain s1 s2 ta tb tc) σ H Q) : tChain r r' (liftO z ta) (liftO z tb) (liftO z tc) σ H Q := by
  obtain ⟨δ, w, F, He, P, R, q, k⟩ := h
  refine ⟨δ, w, F, He, _, R, q, fun d w1 q1 x H1 F1 He1 wd1 st1 r1 => ?_⟩
  refine ⟨δ, w1, F1, He1, _, R.step wd1 st1, q1, fun e w2 q2 y H2 F2 He2 wd2 st2 r2 => ?_⟩
  refine hs w2 F2 He2 H2 x y _ _ _ _ wd2 (res_ok wd2.ex wd2.sh (r1.step st2)) (res_ok wd2.ex wd2.sh r2) q2 fun b d' p v H3 F3 He3 wd3 st3 rr => ?_
  have st := st1.trans (st2.trans st3)
  cases d' with
  | bl c =>
    have := rr.dt.bl; subst v
    refine ⟨c, rfl, ?_⟩
    cases c with
    | false => exact k _ _ w2 p _ H3 F3 He3 wd3 st (.bl _)
    | true =>
      refine ⟨δ, w2, F3, He3, _, R.step wd3 st, p, fun f w4 q4 u H4 F4 He4 wd4 st4 r4 => ?_⟩
      exact hs' w4 F4 He4 H4 y u _ _ _ Q wd4 (res_ok wd4.ex wd4.sh ((r2.step st3).step st4)) (res_ok wd4.ex wd4.sh r4) q4 fun b d' p v H' F' He' wd s' rr => k b d' w4 p v H' F' He' wd ((st.trans st4).trans s') (rr.base (st.trans st4))
  | _ => exact p.elim
theorem jx_chain {op op' : CmpOp} {r r' : R2} {s1 s2 : D → D → (Bool → D → Prop) → Prop} {a b c : Expr} {ta tb tc : DO} (ho : OpR X (compareOp op) r) (ho' : OpR X (compareOp op') r') (hs : Sem2 z r s1) (hs' : Sem2 z r' s2) (ha : JO X z a ta) (hb : JO X z b tb) (hc : JO X z c tc)
    (hm : lastMarks [op, op'] [b, c] = false := by with_unfolding_all rfl) : JX X z (.Compare a [op, op'] [b, c] pos) (dChain s1 s2 ta tb tc) := PE.imp (pe_chain ho ho' ha hb hc hm) fun _ _ _ h => chain2 hs hs' h
theorem jt_chain {op op' : CmpOp} {r r' : R2} {s1 s2 : D → D → (Bool → D → Prop) → Prop} {a b c : Expr} {ta tb tc : DO} (ho : OpR X (compareOp op) r) (ho' : OpR X (compareOp op') r') (hs : Sem2 z r s1) (hs' : Sem2 z r' s2) (ha : JO X z a ta) (hb : JO X z b tb) (hc : JO X z c tc)
    (hm : lastMarks [op, op'] [b, c] = false := by with_unfolding_all rfl) : JT X z (.Compare a [op, op'] [b, c] pos) (dB (dChain s1 s2 ta tb tc)) := PT.imp (pt_chain ho ho' ha hb hc hm) fun σ H Q ⟨δ, w, F, He, P, R, q, k⟩ => by
  refine chain2 hs hs' ⟨δ, w, F, He, _, R, q, fun b d w' p v H' F' He' wd st r => ?_⟩
  cases d with
  | bl c =>
    have e := r.dt.bl
    subst e
    exact ⟨c, rfl, k c w' p H' F' He' wd st⟩
  | _ => exact p.elim
end
end Lv

/-! ### xs.extend(a tuple) -/
namespace HT
open PySem PySem.AutoSeq1 PySem.Spec
theorem list_extend_tuple_any (l : Addr) (items : Array Value) (n : Nat) (b : Addr) (items2 : Array Value) (n2 : Nat) (dd : Option Addr) (sl : Array (Option Value)) (hs0 : ¬(!items.isEmpty && Builtin.List.listTooLong (items.size + items2.size)) = true) (hs1 : items.size ≤ sizeLine) (hs2 : items.size + items2.size ≤ sizeLine + 1) :
    Meets (Builtin.«list.extend» ⟨[.ref l, .ref b], []⟩) (fun _ R s => s.heap.get? l = some { cls := .type "list", dict := none, data := .seq items n, slots := #[] } ∧ s.heap.get? b = some { cls := .type "tuple", dict := dd, data := .seq items2 n2, slots := sl } ∧ R (.ok (.ret Value.none)) { s with heap := s.heap.update l (Obj.mapSeq fun x => x ++ items2), toks := s.toks }) :=
  .of_wp fun prog w A R s h => by
    obtain ⟨hp, g, d, tk, os⟩ := s; obtain ⟨hl, hb, h⟩ := h; have f1 := idx_int; have f2 := sub_tuple_tuple; have f3 := sub_list_list; have f4 := sub_tuple_list; have f5 := sub_list_tuple;
    have hz' : (items ++ items2).size ≤ sizeLine + 1 := by rw [Array.size_append]; exact hs2
    wp_walk using (wpAny_updateSeq hl rfl (hz := hs1) (_hz' := hz')), wpAny_loadPart' hl, wpAny_loadPart' hb; exact ⟨_, rfl, h⟩
end HT
namespace Lv
open PySem PySem.Spec L2
section
variable {X : Cx}
def rExtendT (K : PySem.W.Frag) : V → List V → Hp → VK → Prop := fun x vs H Q => ∃ l b xs zs, x = .ref l ∧ vs = [.ref b] ∧ H l = some (.lst xs) ∧ SqT K H b zs ∧ xs.length + zs.length ≤ sizeLine ∧ Q .non (upd H l (.lst (xs ++ zs)))
theorem mt_extendT : MtM X "list.extend" (rExtendT X.K) := by
  intro pins s σ H x vs v us Q I rx rv h
  obtain ⟨l, b, xs, zs, rfl, rfl, hH, hB, hz, q⟩ := h
  cases rx
  obtain ⟨u, rfl, ru⟩ := rv.one
  cases ru
  obtain ⟨z, its, n, r, hl, e⟩ := I.lstM hH
  obtain ⟨its2, r2, ⟨⟨cls, dd, data, sl⟩, e2, hc, n2, hd⟩, z2⟩ := I.tuple hB
  simp only at hc hd
  subst hc hd
  have hl2 := r2.length
  have hsz : its.toArray.size + its2.toArray.size ≤ sizeLine := by rw [List.size_toArray, List.size_toArray]; omega
  have hlong : ¬ (!its.toArray.isEmpty && Builtin.List.listTooLong (its.toArray.size + its2.toArray.size)) = true := by
    rw [notLongL hsz, Bool.and_false]
    exact Bool.false_ne_true
  refine call_meets F.slot_list_extend ⟨_, e, rfl⟩ F.entry_list_extend (F.args_list_extend_2 _ _)
    (HT.list_extend_tuple_any l its.toArray n b its2.toArray n2 dd sl hlong (by rw [List.size_toArray]; omega) (by omega)) ⟨e, e2, ?_⟩
  refine ⟨.non, _, I.lset (its' := its ++ its2) hH e (by simp) (r.append r2) ?_, rfl, q⟩
  rw [List.length_append]
  omega
end
section
variable {z : Ent} {δ : DSt} {w : Om} {F He H F' He' H' : Hp} {σ : St} {i : Nat} {v : V} {d : D}
theorem get_set {α : Type} {l : List α} {i j : Nat} {x y : α} (h : (l.set i x)[j]? = some y) : (i = j ∧ y = x) ∨ (i ≠ j ∧ l[j]? = some y) := by
  by_cases e : i = j
  · subst e
    by_cases hl : i < l.length
    · rw [List.getElem?_set_self hl] at h
      exact .inl ⟨rfl, (Option.some.inj h).symm⟩
    · rw [List.getElem?_eq_none (by simpa using hl)] at h; cases h
  · rw [List.getElem?_set_ne e] at h; exact .inr ⟨e, h⟩
/-- a name is given a value -/
theorem Rel.assign {b : Bool} {w' : Om} (R : Rel z δ w F He σ H) (wd : Wd z.K w' F' He' H') (st : Step F He H F' He' H') (r : Res z.K F' He' H H' b v d) : Rel z (δ.set i (some (b, d))) w' F' He' (σ.set i (some v)) H' := by
  have R' := R.step wd st
  refine ⟨wd, R'.st, by rw [List.length_set, List.length_set]; exact R.len, fun j s e => ?_, fun j k d1 d2 a e1 e2 a1 a2 => ?_⟩
  · rcases get_set e with ⟨rfl, rfl⟩ | ⟨hj, e'⟩
    · have hi : i < δ.length := by
        have := (List.getElem?_eq_some_iff.mp e).1
        simpa using this
      refine ⟨some v, List.getElem?_set_self (by rw [R.len]; exact hi), ?_⟩
      cases b with
      | false => exact ⟨v, rfl, r⟩
      | true =>
        obtain ⟨a, o, e, ho, n, m, f, q⟩ := r
        exact ⟨a, o, by rw [e], ho, n, m, Classical.byContradiction fun q => R.st.dom a q f, q⟩
    · obtain ⟨u, hu, q⟩ := R'.sl j s e'
      exact ⟨u, by rw [List.getElem?_set_ne hj]; exact hu, q⟩
  · have key : ∀ (j : Nat) (d1 : D) (a : Addr), i ≠ j → δ[j]? = some (some (true, d1)) → σ[j]? = some (some (.ref a)) → H a ≠ none := by
      intro j d1 a _ e1 a1
      obtain ⟨u, hu, a', o, e, ho, _⟩ := R.sl j _ e1
      rw [a1] at hu
      cases hu
      cases e
      rw [ho]; exact fun q => nomatch q
    rcases get_set e1 with ⟨hj, x1⟩ | ⟨hj, e1'⟩ <;> rcases get_set e2 with ⟨hk, x2⟩ | ⟨hk, e2'⟩
    · exact hj.symm.trans hk
    · subst hj
      cases x1
      obtain ⟨a0, o, e, ho, n, m, f, q⟩ := r
      rcases get_set a1 with ⟨_, y⟩ | ⟨hh, _⟩
      · cases y
        cases e
        rw [List.getElem?_set_ne hk] at a2
        exact absurd f (key k d2 a hk e2' a2)
      · exact absurd rfl hh
    · subst hk
      cases x2
      obtain ⟨a0, o, e, ho, n, m, f, q⟩ := r
      rcases get_set a2 with ⟨_, y⟩ | ⟨hh, _⟩
      · cases y
        cases e
        rw [List.getElem?_set_ne hj] at a1
        exact absurd f (key j d1 a hj e1' a1)
      · exact absurd rfl hh
    · rw [List.getElem?_set_ne hj] at a1
      rw [List.getElem?_set_ne hk] at a2
      exact R.inj j k d1 d2 a e1' e2' a1 a2
theorem Rel.put (R : Rel z δ w F He σ H) (r : DR z.K F v d) : Rel z (δ.set i (some (false, d))) w F He (σ.set i (some v)) H := R.assign (b := false) R.wd .refl r
/-- an own container is written -/
theorem Rel.write {a : Addr} {o' : HO} {d' : D} (R : Rel z δ w F He σ H) (e : δ[i]? = some (some (true, d))) (hs : σ[i]? = some (some (.ref a))) (r : OR z.K F o' d') : Rel z (δ.set i (some (true, d'))) w F He σ (upd H a o') := by
  obtain ⟨u, hu, a', o, ea, ho, n, m, f, q⟩ := R.sl i _ e
  rw [hs] at hu
  cases hu
  cases ea
  have hne : ∀ (b : Addr) (u : HO), F b = some u → b ≠ a := fun b u h z => by subst z; rw [n] at h; cases h
  have hne2 : ∀ (b : Addr) (u : HO), He b = some u → b ≠ a := fun b u h z => by subst z; rw [m] at h; cases h
  refine ⟨⟨fun b u h => by rw [upd_ne (hne b u h)]; exact R.wd.sf b u h, fun b u h => by rw [upd_ne (hne2 b u h)]; exact R.wd.sh b u h, R.wd.dj, R.wd.ex⟩,
    ⟨R.st.fz, R.st.fzN, R.st.heN, fun b u h x => by
      rw [upd_ne (fun z => by subst z; rw [f] at h; cases h)]; exact R.st.keep b u h x, fun b h => by
      by_cases hb : b = a
      · subst hb; exact absurd f h
      · rw [upd_ne hb]; exact R.st.dom b h, fun b xs e => by
      by_cases hb : b = a
      · subst hb; exact .inl f
      · rw [upd_ne hb] at e; exact R.st.tp b xs e⟩, by rw [List.length_set]; exact R.len, fun j s es => ?_, fun j k d1 d2 c e1 e2 a1 a2 => ?_⟩
  · rcases get_set es with ⟨rfl, rfl⟩ | ⟨hj, e'⟩
    · exact ⟨_, hs, a, o', rfl, upd_same, n, m, f, r⟩
    · obtain ⟨u, hu, q'⟩ := R.sl j s e'
      refine ⟨u, hu, ?_⟩
      match s, q' with
      | none, _ => exact True.intro
      | some (false, d1), q' => exact q'
      | some (true, d1), ⟨c, oc, ec, hc, nc, mc, fc, qc⟩ =>
        refine ⟨c, oc, ec, ?_, nc, mc, fc, qc⟩
        have hca : c ≠ a := fun z => by
          subst z
          rw [ec] at hu
          exact hj (R.inj i j d d1 c e e' hs hu)
        rw [upd_ne hca]; exact hc
  · have h1 : ∃ x, δ[j]? = some (some (true, x)) := by
      rcases get_set e1 with ⟨rfl, _⟩ | ⟨_, e'⟩
      · exact ⟨_, e⟩
      · exact ⟨_, e'⟩
    have h2 : ∃ x, δ[k]? = some (some (true, x)) := by
      rcases get_set e2 with ⟨rfl, _⟩ | ⟨_, e'⟩
      · exact ⟨_, e⟩
      · exact ⟨_, e'⟩
    obtain ⟨x1, h1⟩ := h1
    obtain ⟨x2, h2⟩ := h2
    exact R.inj j k x1 x2 c h1 h2 a1 a2
/-- an own container is frozen -/
def frzD (δ : DSt) (i : Nat) : DSt := match δ[i]? with
  | some (some (_, d)) => δ.set i (some (false, d))
  | _ => δ
theorem Rel.frz (R : Rel z δ w F He σ H) (i : Nat) : ∃ F', Rel z (frzD δ i) w F' He σ H ∧ Same F F' := by
  unfold frzD
  split
  · next b d e =>
    obtain ⟨u, hu, q⟩ := R.sl i _ e
    cases b with
    | false =>
      refine ⟨F, ?_⟩
      have e2 : δ.set i (some (false, d)) = δ := by
        apply List.ext_getElem?
        intro j
        by_cases hj : i = j
        · subst hj
          rw [List.getElem?_set_self (List.getElem?_eq_some_iff.mp e).1, e]
        · rw [List.getElem?_set_ne hj]
      rw [e2]; exact ⟨R, Same.refl _⟩
    | true =>
      obtain ⟨a, o, rfl, ho, n, m, f, q⟩ := q
      refine ⟨upd F a o, ⟨R.wd.freeze ho n m, R.st.freeze n f, by rw [List.length_set]; exact R.len, fun j s es => ?_, fun j k d1 d2 c e1 e2 a1 a2 => ?_⟩, same_upd n⟩
      · rcases get_set es with ⟨rfl, rfl⟩ | ⟨hj, e'⟩
        · exact ⟨_, hu, .ref a, rfl, (q.mono (same_upd n)).frozen upd_same⟩
        · obtain ⟨u, hu', q'⟩ := R.sl j s e'
          refine ⟨u, hu', ?_⟩
          match s, q' with
          | none, _ => exact True.intro
          | some (false, d1), ⟨x, ex, qx⟩ => exact ⟨x, ex, qx.mono (same_upd n)⟩
          | some (true, d1), ⟨c, oc, ec, hc, nc, mc, fc, qc⟩ =>
            have hca : c ≠ a := fun z => by
              subst z
              rw [ec] at hu'
              exact hj (R.inj i j d d1 c e e' hu hu')
            exact ⟨c, oc, ec, hc, by rw [upd_ne hca]; exact nc, mc, fc, qc.mono (same_upd n)⟩
      · rcases get_set e1 with ⟨_, x⟩ | ⟨_, e1'⟩
        · cases x
        · rcases get_set e2 with ⟨_, x⟩ | ⟨_, e2'⟩
          · cases x
          · exact R.inj j k d1 d2 c e1' e2' a1 a2
  · exact ⟨F, R, Same.refl _⟩
end

/-! ### statements -/
section
variable {X : Cx} {z : Ent} {pos : Pos}
def dNext  : DS := fun E δ w => E.nx δ w
def dSeq  (t u : DS) : DS := fun E δ w => t { E with nx := u E } δ w
theorem jss_nil : JSs X z [] dNext := PSs.imp pss_nil fun D σ H ⟨δ, w, F, He, E, R, q, c⟩ => c.nx _ _ _ _ _ _ q R (Same.refl _)
theorem jss_cons {st : Stmt} {rest : List Stmt} {t u : DS} (h1 : JS X z st t) (h2 : JSs X z rest u) : JSs X z (st :: rest) (dSeq t u) := PSs.imp (pss_cons h1 h2) fun D σ H ⟨δ, w, F, He, E, R, q, c⟩ =>
  ⟨δ, w, F, He, _, R, q, ⟨fun δ' w' F' He' σ' H' n R' s' => ⟨δ', w', F', He', E, R', n, c.mono s'⟩, c.rt, c.bk, c.ct⟩⟩
theorem jss_one {st : Stmt} {t : DS} (h : JS X z st t) : JSs X z [st] t := pss_one h
def dFrz  (i : Nat) (t : DS) : DS := fun E δ w => t E (frzD δ i) w
theorem js_frz {st : Stmt} {t : DS} (i : Nat) (h : JS X z st t) : JS X z st (dFrz i t) := PS.imp h fun D σ H ⟨δ, w, F, He, E, R, q, c⟩ => let ⟨F', R', s'⟩ := R.frz i; ⟨_, w, F', He, E, R', q, c.mono s'⟩
/-- x = e; the container is one's own from then on, or it isn't -/
def dSet  (own : Bool) (i : Nat) (t : DX) : DS := fun E δ w => t δ w fun b d w1 => E.nx (δ.set i (some (b && own, d))) w1
theorem asg_set {own : Bool} {i : Nat} {t : DX} {D : Ends} {σ : St} {H : Hp} (h : liftS z (dSet own i t) D σ H) : tAsg (liftX z t) (gName i) D σ H := by
  obtain ⟨δ, w, F, He, E, R, q, c⟩ := h
  refine ⟨δ, w, F, He, _, R, q, fun b d w1 q1 v H1 F1 He1 wd1 st1 r1 => ?_⟩
  cases own with
  | true => rw [Bool.and_true] at q1; exact c.nx _ _ _ _ _ _ q1 (R.assign wd1 st1 r1) st1.fz
  | false =>
    rw [Bool.and_false] at q1
    obtain ⟨F2, st2, wd2, r2, _⟩ := r1.thaw st1 wd1
    exact c.nx _ _ _ _ _ _ q1 (R.assign (b := false) wd2 st2 r2) st2.fz
theorem js_set {i : Nat} {x : Str} {e : Expr} {t : DX} {pos' : Pos} (own : Bool) (hN : X.N.Nodup) (he : JX X z e t) (hi : X.N[i]? = some x := by rfl) (hx : Loc X.env.scope x := by first | exact Or.inl rfl | exact Or.inr rfl)
    (hs : swapsWith e (some (.Name x pos')) pos.line X.env = pure false := by rfl) (hf : X.fn x = true ∨ X.env.scope.names.lookup x = some .local := by first | exact .inl rfl | exact .inr rfl) : JS X z (.Assign [.Name x pos'] e pos) (dSet own i t) :=
  PS.imp (ps_set hN hi hx he hs hf) fun _ _ _ h => asg_set h
/-- x op= e, numbers or texts -/
def dAug  (i : Nat) (sem : D → D → (Bool → D → Prop) → Prop) (t : DO) : DS := fun E δ w => match δ[i]? with
  | some (some (false, d)) => t δ w fun e w1 => sem d (res w1 e) fun b r => E.nx (δ.set i (some (b, r))) w1
  | _ => False
theorem js_aug {i : Nat} {x : Str} {e : Expr} {t : DO} {op : Operator} {r : R2} {sem : D → D → (Bool → D → Prop) → Prop} {pos' : Pos} (ho : OpR X (inplaceOp op) r) (hs : Sem2 z r sem) (hN : X.N.Nodup) (he : JO X z e t) (hi : X.N[i]? = some x := by rfl) (hx : Loc X.env.scope x := by first | exact Or.inl rfl | exact Or.inr rfl)
    (hf : X.fn x = true ∨ X.env.scope.names.lookup x = some .local := by first | exact .inl rfl | exact .inr rfl) : JS X z (.AugAssign (.Name x pos') op e pos) (dAug i sem t) :=
  PS.imp (ps_aug (ti := r) hN hi hx he (fun pins s σ H x y v u Q I rx ry h => augR ho I rx ry h) hf) fun D σ H ⟨δ, w, F, He, E, R, q, c⟩ => by
    unfold dAug at q
    split at q
    · next d e =>
      obtain ⟨u, hu, v, rfl, rv⟩ := R.sl i _ e
      refine ⟨v, hu, δ, w, F, He, _, R, q, fun d2 w1 q1 y H1 F1 He1 wd1 st1 r1 => ?_⟩
      refine hs w1 F1 He1 H1 v y d _ _ _ wd1 (.inl (rv.mono st1.fz)) (res_ok wd1.ex wd1.sh r1) q1 fun b d' p v' H2 F2 He2 wd2 st2 rr => ?_
      exact c.nx _ _ _ _ _ _ p (R.assign wd2 (st1.trans st2) (rr.base st1)) (st1.trans st2).fz
    · exact q.elim
def rAddI : R2 := fun x y H Q => (∃ i j, x = .int i ∧ y = .int j ∧ Q (.int (i + j)) H) ∨ ∃ i j, x = .str i ∧ y = .str j ∧ i.length + j.length ≤ sizeLine ∧ Q (.str (i ++ j)) H
theorem iop_addI : OpR X (inplaceOp .Add) rAddI := iop_add.or iop_add_str
def sAddI (d e : D) (P : Bool → D → Prop) : Prop := match d, e with
  | .int i, .int j => P false (.int (i + j))
  | .str x, .str y => x.length + y.length ≤ sizeLine ∧ P false (.str (x ++ y))
  | _, _ => False
theorem sem_addI : Sem2 z rAddI sAddI := fun w F He H x y d e P Q wd dx dy q k => by
  unfold sAddI at q
  split at q
  · exact .inl ⟨_, _, dx.int, dy.int, k _ _ q _ H F He wd .refl (.int _)⟩
  · exact .inr ⟨_, _, dx.str, dy.str, q.1, k _ _ q.2 _ H F He wd .refl (.str _)⟩
  · exact q.elim
/-- a call as a statement -/
def dDrop  (t : DX) : DS := fun E δ w => t δ w fun _ _ w1 => E.nx δ w1
theorem js_expr {e : Expr} {t : DX} (he : JX X z e t) (hs : swapsWith e none pos.line X.env = pure false := by rfl) : JS X z (.Expr e pos) (dDrop t) := PS.imp (ps_expr he hs) fun D σ H ⟨δ, w, F, He, E, R, q, c⟩ =>
  ⟨δ, w, F, He, _, R, q, fun b d w1 q1 v H1 F1 He1 wd1 st1 r1 => c.nx _ _ _ _ _ _ q1 (R.step wd1 st1) st1.fz⟩
def dRet  (t : DX) : DS := fun E δ w => t δ w E.rt
theorem js_ret {e : Expr} {t : DX} (he : JX X z e t) : JS X z (.Return (some e) pos) (dRet t) := PS.imp (ps_ret he) fun D σ H ⟨δ, w, F, He, E, R, q, c⟩ =>
  ⟨δ, w, F, He, _, R, q, fun b d w1 q1 v H1 F1 He1 wd1 st1 r1 => c.rt _ _ _ q1 v H1 F1 He1 wd1 (R.st.trans st1) (r1.base R.st)⟩
def dRetV  (i : Nat) : DS := fun E δ w => match δ[i]? with
  | some (some (b, d)) => E.rt b d w
  | _ => False
theorem js_retV {i : Nat} {e : Expr} (he : PE X e (tVar i)) : JS X z (.Return (some e) pos) (dRetV i) := PS.imp (ps_ret he) fun D σ H ⟨δ, w, F, He, E, R, q, c⟩ => by
  unfold dRetV at q
  split at q
  · next b d e =>
    obtain ⟨u, hu, r⟩ := R.sl i _ e
    cases b with
    | false => obtain ⟨v, rfl, r⟩ := r; exact ⟨v, hu, c.rt _ _ _ q v H F He R.wd R.st r⟩
    | true => obtain ⟨a, o, rfl, ho, n, m, f, r⟩ := r; exact ⟨.ref a, hu, c.rt _ _ _ q _ H F He R.wd R.st ⟨a, o, rfl, ho, n, m, f, r⟩⟩
  · exact q.elim
def dRetN  : DS := fun E _ w => E.rt false .non w
theorem js_retN : JS X z (.Return none pos) dRetN := PS.imp ps_retN fun D σ H ⟨δ, w, F, He, E, R, q, c⟩ => c.rt _ _ _ q _ H F He R.wd R.st .non
def dBreak  : DS := fun E δ w => E.bk δ w
def dCont  : DS := fun E δ w => E.ct δ w
theorem js_break : JS X z (.Break pos) dBreak := PS.imp ps_break fun D σ H ⟨δ, w, F, He, E, R, q, c⟩ => c.bk _ _ _ _ _ _ q R (Same.refl _)
theorem js_cont : JS X z (.Continue pos) dCont := PS.imp ps_continue fun D σ H ⟨δ, w, F, He, E, R, q, c⟩ => c.ct _ _ _ _ _ _ q R (Same.refl _)
theorem js_pass : JS X z (.Pass pos) dNext := PS.imp ps_pass fun D σ H ⟨δ, w, F, He, E, R, q, c⟩ => c.nx _ _ _ _ _ _ q R (Same.refl _)
def dIf  (c : DTs_) (t u : DS) : DS := fun E δ w => c δ w fun k w1 => if k = true then t E δ w1 else u E δ w1
theorem js_if {c : Expr} {a b : List Stmt} {tc : DTs_} {t u : DS} (hc : JT X z c tc) (ha : JSs X z a t) (hb : JSs X z b u) : JS X z (.If c a b pos) (dIf tc t u) := PS.imp (ps_if hc ha hb) fun D σ H ⟨δ, w, F, He, E, R, q, cn⟩ => by
  refine ⟨δ, w, F, He, _, R, q, fun k w1 q1 H1 F1 He1 wd1 st1 => ?_⟩
  cases k <;> exact ⟨δ, w1, F1, He1, E, R.step wd1 st1, q1, cn.mono st1.fz⟩
/-- while: n turns at most -/
def wN  (c : DTs_) (t : DS) (E : DEnds) : Nat → DSt → Om → Prop
  | 0, _, _ => False
  | n + 1, δ, w => c δ w fun k w1 => if k = true then t { E with nx := wN c t E n, ct := wN c t E n, bk := E.nx } δ w1 else E.nx δ w1
def dWhile  (c : DTs_) (t : DS) : DS := fun E δ w => ∃ n, wN c t E n δ w
theorem js_while {c : Expr} {body : List Stmt} {tc : DTs_} {t : DS} (hp : PassesOwn (model X.prog X.w) X.A X.env X.xe) (hc : JT X z c tc) (hb : JSs X z body t) : JS X z (.While c body [] pos) (dWhile tc t) :=
  PS.imp (ps_while hp hc hb) fun D σ H ⟨δ, w, F, He, E, R, q, cn⟩ => by
    obtain ⟨n, q⟩ := q
    refine ⟨fun m σ H => ∃ δ w F' He, Rel z δ w F' He σ H ∧ Same F F' ∧ wN tc t E m δ w, ⟨n, δ, w, F, He, R, Same.refl _, q⟩, ?_⟩
    rintro m σ H ⟨δ, w, F', He, R, s', q⟩
    cases m with
    | zero => exact q.elim
    | succ m =>
      refine ⟨δ, w, F', He, _, R, q, fun k w1 q1 H1 F1 He1 wd1 st1 => ?_⟩
      cases k with
      | false => exact cn.nx _ _ _ _ _ _ q1 (R.step wd1 st1) (s'.trans st1.fz)
      | true =>
        have s1 := s'.trans st1.fz
        refine ⟨fun σ' H' => ∃ δ w F' He, Rel z δ w F' He σ' H' ∧ Same F F' ∧ wN tc t E m δ w, fun σ' H' h => ⟨m, Nat.lt_succ_self m, h⟩, ?_⟩
        exact ⟨δ, w1, F1, He1, _, R.step wd1 st1, q1, ⟨fun δ' w' F' He' σ' H' p r s => ⟨δ', w', F', He', r, s1.trans s, p⟩, cn.rt, fun δ' w' F' He' σ' H' p r s => cn.nx _ _ _ _ _ _ p r (s1.trans s), fun δ' w' F' He' σ' H' p r s => ⟨δ', w', F', He', r, s1.trans s, p⟩⟩⟩
end
end Lv

namespace Lv
open PySem PySem.Spec L2
section
variable {X : Cx} {z : Ent} {pos : Pos}

/-! ### containers changed in place: x.m(e), x[i] = e -/
/-- what a name's own container is, at a state -/
theorem own_at {δ : DSt} {w : Om} {F He H : Hp} {σ : St} {i : Nat} {d : D} (R : Rel z δ w F He σ H) (e : δ[i]? = some (some (true, d))) : ∃ a o, σ[i]? = some (some (.ref a)) ∧ H a = some o ∧ He a = none ∧ OR z.K F o d := by
  obtain ⟨u, hu, a, o, rfl, ho, n, m, f, q⟩ := R.sl i _ e
  exact ⟨a, o, hu, ho, m, q⟩
/-- x.append(e) -/
def dApp  (i : Nat) (t : DX) : DS := fun E δ w => match δ[i]? with
  | some (some (true, .lst ds)) => t δ w fun _ d w1 => ds.length < sizeLine ∧ E.nx (δ.set i (some (true, .lst (ds ++ [d])))) w1
  | _ => False
theorem js_app {i : Nat} {o e : Expr} {t : DX} {apos cpos : Pos} (hK : z.K = X.K) (ho : PE X o (tVar i)) (he : JX X z e t)
    (hbase : attributeBase o "append" X.env (eval o X.env) = eval o X.env := by rfl)
    (hfew : ((backTo cpos (starEach [e] X.env)).all (fun x => !x.1) && (backToKw cpos (keywordEach [] X.env)).all (fun x => x.1.isSome)
      && decide (([e] : List Expr).length + ([] : List Keyword).length + (if ([] : List Keyword).isEmpty then 0 else 1) < 30)) = true := by rfl)
    (hline : (apos.endLine == cpos.line) = true := by rfl) (hs : starEach [e] X.env = (false, eval e X.env) :: starEach [] X.env := by rfl) (hplain : (backTo cpos (starEach [] X.env)).any (·.1) = false := by rfl)
    (hsw : swapsWith (.Call (.Attribute o "append" apos) [e] [] cpos) none pos.line X.env = pure false := by rfl) : JS X z (.Expr (.Call (.Attribute o "append" apos) [e] [] cpos) pos) (dApp i t) :=
  PS.imp (ps_expr (pe_bm PySem.F.plainAttrs_list PySem.F.slot_list_append PySem.F.type_list_append mt_append ho (pa_cons he pa_nil hs) hbase hfew hline hs hplain) hsw) fun D σ H ⟨δ, w, F, He, E, R, q, c⟩ => by
    unfold dApp at q
    split at q
    · next ds e =>
      obtain ⟨a, ob, hs, ha, m, r⟩ := own_at R e
      cases r with
      | lst r =>
        refine ⟨.ref a, hs, .inl ⟨rfl, _, .of ha⟩, δ, w, F, He, _, R, q, fun b d w1 q1 v H1 F1 He1 wd1 st1 r1 => ?_⟩
        obtain ⟨F2, st2, wd2, r2, s2⟩ := r1.thaw st1 wd1
        have R2 := R.step wd2 st2
        refine ⟨a, _, v, rfl, rfl, st2.keep a _ ha m, by rw [r.length]; exact q1.1, ?_⟩
        exact c.nx _ _ _ _ _ _ q1.2 (R2.write e hs (.lst ((r.mono st2.fz).append (.cons r2 .nil)))) st2.fz
    · exact q.elim
/-- x.extend(e), e a list or a tuple -/
def dExt  (i : Nat) (t : DO) : DS := fun E δ w => match δ[i]? with
  | some (some (true, .lst ds)) => t δ w fun d w1 => match res w1 d with
    | .lst es => ds.length + es.length ≤ sizeLine ∧ E.nx (δ.set i (some (true, .lst (ds ++ es)))) w1
    | .tup es => ds.length + es.length ≤ sizeLine ∧ E.nx (δ.set i (some (true, .lst (ds ++ es)))) w1
    | _ => False
  | _ => False
theorem js_ext {i : Nat} {o e : Expr} {t : DO} {apos cpos : Pos} (hK : z.K = X.K) (ho : PE X o (tVar i)) (he : JO X z e t)
    (hbase : attributeBase o "extend" X.env (eval o X.env) = eval o X.env := by rfl)
    (hfew : ((backTo cpos (starEach [e] X.env)).all (fun x => !x.1) && (backToKw cpos (keywordEach [] X.env)).all (fun x => x.1.isSome)
      && decide (([e] : List Expr).length + ([] : List Keyword).length + (if ([] : List Keyword).isEmpty then 0 else 1) < 30)) = true := by rfl)
    (hline : (apos.endLine == cpos.line) = true := by rfl) (hs : starEach [e] X.env = (false, eval e X.env) :: starEach [] X.env := by rfl) (hplain : (backTo cpos (starEach [] X.env)).any (·.1) = false := by rfl)
    (hsw : swapsWith (.Call (.Attribute o "extend" apos) [e] [] cpos) none pos.line X.env = pure false := by rfl) : JS X z (.Expr (.Call (.Attribute o "extend" apos) [e] [] cpos) pos) (dExt i t) :=
  PS.imp (ps_expr (pe_bm PySem.F.plainAttrs_list PySem.F.slot_list_extend PySem.F.type_list_extend (MtR.or mt_extend mt_extendT) ho (pa_cons he pa_nil hs) hbase hfew hline hs hplain) hsw) fun D σ H ⟨δ, w, F, He, E, R, q, c⟩ => by
    unfold dExt at q
    split at q
    · next ds e =>
      obtain ⟨a, ob, hs, ha, m, r⟩ := own_at R e
      cases r with
      | lst r =>
        refine ⟨.ref a, hs, .inl ⟨rfl, _, .of ha⟩, δ, w, F, He, _, R, q, fun d w1 q1 v H1 F1 He1 wd1 st1 r1 => ?_⟩
        have R2 := R.step wd1 st1
        have r1 := res_ok wd1.ex wd1.sh r1
        generalize res w1 d = d at q1 r1
        split at q1
        · obtain ⟨b, vs, rfl, hb, rb⟩ := r1.lst wd1.sf
          refine .inl ⟨a, b, _, vs, rfl, rfl, st1.keep a _ ha m, hb, by rw [r.length, rb.length]; exact q1.1, ?_⟩
          exact c.nx _ _ _ _ _ _ q1.2 (R2.write e hs (.lst ((r.mono st1.fz).append rb))) st1.fz
        · obtain ⟨b, vs, rfl, hb, rb⟩ := r1.tup wd1.sf
          refine .inr ⟨a, b, _, vs, rfl, rfl, st1.keep a _ ha m, .of hb, by rw [r.length, rb.length]; exact q1.1, ?_⟩
          exact c.nx _ _ _ _ _ _ q1.2 (R2.write e hs (.lst ((r.mono st1.fz).append rb))) st1.fz
        · exact q1.elim
    · exact q.elim
/-- x.pop(), x.clear(), x.reverse() as statements -/
def dUpd0  (i : Nat) (f : List D → Option (List D)) : DS := fun E δ w => match δ[i]? with
  | some (some (true, .lst ds)) => match f ds with
    | some es => E.nx (δ.set i (some (true, .lst es))) w
    | none => False
  | _ => False
def fPop (ds : List D) : Option (List D) := if ds.isEmpty then none else some ds.dropLast
theorem js_pop {i : Nat} {o : Expr} {apos cpos : Pos} (hK : z.K = X.K) (ho : PE X o (tVar i))
    (hbase : attributeBase o "pop" X.env (eval o X.env) = eval o X.env := by rfl) (hline : (apos.endLine == cpos.line) = true := by rfl)
    (hsw : swapsWith (.Call (.Attribute o "pop" apos) [] [] cpos) none pos.line X.env = pure false := by rfl) : JS X z (.Expr (.Call (.Attribute o "pop" apos) [] [] cpos) pos) (dUpd0 i fPop) :=
  PS.imp (ps_expr (pe_bm0 PySem.F.plainAttrs_list PySem.F.slot_list_pop PySem.F.type_list_pop mt_pop ho hbase hline) hsw) fun D σ H ⟨δ, w, F, He, E, R, q, c⟩ => by
    unfold dUpd0 fPop at q
    split at q
    · next ds e =>
      obtain ⟨a, ob, hs, ha, m, r⟩ := own_at R e
      cases r with
      | @lst vs _ r =>
        by_cases h0 : ds.isEmpty = true
        · rw [if_pos h0] at q; exact q.elim
        · rw [if_neg h0] at q
          have hl := r.length
          have h1 : vs.length - 1 < vs.length := by
            have : ds.length ≠ 0 := fun z => h0 (by simp at z; simp [z])
            omega
          refine ⟨.ref a, hs, .inl ⟨rfl, _, .of ha⟩, a, _, vs[vs.length - 1], rfl, rfl, ha, by simp [h1], ?_⟩
          exact c.nx _ _ _ _ _ _ q (R.write e hs (.lst r.dropLast)) (Same.refl _)
    · exact q.elim
theorem js_clear {i : Nat} {o : Expr} {apos cpos : Pos} (hK : z.K = X.K) (ho : PE X o (tVar i))
    (hbase : attributeBase o "clear" X.env (eval o X.env) = eval o X.env := by rfl) (hline : (apos.endLine == cpos.line) = true := by rfl)
    (hsw : swapsWith (.Call (.Attribute o "clear" apos) [] [] cpos) none pos.line X.env = pure false := by rfl) : JS X z (.Expr (.Call (.Attribute o "clear" apos) [] [] cpos) pos) (dUpd0 i fun _ => some []) :=
  PS.imp (ps_expr (pe_bm0 PySem.F.plainAttrs_list PySem.F.slot_list_clear PySem.F.type_list_clear mt_clear ho hbase hline) hsw) fun D σ H ⟨δ, w, F, He, E, R, q, c⟩ => by
    unfold dUpd0 at q
    split at q
    · next ds e =>
      obtain ⟨a, ob, hs, ha, m, r⟩ := own_at R e
      cases r with
      | @lst vs _ r => exact ⟨.ref a, hs, .inl ⟨rfl, _, .of ha⟩, a, _, rfl, rfl, ha, c.nx _ _ _ _ _ _ q (R.write e hs (.lst .nil)) (Same.refl _)⟩
    · exact q.elim
theorem js_reverse {i : Nat} {o : Expr} {apos cpos : Pos} (hK : z.K = X.K) (ho : PE X o (tVar i))
    (hbase : attributeBase o "reverse" X.env (eval o X.env) = eval o X.env := by rfl) (hline : (apos.endLine == cpos.line) = true := by rfl)
    (hsw : swapsWith (.Call (.Attribute o "reverse" apos) [] [] cpos) none pos.line X.env = pure false := by rfl) : JS X z (.Expr (.Call (.Attribute o "reverse" apos) [] [] cpos) pos) (dUpd0 i fun ds => some ds.reverse) :=
  PS.imp (ps_expr (pe_bm0 PySem.F.plainAttrs_list PySem.F.slot_list_reverse PySem.F.type_list_reverse mt_reverse ho hbase hline) hsw) fun D σ H ⟨δ, w, F, He, E, R, q, c⟩ => by
    unfold dUpd0 at q
    split at q
    · next ds e =>
      obtain ⟨a, ob, hs, ha, m, r⟩ := own_at R e
      cases r with
      | @lst vs _ r => exact ⟨.ref a, hs, .inl ⟨rfl, _, .of ha⟩, a, _, rfl, rfl, ha, c.nx _ _ _ _ _ _ q (R.write e hs (.lst r.reverse)) (Same.refl _)⟩
    · exact q.elim
/-- x[k] = e -/
def sPut (c k d : D) (P : D → Prop) : Prop := match c, k with
  | .lst ds, .int j => ∃ n, ixN ds.length j = some n ∧ P (.lst (ds.set n d))
  | .dK kvs, .int j => kvs.length < sizeLine ∧ P (.dK (putD kvs (.inl j) d))
  | .dK kvs, .str j => kvs.length < sizeLine ∧ P (.dK (putD kvs (.inr j) d))
  | .dT kvs, .tup ks => ∃ js, ks = js.map kD ∧ kvs.length < sizeLine ∧ P (.dT (putD kvs js d))
  | _, _ => False
def dPut  (i : Nat) (tk : DO) (t : DX) : DS := fun E δ w => match δ[i]? with
  | some (some (true, c)) => t δ w fun _ d w1 => tk δ w1 fun k w2 => sPut c k d fun c' => E.nx (δ.set i (some (true, c'))) w2
  | _ => False
theorem PSet.or {t t' : TSet} (h : PSet X t) (h' : PSet X t') : PSet X (fun o i v H Q => t o i v H Q ∨ t' o i v H Q) := fun pins s σ H o i v ov iv u Q I r1 r2 r3 q => by
  rcases q with q | q
  · exact h pins s σ H o i v ov iv u Q I r1 r2 r3 q
  · exact h' pins s σ H o i v ov iv u Q I r1 r2 r3 q
theorem js_put {i : Nat} {o k e : Expr} {tk : DO} {t : DX} {spos : Pos} (hK : z.K = X.K) (hu : X.A.units + 1 < cLine) (ho : PE X o (tVar i)) (hk : JO X z k tk) (he : JX X z e t)
    (hs : swapsWithSole [.Subscript o k spos] e pos.line X.env = pure false := by rfl) (hw : swappedStores [.Subscript o k spos] e X.env = pure none := by rfl)
    (h1 : (assignEach [.Subscript o k spos] X.env).map (·.2) = [assign (.Subscript o k spos) X.env] := by rfl)
    (ha : ∀ v, assign (.Subscript o k spos) X.env v = (do
      let ov ← holding [v] (eval o X.env)
      let iv ← holding [v, ov] (eval k X.env)
      standAt spos
      holding [v, ov, iv] (setItem ov iv v)
      release [v, ov, iv] []) := by intro _; rfl) : JS X z (.Assign [.Subscript o k spos] e pos) (dPut i tk t) :=
  PS.imp (ps_asg he (pg_sub ho hk (PSet.or set_list (set_dict hu)) ha) hs hw h1) fun D σ H ⟨δ, w, F, He, E, R, q, c⟩ => by
    unfold dPut at q
    split at q
    · next c0 e0 =>
      refine ⟨δ, w, F, He, _, R, q, fun b d w1 q1 v H1 F1 He1 wd1 st1 r1 => ?_⟩
      obtain ⟨F2, st2, wd2, r2, s2⟩ := r1.thaw st1 wd1
      have R2 := R.step wd2 st2
      obtain ⟨a, ob, hs, ha, m, r⟩ := own_at R2 e0
      refine ⟨.ref a, hs, δ, w1, F2, He1, _, R2, q1, fun kd w2 q2 kv H3 F3 He3 wd3 st3 r3 => ?_⟩
      have R3 := R2.step wd3 st3
      have r3 := r3.dt
      have r2' := r2.mono st3.fz
      have ha3 := st3.keep a _ ha m
      have rr := r.mono st3.fz
      unfold sPut at q2
      split at q2
      · obtain ⟨n, hn, q2⟩ := q2
        cases rr with
        | lst rr =>
          exact .inl ⟨a, _, _, n, rfl, r3.int, ha3, by rw [rr.length]; exact hn, c.nx _ _ _ _ _ _ q2 (R3.write e0 hs (.lst (rr.set r2' n))) (st2.trans st3).fz⟩
      · cases rr with
        | dK rr =>
          have := r3.int; subst kv
          exact .inr ⟨a, _, rfl, DPut.k (k := .inl _) ha3 (by rw [rr.length]; exact q2.1), c.nx _ _ _ _ _ _ q2.2 (R3.write e0 hs (.dK (rr.put r2'))) (st2.trans st3).fz⟩
      · cases rr with
        | dK rr =>
          have := r3.str; subst kv
          exact .inr ⟨a, _, rfl, DPut.k (k := .inr _) ha3 (by rw [rr.length]; exact q2.1), c.nx _ _ _ _ _ _ q2.2 (R3.write e0 hs (.dK (rr.put r2'))) (st2.trans st3).fz⟩
      · obtain ⟨js, rfl, hl, q2⟩ := q2
        cases rr with
        | dT rr =>
          obtain ⟨b, us, rfl, hb, rb⟩ := r3.tup wd3.sf
          have := rb.keys; subst us
          exact .inr ⟨a, _, rfl, DPut.t ha3 hb (by rw [rr.length]; exact hl), c.nx _ _ _ _ _ _ q2 (R3.write e0 hs (.dT (rr.put r2'))) (st2.trans st3).fz⟩
      · exact q2.elim
    · exact q.elim
end
end Lv

namespace Lv
open PySem PySem.Spec L2

/-! ### targets -/
/-- what a target does with data -/
abbrev DG := D → DSt → (DSt → Prop) → Prop
def GOk (z : Ent) (G : TG) (g : DG) : Prop := ∀ (δ : DSt) (w : Om) (F He H : Hp) (σ : St) (x : V) (d : D) (P : DSt → Prop) (Q : St → Hp → Prop), Rel z δ w F He σ H → DR z.K F x d → g d δ P → (∀ δ' σ', P δ' → Rel z δ' w F He σ' H → Q σ' H) → G x σ H Q
def gN (i : Nat) : DG := fun d δ P => P (δ.set i (some (false, d)))
theorem gok_name {z : Ent} (i : Nat) : GOk z (gName i) (gN i) := fun δ w F He H σ x d P Q R r q k => k _ _ q (R.put r)
abbrev DGs := List D → DSt → (DSt → Prop) → Prop
def GsOk (z : Ent) (G : TGs) (g : DGs) : Prop := ∀ (δ : DSt) (w : Om) (F He H : Hp) (σ : St) (xs : List V) (ds : List D) (P : DSt → Prop) (Q : St → Hp → Prop), Rel z δ w F He σ H → DRs z.K F xs ds → g ds δ P → (∀ δ' σ', P δ' → Rel z δ' w F He σ' H → Q σ' H) → G xs σ H Q
def gsN : DGs := fun ds δ P => match ds with
  | [] => P δ
  | _ => False
def gsC (g : DG) (gs : DGs) : DGs := fun ds δ P => match ds with
  | d :: ds => g d δ fun δ1 => gs ds δ1 P
  | [] => False
theorem gsok_nil {z : Ent} : GsOk z gNil gsN := fun δ w F He H σ xs ds P Q R r q k => by
  cases ds with
  | nil => cases r; exact ⟨rfl, k _ _ q R⟩
  | cons d ds => exact q.elim
theorem gsok_cons {z : Ent} {G : TG} {Gs : TGs} {g : DG} {gs : DGs} (h : GOk z G g) (hs : GsOk z Gs gs) : GsOk z (gCons G Gs) (gsC g gs) := fun δ w F He H σ xs ds P Q R r q k => by
  cases ds with
  | nil => exact q.elim
  | cons d ds =>
    cases r with
    | cons r rs => exact ⟨_, _, rfl, h δ w F He H σ _ d _ _ R r q fun δ1 σ1 q1 R1 => hs δ1 w F He H σ1 _ ds P Q R1 rs q1 k⟩
/-- a, b, .. = a tuple of n -/
def gT (n : Nat) (gs : DGs) : DG := fun d δ P => match d with
  | .tup ds => ds.length = n ∧ gs ds δ P
  | _ => False
theorem gok_tup {z : Ent} {Gs : TGs} {gs : DGs} {K : PySem.W.Frag} {n : Nat} (h : GsOk z Gs gs) : GOk z (gTup K n Gs) (gT n gs) := fun δ w F He H σ x d P Q R r q k => by
  unfold gT at q
  split at q
  · cases r with
    | tup e rs => exact ⟨_, _, rfl, .of (R.wd.sf _ _ e), by rw [rs.length]; exact q.1, h δ w F He H σ _ _ P Q R rs q.2 k⟩
  · exact q.elim
section
variable {X : Cx} {z : Ent} {pos : Pos}
/-- target = e -/
def dAsg  (t : DX) (g : DG) : DS := fun E δ w => t δ w fun _ d w1 => g d δ fun δ' => E.nx δ' w1
theorem js_asg {tg e : Expr} {t : DX} {G : TG} {g : DG} (he : JX X z e t) (hg : PG X tg G) (ok : GOk z G g) (hs : swapsWithSole [tg] e pos.line X.env = pure false := by rfl) (hw : swappedStores [tg] e X.env = pure none := by rfl)
    (h1 : (assignEach [tg] X.env).map (·.2) = [assign tg X.env] := by rfl) : JS X z (.Assign [tg] e pos) (dAsg t g) :=
  PS.imp (ps_asg he hg hs hw h1) fun D σ H ⟨δ, w, F, He, E, R, q, c⟩ => by
    refine ⟨δ, w, F, He, _, R, q, fun b d w1 q1 v H1 F1 He1 wd1 st1 r1 => ?_⟩
    obtain ⟨F2, st2, wd2, r2, s2⟩ := r1.thaw st1 wd1
    exact ok δ w1 F2 He1 H1 σ v d _ _ (R.step wd2 st2) r2 q1 fun δ' σ' q' R' => c.nx _ _ _ _ _ _ q' R' st2.fz
end

/-! ### what is walked -/
abbrev DI  := DSt → Om → (List D → Om → Prop) → Prop
structure ItOk (K : PySem.W.Frag) (J : It) (F : Hp) (ds : List D) : Prop where
  go : ∀ i H, Same F H → i < ds.length → J.go i H
  stop : ∀ H, Same F H → J.stop ds.length H
  yld : ∀ i H x H', Same F H → i < ds.length → J.yld i H x H' → (H' = H ∧ ∃ d, ds[i]? = some d ∧ DR K F x d) ∨ ∃ T vs es, x = .ref T ∧ H T = none ∧ H' = upd H T (.tup vs) ∧ ds[i]? = some (.tup es) ∧ DRs K F vs es
def liftI (z : Ent) (t : DI) : TI := fun σ H R => ∃ δ w F He P, Rel z δ w F He σ H ∧ t δ w P ∧ ∀ ds w', P ds w' → ∀ J H' F' He', Wd z.K w' F' He' H' → Step F He H F' He' H' → ItOk z.K J F' ds → R J H'
theorem PI.imp {X : Cx} {tg e : Expr} {t t' : TI} (h : PI X tg e t) (f : ∀ σ H R, t' σ H R → t σ H R) : PI X tg e t' := ⟨fun pins s σ H R I q => h.run pins s σ H R I (f σ H R q)⟩
theorem itok_list {K : PySem.W.Frag} {F : Hp} {a : Addr} {vs : List V} {ds : List D} (e : F a = some (.lst vs)) (r : DRs K F vs ds) : ItOk K (Itl K a) F ds where
  go := fun i H s h => let ⟨v, hv, _⟩ := r.get (List.getElem?_eq_getElem h); ⟨vs, v, .of (s _ _ e), hv⟩
  stop := fun H s => ⟨vs, .of (s _ _ e), by rw [r.length]; exact Nat.le_refl _⟩
  yld := fun i H x H' s h ⟨e1, y⟩ => .inl ⟨e1, by
    obtain ⟨d, hd, rd⟩ := r.getV (y vs (.of (s _ _ e)))
    exact ⟨d, hd, rd⟩⟩
theorem itok_tup {K : PySem.W.Frag} {F : Hp} {a : Addr} {vs : List V} {ds : List D} (e : F a = some (.tup vs)) (r : DRs K F vs ds) : ItOk K (Itt K a) F ds where
  go := fun i H s h => let ⟨v, hv, _⟩ := r.get (List.getElem?_eq_getElem h); ⟨vs, v, .of (s _ _ e), hv⟩
  stop := fun H s => ⟨vs, .of (s _ _ e), by rw [r.length]; exact Nat.le_refl _⟩
  yld := fun i H x H' s h ⟨e1, y⟩ => .inl ⟨e1, by
    obtain ⟨d, hd, rd⟩ := r.getV (y vs (.of (s _ _ e)))
    exact ⟨d, hd, rd⟩⟩
theorem itok_scr {K : PySem.W.Frag} {F : Hp} {a : Addr} {ns : List Int} (e : SqL K F a (ns.map V.int)) : ItOk K (Itl K a) F (ns.map .int) where
  go := fun i H s h => ⟨_, .int (ns[i]'(by simpa using h)), s.seq e, by rw [List.getElem?_map, List.getElem?_eq_getElem (by simpa using h)]; rfl⟩
  stop := fun H s => ⟨_, s.seq e, by simp⟩
  yld := fun i H x H' s h ⟨e1, y⟩ => .inl ⟨e1, by
    have h' : i < ns.length := by simpa using h
    have := y _ (s.seq e)
    rw [List.getElem?_map, List.getElem?_eq_getElem h'] at this
    cases this
    exact ⟨.int ns[i], by rw [List.getElem?_map, List.getElem?_eq_getElem h']; rfl, .int _⟩⟩
def strD (x : Str) : List D := x.cps.toList.map fun c => .str ⟨#[c]⟩
theorem itok_str {K : PySem.W.Frag} {F : Hp} {x : Str} : ItOk K (Its x) F (strD x) where
  go := fun i H s h => by
    have h' : i < x.cps.size := by simpa [strD] using h
    exact h'
  stop := fun H s => by simp [strD, Its]
  yld := fun i H v H' s h ⟨e1, c, hc, hv⟩ => .inl ⟨e1, .str ⟨#[c]⟩, by
    simp only [strD, List.getElem?_map, Array.getElem?_toList, hc]; rfl, by rw [hv]; exact .str _⟩
def rngD (lo : Int) (n : Nat) : List D := (List.range n).map fun k => .int (lo + (k : Nat))
theorem rngD_length (lo : Int) (n : Nat) : (rngD lo n).length = n := by simp [rngD]
theorem itok_rng {K : PySem.W.Frag} {F : Hp} {lo : Int} {n : Nat} : ItOk K (Itr lo n) F (rngD lo n) where
  go := fun i H s h => by
    have h' : i < n := by simpa [rngD] using h
    exact h'
  stop := fun H s => by simp [rngD, Itr]
  yld := fun i H v H' s h ⟨e1, hv⟩ => .inl ⟨e1, .int (lo + (i : Nat)), by
    have h' : i < n := by simpa [rngD] using h
    simp [rngD, h'], by rw [hv]; exact .int _⟩
section
variable {X : Cx} {z : Ent} {pos : Pos} {tg : Expr}
/-- for .. in a list, a tuple, a text, the script -/
def iAny (K : PySem.W.Frag) (te : TE) : TI := fun σ H R => te σ H fun x H1 => (∃ a, x = .ref a ∧ (∃ xs, SqL K H1 a xs) ∧ R (Itl K a) H1) ∨ (∃ a, x = .ref a ∧ (∃ xs, SqT K H1 a xs) ∧ R (Itt K a) H1) ∨ ∃ y, x = .str y ∧ R (Its y) H1
theorem pi_any {l : Expr} {te : TE} (hl : PE X l te) : PI X tg l (iAny X.K te) := by
  refine ⟨fun pins s σ H R I h => ?_⟩
  refine thn (hl.run pins s σ H _ I h) fun v s1 ⟨x, H1, I1, r1, q1⟩ => ?_
  rcases q1 with ⟨a, e, ⟨xs, hq⟩, q⟩ | ⟨a, e, ⟨xs, hq⟩, q⟩ | ⟨y, e, q⟩
  · subst e
    cases r1
    obtain ⟨its, rv, p, hz⟩ := I1.list hq
    refine wpAny_pyIter_list p.isList ?_
    refine ⟨s1.heap.objs.size, [s1.heap.objs.size], _, _, H1, rfl, I1.kept (t' := s1.toks) fun b o e => Heap.get?_push_of_some _ e, turn_list a _, ⟨_, Heap.get?_push_size _ rfl, rfl, rfl⟩, fun b hb => ?_, q⟩
    have e : b = s1.heap.objs.size := by simpa using hb
    subst e
    exact I1.fpOk (Nat.le_refl _) (I1.hok.fresh (Nat.le_refl _))
  · subst e
    cases r1
    obtain ⟨its, rv, p, hz⟩ := I1.tuple hq
    refine wpAny_pyIter_tuple (show s1.heap.IsTuple a its.toArray from p) ?_
    refine ⟨s1.heap.objs.size, [s1.heap.objs.size], _, _, H1, rfl, I1.kept (t' := s1.toks) fun b o e => Heap.get?_push_of_some _ e, turn_tuple a _, ⟨_, Heap.get?_push_size _ rfl, rfl, rfl⟩, fun b hb => ?_, q⟩
    have e : b = s1.heap.objs.size := by simpa using hb
    subst e
    exact I1.fpOk (Nat.le_refl _) (I1.hok.fresh (Nat.le_refl _))
  · subst e
    obtain ⟨t, rfl⟩ := r1
    cases ha : y.cps.all (· < 128)
    · exact PySem.wpAny_pyIter_wide ha (pi_one (tk := s1.toks) I1 _ (turn_str _ y t "str_iterator" (.inr rfl)) ⟨_, Heap.get?_push_size _ rfl, rfl, rfl⟩ q)
    · exact PySem.wpAny_pyIter_ascii ha (pi_one (tk := s1.toks) I1 _ (turn_str _ y t "str_ascii_iterator" (.inl rfl)) ⟨_, Heap.get?_push_size _ rfl, rfl, rfl⟩ q)
def dIt  (t : DX) : DI := fun δ w Q => t δ w fun _ d w1 => match d with
  | .lst ds => Q ds w1
  | .tup ds => Q ds w1
  | .scr ns => Q (ns.map .int) w1
  | .str x => Q (strD x) w1
  | _ => False
theorem ji_any {l : Expr} {t : DX} (hK : z.K = X.K) (hl : JX X z l t) : PI X tg l (liftI z (dIt t)) := PI.imp (pi_any hl) fun σ H R ⟨δ, w, F, He, P, Re, q, k⟩ => by
  refine ⟨δ, w, F, He, _, Re, q, fun b d w1 q1 v H1 F1 He1 wd1 st1 r1 => ?_⟩
  obtain ⟨F2, st2, wd2, r2, s2⟩ := r1.thaw st1 wd1
  rw [← hK]
  cases r2 with
  | lst e r => exact .inl ⟨_, rfl, ⟨_, .of (wd2.sf _ _ e)⟩, k _ _ q1 _ H1 F2 He1 wd2 st2 (itok_list e r)⟩
  | tup e r => exact .inr (.inl ⟨_, rfl, ⟨_, .of (wd2.sf _ _ e)⟩, k _ _ q1 _ H1 F2 He1 wd2 st2 (itok_tup e r)⟩)
  | scr e => exact .inl ⟨_, rfl, ⟨_, wd2.sf.seq e⟩, k _ _ q1 _ H1 F2 He1 wd2 st2 (itok_scr e)⟩
  | str x => exact .inr (.inr ⟨x, rfl, k _ _ q1 _ H1 F2 He1 wd2 st2 itok_str⟩)
  | _ => exact q1.elim
/-- range(b), range(a, b) -/
def dRng1  (t : DO) : DI := fun δ w Q => t δ w fun d w1 => match d with
  | .int j => (-(2 ^ 62) ≤ j ∧ j < 2 ^ 62) ∧ Q (rngD 0 j.toNat) w1
  | _ => False
def dRng2  (t u : DO) : DI := fun δ w Q => t δ w fun d w1 => u δ w1 fun e w2 => match d, e with
  | .int i, .int j => (-(2 ^ 62) ≤ i ∧ i < 2 ^ 62 ∧ -(2 ^ 62) ≤ j ∧ j < 2 ^ 62) ∧ Q (rngD i (j - i).toNat) w2
  | _, _ => False
theorem ji_rng1 {a : Expr} {t : DO} {p pos : Pos} (hm : X.mg "range" = none) (ha : JO X z a t) (hg : Gl X "range" := by rfl) (hs : starEach [a] X.env = [(false, eval a X.env)] := by rfl) : PI X tg (.Call (.Name "range" p) [a] [] pos) (liftI z (dRng1 t)) :=
  PI.imp (pi_range1 hg hm (pa_cons ha pa_nil hs) hs) fun σ H R ⟨δ, w, F, He, P, Re, q, k⟩ => by
    refine ⟨δ, w, F, He, _, Re, q, fun d w1 q1 v H1 F1 He1 wd1 st1 r1 => ?_⟩
    cases d with
    | int j => have := r1.dt.int; subst v; exact ⟨j, rfl, q1.1.1, q1.1.2, k _ _ q1.2 _ H1 F1 He1 wd1 st1 itok_rng⟩
    | _ => exact q1.elim
theorem ji_rng2 {a b : Expr} {t u : DO} {p pos : Pos} (hm : X.mg "range" = none) (ha : JO X z a t) (hb : JO X z b u) (hg : Gl X "range" := by rfl) (hs : starEach [a, b] X.env = [(false, eval a X.env), (false, eval b X.env)] := by rfl) (hs2 : starEach [b] X.env = [(false, eval b X.env)] := by rfl) :
    PI X tg (.Call (.Name "range" p) [a, b] [] pos) (liftI z (dRng2 t u)) :=
  PI.imp (pi_range2 hg hm (pa_cons ha (pa_cons hb pa_nil hs2) (by rw [hs, hs2])) hs hs2) fun σ H R ⟨δ, w, F, He, P, Re, q, k⟩ => by
    refine ⟨δ, w, F, He, _, Re, q, fun d w1 q1 v H1 F1 He1 wd1 st1 r1 => ?_⟩
    refine ⟨δ, w1, F1, He1, _, Re.step wd1 st1, q1, fun e w2 q2 u H2 F2 He2 wd2 st2 r2 => ?_⟩
    cases d with
    | int i =>
      cases e with
      | int j =>
        have := r1.dt.int; subst v
        have := r2.dt.int; subst u
        exact ⟨i, j, rfl, q2.1, k _ _ q2.2 _ H2 F2 He2 wd2 (st1.trans st2) itok_rng⟩
      | _ => exact q2.elim
    | _ => exact q2.elim

/-! ### for -/
def dForGo  (g : DG) (t : DS) (E : DEnds) : List D → DSt → Om → Prop
  | [], δ, w => E.nx δ w
  | d :: ds, δ, w => g d δ fun δ1 => t { E with nx := dForGo g t E ds, ct := dForGo g t E ds, bk := E.nx } δ1 w
def dFor  (it : DI) (g : DG) (t : DS) : DS := fun E δ w => it δ w fun ds w1 => dForGo g t E ds δ w1
theorem Rel.two {δ : DSt} {w : Om} {F He H H' : Hp} {σ : St} {T : Addr} {o : HO} (R : Rel z δ w F He σ H) (hT : H T = none) : Rel z δ w F He σ (upd H T o) := R.step (R.wd.alloc hT) (.alloc hT)
theorem js_for {iter : Expr} {body : List Stmt} {it : DI} {G : TG} {g : DG} {t : DS} (hp : PassesOwn (model X.prog X.w) X.A X.env X.xe) (hc : X.calm = true) (hi : PI X tg iter (liftI z it)) (hg : PG X tg G) (ok : GOk z G g) (hb : JSs X z body t)
    (hs : ∀ x, foldedSetIterable iter X.env x = pure x := by intro _; rfl) : JS X z (.For tg iter body [] pos) (dFor it g t) :=
  PS.imp (ps_for hp hc hi hg hb hs) fun D σ H ⟨δ, w, F, He, E, R, q, cn⟩ => by
    refine ⟨δ, w, F, He, _, R, q, fun ds w1 q1 J H1 F1 He1 wd1 st1 io => ?_⟩
    have R1 := R.step wd1 st1
    refine ⟨fun i m σ H => m = ds.length - i ∧ i ≤ ds.length ∧ ∃ δ w F He, Same F1 F ∧ Rel z δ w F He σ H ∧ dForGo g t E (ds.drop i) δ w, ⟨ds.length, by simp, Nat.zero_le _, δ, w1, F1, He1, Same.refl _, R1, q1⟩, ?_⟩
    rintro i m σ H ⟨rfl, hle, δ, w, F, He, sF, R, q⟩
    have sH : Same F1 H := sF.trans R.wd.sf
    by_cases hlt : i < ds.length
    · refine .inr ⟨io.go i H sH hlt, fun σ' H' => ∃ δ w F He, Same F1 F ∧ Rel z δ w F He σ' H' ∧ dForGo g t E (ds.drop (i + 1)) δ w, fun σ' H' h => ⟨ds.length - (i + 1), by omega, rfl, hlt, h⟩, fun x H' y => ?_⟩
      rw [List.drop_eq_getElem_cons hlt] at q
      have fin : ∀ {F' : Hp}, Same F1 F' → Rel z δ w F' He σ H' → DR z.K F' x ds[i] → G x σ H' fun σ2 H2 => liftS z t { D with nx := fun σ' H' => ∃ δ w F He, Same F1 F ∧ Rel z δ w F He σ' H' ∧ dForGo g t E (ds.drop (i + 1)) δ w, ct := fun σ' H' => ∃ δ w F He, Same F1 F ∧ Rel z δ w F He σ' H' ∧ dForGo g t E (ds.drop (i + 1)) δ w, bk := D.nx } σ2 H2 := by
        intro F' sF' R' rx
        refine ok δ w F' He H' σ x _ _ _ R' rx q fun δ2 σ2 q2 R2 => ?_
        have s1 := st1.fz.trans sF'
        exact ⟨δ2, w, F', He, _, R2, q2, ⟨fun δ3 w3 F3 He3 σ3 H3 p r s3 => ⟨δ3, w3, F3, He3, sF'.trans s3, r, p⟩, cn.rt, fun δ3 w3 F3 He3 σ3 H3 p r s3 => cn.nx _ _ _ _ _ _ p r (s1.trans s3), fun δ3 w3 F3 He3 σ3 H3 p r s3 => ⟨δ3, w3, F3, He3, sF'.trans s3, r, p⟩⟩⟩
      rcases io.yld i H x H' sH hlt y with ⟨rfl, d, hd, rd⟩ | ⟨T, vs, es, rfl, hT, rfl, hd, rd⟩
      · rw [List.getElem?_eq_getElem hlt] at hd
        cases hd
        exact fin sF R (rd.mono sF)
      · rw [List.getElem?_eq_getElem hlt] at hd
        have hd' := Option.some.inj hd
        have R' := R.step (R.wd.alloc (o := .tup vs) hT) (.alloc hT)
        have hF : F T = none := R.wd.fnone hT
        have hHe : He T = none := R.wd.henone hT
        refine fin (F' := upd F T (.tup vs)) (sF.trans (same_upd hF)) (R.step ((R.wd.alloc hT).freeze upd_same hF hHe) ((Step.alloc hT).freeze hF hT)) ?_
        rw [hd']
        exact .tup upd_same ((rd.mono sF).mono (same_upd hF))
    · have e : i = ds.length := by omega
      subst e
      rw [List.drop_length] at q
      exact .inl ⟨io.stop H sH, cn.nx _ _ _ _ _ _ q R (st1.fz.trans sF)⟩
end
end Lv

namespace Lv
open PySem PySem.Spec L2

/-! ### list comprehensions -/
def wipeD (δ : DSt) : List Nat → DSt
  | [] => δ
  | v :: vs => (wipeD δ vs).set v none
section
variable {z : Ent} {δ : DSt} {w : Om} {F He H F' He' H' : Hp} {σ : St}
theorem Rel.forget (R : Rel z δ w F He σ H) (i : Nat) : Rel z (δ.set i none) w F He (σ.set i none) H := by
  refine ⟨R.wd, R.st, by rw [List.length_set, List.length_set]; exact R.len, fun j s e => ?_, fun j k d1 d2 a e1 e2 a1 a2 => ?_⟩
  · rcases get_set e with ⟨rfl, rfl⟩ | ⟨hj, e'⟩
    · have hi : i < δ.length := by
        have := (List.getElem?_eq_some_iff.mp e).1
        simpa using this
      exact ⟨none, List.getElem?_set_self (by rw [R.len]; exact hi), True.intro⟩
    · obtain ⟨u, hu, q⟩ := R.sl j s e'
      exact ⟨u, by rw [List.getElem?_set_ne hj]; exact hu, q⟩
  · rcases get_set e1 with ⟨_, x⟩ | ⟨hj, e1'⟩
    · cases x
    · rcases get_set e2 with ⟨_, x⟩ | ⟨hk, e2'⟩
      · cases x
      · rw [List.getElem?_set_ne hj] at a1
        rw [List.getElem?_set_ne hk] at a2
        exact R.inj j k d1 d2 a e1' e2' a1 a2
theorem Rel.wipe (R : Rel z δ w F He σ H) : ∀ vs : List Nat, Rel z (wipeD δ vs) w F He (L2.wipe σ vs) H
  | [] => R
  | v :: vs => (Rel.wipe R vs).forget v
end
theorem wipe_comm {σ : St} {i : Nat} {v : Option V} (h : ∀ (j : Nat), j = i → True) : ∀ vs : List Nat, i ∉ vs → L2.wipe (σ.set i v) vs = (L2.wipe σ vs).set i v
  | [], _ => rfl
  | u :: vs, hn => by
    simp only [List.mem_cons, not_or] at hn
    rw [L2.wipe, L2.wipe, wipe_comm h vs hn.2, List.set_comm _ _ hn.1]
theorem wipe_set {σ : St} {i : Nat} {v : Option V} : ∀ {vs : List Nat}, i ∈ vs → L2.wipe (σ.set i v) vs = L2.wipe σ vs
  | u :: vs, hm => by
    rw [L2.wipe, L2.wipe]
    by_cases hu : i ∈ vs
    · rw [wipe_set hu]
    · have e : i = u := by
        rcases List.mem_cons.mp hm with e | e
        · exact e
        · exact absurd e hu
      subst e
      rw [wipe_comm (fun _ _ => True.intro) vs hu, List.set_set]
theorem wipe_wipe {σ : St} : ∀ (us vs : List Nat), (∀ i ∈ us, i ∈ vs) → L2.wipe (L2.wipe σ us) vs = L2.wipe σ vs
  | [], _, _ => rfl
  | u :: us, vs, h => by
    rw [L2.wipe, wipe_set (h u List.mem_cons_self), wipe_wipe us vs fun i hi => h i (List.mem_cons_of_mem _ hi)]
/-- a target that keeps to the slots vs -/
def GOkV (z : Ent) (vs : List Nat) (G : TG) (g : DG) : Prop := ∀ (δ : DSt) (w : Om) (F He H : Hp) (σ : St) (x : V) (d : D) (P : DSt → Prop) (Q : St → Hp → Prop), Rel z δ w F He σ H → DR z.K F x d → g d δ P → (∀ δ' σ', P δ' → Rel z δ' w F He σ' H → L2.wipe σ' vs = L2.wipe σ vs → Q σ' H) → G x σ H Q
theorem gokv_name {z : Ent} {vs : List Nat} (i : Nat) (h : i ∈ vs) : GOkV z vs (gName i) (gN i) := fun δ w F He H σ x d P Q R r q k => k _ _ q (R.put r) (wipe_set h)
def GsOkV (z : Ent) (vs : List Nat) (G : TGs) (g : DGs) : Prop := ∀ (δ : DSt) (w : Om) (F He H : Hp) (σ : St) (xs : List V) (ds : List D) (P : DSt → Prop) (Q : St → Hp → Prop), Rel z δ w F He σ H → DRs z.K F xs ds → g ds δ P → (∀ δ' σ', P δ' → Rel z δ' w F He σ' H → L2.wipe σ' vs = L2.wipe σ vs → Q σ' H) → G xs σ H Q
theorem gsokv_nil {z : Ent} {vs : List Nat} : GsOkV z vs gNil gsN := fun δ w F He H σ xs ds P Q R r q k => by
  cases ds with
  | nil => cases r; exact ⟨rfl, k _ _ q R rfl⟩
  | cons d ds => exact q.elim
theorem gsokv_cons {z : Ent} {vs : List Nat} {G : TG} {Gs : TGs} {g : DG} {gs : DGs} (h : GOkV z vs G g) (hs : GsOkV z vs Gs gs) : GsOkV z vs (gCons G Gs) (gsC g gs) := fun δ w F He H σ xs ds P Q R r q k => by
  cases ds with
  | nil => exact q.elim
  | cons d ds =>
    cases r with
    | cons r rs => exact ⟨_, _, rfl, h δ w F He H σ _ d _ _ R r q fun δ1 σ1 q1 R1 e1 => hs δ1 w F He H σ1 _ ds P Q R1 rs q1 fun δ' σ' q' R' e' => k δ' σ' q' R' (e'.trans e1)⟩
theorem gokv_tup {z : Ent} {vs : List Nat} {Gs : TGs} {gs : DGs} {K : PySem.W.Frag} {n : Nat} (h : GsOkV z vs Gs gs) : GOkV z vs (gTup K n Gs) (gT n gs) := fun δ w F He H σ x d P Q R r q k => by
  unfold gT at q
  split at q
  · cases r with
    | tup e rs => exact ⟨_, _, rfl, .of (R.wd.sf _ _ e), by rw [rs.length]; exact q.1, h δ w F He H σ _ _ P Q R rs q.2 k⟩
  · exact q.elim
def dLcGo  (g : DG) (tt : DTs_) (te : DX) (δ : DSt) : List D → List D → Om → (Bool → D → Om → Prop) → Prop
  | [], acc, w, Q => Q true (.lst acc) w
  | d :: ds, acc, w, Q => g d δ fun δ1 => tt δ1 w fun k w1 => if k = true then te δ1 w1 fun _ e w2 => acc.length < sizeLine ∧ dLcGo g tt te δ ds (acc ++ [e]) w2 Q else dLcGo g tt te δ ds acc w1 Q
def dLc  (it : DI) (g : DG) (tt : DTs_) (te : DX) (vs : List Nat) : DX := fun δ w Q => it δ w fun ds w1 => dLcGo g tt te (wipeD δ vs) ds [] w1 Q
theorem Step.write {F He H F' He' H' : Hp} {p : Addr} {o : HO} (s : Step F He H F' He' H') (h : H p = none) : Step F He H F' He' (upd H' p o) where
  fz := s.fz
  fzN := s.fzN
  heN := s.heN
  keep := fun b u e n => by rw [upd_ne (ne_of_none e h)]; exact s.keep b u e n
  dom := fun b e => by
    by_cases hb : b = p
    · subst hb; exact absurd h e
    · rw [upd_ne hb]; exact s.dom b e
  tp := fun b xs e => by
    by_cases hb : b = p
    · subst hb; exact .inl h
    · rw [upd_ne hb] at e; exact s.tp b xs e
theorem Wd.write  {K : PySem.W.Frag} {w : Om} {F He H : Hp} {p : Addr} {o : HO} (x : Wd K w F He H) (n : F p = none) (m : He p = none) : Wd K w F He (upd H p o) where
  sf := fun b u e => by rw [upd_ne (ne_of_none e n)]; exact x.sf b u e
  sh := fun b u e => by rw [upd_ne (ne_of_none e m)]; exact x.sh b u e
  dj := x.dj
  ex := x.ex
theorem Step.fresh {F He H F' He' H' : Hp} {p : Addr} {o : HO} (s : Step F He H F' He' H') (h : H p = some o) (n : F p = none) (ht : ∀ xs, o ≠ .tup xs := by intro xs e; cases e) : F' p = none := by
  refine Classical.byContradiction fun q => ?_
  rcases s.fzN p q with q | q | ⟨xs, q⟩
  · exact q n
  · rw [h] at q; cases q
  · rw [h] at q; cases q; exact ht xs rfl
theorem Step.freshE {F He H F' He' H' : Hp} {p : Addr} (s : Step F He H F' He' H') (h : H p ≠ none) (n : He p = none) : He' p = none :=
  Classical.byContradiction fun q => (s.heN p q).elim (fun q => q n) fun q => h q
section
variable {X : Cx} {z : Ent} {pos : Pos}
theorem PTs.imp {X : Cx} {es : List Expr} {t t' : TT} (h : PTs X es t) (f : ∀ σ H Q, t' σ H Q → t σ H Q) : PTs X es t' := ⟨fun pins s σ H Q I q => h.run pins s σ H Q I (f σ H Q q)⟩
def dYes  : DTs_ := fun _ w Q => Q true w
theorem jts_nil : PTs X [] (liftT z dYes) := PTs.imp pts_nil fun σ H Q ⟨δ, w, F, He, P, R, q, k⟩ => k _ _ q H F He R.wd .refl
theorem jts_one {c : Expr} {t : DTs_} (h : JT X z c t) : PTs X [c] (liftT z t) := pts_one h
theorem lc_lift {it : DI} {G : TG} {g : DG} {tt : DTs_} {te : DX} {vs : List Nat} (ok : GOkV z vs G g) {σ : St} {H : Hp} {Q : VK} (h : liftX z (dLc it g tt te vs) σ H Q) : tLc (liftI z it) G (liftT z tt) (liftX z te) vs σ H Q := by
  obtain ⟨δ, w, F, He, P, R, q, k⟩ := h
  refine ⟨δ, w, F, He, _, R, q, fun ds w1 q1 J H1 F1 He1 wd1 st1 io D hD => ?_⟩
  have R1 := (R.step wd1 st1).wipe vs
  have hF1 : F1 D = none := wd1.fnone hD
  have hE1 : He1 D = none := wd1.henone hD
  refine ⟨fun i m H => m = ds.length - i ∧ i ≤ ds.length ∧ ∃ w F He accV accD, Wd z.K w F He H ∧ Step F1 He1 H1 F He H ∧ H D = some (.lst accV) ∧ F D = none ∧ He D = none ∧ DRs z.K F accV accD ∧ dLcGo g tt te (wipeD δ vs) (ds.drop i) accD w P,
    ⟨ds.length, by simp, Nat.zero_le _, w1, F1, He1, [], [], wd1.alloc hD, .alloc hD, upd_same, hF1, hE1, .nil, q1⟩, ?_⟩
  rintro i m H2 ⟨rfl, hle, w2, F2, He2, accV, accD, wd2, st2, hD2, hF2, hE2, ra, q2⟩
  have sH : Same F1 H2 := st2.fz.trans wd2.sf
  by_cases hlt : i < ds.length
  · refine .inr ⟨io.go i H2 sH hlt, fun H' => ∃ w F He accV accD, Wd z.K w F He H' ∧ Step F1 He1 H1 F He H' ∧ H' D = some (.lst accV) ∧ F D = none ∧ He D = none ∧ DRs z.K F accV accD ∧ dLcGo g tt te (wipeD δ vs) (ds.drop (i + 1)) accD w P,
      fun H' h => ⟨ds.length - (i + 1), by omega, rfl, hlt, h⟩, fun x H3 y => ?_⟩
    rw [List.drop_eq_getElem_cons hlt] at q2
    -- the item is there: the heap is as it was, or one tuple more
    have go : ∀ F3, Wd z.K w2 F3 He2 H3 → Step F2 He2 H2 F3 He2 H3 → DR z.K F3 x ds[i] → G x (L2.wipe σ vs) H3 fun σ2 H2 => L2.wipe σ2 vs = L2.wipe σ vs ∧ liftT z tt σ2 H2 fun b H3 => if b = true then liftX z te σ2 H3 fun y H4 => ∃ acc, H4 D = some (.lst acc) ∧ acc.length < sizeLine ∧
        (∃ w F He accV accD, Wd z.K w F He (upd H4 D (.lst (acc ++ [y]))) ∧ Step F1 He1 H1 F He (upd H4 D (.lst (acc ++ [y]))) ∧ (upd H4 D (.lst (acc ++ [y]))) D = some (.lst accV) ∧ F D = none ∧ He D = none ∧ DRs z.K F accV accD ∧ dLcGo g tt te (wipeD δ vs) (ds.drop (i + 1)) accD w P)
        else ∃ w F He accV accD, Wd z.K w F He H3 ∧ Step F1 He1 H1 F He H3 ∧ H3 D = some (.lst accV) ∧ F D = none ∧ He D = none ∧ DRs z.K F accV accD ∧ dLcGo g tt te (wipeD δ vs) (ds.drop (i + 1)) accD w P := by
      intro F3 wd3 st3 rx
      have nD2 : H2 D ≠ none := by rw [hD2]; exact fun z => nomatch z
      have hF3 := st3.fresh hD2 hF2
      have hD3 := st3.keep D _ hD2 hE2
      have nD3 : H3 D ≠ none := by rw [hD3]; exact fun z => nomatch z
      have st3' := st2.trans st3
      refine ok (wipeD δ vs) w2 F3 He2 H3 (L2.wipe σ vs) x ds[i] _ _ (R1.step wd3 st3') rx q2 fun δ4 σ4 q4 R4 e4 => ⟨e4.trans (wipe_wipe vs vs fun _ h => h), ?_⟩
      refine ⟨δ4, w2, F3, He2, _, R4, q4, fun b w5 q5 H5 F5 He5 wd5 st5 => ?_⟩
      have hF5 := st5.fresh hD3 hF3
      have hE5 := st5.freshE nD3 hE2
      have hD5 := st5.keep D _ hD3 hE2
      have nD5 : H5 D ≠ none := by rw [hD5]; exact fun z => nomatch z
      have st5' := st3'.trans st5
      have ra5 := (ra.mono st3.fz).mono st5.fz
      cases b with
      | false => exact ⟨w5, F5, He5, accV, accD, wd5, st5', hD5, hF5, hE5, ra5, q5⟩
      | true =>
        refine ⟨δ4, w5, F5, He5, _, R4.step wd5 st5, q5, fun bb e w6 q6 v H6 F6 He6 wd6 st6 r6 => ?_⟩
        obtain ⟨F7, st7, wd7, r7, s7⟩ := r6.thaw st6 wd6
        have hF7 := st7.fresh hD5 hF5
        have hE7 := st7.freshE nD5 hE5
        refine ⟨accV, st7.keep D _ hD5 hE5, by rw [ra.length]; exact q6.1, w6, F7, He6, accV ++ [v], accD ++ [e], wd7.write hF7 hE7, (st5'.trans st7).write hD, upd_same, hF7, hE7, (ra5.mono st7.fz).append (.cons r7 .nil), q6.2⟩
    rcases io.yld i H2 x H3 sH hlt y with ⟨rfl, d, hd, rd⟩ | ⟨T, us, es, rfl, hT, rfl, hd, rd⟩
    · rw [List.getElem?_eq_getElem hlt] at hd
      cases hd
      exact go F2 wd2 .refl (rd.mono st2.fz)
    · rw [List.getElem?_eq_getElem hlt] at hd
      have hd' := Option.some.inj hd
      have hF : F2 T = none := wd2.fnone hT
      have hE : He2 T = none := wd2.henone hT
      refine go (upd F2 T (.tup us)) ((wd2.alloc hT).freeze upd_same hF hE) ((Step.alloc hT).freeze hF hT) ?_
      rw [hd']
      exact .tup upd_same ((rd.mono st2.fz).mono (same_upd hF))
  · have e : i = ds.length := by omega
    subst e
    rw [List.drop_length] at q2
    refine .inl ⟨io.stop H2 sH, k _ _ _ q2 _ H2 F2 He2 wd2 (st1.trans st2) ⟨D, _, rfl, hD2, hF2, hE2, Classical.byContradiction fun q => st1.dom D q hD, .lst ra⟩⟩
theorem jx_lc {elt tg iter : Expr} {ifs : List Expr} {scope : Scope} {own : List (Str × Nat)} {it : DI} {G : TG} {g : DG} {tt : DTs_} {te : DX} (hc : X.calm = true) (hN : X.N.Nodup) (hi : PI X tg iter (liftI z it)) (ok : BlkOk X.N X.env.scope scope own) (gok : GOkV z (own.map (·.2)) G g)
    (hg : ∀ (s : Shared) (H : Hp) (C : Addr) (cl : List (Str × Addr)) (fp : List Addr), PG (X.blk s H scope (compEnvC scope cl C X.env) fp) tg G) (ht : ∀ (s : Shared) (H : Hp) (C : Addr) (cl : List (Str × Addr)) (fp : List Addr), PTs (X.blk s H scope (compEnvC scope cl C X.env) fp) ifs (liftT z tt))
    (he : ∀ (s : Shared) (H : Hp) (C : Addr) (cl : List (Str × Addr)) (fp : List Addr), JX (X.blk s H scope (compEnvC scope cl C X.env) fp) z elt te) (hs : ∀ x, foldedSetIterable iter X.env x = pure x := by intro _; rfl) :
    JX X z (.ListComp elt [⟨tg, iter, ifs, 0⟩] scope pos) (dLc it g tt te (own.map (·.2))) := PE.imp (pe_lc hc hN hi ok hg ht he hs) fun _ _ _ h => lc_lift gok h
theorem js_setLc {i : Nat} {y : Str} {py : Pos} {elt tg iter : Expr} {ifs : List Expr} {scope : Scope} {own : List (Str × Nat)} {it : DI} {G : TG} {g : DG} {tt : DTs_} {te : DX} {spos : Pos} (own' : Bool) (hc : X.calm = true) (hN : X.N.Nodup) (hy : X.N[i]? = some y) (hyl : X.env.scope.names.lookup y = some .local)
    (hsw : swapsWith (.ListComp elt [⟨tg, iter, ifs, 0⟩] scope pos) (some (.Name y py)) spos.line X.env = pure true) (hi : PI X tg iter (liftI z it)) (ok : BlkOk X.N X.env.scope scope own) (gok : GOkV z (own.map (·.2)) G g)
    (hg : ∀ (s : Shared) (H : Hp) (C : Addr) (cl : List (Str × Addr)) (fp : List Addr), PG (X.blk s H scope (compEnvC scope cl C X.env) fp) tg G) (ht : ∀ (s : Shared) (H : Hp) (C : Addr) (cl : List (Str × Addr)) (fp : List Addr), PTs (X.blk s H scope (compEnvC scope cl C X.env) fp) ifs (liftT z tt))
    (he : ∀ (s : Shared) (H : Hp) (C : Addr) (cl : List (Str × Addr)) (fp : List Addr), JX (X.blk s H scope (compEnvC scope cl C X.env) fp) z elt te) (hs : ∀ x, foldedSetIterable iter X.env x = pure x := by intro _; rfl) :
    JS X z (.Assign [.Name y py] (.ListComp elt [⟨tg, iter, ifs, 0⟩] scope pos) spos) (dSet own' i (dLc it g tt te (own.map (·.2)))) := PS.imp (ps_setLc hc hN hy hyl hsw hi ok hg ht he hs) fun D σ H h => by
  obtain ⟨δ, w, F, He, E, R, q, c⟩ := h
  refine lc_lift gok ⟨δ, w, F, He, _, R, q, fun b d w1 q1 v H1 F1 He1 wd1 st1 r1 => ?_⟩
  cases own' with
  | true => rw [Bool.and_true] at q1; exact c.nx _ _ _ _ _ _ q1 (R.assign wd1 st1 r1) st1.fz
  | false =>
    rw [Bool.and_false] at q1
    obtain ⟨F2, st2, wd2, r2, _⟩ := r1.thaw st1 wd1
    exact c.nx _ _ _ _ _ _ q1 (R.assign (b := false) wd2 st2 r2) st2.fz
end

/-! ### defs -/
/-- what a def is worth over data: arguments, the world, what is wanted of its result -/
abbrev DSp  := List D → Om → (Bool → D → Om → Prop) → Prop
def toSp (K : PySem.W.Frag) (T : DSp) : Sp := fun vs H Q _ => ∃ ds w F He P, Wd K w F He H ∧ DRs K F vs ds ∧ T ds w P ∧ ∀ b d w', P b d w' → ∀ v H' F' He', Wd K w' F' He' H' → Step F He H F' He' H' → Res K F' He' H H' b v d → Q v H'
/-- the def of this name keeps T -/
structure Fn (P : Program) (w : World) (K : PySem.W.Frag) (mg : Str → Option Value) (base : Heap)  (k : Nat) (x : Str) (T : DSp) : Prop where
  ex : ∃ (f : Addr) (fd : FuncData) (ps : List Str), FnOk P w K mg base CX0 k f fd ps (toSp K T) ∧ mg x = some (.ref f) ∧ PySem.W.keepIn K (.ref f) = true ∧ Binds K fd ps []
theorem Fn.mono {P : Program} {w : World} {K : PySem.W.Frag} {mg : Str → Option Value} {base : Heap}  {j k : Nat} {x : Str} {T : DSp} (F : Fn P w K mg base j x T) (h : j ≤ k) : Fn P w K mg base k x T :=
  let ⟨f, fd, ps, a, b, c, d⟩ := F.ex; ⟨f, fd, ps, a.mono h, b, c, d⟩
def dCall  (T : DSp) (t : DA) : DX := fun δ w Q => t δ w fun ds w1 => T ds w1 Q
section
variable {X : Cx} {z : Ent} {pos : Pos}
theorem call_lift {T : DSp} {t : DA} {σ : St} {H : Hp} {Q : VK} {K : PySem.W.Frag} (hK : z.K = K) (h : liftX z (dCall T t) σ H Q) : tCall (toSp K T) [] E0 (liftA z t) σ H Q := by
  subst hK
  obtain ⟨δ, w, F, He, P, R, q, k⟩ := h
  refine ⟨δ, w, F, He, _, R, q, fun ds w1 q1 vs H1 F1 He1 wd1 st1 r1 => ?_⟩
  show toSp z.K T (vs ++ []) H1 Q E0
  rw [List.append_nil]
  exact ⟨ds, w1, F1, He1, P, wd1, r1, q1, fun b d w' p v H' F' He' wd st r => k b d w' p v H' F' He' wd (st1.trans st) (r.base st1)⟩
theorem jx_call {k : Nat} {T : DSp} {t : DA} {x : Str} {p : Pos} {e : Expr} {es : List Expr} (f : Fn X.prog X.w X.K X.mg X.base k x T) (hK : z.K = X.K) (hr : Room k X.A) (ha : JA X z (e :: es) t) (hg : Gl X x := by rfl)
    (hdb : (x == ("__debug__" : Str)) = false := by decide) (he : starEach (e :: es) X.env = (false, eval e X.env) :: starEach es X.env := by rfl) (hpl : (backTo pos (starEach es X.env)).any (·.1) = false := by rfl) : JX X z (.Call (.Name x p) (e :: es) [] pos) (dCall T t) := by
  obtain ⟨fa, fd, ps, a, b, c, d⟩ := f.ex
  exact PE.imp (pe_call a hr hg b c d .nil pass0 ha hdb he hpl) fun _ _ _ h => call_lift hK h
theorem jx_call0 {k : Nat} {T : DSp} {x : Str} {p : Pos} (f : Fn X.prog X.w X.K X.mg X.base k x T) (hK : z.K = X.K) (hr : Room k X.A) (hg : Gl X x := by rfl) (hdb : (x == ("__debug__" : Str)) = false := by decide) : JX X z (.Call (.Name x p) [] [] pos) (dCall T dNil) := by
  obtain ⟨fa, fd, ps, a, b, c, d⟩ := f.ex
  refine PE.imp (pe_call0 a hr hg b c d .nil pass0 hdb) fun σ H Q h => ?_
  obtain ⟨δ, w, F, He, P, R, q, k⟩ := h
  show toSp X.K T [] H Q E0
  rw [← hK]
  exact ⟨[], w, F, He, P, R.wd, .nil, q, fun b d w' p v H' F' He' wd st r => k b d w' p v H' F' He' wd st r⟩
end
def startD (N : List Str) (ds : List D) : DSt := ds.map (fun d => some (false, d)) ++ List.replicate (N.length - ds.length) none
theorem DRs.getAt {K : PySem.W.Frag} {F : Hp} {vs : List V} {ds : List D} (r : DRs K F vs ds) {i : Nat} {d : D} (h : ds[i]? = some d) : ∃ v, vs[i]? = some v ∧ DR K F v d := r.get h
theorem rel_start  {K : PySem.W.Frag} {w : Om} {F He H : Hp} {N : List Str} {vs : List V} {ds : List D} (wd : Wd K w F He H) (r : DRs K F vs ds) : Rel ⟨K, F, He, H, w, wd.ex⟩ (startD N ds) w F He (start N vs) H := by
  have hl := r.length
  refine ⟨wd, .refl, ?_, fun i s e => ?_, fun i j d1 d2 a e1 e2 a1 a2 => ?_⟩
  · unfold L2.start startD
    rw [List.length_append, List.length_append, List.length_map, List.length_map, List.length_replicate, List.length_replicate, hl]
  · unfold startD at e
    unfold L2.start
    by_cases hi : i < ds.length
    · rw [List.getElem?_append_left (by simpa using hi), List.getElem?_map, List.getElem?_eq_getElem hi] at e
      cases e
      obtain ⟨v, hv, rv⟩ := r.get (List.getElem?_eq_getElem hi)
      refine ⟨some v, ?_, v, rfl, rv⟩
      rw [List.getElem?_append_left (by simpa [hl] using hi), List.getElem?_map, hv]
      rfl
    · rw [List.getElem?_append_right (by simpa using hi), List.length_map, List.getElem?_replicate] at e
      split at e
      · next hlt =>
        cases e
        refine ⟨none, ?_, True.intro⟩
        rw [List.getElem?_append_right (by rw [List.length_map]; omega), List.length_map, List.getElem?_replicate, if_pos (by omega)]
      · cases e
  · unfold startD at e1
    by_cases hi : i < ds.length
    · rw [List.getElem?_append_left (by simpa using hi), List.getElem?_map, List.getElem?_eq_getElem hi] at e1
      cases e1
    · rw [List.getElem?_append_right (by simpa using hi), List.length_map, List.getElem?_replicate] at e1
      split at e1 <;> cases e1
section
variable {P : Program} {w : World} {K : PySem.W.Frag} {mg : Str → Option Value} {base : Heap}
/-- a def by its body's reading over data -/
theorem fn_ok  {T : DSp} {x qual : Str} {st : Stmt} {f : Addr} {fd : FuncData} {N ps : List Str} {k : Nat} (F : L2.Fun K x qual st f fd) (S : FnScope N ps (defScope st)) (hm : mg x = some (.ref f))
    (hbd : ∀ (kV doc pm : Value) (an : Option Addr) (cdv ct : Value) (us : List Value), us.length = ps.length → bindArgs (PySem.W.fnOf x qual (defArgs st) (defBody st) (defScope st) .none kV doc pm an cdv ct) ⟨us, []⟩ = pure (ps.zip us))
    (len : ∀ ds w P, T ds w P → ds.length = ps.length)
    (h : ∃ tb : Om → DS, (∀ (cdv : Value) (A : Around) (outer : List Env) (s : Shared) (H F0 He0 : Hp) (w0 : Om) (rep0 : rep K w0 F0 He0) (E : XK), Room k (A.deeper (PyProof.Rows.envOfC qual (defScope st) s.heap.objs.size f cdv)) → JSs (cxOf CX0 P w K mg base N qual (defScope st) f cdv A outer s H E).nox ⟨K, F0, He0, H, w0, rep0⟩ (defBody st) (tb w0)) ∧
      ∀ ds w P, T ds w P → tb w { nx := fun _ w => P false .non w, rt := P } (startD N ds) w) : Fn P w K mg base (k + 1) x T := by
  obtain ⟨tb, hb, hT⟩ := h
  refine ⟨f, fd, ps, F.ok S (fun vs H Q E h => ?_) (fun cdv A outer s H vs Q E hr h => ?_), hm, F.kp, F.binds hbd⟩
  · obtain ⟨ds, w, F, He, P, _, r, q, _⟩ := h
    rw [r.length]
    exact len _ _ _ q
  · obtain ⟨ds, w, F, He, P, wd, r, q, k⟩ := h
    refine ⟨_, hb cdv A outer s H F He w wd.ex E hr, startD N ds, w, F, He, _, rel_start wd r, hT ds w P q, ?_⟩
    exact ⟨fun δ w' F' He' σ H' p R _ => k _ _ _ p .non H' F' He' R.wd R.st .non, fun b d w' p v H' F' He' wd' st' rr => k b d w' p v H' F' He' wd' st' rr, fun _ _ _ _ _ _ p => p.elim, fun _ _ _ _ _ _ p => p.elim⟩
end
end Lv

namespace Lv
open PySem PySem.Spec L2

/-! ### a call that gives a plain thing back: its arguments stay one's own -/
def D.scal : D → Bool
  | .non => true | .bl _ => true | .int _ => true | .str _ => true | _ => false

/-! ### builtins of the top that nobody has bound -/
theorem bt_int : bootBuiltins "int" = some (.type "int") := by decide +kernel
theorem bt_bool : bootBuiltins "bool" = some (.type "bool") := by decide +kernel
theorem bt_list : bootBuiltins "list" = some (.type "list") := by decide +kernel
theorem bt_tuple : bootBuiltins "tuple" = some (.type "tuple") := by decide +kernel
theorem bt_str : bootBuiltins "str" = some (.type "str") := by decide +kernel
theorem bt_dict : bootBuiltins "dict" = some (.type "dict") := by decide +kernel
theorem bb_len : bootBuiltins "len" = some (.builtin "len") := by decide +kernel
theorem bb_abs : bootBuiltins "abs" = some (.builtin "abs") := by decide +kernel
theorem bb_max : bootBuiltins "max" = some (.builtin "max") := by decide +kernel
theorem bb_min : bootBuiltins "min" = some (.builtin "min") := by decide +kernel
theorem bb_sum : bootBuiltins "sum" = some (.builtin "sum") := by decide +kernel
theorem bb_sorted : bootBuiltins "sorted" = some (.builtin "sorted") := by decide +kernel
theorem bb_isinstance : bootBuiltins "isinstance" = some (.builtin "isinstance") := by decide +kernel
theorem hu0 {k : Nat} {A : Around} (r : Room k A) : A.units < cLine := by have := r.un; omega
theorem hu1 {k : Nat} {A : Around} (r : Room k A) : A.units + 1 < cLine := by have := r.un; omega
theorem hu64 {k : Nat} {A : Around} (r : Room k A) : A.units + 64 < cLine := by have := r.un; omega
theorem hu65 {k : Nat} {A : Around} (r : Room k A) : A.units + 65 < cLine := by have := r.un; omega
/-- a def as the top has left it -/
structure TopFn (K : PySem.W.Frag) (mg : Str → Option Value) (x qual : Str) (st : Stmt) (f : Addr) (fd : FuncData) : Prop where
  fn : L2.Fun K x qual st f fd
  at_ : mg x = some (.ref f)

theorem if_t {p : Prop} [Decidable p] {a b : Prop} (h : p) (q : a) : if p then a else b := by rw [if_pos h]; exact q
theorem if_f {p : Prop} [Decidable p] {a b : Prop} (h : ¬p) (q : b) : if p then a else b := by rw [if_neg h]; exact q
/-! ### loops over data -/
section
theorem seq_i {t u : DS} {E : DEnds} {δ : DSt} {w : Om} (h : t ⟨u E, E.rt, E.bk, E.ct⟩ δ w) : dSeq t u E δ w := h
/-- a block cut behind its first statement -/
theorem seq_cut {t u : DS} {E : DEnds} {δ : DSt} {w : Om} (S : DSt → Om → Prop) (h1 : ∀ N : DSt → Om → Prop, (∀ δ w, S δ w → N δ w) → t ⟨N, E.rt, E.bk, E.ct⟩ δ w) (h2 : ∀ δ w, S δ w → u E δ w) : dSeq t u E δ w := h1 _ h2
theorem for_inv {α : Type} {g : DG} {t : DS} {E : DEnds} (f : α → D) (I : List α → DSt → Om → Prop) (xs : List α)
    (hs : ∀ pre x post δ w (N C : DSt → Om → Prop), xs = pre ++ x :: post → I pre δ w → (∀ δ' w', I (pre ++ [x]) δ' w' → N δ' w') → (∀ δ' w', I (pre ++ [x]) δ' w' → C δ' w') → g (f x) δ fun δ1 => t ⟨N, E.rt, E.nx, C⟩ δ1 w)
    (hd : ∀ δ w, I xs δ w → E.nx δ w) : ∀ (post pre : List α), xs = pre ++ post → ∀ δ w, I pre δ w → dForGo g t E (post.map f) δ w
  | [], pre, e, δ, w, h => by
    rw [List.append_nil] at e
    subst e
    exact hd δ w h
  | x :: post, pre, e, δ, w, h => by
    have e2 : xs = (pre ++ [x]) ++ post := by rw [e]; simp
    have ih := for_inv f I xs hs hd post (pre ++ [x]) e2
    exact hs pre x post δ w _ _ e h ih ih
/-- a for over data that are told by f of some list -/
theorem for_go {α : Type} {g : DG} {t : DS} {E : DEnds} (f : α → D) (I : List α → DSt → Om → Prop) (xs : List α) {δ : DSt} {w : Om} (h0 : I [] δ w)
    (hs : ∀ pre x post δ w (N C : DSt → Om → Prop), xs = pre ++ x :: post → I pre δ w → (∀ δ' w', I (pre ++ [x]) δ' w' → N δ' w') → (∀ δ' w', I (pre ++ [x]) δ' w' → C δ' w') → g (f x) δ fun δ1 => t ⟨N, E.rt, E.nx, C⟩ δ1 w)
    (hd : ∀ δ w, I xs δ w → E.nx δ w) : dForGo g t E (xs.map f) δ w := for_inv f I xs hs hd xs [] rfl δ w h0
/-- a for over a range -/
theorem for_rng {g : DG} {t : DS} {E : DEnds} (lo : Int) (n : Nat) (I : Nat → DSt → Om → Prop) {δ : DSt} {w : Om} (h0 : I 0 δ w)
    (hs : ∀ k δ w (N C : DSt → Om → Prop), k < n → I k δ w → (∀ δ' w', I (k + 1) δ' w' → N δ' w') → (∀ δ' w', I (k + 1) δ' w' → C δ' w') → g (.int (lo + (k : Nat))) δ fun δ1 => t ⟨N, E.rt, E.nx, C⟩ δ1 w)
    (hd : ∀ δ w, I n δ w → E.nx δ w) : dForGo g t E (rngD lo n) δ w := by
  refine for_go (fun k : Nat => D.int (lo + (k : Nat))) (fun pre δ w => I pre.length δ w) (List.range n) h0 (fun pre x post δ w N C e h hN hC => ?_) (fun δ w h => hd δ w (by simpa using h))
  have hx : x = pre.length ∧ pre.length < n := by
    have h1 : (List.range n)[pre.length]? = some x := by rw [e]; simp
    have h2 : pre.length < n := by
      have := (List.getElem?_eq_some_iff.mp h1).1
      simpa using this
    rw [List.getElem?_range h2] at h1
    exact ⟨(Option.some.inj h1).symm, h2⟩
  obtain ⟨rfl, hlt⟩ := hx
  exact hs _ δ w N C hlt h (fun δ' w' h => hN δ' w' (by simpa using h)) (fun δ' w' h => hC δ' w' (by simpa using h))
/-- a while, by a word I over states a of one's own with a measure -/
theorem while_go {α : Type} {c : DTs_} {t : DS} {E : DEnds} (I : α → DSt → Om → Prop) (μ : α → Nat)
    (hs : ∀ a δ w, I a δ w → ∀ N : DSt → Om → Prop, (∀ a' δ' w', I a' δ' w' → μ a' < μ a → N δ' w') → c δ w fun k w1 => if k = true then t ⟨N, E.rt, E.nx, N⟩ δ w1 else E.nx δ w1)
    (a : α) {δ : DSt} {w : Om} (h : I a δ w) : dWhile c t E δ w := by
  have key : ∀ n a δ w, I a δ w → μ a < n → wN c t E n δ w := by
    intro n
    induction n with
    | zero => intro a δ w _ h; omega
    | succ n ih => exact fun a δ w hI hm => hs a δ w hI _ fun a' δ' w' hI' hlt => ih a' δ' w' hI' (by omega)
  exact ⟨μ a + 1, key _ a δ w h (Nat.lt_succ_self _)⟩
/-- a comprehension: f the item, h what comes of it -/
theorem lc_map {α : Type} {i : Nat} {te : DX} {δ : DSt} {w : Om} {Q : Bool → D → Om → Prop} (f : α → D) (h : α → D) (xs : List α)
    (hs : ∀ x ∈ xs, ∀ P : Bool → D → Om → Prop, (∀ b, P b (h x) w) → te (δ.set i (some (false, f x))) w P) :
    ∀ acc : List D, acc.length + xs.length ≤ sizeLine → Q true (.lst (acc ++ xs.map h)) w → dLcGo (gN i) dYes te δ (xs.map f) acc w Q := by
  induction xs with
  | nil => intro acc _ q; rw [List.map_nil, List.append_nil] at q; exact q
  | cons x xs ih =>
    intro acc hz q
    simp only [List.map_cons, dLcGo, gN, dYes, if_true]
    refine hs x List.mem_cons_self _ fun b => ⟨by simp at hz; omega, ?_⟩
    exact ih (fun y hy => hs y (List.mem_cons_of_mem _ hy)) _ (by simp at hz ⊢; omega) (by simpa using q)
/-- a comprehension with a test -/
theorem lc_filter {α : Type} {i : Nat} {tt : DTs_} {te : DX} {δ : DSt} {w : Om} {Q : Bool → D → Om → Prop} (f : α → D) (h : α → D) (p : α → Bool) (xs : List α)
    (ht : ∀ x ∈ xs, ∀ P : Bool → Om → Prop, P (p x) w → tt (δ.set i (some (false, f x))) w P)
    (hs : ∀ x ∈ xs, p x = true → ∀ P : Bool → D → Om → Prop, (∀ b, P b (h x) w) → te (δ.set i (some (false, f x))) w P) :
    ∀ acc : List D, acc.length + xs.length ≤ sizeLine → Q true (.lst (acc ++ (xs.filter p).map h)) w → dLcGo (gN i) tt te δ (xs.map f) acc w Q := by
  induction xs with
  | nil => intro acc _ q; rw [List.filter_nil, List.map_nil, List.append_nil] at q; exact q
  | cons x xs ih =>
    intro acc hz q
    simp only [List.map_cons, dLcGo, gN]
    refine ht x List.mem_cons_self _ ?_
    have ih' := ih (fun y hy => ht y (List.mem_cons_of_mem _ hy)) (fun y hy => hs y (List.mem_cons_of_mem _ hy))
    by_cases hp : p x = true
    · rw [if_pos hp]
      refine hs x List.mem_cons_self hp _ fun b => ⟨by simp at hz; omega, ?_⟩
      exact ih' _ (by simp at hz ⊢; omega) (by simpa [List.filter_cons, hp] using q)
    · rw [if_neg hp]
      exact ih' _ (by simp at hz ⊢; omega) (by simpa [List.filter_cons, hp] using q)
end
/-- words -/
def wD (ws : List Int) : D := .tup (ws.map .int)
def iD (ws : List Int) : D := .lst (ws.map .int)
theorem pyAll_ints : ∀ ns : List Int, pyAll (ns.map .int) = ns.map .int
  | [] => rfl
  | n :: ns => by simp [pyAll, D.py, pyAll_ints ns]
theorem plAll_ints : ∀ ns : List Int, plAll (ns.map .int) = true
  | [] => rfl
  | n :: ns => by simp [plAll, D.pl, plAll_ints ns]
theorem eqvAll_ints : ∀ ns ms : List Int, PyData.eqvAll (ns.map .int) (ms.map .int) = decide (ns = ms)
  | [], [] => rfl
  | [], _ :: _ => rfl
  | _ :: _, [] => rfl
  | n :: ns, m :: ms => by
    simp only [List.map_cons, PyData.eqvAll, PyData.eqv, eqvAll_ints ns ms]
    by_cases h : n = m <;> by_cases h2 : ns = ms <;> simp [h, h2]
theorem depthAll_ints : ∀ ns : List Int, PyData.depthAll (ns.map .int) = 0
  | [] => rfl
  | n :: ns => by simp [PyData.depthAll, PyData.depth, depthAll_ints ns]
theorem eqv_ww (ns ms : List Int) : D.eqv (.tup (ns.map .int)) (.tup (ms.map .int)) = decide (ns = ms) := by simp only [D.eqv, D.py, PyData.eqv, pyAll_ints, eqvAll_ints]
theorem eqv_ll (ns ms : List Int) : D.eqv (.lst (ns.map .int)) (.lst (ms.map .int)) = decide (ns = ms) := by simp only [D.eqv, D.py, PyData.eqv, pyAll_ints, eqvAll_ints]
theorem eqv_ii (n m : Int) : D.eqv (.int n) (.int m) = decide (n = m) := by
  show (n == m) = decide (n = m)
  exact Bool.beq_eq_decide_eq n m
theorem sEq_ii (n m : Int) (P : Bool → D → Prop) : sEq (.int n) (.int m) P = P false (.bl (decide (n = m))) := by
  unfold sEq
  rw [eqv_ii]
  simp [D.pl, D.py, PyData.depth]
theorem sNe_ii (n m : Int) (P : Bool → D → Prop) : sNe (.int n) (.int m) P = P false (.bl (!decide (n = m))) := by
  unfold sNe
  rw [eqv_ii]
  simp [D.pl, D.py, PyData.depth]
theorem sEq_ww (n m : List Int) (P : Bool → D → Prop) : sEq (.tup (n.map .int)) (.tup (m.map .int)) P = P false (.bl (decide (n = m))) := by
  unfold sEq
  rw [eqv_ww]
  simp [D.pl, D.py, PyData.depth, pyAll_ints, depthAll_ints, plAll_ints]
theorem sNe_ww (n m : List Int) (P : Bool → D → Prop) : sNe (.tup (n.map .int)) (.tup (m.map .int)) P = P false (.bl (!decide (n = m))) := by
  unfold sNe
  rw [eqv_ww]
  simp [D.pl, D.py, PyData.depth, pyAll_ints, depthAll_ints, plAll_ints]
theorem sEq_ll (n m : List Int) (P : Bool → D → Prop) : sEq (.lst (n.map .int)) (.lst (m.map .int)) P = P false (.bl (decide (n = m))) := by
  unfold sEq
  rw [eqv_ll]
  simp [D.pl, D.py, PyData.depth, pyAll_ints, depthAll_ints, plAll_ints]
theorem sNe_ll (n m : List Int) (P : Bool → D → Prop) : sNe (.lst (n.map .int)) (.lst (m.map .int)) P = P false (.bl (!decide (n = m))) := by
  unfold sNe
  rw [eqv_ll]
  simp [D.pl, D.py, PyData.depth, pyAll_ints, depthAll_ints, plAll_ints]
theorem kitB_ii : kitB "int" "int" = some true := by decide +kernel
theorem kitB_ib : kitB "int" "bool" = some false := by decide +kernel
theorem kitB_ll : kitB "list" "list" = some true := by decide +kernel
theorem kitB_tt : kitB "tuple" "tuple" = some true := by decide +kernel
theorem kitB_ss : kitB "str" "str" = some true := by decide +kernel
theorem sIsi_ii (i : Int) (P : Bool → D → Prop) : sIsi (.int i) (.ty "int") P = P false (.bl true) := by
  unfold sIsi; simp [tyD, kitB_ii]
theorem sIsi_ib (i : Int) (P : Bool → D → Prop) : sIsi (.int i) (.ty "bool") P = P false (.bl false) := by
  unfold sIsi; simp [tyD, kitB_ib]
theorem sIsi_ll (ds : List D) (P : Bool → D → Prop) : sIsi (.lst ds) (.ty "list") P = P false (.bl true) := by
  unfold sIsi; simp [tyD, kitB_ll]
theorem sIsi_tt (ds : List D) (P : Bool → D → Prop) : sIsi (.tup ds) (.ty "tuple") P = P false (.bl true) := by
  unfold sIsi; simp [tyD, kitB_tt]
theorem sIsi_ss (x : Str) (P : Bool → D → Prop) : sIsi (.str x) (.ty "str") P = P false (.bl true) := by
  unfold sIsi; simp [tyD, kitB_ss]
theorem atI_nn {α : Type} {xs : List α} {i : Int} (h : 0 ≤ i) (h2 : i < xs.length) : atI xs i = xs[i.toNat]? := by
  unfold atI ixN
  rw [if_pos h, if_pos h2]
  rfl
theorem divC {i j : Int} (h : 0 < j) (h2 : j < 2 ^ 64) : CDivW i j := by
  refine wide_div h (b := 64) ?_ (by decide) (by decide)
  omega
theorem mulC {i j : Int} (h : -(2 ^ 64) < i) (h2 : i < 2 ^ 64) : MulC i j := .inl (.inl ⟨h, h2⟩)
theorem mulC' {i j : Int} (h : -(2 ^ 64) < j) (h2 : j < 2 ^ 64) : MulC i j := .inl (.inr ⟨h, h2⟩)
end Lv
namespace Lv
open PySem PySem.Spec L2
section
variable {P : Program} {w : World} {K : PySem.W.Frag} {mg : Str → Option Value} {base : Heap}
theorem fn_okF  {T : DSp} {x qual : Str} {st : Stmt} {f : Addr} {fd : FuncData} {N ps : List Str} {k : Nat} (F : L2.Fun K x qual st f fd) (S : FnScope N ps (defScope st))
    (len : ∀ ds w P, T ds w P → ds.length = ps.length)
    (h : ∃ tb : Om → DS, (∀ (cdv : Value) (A : Around) (outer : List Env) (s : Shared) (H F0 He0 : Hp) (w0 : Om) (rep0 : rep K w0 F0 He0) (E : XK), Room k (A.deeper (PyProof.Rows.envOfC qual (defScope st) s.heap.objs.size f cdv)) → JSs (cxOf CX0 P w K mg base N qual (defScope st) f cdv A outer s H E).nox ⟨K, F0, He0, H, w0, rep0⟩ (defBody st) (tb w0)) ∧
      ∀ ds w P, T ds w P → tb w { nx := fun _ w => P false .non w, rt := P } (startD N ds) w) : FnOk P w K mg base CX0 (k + 1) f fd ps (toSp K T) := by
  obtain ⟨tb, hb, hT⟩ := h
  refine F.ok S (fun vs H Q E h => ?_) (fun cdv A outer s H vs Q E hr h => ?_)
  · obtain ⟨ds, w, F, He, P, _, r, q, _⟩ := h
    rw [r.length]
    exact len _ _ _ q
  · obtain ⟨ds, w, F, He, P, wd, r, q, k⟩ := h
    refine ⟨_, hb cdv A outer s H F He w wd.ex E hr, startD N ds, w, F, He, _, rel_start wd r, hT ds w P q, ?_⟩
    exact ⟨fun δ w' F' He' σ H' p R _ => k _ _ _ p .non H' F' He' R.wd R.st .non, fun b d w' p v H' F' He' wd' st' rr => k b d w' p v H' F' He' wd' st' rr, fun _ _ _ _ _ _ p => p.elim, fun _ _ _ _ _ _ p => p.elim⟩
end
/-- a law's promise: the script in, True out -/
def noMem : Om := fun _ => none
theorem rep_none {K : PySem.W.Frag} {F : Hp} : rep K noMem F (fun _ => none) := ⟨(fun _ _ e => nomatch e), fun _ _ => .inl rfl⟩
def lawT : DSp := fun ds w P => ∃ ns : List Int, ds = [.scr ns] ∧ ns.length ≤ 63 ∧ w = noMem ∧ ∀ w', P false (.bl true) w'
theorem law_sp {K : PySem.W.Frag} {a : Addr} {ns : List Int} {H : Hp} {Q : VK} {E : XK} (hl : ns.length ≤ 63) (hS : SqL K H a (ns.map V.int)) (hQ : ∀ H', Q (.bl true) H') : toSp K lawT [.ref a] H Q E := by
  refine ⟨[.scr ns], noMem, H, fun _ => none, fun b d _ => b = false ∧ d = .bl true, ⟨Same.refl _, (fun b o e => nomatch e), (fun b o e => nomatch e), rep_none⟩, .cons (.scr hS) .nil, ⟨ns, rfl, hl, rfl, fun _ => ⟨rfl, rfl⟩⟩, fun b d w' p v H' F' He' _ _ r => ?_⟩
  obtain ⟨rfl, rfl⟩ := p
  cases r
  exact hQ H'
end Lv

namespace Lv
open PySem PySem.Spec L2

/-! ### the results' readers, stuck where the result isn't known -/
section
variable {α : Type}
def kB (Q : Bool → α → Prop) (w : α) : D → Prop
  | .bl k => Q k w
  | _ => False
def kT (Q : Bool → α → Prop) (w : α) : D → Prop
  | .non => Q false w
  | .bl k => Q k w
  | .int i => Q (i != 0) w
  | .str x => x.length ≤ sizeLine ∧ Q ((x.length : Int) != 0) w
  | .lst ds => Q (!ds.isEmpty) w
  | .tup ds => Q (!ds.isEmpty) w
  | .scr ds => Q (!ds.isEmpty) w
  | .dK ds => Q (!ds.isEmpty) w
  | _ => False
def kAnd (u : α → Prop) (Q : Bool → D → α → Prop) (w : α) : D → Prop
  | .bl k => if k = true then u w else Q false (.bl false) w
  | _ => False
def kOr (u : α → Prop) (Q : Bool → D → α → Prop) (w : α) : D → Prop
  | .bl k => if k = true then Q false (.bl true) w else u w
  | _ => False
def kNot (Q : Bool → D → α → Prop) (w : α) : D → Prop
  | .bl k => Q false (.bl (!k)) w
  | _ => False
def kIt (Q : List D → α → Prop) (w : α) : D → Prop
  | .lst ds => Q ds w
  | .tup ds => Q ds w
  | .scr ns => Q (ns.map .int) w
  | .str x => Q (strD x) w
  | _ => False
def kP (Q : Option Int → α → Prop) (w : α) : D → Prop
  | .int i => Q (some i) w
  | _ => False
def kR1 (Q : List D → α → Prop) (w : α) : D → Prop
  | .int j => (-(2 ^ 62) ≤ j ∧ j < 2 ^ 62) ∧ Q (rngD 0 j.toNat) w
  | _ => False
def kR2 (Q : List D → α → Prop) (w : α) : D → D → Prop
  | .int i, .int j => (-(2 ^ 62) ≤ i ∧ i < 2 ^ 62 ∧ -(2 ^ 62) ≤ j ∧ j < 2 ^ 62) ∧ Q (rngD i (j - i).toNat) w
  | _, _ => False
end
section

theorem dB_u (t : DX) (δ : DSt) (w : Om) (Q : Bool → Om → Prop) : dB t δ w Q = t δ w fun _ d w' => kB Q w' d := rfl
theorem dTru_u (t : DO) (δ : DSt) (w : Om) (Q : Bool → Om → Prop) : dTru t δ w Q = t δ w fun d w' => kT Q w' (res w' d) := rfl
theorem dAndV_u (t u : DX) (δ : DSt) (w : Om) (Q : Bool → D → Om → Prop) : dAndV t u δ w Q = t δ w fun _ d w' => kAnd (fun w => u δ w Q) Q w' d := rfl
theorem dOrV_u (t u : DX) (δ : DSt) (w : Om) (Q : Bool → D → Om → Prop) : dOrV t u δ w Q = t δ w fun _ d w' => kOr (fun w => u δ w Q) Q w' d := rfl
theorem dNotV_u (t : DX) (δ : DSt) (w : Om) (Q : Bool → D → Om → Prop) : dNotV t δ w Q = t δ w fun _ d w' => kNot Q w' d := rfl
theorem dIt_u (t : DX) (δ : DSt) (w : Om) (Q : List D → Om → Prop) : dIt t δ w Q = t δ w fun _ d w' => kIt Q w' d := rfl
theorem dP_u (t : DO) (δ : DSt) (w : Om) (Q : Option Int → Om → Prop) : dP t δ w Q = t δ w fun d w' => kP Q w' d := rfl
theorem dRng1_u (t : DO) (δ : DSt) (w : Om) (Q : List D → Om → Prop) : dRng1 t δ w Q = t δ w fun d w' => kR1 Q w' d := rfl
theorem dRng2_u (t u : DO) (δ : DSt) (w : Om) (Q : List D → Om → Prop) : dRng2 t u δ w Q = t δ w fun d w1 => u δ w1 fun e w2 => kR2 Q w2 d e := rfl
theorem dChain_u (s1 s2 : D → D → (Bool → D → Prop) → Prop) (ta tb tc : DO) (δ : DSt) (w : Om) (Q : Bool → D → Om → Prop) : dChain s1 s2 ta tb tc δ w Q = ta δ w fun d w1 => tb δ w1 fun e w2 => s1 (res w2 d) (res w2 e) fun _ r => kAnd (fun w2 => tc δ w2 fun f w3 => s2 (res w3 e) (res w3 f) fun b d' => Q b d' w3) Q w2 r := rfl
end
theorem atI_ints {ns : List Int} {k : Int} {x : Int} (h0 : 0 ≤ k) (h : ns[k.toNat]? = some x) : atI (ns.map D.int) k = some (.int x) := by
  have hl := (List.getElem?_eq_some_iff.mp h).1
  rw [atI_nn h0 (by rw [List.length_map]; omega), List.getElem?_map, h]
  rfl
theorem atI_k {ns : List Int} {k : Nat} (h : k < ns.length) : atI (ns.map D.int) (0 + (k : Int)) = some (.int ns[k]) := atI_ints (by omega) (by rw [show (0 + (k : Int)).toNat = k by omega]; simp)
theorem atI_scr {ns : List Int} {k : Int} (h0 : 0 ≤ k) (h : k < ns.length) : ∃ x, atI ns k = some x := ⟨ns[k.toNat], by rw [atI_nn h0 h]; simp⟩
theorem atI_lastD (p : List D) (x : D) : atI (p ++ [x]) (-1) = some x := by
  unfold atI ixN
  have e : (-1 + ((p.length : Int) + 1)).toNat = p.length := by omega
  have e2 : (1 : Int) ≤ p.length + 1 := by omega
  simp [e, e2]
theorem atI_last (p : List Int) (x : Int) : atI ((p ++ [x]).map D.int) (-1) = some (.int x) := by
  rw [List.map_append]
  exact atI_lastD _ _
theorem fPop_snoc (p : List D) (x : D) : fPop (p ++ [x]) = some p := by simp [fPop]
theorem fPop_snoc' (p : List Int) (x : Int) : fPop ((p ++ [x]).map D.int) = some (p.map D.int) := by simp [fPop]
theorem mod_bd (i : Int) {j : Int} (h : 0 < j) : 0 ≤ i % j ∧ i % j < j := ⟨Int.emod_nonneg i (by omega), Int.emod_lt_of_pos i h⟩
theorem kR1_c {α : Type} {Q : List D → α → Prop} {w : α} {j : Int} (h : -(2 ^ 62) ≤ j) (h2 : j < 2 ^ 62) (q : Q (rngD 0 j.toNat) w) : kR1 Q w (.int j) := ⟨⟨h, h2⟩, q⟩
theorem rep1 {α : Type} (d : α) : ∀ n, (List.replicate n [d]).flatten = List.replicate n d
  | 0 => rfl
  | n + 1 => by rw [List.replicate_succ, List.flatten_cons, rep1 d n]; rfl
theorem cutD_le {α : Type} (ns : List α) (lo hi : Option Int) : (cutD ns lo hi).length ≤ ns.length := by unfold cutD; simp; omega
theorem cutD_map {α β : Type} (f : α → β) (ns : List α) (lo hi : Option Int) : cutD (ns.map f) lo hi = (cutD ns lo hi).map f := by unfold cutD; simp [List.map_take, List.map_drop]
theorem cutD_at {α : Type} (ns : List α) {k : Int} (h : 0 ≤ k) (h2 : k ≤ ns.length) : cutD ns none (some k) = ns.take k.toNat ∧ cutD ns (some k) none = ns.drop k.toNat := by
  have e1 : HT.sIx ns.length 0 (some k) = k.toNat := by
    unfold HT.sIx
    simp only []
    rw [if_neg (by omega)]
    omega
  have e2 : HT.sIx ns.length ns.length (some k) = k.toNat := by
    unfold HT.sIx
    simp only []
    rw [if_neg (by omega)]
    omega
  have e3 : HT.sIx ns.length 0 none = 0 := rfl
  have e4 : HT.sIx ns.length ns.length none = ns.length := rfl
  unfold cutD
  rw [e1, e2, e3, e4]
  constructor
  · simp
  · rw [List.take_of_length_le (by simp)]
end Lv

namespace Lv
open PySem PySem.Spec L2

/-! ### xs[a:b:n] of a list -/
def pickD {α : Type} (xs : List α) (lo hi st : Option Int) : List α :=
  (sliceRange (PySem.sliceBounds lo hi st xs.length).1 (PySem.sliceBounds lo hi st xs.length).2.1 (PySem.sliceBounds lo hi st xs.length).2.2).filterMap (xs[·]?)
theorem pick_vals {R : V → D → Prop} : ∀ (ks : List Nat) (vs : List V) (ds : List D), (∀ k : Nat, (vs[k]? = none ∧ ds[k]? = none) ∨ ∃ v d, vs[k]? = some v ∧ ds[k]? = some d ∧ R v d) → True := fun _ _ _ _ => trivial
section
variable {X : Cx} {z : Ent} {pos : Pos}
theorem vals_pick {xs : List V} {us : List Value} (r : Vals xs us) : ∀ ks : List Nat, Vals (ks.filterMap (xs[·]?)) (ks.filterMap (us[·]?)) := by
  intro ks
  induction ks with
  | nil => exact .nil
  | cons k ks ih =>
    rw [List.filterMap_cons, List.filterMap_cons]
    cases e : xs[k]? with
    | none =>
      have : us[k]? = none := by
        rw [List.getElem?_eq_none_iff] at e ⊢
        rw [← r.length]; exact e
      rw [this]
      exact ih
    | some x =>
      obtain ⟨u, hu, ru⟩ := r.get e
      rw [hu]
      exact .cons ru ih
theorem drs_pick {K : PySem.W.Frag} {F : Hp} {vs : List V} {ds : List D} (r : DRs K F vs ds) : ∀ ks : List Nat, DRs K F (ks.filterMap (vs[·]?)) (ks.filterMap (ds[·]?)) := by
  intro ks
  induction ks with
  | nil => exact .nil
  | cons k ks ih =>
    rw [List.filterMap_cons, List.filterMap_cons]
    cases e : ds[k]? with
    | none =>
      have : vs[k]? = none := by
        rw [List.getElem?_eq_none_iff] at e ⊢
        rw [r.length]; exact e
      rw [this]
      exact ih
    | some x =>
      obtain ⟨u, hu, ru⟩ := r.get e
      rw [hu]
      exact .cons ru ih
theorem pickD_le {α : Type} (xs : List α) (lo hi st : Option Int) : (pickD xs lo hi st).length ≤ xs.length := by
  have := PySem.slicePick_size_le (items := (xs.map fun _ => Value.none).toArray) lo hi st
  unfold PySem.slicePick at this
  rw [List.size_toArray, List.size_toArray, List.length_map] at this
  refine Nat.le_trans ?_ this
  unfold pickD
  generalize sliceRange _ _ _ = ks
  induction ks with
  | nil => simp
  | cons k ks ih =>
    rw [List.filterMap_cons, List.filterMap_cons]
    have e : ((xs.map fun _ => Value.none).toArray)[k]? = (xs[k]?).map fun _ => Value.none := by simp
    rw [e]
    cases xs[k]? with
    | none => exact ih
    | some x => simp only [Option.map, List.length_cons]; omega
def tSl3 (K : PySem.W.Frag) (te : TE) (tl th ts : TO) : TE := fun σ H Q => te σ H fun x H1 => tl σ H1 fun l H2 => th σ H2 fun u H3 => ts σ H3 fun st H4 => ∃ a xs, x = .ref a ∧ SqL K H4 a xs ∧ st ≠ some 0 ∧ ∀ p, H4 p = none → Q (.ref p) (upd H4 p (.lst (pickD xs l u st)))
open PyProof.Rows in
theorem pe_sl3 {e : Expr} {lo hi : Option Expr} {sx : Expr} {te : TE} {tl th ts : TO} {p3 pos : Pos} (he : PE X e te) (hl : PO X lo tl) (hh : PO X hi th) (hs : PO X (some sx) ts) : PE X (.Subscript e (.Slice lo hi (some sx) p3) pos) (tSl3 X.K te tl th ts) := by
  refine ⟨fun pins s σ H Q I h => ?_⟩
  refine PyProof.Rows.Subscript_ (thn (he.run pins s σ H _ I h) fun v s1 ⟨x, H1, I1, r1, q1⟩ => ?_)
  refine wpAny_Slice (thn (hl.run pins s1 σ H1 _ I1 q1) fun vl s2 ⟨l, H2, I2, pl, q2⟩ => ?_)
  refine thn (hh.run pins s2 σ H2 _ I2 q2) fun vu s3 ⟨u, H3, I3, pu, q3⟩ => ?_
  refine thn (hs.run pins s3 σ H3 _ I3 q3) fun vs s4 ⟨o, H4, I4, ps, q4⟩ => ?_
  obtain ⟨a, xs, ex, hx, h0, q⟩ := q4
  subst ex
  cases r1
  have I5 : Inv X pins σ H4 { s4 with heap := s4.heap.push { cls := .type "slice", data := .fields #[vl, vu, vs] } } := I4.kept (t' := s4.toks) fun b ob q => Heap.get?_push_of_some _ q
  show wpAny (model X.prog X.w) X.A (subscriptTail e (.Slice lo hi (some sx) p3) (.ref a) (.ref s4.heap.objs.size)) (EP X pins σ Q) X.xe { s4 with heap := s4.heap.push { cls := .type "slice", data := .fields #[vl, vu, vs] } }
  obtain ⟨its, r, ht, hz⟩ := I5.list hx
  have hlen := r.length
  refine tail_any (ops := [.ref a, .ref s4.heap.objs.size]) ht.isList.typeIs (PySem.slot_list_getitem.lookup) ?_ (by with_unfolding_all rfl)
  refine wpAny_getItem_list_slice ht.isList (Heap.IsSliceOf.new _ vl vu vs) pl pu ps h0 ?_ (by rw [List.size_toArray]; omega)
  have e : slicePick its.toArray l u o = (pickD its l u o).toArray := by
    unfold slicePick pickD
    rw [List.size_toArray]
    simp
  have e2 : Vals (pickD xs l u o) (pickD its l u o) := by
    unfold pickD
    rw [hlen]
    exact vals_pick r _
  rw [e]
  refine ⟨.ref _, _, I5.laid (t' := s4.toks) (o := .lst (pickD xs l u o)) (fun b ob q => Heap.get?_push_of_some _ q) (Nat.le_refl _) ?_, rfl, q _ (I5.hok.fresh (Nat.le_refl _))⟩
  exact ⟨Nat.le_trans (pickD_le xs l u o) hz, _, 0, e2, Heap.get?_push_size _ rfl⟩
def sSl3 (d : D) (lo hi st : Option Int) (P : Bool → D → Prop) : Prop := match d with
  | .lst ds => st ≠ some 0 ∧ P true (.lst (pickD ds lo hi st))
  | .scr ns => st ≠ some 0 ∧ P true (.lst ((pickD ns lo hi st).map .int))
  | _ => False
theorem pickD_map {α β : Type} (f : α → β) (xs : List α) (lo hi st : Option Int) : pickD (xs.map f) lo hi st = (pickD xs lo hi st).map f := by
  unfold pickD
  rw [List.length_map]
  generalize sliceRange _ _ _ = ks
  induction ks with
  | nil => rfl
  | cons k ks ih =>
    rw [List.filterMap_cons, List.filterMap_cons, ih, List.getElem?_map]
    cases xs[k]? <;> rfl
theorem sem_sl3 {w : Om} {F He H : Hp} {x : V} {d : D} {lo hi st : Option Int} {P : Bool → D → Prop} {Q : VK} (wd : Wd z.K w F He H) (dx : DT z.K F He H x d) (q : sSl3 d lo hi st P)
    (k : ∀ b d', P b d' → ∀ v H' F' He', Wd z.K w F' He' H' → Step F He H F' He' H' → Res z.K F' He' H H' b v d' → Q v H') : ∃ a xs, x = .ref a ∧ SqL z.K H a xs ∧ st ≠ some 0 ∧ ∀ p, H p = none → Q (.ref p) (upd H p (.lst (pickD xs lo hi st))) := by
  unfold sSl3 at q
  split at q
  · obtain ⟨a, vs, rfl, ha, ra⟩ := dx.lst wd.sf
    refine ⟨a, vs, rfl, .of ha, q.1, fun p hp => res_new wd hp (.lst ?_) q.2 k⟩
    unfold pickD
    rw [ra.length]
    exact drs_pick ra _
  · next ns =>
    obtain ⟨a, rfl, ha⟩ := dx.scr wd.sf
    refine ⟨a, _, rfl, ha, q.1, fun p hp => res_new wd hp (.lst ?_) q.2 k⟩
    rw [pickD_map]
    exact DRs.ofInts _
  · exact q.elim
def dSl3  (t : DO) (l h s : DP) : DX := fun δ w Q => t δ w fun d w1 => l δ w1 fun lo w2 => h δ w2 fun hi w3 => s δ w3 fun st w4 => sSl3 (res w4 d) lo hi st fun b d' => Q b d' w4
theorem jx_sl3 {e : Expr} {lo hi : Option Expr} {sx : Expr} {t : DO} {tl th ts : DP} {p2 : Pos} (hK : z.K = X.K) (he : JO X z e t) (hl : PO X lo (liftP z tl)) (hh : PO X hi (liftP z th)) (hs : PO X (some sx) (liftP z ts)) : JX X z (.Subscript e (.Slice lo hi (some sx) p2) pos) (dSl3 t tl th ts) :=
  PE.imp (pe_sl3 he hl hh hs) fun σ H Q ⟨δ, w, F, He, P, R, q, k⟩ => by
    refine ⟨δ, w, F, He, _, R, q, fun d w1 q1 v H1 F1 He1 wd1 st1 r1 => ?_⟩
    refine ⟨δ, w1, F1, He1, _, R.step wd1 st1, q1, fun o w2 q2 H2 F2 He2 wd2 st2 => ?_⟩
    refine ⟨δ, w2, F2, He2, _, (R.step wd1 st1).step wd2 st2, q2, fun o' w3 q3 H3 F3 He3 wd3 st3 => ?_⟩
    refine ⟨δ, w3, F3, He3, _, ((R.step wd1 st1).step wd2 st2).step wd3 st3, q3, fun o'' w4 q4 H4 F4 He4 wd4 st4 => ?_⟩
    have st := st1.trans (st2.trans (st3.trans st4))
    rw [← hK]
    exact sem_sl3 wd4 (res_ok wd4.ex wd4.sh (r1.step (st2.trans (st3.trans st4)))) q4 fun b d' p v H' F' He' wd s' rr => k b d' w4 p v H' F' He' wd (st.trans s') (rr.base st)
end
end Lv

namespace Lv
open PySem PySem.Spec L2

/-! ### told data: f writes an α as data, == is its own equality -/
structure Codec {α : Type} (f : α → D) (n : Nat) : Prop where
  pl : ∀ a, (f a).pl = true
  dep : ∀ a, (f a).py.depth ≤ n
  eq : ∀ a b, PyData.eqv (f a).py (f b).py = true ↔ a = b
theorem Codec.int : Codec D.int 0 := ⟨fun _ => rfl, fun _ => Nat.le_refl _, fun a b => by simp [D.py, PyData.eqv]⟩
theorem Codec.str : Codec D.str 0 := ⟨fun _ => rfl, fun _ => Nat.le_refl _, fun a b => by simp [D.py, PyData.eqv]⟩
theorem Codec.bl : Codec D.bl 0 := ⟨fun _ => rfl, fun _ => Nat.le_refl _, fun a b => by simp [D.py, PyData.eqv]⟩
section
variable {α β : Type} {f : α → D} {n : Nat}
theorem Codec.plAll (c : Codec f n) : ∀ as : List α, Lv.plAll (as.map f) = true
  | [] => rfl
  | a :: as => by rw [List.map_cons, Lv.plAll, c.pl, c.plAll as]; rfl
theorem Codec.depAll (c : Codec f n) : ∀ as : List α, PyData.depthAll (pyAll (as.map f)) ≤ n
  | [] => Nat.zero_le _
  | a :: as => by rw [List.map_cons, pyAll, PyData.depthAll]; exact Nat.max_le.mpr ⟨c.dep a, c.depAll as⟩
theorem Codec.eqAll (c : Codec f n) : ∀ as bs : List α, PyData.eqvAll (pyAll (as.map f)) (pyAll (bs.map f)) = true ↔ as = bs
  | [], [] => by simp [pyAll, PyData.eqvAll]
  | [], _ :: _ => by simp [pyAll, PyData.eqvAll]
  | _ :: _, [] => by simp [pyAll, PyData.eqvAll]
  | a :: as, b :: bs => by simp [pyAll, PyData.eqvAll, c.eq a b, c.eqAll as bs]
theorem Codec.lst (c : Codec f n) : Codec (fun as : List α => .lst (as.map f)) (n + 1) := ⟨fun as => c.plAll as, fun as => Nat.succ_le_succ (c.depAll as), fun as bs => by simpa [D.py, PyData.eqv] using c.eqAll as bs⟩
theorem Codec.tup (c : Codec f n) : Codec (fun as : List α => .tup (as.map f)) (n + 1) := ⟨fun as => c.plAll as, fun as => Nat.succ_le_succ (c.depAll as), fun as bs => by simpa [D.py, PyData.eqv] using c.eqAll as bs⟩
theorem Codec.up (c : Codec f n) {m : Nat} (h : n ≤ m) : Codec f m := ⟨c.pl, fun a => Nat.le_trans (c.dep a) h, c.eq⟩
theorem Codec.pair (c : Codec f n) {g : β → D} (d : Codec g n) : Codec (fun p : α × β => .tup [f p.1, g p.2]) (n + 1) :=
  ⟨fun p => by simp [D.pl, Lv.plAll, c.pl, d.pl], fun p => Nat.succ_le_succ (by simp only [pyAll, PyData.depthAll]; have := c.dep p.1; have := d.dep p.2; omega), fun p q => by simp [D.py, pyAll, PyData.eqv, PyData.eqvAll, c.eq, d.eq, Prod.ext_iff]⟩
theorem Codec.sEq [DecidableEq α] (c : Codec f n) (h : n ≤ 64) (a b : α) (P : Bool → D → Prop) : Lv.sEq (f a) (f b) P = P false (.bl (decide (a = b))) := by
  have e : (f a).eqv (f b) = decide (a = b) := by
    rw [Bool.eq_iff_iff, decide_eq_true_iff]
    exact c.eq a b
  unfold Lv.sEq
  rw [e]
  have := c.dep a
  simp [c.pl]
  intro _
  omega
theorem Codec.sNe [DecidableEq α] (c : Codec f n) (h : n ≤ 64) (a b : α) (P : Bool → D → Prop) : Lv.sNe (f a) (f b) P = P false (.bl (!decide (a = b))) := by
  have e : (f a).eqv (f b) = decide (a = b) := by
    rw [Bool.eq_iff_iff, decide_eq_true_iff]
    exact c.eq a b
  unfold Lv.sNe
  rw [e]
  have := c.dep a
  simp [c.pl]
  intro _
  omega
end
section
variable {α : Type} {f : α → D} {n : Nat}
theorem Codec.inD [DecidableEq α] (c : Codec f n) (a : α) : ∀ as : List α, Lv.inD (f a) (as.map f) = decide (a ∈ as)
  | [] => rfl
  | b :: as => by
    have ih := c.inD a as
    unfold Lv.inD at ih ⊢
    rw [List.map_cons, List.any_cons, ih]
    have e : (f b).eqv (f a) = decide (b = a) := by
      rw [Bool.eq_iff_iff, decide_eq_true_iff]
      exact c.eq b a
    rw [e]
    by_cases h : a = b
    · subst h; simp
    · have h' : ¬ b = a := fun e => h e.symm
      simp [h, h']
theorem Codec.sInL [DecidableEq α] (c : Codec f n) (h : n ≤ 64) (neg : Bool) (a : α) (as : List α) (P : Bool → D → Prop) : sIn neg (f a) (.lst (as.map f)) P = P false (.bl (if neg then !decide (a ∈ as) else decide (a ∈ as))) := by
  unfold sIn
  have := c.dep a
  simp only [c.inD, c.pl, c.plAll, true_and]
  simp
  intro _
  omega
theorem Codec.sInT [DecidableEq α] (c : Codec f n) (h : n ≤ 64) (neg : Bool) (a : α) (as : List α) (P : Bool → D → Prop) : sIn neg (f a) (.tup (as.map f)) P = P false (.bl (if neg then !decide (a ∈ as) else decide (a ∈ as))) := by
  unfold sIn
  have := c.dep a
  simp only [c.inD, c.pl, c.plAll, true_and]
  simp
  intro _
  omega
end
/-- lists of words, words of words -/
def lwD (ws : List (List Int)) : D := .lst (ws.map wD)
def llD (ws : List (List Int)) : D := .lst (ws.map iD)
theorem Codec.w : Codec wD 1 := Codec.int.tup
theorem Codec.i : Codec iD 1 := Codec.int.lst
theorem Codec.lw : Codec lwD 2 := Codec.w.lst
theorem Codec.ll : Codec llD 2 := Codec.i.lst
theorem sEq_w (a b : List Int) (P : Bool → D → Prop) : sEq (wD a) (wD b) P = P false (.bl (decide (a = b))) := Codec.w.sEq (by decide) a b P
theorem sEq_i (a b : List Int) (P : Bool → D → Prop) : sEq (iD a) (iD b) P = P false (.bl (decide (a = b))) := Codec.i.sEq (by decide) a b P
theorem sEq_lw (a b : List (List Int)) (P : Bool → D → Prop) : sEq (lwD a) (lwD b) P = P false (.bl (decide (a = b))) := Codec.lw.sEq (by decide) a b P
theorem sEq_lw' (a b : List (List Int)) (P : Bool → D → Prop) : sEq (.lst (a.map wD)) (.lst (b.map wD)) P = P false (.bl (decide (a = b))) := Codec.lw.sEq (by decide) a b P
theorem sEq_lle (a b : List (List Int)) (P : Bool → D → Prop) : sEq (llD a) (llD b) P = P false (.bl (decide (a = b))) := Codec.ll.sEq (by decide) a b P
theorem sEq_lle' (a b : List (List Int)) (P : Bool → D → Prop) : sEq (.lst (a.map iD)) (.lst (b.map iD)) P = P false (.bl (decide (a = b))) := Codec.ll.sEq (by decide) a b P
theorem sNe_w (a b : List Int) (P : Bool → D → Prop) : sNe (wD a) (wD b) P = P false (.bl (!decide (a = b))) := Codec.w.sNe (by decide) a b P
theorem sNe_i (a b : List Int) (P : Bool → D → Prop) : sNe (iD a) (iD b) P = P false (.bl (!decide (a = b))) := Codec.i.sNe (by decide) a b P
theorem sNe_lle' (a b : List (List Int)) (P : Bool → D → Prop) : sNe (.lst (a.map iD)) (.lst (b.map iD)) P = P false (.bl (!decide (a = b))) := Codec.ll.sNe (by decide) a b P
theorem sNe_lw' (a b : List (List Int)) (P : Bool → D → Prop) : sNe (.lst (a.map wD)) (.lst (b.map wD)) P = P false (.bl (!decide (a = b))) := Codec.lw.sNe (by decide) a b P
theorem sEq_ss (a b : Str) (P : Bool → D → Prop) : sEq (.str a) (.str b) P = P false (.bl (decide (a = b))) := Codec.str.sEq (by decide) a b P
theorem sNe_ss (a b : Str) (P : Bool → D → Prop) : sNe (.str a) (.str b) P = P false (.bl (!decide (a = b))) := Codec.str.sNe (by decide) a b P
theorem sEq_bb (a b : Bool) (P : Bool → D → Prop) : sEq (.bl a) (.bl b) P = P false (.bl (decide (a = b))) := Codec.bl.sEq (by decide) a b P
theorem sNe_bb (a b : Bool) (P : Bool → D → Prop) : sNe (.bl a) (.bl b) P = P false (.bl (!decide (a = b))) := Codec.bl.sNe (by decide) a b P
theorem sIn_iw (neg : Bool) (a : Int) (as : List Int) (P : Bool → D → Prop) : sIn neg (.int a) (.tup (as.map D.int)) P = P false (.bl (if neg then !decide (a ∈ as) else decide (a ∈ as))) := Codec.int.sInT (by decide) neg a as P
theorem sIn_ii (neg : Bool) (a : Int) (as : List Int) (P : Bool → D → Prop) : sIn neg (.int a) (.lst (as.map D.int)) P = P false (.bl (if neg then !decide (a ∈ as) else decide (a ∈ as))) := Codec.int.sInL (by decide) neg a as P
theorem sIn_wl (neg : Bool) (a : List Int) (as : List (List Int)) (P : Bool → D → Prop) : sIn neg (wD a) (.lst (as.map wD)) P = P false (.bl (if neg then !decide (a ∈ as) else decide (a ∈ as))) := (Codec.w.sInL (by decide) neg a as P).trans (by congr)
theorem sIn_wl' (neg : Bool) (a : List Int) (as : List (List Int)) (P : Bool → D → Prop) : sIn neg (.tup (a.map D.int)) (.lst (as.map wD)) P = P false (.bl (if neg then !decide (a ∈ as) else decide (a ∈ as))) := (Codec.w.sInL (by decide) neg a as P).trans (by congr)
theorem atI_f {α : Type} (f : α → D) {ns : List α} {k : Int} {x : α} (h0 : 0 ≤ k) (h : ns[k.toNat]? = some x) : atI (ns.map f) k = some (f x) := by
  have hl := (List.getElem?_eq_some_iff.mp h).1
  rw [atI_nn h0 (by rw [List.length_map]; omega), List.getElem?_map, h]
  rfl
theorem atI_fk {α : Type} (f : α → D) {ns : List α} {k : Nat} (h : k < ns.length) : atI (ns.map f) (0 + (k : Int)) = some (f ns[k]) := atI_f f (by omega) (by rw [show (0 + (k : Int)).toNat = k by omega]; simp)
/-- a comprehension whose items are only known by a word R -/
theorem lc_any  {α β : Type} {i : Nat} {te : DX} {δ : DSt} {w : Om} {Q : Bool → D → Om → Prop} (f : α → D) (g : β → D) (R : α → β → Prop) (xs : List α)
    (hs : ∀ x ∈ xs, ∀ P : Bool → D → Om → Prop, (∀ b y, R x y → P b (g y) w) → te (δ.set i (some (false, f x))) w P) :
    ∀ acc : List D, acc.length + xs.length ≤ sizeLine → (∀ ys : List β, ys.length = xs.length → (∀ y ∈ ys, ∃ x ∈ xs, R x y) → Q true (.lst (acc ++ ys.map g)) w) → dLcGo (gN i) dYes te δ (xs.map f) acc w Q := by
  induction xs with
  | nil =>
    intro acc _ q
    have := q [] rfl (fun _ h => nomatch h)
    rw [List.map_nil, List.append_nil] at this
    exact this
  | cons x xs ih =>
    intro acc hz q
    simp only [List.map_cons, dLcGo, gN, dYes, if_true]
    refine hs x List.mem_cons_self _ fun b y hy => ⟨by simp at hz; omega, ?_⟩
    refine ih (fun y hy => hs y (List.mem_cons_of_mem _ hy)) _ (by simp at hz ⊢; omega) fun ys hl hr => ?_
    have := q (y :: ys) (by simp [hl]) (fun y' h' => by
      rcases List.mem_cons.mp h' with e | e
      · subst e; exact ⟨x, List.mem_cons_self, hy⟩
      · obtain ⟨x', hx', r⟩ := hr y' e
        exact ⟨x', List.mem_cons_of_mem _ hx', r⟩)
    simpa using this
theorem if_join {p : Prop} [Decidable p] {a b : Prop} (h : p → a) (g : ¬p → b) : if p then a else b := by
  by_cases x : p
  · rw [if_pos x]; exact h x
  · rw [if_neg x]; exact g x
theorem cutD_nn {α : Type} (ns : List α) {i j : Int} (h : 0 ≤ i) (h2 : i ≤ j) (h3 : j ≤ ns.length) : cutD ns (some i) (some j) = (ns.drop i.toNat).take (j - i).toNat := by
  have e1 : HT.sIx ns.length 0 (some i) = i.toNat := by
    unfold HT.sIx
    simp only []
    rw [if_neg (by omega)]
    omega
  have e2 : HT.sIx ns.length ns.length (some j) = j.toNat := by
    unfold HT.sIx
    simp only []
    rw [if_neg (by omega)]
    omega
  unfold cutD
  rw [e1, e2]
  congr 1
  omega
theorem cutD_mid {α : Type} (a b c : List α) : cutD (a ++ b ++ c) (some (a.length : Int)) (some ((a.length : Int) + b.length)) = b := by
  rw [cutD_nn _ (by omega) (by omega) (by simp; omega), List.append_assoc]
  have e : ((a.length : Int) + b.length - a.length).toNat = b.length := by omega
  rw [e]
  simp
theorem cutD_upto {α : Type} (ns : List α) {j : Int} (h : 0 ≤ j) : cutD ns none (some j) = ns.take j.toNat := by
  have e2 : HT.sIx ns.length ns.length (some j) = min j.toNat ns.length := by
    unfold HT.sIx
    simp only []
    rw [if_neg (by omega)]
  have e3 : HT.sIx ns.length 0 none = 0 := rfl
  unfold cutD
  rw [e2, e3, List.drop_zero, Nat.sub_zero]
  by_cases x : j.toNat ≤ ns.length
  · rw [Nat.min_eq_left x]
  · rw [Nat.min_eq_right (by omega), List.take_of_length_le (Nat.le_refl _), List.take_of_length_le (by omega)]
end Lv

namespace Lv
open PySem PySem.Spec L2

/-! ### methods of texts and lists that give a value -/
def isS : D → Prop
  | .str _ => True
  | _ => False
def isL : D → Prop
  | .lst _ => True
  | .scr _ => True
  | _ => False
def isA : D → Prop
  | .tup _ => True
  | _ => False
def dM0  (ty : D → Prop) (sem : D → (Bool → D → Prop) → Prop) (ta : DO) : DX := fun δ w Q => ta δ w fun d w1 => ty (res w1 d) ∧ sem (res w1 d) fun b d' => Q b d' w1
def dM1  (ty : D → Prop) (sem : D → D → (Bool → D → Prop) → Prop) (ta tb : DO) : DX := fun δ w Q => ta δ w fun d w1 => ty (res w1 d) ∧ tb δ w1 fun e w2 => sem (res w2 d) (res w2 e) fun b d' => Q b d' w2
def TyOk (z : Ent) (T : String) (ty : D → Prop) : Prop := ∀ (F He H : Hp) (x : V) (d : D), Same F H → DT z.K F He H x d → ty d → tyV z.K T x H
theorem ty_str {z : Ent} : TyOk z "str" isS := fun F He H x d s r h => by
  cases d with
  | str y => cases r.str; exact rfl
  | _ => exact h.elim
theorem ty_list {z : Ent} : TyOk z "list" isL := fun F He H x d s r h => by
  cases d with
  | lst ds => obtain ⟨a, vs, rfl, ha, _⟩ := r.lst s; exact .inl ⟨rfl, vs, .of ha⟩
  | scr ns => obtain ⟨a, rfl, ha⟩ := r.scr s; exact .inl ⟨rfl, _, ha⟩
  | _ => exact h.elim
def SemM0 (z : Ent) (r : V → List V → Hp → VK → Prop) (sem : D → (Bool → D → Prop) → Prop) : Prop := Sem1 z (fun x H Q => r x [] H Q) sem
def SemM1 (z : Ent) (r : V → List V → Hp → VK → Prop) (sem : D → D → (Bool → D → Prop) → Prop) : Prop := Sem2 z (fun x y H Q => r x [y] H Q) sem
section
variable {X : Cx} {z : Ent} {pos : Pos}
theorem jx_m0 {T id : String} {name : Str} {r : V → List V → Hp → VK → Prop} {ty : D → Prop} {sem : D → (Bool → D → Prop) → Prop} {o : Expr} {to : DO} {apos cpos : Pos} (pa : PlainAttrs T) (slot : Slot T name id) (hty : typeOf (.builtin id) = pure (.type "method_descriptor")) (hm : MtR X id r) (ht : TyOk z T ty) (hs : SemM0 z r sem) (hK : z.K = X.K) (ho : JO X z o to)
    (hbase : attributeBase o name X.env (eval o X.env) = eval o X.env := by rfl) (hline : (apos.endLine == cpos.line) = true := by rfl) : JX X z (.Call (.Attribute o name apos) [] [] cpos) (dM0 ty sem to) :=
  PE.imp (pe_bm0 pa slot hty hm ho hbase hline) fun σ H Q ⟨δ, w, F, He, P, R, q, k⟩ => by
    refine ⟨δ, w, F, He, _, R, q, fun d w1 q1 x H1 F1 He1 wd1 st1 r1 => ⟨?_, ?_⟩⟩
    · rw [← hK]; exact ht F1 He1 H1 x _ wd1.sf (res_ok wd1.ex wd1.sh r1) q1.1
    · exact hs w1 F1 He1 H1 x _ _ Q wd1 (res_ok wd1.ex wd1.sh r1) q1.2 fun b d' p v H' F' He' wd st rr => k b d' w1 p v H' F' He' wd (st1.trans st) (rr.base st1)
theorem jx_m1 {T id : String} {name : Str} {r : V → List V → Hp → VK → Prop} {ty : D → Prop} {sem : D → D → (Bool → D → Prop) → Prop} {o e : Expr} {to te : DO} {apos cpos : Pos} (pa : PlainAttrs T) (slot : Slot T name id) (hty : typeOf (.builtin id) = pure (.type "method_descriptor")) (hm : MtR X id r) (ht : TyOk z T ty) (hs : SemM1 z r sem) (hK : z.K = X.K) (ho : JO X z o to) (he : JO X z e te)
    (hbase : attributeBase o name X.env (eval o X.env) = eval o X.env := by rfl)
    (hfew : ((backTo cpos (starEach [e] X.env)).all (fun x => !x.1) && (backToKw cpos (keywordEach [] X.env)).all (fun x => x.1.isSome)
      && decide ([e].length + ([] : List Keyword).length + (if ([] : List Keyword).isEmpty then 0 else 1) < 30)) = true := by rfl)
    (hline : (apos.endLine == cpos.line) = true := by rfl) (hs1 : starEach [e] X.env = [(false, eval e X.env)] := by rfl) (hplain : (backTo cpos (starEach ([] : List Expr) X.env)).any (·.1) = false := by rfl) : JX X z (.Call (.Attribute o name apos) [e] [] cpos) (dM1 ty sem to te) :=
  PE.imp (pe_bm pa slot hty hm ho (pa_cons he pa_nil hs1) hbase hfew hline hs1 hplain) fun σ H Q ⟨δ, w, F, He, P, R, q, k⟩ => by
    refine ⟨δ, w, F, He, _, R, q, fun d w1 q1 x H1 F1 He1 wd1 st1 r1 => ⟨?_, ?_⟩⟩
    · rw [← hK]; exact ht F1 He1 H1 x _ wd1.sf (res_ok wd1.ex wd1.sh r1) q1.1
    · refine ⟨δ, w1, F1, He1, _, R.step wd1 st1, q1.2, fun e w2 q2 y H2 F2 He2 wd2 st2 r2 => ?_⟩
      exact hs w2 F2 He2 H2 x y _ _ _ Q wd2 (res_ok wd2.ex wd2.sh (r1.step st2)) (res_ok wd2.ex wd2.sh r2) q2 fun b d' p v H' F' He' wd st rr => k b d' w2 p v H' F' He' wd ((st1.trans st2).trans st) (rr.base (st1.trans st2))
def sUpper (d : D) (P : Bool → D → Prop) : Prop := match d with
  | .str x => x.length ≤ 5592405 ∧ P false (.str (Txt.upper x))
  | _ => False
def sLower (d : D) (P : Bool → D → Prop) : Prop := match d with
  | .str x => x.length ≤ 5592405 ∧ P false (.str (Txt.lower x))
  | _ => False
theorem sem_upper : SemM0 z (fun x xs H Q => ∃ a, x = .str a ∧ xs = [] ∧ a.length ≤ 5592405 ∧ Q (.str (Txt.upper a)) H) sUpper := fun w F He H x d P Q wd dx q k => by
  unfold sUpper at q
  split at q
  · exact ⟨_, dx.str, rfl, q.1, res_at wd (.str _) q.2 k⟩
  · exact q.elim
theorem sem_lower : SemM0 z (fun x xs H Q => ∃ a, x = .str a ∧ xs = [] ∧ a.length ≤ 5592405 ∧ Q (.str (Txt.lower a)) H) sLower := fun w F He H x d P Q wd dx q k => by
  unfold sLower at q
  split at q
  · exact ⟨_, dx.str, rfl, q.1, res_at wd (.str _) q.2 k⟩
  · exact q.elim
def sStrip1 (d e : D) (P : Bool → D → Prop) : Prop := match d, e with
  | .str a, .str b => a.length ≤ sizeLine ∧ P false (.str (Txt.stripChars a b))
  | _, _ => False
theorem sem_sstrip : SemM1 z (fun x xs H Q => ∃ a b, x = .str a ∧ xs = [.str b] ∧ a.length ≤ sizeLine ∧ Q (.str (Txt.stripChars a b)) H) sStrip1 := fun w F He H x y d e P Q wd dx dy q k => by
  unfold sStrip1 at q
  split at q
  · exact ⟨_, _, dx.str, by rw [dy.str], q.1, res_at wd (.str _) q.2 k⟩
  · exact q.elim
def sSfind (d e : D) (P : Bool → D → Prop) : Prop := match d, e with
  | .str a, .str b => P false (.int (Txt.find a b))
  | _, _ => False
theorem sem_sfind : SemM1 z (fun x xs H Q => ∃ a b, x = .str a ∧ xs = [.str b] ∧ Q (.int (Txt.find a b)) H) sSfind := fun w F He H x y d e P Q wd dx dy q k => by
  unfold sSfind at q
  split at q
  · exact ⟨_, _, dx.str, by rw [dy.str], res_at wd (.int _) q k⟩
  · exact q.elim
def sScount (d e : D) (P : Bool → D → Prop) : Prop := match d, e with
  | .str a, .str b => P false (.int (Txt.count a b))
  | _, _ => False
theorem sem_scount : SemM1 z (fun x xs H Q => ∃ a b, x = .str a ∧ xs = [.str b] ∧ Q (.int (Txt.count a b)) H) sScount := fun w F He H x y d e P Q wd dx dy q k => by
  unfold sScount at q
  split at q
  · exact ⟨_, _, dx.str, by rw [dy.str], res_at wd (.int _) q k⟩
  · exact q.elim
def sSindex (d e : D) (P : Bool → D → Prop) : Prop := match d, e with
  | .str a, .str b => ∃ i rest, Builtin.Str.occurrences a b 0 a.length 1 = i :: rest ∧ P false (.int (i : Nat))
  | _, _ => False
theorem sem_sindex : SemM1 z (fun x xs H Q => ∃ a b i rest, x = .str a ∧ xs = [.str b] ∧ Builtin.Str.occurrences a b 0 a.length 1 = i :: rest ∧ Q (.int (i : Nat)) H) sSindex := fun w F He H x y d e P Q wd dx dy q k => by
  unfold sSindex at q
  split at q
  · obtain ⟨i, rest, e1, q⟩ := q
    exact ⟨_, _, i, rest, dx.str, by rw [dy.str], e1, res_at wd (.int _) q k⟩
  · exact q.elim
theorem drs_strs {K : PySem.W.Frag} {F : Hp} : ∀ ys : List Str, DRs K F (ys.map V.str) (ys.map D.str)
  | [] => .nil
  | y :: ys => .cons (.str y) (drs_strs ys)
theorem of_strs {K : PySem.W.Frag} {F : Hp} : ∀ {ys : List Str} {vs : List V}, DRs K F vs (ys.map D.str) → vs = ys.map V.str
  | [], _, .nil => rfl
  | y :: ys, _, .cons h hs => by
    cases h
    rw [of_strs hs]
    rfl
def sSsplit (d e : D) (P : Bool → D → Prop) : Prop := match d, e with
  | .str a, .str b => (b.length == 0) = false ∧ a.length + 2 ≤ sizeLine ∧ P true (.lst ((Txt.split a b).map .str))
  | _, _ => False
theorem sem_ssplit : SemM1 z (fun x xs H Q => ∃ a b, x = .str a ∧ xs = [.str b] ∧ (b.length == 0) = false ∧ a.length + 2 ≤ sizeLine ∧ rNewStrs (Txt.split a b) H Q) sSsplit := fun w F He H x y d e P Q wd dx dy q k => by
  unfold sSsplit at q
  split at q
  · exact ⟨_, _, dx.str, by rw [dy.str], q.1, q.2.1, fun p hp => res_new wd hp (.lst (drs_strs _)) q.2.2 k⟩
  · exact q.elim
def sSjoin (d e : D) (P : Bool → D → Prop) : Prop := match d, e with
  | .str a, .lst ds => ∃ ys : List Str, ds = ys.map .str ∧ (ys.map (·.length)).sum + ys.length * a.length ≤ 16777216 ∧ P false (.str (Txt.join a ys))
  | .str a, .tup ds => ∃ ys : List Str, ds = ys.map .str ∧ (ys.map (·.length)).sum + ys.length * a.length ≤ 16777216 ∧ P false (.str (Txt.join a ys))
  | _, _ => False
theorem sem_sjoin : SemM1 z (fun x xs H Q => ∃ a p, ∃ ys : List Str, x = .str a ∧ xs = [.ref p] ∧ (SqL z.K H p (ys.map V.str) ∨ SqT z.K H p (ys.map V.str)) ∧
    (ys.map (·.length)).sum + ys.length * a.length ≤ 16777216 ∧ Q (.str (Txt.join a ys)) H) sSjoin := fun w F He H x y d e P Q wd dx dy q k => by
  unfold sSjoin at q
  split at q
  · obtain ⟨ys, rfl, h, q⟩ := q
    obtain ⟨a, vs, rfl, ha, r⟩ := dy.lst wd.sf
    cases of_strs r
    exact ⟨_, a, ys, dx.str, rfl, .inl (.of ha), h, res_at wd (.str _) q k⟩
  · obtain ⟨ys, rfl, h, q⟩ := q
    obtain ⟨a, vs, rfl, ha, r⟩ := dy.tup wd.sf
    cases of_strs r
    exact ⟨_, a, ys, dx.str, rfl, .inr (.of ha), h, res_at wd (.str _) q k⟩
  · exact q.elim
end
end Lv

namespace Lv
open PySem PySem.Spec L2 SX

/-! ### texts by their code points -/
theorem cps_S (a : List Nat) : (S a).cps.toList = a := rfl
theorem len_S (a : List Nat) : (S a).length = a.length := S_len a
theorem cutS_to (a : List Nat) {i : Int} (h : 0 ≤ i) : cutS (S a) none (some i) = S (a.take i.toNat) := by rw [C8.cutS_slice, slice_to h]
theorem cutS_from (a : List Nat) {i : Int} (h : 0 ≤ i) : cutS (S a) (some i) none = S (a.drop i.toNat) := by rw [C8.cutS_slice, slice_from h]
theorem one_S (c : Nat) : (⟨#[c]⟩ : Str) = S [c] := rfl
theorem lit_small : Str.ofString "abcdefghijklmnopqrstuvwxyz" = S [97, 98, 99, 100, 101, 102, 103, 104, 105, 106, 107, 108, 109, 110, 111, 112, 113, 114, 115, 116, 117, 118, 119, 120, 121, 122] := by decide +kernel
theorem lit_large : Str.ofString "ABCDEFGHIJKLMNOPQRSTUVWXYZ" = S [65, 66, 67, 68, 69, 70, 71, 72, 73, 74, 75, 76, 77, 78, 79, 80, 81, 82, 83, 84, 85, 86, 87, 88, 89, 90] := by decide +kernel
theorem lit_hat : Str.ofString "^" = S [94] := by decide +kernel
theorem lit_one : Str.ofString "1" = S [49] := by decide +kernel
theorem lit_nil : Str.ofString "" = S [] := by decide +kernel
theorem occ_small {c : Nat} (h : 97 ≤ c) (h2 : c ≤ 122) : ∃ rest, Builtin.Str.occurrences (Str.ofString "abcdefghijklmnopqrstuvwxyz") (S [c]) 0 (Str.ofString "abcdefghijklmnopqrstuvwxyz").length 1 = (c - 97) :: rest := by
  have key : ∀ k : Fin 26, (Builtin.Str.occurrences (Str.ofString "abcdefghijklmnopqrstuvwxyz") (S [97 + k.1]) 0 (Str.ofString "abcdefghijklmnopqrstuvwxyz").length 1).head? = some k.1 := by decide +kernel
  have := key ⟨c - 97, by omega⟩
  rw [show 97 + (c - 97) = c by omega] at this
  cases e : Builtin.Str.occurrences (Str.ofString "abcdefghijklmnopqrstuvwxyz") (S [c]) 0 (Str.ofString "abcdefghijklmnopqrstuvwxyz").length 1 with
  | nil => rw [e] at this; cases this
  | cons i r => rw [e] at this; cases this; exact ⟨r, rfl⟩
theorem ix_large {c : Nat} (h : 97 ≤ c) (h2 : c ≤ 122) : atI (Str.ofString "ABCDEFGHIJKLMNOPQRSTUVWXYZ").cps.toList ((c - 97 : Nat) : Int) = some (c - 32) := by
  have key : ∀ k : Fin 26, atI (Str.ofString "ABCDEFGHIJKLMNOPQRSTUVWXYZ").cps.toList ((k.1 : Nat) : Int) = some (65 + k.1) := by decide +kernel
  have := key ⟨c - 97, by omega⟩
  rw [this]
  congr 1
  show 65 + (c - 97) = c - 32
  omega
theorem upper_one {c : Nat} (h : 97 ≤ c) (h2 : c ≤ 122) : Txt.upper (S [c]) = S [c - 32] := by
  rw [upper_S (by simp; omega)]
  have : PyProof.Rows.up1 c = c - 32 := by unfold PyProof.Rows.up1; rw [if_pos ⟨h, h2⟩]
  simp [this]
theorem str_num (n : Nat) : Str.ofString (toString ((n : Nat) : Int)) = S (TL.numL n) := num_S n
theorem join_nil : ∀ ys : List (List Nat), Txt.join (S []) (ys.map S) = S ys.flatten := fun ys => by
  rw [join_S]
  congr 2
  induction ys with
  | nil => rfl
  | cons y ys ih =>
    cases ys with
    | nil => simp [TL.joinL]
    | cons z zs =>
      show y ++ ([] ++ TL.joinL [] (z :: zs)) = _
      rw [ih]
      rfl
theorem sum_S : ∀ ys : List (List Nat), ((ys.map S).map (·.length)).sum = ys.flatten.length
  | [] => rfl
  | y :: ys => by
    have ih := sum_S ys
    rw [List.map_cons, List.map_cons, List.sum_cons, ih, S_len, List.flatten_cons, List.length_append]
theorem log2_sm {n : Nat} (h : n ≤ 1000000) : n.log2 < 1920 := by
  by_cases h0 : n = 0
  · subst h0; decide
  · have : n.log2 < 20 + 1 := (Nat.log2_lt h0).mpr (by omega)
    omega
end Lv

namespace Lv
open PySem PySem.Spec L2

/-! ### what is never come to; constants of the module -/
def dNever  : DS := fun _ _ _ => False
section
variable {X : Cx} {z : Ent} {pos : Pos}
theorem js_no {st : Stmt} : JS X z st dNever := ⟨fun pins s σ H D I ⟨_, _, _, _, _, _, q, _⟩ => q.elim⟩
theorem jss_no {st : List Stmt} : JSs X z st dNever := ⟨fun pins s σ H D I ⟨_, _, _, _, _, _, q, _⟩ => q.elim⟩
theorem jx_gcI {x : Str} {i : Int} (h : ∃ u, X.mg x = some u ∧ RelV (.int i) u) (hg : Gl X x := by rfl) (hd : (x == ("__debug__" : Str)) = false := by decide) : JX X z (.Name x pos) (dC (.int i)) := jx_c (C8.pe_gc hg h hd) fun _ => .int i
theorem jx_gcS {x : Str} {i : Str} (h : ∃ u, X.mg x = some u ∧ RelV (.str i) u) (hg : Gl X x := by rfl) (hd : (x == ("__debug__" : Str)) = false := by decide) : JX X z (.Name x pos) (dC (.str i)) := jx_c (C8.pe_gc hg h hd) fun _ => .str i
end
/-! ### more of texts -/
open SX
theorem cutS_cut (a : List Nat) (lo hi : Option Int) : cutS (S a) lo hi = S (cutD a lo hi) := by
  unfold cutS cutD
  rw [S_len]
theorem in_oneS (neg : Bool) (a : List Nat) (c : Nat) (P : Bool → D → Prop) : sIn neg (.str (S [c])) (.str (S a)) P = P false (.bl (if neg then !decide (c ∈ a) else decide (c ∈ a))) := by
  unfold sIn
  simp only [in_one]
open Builtin Builtin.Str StrLaws in
theorem occ_full (s sub : Str) (hi : Nat) : ∀ (l : List Nat) (st : Array Nat × Nat), 1 ≤ st.fst.size → (forIn l st (occBody s sub hi 1)).run.fst = st.fst
  | [], st, _ => rfl
  | a :: l, st, h => by
    rw [List.forIn_cons]
    unfold occBody
    rw [if_neg (by omega)]
    exact occ_full s sub hi l (st.fst, st.snd) h
open Builtin Builtin.Str StrLaws in
theorem occ_skip (s sub : Str) (hi i : Nat) (post : List Nat) : ∀ (pre : List Nat) (free : Nat), free ≤ i → (∀ a ∈ pre, ¬ (a + sub.length ≤ hi ∧ subAt s sub a = true)) → (i + sub.length ≤ hi ∧ subAt s sub i = true) →
    (forIn (pre ++ i :: post) ((#[] : Array Nat), free) (occBody s sub hi 1)).run.fst = #[i]
  | [], free, hf, _, hi' => by
    rw [List.nil_append, List.forIn_cons]
    unfold occBody
    rw [if_pos ⟨⟨⟨by simp, hf⟩, hi'.1⟩, hi'.2⟩]
    exact occ_full s sub hi post _ (by simp)
  | a :: pre, free, hf, hp, hi' => by
    rw [List.cons_append, List.forIn_cons]
    unfold occBody
    have ha := hp a List.mem_cons_self
    rw [if_neg (fun h => ha ⟨h.1.2, h.2⟩)]
    exact occ_skip s sub hi i post pre free hf (fun b hb => hp b (List.mem_cons_of_mem _ hb)) hi'
open StrLaws in
theorem occ_first {a : List Nat} {c i : Nat} (h : a[i]? = some c) (hn : ∀ j, j < i → a[j]? ≠ some c) : Builtin.Str.occurrences (S a) (S [c]) 0 (S a).length 1 = [i] := by
  have hl := (List.getElem?_eq_some_iff.mp h).1
  rw [occ_eq]
  have e : List.range' 0 ((S a).length + 1 - 0) = List.range' 0 i ++ i :: List.range' (i + 1) (a.length - i) := by
    rw [S_len, show a.length + 1 - 0 = i + ((a.length - i) + 1) by omega, ← List.range'_append_1, Nat.zero_add, List.range'_succ]
  rw [e]
  have := occ_skip (S a) (S [c]) (S a).length i (List.range' (i + 1) (a.length - i)) (List.range' 0 i) 0 (by omega) (fun j hj hc => hn j (by simp [List.mem_range'] at hj; omega) ((subAt_one (S a) c j).mp hc)) ((subAt_one (S a) c i).mpr h)
  rw [this]
theorem nodup_first {a : List Nat} (hd : a.Nodup) {c i : Nat} (h : a[i]? = some c) : ∀ j, j < i → a[j]? ≠ some c := by
  intro j hj h2
  have hl := (List.getElem?_eq_some_iff.mp h).1
  obtain ⟨h1a, h1b⟩ := List.getElem?_eq_some_iff.mp h
  obtain ⟨h3a, h3b⟩ := List.getElem?_eq_some_iff.mp h2
  exact List.pairwise_iff_getElem.mp hd j i h3a h1a hj (h3b.trans h1b.symm)
theorem lower_one {c : Nat} (h : 97 ≤ c) (h2 : c ≤ 122) : Txt.lower (S [c - 32]) = S [c] := by
  rw [lower_S (by simp; omega)]
  have : PyProof.Rows.lo1 (c - 32) = c := by unfold PyProof.Rows.lo1; rw [if_pos (by omega)]; omega
  simp [this]
theorem lower_sm {c : Nat} (h : 97 ≤ c) (h2 : c ≤ 122) : Txt.lower (S [c]) = S [c] := by
  rw [lower_S (by simp; omega)]
  have : PyProof.Rows.lo1 c = c := by unfold PyProof.Rows.lo1; rw [if_neg (by omega)]
  simp [this]
theorem lit_open : Str.ofString "(" = S [40] := by decide +kernel
theorem lit_close : Str.ofString ")" = S [41] := by decide +kernel
theorem lit_minus : Str.ofString "-" = S [45] := by decide +kernel
theorem lit_zero : Str.ofString "0" = S [48] := by decide +kernel
theorem lit_digits : Str.ofString "0123456789" = S [48, 49, 50, 51, 52, 53, 54, 55, 56, 57] := by decide +kernel
theorem num_lead : ∀ k : Nat, k ≤ 999 → (TL.numL k)[0]? = some 48 → (TL.numL k).length = 1 := by
  have key : ∀ k : Fin 1000, (TL.numL k.1)[0]? = some 48 → (TL.numL k.1).length = 1 := by decide +kernel
  exact fun k h => key ⟨k, by omega⟩
theorem num_len3 {k : Nat} (h : k ≤ 999) : (TL.numL k).length ≤ 3 := TL.numL_len (by omega) (by omega)
theorem num_dig {k c : Nat} (h : c ∈ TL.numL k) : 48 ≤ c ∧ c ≤ 57 := by
  refine Classical.byContradiction fun hn => ?_
  exact TL.numL_free (n := k) (s := c) (by omega) h
theorem num_int {k : Nat} (h : k ≤ 999) : intText? (S (TL.numL k)) = some (k : Int) := by
  rw [← str_num]
  exact TL.int_num (by have := num_len3 h; omega)
theorem cutD_nat {α : Type} (ns : List α) (i j : Nat) : cutD ns (some (i : Int)) (some (j : Int)) = (ns.drop i).take (j - i) := by
  have e1 : HT.sIx ns.length 0 (some (i : Int)) = min i ns.length := by
    unfold HT.sIx
    simp only []
    rw [if_neg (by omega), Int.toNat_natCast]
  have e2 : HT.sIx ns.length ns.length (some (j : Int)) = min j ns.length := by
    unfold HT.sIx
    simp only []
    rw [if_neg (by omega), Int.toNat_natCast]
  unfold cutD
  rw [e1, e2]
  by_cases hi : i ≤ ns.length
  · rw [Nat.min_eq_left hi]
    by_cases hj : j ≤ ns.length
    · rw [Nat.min_eq_left hj]
    · rw [Nat.min_eq_right (by omega), List.take_of_length_le (by simp), List.take_of_length_le (by simp; omega)]
  · rw [List.drop_eq_nil_of_le (by omega), List.drop_eq_nil_of_le (by omega)]
    simp
theorem cutD_nat1 {α : Type} (ns : List α) (i : Nat) : cutD ns (some (i : Int)) (some ((i : Int) + 1)) = (ns.drop i).take 1 := by
  have := cutD_nat ns i (i + 1)
  rw [show ((i + 1 : Nat) : Int) = (i : Int) + 1 by omega] at this
  rw [this, show i + 1 - i = 1 by omega]
theorem sEq_nil {ds : List D} (h : plAll ds = true) (hne : ds ≠ []) (P : Bool → D → Prop) : sEq (.lst ds) (.lst []) P = P false (.bl false) := by
  unfold sEq
  have e : (D.lst ds).eqv (.lst []) = false := by
    cases ds with
    | nil => exact absurd rfl hne
    | cons d ds => simp [D.eqv, D.py, pyAll, PyData.eqv, PyData.eqvAll]
  rw [e]
  simp [D.pl, h, plAll, D.py, pyAll, PyData.depth, PyData.depthAll]
theorem sEq_nil' (P : Bool → D → Prop) : sEq (.lst []) (.lst []) P = P false (.bl true) := by
  unfold sEq
  simp [D.pl, plAll, D.py, pyAll, PyData.depth, PyData.depthAll, D.eqv, PyData.eqv, PyData.eqvAll]
theorem kitB_tl : kitB "tuple" "list" = some false := by decide +kernel
theorem kitB_lt : kitB "list" "tuple" = some false := by decide +kernel
theorem sIsi_tl (ds : List D) (P : Bool → D → Prop) : sIsi (.tup ds) (.ty "list") P = P false (.bl false) := by
  unfold sIsi; simp [tyD, kitB_tl]
theorem sIsi_lt (ds : List D) (P : Bool → D → Prop) : sIsi (.lst ds) (.ty "tuple") P = P false (.bl false) := by
  unfold sIsi; simp [tyD, kitB_lt]
end Lv

set_option maxHeartbeats 4000000
namespace Lv
open PySem PySem.Spec PyProof.Rows L2

/-! ### tuple * int, any -/
theorem tuple_mulS (l : Addr) (items : Array Value) (n : Nat) (dd : Option Addr) (sl : Array (Option Value)) (x : Int) (u : Tok) (c0 : (decide (x < -(2 ^ 63)) || decide (x ≥ 2 ^ 63)) = false) (c1 : (items.isEmpty || x == 1) = true) :
    Meets (Builtin.«tuple.__mul__» ⟨[.ref l, .int x u], []⟩) (fun _ R s => s.heap.get? l = some { cls := .type "tuple", dict := dd, data := .seq items n, slots := sl } ∧ R (.ok (.ret (Value.ref l))) s) :=
  .of_wp fun prog w A R s h => by
    obtain ⟨hp, g, d, tk, os⟩ := s
    obtain ⟨hl, h⟩ := h
    have f1 := AutoSeq1.idx_int
    wp_walk using wpAny_loadPart' hl
    repeat (first
      | (refine wpAny_ite_false (decide_eq_false (by rw [c0]; exact Bool.false_ne_true)) ?_; wp_walk using wpAny_loadPart' hl)
      | (refine wpAny_ite_true (decide_eq_true (by rw [c1])) ?_; wp_walk using wpAny_loadPart' hl))
    exact ⟨_, rfl, h⟩
theorem tuple_mul0 (l : Addr) (items : Array Value) (n : Nat) (dd : Option Addr) (sl : Array (Option Value)) (x : Int) (u : Tok) (c0 : (decide (x < -(2 ^ 63)) || decide (x ≥ 2 ^ 63)) = false) (c1 : (items.isEmpty || x == 1) = false) (c2 : (decide (x ≤ 0) || items.isEmpty) = true) :
    Meets (Builtin.«tuple.__mul__» ⟨[.ref l, .int x u], []⟩) (fun _ R s => s.heap.get? l = some { cls := .type "tuple", dict := dd, data := .seq items n, slots := sl } ∧
      R (.ok (.ret (Value.ref s.heap.objs.size))) { s with heap := s.heap.push { cls := Value.type "tuple", data := Data.seq #[] }, toks := s.toks }) :=
  .of_wp fun prog w A R s h => by
    obtain ⟨hp, g, d, tk, os⟩ := s
    obtain ⟨hl, h⟩ := h
    have f1 := AutoSeq1.idx_int
    wp_walk using wpAny_loadPart' hl
    repeat (first
      | (refine wpAny_ite_false (decide_eq_false (by rw [c0]; exact Bool.false_ne_true)) ?_; wp_walk using wpAny_loadPart' hl)
      | (refine wpAny_ite_false (decide_eq_false (by rw [c1]; exact Bool.false_ne_true)) ?_; wp_walk using wpAny_loadPart' hl)
      | (refine wpAny_ite_true (decide_eq_true (by rw [c2])) ?_; wp_walk using wpAny_loadPart' hl))
    exact ⟨_, rfl, h⟩
def rRepA (K : PySem.W.Frag) : R2 := fun x y H Q => ∃ l k xs, x = .ref l ∧ y = .int k ∧ SqT K H l xs ∧ -(2 ^ 63) ≤ k ∧ k < 2 ^ 63 ∧ xs.length * k.toNat ≤ 1000000 ∧ ((xs = [] ∨ k = 1) → Q (.ref l) H) ∧ (¬ (xs = [] ∨ k = 1) → ∀ p, H p = none → Q (.ref p) (upd H p (.tup (List.replicate k.toNat xs).flatten)))
theorem op_repA {X : Cx} : OpR X (binaryOp .Mult) (rRepA X.K) := by
  intro pins s σ H x y v u Q I rx ry h
  obtain ⟨l, k, xs, rfl, rfl, hT, h1, h2, hz, q1, q2⟩ := h
  cases rx
  obtain ⟨t, rfl⟩ := ry
  obtain ⟨its, r, ⟨⟨cls, dd, data, sl⟩, ho, hc, n, hd⟩, hs⟩ := I.tuple hT
  simp only at hc hd
  subst hc hd
  have hle : its.length = xs.length := r.length.symm
  have hsz0 : its.toArray.size = xs.length := by rw [List.size_toArray, hle]
  have hi : its.toArray.isEmpty = decide (xs = []) := by
    cases its with
    | nil =>
      have : xs = [] := List.eq_nil_of_length_eq_zero hle.symm
      simp [this]
    | cons a b =>
      have : xs ≠ [] := fun e => by rw [e] at hle; simp at hle
      simp [this]
  have c0 : (decide (k < -(2 ^ 63)) || decide (k ≥ 2 ^ 63)) = false := by
    rw [decide_eq_false (by omega), decide_eq_false (by omega)] <;> rfl
  by_cases hc : xs = [] ∨ k = 1
  · have c1 : (its.toArray.isEmpty || k == 1) = true := by
      rw [hi]
      rcases hc with h | h <;> simp [h]
    refine wpAny_binaryOp_repeat_ref (T := "tuple") (U := "int") (by decide) ⟨_, ho, rfl⟩ (fun s' => typeIs_int s' k t) noFill_tuple_mul F.fills_int_mul F.slot_int_rmul repeat_tuple F.slot_int_index.lookup
      (call_meets F.slot_int_rmul (typeIs_int s k t) F.entry_int_rmul (F.args_int_rmul_2 _ _) (int_rmul_tuple k t l its.toArray n dd sl)
        ⟨ho, rfl, ⟨_, ho, rfl⟩, call_meets F.slot_tuple_mul ⟨_, ho, rfl⟩ F.entry_tuple_mul (F.args_tuple_mul_2 _ _) (tuple_mulS l its.toArray n dd sl k t c0 c1) ⟨ho, ?_⟩⟩)
    exact ⟨.ref l, H, I, rfl, q1 hc⟩
  · have c1 : (its.toArray.isEmpty || k == 1) = false := by
      rw [hi]
      simp only [not_or] at hc
      simp [hc.1, hc.2]
    have hne : xs ≠ [] := fun e => hc (.inl e)
    have hpos : 0 < xs.length := List.length_pos_iff.mpr hne
    by_cases h0 : k ≤ 0
    · have c2 : (decide (k ≤ 0) || its.toArray.isEmpty) = true := by simp [h0]
      refine wpAny_binaryOp_repeat_ref (T := "tuple") (U := "int") (by decide) ⟨_, ho, rfl⟩ (fun s' => typeIs_int s' k t) noFill_tuple_mul F.fills_int_mul F.slot_int_rmul repeat_tuple F.slot_int_index.lookup
        (call_meets F.slot_int_rmul (typeIs_int s k t) F.entry_int_rmul (F.args_int_rmul_2 _ _) (int_rmul_tuple k t l its.toArray n dd sl)
          ⟨ho, rfl, ⟨_, ho, rfl⟩, call_meets F.slot_tuple_mul ⟨_, ho, rfl⟩ F.entry_tuple_mul (F.args_tuple_mul_2 _ _) (tuple_mul0 l its.toArray n dd sl k t c0 c1 c2) ⟨ho, ?_⟩⟩)
      have q := q2 hc
      rw [show k.toNat = 0 by omega] at q
      refine ⟨.ref s.heap.objs.size, _, I.laid (t' := s.toks) (o := .tup []) (fun b ob q => Heap.get?_push_of_some _ q) (Nat.le_refl _) ?_, rfl, q _ (I.hok.fresh (Nat.le_refl _))⟩
      exact ⟨Nat.zero_le _, [], .nil, IsTup.new _ _⟩
    · have hk : k.toNat ≤ 1000000 := by
        have : 1 * k.toNat ≤ xs.length * k.toNat := Nat.mul_le_mul_right _ hpos
        omega
      have hm : ((its.toArray.size : Nat) : Int) * k ≤ 1000000 := by
        rw [hsz0]
        have : ((xs.length * k.toNat : Nat) : Int) = (xs.length : Int) * k := by rw [Int.natCast_mul, Int.toNat_of_nonneg (by omega)]
        omega
      have flen : (List.replicate k.toNat its).flatten.length ≤ sizeLine := by
        rw [PyProof.Rows.lm_len_rep_flat, hle, sizeLine_eq, Nat.mul_comm]
        omega
      have c2 : (decide (k ≤ 0) || its.toArray.isEmpty) = false := by
        rw [hi]; simp [hne]; omega
      have c4 : Builtin.Tuple.tupleTooMany (((its.toArray.size : Nat) : Int) * k) = false := by
        unfold Builtin.Tuple.tupleTooMany
        rw [sizeLine_eq]
        exact decide_eq_false (by omega)
      refine wpAny_binaryOp_repeat_ref (T := "tuple") (U := "int") (by decide) ⟨_, ho, rfl⟩ (fun s' => typeIs_int s' k t) noFill_tuple_mul F.fills_int_mul F.slot_int_rmul repeat_tuple F.slot_int_index.lookup
        (call_meets F.slot_int_rmul (typeIs_int s k t) F.entry_int_rmul (F.args_int_rmul_2 _ _) (int_rmul_tuple k t l its.toArray n dd sl)
          ⟨ho, rfl, ⟨_, ho, rfl⟩, call_meets F.slot_tuple_mul ⟨_, ho, rfl⟩ F.entry_tuple_mul (F.args_tuple_mul_2 _ _) (tuple_mulW l its.toArray n dd sl k t c0 c1 c2 (by omega) c4 (by rw [size_rep, List.size_toArray]; exact flen)) ⟨ho, ?_⟩⟩)
      rw [size_rep]
      refine ⟨.ref s.heap.objs.size, _, I.laid (t' := s.toks) (o := .tup (List.replicate k.toNat xs).flatten) (fun b ob q => Heap.get?_push_of_some _ q) (Nat.le_refl _) ?_, rfl, q2 hc _ (I.hok.fresh (Nat.le_refl _))⟩
      exact ⟨by rw [PyProof.Rows.lm_len_rep_flat, Nat.mul_comm, sizeLine_eq]; omega, _, r.rep k.toNat, IsTup.new _ _⟩
section
variable {X : Cx} {z : Ent} {pos : Pos}
def sMulB (d e : D) (P : Bool → D → Prop) : Prop := match d, e with
  | .int i, .int j => MulC i j ∧ P false (.int (i * j))
  | .lst xs, .int k => (-(2 ^ 63) ≤ k ∧ k < 2 ^ 63) ∧ xs.length * k.toNat ≤ sizeLine ∧ P true (.lst (List.replicate k.toNat xs).flatten)
  | .tup xs, .int k => (-(2 ^ 63) ≤ k ∧ k < 2 ^ 63) ∧ xs.length * k.toNat ≤ 1000000 ∧ P false (.tup (List.replicate k.toNat xs).flatten)
  | _, _ => False
def rMulB (K : PySem.W.Frag) : R2 := fun x y H Q => rMulD x y H Q ∨ rRepA K x y H Q
theorem op_mulB : OpR X (binaryOp .Mult) (rMulB X.K) := op_mulA.or op_repA
theorem sem_mulB : Sem2 z (rMulB z.K) sMulB := fun w F He H x y d e P Q wd dx dy q k => by
  unfold sMulB at q
  split at q
  · exact .inl (.inl ⟨_, _, dx.int, dy.int, q.1, k _ _ q.2 _ H F He wd .refl (.int _)⟩)
  · obtain ⟨a, vs, rfl, ha, ra⟩ := dx.lst wd.sf
    exact .inl (.inr ⟨a, _, vs, rfl, dy.int, ha, q.1.1, q.1.2, by rw [ra.length]; exact q.2.1, fun p hp => res_new wd hp (.lst (ra.rep _)) q.2.2 k⟩)
  · next xs j =>
    obtain ⟨a, vs, e, ha, ra⟩ := dx.tup wd.sf
    refine .inr ⟨a, _, vs, e, dy.int, .of ha, q.1.1, q.1.2, by rw [ra.length]; exact q.2.1, fun hc => ?_, fun _ p hp => res_tup wd hp (ra.rep _) q.2.2 k⟩
    have e2 : (List.replicate j.toNat xs).flatten = xs := by
      rcases hc with h | h
      · subst h
        have : xs = [] := List.eq_nil_of_length_eq_zero ra.length.symm
        subst this
        simp
      · subst h
        simp
    have q' := q.2.2
    rw [e2] at q'
    rw [← e]; exact res_at wd dx.dr_tup q' k
  · exact q.elim
/-! ### list(range), tuple(range) -/
theorem rgV_D {K : PySem.W.Frag} {F : Hp} (a b : Int) : DRs K F (rgV a b) (rngD a (b - a).toNat) := by
  unfold rgV rngD
  generalize (List.range (b - a).toNat) = ks
  induction ks with
  | nil => exact .nil
  | cons k ks ih => exact .cons (.int _) ih
def sLR1 (d : D) (P : Bool → D → Prop) : Prop := match d with
  | .int j => RgOk 0 j ∧ P true (.lst (rngD 0 (j - 0).toNat))
  | _ => False
def sLR2 (d e : D) (P : Bool → D → Prop) : Prop := match d, e with
  | .int i, .int j => RgOk i j ∧ P true (.lst (rngD i (j - i).toNat))
  | _, _ => False
def sTR1 (d : D) (P : Bool → D → Prop) : Prop := match d with
  | .int j => RgOk 0 j ∧ P false (.tup (rngD 0 (j - 0).toNat))
  | _ => False
def sTR2 (d e : D) (P : Bool → D → Prop) : Prop := match d, e with
  | .int i, .int j => RgOk i j ∧ P false (.tup (rngD i (j - i).toNat))
  | _, _ => False
theorem jx_listRng1 {a : Expr} {ta : DO} {p p2 pos2 : Pos} (hm : X.mg "list" = none) (hr : X.mg "range" = none) (ha : JO X z a ta) (hc : X.calm = true := by rfl) (hg : Gl X "list" := by rfl) (hg2 : Gl X "range" := by rfl) (na : starEach [a] X.env = (false, eval a X.env) :: starEach [] X.env := by rfl)
    (nb : starEach [Expr.Call (.Name "range" p2) [a] [] pos2] X.env = (false, eval (Expr.Call (.Name "range" p2) [a] [] pos2) X.env) :: starEach [] X.env := by rfl) : JX X z (.Call (.Name "list" p) [.Call (.Name "range" p2) [a] [] pos2] [] pos) (dUn sLR1 ta) :=
  PE.imp (pe_listRg hc hg hm (prg_1 hg2 hr ha na) nb) fun σ H Q ⟨δ, w, F, He, P, R, q, k⟩ => by
    refine ⟨δ, w, F, He, _, R, q, fun d w1 q1 x H1 F1 He1 wd1 st1 r1 => ?_⟩
    have r1 := res_ok wd1.ex wd1.sh r1
    generalize res w1 d = d at q1 r1
    unfold sLR1 at q1
    split at q1
    · exact ⟨_, r1.int, q1.1, fun p hp => res_new wd1 hp (.lst (rgV_D _ _)) q1.2 fun b d' p v H' F' He' wd st rr => k b d' w1 p v H' F' He' wd (st1.trans st) (rr.base st1)⟩
    · exact q1.elim
theorem jx_tupleRng1 {a : Expr} {ta : DO} {p p2 pos2 : Pos} (hm : X.mg "tuple" = none) (hr : X.mg "range" = none) (ha : JO X z a ta) (hc : X.calm = true := by rfl) (hg : Gl X "tuple" := by rfl) (hg2 : Gl X "range" := by rfl) (na : starEach [a] X.env = (false, eval a X.env) :: starEach [] X.env := by rfl)
    (nb : starEach [Expr.Call (.Name "range" p2) [a] [] pos2] X.env = (false, eval (Expr.Call (.Name "range" p2) [a] [] pos2) X.env) :: starEach [] X.env := by rfl) : JX X z (.Call (.Name "tuple" p) [.Call (.Name "range" p2) [a] [] pos2] [] pos) (dUn sTR1 ta) :=
  PE.imp (pe_tupRg hc hg hm (prg_1 hg2 hr ha na) nb) fun σ H Q ⟨δ, w, F, He, P, R, q, k⟩ => by
    refine ⟨δ, w, F, He, _, R, q, fun d w1 q1 x H1 F1 He1 wd1 st1 r1 => ?_⟩
    have r1 := res_ok wd1.ex wd1.sh r1
    generalize res w1 d = d at q1 r1
    unfold sTR1 at q1
    split at q1
    · exact ⟨_, r1.int, q1.1, fun p hp => res_tup wd1 hp (rgV_D _ _) q1.2 fun b d' p v H' F' He' wd st rr => k b d' w1 p v H' F' He' wd (st1.trans st) (rr.base st1)⟩
    · exact q1.elim
theorem jx_listRng2 {a b : Expr} {ta tb : DO} {p p2 pos2 : Pos} (hm : X.mg "list" = none) (hr : X.mg "range" = none) (ha : JO X z a ta) (hb : JO X z b tb) (hc : X.calm = true := by rfl) (hg : Gl X "list" := by rfl) (hg2 : Gl X "range" := by rfl) (na : starEach [a, b] X.env = (false, eval a X.env) :: starEach [b] X.env := by rfl)
    (nb1 : starEach [b] X.env = (false, eval b X.env) :: starEach [] X.env := by rfl) (hp : (backTo pos2 (starEach [b] X.env)).any (·.1) = false := by rfl)
    (nb : starEach [Expr.Call (.Name "range" p2) [a, b] [] pos2] X.env = (false, eval (Expr.Call (.Name "range" p2) [a, b] [] pos2) X.env) :: starEach [] X.env := by rfl) : JX X z (.Call (.Name "list" p) [.Call (.Name "range" p2) [a, b] [] pos2] [] pos) (dBin sLR2 ta tb) :=
  PE.imp (pe_listRg hc hg hm (prg_2 hg2 hr ha hb na nb1 hp) nb) fun σ H Q ⟨δ, w, F, He, P, R, q, k⟩ => by
    refine ⟨δ, w, F, He, _, R, q, fun d w1 q1 x H1 F1 He1 wd1 st1 r1 => ?_⟩
    refine ⟨δ, w1, F1, He1, _, R.step wd1 st1, q1, fun e w2 q2 y H2 F2 He2 wd2 st2 r2 => ?_⟩
    have r1' := res_ok wd2.ex wd2.sh (r1.step st2)
    have r2 := res_ok wd2.ex wd2.sh r2
    generalize res w2 d = d at q2 r1'
    generalize res w2 e = e at q2 r2
    unfold sLR2 at q2
    split at q2
    · exact ⟨_, _, r1'.int, r2.int, q2.1, fun p hp => res_new wd2 hp (.lst (rgV_D _ _)) q2.2 fun b d' p v H' F' He' wd st rr => k b d' w2 p v H' F' He' wd ((st1.trans st2).trans st) (rr.base (st1.trans st2))⟩
    · exact q2.elim
/-! ### is True -/
def sIsBl (d e : D) (P : Bool → D → Prop) : Prop := match d, e with
  | .bl a, .bl b => P false (.bl (decide (a = b)))
  | _, _ => False
theorem sem_isBl : Sem2 z rIsB sIsBl := fun w F He H x y d e P Q wd dx dy q k => by
  unfold sIsBl at q
  split at q
  · exact ⟨_, _, dx.bl, dy.bl, res_at wd (.bl _) q k⟩
  · exact q.elim
/-! ### xs.index(x) of a list -/
theorem pyAll_get (ds : List D) (j : Nat) : (pyAll ds)[j]? = (ds[j]?).map D.py := by
  induction ds generalizing j with
  | nil => rfl
  | cons d ds ih =>
    cases j with
    | zero => rfl
    | succ j => rw [pyAll, List.getElem?_cons_succ, List.getElem?_cons_succ, ih]
def sLindex (d e : D) (P : Bool → D → Prop) : Prop := match d with
  | .lst ds => (plAll ds = true ∧ e.pl = true ∧ SeqAt.shaped (.list (pyAll ds)) = true ∧ SeqAt.shaped e.py = true) ∧ ∃ (j : Nat) (u : D), ds[j]? = some u ∧ u.eqv e = true ∧ (∀ (m : Nat) (u' : D), m < j → ds[m]? = some u' → u'.eqv e = false) ∧ P false (.int (j : Nat))
  | _ => False
theorem sem_lindex : SemM1 z (rIndexD z.K) sLindex := fun w F He H x y d e P Q wd dx dy q k => by
  unfold sLindex at q
  split at q
  · next ds =>
    obtain ⟨⟨p1, p2, p3, p4⟩, j, u, h1, h2, h3, q⟩ := q
    have hl := dx.dp wd.sf (by simpa [D.pl] using p1)
    rw [D.py] at hl
    obtain ⟨a, vs, rfl, ha, ra⟩ := dx.lst wd.sf
    refine ⟨a, y, e.py, pyAll ds, j, u.py, rfl, rfl, hl, dy.dp wd.sf p2, p3, p4, by rw [pyAll_get, h1]; rfl, h2, fun m z' hm hz => ?_, res_at wd (.int _) q k⟩
    rw [pyAll_get] at hz
    cases e' : ds[m]? with
    | none => rw [e'] at hz; cases hz
    | some u' =>
      rw [e'] at hz
      cases hz
      exact h3 m u' hm e'
  · exact q.elim
end
/-- told data that list.index takes -/
structure CodecI {α : Type} (f : α → D) (n : Nat) : Prop extends Codec f n where
  can : ∀ a, (f a).py.canLay0 = true
theorem CodecI.int : CodecI D.int 0 := ⟨Codec.int, fun _ => rfl⟩
theorem CodecI.canAll {α : Type} {f : α → D} {n : Nat} (c : CodecI f n) : ∀ as : List α, PyData.canLayAll0 (pyAll (as.map f)) = true
  | [] => rfl
  | a :: as => by rw [List.map_cons, pyAll, PyData.canLayAll0, c.can, c.canAll as]; rfl
theorem CodecI.tup {α : Type} {f : α → D} {n : Nat} (c : CodecI f n) : CodecI (fun as : List α => .tup (as.map f)) (n + 1) := ⟨c.toCodec.tup, fun as => c.canAll as⟩
theorem CodecI.lst {α : Type} {f : α → D} {n : Nat} (c : CodecI f n) : CodecI (fun as : List α => .lst (as.map f)) (n + 1) := ⟨c.toCodec.lst, fun as => c.canAll as⟩
theorem CodecI.w : CodecI wD 1 := CodecI.int.tup
theorem CodecI.index {α : Type} {f : α → D} {n : Nat} (c : CodecI f n) (hn : n ≤ 60) {as : List α} {a : α} {j : Nat} (h : as[j]? = some a) (h2 : ∀ m, m < j → as[m]? ≠ some a) {P : Bool → D → Prop} (q : P false (.int (j : Nat))) : sLindex (.lst (as.map f)) (f a) P := by
  have d1 := c.toCodec.depAll as
  have d2 := c.toCodec.dep a
  refine ⟨⟨c.toCodec.plAll as, c.toCodec.pl a, ?_, ?_⟩, j, f a, by rw [List.getElem?_map, h]; rfl, (c.toCodec.eq a a).mpr rfl, fun m u' hm hu => ?_, q⟩
  · unfold SeqAt.shaped
    rw [Bool.and_eq_true]
    exact ⟨c.canAll as, decide_eq_true (show PyData.depthAll (pyAll (as.map f)) + 1 ≤ 64 by omega)⟩
  · unfold SeqAt.shaped
    rw [Bool.and_eq_true]
    exact ⟨c.can a, decide_eq_true (by omega)⟩
  · rw [List.getElem?_map] at hu
    cases e : as[m]? with
    | none => rw [e] at hu; cases hu
    | some b =>
      rw [e] at hu
      cases hu
      have hb : b ≠ a := fun z => h2 m hm (by rw [e, z])
      have : ¬ ((f b).eqv (f a) = true) := fun z => hb ((c.toCodec.eq b a).mp z)
      simpa using this
end Lv

namespace Lv
open PySem PySem.Spec L2

/-! ### zip of two lists, of two tuples -/
def zipD (xs ys : List D) : List D := List.zipWith (fun x y => .tup [x, y]) xs ys
theorem zipD_at (xs ys : List D) (i : Nat) {x y : D} (h : xs[i]? = some x) (h2 : ys[i]? = some y) : (zipD xs ys)[i]? = some (.tup [x, y]) := by
  unfold zipD
  rw [List.getElem?_zipWith, h, h2]
theorem itok_zip {K : PySem.W.Frag} {F : Hp} {a b : Addr} {us vs : List V} {xs ys : List D} (ha : F a = some (.lst us)) (ra : DRs K F us xs) (hb : F b = some (.lst vs)) (rb : DRs K F vs ys) : ItOk K (Itz K a b) F (zipD xs ys) where
  go := fun i H s h => by
    have h' : i < xs.length ∧ i < ys.length := by simp [zipD] at h; omega
    obtain ⟨u, hu, _⟩ := ra.get (List.getElem?_eq_getElem h'.1)
    obtain ⟨v, hv, _⟩ := rb.get (List.getElem?_eq_getElem h'.2)
    exact ⟨us, vs, u, v, .of (s _ _ ha), .of (s _ _ hb), hu, hv⟩
  stop := fun H s => ⟨us, vs, .of (s _ _ ha), .of (s _ _ hb), by have := ra.length; have := rb.length; simp [zipD]; omega⟩
  yld := fun i H x H' s h hy => by
    have h' : i < xs.length ∧ i < ys.length := by simp [zipD] at h; omega
    obtain ⟨T, u, v, rfl, hT, rfl, h1, h2⟩ := hy
    obtain ⟨d, hd, rd⟩ := ra.getV (h1 us (.of (s _ _ ha)))
    obtain ⟨e, he, re⟩ := rb.getV (h2 vs (.of (s _ _ hb)))
    exact .inr ⟨T, _, [d, e], rfl, hT, rfl, zipD_at xs ys i hd he, .cons rd (.cons re .nil)⟩
theorem itok_zipT {K : PySem.W.Frag} {F : Hp} {a b : Addr} {us vs : List V} {xs ys : List D} (ha : F a = some (.tup us)) (ra : DRs K F us xs) (hb : F b = some (.lst vs)) (rb : DRs K F vs ys) : True := trivial
def kZip {α : Type} (Q : List D → α → Prop) (w : α) : List D → Prop
  | [.lst xs, .lst ys] => Q (zipD xs ys) w
  | _ => False
def dZip  (ts : DA) : DI := fun δ w Q => ts δ w fun ds w1 => kZip Q w1 ds
section
variable {X : Cx} {z : Ent} {pos : Pos}
theorem ji_zip {e e2 : Expr} {ts : DA} {p tpos : Pos} {elts : List Expr} {kk : Nat} (hK : z.K = X.K) (hm : X.mg "zip" = none) (ha : JA X z [e, e2] ts) (hg : Gl X "zip" := by rfl)
    (hs : starEach [e, e2] X.env = (false, eval e X.env) :: starEach [e2] X.env := by rfl) (hpl : (backTo pos (starEach [e2] X.env)).any (·.1) = false := by rfl) : PI X (.Tuple elts kk tpos) (.Call (.Name "zip" p) [e, e2] [] pos) (liftI z (dZip ts)) :=
  PI.imp (RZ.pi_zipA hg hm ha hs hpl) fun σ H R ⟨δ, w, F, He, P, Re, q, k⟩ => by
    refine ⟨δ, w, F, He, _, Re, q, fun ds w1 q1 vs H1 F1 He1 wd1 st1 r1 => ?_⟩
    rw [← hK]
    unfold kZip at q1
    split at q1
    · next xs ys =>
      cases r1 with
      | cons ra rb =>
        cases rb with
        | cons rb rc =>
          cases rc
          cases ra with
          | lst ea ra =>
            cases rb with
            | lst eb rb => exact ⟨_, _, _, _, rfl, .inl ⟨.of (wd1.sf _ _ ea), .of (wd1.sf _ _ eb), k _ _ q1 _ H1 F1 He1 wd1 st1 (itok_zip ea ra eb rb)⟩⟩
    · exact q1.elim
/-! ### {k: e} -/
def keyOf : D → Option Key
  | .int i => some (.inl i)
  | .str x => some (.inr x)
  | _ => none
theorem keyOf_rel {F He H : Hp} {v : V} {d : D} {k : Key} {K : PySem.W.Frag} (r : DT K F He H v d) (h : keyOf d = some k) : v = kV k := by
  cases d with
  | int i => cases h; exact r.int
  | str x => cases h; exact r.str
  | _ => cases h
def dDisp1  (tk : DO) (tv : DX) : DX := fun δ w Q => tk δ w fun kd w1 => tv δ w1 fun _ d w2 => ∃ k, keyOf kd = some k ∧ Q true (.dK [(k, d)]) w2
theorem jx_disp1 {ke ve : Expr} {tk : DO} {tv : DX} (hk : JO X z ke tk) (hv : JX X z ve tv) : JX X z (.Dict [some ke] [ve] pos) (dDisp1 tk tv) :=
  PE.imp (pe_disp (pps_cons hk hv pps_nil) rfl rfl (List.cons_ne_nil _ _) (by simp)) fun σ H Q ⟨δ, w, F, He, P, R, q, k⟩ => by
    intro p hp
    have hF := R.wd.fnone hp
    have hE := R.wd.henone hp
    have R1 := R.step (R.wd.alloc (o := .dK []) hp) (.alloc hp)
    refine ⟨δ, w, F, He, _, R1, q, fun kd w1 q1 x H1 F1 He1 wd1 st1 r1 => ?_⟩
    refine ⟨δ, w1, F1, He1, _, R1.step wd1 st1, q1, fun b d w2 q2 y H2 F2 He2 wd2 st2 r2 => ?_⟩
    obtain ⟨key, hkey, q2⟩ := q2
    obtain ⟨F3, st3, wd3, r3, s3⟩ := r2.thaw st2 wd2
    have n0 : (upd H p (.dK [])) p ≠ none := by rw [upd_same]; exact fun z => nomatch z
    have hF1 := st1.fresh (o := .dK []) upd_same hF
    have hE1 := st1.freshE n0 hE
    have h1 := st1.keep p _ upd_same hE
    have n1 : H1 p ≠ none := by rw [h1]; exact fun z => nomatch z
    have hF3 := st3.fresh h1 hF1
    have hE3 := st3.freshE n1 hE1
    have h3 := st3.keep p _ h1 hE1
    have hx := keyOf_rel r1.dt hkey
    refine ⟨h3, [(key, y)], by rw [hx]; rfl, by simp, ?_⟩
    have st := ((Step.alloc (F := F) (He := He) (o := .dK []) hp).trans (st1.trans st3)).write (o := .dK (mergeK [] [(key, y)])) hp
    exact k true _ w2 q2 _ _ F3 He2 (wd3.write hF3 hE3) st ⟨p, _, rfl, upd_same, hF3, hE3, hp, .dK (.cons r3 .nil)⟩
end
end Lv

namespace Lv
open PySem PySem.Spec L2

/-! ### cells: named things that change -/
def updW (w : Om) (a : Addr) (c : Cell) : Om := fun b => if b = a then some c else w b
theorem updW_same {w : Om} {a : Addr} {c : Cell} : updW w a c a = some c := by simp [updW]
theorem updW_ne {w : Om} {a b : Addr} {c : Cell} (h : b ≠ a) : updW w a c b = w b := by simp [updW, h]
theorem updW_eq {w : Om} {a b : Addr} {c : Cell} : updW w a c b = if b = a then some c else w b := rfl
theorem updW_twice (w : Om) (a : Addr) (c c' : Cell) : updW (updW w a c) a c' = updW w a c' := by
  funext b
  unfold updW
  split <;> rfl
theorem updW_self {w : Om} {a : Addr} {c : Cell} (h : w a = some c) : updW w a c = w := by
  funext b
  unfold updW
  split
  · next e => rw [e, h]
  · rfl
section
variable {K : PySem.W.Frag} {w : Om} {F He H F' He' H' Hb : Hp}
theorem Wd.at (x : Wd K w F He H) {a : Addr} {c : Cell} (h : w a = some c) : ∃ o, H a = some o ∧ He a = some o ∧ CR K F He a o c := by
  obtain ⟨o, h1, h2⟩ := x.ex.some_ a c h
  exact ⟨o, x.sh _ _ h1, h1, h2⟩
theorem Wd.none_of (x : Wd K w F He H) {a : Addr} (h : He a = none) : w a = none := by
  cases e : w a with
  | none => rfl
  | some c =>
    obtain ⟨o, h1, _⟩ := x.ex.some_ a c e
    rw [h] at h1; cases h1
theorem CR.not_own {a p : Addr} {o : HO} {c : Cell} (h : CR K F He a o c) : o ≠ .own p := by
  intro e
  subst e
  cases h
/-- what a cell holds, at another He -/
theorem CR.other {a : Addr} {o : HO} {c : Cell} (h : CR K F He a o c) (k : ∀ dx p, He dx = some (.own p) → He' dx = some (.own p)) : CR K F He' a o c := by
  cases h with
  | lst h => exact .lst h
  | dK h => exact .dK h
  | dT h => exact .dT h
  | fK h => exact .fK h
  | fT h => exact .fT h
  | ins n h g => exact .ins n (k _ _ h) g
/-- a cell changes -/
theorem Wd.put (x : Wd K w F He H) {a : Addr} {c c' : Cell} {o o' : HO} (h : w a = some c) (ha : He a = some o) (hc : CR K F He a o c) (r : CR K F (upd He a o') a o' c') : Wd K (updW w a c') F (upd He a o') (upd H a o') := by
  have hF := x.dj _ _ ha
  have kp : ∀ dx p, He dx = some (.own p) → upd He a o' dx = some (.own p) := fun dx p e => by
    rw [upd_ne (fun z => by subst z; rw [ha] at e; cases e; exact hc.not_own rfl)]; exact e
  refine ⟨fun b u e => ?_, fun b u e => ?_, fun b u e => ?_, ⟨fun b d e => ?_, fun b e => ?_⟩⟩
  · rw [upd_ne (ne_of_none e hF)]; exact x.sf b u e
  · by_cases hb : b = a
    · subst hb; rw [upd_same] at e ⊢; exact e
    · rw [upd_ne hb] at e ⊢; exact x.sh b u e
  · by_cases hb : b = a
    · subst hb; exact hF
    · rw [upd_ne hb] at e; exact x.dj b u e
  · by_cases hb : b = a
    · subst hb
      rw [updW_same] at e
      cases e
      exact ⟨o', upd_same, r⟩
    · rw [updW_ne hb] at e
      obtain ⟨o2, h1, h2⟩ := x.ex.some_ b d e
      exact ⟨o2, by rw [upd_ne hb]; exact h1, h2.other kp⟩
  · have hb : b ≠ a := fun z => by subst z; rw [updW_same] at e; cases e
    rw [updW_ne hb] at e
    rw [upd_ne hb]
    exact x.ex.none_ b e
theorem Step.put {o o' : HO} {a : Addr} (h : He a = some o) (hH : H a = some o) (ht : ∀ xs, o' ≠ .tup xs := by intro xs e; cases e) : Step F He H F (upd He a o') (upd H a o') where
  fz := Same.refl _
  fzN := fun _ h => .inl h
  heN := fun b e => by
    by_cases hb : b = a
    · subst hb; exact .inl (by rw [h]; exact fun z => nomatch z)
    · rw [upd_ne hb] at e; exact .inl e
  keep := fun b u e n => by
    have hb : b ≠ a := fun z => by subst z; rw [h] at n; cases n
    rw [upd_ne hb]; exact e
  dom := fun b e => by
    by_cases hb : b = a
    · subst hb; rw [upd_same]; exact fun z => nomatch z
    · rw [upd_ne hb]; exact e
  tp := fun b xs e => by
    by_cases hb : b = a
    · subst hb; rw [upd_same] at e; cases e; exact absurd rfl (ht xs)
    · rw [upd_ne hb] at e; exact .inr e
/-- an own container gets a name -/
def cellOf : D → Option Cell
  | .lst ds => some (.lst ds) | .dK kvs => some (.dK kvs) | .dT kvs => some (.dT kvs) | _ => none
theorem OR.cell {a : Addr} {o : HO} {d : D} {c : Cell} (r : OR K F o d) (e : cellOf d = some c) : CR K F He a o c := by
  cases r with
  | lst r => cases e; exact .lst r
  | dK r => cases e; exact .dK r
  | dT r => cases e; exact .dT r
theorem Wd.name (x : Wd K w F He H) {a : Addr} {o : HO} {c : Cell} (h : H a = some o) (n : F a = none) (m : He a = none) (r : CR K F (upd He a o) a o c) : Wd K (updW w a c) F (upd He a o) H := by
  refine ⟨x.sf, fun b u e => ?_, fun b u e => ?_, ⟨fun b d e => ?_, fun b e => ?_⟩⟩
  · by_cases hb : b = a
    · subst hb; rw [upd_same] at e; rw [h]; exact e
    · rw [upd_ne hb] at e; exact x.sh b u e
  · by_cases hb : b = a
    · subst hb; exact n
    · rw [upd_ne hb] at e; exact x.dj b u e
  · by_cases hb : b = a
    · subst hb
      rw [updW_same] at e
      cases e
      exact ⟨o, upd_same, r⟩
    · rw [updW_ne hb] at e
      obtain ⟨o2, h1, h2⟩ := x.ex.some_ b d e
      exact ⟨o2, by rw [upd_ne hb]; exact h1, h2.other fun dx p e => by rw [upd_ne (ne_of_none e m)]; exact e⟩
  · have hb : b ≠ a := fun z => by subst z; rw [updW_same] at e; cases e
    rw [updW_ne hb] at e
    rw [upd_ne hb]
    exact x.ex.none_ b e
theorem Step.name {a : Addr} {o : HO} (s : Step F He Hb F' He' H') (h : Hb a = none) : Step F He Hb F' (upd He' a o) H' where
  fz := s.fz
  fzN := s.fzN
  heN := fun b e => by
    by_cases hb : b = a
    · subst hb; exact .inr h
    · rw [upd_ne hb] at e; exact s.heN b e
  keep := s.keep
  dom := s.dom
  tp := s.tp
/-- a value is taken in: an own new container gets a name -/
def nmK (Q : D → Om → Prop) (w : Om) : Bool → D → Prop
  | false, d => Q d w
  | true, .lst ds => ∀ c, w c = none → Q (.ref c) (updW w c (.lst ds))
  | true, .dK ds => ∀ c, w c = none → Q (.ref c) (updW w c (.dK ds))
  | true, .dT ds => ∀ c, w c = none → Q (.ref c) (updW w c (.dT ds))
  | true, _ => False
def kNm (nm : Bool) (Q : D → Om → Prop) (w : Om) (b : Bool) (d : D) : Prop := if nm = true then nmK Q w b d else Q d w
theorem kNm_use {F1 He1 H1 : Hp} {nm b : Bool} {u : V} {v : D} {Q : D → Om → Prop} (q : kNm nm Q w b v) (wd : Wd K w F1 He1 H1) (st : Step F He H F1 He1 H1) (r : Res K F1 He1 H H1 b u v) :
    ∃ x w3 F2 He2, Q x w3 ∧ Wd K w3 F2 He2 H1 ∧ Step F He H F2 He2 H1 ∧ DR K F2 u x ∧ Same F1 F2 := by
  unfold kNm at q
  cases nm with
  | false =>
    rw [if_neg Bool.false_ne_true] at q
    obtain ⟨F2, st2, wd2, r2, s2⟩ := r.thaw st wd
    exact ⟨v, w, F2, He1, q, wd2, st2, r2, s2⟩
  | true =>
    rw [if_pos rfl] at q
    unfold nmK at q
    split at q
    · exact ⟨v, w, F1, He1, q, wd, st, r, Same.refl _⟩
    all_goals first
      | exact q.elim
      | (obtain ⟨a, o, rfl, ho, n, m, f, rr⟩ := r
         exact ⟨.ref a, _, F1, _, q a (wd.none_of m), wd.name ho n m (rr.cell rfl), st.name f, .ref a, Same.refl _⟩)
end
section
variable {X : Cx} {z : Ent} {pos : Pos}
/-- x = e, e's own container gets a name -/
def dSetN (i : Nat) (t : DX) : DS := fun E δ w => t δ w fun b d w1 => nmK (fun x w2 => E.nx (δ.set i (some (false, x))) w2) w1 b d
theorem asg_setN {i : Nat} {t : DX} {D : Ends} {σ : St} {H : Hp} (h : liftS z (dSetN i t) D σ H) : tAsg (liftX z t) (gName i) D σ H := by
  obtain ⟨δ, w, F, He, E, R, q, c⟩ := h
  refine ⟨δ, w, F, He, _, R, q, fun b d w1 q1 v H1 F1 He1 wd1 st1 r1 => ?_⟩
  obtain ⟨x, w3, F2, He2, q3, wd2, st2, r2, s2⟩ := kNm_use (nm := true) q1 wd1 st1 r1
  exact c.nx _ _ _ _ _ _ q3 (R.assign (b := false) wd2 st2 r2) st2.fz
theorem js_setN {i : Nat} {x : Str} {e : Expr} {t : DX} {pos' : Pos} (hN : X.N.Nodup) (he : JX X z e t) (hi : X.N[i]? = some x := by rfl) (hx : Loc X.env.scope x := by first | exact Or.inl rfl | exact Or.inr rfl)
    (hs : swapsWith e (some (.Name x pos')) pos.line X.env = pure false := by rfl) (hf : X.fn x = true ∨ X.env.scope.names.lookup x = some .local := by first | exact .inl rfl | exact .inr rfl) : JS X z (.Assign [.Name x pos'] e pos) (dSetN i t) :=
  PS.imp (ps_set hN hi hx he hs hf) fun _ _ _ h => asg_setN h
theorem js_setLcN {i : Nat} {y : Str} {py : Pos} {elt tg iter : Expr} {ifs : List Expr} {scope : Scope} {own : List (Str × Nat)} {it : DI} {G : TG} {g : DG} {tt : DTs_} {te : DX} {spos : Pos} (hc : X.calm = true) (hN : X.N.Nodup) (hy : X.N[i]? = some y) (hyl : X.env.scope.names.lookup y = some .local)
    (hsw : swapsWith (.ListComp elt [⟨tg, iter, ifs, 0⟩] scope pos) (some (.Name y py)) spos.line X.env = pure true) (hi : PI X tg iter (liftI z it)) (ok : BlkOk X.N X.env.scope scope own) (gok : GOkV z (own.map (·.2)) G g)
    (hg : ∀ (s : Shared) (H : Hp) (C : Addr) (cl : List (Str × Addr)) (fp : List Addr), PG (X.blk s H scope (compEnvC scope cl C X.env) fp) tg G) (ht : ∀ (s : Shared) (H : Hp) (C : Addr) (cl : List (Str × Addr)) (fp : List Addr), PTs (X.blk s H scope (compEnvC scope cl C X.env) fp) ifs (liftT z tt))
    (he : ∀ (s : Shared) (H : Hp) (C : Addr) (cl : List (Str × Addr)) (fp : List Addr), JX (X.blk s H scope (compEnvC scope cl C X.env) fp) z elt te) (hs : ∀ x, foldedSetIterable iter X.env x = pure x := by intro _; rfl) :
    JS X z (.Assign [.Name y py] (.ListComp elt [⟨tg, iter, ifs, 0⟩] scope pos) spos) (dSetN i (dLc it g tt te (own.map (·.2)))) := PS.imp (ps_setLc hc hN hy hyl hsw hi ok hg ht he hs) fun D σ H h => by
  obtain ⟨δ, w, F, He, E, R, q, c⟩ := h
  refine lc_lift gok ⟨δ, w, F, He, _, R, q, fun b d w1 q1 v H1 F1 He1 wd1 st1 r1 => ?_⟩
  obtain ⟨x, w3, F2, He2, q3, wd2, st2, r2, s2⟩ := kNm_use (nm := true) q1 wd1 st1 r1
  exact c.nx _ _ _ _ _ _ q3 (R.assign (b := false) wd2 st2 r2) st2.fz
/-- an argument, an item of a display, its own container named -/
def dConsN (t : DX) (ts : DA) : DA := fun δ w Q => t δ w fun b d w1 => nmK (fun x w2 => ts δ w2 fun ds w3 => Q (x :: ds) w3) w1 b d
theorem ja_consN {e : Expr} {es : List Expr} {t : DX} {ts : DA} (ha : JX X z e t) (hr : JA X z es ts) (hs : starEach (e :: es) X.env = (false, eval e X.env) :: starEach es X.env := by rfl) : JA X z (e :: es) (dConsN t ts) :=
  PA.imp (pa_cons ha hr hs) fun σ H Q ⟨δ, w, F, He, P, R, q, k⟩ => by
    refine ⟨δ, w, F, He, _, R, q, fun b d w1 q1 x H1 F1 He1 wd1 st1 r1 => ?_⟩
    obtain ⟨y, w3, F2, He2, q3, wd2, st2, r2, s2⟩ := kNm_use (nm := true) (Q := fun x w2 => ts δ w2 fun ds w3 => P (x :: ds) w3) q1 wd1 st1 r1
    refine ⟨δ, w3, F2, He2, fun ds w4 => P (y :: ds) w4, R.step wd2 st2, q3, fun ds w4 q4 vs H3 F3 He3 wd3 st3 r3 => ?_⟩
    exact k _ _ q4 _ H3 F3 He3 wd3 (st2.trans st3) (.cons (r2.mono st3.fz) r3)
/-! ### writing to named things -/
/-- o.append(e) -/
def dAppN (nm : Bool) (tb : DO) (t : DX) : DS := fun E δ w => tb δ w fun d w1 => ∃ a ds, d = .ref a ∧ w1 a = some (.lst ds) ∧ t δ w1 fun b v w2 => kNm nm (fun x w3 => ∃ ds', w3 a = some (.lst ds') ∧ ds'.length < sizeLine ∧ E.nx δ (updW w3 a (.lst (ds' ++ [x])))) w2 b v
theorem js_appN (nm : Bool) {o e : Expr} {tb : DO} {t : DX} {apos cpos pos : Pos} (hK : z.K = X.K) (ho : JO X z o tb) (he : JX X z e t)
    (hbase : attributeBase o "append" X.env (eval o X.env) = eval o X.env := by rfl)
    (hfew : ((backTo cpos (starEach [e] X.env)).all (fun x => !x.1) && (backToKw cpos (keywordEach [] X.env)).all (fun x => x.1.isSome)
      && decide (([e] : List Expr).length + ([] : List Keyword).length + (if ([] : List Keyword).isEmpty then 0 else 1) < 30)) = true := by rfl)
    (hline : (apos.endLine == cpos.line) = true := by rfl) (hs : starEach [e] X.env = (false, eval e X.env) :: starEach [] X.env := by rfl) (hplain : (backTo cpos (starEach [] X.env)).any (·.1) = false := by rfl)
    (hsw : swapsWith (.Call (.Attribute o "append" apos) [e] [] cpos) none pos.line X.env = pure false := by rfl) : JS X z (.Expr (.Call (.Attribute o "append" apos) [e] [] cpos) pos) (dAppN nm tb t) :=
  PS.imp (ps_expr (pe_bm PySem.F.plainAttrs_list PySem.F.slot_list_append PySem.F.type_list_append mt_append ho (pa_cons he pa_nil hs) hbase hfew hline hs hplain) hsw) fun D σ H ⟨δ, w, F, He, E, R, q, c⟩ => by
    refine ⟨δ, w, F, He, _, R, q, fun d w1 q1 x H1 F1 He1 wd1 st1 r1 => ?_⟩
    obtain ⟨a, ds, rfl, hw, q1⟩ := q1
    obtain ⟨ob, h1, h2, rv⟩ := wd1.at hw
    cases rv with
    | lst rv =>
      have hx := r1.dt.refV
      subst hx
      refine ⟨.inl ⟨rfl, _, .of h1⟩, δ, w1, F1, He1, _, R.step wd1 st1, q1, fun b v w2 q2 u H2 F2 He2 wd2 st2 r2 => ?_⟩
      obtain ⟨y, w3, F3, He3, ⟨ds', hw3, hz, q3⟩, wd3, st3, r3, s3⟩ := kNm_use q2 wd2 st2 r2
      obtain ⟨ob', g1, g2, rv'⟩ := wd3.at hw3
      cases id rv' with
      | lst rl =>
        refine ⟨a, _, u, rfl, rfl, g1, by rw [rl.length]; exact hz, ?_⟩
        have R3 := (R.step wd1 st1).step wd3 st3
        exact c.nx _ _ _ _ _ _ q3 (R3.step (wd3.put hw3 g2 rv' (.lst (rl.append (.cons r3 .nil)))) (.put g2 g1)) (st1.fz.trans st3.fz)
/-- a[k] = x, of a cell -/
def putL (P : Cell → Prop) (x : D) (ds : List D) : D → Prop
  | .int j => ∃ n, ixN ds.length j = some n ∧ P (.lst (ds.set n x))
  | _ => False
def putK_ (P : Cell → Prop) (x : D) (kvs : List (Key × D)) : D → Prop
  | .int j => kvs.length < sizeLine ∧ P (.dK (putD kvs (.inl j) x))
  | .str j => kvs.length < sizeLine ∧ P (.dK (putD kvs (.inr j) x))
  | _ => False
def putT_ (P : Cell → Prop) (x : D) (kvs : List (List Key × D)) : D → Prop
  | .tup ks => ∃ js, ks = js.map kD ∧ kvs.length < sizeLine ∧ P (.dT (putD kvs js x))
  | _ => False
def sPutC (P : Cell → Prop) (k x : D) : Option Cell → Prop
  | some (.lst ds) => putL P x ds k
  | some (.dK kvs) => putK_ P x kvs k
  | some (.dT kvs) => putT_ P x kvs k
  | _ => False
def dPutN (nm : Bool) (tb tk : DO) (t : DX) : DS := fun E δ w => t δ w fun b v w1 => kNm nm (fun x w2 => tb δ w2 fun d w3 => tk δ w3 fun kd w4 => ∃ a, d = .ref a ∧ sPutC (fun c => E.nx δ (updW w4 a c)) kd x (w4 a)) w1 b v
theorem js_putN (nm : Bool) {o k e : Expr} {tb tk : DO} {t : DX} {spos pos : Pos} (hK : z.K = X.K) (hu : X.A.units + 1 < cLine) (ho : JO X z o tb) (hk : JO X z k tk) (he : JX X z e t)
    (hs : swapsWithSole [.Subscript o k spos] e pos.line X.env = pure false := by rfl) (hw : swappedStores [.Subscript o k spos] e X.env = pure none := by rfl)
    (h1 : (assignEach [.Subscript o k spos] X.env).map (·.2) = [assign (.Subscript o k spos) X.env] := by rfl)
    (ha : ∀ v, assign (.Subscript o k spos) X.env v = (do
      let ov ← holding [v] (eval o X.env)
      let iv ← holding [v, ov] (eval k X.env)
      standAt spos
      holding [v, ov, iv] (setItem ov iv v)
      release [v, ov, iv] []) := by intro _; rfl) : JS X z (.Assign [.Subscript o k spos] e pos) (dPutN nm tb tk t) :=
  PS.imp (ps_asg he (pg_sub ho hk (PSet.or set_list (set_dict hu)) ha) hs hw h1) fun D σ H ⟨δ, w, F, He, E, R, q, c⟩ => by
    refine ⟨δ, w, F, He, _, R, q, fun b d w1 q1 v H1 F1 He1 wd1 st1 r1 => ?_⟩
    obtain ⟨y, w2, F2, He2, q2, wd2, st2, r2, s2⟩ := kNm_use q1 wd1 st1 r1
    have R2 := R.step wd2 st2
    refine ⟨δ, w2, F2, He2, _, R2, q2, fun od w3 q3 ov H3 F3 He3 wd3 st3 r3 => ?_⟩
    have R3 := R2.step wd3 st3
    refine ⟨δ, w3, F3, He3, _, R3, q3, fun kd w4 q4 kv H4 F4 He4 wd4 st4 r4 => ?_⟩
    have R4 := R3.step wd4 st4
    obtain ⟨a, rfl, q4⟩ := q4
    have ho := (r3.step st4).dt.refV
    subst ho
    have ry := (r2.mono st3.fz).mono st4.fz
    have sF := st2.fz.trans (st3.fz.trans st4.fz)
    have r4 := r4.dt
    cases ew : w4 a with
    | none => rw [ew] at q4; exact q4.elim
    | some cl =>
      rw [ew] at q4
      obtain ⟨ob, g1, g2, rv⟩ := wd4.at ew
      cases id rv with
      | lst rl =>
        simp only [sPutC] at q4
        cases kd with
        | int j =>
          obtain ⟨n, hn, q4⟩ := q4
          exact .inl ⟨a, _, _, n, rfl, r4.int, g1, by rw [rl.length]; exact hn, c.nx _ _ _ _ _ _ q4 (R4.step (wd4.put ew g2 rv (.lst (rl.set ry n))) (.put g2 g1)) sF⟩
        | _ => exact (by simpa [putL, putK_, putT_] using q4)
      | dK rl =>
        simp only [sPutC] at q4
        cases kd with
        | int j =>
          have := r4.int; subst kv
          exact .inr ⟨a, _, rfl, DPut.k (k := .inl _) g1 (by rw [rl.length]; exact q4.1), c.nx _ _ _ _ _ _ q4.2 (R4.step (wd4.put ew g2 rv (.dK (rl.put ry))) (.put g2 g1)) sF⟩
        | str j =>
          have := r4.str; subst kv
          exact .inr ⟨a, _, rfl, DPut.k (k := .inr _) g1 (by rw [rl.length]; exact q4.1), c.nx _ _ _ _ _ _ q4.2 (R4.step (wd4.put ew g2 rv (.dK (rl.put ry))) (.put g2 g1)) sF⟩
        | _ => exact (by simpa [putL, putK_, putT_] using q4)
      | dT rl =>
        simp only [sPutC] at q4
        cases kd with
        | tup ks =>
          obtain ⟨js, rfl, hl, q4⟩ := q4
          obtain ⟨b, us, rfl, hb, rb⟩ := r4.tup wd4.sf
          have := rb.keys; subst us
          exact .inr ⟨a, _, rfl, DPut.t g1 hb (by rw [rl.length]; exact hl), c.nx _ _ _ _ _ _ q4 (R4.step (wd4.put ew g2 rv (.dT (rl.put ry))) (.put g2 g1)) sF⟩
        | _ => exact (by simpa [putL, putK_, putT_] using q4)
      | fK _ => exact q4.elim
      | fT _ => exact q4.elim
      | ins _ _ _ => exact q4.elim
end
end Lv

namespace Lv
open PySem PySem.Spec L2

/-! ### attributes -/
def putFD (f : Str) (x : D) : List (Str × D) → List (Str × D)
  | [] => [(f, x)]
  | (g, y) :: r => if g = f then (g, x) :: r else (g, y) :: putFD f x r
section
variable {K : PySem.W.Frag} {F He H : Hp} {w : Om}
theorem DFs.look {f : Str} : ∀ {vs : List (Str × V)} {ds : List (Str × D)}, DFs K F vs ds → (vs.lookup f = none ∧ ds.lookup f = none) ∨ ∃ v d, vs.lookup f = some v ∧ ds.lookup f = some d ∧ DR K F v d
  | _, _, .nil => .inl ⟨rfl, rfl⟩
  | _, _, .cons (k := g) (v := v) (d := d) h hs => by
    by_cases e : f = g
    · subst e
      exact .inr ⟨v, d, by simp [List.lookup], by simp [List.lookup], h⟩
    · have e2 : (f == g) = false := by simpa using e
      have := DFs.look (f := f) hs
      simpa [List.lookup, e2] using this
theorem DFs.put {f : Str} {x : V} {y : D} (r : DR K F x y) : ∀ {vs : List (Str × V)} {ds : List (Str × D)}, DFs K F vs ds → DFs K F (putF f x vs) (putFD f y ds)
  | _, _, .nil => .cons r .nil
  | _, _, .cons (k := g) h hs => by
    by_cases e : g = f
    · subst e
      show DFs K F (if g = g then _ else _) (if g = g then _ else _)
      rw [if_pos rfl, if_pos rfl]
      exact .cons r hs
    · show DFs K F (if g = f then _ else _) (if g = f then _ else _)
      rw [if_neg e, if_neg e]
      exact .cons h (DFs.put r hs)
theorem DFs.length : ∀ {vs : List (Str × V)} {ds : List (Str × D)}, DFs K F vs ds → vs.length = ds.length
  | _, _, .nil => rfl
  | _, _, .cons _ hs => by simp [DFs.length hs]
/-- an instance stands there -/
theorem Wd.ins {cn : Str} {C a : Addr} {fs : List (Str × D)} (x : Wd K w F He H) (aC : PySem.W.nsIn K mainGlobals cn = some (some (.ref C))) (h : w a = some (.ins cn fs)) : ∃ dx vs, H a = some (.ins C dx vs) ∧ He a = some (.ins C dx vs) ∧ He dx = some (.own a) ∧ DFs K F vs fs := by
  obtain ⟨o, h1, h2, r⟩ := x.at h
  cases r with
  | ins n hd hf =>
    rw [aC] at n
    cases n
    exact ⟨_, _, h1, h2, hd, hf⟩
/-- an attribute is set -/
theorem Wd.putIns {cn : Str} {C a dx : Addr} {fs fs' : List (Str × D)} {vs vs' : List (Str × V)} (x : Wd K w F He H) (aC : PySem.W.nsIn K mainGlobals cn = some (some (.ref C))) (h : w a = some (.ins cn fs)) (ha : He a = some (.ins C dx vs)) (hd : He dx = some (.own a)) (hf : DFs K F vs fs) (hf' : DFs K F vs' fs') :
    Wd K (updW w a (.ins cn fs')) F (upd He a (.ins C dx vs')) (upd H a (.ins C dx vs')) :=
  x.put h ha (.ins aC hd hf) (.ins aC (by rw [upd_ne (fun z => by subst z; rw [ha] at hd; cases hd)]; exact hd) hf')
end
section
variable {X : Cx} {z : Ent} {pos : Pos}
/-- o.f -/
def dFld (cn f : Str) (t : DO) : DX := fun δ w Q => t δ w fun d w1 => ∃ a fs x, d = .ref a ∧ w1 a = some (.ins cn fs) ∧ fs.lookup f = some x ∧ Q false x w1
theorem jx_fld {cn f : Str} {C : Addr} {e : Expr} {t : DO} (hK : z.K = X.K) (aC : PySem.W.nsIn X.K mainGlobals cn = some (some (.ref C))) (c : Cls X.K C) (n : NoAttr X.K C f) (he : JO X z e t) (hb : attributeBase e f X.env (eval e X.env) = eval e X.env := by rfl) : JX X z (.Attribute e f pos) (dFld cn f t) :=
  PE.imp (pe_fld he hb) fun σ H Q ⟨δ, w, F, He, P, R, q, k⟩ => by
    refine ⟨δ, w, F, He, _, R, q, fun d w1 q1 x H1 F1 He1 wd1 st1 r1 => ?_⟩
    obtain ⟨a, fs, y, rfl, hw, hl, q1⟩ := q1
    obtain ⟨dx, vs, g1, g2, g3, rf⟩ := wd1.ins (by rw [hK]; exact aC) hw
    rcases rf.look (f := f) with ⟨_, h2⟩ | ⟨v, d', h1, h2, rv⟩
    · rw [hl] at h2; cases h2
    · rw [hl] at h2; cases h2
      exact ⟨a, C, dx, vs, v, r1.dt.refV, g1, c, n, h1, k _ _ _ q1 v H1 F1 He1 wd1 st1 rv⟩
/-- o.f = e -/
def dFldS (nm : Bool) (cn f : Str) (to : DO) (t : DX) : DS := fun E δ w => t δ w fun b v w1 => kNm nm (fun x w2 => to δ w2 fun d w3 => ∃ a fs, d = .ref a ∧ w3 a = some (.ins cn fs) ∧ fs.length < 1000 ∧ E.nx δ (updW w3 a (.ins cn (putFD f x fs)))) w1 b v
theorem js_fld (nm : Bool) {cn f : Str} {C : Addr} {o e : Expr} {to : DO} {t : DX} {pos' : Pos} (hK : z.K = X.K) (aC : PySem.W.nsIn X.K mainGlobals cn = some (some (.ref C))) (c : Cls X.K C) (n : NoAttr X.K C f) (ho : JO X z o to) (he : JX X z e t)
    (hs : swapsWith e (some (.Attribute o f pos')) pos.line X.env = pure false := by rfl) : JS X z (.Assign [.Attribute o f pos'] e pos) (dFldS nm cn f to t) :=
  PS.imp (ps_fld ho he hs) fun D σ H ⟨δ, w, F, He, E, R, q, cn_⟩ => by
    refine ⟨δ, w, F, He, _, R, q, fun b d w1 q1 v H1 F1 He1 wd1 st1 r1 => ?_⟩
    obtain ⟨y, w2, F2, He2, q2, wd2, st2, r2, s2⟩ := kNm_use q1 wd1 st1 r1
    have R2 := R.step wd2 st2
    refine ⟨δ, w2, F2, He2, _, R2, q2, fun od w3 q3 ov H3 F3 He3 wd3 st3 r3 => ?_⟩
    obtain ⟨a, fs, rfl, hw, hl, q3⟩ := q3
    obtain ⟨dx, vs, g1, g2, g3, rf⟩ := wd3.ins (by rw [hK]; exact aC) hw
    refine ⟨a, C, dx, vs, r3.dt.refV, g1, c, n, by rw [rf.length]; exact hl, ?_⟩
    exact cn_.nx _ _ _ _ _ _ q3 ((R2.step wd3 st3).step (wd3.putIns (by rw [hK]; exact aC) hw g2 g3 rf (rf.put (r2.mono st3.fz))) (.put g2 g1)) (st2.fz.trans st3.fz)
/-- o.f += e, numbers -/
def dFldAug (cn f : Str) (to t : DO) : DS := fun E δ w => to δ w fun d w1 => ∃ a fs i, d = .ref a ∧ w1 a = some (.ins cn fs) ∧ fs.lookup f = some (.int i) ∧ t δ w1 fun e w2 => ∃ j fs', e = .int j ∧ w2 a = some (.ins cn fs') ∧ fs'.length < 1000 ∧ E.nx δ (updW w2 a (.ins cn (putFD f (.int (i + j)) fs')))
theorem js_fldAug {cn f : Str} {C : Addr} {o e : Expr} {to t : DO} {tpos : Pos} (hK : z.K = X.K) (aC : PySem.W.nsIn X.K mainGlobals cn = some (some (.ref C))) (c : Cls X.K C) (n : NoAttr X.K C f) (ho : JO X z o to) (he : JO X z e t) : JS X z (.AugAssign (.Attribute o f tpos) .Add e pos) (dFldAug cn f to t) :=
  PS.imp (ps_fldaug ho he in_add) fun D σ H ⟨δ, w, F, He, E, R, q, cn_⟩ => by
    refine ⟨δ, w, F, He, _, R, q, fun d w1 q1 x H1 F1 He1 wd1 st1 r1 => ?_⟩
    obtain ⟨a, fs, i, rfl, hw, hl, q1⟩ := q1
    obtain ⟨dx, vs, g1, g2, g3, rf⟩ := wd1.ins (by rw [hK]; exact aC) hw
    rcases rf.look (f := f) with ⟨_, h2⟩ | ⟨v, d', h1, h2, rv⟩
    · rw [hl] at h2; cases h2
    · rw [hl] at h2; cases h2
      cases rv
      refine ⟨a, C, dx, vs, .int i, r1.dt.refV, g1, c, n, h1, δ, w1, F1, He1, _, R.step wd1 st1, q1, fun e w2 q2 y H2 F2 He2 wd2 st2 r2 => ?_⟩
      obtain ⟨j, fs', rfl, hw2, hl2, q2⟩ := q2
      obtain ⟨dx', vs', k1, k2, k3, rf'⟩ := wd2.ins (by rw [hK]; exact aC) hw2
      refine ⟨i, j, rfl, r2.dt.int, dx', vs', k1, by rw [rf'.length]; exact hl2, ?_⟩
      exact cn_.nx _ _ _ _ _ _ q2 (((R.step wd1 st1).step wd2 st2).step (wd2.putIns (by rw [hK]; exact aC) hw2 k2 k3 rf' (rf'.put (.int _))) (.put k2 k1)) (st1.fz.trans st2.fz)
end
/-- the method m of the class cn keeps T -/
structure Mth (P : Program) (w : World) (K : PySem.W.Frag) (mg : Str → Option Value) (base : Heap) (k : Nat) (cn m : Str) (T : DSp) : Prop where
  ex : ∃ (C f : Addr) (fd : FuncData) (ps : List Str), PySem.W.nsIn K mainGlobals cn = some (some (.ref C)) ∧ Cls K C ∧ Meth K C m f ∧ FnOk P w K mg base CX0 k f fd ps (toSp K T) ∧ Binds K fd ps []
theorem Mth.mono {P : Program} {w : World} {K : PySem.W.Frag} {mg : Str → Option Value} {base : Heap} {j k : Nat} {cn m : Str} {T : DSp} (F : Mth P w K mg base j cn m T) (h : j ≤ k) : Mth P w K mg base k cn m T :=
  let ⟨C, f, fd, ps, a, b, c, d, e⟩ := F.ex; ⟨C, f, fd, ps, a, b, c, d.mono h, e⟩
/-- the class cn is made by an __init__ that keeps T -/
structure Mak (P : Program) (w : World) (K : PySem.W.Frag) (mg : Str → Option Value) (base : Heap) (k : Nat) (cn : Str) (T : DSp) : Prop where
  ex : ∃ (C f : Addr) (fd : FuncData) (ps : List Str), PySem.W.nsIn K mainGlobals cn = some (some (.ref C)) ∧ mg cn = some (.ref C) ∧ Mk K C f ∧ FnOk P w K mg base CX0 k f fd ps (toSp K T) ∧ Binds K fd ps []
section
variable {X : Cx} {z : Ent} {pos : Pos}
def dMeth (cn m : Str) (T : DSp) (to : DO) (t : DA) : DX := fun δ w Q => to δ w fun d w1 => ∃ a fs, d = .ref a ∧ w1 a = some (.ins cn fs) ∧ fs.lookup m = none ∧ t δ w1 fun ds w2 => T (.ref a :: ds) w2 Q
theorem meth_lift {C : Addr} {cn m : Str} {T : DSp} {to : DO} {t : DA} {σ : St} {H : Hp} {Q : VK} {K : PySem.W.Frag} (hK : z.K = K) (aC : PySem.W.nsIn K mainGlobals cn = some (some (.ref C))) (h : liftX z (dMeth cn m T to t) σ H Q) : tMeth C m (toSp K T) [] E0 (liftO z to) (liftA z t) σ H Q := by
  subst hK
  obtain ⟨δ, w, F, He, P, R, q, k⟩ := h
  refine ⟨δ, w, F, He, _, R, q, fun d w1 q1 x H1 F1 He1 wd1 st1 r1 => ?_⟩
  obtain ⟨a, fs, rfl, hw, hl, q1⟩ := q1
  obtain ⟨dx, vs, g1, g2, g3, rf⟩ := wd1.ins aC hw
  have hx := r1.dt.refV
  subst hx
  refine ⟨a, dx, vs, rfl, g1, ?_, δ, w1, F1, He1, _, R.step wd1 st1, q1, fun ds w2 q2 us H2 F2 He2 wd2 st2 r2 => ?_⟩
  · rcases rf.look (f := m) with ⟨h1, _⟩ | ⟨v, d', h1, h2, rv⟩
    · exact h1
    · rw [hl] at h2; cases h2
  show toSp z.K T (.ref a :: (us ++ [])) H2 Q E0
  rw [List.append_nil]
  exact ⟨.ref a :: ds, w2, F2, He2, P, wd2, .cons (.ref a) r2, q2, fun b d w' p v H' F' He' wd st r => k b d w' p v H' F' He' wd ((st1.trans st2).trans st) (r.base (st1.trans st2))⟩
theorem jx_meth {k : Nat} {cn m : Str} {T : DSp} {to : DO} {t : DA} {o e : Expr} {es : List Expr} {apos : Pos} (f : Mth X.prog X.w X.K X.mg X.base k cn m T) (hK : z.K = X.K) (hr : Room k X.A) (ho : JO X z o to) (ha : JA X z (e :: es) t)
    (hst : starEach (e :: es) X.env = (false, eval e X.env) :: starEach es X.env := by rfl) (hpl : (backTo pos (starEach es X.env)).any (·.1) = false := by rfl) {pl : Sem Bool}
    (ht : eval (.Call (.Attribute o m apos) (e :: es) [] pos) X.env = (do
      let ov ← eval o X.env
      standAt apos.atName
      let (f, first) ← holding [ov] (getMethod ov m pl)
      callWith pos f first (backTo pos (starEach (e :: es) X.env)) (backToKw pos (keywordEach [] X.env))) := by rfl) : JX X z (.Call (.Attribute o m apos) (e :: es) [] pos) (dMeth cn m T to t) := by
  obtain ⟨C, fa, fd, ps, aC, c, hm, a, d⟩ := f.ex
  exact PE.imp (pe_meth ho c hm a hr d .nil pass0 ha hst hpl ht) fun _ _ _ h => meth_lift hK aC h
theorem jx_meth0 {k : Nat} {cn m : Str} {T : DSp} {to : DO} {o : Expr} {apos : Pos} (f : Mth X.prog X.w X.K X.mg X.base k cn m T) (hK : z.K = X.K) (hr : Room k X.A) (ho : JO X z o to) {pl : Sem Bool}
    (ht : eval (.Call (.Attribute o m apos) [] [] pos) X.env = (do
      let ov ← eval o X.env
      standAt apos.atName
      let (f, first) ← holding [ov] (getMethod ov m pl)
      callWith pos f first (backTo pos (starEach [] X.env)) (backToKw pos (keywordEach [] X.env))) := by rfl) : JX X z (.Call (.Attribute o m apos) [] [] pos) (dMeth cn m T to dNil) := by
  obtain ⟨C, fa, fd, ps, aC, c, hm, a, d⟩ := f.ex
  refine PE.imp (pe_meth0 ho c hm a hr d .nil pass0 ht) fun σ H Q h => ?_
  have := meth_lift hK aC h
  unfold tMeth at this ⊢
  obtain ⟨δ, w, F, He, P, R, q, k⟩ := this
  refine ⟨δ, w, F, He, P, R, q, fun d w1 q1 x H1 F1 He1 wd1 st1 r1 => ?_⟩
  obtain ⟨a, dx, fs, e1, e2, e3, q2⟩ := k d w1 q1 x H1 F1 He1 wd1 st1 r1
  refine ⟨a, dx, fs, e1, e2, e3, ?_⟩
  obtain ⟨δ, w, F, He, P, R, q, k⟩ := q2
  exact k _ _ q [] H1 F He R.wd .refl .nil
/-- C(..) -/
def dMake (cn : Str) (T : DSp) (t : DA) : DX := fun δ w Q => t δ w fun ds w1 => ∀ x, w1 x = none → T (.ref x :: ds) (updW w1 x (.ins cn [])) fun _ d w2 => d = .non ∧ Q false (.ref x) w2
theorem make_lift {C : Addr} {cn : Str} {T : DSp} {t : DA} {σ : St} {H : Hp} {Q : VK} {K : PySem.W.Frag} (hK : z.K = K) (aC : PySem.W.nsIn K mainGlobals cn = some (some (.ref C))) (h : liftX z (dMake cn T t) σ H Q) : tMake C (toSp K T) [] E0 (liftA z t) σ H Q := by
  subst hK
  obtain ⟨δ, w, F, He, P, R, q, k⟩ := h
  refine ⟨δ, w, F, He, _, R, q, fun ds w1 q1 vs H1 F1 He1 wd1 st1 r1 x dx hx hdx hne => ?_⟩
  have m := wd1.henone hx
  have md := wd1.henone hdx
  have n := wd1.fnone hx
  have nd := wd1.fnone hdx
  have h1 : (upd H1 dx (.own x)) x = none := by rw [upd_ne (Ne.symm hne)]; exact hx
  have wd2 : Wd z.K (updW w1 x (.ins cn [])) F1 (upd (upd He1 dx (.own x)) x (.ins C dx [])) (upd (upd H1 dx (.own x)) x (.ins C dx [])) := by
    refine ⟨((wd1.alloc hdx).alloc h1).sf, fun b u e => ?_, fun b u e => ?_, ⟨fun b c e => ?_, fun b e => ?_⟩⟩
    · by_cases hb : b = x
      · subst hb; rw [upd_same] at e ⊢; exact e
      · rw [upd_ne hb] at e ⊢
        by_cases hb2 : b = dx
        · subst hb2; rw [upd_same] at e ⊢; exact e
        · rw [upd_ne hb2] at e ⊢; exact wd1.sh b u e
    · by_cases hb : b = x
      · subst hb; exact n
      · rw [upd_ne hb] at e
        by_cases hb2 : b = dx
        · subst hb2; exact nd
        · rw [upd_ne hb2] at e; exact wd1.dj b u e
    · by_cases hb : b = x
      · subst hb
        rw [updW_same] at e
        cases e
        exact ⟨_, upd_same, .ins aC (by rw [upd_ne hne, upd_same]) .nil⟩
      · rw [updW_ne hb] at e
        obtain ⟨o, g1, g2⟩ := wd1.ex.some_ b c e
        have hb2 : b ≠ dx := fun z => by subst z; rw [md] at g1; cases g1
        refine ⟨o, by rw [upd_ne hb, upd_ne hb2]; exact g1, g2.other fun d p e => ?_⟩
        rw [upd_ne (ne_of_none e m), upd_ne (ne_of_none e md)]
        exact e
    · have hb : b ≠ x := fun z => by subst z; rw [updW_same] at e; cases e
      rw [updW_ne hb] at e
      rw [upd_ne hb]
      by_cases hb2 : b = dx
      · subst hb2; exact .inr ⟨x, upd_same⟩
      · rw [upd_ne hb2]; exact wd1.ex.none_ b e
  have st2 : Step F1 He1 H1 F1 (upd (upd He1 dx (.own x)) x (.ins C dx [])) (upd (upd H1 dx (.own x)) x (.ins C dx [])) :=
    (Step.name (Step.name (((Step.alloc hdx).trans (Step.alloc h1))) hdx) hx)
  show toSp z.K T (.ref x :: (vs ++ [])) _ _ E0
  rw [List.append_nil]
  refine ⟨.ref x :: ds, _, F1, _, _, wd2, .cons (.ref x) r1, q1 x (wd1.none_of m), fun b d w' p v H' F' He' wd st r => ?_⟩
  obtain ⟨rfl, p⟩ := p
  exact ⟨r.dt.non, k false _ w' p _ H' F' He' wd ((st1.trans st2).trans st) (.ref x)⟩
theorem jx_make {k : Nat} {cn : Str} {T : DSp} {t : DA} {p : Pos} {e : Expr} {es : List Expr} (f : Mak X.prog X.w X.K X.mg X.base k cn T) (hK : z.K = X.K) (hr : Room (k + 1) X.A) (ha : JA X z (e :: es) t) (hg : Gl X cn := by rfl)
    (hdb : (cn == ("__debug__" : Str)) = false := by decide) (he : starEach (e :: es) X.env = (false, eval e X.env) :: starEach es X.env := by rfl) (hpl : (backTo pos (starEach es X.env)).any (·.1) = false := by rfl) : JX X z (.Call (.Name cn p) (e :: es) [] pos) (dMake cn T t) := by
  obtain ⟨C, fa, fd, ps, aC, mC, M, a, d⟩ := f.ex
  exact PE.imp (pe_make M a hr hg mC d .nil pass0 ha hdb he hpl) fun _ _ _ h => make_lift hK aC h
theorem jx_make0 {k : Nat} {cn : Str} {T : DSp} {p : Pos} (f : Mak X.prog X.w X.K X.mg X.base k cn T) (hK : z.K = X.K) (hr : Room (k + 1) X.A) (hg : Gl X cn := by rfl)
    (hdb : (cn == ("__debug__" : Str)) = false := by decide) : JX X z (.Call (.Name cn p) [] [] pos) (dMake cn T dNil) := by
  obtain ⟨C, fa, fd, ps, aC, mC, M, a, d⟩ := f.ex
  refine PE.imp (pe_make0 M a hr hg mC d .nil pass0 hdb) fun σ H Q h => ?_
  have := make_lift hK aC h
  obtain ⟨δ, w, F, He, P, R, q, k⟩ := this
  exact k _ _ q [] H F He R.wd .refl .nil
end
section
variable {P : Program} {w : World} {K : PySem.W.Frag} {mg : Str → Option Value} {base : Heap}
/-- a method by its body's reading over data -/
theorem mth_ok {T : DSp} {cn m qual : Str} {st : Stmt} {C f : Addr} {fd : FuncData} {N ps : List Str} {k : Nat} (F : L2.Fun K m qual st f fd) (S : FnScope N ps (defScope st)) (aC : PySem.W.nsIn K mainGlobals cn = some (some (.ref C))) (c : Cls K C) (hm : Meth K C m f)
    (hbd : ∀ (kV doc pm : Value) (an : Option Addr) (cdv ct : Value) (us : List Value), us.length = ps.length → bindArgs (PySem.W.fnOf m qual (defArgs st) (defBody st) (defScope st) .none kV doc pm an cdv ct) ⟨us, []⟩ = pure (ps.zip us))
    (len : ∀ ds w P, T ds w P → ds.length = ps.length)
    (h : ∃ tb : Om → DS, (∀ (cdv : Value) (A : Around) (outer : List Env) (s : Shared) (H F0 He0 : Hp) (w0 : Om) (rep0 : rep K w0 F0 He0) (E : XK), Room k (A.deeper (PyProof.Rows.envOfC qual (defScope st) s.heap.objs.size f cdv)) → JSs (cxOf CX0 P w K mg base N qual (defScope st) f cdv A outer s H E).nox ⟨K, F0, He0, H, w0, rep0⟩ (defBody st) (tb w0)) ∧
      ∀ ds w P, T ds w P → tb w { nx := fun _ w => P false .non w, rt := P } (startD N ds) w) : Mth P w K mg base (k + 1) cn m T :=
  ⟨C, f, fd, ps, aC, c, hm, fn_okF F S len h, F.binds hbd⟩
theorem mak_ok {T : DSp} {cn qual : Str} {st : Stmt} {C f : Addr} {fd : FuncData} {N ps : List Str} {k : Nat} (F : L2.Fun K "__init__" qual st f fd) (S : FnScope N ps (defScope st)) (aC : PySem.W.nsIn K mainGlobals cn = some (some (.ref C))) (mC : mg cn = some (.ref C)) (M : Mk K C f)
    (hbd : ∀ (kV doc pm : Value) (an : Option Addr) (cdv ct : Value) (us : List Value), us.length = ps.length → bindArgs (PySem.W.fnOf "__init__" qual (defArgs st) (defBody st) (defScope st) .none kV doc pm an cdv ct) ⟨us, []⟩ = pure (ps.zip us))
    (len : ∀ ds w P, T ds w P → ds.length = ps.length)
    (h : ∃ tb : Om → DS, (∀ (cdv : Value) (A : Around) (outer : List Env) (s : Shared) (H F0 He0 : Hp) (w0 : Om) (rep0 : rep K w0 F0 He0) (E : XK), Room k (A.deeper (PyProof.Rows.envOfC qual (defScope st) s.heap.objs.size f cdv)) → JSs (cxOf CX0 P w K mg base N qual (defScope st) f cdv A outer s H E).nox ⟨K, F0, He0, H, w0, rep0⟩ (defBody st) (tb w0)) ∧
      ∀ ds w P, T ds w P → tb w { nx := fun _ w => P false .non w, rt := P } (startD N ds) w) : Mak P w K mg base (k + 1) cn T :=
  ⟨C, f, fd, ps, aC, mC, M, fn_okF F S len h, F.binds hbd⟩
end
end Lv

namespace Lv
open PySem PySem.Spec L2

/-! ### d.get(k), d.get(k, x), d.pop(k) -/
def isDct : D → Prop
  | .dK _ => True | .dT _ => True | .fK _ => True | .fT _ => True | _ => False
def sGetO (d e : D) (P : Option D → Prop) : Prop := match d, e with
  | .dK kvs, .int i => P (valD kvs (.inl i))
  | .dK kvs, .str i => P (valD kvs (.inr i))
  | .dT kvs, .tup ds => ∃ ks, ds = ks.map kD ∧ P (valD kvs ks)
  | .fK kvs, .int i => P (valD kvs (.inl i))
  | .fT kvs, .tup ds => ∃ ks, ds = ks.map kD ∧ P (valD kvs ks)
  | _, _ => False
section
variable {K : PySem.W.Frag} {F He H : Hp}
theorem isD_of {v : V} {d : D} (r : DT K F He H v d) (s : Same F H) (h : isDct d) : ∃ a, v = .ref a ∧ IsD H a := by
  cases d with
  | dK ds => obtain ⟨a, vs, rfl, ha, _⟩ := r.dK s; exact ⟨a, rfl, .inl ⟨_, .inl ha⟩⟩
  | dT ds => obtain ⟨a, vs, rfl, ha, _⟩ := r.dT s; exact ⟨a, rfl, .inr ⟨_, .inl ha⟩⟩
  | fK ds => obtain ⟨a, ob, vs, rfl, ha, _⟩ := r.fK; exact ⟨a, rfl, .inl ⟨_, .inr ⟨_, ha⟩⟩⟩
  | fT ds => obtain ⟨a, ob, vs, rfl, ha, _⟩ := r.fT; exact ⟨a, rfl, .inr ⟨_, .inr ⟨_, ha⟩⟩⟩
  | _ => exact h.elim
theorem get_of {v u : V} {d e : D} {P : Option D → Prop} {a : Addr} (dx : DT K F He H v d) (dy : DT K F He H u e) (s : Same F H) (hv : v = .ref a) (q : sGetO d e P) : ∃ o o', DGet H a u o ∧ P o' ∧ ((o = none ∧ o' = none) ∨ ∃ x y, o = some x ∧ o' = some y ∧ DR K F x y) := by
  unfold sGetO at q
  split at q
  · obtain ⟨a, vs, rfl, ha, ra⟩ := dx.dK s; cases hv
    have := dy.int; subst u
    exact ⟨_, _, DGet.k (k := .inl _) ha, q, ra.val⟩
  · obtain ⟨a, vs, rfl, ha, ra⟩ := dx.dK s; cases hv
    have := dy.str; subst u
    exact ⟨_, _, DGet.k (k := .inr _) ha, q, ra.val⟩
  · obtain ⟨ks, rfl, q⟩ := q
    obtain ⟨a, vs, rfl, ha, ra⟩ := dx.dT s; cases hv
    obtain ⟨b, us, rfl, hb, rb⟩ := dy.tup s
    have := rb.keys; subst us
    exact ⟨_, _, DGet.t ha hb, q, ra.val⟩
  · obtain ⟨a, ob, vs, rfl, ha, ra⟩ := dx.fK; cases hv
    have := dy.int; subst u
    exact ⟨_, _, .inl ⟨_, .inl _, .inr ⟨_, ha⟩, rfl, rfl⟩, q, ra.val⟩
  · obtain ⟨ks, rfl, q⟩ := q
    obtain ⟨a, ob, vs, rfl, ha, ra⟩ := dx.fT; cases hv
    obtain ⟨b, us, rfl, hb, rb⟩ := dy.tup s
    have := rb.keys; subst us
    exact ⟨_, _, .inr ⟨_, ks, b, .inr ⟨_, ha⟩, rfl, hb, rfl⟩, q, ra.val⟩
  · exact q.elim
end
section
variable {X : Cx} {z : Ent} {pos : Pos}
def dGet1 (to tk : DO) : DX := fun δ w Q => to δ w fun d w1 => isDct (res w1 d) ∧ tk δ w1 fun e w2 => sGetO (res w2 d) (res w2 e) fun o => Q false (o.getD .non) w2
theorem jx_get1 {o e : Expr} {to tk : DO} {apos cpos : Pos} (hK : z.K = X.K) (hu : X.A.units + 1 < cLine) (ho : JO X z o to) (he : JO X z e tk) (m : M1 X o "get" apos e cpos := by exact ⟨rfl, rfl, rfl, rfl⟩) : JX X z (.Call (.Attribute o "get" apos) [e] [] cpos) (dGet1 to tk) :=
  PE.imp (pe_dget1 hu ho he m) fun σ H Q ⟨δ, w, F, He, P, R, q, k⟩ => by
    refine ⟨δ, w, F, He, _, R, q, fun d w1 q1 x H1 F1 He1 wd1 st1 r1 => ?_⟩
    obtain ⟨a, hx, hd⟩ := isD_of (res_ok wd1.ex wd1.sh r1) wd1.sf q1.1
    refine ⟨a, hx, hd, δ, w1, F1, He1, _, R.step wd1 st1, q1.2, fun e w2 q2 y H2 F2 He2 wd2 st2 r2 => ?_⟩
    obtain ⟨o, o', hg, q3, ho⟩ := get_of (res_ok wd2.ex wd2.sh (r1.step st2)) (res_ok wd2.ex wd2.sh r2) wd2.sf hx q2
    refine ⟨o, hg, k _ _ _ q3 _ H2 F2 He2 wd2 (st1.trans st2) ?_⟩
    rcases ho with ⟨rfl, rfl⟩ | ⟨u, v, rfl, rfl, r⟩
    · exact .non
    · exact r
def dGet2 (to tk : DO) (tx : DX) : DX := fun δ w Q => to δ w fun d w1 => isDct (res w1 d) ∧ tk δ w1 fun e w2 => tx δ w2 fun _ x w3 => sGetO (res w3 d) (res w3 e) fun o => Q false (o.getD x) w3
theorem jx_get2 {o e f : Expr} {to tk : DO} {tx : DX} {apos cpos : Pos} (hK : z.K = X.K) (hu : X.A.units + 1 < cLine) (ho : JO X z o to) (he : JO X z e tk) (hf : JX X z f tx) (m : M2 X o "get" apos e f cpos := by exact ⟨rfl, rfl, rfl, rfl⟩) : JX X z (.Call (.Attribute o "get" apos) [e, f] [] cpos) (dGet2 to tk tx) :=
  PE.imp (pe_dget2 hu ho he hf m) fun σ H Q ⟨δ, w, F, He, P, R, q, k⟩ => by
    refine ⟨δ, w, F, He, _, R, q, fun d w1 q1 x H1 F1 He1 wd1 st1 r1 => ?_⟩
    obtain ⟨a, hx, hd⟩ := isD_of (res_ok wd1.ex wd1.sh r1) wd1.sf q1.1
    refine ⟨a, hx, hd, δ, w1, F1, He1, _, R.step wd1 st1, q1.2, fun e w2 q2 y H2 F2 He2 wd2 st2 r2 => ?_⟩
    refine ⟨δ, w2, F2, He2, _, (R.step wd1 st1).step wd2 st2, q2, fun b y3 w3 q3 v3 H3 F3 He3 wd3 st3 r3 => ?_⟩
    obtain ⟨F4, st4, wd4, r4, s4⟩ := r3.thaw st3 wd3
    have st34 := st2.trans st4
    obtain ⟨o, o', hg, q4, ho⟩ := get_of (res_ok wd4.ex wd4.sh (r1.step st34)) (res_ok wd4.ex wd4.sh (r2.step st4)) wd4.sf hx q3
    refine ⟨o, hg, k _ _ _ q4 _ H3 F4 He3 wd4 (st1.trans st34) ?_⟩
    rcases ho with ⟨rfl, rfl⟩ | ⟨u, v, rfl, rfl, r⟩
    · exact r4
    · exact r
def dDPop (to tk : DO) : DX := fun δ w Q => to δ w fun d w1 => ∃ a kvs0, d = .ref a ∧ w1 a = some (.dK kvs0) ∧ tk δ w1 fun e w2 => ∃ kvs key x, w2 a = some (.dK kvs) ∧ keyOf e = some key ∧ valD kvs key = some x ∧ Q false x (updW w2 a (.dK (dropD kvs key)))
theorem jx_dpop {o e : Expr} {to tk : DO} {apos cpos : Pos} (hK : z.K = X.K) (ho : JO X z o to) (he : JO X z e tk) (m : M1 X o "pop" apos e cpos := by exact ⟨rfl, rfl, rfl, rfl⟩) : JX X z (.Call (.Attribute o "pop" apos) [e] [] cpos) (dDPop to tk) :=
  PE.imp (pe_dpop1 ho he m) fun σ H Q ⟨δ, w, F, He, P, R, q, k⟩ => by
    refine ⟨δ, w, F, He, _, R, q, fun d w1 q1 x H1 F1 He1 wd1 st1 r1 => ?_⟩
    obtain ⟨a, kvs0, rfl, hw, q1⟩ := q1
    obtain ⟨ob, h1, h2, rv⟩ := wd1.at hw
    cases rv with
    | dK rv =>
      refine ⟨a, r1.dt.refV, .inl ⟨_, .inl h1⟩, δ, w1, F1, He1, _, R.step wd1 st1, q1, fun e w2 q2 y H2 F2 He2 wd2 st2 r2 => ?_⟩
      obtain ⟨kvs, key, x, hw2, hk, hv, q2⟩ := q2
      obtain ⟨ob2, g1, g2, rv2⟩ := wd2.at hw2
      cases id rv2 with
      | dK rl =>
        rcases rl.val (k := key) with ⟨_, z2⟩ | ⟨u, d', z1, z2, ru⟩
        · rw [hv] at z2; cases z2
        · rw [hv] at z2; cases z2
          refine ⟨_, key, u, g1, keyOf_rel r2.dt hk, z1, ?_⟩
          exact k _ _ _ q2 u _ _ _ (wd2.put hw2 g2 rv2 (.dK rl.drop)) ((st1.trans st2).trans (.put g2 g1)) ru
/-! ### xs.pop(), xs.pop(i) of a named list -/
def dLPop (to : DO) : DX := fun δ w Q => to δ w fun d w1 => ∃ a ds x, d = .ref a ∧ w1 a = some (.lst ds) ∧ ds[ds.length - 1]? = some x ∧ Q false x (updW w1 a (.lst ds.dropLast))
theorem jx_lpop {o : Expr} {to : DO} {apos cpos : Pos} (hK : z.K = X.K) (ho : JO X z o to)
    (hbase : attributeBase o "pop" X.env (eval o X.env) = eval o X.env := by rfl) (hline : (apos.endLine == cpos.line) = true := by rfl) : JX X z (.Call (.Attribute o "pop" apos) [] [] cpos) (dLPop to) :=
  PE.imp (pe_bm0 PySem.F.plainAttrs_list PySem.F.slot_list_pop PySem.F.type_list_pop mt_pop ho hbase hline) fun σ H Q ⟨δ, w, F, He, P, R, q, k⟩ => by
    refine ⟨δ, w, F, He, _, R, q, fun d w1 q1 x H1 F1 He1 wd1 st1 r1 => ?_⟩
    obtain ⟨a, ds, y, rfl, hw, hy, q1⟩ := q1
    obtain ⟨ob, h1, h2, rv⟩ := wd1.at hw
    have hx := r1.dt.refV
    subst hx
    cases id rv with
    | lst rl =>
      obtain ⟨v, hv, ry⟩ := rl.get hy
      refine ⟨.inl ⟨rfl, _, .of h1⟩, a, _, v, rfl, rfl, h1, by rw [rl.length]; exact hv, ?_⟩
      exact k _ _ _ q1 v _ _ _ (wd1.put hw h2 rv (.lst rl.dropLast)) (st1.trans (.put h2 h1)) ry
def dLPopAt (to ti : DO) : DX := fun δ w Q => to δ w fun d w1 => ∃ a ds0, d = .ref a ∧ w1 a = some (.lst ds0) ∧ ti δ w1 fun e w2 => ∃ ds i n x, e = .int i ∧ w2 a = some (.lst ds) ∧ (-(2 ^ 63) ≤ i ∧ i < 2 ^ 63) ∧ ixN ds.length i = some n ∧ ds[n]? = some x ∧ Q false x (updW w2 a (.lst (ds.eraseIdx n)))
theorem seqIx_of {i : Int} {n k : Nat} (h : ixN n i = some k) : seqIndex? i n = some k := by
  unfold ixN at h
  unfold seqIndex?
  split at h
  · split at h
    · cases h
      first | (simp; omega) | (split <;> simp_all <;> omega)
    · cases h
  · split at h
    · cases h
      first | (simp; omega) | (split <;> simp_all <;> omega)
    · cases h
theorem jx_lpopAt {o e : Expr} {to ti : DO} {apos cpos : Pos} (hK : z.K = X.K) (ho : JO X z o to) (he : JO X z e ti)
    (hbase : attributeBase o "pop" X.env (eval o X.env) = eval o X.env := by rfl)
    (hfew : ((backTo cpos (starEach [e] X.env)).all (fun x => !x.1) && (backToKw cpos (keywordEach [] X.env)).all (fun x => x.1.isSome)
      && decide (([e] : List Expr).length + ([] : List Keyword).length + (if ([] : List Keyword).isEmpty then 0 else 1) < 30)) = true := by rfl)
    (hline : (apos.endLine == cpos.line) = true := by rfl) (hs : starEach [e] X.env = (false, eval e X.env) :: starEach [] X.env := by rfl) (hplain : (backTo cpos (starEach [] X.env)).any (·.1) = false := by rfl) : JX X z (.Call (.Attribute o "pop" apos) [e] [] cpos) (dLPopAt to ti) :=
  PE.imp (pe_bm PySem.F.plainAttrs_list PySem.F.slot_list_pop PySem.F.type_list_pop mt_popAt ho (pa_cons he pa_nil hs) hbase hfew hline hs hplain) fun σ H Q ⟨δ, w, F, He, P, R, q, k⟩ => by
    refine ⟨δ, w, F, He, _, R, q, fun d w1 q1 x H1 F1 He1 wd1 st1 r1 => ?_⟩
    obtain ⟨a, ds0, rfl, hw, q1⟩ := q1
    obtain ⟨ob, h1, h2, rv⟩ := wd1.at hw
    have hx := r1.dt.refV
    subst hx
    cases rv with
    | lst rl0 =>
      refine ⟨.inl ⟨rfl, _, .of h1⟩, δ, w1, F1, He1, _, R.step wd1 st1, q1, fun e w2 q2 y H2 F2 He2 wd2 st2 r2 => ?_⟩
      obtain ⟨ds, i, n, y, rfl, hw2, hb, hn, hy, q2⟩ := q2
      obtain ⟨ob2, g1, g2, rv2⟩ := wd2.at hw2
      cases id rv2 with
      | lst rl =>
        obtain ⟨v, hv, ry⟩ := rl.get hy
        refine ⟨a, _, i, n, v, rfl, by rw [r2.dt.int], g1, hb.1, hb.2, by rw [rl.length]; exact seqIx_of hn, hv, ?_⟩
        exact k _ _ _ q2 v _ _ _ (wd2.put hw2 g2 rv2 (.lst (rl.eraseIdx n))) ((st1.trans st2).trans (.put g2 g1)) ry
/-- xs.clear() of a named list -/
def dLClear (to : DO) : DX := fun δ w Q => to δ w fun d w1 => ∃ a ds, d = .ref a ∧ w1 a = some (.lst ds) ∧ Q false .non (updW w1 a (.lst []))
theorem jx_lclear {o : Expr} {to : DO} {apos cpos : Pos} (hK : z.K = X.K) (ho : JO X z o to)
    (hbase : attributeBase o "clear" X.env (eval o X.env) = eval o X.env := by rfl) (hline : (apos.endLine == cpos.line) = true := by rfl) : JX X z (.Call (.Attribute o "clear" apos) [] [] cpos) (dLClear to) :=
  PE.imp (pe_bm0 PySem.F.plainAttrs_list PySem.F.slot_list_clear PySem.F.type_list_clear mt_clear ho hbase hline) fun σ H Q ⟨δ, w, F, He, P, R, q, k⟩ => by
    refine ⟨δ, w, F, He, _, R, q, fun d w1 q1 x H1 F1 He1 wd1 st1 r1 => ?_⟩
    obtain ⟨a, ds, rfl, hw, q1⟩ := q1
    obtain ⟨ob, h1, h2, rv⟩ := wd1.at hw
    have hx := r1.dt.refV
    subst hx
    cases id rv with
    | lst rl =>
      refine ⟨.inl ⟨rfl, _, .of h1⟩, a, _, rfl, rfl, h1, ?_⟩
      exact k _ _ _ q1 .non _ _ _ (wd1.put hw h2 rv (.lst .nil)) (st1.trans (.put h2 h1)) .non
/-! ### more that is walked -/
def enumD (ds : List D) : List D := ds.zipIdx.map fun q => .tup [.int (q.2 : Nat), q.1]
theorem enumD_len (ds : List D) : (enumD ds).length = ds.length := by simp [enumD]
theorem enumD_at (ds : List D) (i : Nat) {d : D} (h : ds[i]? = some d) : (enumD ds)[i]? = some (.tup [.int (i : Nat), d]) := by
  unfold enumD
  rw [List.getElem?_map, List.getElem?_zipIdx, h]
  simp
theorem itok_enum {K : PySem.W.Frag} {F : Hp} {a : Addr} {vs : List V} {ds : List D} (ha : F a = some (.lst vs)) (ra : DRs K F vs ds) : ItOk K (Ite K a) F (enumD ds) where
  go := fun i H s h => by
    rw [enumD_len] at h
    obtain ⟨u, hu, _⟩ := ra.get (List.getElem?_eq_getElem h)
    exact ⟨vs, u, .of (s _ _ ha), hu⟩
  stop := fun H s => ⟨vs, .of (s _ _ ha), by rw [enumD_len, ra.length]; exact Nat.le_refl _⟩
  yld := fun i H x H' s h hy => by
    rw [enumD_len] at h
    obtain ⟨T, u, rfl, hT, rfl, h1⟩ := hy
    obtain ⟨d, hd, rd⟩ := ra.getV (h1 vs (.of (s _ _ ha)))
    exact .inr ⟨T, _, [.int (i : Nat), d], rfl, hT, rfl, enumD_at ds i hd, .cons (.int _) (.cons rd .nil)⟩
def kEnum {α : Type} (Q : List D → α → Prop) (w : α) : List D → Prop
  | [.lst xs] => Q (enumD xs) w
  | _ => False
def dEnum (ts : DA) : DI := fun δ w Q => ts δ w fun ds w1 => kEnum Q w1 ds
theorem ji_enum {e : Expr} {ts : DA} {p tpos : Pos} {elts : List Expr} {kk : Nat} (hK : z.K = X.K) (hm : X.mg "enumerate" = none) (ha : JA X z [e] ts) (hg : Gl X "enumerate" := by rfl)
    (hs : starEach [e] X.env = [(false, eval e X.env)] := by rfl) : PI X (.Tuple elts kk tpos) (.Call (.Name "enumerate" p) [e] [] pos) (liftI z (dEnum ts)) :=
  PI.imp (pi_enum hg hm ha hs) fun σ H R ⟨δ, w, F, He, P, Re, q, k⟩ => by
    refine ⟨δ, w, F, He, _, Re, q, fun ds w1 q1 vs H1 F1 He1 wd1 st1 r1 => ?_⟩
    rw [← hK]
    unfold kEnum at q1
    split at q1
    · next xs =>
      cases r1 with
      | cons ra rb =>
        cases rb
        cases ra with
        | lst ea ra => exact ⟨_, _, rfl, .of (wd1.sf _ _ ea), k _ _ q1 _ H1 F1 He1 wd1 st1 (itok_enum ea ra)⟩
    · exact q1.elim
/-- range(a, b, c) -/
def rngC (lo c : Int) (n : Nat) : List D := (List.range n).map fun k => .int (lo + (k : Nat) * c)
theorem itok_rngC {K : PySem.W.Frag} {F : Hp} {lo c : Int} {n : Nat} : ItOk K (Itc lo c n) F (rngC lo c n) where
  go := fun i H s h => by
    have h' : i < n := by simpa [rngC] using h
    exact h'
  stop := fun H s => by simp [rngC, Itc]
  yld := fun i H v H' s h ⟨e1, hv⟩ => .inl ⟨e1, .int (lo + (i : Nat) * c), by
    have h' : i < n := by simpa [rngC] using h
    simp [rngC, h'], by rw [hv]; exact .int _⟩
def kR3 {α : Type} (Q : List D → α → Prop) (w : α) : List D → Prop
  | [.int i, .int j, .int c] => ∃ n, RgC i j c n ∧ Q (rngC i c n) w
  | _ => False
def dRng3 (ts : DA) : DI := fun δ w Q => ts δ w fun ds w1 => kR3 Q w1 ds
theorem ji_rng3 {tg a b c : Expr} {ts : DA} {p : Pos} (hm : X.mg "range" = none) (ha : JA X z [a, b, c] ts) (hg : Gl X "range" := by rfl)
    (hs : starEach [a, b, c] X.env = (false, eval a X.env) :: starEach [b, c] X.env := by rfl) (hpl : (backTo pos (starEach [b, c] X.env)).any (·.1) = false := by rfl) : PI X tg (.Call (.Name "range" p) [a, b, c] [] pos) (liftI z (dRng3 ts)) :=
  PI.imp (pi_range3 hg hm ha hs hpl) fun σ H R ⟨δ, w, F, He, P, Re, q, k⟩ => by
    refine ⟨δ, w, F, He, _, Re, q, fun ds w1 q1 vs H1 F1 He1 wd1 st1 r1 => ?_⟩
    unfold kR3 at q1
    split at q1
    · obtain ⟨n, hn, q1⟩ := q1
      have e := DRs.ints (ns := [_, _, _]) r1
      subst e
      exact ⟨_, _, _, n, rfl, hn, k _ _ q1 _ H1 F1 He1 wd1 st1 itok_rngC⟩
    · exact q1.elim
/-! ### for over a named list that stays as it is -/
def dForGoN (a : Addr) (c : Cell) (g : DG) (t : DS) (E : DEnds) : List D → DSt → Om → Prop
  | [], δ, w => E.nx δ w
  | d :: ds, δ, w => g d δ fun δ1 => t { E with nx := fun δ w => w a = some c ∧ dForGoN a c g t E ds δ w, ct := fun δ w => w a = some c ∧ dForGoN a c g t E ds δ w, bk := E.nx } δ1 w
def dForN (to : DO) (g : DG) (t : DS) : DS := fun E δ w => to δ w fun d w1 => ∃ a ds, d = .ref a ∧ w1 a = some (.lst ds) ∧ dForGoN a (.lst ds) g t E ds δ w1
theorem js_forN {tg iter : Expr} {body : List Stmt} {to : DO} {G : TG} {g : DG} {t : DS} (hK : z.K = X.K) (hp : PassesOwn (model X.prog X.w) X.A X.env X.xe) (hc : X.calm = true) (hi : JO X z iter to) (hg : PG X tg G) (ok : GOk z G g) (hb : JSs X z body t)
    (hs : ∀ x, foldedSetIterable iter X.env x = pure x := by intro _; rfl) : JS X z (.For tg iter body [] pos) (dForN to g t) :=
  PS.imp (ps_for hp hc (pi_any hi) hg hb hs) fun D σ H ⟨δ, w, F, He, E, R, q, cn⟩ => by
    refine ⟨δ, w, F, He, _, R, q, fun d w1 q1 v H1 F1 He1 wd1 st1 r1 => ?_⟩
    obtain ⟨a, ds, rfl, hw, q1⟩ := q1
    obtain ⟨ob, h1, h2, rv⟩ := wd1.at hw
    have hv := r1.dt.refV
    subst hv
    cases rv with
    | lst rl =>
      refine .inl ⟨a, rfl, ⟨_, .of h1⟩, ?_⟩
      refine ⟨fun i m σ H => m = ds.length - i ∧ i ≤ ds.length ∧ ∃ δ w F He, Same F1 F ∧ Rel z δ w F He σ H ∧ w a = some (.lst ds) ∧ dForGoN a (.lst ds) g t E (ds.drop i) δ w, ⟨ds.length, by simp, Nat.zero_le _, δ, w1, F1, He1, Same.refl _, R.step wd1 st1, hw, q1⟩, ?_⟩
      rintro i m σ H ⟨rfl, hle, δ, w, F, He, sF, R, hw, q⟩
      obtain ⟨ob, g1, g2, rv⟩ := R.wd.at hw
      cases rv with
      | lst rl =>
        rename_i vs
        rw [← hK]
        by_cases hlt : i < ds.length
        · obtain ⟨u, hu, ru⟩ := rl.get (List.getElem?_eq_getElem hlt)
          refine .inr ⟨⟨vs, u, .of g1, hu⟩, fun σ' H' => ∃ δ w F He, Same F1 F ∧ Rel z δ w F He σ' H' ∧ w a = some (.lst ds) ∧ dForGoN a (.lst ds) g t E (ds.drop (i + 1)) δ w, fun σ' H' h => ⟨ds.length - (i + 1), by omega, rfl, hlt, h⟩, fun x H' y => ?_⟩
          obtain ⟨rfl, y⟩ := y
          have hx := y vs (.of g1)
          rw [hu] at hx
          cases hx
          rw [List.drop_eq_getElem_cons hlt] at q
          refine ok δ w F He _ σ u _ _ _ R ru q fun δ2 σ2 q2 R2 => ?_
          have s1 := st1.fz.trans sF
          exact ⟨δ2, w, F, He, _, R2, q2, ⟨fun δ3 w3 F3 He3 σ3 H3 p r s3 => ⟨δ3, w3, F3, He3, sF.trans s3, r, p.1, p.2⟩, cn.rt, fun δ3 w3 F3 He3 σ3 H3 p r s3 => cn.nx _ _ _ _ _ _ p r (s1.trans s3), fun δ3 w3 F3 He3 σ3 H3 p r s3 => ⟨δ3, w3, F3, He3, sF.trans s3, r, p.1, p.2⟩⟩⟩
        · have e : i = ds.length := by omega
          subst e
          rw [List.drop_length] at q
          exact .inl ⟨⟨vs, .of g1, by rw [rl.length]; exact Nat.le_refl _⟩, cn.nx _ _ _ _ _ _ q R (st1.fz.trans sF)⟩
/-! ### a dict that is walked: locked while it lasts -/
def lkE (a : Addr) (c c' : Cell) (E : DEnds) : DEnds where
  nx := fun δ w => w a = some c' ∧ E.nx δ (updW w a c)
  rt := fun b d w => w a = some c' ∧ E.rt b d (updW w a c)
  bk := fun δ w => w a = some c' ∧ E.bk δ (updW w a c)
  ct := fun δ w => w a = some c' ∧ E.ct δ (updW w a c)
def dLock (t : DS) : DS := fun E δ w => ∃ a, (∃ kvs, w a = some (.dK kvs) ∧ ∀ ob vs, t (lkE a (.dK kvs) (.fK ob vs kvs) E) δ (updW w a (.fK ob vs kvs))) ∨ ∃ kvs, w a = some (.dT kvs) ∧ ∀ ob vs, t (lkE a (.dT kvs) (.fT ob vs kvs) E) δ (updW w a (.fT ob vs kvs))
theorem lock_conn {a : Addr} {c c' : Cell} {o o' : HO} {F : Hp} {E : DEnds} {D : Ends} (cn : Conn z F E D) (hc : ∀ (F He : Hp) (u : HO), CR z.K F He a u c' → u = o' ∧ ∀ He', CR z.K F He' a o c) (ht : ∀ xs, o ≠ .tup xs) :
    Conn z F (lkE a c c' E) ⟨fun σ' H' => H' a = some o' ∧ D.nx σ' (upd H' a o), fun v H' => H' a = some o' ∧ D.rt v (upd H' a o), fun σ' H' => H' a = some o' ∧ D.bk σ' (upd H' a o), fun σ' H' => H' a = some o' ∧ D.ct σ' (upd H' a o)⟩ := by
  have key : ∀ {w : Om} {F He H : Hp}, Wd z.K w F He H → w a = some c' → H a = some o' ∧ He a = some o' ∧ Wd z.K (updW w a c) F (upd He a o) (upd H a o) := fun {w F He H} wd hw => by
    obtain ⟨u, h1, h2, rv⟩ := wd.at hw
    obtain ⟨rfl, q⟩ := hc _ _ _ rv
    exact ⟨h1, h2, wd.put hw h2 rv (q _)⟩
  refine ⟨fun δ w F' He σ H q R s => ?_, fun b d w q v H F' He wd st r => ?_, fun δ w F' He σ H q R s => ?_, fun δ w F' He σ H q R s => ?_⟩
  · obtain ⟨h1, h2, wd⟩ := key R.wd q.1
    exact ⟨h1, cn.nx _ _ _ _ _ _ q.2 (R.step wd (.put h2 h1 ht)) s⟩
  · obtain ⟨h1, h2, wd2⟩ := key wd q.1
    refine ⟨h1, cn.rt _ _ _ q.2 v _ F' _ wd2 (st.trans (.put h2 h1 ht)) ?_⟩
    cases b with
    | false => exact r
    | true =>
      obtain ⟨a', o2, e, ho, n, m, f, rr⟩ := r
      have hne : a' ≠ a := fun z => by subst z; rw [h2] at m; cases m
      exact ⟨a', o2, e, by rw [upd_ne hne]; exact ho, n, by rw [upd_ne hne]; exact m, f, rr⟩
  · obtain ⟨h1, h2, wd⟩ := key R.wd q.1
    exact ⟨h1, cn.bk _ _ _ _ _ _ q.2 (R.step wd (.put h2 h1 ht)) s⟩
  · obtain ⟨h1, h2, wd⟩ := key R.wd q.1
    exact ⟨h1, cn.ct _ _ _ _ _ _ q.2 (R.step wd (.put h2 h1 ht)) s⟩
theorem js_lock {st : Stmt} {t : DS} (h : JS X z st t) : JS X z st (dLock t) := PS.imp (ps_lock h) fun D σ H ⟨δ, w, F, He, E, R, q, cn⟩ => by
  obtain ⟨a, q⟩ := q
  rcases q with ⟨kvs, hw, q⟩ | ⟨kvs, hw, q⟩
  · obtain ⟨o, h1, h2, rv⟩ := R.wd.at hw
    cases id rv with
    | dK rl =>
      rename_i vs
      refine ⟨a, .dK vs, h1, trivial, fun od => ?_⟩
      refine ⟨δ, _, F, _, _, R.step (R.wd.put (o' := .frz od (.dK vs)) hw h2 rv (.fK rl)) (.put h2 h1), q od vs, lock_conn cn (fun F He u r => ?_) (by intro xs e; cases e)⟩
      cases r with
      | fK r => exact ⟨rfl, fun _ => .dK r⟩
  · obtain ⟨o, h1, h2, rv⟩ := R.wd.at hw
    cases id rv with
    | dT rl =>
      rename_i vs
      refine ⟨a, .dT vs, h1, trivial, fun od => ?_⟩
      refine ⟨δ, _, F, _, _, R.step (R.wd.put (o' := .frz od (.dT vs)) hw h2 rv (.fT rl)) (.put h2 h1), q od vs, lock_conn cn (fun F He u r => ?_) (by intro xs e; cases e)⟩
      cases r with
      | fT r => exact ⟨rfl, fun _ => .dT r⟩
/-- a tuple that stands is frozen -/
theorem Rel.tupF {δ : DSt} {w : Om} {F He H : Hp} {σ : St} {p : Addr} {vs : List V} {ds : List D} (R : Rel z δ w F He σ H) (h : H p = some (.tup vs)) (r : DRs z.K F vs ds) : ∃ F', Rel z δ w F' He σ H ∧ Same F F' ∧ DR z.K F' (.ref p) (.tup ds) := by
  cases e : F p with
  | some u =>
    have := R.wd.sf _ _ e
    rw [h] at this
    cases this
    exact ⟨F, R, Same.refl _, .tup e r⟩
  | none =>
    have hE : He p = none := by
      cases ew : w p with
      | none =>
        rcases R.wd.ex.none_ p ew with g | ⟨q, g⟩
        · exact g
        · have := R.wd.sh _ _ g; rw [h] at this; cases this
      | some c =>
        obtain ⟨o, g1, _, rc⟩ := R.wd.at ew
        rw [h] at g1
        cases g1
        cases rc
    refine ⟨upd F p (.tup vs), R.step (R.wd.freeze h e hE) ⟨same_upd e, fun b hb => ?_, fun _ h => .inl h, fun _ _ h _ => h, fun _ h => h, fun _ _ h => .inr h⟩, same_upd e, .tup upd_same (r.mono (same_upd e))⟩
    by_cases hbp : b = p
    · subst hbp; exact .inr (.inr ⟨vs, h⟩)
    · rw [upd_ne hbp] at hb; exact .inl hb
def keysC : Cell → Option (List D)
  | .fK _ _ kvs => some (kvs.map fun kv => kD kv.1)
  | .fT _ _ kvs => some (kvs.map fun kv => .tup (kv.1.map kD))
  | _ => none
theorem DR.ofKey {K : PySem.W.Frag} {F : Hp} (k : Key) : DR K F (kV k) (kD k) := by
  cases k with
  | inl i => exact .int i
  | inr x => exact .str x
theorem DKs.at {K : PySem.W.Frag} {F : Hp} : ∀ {vs : List (Key × V)} {ds : List (Key × D)} {i : Nat} {kv : Key × V}, DKs K F vs ds → vs[i]? = some kv → ∃ d, ds[i]? = some (kv.1, d) ∧ DR K F kv.2 d
  | _, _, _, _, .nil, e => by simp at e
  | _, _, 0, _, .cons (d := d) h _, e => by simp at e; subst e; exact ⟨d, by simp, h⟩
  | _, _, i + 1, kv, .cons _ hs, e => by
    obtain ⟨u, h1, h2⟩ := DKs.at (i := i) (kv := kv) hs (by simpa using e)
    exact ⟨u, by simpa using h1, h2⟩
theorem DTs.at {K : PySem.W.Frag} {F : Hp} : ∀ {vs : List (List Key × V)} {ds : List (List Key × D)} {i : Nat} {kv : List Key × V}, DTs K F vs ds → vs[i]? = some kv → ∃ d, ds[i]? = some (kv.1, d) ∧ DR K F kv.2 d
  | _, _, _, _, .nil, e => by simp at e
  | _, _, 0, _, .cons (d := d) h _, e => by simp at e; subst e; exact ⟨d, by simp, h⟩
  | _, _, i + 1, kv, .cons _ hs, e => by
    obtain ⟨u, h1, h2⟩ := DTs.at (i := i) (kv := kv) hs (by simpa using e)
    exact ⟨u, by simpa using h1, h2⟩
/-- for k in d, d walked -/
def dForKeys (to : DO) (g : DG) (t : DS) : DS := fun E δ w => to δ w fun d w1 => ∃ a c ks, d = .ref a ∧ w1 a = some c ∧ keysC c = some ks ∧ dForGoN a c g t E ks δ w1
theorem js_forKeys {tg iter : Expr} {body : List Stmt} {to : DO} {G : TG} {g : DG} {t : DS} (hp : PassesOwn (model X.prog X.w) X.A X.env X.xe) (hc : X.calm = true) (hi : JO X z iter to) (hg : PG X tg G) (ok : GOk z G g) (hb : JSs X z body t)
    (hs : ∀ x, foldedSetIterable iter X.env x = pure x := by intro _; rfl) : JS X z (.For tg iter body [] pos) (dForKeys to g t) :=
  PS.imp (ps_for hp hc (pi_keys hi) hg hb hs) fun Dn σ H ⟨δ, w, F, He, E, R, q, cn⟩ => by
    refine ⟨δ, w, F, He, _, R, q, fun d w1 q1 v H1 F1 He1 wd1 st1 r1 => ?_⟩
    obtain ⟨a, c, ks, rfl, hw, hks, q1⟩ := q1
    obtain ⟨ob, h1, h2, rv⟩ := wd1.at hw
    have hv := r1.dt.refV
    subst hv
    cases rv with
    | fK rl =>
      rename_i ob vs kvs
      cases hks
      refine ⟨a, ob, rfl, .inl ⟨vs, h1, ?_⟩⟩
      have hlen := rl.length
      refine ⟨fun i m σ H => m = vs.length - i ∧ i ≤ vs.length ∧ ∃ δ w F He, Same F1 F ∧ Rel z δ w F He σ H ∧ w a = some (.fK ob vs kvs) ∧ dForGoN a (.fK ob vs kvs) g t E ((List.map (fun kv : Key × D => kD kv.1) kvs).drop i) δ w, ⟨vs.length, by simp, Nat.zero_le _, δ, w1, F1, He1, Same.refl _, R.step wd1 st1, hw, q1⟩, ?_⟩
      rintro i m σ H ⟨rfl, hle, δ, w, F, He, sF, R, hw, q⟩
      obtain ⟨ob', g1, g2, rv⟩ := R.wd.at hw
      cases rv with
      | fK rl =>
        by_cases hlt : i < vs.length
        · refine .inr ⟨⟨g1, hlt⟩, fun σ' H' => ∃ δ w F He, Same F1 F ∧ Rel z δ w F He σ' H' ∧ w a = some (.fK ob vs kvs) ∧ dForGoN a (.fK ob vs kvs) g t E ((List.map (fun kv : Key × D => kD kv.1) kvs).drop (i + 1)) δ w, fun σ' H' h => ⟨vs.length - (i + 1), by omega, rfl, hlt, h⟩, fun x H' y => ?_⟩
          obtain ⟨rfl, k, v, hk, rfl⟩ := y
          obtain ⟨d, hd, rd⟩ := rl.at hk
          have hi : i < (List.map (fun kv : Key × D => kD kv.1) kvs).length := by simp; omega
          rw [List.drop_eq_getElem_cons hi] at q
          have e1 : (List.map (fun kv : Key × D => kD kv.1) kvs)[i] = kD k := by
            have := (List.getElem?_eq_some_iff.mp hd).2
            simp [this]
          rw [e1] at q
          refine ok δ w F He _ σ (kV k) _ _ _ R (.ofKey k) q fun δ2 σ2 q2 R2 => ?_
          have s1 := st1.fz.trans sF
          exact ⟨δ2, w, F, He, _, R2, q2, ⟨fun δ3 w3 F3 He3 σ3 H3 p r s3 => ⟨δ3, w3, F3, He3, sF.trans s3, r, p.1, p.2⟩, cn.rt, fun δ3 w3 F3 He3 σ3 H3 p r s3 => cn.nx _ _ _ _ _ _ p r (s1.trans s3), fun δ3 w3 F3 He3 σ3 H3 p r s3 => ⟨δ3, w3, F3, He3, sF.trans s3, r, p.1, p.2⟩⟩⟩
        · have e : i = vs.length := by omega
          subst e
          rw [List.drop_of_length_le (by simp; omega)] at q
          exact .inl ⟨⟨g1, Nat.le_refl _⟩, cn.nx _ _ _ _ _ _ q R (st1.fz.trans sF)⟩
    | fT rl =>
      rename_i ob vs kvs
      cases hks
      refine ⟨a, ob, rfl, .inr ⟨vs, h1, ?_⟩⟩
      have hlen := rl.length
      refine ⟨fun i m σ H => m = vs.length - i ∧ i ≤ vs.length ∧ ∃ δ w F He, Same F1 F ∧ Rel z δ w F He σ H ∧ w a = some (.fT ob vs kvs) ∧ dForGoN a (.fT ob vs kvs) g t E ((List.map (fun kv : List Key × D => D.tup (kv.1.map kD)) kvs).drop i) δ w, ⟨vs.length, by simp, Nat.zero_le _, δ, w1, F1, He1, Same.refl _, R.step wd1 st1, hw, q1⟩, ?_⟩
      rintro i m σ H ⟨rfl, hle, δ, w, F, He, sF, R, hw, q⟩
      obtain ⟨ob', g1, g2, rv⟩ := R.wd.at hw
      cases rv with
      | fT rl =>
        by_cases hlt : i < vs.length
        · refine .inr ⟨⟨g1, hlt⟩, fun σ' H' => ∃ δ w F He, Same F1 F ∧ Rel z δ w F He σ' H' ∧ w a = some (.fT ob vs kvs) ∧ dForGoN a (.fT ob vs kvs) g t E ((List.map (fun kv : List Key × D => D.tup (kv.1.map kD)) kvs).drop (i + 1)) δ w, fun σ' H' h => ⟨vs.length - (i + 1), by omega, rfl, hlt, h⟩, fun x H' y => ?_⟩
          obtain ⟨rfl, k, v, p, hk, rfl, hp⟩ := y
          obtain ⟨d, hd, rd⟩ := rl.at hk
          have hi : i < (List.map (fun kv : List Key × D => D.tup (kv.1.map kD)) kvs).length := by simp; omega
          rw [List.drop_eq_getElem_cons hi] at q
          have e1 : (List.map (fun kv : List Key × D => D.tup (kv.1.map kD)) kvs)[i] = .tup (k.map kD) := by
            have := (List.getElem?_eq_some_iff.mp hd).2
            simp [this]
          rw [e1] at q
          obtain ⟨F2, R2, s2, rp⟩ := R.tupF hp (DRs.ofKeys k)
          refine ok δ w F2 He _ σ (.ref p) _ _ _ R2 rp q fun δ2 σ2 q2 R3 => ?_
          have sF2 := sF.trans s2
          have s1 := st1.fz.trans sF2
          exact ⟨δ2, w, F2, He, _, R3, q2, ⟨fun δ3 w3 F3 He3 σ3 H3 p r s3 => ⟨δ3, w3, F3, He3, sF2.trans s3, r, p.1, p.2⟩, cn.rt, fun δ3 w3 F3 He3 σ3 H3 p r s3 => cn.nx _ _ _ _ _ _ p r (s1.trans s3), fun δ3 w3 F3 He3 σ3 H3 p r s3 => ⟨δ3, w3, F3, He3, sF2.trans s3, r, p.1, p.2⟩⟩⟩
        · have e : i = vs.length := by omega
          subst e
          rw [List.drop_of_length_le (by simp; omega)] at q
          exact .inl ⟨⟨g1, Nat.le_refl _⟩, cn.nx _ _ _ _ _ _ q R (st1.fz.trans sF)⟩
    | _ => cases hks
def itemsC : Cell → Option (List D)
  | .fK _ _ kvs => some (kvs.map fun kv => .tup [kD kv.1, kv.2])
  | _ => none
/-- for k, v in d.items(), d walked -/
def dForItems (to : DO) (g : DG) (t : DS) : DS := fun E δ w => to δ w fun d w1 => ∃ a c ks, d = .ref a ∧ w1 a = some c ∧ itemsC c = some ks ∧ dForGoN a c g t E ks δ w1
theorem js_forItems {e : Expr} {elts : List Expr} {kk : Nat} {tpos apos cpos : Pos} {body : List Stmt} {to : DO} {G : TG} {g : DG} {t : DS} (hp : PassesOwn (model X.prog X.w) X.A X.env X.xe) (hc : X.calm = true) (hi : JO X z e to) (hg : PG X (.Tuple elts kk tpos) G) (ok : GOk z G g) (hb : JSs X z body t)
    (hbase : attributeBase e "items" X.env (eval e X.env) = eval e X.env := by rfl) (hline : (apos.endLine == cpos.line) = true := by rfl)
    (hs : ∀ x, foldedSetIterable (.Call (.Attribute e "items" apos) [] [] cpos) X.env x = pure x := by intro _; rfl) : JS X z (.For (.Tuple elts kk tpos) (.Call (.Attribute e "items" apos) [] [] cpos) body [] pos) (dForItems to g t) :=
  PS.imp (ps_for hp hc (pi_items hi hbase hline) hg hb hs) fun Dn σ H ⟨δ, w, F, He, E, R, q, cn⟩ => by
    refine ⟨δ, w, F, He, _, R, q, fun d w1 q1 v H1 F1 He1 wd1 st1 r1 => ?_⟩
    obtain ⟨a, c, ks, rfl, hw, hks, q1⟩ := q1
    obtain ⟨ob, h1, h2, rv⟩ := wd1.at hw
    have hv := r1.dt.refV
    subst hv
    cases rv with
    | fK rl =>
      rename_i ob vs kvs
      cases hks
      refine ⟨a, ob, vs, rfl, h1, ?_⟩
      have hlen := rl.length
      refine ⟨fun i m σ H => m = vs.length - i ∧ i ≤ vs.length ∧ ∃ δ w F He, Same F1 F ∧ Rel z δ w F He σ H ∧ w a = some (.fK ob vs kvs) ∧ dForGoN a (.fK ob vs kvs) g t E ((List.map (fun kv : Key × D => D.tup [kD kv.1, kv.2]) kvs).drop i) δ w, ⟨vs.length, by simp, Nat.zero_le _, δ, w1, F1, He1, Same.refl _, R.step wd1 st1, hw, q1⟩, ?_⟩
      rintro i m σ H ⟨rfl, hle, δ, w, F, He, sF, R, hw, q⟩
      obtain ⟨ob', g1, g2, rv⟩ := R.wd.at hw
      cases rv with
      | fK rl =>
        by_cases hlt : i < vs.length
        · refine .inr ⟨⟨g1, hlt⟩, fun σ' H' => ∃ δ w F He, Same F1 F ∧ Rel z δ w F He σ' H' ∧ w a = some (.fK ob vs kvs) ∧ dForGoN a (.fK ob vs kvs) g t E ((List.map (fun kv : Key × D => D.tup [kD kv.1, kv.2]) kvs).drop (i + 1)) δ w, fun σ' H' h => ⟨vs.length - (i + 1), by omega, rfl, hlt, h⟩, fun x H' y => ?_⟩
          obtain ⟨T, k, v, hk, rfl, hT, rfl⟩ := y
          obtain ⟨d, hd, rd⟩ := rl.at hk
          have hi : i < (List.map (fun kv : Key × D => D.tup [kD kv.1, kv.2]) kvs).length := by simp; omega
          rw [List.drop_eq_getElem_cons hi] at q
          have e1 : (List.map (fun kv : Key × D => D.tup [kD kv.1, kv.2]) kvs)[i] = .tup [kD k, d] := by
            have := (List.getElem?_eq_some_iff.mp hd).2
            simp [this]
          rw [e1] at q
          have hF : F T = none := R.wd.fnone hT
          have hHe : He T = none := R.wd.henone hT
          have R2 : Rel z δ w (upd F T (.tup [kV k, v])) He σ (upd H T (.tup [kV k, v])) := R.step ((R.wd.alloc hT).freeze upd_same hF hHe) ((Step.alloc hT).freeze hF hT)
          refine ok δ w _ He _ σ (.ref T) _ _ _ R2 (.tup upd_same (.cons (.ofKey k) (.cons (rd.mono (same_upd hF)) .nil))) q fun δ2 σ2 q2 R3 => ?_
          have sF2 := sF.trans (same_upd (o := .tup [kV k, v]) hF)
          have s1 := st1.fz.trans sF2
          exact ⟨δ2, w, _, He, _, R3, q2, ⟨fun δ3 w3 F3 He3 σ3 H3 p r s3 => ⟨δ3, w3, F3, He3, sF2.trans s3, r, p.1, p.2⟩, cn.rt, fun δ3 w3 F3 He3 σ3 H3 p r s3 => cn.nx _ _ _ _ _ _ p r (s1.trans s3), fun δ3 w3 F3 He3 σ3 H3 p r s3 => ⟨δ3, w3, F3, He3, sF2.trans s3, r, p.1, p.2⟩⟩⟩
        · have e : i = vs.length := by omega
          subst e
          rw [List.drop_of_length_le (by simp; omega)] at q
          exact .inl ⟨⟨g1, Nat.le_refl _⟩, cn.nx _ _ _ _ _ _ q R (st1.fz.trans sF)⟩
    | _ => cases hks
end
/-! ### all that a def has made for itself is forgotten at its end -/
def back (w0 w : Om) : Om := fun a => match w0 a with
  | some _ => w a
  | none => none
theorem back_same {w0 w : Om} (h : ∀ a c, w0 a = some c → w a = some c) : back w0 w = w0 := by
  funext a
  unfold back
  cases e : w0 a with
  | none => rfl
  | some c => exact h a c e
theorem Wd.back {K : PySem.W.Frag} {w0 w : Om} {F He H : Hp} (x : Wd K w F He H) : ∃ He', Wd K (back w0 w) F He' H ∧ ∀ b, He' b ≠ none → He b ≠ none := by
  have e1 : ∀ b, (w b).isSome = true → (w0 b).isSome = false → (if ((w b).isSome && !(w0 b).isSome) = true then none else He b) = none := fun b h1 h2 => by simp [h1, h2]
  refine ⟨fun b => if ((w b).isSome && !(w0 b).isSome) = true then none else He b, ⟨x.sf, fun b u e => ?_, fun b u e => ?_, ⟨fun a c e => ?_, fun a e => ?_⟩⟩, fun b e => ?_⟩
  · split at e
    · cases e
    · exact x.sh b u e
  · split at e
    · cases e
    · exact x.dj b u e
  · unfold Lv.back at e
    split at e
    · next c0 h0 =>
      obtain ⟨o, h1, h2⟩ := x.ex.some_ a c e
      refine ⟨o, by simp [h0, h1], h2.other fun dx p h => ?_⟩
      have : w dx = none := by
        cases ew : w dx with
        | none => rfl
        | some c2 =>
          obtain ⟨o2, g1, g2⟩ := x.ex.some_ dx c2 ew
          rw [h] at g1
          cases g1
          cases g2
      simp [this, h]
    · cases e
  · split
    · exact .inl rfl
    · next hn =>
      have : w a = none := by
        cases ew : w a with
        | none => rfl
        | some c =>
          unfold Lv.back at e
          cases e0 : w0 a with
          | none => simp [ew, e0] at hn
          | some c0 => rw [e0] at e; rw [ew] at e; cases e
      exact x.ex.none_ a this
  · have e : (if ((w b).isSome && !(w0 b).isSome) = true then none else He b) ≠ none := e
    split at e
    · exact absurd rfl e
    · exact e
theorem Res.sub {K : PySem.W.Frag} {F He He' Hb H : Hp} {b : Bool} {v : V} {d : D} (r : Res K F He Hb H b v d) (h : ∀ b, He' b ≠ none → He b ≠ none) : Res K F He' Hb H b v d := by
  cases b with
  | false => exact r
  | true =>
    obtain ⟨a, o, e, ho, n, m, f, q⟩ := r
    exact ⟨a, o, e, ho, n, Classical.byContradiction fun z => h a z m, f, q⟩
theorem Step.sub {F He H F' He' He2 H' : Hp} (s : Step F He H F' He' H') (h : ∀ b, He2 b ≠ none → He' b ≠ none) : Step F He H F' He2 H' := ⟨s.fz, s.fzN, fun b e => s.heN b (h b e), s.keep, s.dom, s.tp⟩
def dBack (w0 : Om) (t : DS) : DS := fun E δ w => t { E with nx := fun δ w => E.nx δ (back w0 w), rt := fun b d w => E.rt b d (back w0 w) } δ w
theorem jss_back {X : Cx} {z : Ent} {st : List Stmt} {t : DS} (h : JSs X z st t) : JSs X z st (dBack z.w0 t) := PSs.imp h fun Dn σ H ⟨δ, w, F, He, E, R, q, cn⟩ => by
  refine ⟨δ, w, F, He, _, R, q, ⟨fun δ' w' F' He' σ' H' p R' s => ?_, fun b d w' p v H' F' He' wd st r => ?_, cn.bk, cn.ct⟩⟩
  · obtain ⟨He2, wd2, sub⟩ := R'.wd.back (w0 := z.w0)
    refine cn.nx _ _ _ _ _ _ p ⟨wd2, R'.st.sub sub, R'.len, fun i sl e => ?_, R'.inj⟩ s
    obtain ⟨u, hu, q'⟩ := R'.sl i sl e
    refine ⟨u, hu, ?_⟩
    match sl, q' with
    | none, _ => exact True.intro
    | some (false, d), q' => exact q'
    | some (true, d), ⟨c, o, ec, hc, nc, mc, fc, rc⟩ => exact ⟨c, o, ec, hc, nc, Classical.byContradiction fun z => sub c z mc, fc, rc⟩
  · obtain ⟨He2, wd2, sub⟩ := wd.back (w0 := z.w0)
    exact cn.rt _ _ _ p v _ F' He2 wd2 (st.sub sub) (r.sub sub)
end Lv

namespace Lv
open PySem PySem.Spec L2
section
variable {w : Om}
theorem rs_ref (a : Addr) : res w (.ref a) = resC (.ref a) (w a) := rfl
theorem rs_non : res w .non = .non := rfl
theorem rs_bl (b : Bool) : res w (.bl b) = .bl b := rfl
theorem rs_int (i : Int) : res w (.int i) = .int i := rfl
theorem rs_str (x : Str) : res w (.str x) = .str x := rfl
theorem rs_ty (n : String) : res w (.ty n) = .ty n := rfl
theorem rs_lst (ds : List D) : res w (.lst ds) = .lst ds := rfl
theorem rs_tup (ds : List D) : res w (.tup ds) = .tup ds := rfl
theorem rs_dK (kvs : List (Key × D)) : res w (.dK kvs) = .dK kvs := rfl
theorem rs_dT (kvs : List (List Key × D)) : res w (.dT kvs) = .dT kvs := rfl
theorem rs_scr (ns : List Int) : res w (.scr ns) = .scr ns := rfl
theorem rs_wD (ws : List Int) : res w (wD ws) = wD ws := rfl
theorem rs_iD (ws : List Int) : res w (iD ws) = iD ws := rfl
theorem rs_lwD (ws : List (List Int)) : res w (lwD ws) = lwD ws := rfl
theorem resC_lst (d : D) (ds : List D) : resC d (some (.lst ds)) = .lst ds := rfl
theorem resC_dK (d : D) (ds : List (Key × D)) : resC d (some (.dK ds)) = .dK ds := rfl
theorem resC_dT (d : D) (ds : List (List Key × D)) : resC d (some (.dT ds)) = .dT ds := rfl
theorem resC_fK (d : D) (ob : Obj) (vs : List (Key × V)) (ds : List (Key × D)) : resC d (some (.fK ob vs ds)) = .fK ds := rfl
theorem resC_fT (d : D) (ob : Obj) (vs : List (List Key × V)) (ds : List (List Key × D)) : resC d (some (.fT ob vs ds)) = .fT ds := rfl
theorem resC_ins (d : D) (cn : Str) (fs : List (Str × D)) : resC d (some (.ins cn fs)) = d := rfl
theorem kNm_t (Q : D → Om → Prop) (b : Bool) (d : D) : kNm true Q w b d = nmK Q w b d := rfl
theorem kNm_f (Q : D → Om → Prop) (b : Bool) (d : D) : kNm false Q w b d = Q d w := rfl
theorem nmK_f (Q : D → Om → Prop) (d : D) : nmK Q w false d = Q d w := rfl
theorem nmK_lst (Q : D → Om → Prop) (ds : List D) : nmK Q w true (.lst ds) = ∀ c, w c = none → Q (.ref c) (updW w c (.lst ds)) := rfl
theorem nmK_dK (Q : D → Om → Prop) (ds : List (Key × D)) : nmK Q w true (.dK ds) = ∀ c, w c = none → Q (.ref c) (updW w c (.dK ds)) := rfl
theorem nmK_dT (Q : D → Om → Prop) (ds : List (List Key × D)) : nmK Q w true (.dT ds) = ∀ c, w c = none → Q (.ref c) (updW w c (.dT ds)) := rfl
theorem isDct_dK (kvs : List (Key × D)) : isDct (.dK kvs) = True := rfl
theorem isDct_dT (kvs : List (List Key × D)) : isDct (.dT kvs) = True := rfl
theorem isDct_fK (kvs : List (Key × D)) : isDct (.fK kvs) = True := rfl
theorem isDct_fT (kvs : List (List Key × D)) : isDct (.fT kvs) = True := rfl
theorem sGetO_K (kvs : List (Key × D)) (i : Int) (P : Option D → Prop) : sGetO (.dK kvs) (.int i) P = P (valD kvs (.inl i)) := rfl
theorem sGetO_S (kvs : List (Key × D)) (i : Str) (P : Option D → Prop) : sGetO (.dK kvs) (.str i) P = P (valD kvs (.inr i)) := rfl
theorem sGetO_T (kvs : List (List Key × D)) (ds : List D) (P : Option D → Prop) : sGetO (.dT kvs) (.tup ds) P = ∃ ks, ds = ks.map kD ∧ P (valD kvs ks) := rfl
theorem sGetO_fK (kvs : List (Key × D)) (i : Int) (P : Option D → Prop) : sGetO (.fK kvs) (.int i) P = P (valD kvs (.inl i)) := rfl
theorem sGetO_fT (kvs : List (List Key × D)) (ds : List D) (P : Option D → Prop) : sGetO (.fT kvs) (.tup ds) P = ∃ ks, ds = ks.map kD ∧ P (valD kvs ks) := rfl
theorem sIn_K (neg : Bool) (kvs : List (Key × D)) (i : Int) (P : Bool → D → Prop) : sIn neg (.int i) (.dK kvs) P = P false (.bl (if neg then !(valD kvs (.inl i)).isSome else (valD kvs (.inl i)).isSome)) := rfl
theorem sIn_fK (neg : Bool) (kvs : List (Key × D)) (i : Int) (P : Bool → D → Prop) : sIn neg (.int i) (.fK kvs) P = P false (.bl (if neg then !(valD kvs (.inl i)).isSome else (valD kvs (.inl i)).isSome)) := rfl
theorem sIn_T (neg : Bool) (kvs : List (List Key × D)) (ds : List D) (P : Bool → D → Prop) : sIn neg (.tup ds) (.dT kvs) P = ∃ ks, ds = ks.map kD ∧ P false (.bl (if neg then !(valD kvs ks).isSome else (valD kvs ks).isSome)) := rfl
theorem sIn_fT (neg : Bool) (kvs : List (List Key × D)) (ds : List D) (P : Bool → D → Prop) : sIn neg (.tup ds) (.fT kvs) P = ∃ ks, ds = ks.map kD ∧ P false (.bl (if neg then !(valD kvs ks).isSome else (valD kvs ks).isSome)) := rfl
theorem sPutC_lst (P : Cell → Prop) (x : D) (ds : List D) (j : Int) : sPutC P (.int j) x (some (.lst ds)) = ∃ n, ixN ds.length j = some n ∧ P (.lst (ds.set n x)) := rfl
theorem sPutC_K (P : Cell → Prop) (x : D) (kvs : List (Key × D)) (j : Int) : sPutC P (.int j) x (some (.dK kvs)) = (kvs.length < sizeLine ∧ P (.dK (putD kvs (.inl j) x))) := rfl
theorem sPutC_S (P : Cell → Prop) (x : D) (kvs : List (Key × D)) (j : Str) : sPutC P (.str j) x (some (.dK kvs)) = (kvs.length < sizeLine ∧ P (.dK (putD kvs (.inr j) x))) := rfl
theorem sPutC_T (P : Cell → Prop) (x : D) (kvs : List (List Key × D)) (ds : List D) : sPutC P (.tup ds) x (some (.dT kvs)) = ∃ js, ds = js.map kD ∧ kvs.length < sizeLine ∧ P (.dT (putD kvs js x)) := rfl
theorem keyOf_int (i : Int) : keyOf (.int i) = some (.inl i) := rfl
theorem keyOf_str (i : Str) : keyOf (.str i) = some (.inr i) := rfl
end
/-! ### pairs of numbers as keys -/
def pk (a b : Int) : List Key := [.inl a, .inl b]
theorem pk_keys (a b : Int) : ∃ ks : List Key, [D.int a, D.int b] = ks.map kD ∧ ks = pk a b := ⟨pk a b, rfl, rfl⟩
theorem pk_use {a b : Int} {R : List Key → Prop} (h : R (pk a b)) : ∃ ks, [D.int a, D.int b] = ks.map kD ∧ R ks := ⟨pk a b, rfl, h⟩
def tk3 (a b c : Int) : List Key := [.inl a, .inl b, .inl c]
theorem tk3_use {a b c : Int} {R : List Key → Prop} (h : R (tk3 a b c)) : ∃ ks, [D.int a, D.int b, D.int c] = ks.map kD ∧ R ks := ⟨tk3 a b c, rfl, h⟩
theorem pk_inj {a b c d : Int} : pk a b = pk c d ↔ a = c ∧ b = d := by
  unfold pk
  simp
theorem ixN_nat {n i : Nat} (h : i < n) : ixN n (i : Int) = some i := by
  unfold ixN
  rw [if_pos (by omega), if_pos (by omega), Int.toNat_natCast]
/-! ### dicts as data -/
section
variable {κ : Type} [DecidableEq κ]
theorem valD_nil (j : κ) : valD ([] : List (κ × D)) j = none := rfl
theorem valD_cons (i : κ) (y : D) (kvs : List (κ × D)) (j : κ) : valD ((i, y) :: kvs) j = if i = j then some y else valD kvs j := by
  unfold valD
  rw [List.find?_cons]
  by_cases e : i = j
  · simp [e]
  · simp [e]
theorem valD_app (kvs ms : List (κ × D)) (j : κ) : valD (kvs ++ ms) j = (valD kvs j).or (valD ms j) := by
  induction kvs with
  | nil => rfl
  | cons kv kvs ih =>
    obtain ⟨i, y⟩ := kv
    rw [List.cons_append, valD_cons, valD_cons, ih]
    split <;> rfl
theorem valD_repl (kvs : List (κ × D)) (k j : κ) (x : D) : valD (kvs.map fun kv => if kv.1 = k then (kv.1, x) else kv) j = if j = k then (valD kvs k).map (fun _ => x) else valD kvs j := by
  induction kvs with
  | nil => rw [List.map_nil, valD_nil, valD_nil]; split <;> rfl
  | cons kv kvs ih =>
    obtain ⟨i, y⟩ := kv
    rw [List.map_cons]
    by_cases e : i = k
    · subst e
      rw [if_pos rfl, valD_cons, ih, valD_cons, valD_cons, if_pos rfl]
      by_cases e2 : i = j
      · subst e2; simp
      · rw [if_neg e2, if_neg (fun z => e2 z.symm), if_neg (fun z => e2 z.symm), if_neg e2]
    · rw [if_neg e, valD_cons, ih, valD_cons, valD_cons, if_neg e]
      by_cases e2 : i = j
      · subst e2; rw [if_pos rfl, if_neg e]; simp
      · rw [if_neg e2, if_neg e2]
theorem valD_any (kvs : List (κ × D)) (k : κ) : (kvs.any fun kv => decide (kv.1 = k)) = (valD kvs k).isSome := by
  induction kvs with
  | nil => rfl
  | cons kv kvs ih =>
    obtain ⟨i, y⟩ := kv
    rw [List.any_cons, ih, valD_cons]
    by_cases e : i = k <;> simp [e]
theorem valD_put (kvs : List (κ × D)) (k j : κ) (x : D) : valD (putD kvs k x) j = if j = k then some x else valD kvs j := by
  unfold putD
  rw [valD_any]
  split
  · next h =>
    rw [valD_repl]
    split
    · obtain ⟨y, hy⟩ := Option.isSome_iff_exists.mp h
      rw [hy]; rfl
    · rfl
  · next h =>
    rw [valD_app, valD_cons, valD_nil]
    have hn : valD kvs k = none := by simpa using h
    by_cases e : j = k
    · subst e; rw [hn]; simp
    · rw [if_neg (fun z => e z.symm), if_neg e]; simp
theorem valD_drop (kvs : List (κ × D)) (k j : κ) : valD (dropD kvs k) j = if j = k then none else valD kvs j := by
  unfold dropD
  induction kvs with
  | nil => rw [List.filter_nil, valD_nil]; split <;> rfl
  | cons kv kvs ih =>
    obtain ⟨i, y⟩ := kv
    rw [List.filter_cons]
    by_cases e : i = k
    · subst e
      simp only [ne_eq, not_true, decide_false, Bool.false_eq_true, if_false]
      rw [ih, valD_cons]
      by_cases e2 : j = i
      · subst e2; simp
      · rw [if_neg e2, if_neg e2, if_neg (fun z => e2 z.symm)]
    · simp only [ne_eq, e, not_false_eq_true, decide_true, if_true]
      rw [valD_cons, ih, valD_cons]
      by_cases e2 : i = j
      · subst e2; rw [if_pos rfl, if_pos rfl, if_neg e]
      · rw [if_neg e2, if_neg e2]
theorem valD_mem {kvs : List (κ × D)} {k : κ} {x : D} (h : valD kvs k = some x) : (k, x) ∈ kvs := by
  induction kvs with
  | nil => cases h
  | cons kv kvs ih =>
    obtain ⟨i, y⟩ := kv
    rw [valD_cons] at h
    split at h
    · next e => cases h; subst e; exact List.mem_cons_self
    · exact List.mem_cons_of_mem _ (ih h)
theorem valD_of_mem {kvs : List (κ × D)} {k : κ} {x : D} (nd : (kvs.map (·.1)).Nodup) (h : (k, x) ∈ kvs) : valD kvs k = some x := by
  induction kvs with
  | nil => cases h
  | cons kv kvs ih =>
    obtain ⟨i, y⟩ := kv
    rw [List.map_cons, List.nodup_cons] at nd
    rw [valD_cons]
    rcases List.mem_cons.mp h with e | e
    · cases e; simp
    · rw [if_neg (fun z => nd.1 (by subst z; exact List.mem_map.mpr ⟨_, e, rfl⟩))]
      exact ih nd.2 e
theorem valD_none {kvs : List (κ × D)} {k : κ} : valD kvs k = none ↔ k ∉ kvs.map (·.1) := by
  induction kvs with
  | nil => simp [valD_nil]
  | cons kv kvs ih =>
    obtain ⟨i, y⟩ := kv
    rw [valD_cons, List.map_cons, List.mem_cons]
    by_cases e : i = k
    · subst e; simp
    · have e2 : ¬ k = i := fun z => e z.symm
      rw [if_neg e, ih]
      simp [e2]
theorem keys_put (kvs : List (κ × D)) (k : κ) (x : D) : (putD kvs k x).map (·.1) = if k ∈ kvs.map (·.1) then kvs.map (·.1) else kvs.map (·.1) ++ [k] := by
  unfold putD
  rw [valD_any]
  by_cases h : k ∈ kvs.map (·.1)
  · have : (valD kvs k).isSome = true := by
      cases e : valD kvs k with
      | none => exact absurd h (valD_none.mp e)
      | some y => rfl
    rw [if_pos this, if_pos h, List.map_map]
    congr 1
    funext kv
    show (if kv.1 = k then (kv.1, x) else kv).1 = kv.1
    split <;> rfl
  · have : ¬ (valD kvs k).isSome = true := by rw [valD_none.mpr h]; simp
    rw [if_neg this, if_neg h]
    simp
theorem nodup_put {kvs : List (κ × D)} (h : (kvs.map (·.1)).Nodup) (k : κ) (x : D) : ((putD kvs k x).map (·.1)).Nodup := by
  rw [keys_put]
  split
  · exact h
  · next hn =>
    rw [List.nodup_append]
    refine ⟨h, by simp, fun a ha b hb => ?_⟩
    simp at hb
    subst hb
    exact fun e => hn (e ▸ ha)
theorem nodup_drop {kvs : List (κ × D)} (h : (kvs.map (·.1)).Nodup) (k : κ) : ((dropD kvs k).map (·.1)).Nodup := by
  unfold dropD
  exact h.sublist ((List.filter_sublist).map _)
theorem len_put (kvs : List (κ × D)) (k : κ) (x : D) : (putD kvs k x).length ≤ kvs.length + 1 := by
  unfold putD
  split <;> simp
end
end Lv

namespace Lv
open PySem PySem.Spec L2
theorem forN_inv {α : Type} {a : Addr} {c : Cell} {g : DG} {t : DS} {E : DEnds} (f : α → D) (I : List α → DSt → Om → Prop) (xs : List α)
    (hs : ∀ pre x post δ w (N C : DSt → Om → Prop), xs = pre ++ x :: post → I pre δ w → (∀ δ' w', w' a = some c → I (pre ++ [x]) δ' w' → N δ' w') → (∀ δ' w', w' a = some c → I (pre ++ [x]) δ' w' → C δ' w') → g (f x) δ fun δ1 => t ⟨N, E.rt, E.nx, C⟩ δ1 w)
    (hd : ∀ δ w, I xs δ w → E.nx δ w) : ∀ (post pre : List α), xs = pre ++ post → ∀ δ w, I pre δ w → dForGoN a c g t E (post.map f) δ w
  | [], pre, e, δ, w, h => by
    rw [List.append_nil] at e
    subst e
    exact hd δ w h
  | x :: post, pre, e, δ, w, h => by
    have e2 : xs = (pre ++ [x]) ++ post := by rw [e]; simp
    have ih := forN_inv f I xs hs hd post (pre ++ [x]) e2
    exact hs pre x post δ w _ _ e h (fun δ' w' hc h => ⟨hc, ih δ' w' h⟩) (fun δ' w' hc h => ⟨hc, ih δ' w' h⟩)
/-- a for over a named list, a walked dict -/
theorem forN_go {α : Type} {a : Addr} {c : Cell} {g : DG} {t : DS} {E : DEnds} (f : α → D) (I : List α → DSt → Om → Prop) (xs : List α) {δ : DSt} {w : Om} (h0 : I [] δ w)
    (hs : ∀ pre x post δ w (N C : DSt → Om → Prop), xs = pre ++ x :: post → I pre δ w → (∀ δ' w', w' a = some c → I (pre ++ [x]) δ' w' → N δ' w') → (∀ δ' w', w' a = some c → I (pre ++ [x]) δ' w' → C δ' w') → g (f x) δ fun δ1 => t ⟨N, E.rt, E.nx, C⟩ δ1 w)
    (hd : ∀ δ w, I xs δ w → E.nx δ w) : dForGoN a c g t E (xs.map f) δ w := forN_inv f I xs hs hd xs [] rfl δ w h0
theorem rng_nat (n : Nat) : rngD 0 n = (List.range n).map fun k : Nat => D.int k := by
  unfold rngD
  congr 1
  funext k
  rw [Int.zero_add]
theorem rng_nat' (n : Nat) : rngD 0 ((n : Int) - 0).toNat = (List.range n).map fun k : Nat => D.int k := by
  rw [← rng_nat, Int.sub_zero, Int.toNat_natCast]
theorem updW_new {w : Om} {a b : Addr} {c d : Cell} (h : w a = some c) (hn : w b = none) : updW w b d a = some c := by
  rw [updW_ne (fun z => by subst z; rw [h] at hn; cases hn)]; exact h
theorem updW_some {w : Om} {a b : Addr} {d : Cell} (h : w a ≠ none) : updW w b d a ≠ none := by
  unfold updW
  split
  · exact fun z => nomatch z
  · exact h
theorem none_upd {w : Om} {a b : Addr} {d : Cell} (h : updW w b d a = none) : w a = none ∧ a ≠ b := by
  have hne : a ≠ b := fun z => by subst z; rw [updW_same] at h; cases h
  rw [updW_ne hne] at h
  exact ⟨h, hne⟩
end Lv

namespace My
open PySem PySem.Spec L2 Lv SX
/-! ### finite maps as lists -/
section
variable {κ β : Type} [DecidableEq κ]
def fget (m : List (κ × β)) (k : κ) : Option β := (m.find? fun q => decide (q.1 = k)).map (·.2)
def fput (m : List (κ × β)) (k : κ) (v : β) : List (κ × β) := if (m.any fun q => decide (q.1 = k)) = true then m.map fun q => if q.1 = k then (q.1, v) else q else m ++ [(k, v)]
def fdrop (m : List (κ × β)) (k : κ) : List (κ × β) := m.filter fun q => decide (q.1 ≠ k)
theorem fget_nil (k : κ) : fget ([] : List (κ × β)) k = none := rfl
theorem fget_cons (i : κ) (y : β) (m : List (κ × β)) (j : κ) : fget ((i, y) :: m) j = if i = j then some y else fget m j := by
  unfold fget
  rw [List.find?_cons]
  by_cases e : i = j <;> simp [e]
theorem fget_app (m ms : List (κ × β)) (j : κ) : fget (m ++ ms) j = (fget m j).or (fget ms j) := by
  induction m with
  | nil => rfl
  | cons q m ih =>
    obtain ⟨i, y⟩ := q
    rw [List.cons_append, fget_cons, fget_cons, ih]
    split <;> rfl
theorem fget_any (m : List (κ × β)) (k : κ) : (m.any fun q => decide (q.1 = k)) = (fget m k).isSome := by
  induction m with
  | nil => rfl
  | cons q m ih =>
    obtain ⟨i, y⟩ := q
    rw [List.any_cons, ih, fget_cons]
    by_cases e : i = k <;> simp [e]
theorem fget_repl (m : List (κ × β)) (k j : κ) (x : β) : fget (m.map fun q => if q.1 = k then (q.1, x) else q) j = if j = k then (fget m k).map (fun _ => x) else fget m j := by
  induction m with
  | nil => rw [List.map_nil, fget_nil, fget_nil]; split <;> rfl
  | cons q m ih =>
    obtain ⟨i, y⟩ := q
    rw [List.map_cons]
    by_cases e : i = k
    · subst e
      rw [if_pos rfl, fget_cons, ih, fget_cons, fget_cons, if_pos rfl]
      by_cases e2 : i = j
      · subst e2; simp
      · rw [if_neg e2, if_neg (fun z => e2 z.symm), if_neg (fun z => e2 z.symm), if_neg e2]
    · rw [if_neg e, fget_cons, ih, fget_cons, fget_cons, if_neg e]
      by_cases e2 : i = j
      · subst e2; rw [if_pos rfl, if_neg e]; simp
      · rw [if_neg e2, if_neg e2]
theorem fget_put (m : List (κ × β)) (k j : κ) (x : β) : fget (fput m k x) j = if j = k then some x else fget m j := by
  unfold fput
  rw [fget_any]
  split
  · next h =>
    rw [fget_repl]
    split
    · obtain ⟨y, hy⟩ := Option.isSome_iff_exists.mp h
      rw [hy]; rfl
    · rfl
  · next h =>
    rw [fget_app, fget_cons, fget_nil]
    have hn : fget m k = none := by simpa using h
    by_cases e : j = k
    · subst e; rw [hn]; simp
    · rw [if_neg (fun z => e z.symm), if_neg e]; simp
theorem fget_drop (m : List (κ × β)) (k j : κ) : fget (fdrop m k) j = if j = k then none else fget m j := by
  unfold fdrop
  induction m with
  | nil => rw [List.filter_nil, fget_nil]; split <;> rfl
  | cons q m ih =>
    obtain ⟨i, y⟩ := q
    rw [List.filter_cons]
    by_cases e : i = k
    · subst e
      simp only [ne_eq, not_true, decide_false, Bool.false_eq_true, if_false]
      rw [ih, fget_cons]
      by_cases e2 : j = i
      · subst e2; simp
      · rw [if_neg e2, if_neg e2, if_neg (fun z => e2 z.symm)]
    · simp only [ne_eq, e, not_false_eq_true, decide_true, if_true]
      rw [fget_cons, ih, fget_cons]
      by_cases e2 : i = j
      · subst e2; rw [if_pos rfl, if_pos rfl, if_neg e]
      · rw [if_neg e2, if_neg e2]
theorem fget_none {m : List (κ × β)} {k : κ} : fget m k = none ↔ k ∉ m.map (·.1) := by
  induction m with
  | nil => simp [fget_nil]
  | cons q m ih =>
    obtain ⟨i, y⟩ := q
    rw [fget_cons, List.map_cons, List.mem_cons]
    by_cases e : i = k
    · subst e; simp
    · have e2 : ¬ k = i := fun z => e z.symm
      rw [if_neg e, ih]
      simp [e2]
theorem fget_mem {m : List (κ × β)} {k : κ} {x : β} (h : fget m k = some x) : (k, x) ∈ m := by
  induction m with
  | nil => cases h
  | cons q m ih =>
    obtain ⟨i, y⟩ := q
    rw [fget_cons] at h
    split at h
    · next e => cases h; subst e; exact List.mem_cons_self
    · exact List.mem_cons_of_mem _ (ih h)
theorem fget_of_mem {m : List (κ × β)} {k : κ} {x : β} (nd : (m.map (·.1)).Nodup) (h : (k, x) ∈ m) : fget m k = some x := by
  induction m with
  | nil => cases h
  | cons q m ih =>
    obtain ⟨i, y⟩ := q
    rw [List.map_cons, List.nodup_cons] at nd
    rw [fget_cons]
    rcases List.mem_cons.mp h with e | e
    · cases e; simp
    · rw [if_neg (fun z => nd.1 (by subst z; exact List.mem_map.mpr ⟨_, e, rfl⟩))]
      exact ih nd.2 e
theorem fkeys_put (m : List (κ × β)) (k : κ) (x : β) : (fput m k x).map (·.1) = if k ∈ m.map (·.1) then m.map (·.1) else m.map (·.1) ++ [k] := by
  unfold fput
  rw [fget_any]
  by_cases h : k ∈ m.map (·.1)
  · have : (fget m k).isSome = true := by
      cases e : fget m k with
      | none => exact absurd h (fget_none.mp e)
      | some y => rfl
    rw [if_pos this, if_pos h, List.map_map]
    congr 1
    funext q
    show (if q.1 = k then (q.1, x) else q).1 = q.1
    split <;> rfl
  · have : ¬ (fget m k).isSome = true := by rw [fget_none.mpr h]; simp
    rw [if_neg this, if_neg h]
    simp
theorem fnodup_put {m : List (κ × β)} (h : (m.map (·.1)).Nodup) (k : κ) (x : β) : ((fput m k x).map (·.1)).Nodup := by
  rw [fkeys_put]
  split
  · exact h
  · next hn =>
    rw [List.nodup_append]
    refine ⟨h, by simp, fun a ha b hb => ?_⟩
    simp at hb
    subst hb
    exact fun e => hn (e ▸ ha)
theorem fnodup_drop {m : List (κ × β)} (h : (m.map (·.1)).Nodup) (k : κ) : ((fdrop m k).map (·.1)).Nodup := by
  unfold fdrop
  exact h.sublist ((List.filter_sublist).map _)
theorem flen_put (m : List (κ × β)) (k : κ) (x : β) : (fput m k x).length ≤ m.length + 1 := by
  unfold fput
  split <;> simp
theorem flen_drop (m : List (κ × β)) (k : κ) : (fdrop m k).length ≤ m.length := List.length_filter_le _ _
/-- such a map as a dict -/
def fD {κ' : Type} (f : κ → κ') (g : β → D) (m : List (κ × β)) : List (κ' × D) := m.map fun q => (f q.1, g q.2)
variable {κ' : Type} [DecidableEq κ'] {f : κ → κ'} {g : β → D}
theorem fD_val (hf : ∀ a b, f a = f b → a = b) (m : List (κ × β)) (k : κ) : valD (fD f g m) (f k) = (fget m k).map g := by
  unfold fD
  induction m with
  | nil => rfl
  | cons q m ih =>
    obtain ⟨i, y⟩ := q
    rw [List.map_cons, valD_cons, fget_cons, ih]
    by_cases e : i = k
    · subst e; simp
    · rw [if_neg e, if_neg (fun z => e (hf _ _ z))]
theorem fD_put (hf : ∀ a b, f a = f b → a = b) (m : List (κ × β)) (k : κ) (v : β) : putD (fD f g m) (f k) (g v) = fD f g (fput m k v) := by
  unfold putD fput
  rw [valD_any, fget_any, fD_val hf]
  have e : ((fget m k).map g).isSome = (fget m k).isSome := by cases fget m k <;> rfl
  rw [e]
  split
  · unfold fD
    rw [List.map_map, List.map_map]
    congr 1
    funext q
    show (if f q.1 = f k then (f q.1, g v) else (f q.1, g q.2)) = (f (if q.1 = k then (q.1, v) else q).1, g (if q.1 = k then (q.1, v) else q).2)
    by_cases h : q.1 = k
    · rw [if_pos h, if_pos (by rw [h])]
    · rw [if_neg h, if_neg (fun z => h (hf _ _ z))]
  · simp [fD]
theorem fD_drop (hf : ∀ a b, f a = f b → a = b) (m : List (κ × β)) (k : κ) : dropD (fD f g m) (f k) = fD f g (fdrop m k) := by
  unfold dropD fdrop fD
  rw [List.filter_map]
  congr 1
  refine List.filter_congr fun q _ => ?_
  show decide (f q.1 ≠ f k) = decide (q.1 ≠ k)
  rw [decide_eq_decide]
  exact ⟨fun h z => h (by rw [z]), fun h z => h (hf _ _ z)⟩
theorem fD_len (m : List (κ × β)) : (fD f g m).length = m.length := by simp [fD]
end
theorem inl_inj (a b : Int) (h : (Sum.inl a : Key) = Sum.inl b) : a = b := Sum.inl.inj h

/-! ### Rooms: what an object holds -/
abbrev Kn := List (Int × Nat)
def kvD (m : Kn) : List (Key × D) := fD (fun s : Int => (Sum.inl s : Key)) (fun n : Nat => D.int n) m
theorem kv_val (m : Kn) (s : Int) : valD (kvD m) (.inl s) = (fget m s).map fun n : Nat => D.int n := fD_val inl_inj m s
theorem kv_put (m : Kn) (s : Int) (n : Nat) : putD (kvD m) (.inl s) (.int n) = kvD (fput m s n) := fD_put inl_inj m s n
theorem kv_drop (m : Kn) (s : Int) : dropD (kvD m) (.inl s) = kvD (fdrop m s) := fD_drop inl_inj m s
theorem kv_len (m : Kn) : (kvD m).length = m.length := fD_len m
structure RS where
  l : Nat
  el : List Nat
  kn : List Kn
  told : List D
def nL (t : List Nat) : D := .lst (t.map fun n : Nat => D.int n)
def rmF (l m : Nat) (e k t : Addr) : List (Str × D) := [("letters", .int l), ("made", .int m), ("elders", .ref e), ("known", .ref k), ("told", .ref t)]
theorem s_lm : (("made" : Str) == "letters") = false := by decide +kernel
theorem s_el : (("elders" : Str) == "letters") = false := by decide +kernel
theorem s_em : (("elders" : Str) == "made") = false := by decide +kernel
theorem s_kl : (("known" : Str) == "letters") = false := by decide +kernel
theorem s_km : (("known" : Str) == "made") = false := by decide +kernel
theorem s_ke : (("known" : Str) == "elders") = false := by decide +kernel
theorem s_tl : (("told" : Str) == "letters") = false := by decide +kernel
theorem s_tm : (("told" : Str) == "made") = false := by decide +kernel
theorem s_te : (("told" : Str) == "elders") = false := by decide +kernel
theorem s_tk : (("told" : Str) == "known") = false := by decide +kernel
theorem rmF_letters (l m : Nat) (e k t : Addr) : (rmF l m e k t).lookup ("letters" : Str) = some (.int l) := by simp [rmF, List.lookup]
theorem rmF_made (l m : Nat) (e k t : Addr) : (rmF l m e k t).lookup ("made" : Str) = some (.int m) := by simp [rmF, List.lookup, s_lm]
theorem rmF_elders (l m : Nat) (e k t : Addr) : (rmF l m e k t).lookup ("elders" : Str) = some (.ref e) := by simp [rmF, List.lookup, s_el, s_em]
theorem rmF_known (l m : Nat) (e k t : Addr) : (rmF l m e k t).lookup ("known" : Str) = some (.ref k) := by simp [rmF, List.lookup, s_kl, s_km, s_ke]
theorem rmF_told (l m : Nat) (e k t : Addr) : (rmF l m e k t).lookup ("told" : Str) = some (.ref t) := by simp [rmF, List.lookup, s_tl, s_tm, s_te, s_tk]
theorem rmF_no {l m : Nat} {e k t : Addr} {f : Str} (h : (f == "letters") = false ∧ (f == "made") = false ∧ (f == "elders") = false ∧ (f == "known") = false ∧ (f == "told") = false) : (rmF l m e k t).lookup f = none := by
  obtain ⟨h1, h2, h3, h4, h5⟩ := h
  simp [rmF, List.lookup, h1, h2, h3, h4, h5]
theorem no_make (l m : Nat) (e k t : Addr) : (rmF l m e k t).lookup ("make" : Str) = none := rmF_no (by decide +kernel)
theorem no_lay (l m : Nat) (e k t : Addr) : (rmF l m e k t).lookup ("lay" : Str) = none := rmF_no (by decide +kernel)
theorem no_tie (l m : Nat) (e k t : Addr) : (rmF l m e k t).lookup ("tie" : Str) = none := rmF_no (by decide +kernel)
theorem no_put (l m : Nat) (e k t : Addr) : (rmF l m e k t).lookup ("put_together" : Str) = none := rmF_no (by decide +kernel)
theorem no_by (l m : Nat) (e k t : Addr) : (rmF l m e k t).lookup ("by" : Str) = none := rmF_no (by decide +kernel)
theorem no_elder (l m : Nat) (e k t : Addr) : (rmF l m e k t).lookup ("elder" : Str) = none := rmF_no (by decide +kernel)
theorem no_standing (l m : Nat) (e k t : Addr) : (rmF l m e k t).lookup ("standing" : Str) = none := rmF_no (by decide +kernel)
theorem no_paper (l m : Nat) (e k t : Addr) : (rmF l m e k t).lookup ("paper" : Str) = none := rmF_no (by decide +kernel)
theorem rmF_putMade (l m m' : Nat) (e k t : Addr) : putFD "made" (.int m') (rmF l m e k t) = rmF l m' e k t := by
  have h : ¬ (("letters" : Str) = "made") := by decide +kernel
  unfold rmF
  rw [putFD, if_neg h, putFD, if_pos rfl]
/-- the parts of an object -/
structure RP where
  e : Addr
  k : Addr
  t : Addr
  ks : List Addr
def RP.fp (r : RP) (p : Addr) : List Addr := p :: r.e :: r.k :: r.t :: r.ks
/-- at p stands a Rooms that holds S -/
structure Rm (w : Om) (p : Addr) (r : RP) (S : RS) : Prop where
  ins : w p = some (.ins "Rooms" (rmF S.l S.el.length r.e r.k r.t))
  el : w r.e = some (.lst (S.el.map fun n : Nat => D.int n))
  kl : w r.k = some (.lst (r.ks.map D.ref))
  td : w r.t = some (.lst S.told)
  kn : ∀ (i : Nat) (a : Addr) (m : Kn), r.ks[i]? = some a → S.kn[i]? = some m → w a = some (.dK (kvD m))
  len : r.ks.length = S.kn.length
  len2 : S.kn.length = S.el.length
  nd : (r.fp p).Nodup
theorem Rm.there {w : Om} {p : Addr} {r : RP} {S : RS} (h : Rm w p r S) : ∀ b ∈ r.fp p, w b ≠ none := by
  intro b hb
  unfold RP.fp at hb
  simp only [List.mem_cons] at hb
  rcases hb with e | e | e | e | e
  · subst e; rw [h.ins]; exact fun z => nomatch z
  · subst e; rw [h.el]; exact fun z => nomatch z
  · subst e; rw [h.kl]; exact fun z => nomatch z
  · subst e; rw [h.td]; exact fun z => nomatch z
  · obtain ⟨i, hi⟩ := List.mem_iff_getElem?.mp e
    have hl := (List.getElem?_eq_some_iff.mp hi).1
    rw [h.kn i b _ hi (List.getElem?_eq_getElem (by rw [← h.len]; exact hl))]
    exact fun z => nomatch z
/-- another world that is the same there -/
theorem Rm.same {w w' : Om} {p : Addr} {r : RP} {S : RS} (h : Rm w p r S) (e : ∀ b ∈ r.fp p, w' b = w b) : Rm w' p r S where
  ins := by rw [e p (by simp [RP.fp])]; exact h.ins
  el := by rw [e r.e (by simp [RP.fp])]; exact h.el
  kl := by rw [e r.k (by simp [RP.fp])]; exact h.kl
  td := by rw [e r.t (by simp [RP.fp])]; exact h.td
  kn := fun i a m hi hm => by rw [e a (by simp [RP.fp, List.mem_of_getElem? hi])]; exact h.kn i a m hi hm
  len := h.len
  len2 := h.len2
  nd := h.nd
/-- what a deed at p does to the rest: nothing -/
structure Fr (w w' : Om) (fp fp' : List Addr) : Prop where
  out : ∀ b, b ∉ fp → w b ≠ none → w' b = w b
  new : ∀ b ∈ fp', b ∈ fp ∨ w b = none
theorem Fr.refl (w : Om) (fp : List Addr) : Fr w w fp fp := ⟨fun _ _ _ => rfl, fun _ h => .inl h⟩
theorem Fr.trans {w w' w'' : Om} {fp fp' fp'' : List Addr} (a : Fr w w' fp fp') (b : Fr w' w'' fp' fp'') : Fr w w'' fp fp'' where
  out := fun c hc hn => by
    have h1 := a.out c hc hn
    have : c ∉ fp' := fun z => (a.new c z).elim hc hn
    rw [b.out c this (by rw [h1]; exact hn), h1]
  new := fun c hc => by
    rcases b.new c hc with h | h
    · exact a.new c h
    · by_cases hf : c ∈ fp
      · exact .inl hf
      · by_cases hn : w c = none
        · exact .inr hn
        · rw [a.out c hf hn] at h; exact absurd h hn
/-- a second object is not touched -/
theorem Fr.other {w w' : Om} {fp fp' : List Addr} (a : Fr w w' fp fp') {p : Addr} {r : RP} {S : RS} (h : Rm w p r S) (d : ∀ b ∈ r.fp p, b ∉ fp) : Rm w' p r S ∧ ∀ b ∈ r.fp p, b ∉ fp' :=
  ⟨h.same fun b hb => a.out b (d b hb) (h.there b hb), fun b hb z => (a.new b z).elim (d b hb) (h.there b hb)⟩
theorem Fr.cell {w w' : Om} {fp fp' : List Addr} (a : Fr w w' fp fp') {b : Addr} {c : Cell} (h : w b = some c) (d : b ∉ fp) : w' b = some c ∧ b ∉ fp' :=
  ⟨by rw [a.out b d (by rw [h]; exact fun z => nomatch z)]; exact h, fun z => (a.new b z).elim d (by rw [h]; exact fun z => nomatch z)⟩
theorem set_kn {α : Type} {l : List α} {i j : Nat} {x y : α} (h : (l.set i x)[j]? = some y) : (i = j ∧ y = x) ∨ (i ≠ j ∧ l[j]? = some y) := get_set h
def newR (room : Nat) (step : Int) (n : Nat) : D := .tup [.str "new", .int room, .int step, .int n]
def RS.mk1 (S : RS) (room : Nat) (step : Int) : RS :=
  { S with el := S.el ++ [S.el.length], kn := S.kn.set room (fput ((S.kn[room]?).getD []) step S.el.length) ++ [[(-step, room)]], told := S.told ++ [newR room step S.el.length] }
def T_Rooms_init : DSp := fun ds w P => ∃ (p : Addr) (l : Nat), ds = [.ref p, .int l] ∧ w p = some (.ins "Rooms" []) ∧ ∀ w' r, Rm w' p r ⟨l, [0], [[]], []⟩ → Fr w w' [p] (r.fp p) → P false .non w'
theorem len_Rooms_init (ds : List D) (w : Om) (P : Bool → D → Om → Prop) (h : T_Rooms_init ds w P) : ds.length = 2 := by first | (have h := h.1; subst h; rfl) | (obtain ⟨rfl, _⟩ := h; rfl) | (obtain ⟨_, rfl, _⟩ := h; rfl) | (obtain ⟨_, _, rfl, _⟩ := h; rfl) | (obtain ⟨_, _, _, rfl, _⟩ := h; rfl) | (obtain ⟨_, _, _, _, rfl, _⟩ := h; rfl) | (obtain ⟨_, _, _, _, _, rfl, _⟩ := h; rfl) | (obtain ⟨_, _, _, _, _, _, rfl, _⟩ := h; rfl) | (obtain ⟨_, _, _, _, _, _, _, rfl, _⟩ := h; rfl) | (obtain ⟨_, _, _, _, _, _, _, _, rfl, _⟩ := h; rfl) | (obtain ⟨_, _, _, _, _, _, _, _, _, rfl, _⟩ := h; rfl) | (obtain ⟨_, _, _, _, _, _, _, _, _, _, rfl, _⟩ := h; rfl) | (obtain ⟨_, _, _, _, _, _, _, _, _, _, _, rfl, _⟩ := h; rfl)
def b_Rooms_init : DS := (dSeq (dFldS false "Rooms" "letters" (dVarR 0) (dVar 1))
    (dSeq (dFldS false "Rooms" "made" (dVarR 0) (dC (.int 1)))
    (dSeq (dFldS true "Rooms" "elders" (dVarR 0) (dLst (dCons (dC (.int 0)) dNil)))
    (dSeq (dFldS true "Rooms" "known" (dVarR 0) (dLst (dConsN dDicK dNil)))
    (dFldS true "Rooms" "told" (dVarR 0) (dLst dNil))))))
theorem v_Rooms_init (ds : List D) (w : Om) (P : Bool → D → Om → Prop) (h : T_Rooms_init ds w P) : b_Rooms_init { nx := fun _ w => P false .non w, rt := P } (startD ["self", "letters"] ds) w := by
  unfold b_Rooms_init
  obtain ⟨p, l, rfl, hp, q⟩ := h
  have hs := sizeLine_eq
  have n1 : ¬ (("letters" : Str) = "made") := by decide +kernel
  have n2 : ¬ (("letters" : Str) = "elders") := by decide +kernel
  have n3 : ¬ (("made" : Str) = "elders") := by decide +kernel
  have n4 : ¬ (("letters" : Str) = "known") := by decide +kernel
  have n5 : ¬ (("made" : Str) = "known") := by decide +kernel
  have n6 : ¬ (("elders" : Str) = "known") := by decide +kernel
  have n7 : ¬ (("letters" : Str) = "told") := by decide +kernel
  have n8 : ¬ (("made" : Str) = "told") := by decide +kernel
  have n9 : ¬ (("elders" : Str) = "told") := by decide +kernel
  have n10 : ¬ (("known" : Str) = "told") := by decide +kernel
  refine seq_i ?_
  try simp -implicitDefEqProofs only [dNext, dSet, dLst, dTup, dNil, dCons, dFor, dRng1_u, dRng2_u, dIt_u, oX, dC, dBin, dUn, dVarR, dVar, dApp, dExt, dUpd0, dPut, dAug, dRet, dRetV, dRetN, dBreak, dCont, dIf, dB_u, dTru_u, dTNot, dTAnd, dTOr, dAndV_u, dOrV_u, dNotV_u, dIfX, dChain_u, dCall, dSl, dNoP, dP_u, dLc, dDrop, dFrz, frzD, dAsg, dDicK, dDicT, gN, gT, gsC, gsN, kB.eq_1, kT.eq_1, kT.eq_2, kT.eq_3, kT.eq_4, kT.eq_5, kT.eq_6, kT.eq_7, kT.eq_8, kAnd.eq_1, kOr.eq_1, kNot.eq_1, kIt.eq_1, kIt.eq_2, kIt.eq_3, kIt.eq_4, kP.eq_1, kR1.eq_1, kR2.eq_1, sAdd.eq_1, sAdd.eq_2, sAdd.eq_3, sAdd.eq_4, sJ2.eq_1, sI2.eq_1, sPow, sLt.eq_1, sLt.eq_2, sLe, sGt, sGe, sMul.eq_1, sMul.eq_2, sMulB.eq_1, sMulB.eq_2, sMulB.eq_3, sLR1.eq_1, sLR2.eq_1, sTR1.eq_1, sTR2.eq_1, sIsBl.eq_1, dZip, kZip.eq_1, dDisp1, dSetN, dConsN, dAppN, dPutN, dFld, dFldS, dFldAug, dMeth, dMake, dGet1, dGet2, dDPop, dLPop, dLPopAt, dLClear, dEnum, kEnum.eq_1, dRng3, kR3.eq_1, dForN, dForKeys, dForItems, dLock, lkE, dBack, kNm_f, kNm_t, nmK_f, nmK_lst, nmK_dK, nmK_dT, isDct_dK, isDct_dT, isDct_fK, isDct_fT, sGetO_K, sGetO_S, sGetO_T, sGetO_fK, sGetO_fT, sIn_K, sIn_fK, sIn_T, sIn_fT, sPutC_lst, sPutC_K, sPutC_S, sPutC_T, keyOf_int, keyOf_str, keysC.eq_1, keysC.eq_2, itemsC.eq_1, rs_ref, rs_non, rs_bl, rs_int, rs_str, rs_ty, rs_lst, rs_tup, rs_dK, rs_dT, rs_scr, rs_wD, rs_iD, rs_lwD, resC_lst, resC_dK, resC_dT, resC_fK, resC_fT, resC_ins, updW_same, putFD.eq_1, putFD.eq_2, isL.eq_1, isL.eq_2, sNeg.eq_1, sLen.eq_1, sLen.eq_2, sLen.eq_3, sLen.eq_4, sLen.eq_5, sAbs.eq_1, sMax, sMin, sInt.eq_1, sInt.eq_2, sStr.eq_1, sList.eq_1, sList.eq_2, sList.eq_3, sTuple.eq_1, sTuple.eq_2, sTuple.eq_3, sIsN, sNotN, sIx.eq_1, sIx.eq_2, sIx.eq_3, sIx.eq_4, sIx.eq_5, sIx.eq_6, sIx.eq_7, sIx.eq_8, sIx.eq_9, sSl.eq_1, sSl.eq_2, sSl.eq_3, sSl.eq_4, sRev.eq_1, sRev.eq_2, sRev.eq_3, sAddI.eq_1, sAddI.eq_2, sPut.eq_1, sPut.eq_2, sPut.eq_3, sPut.eq_4, D.isNon, sEq_ii, sNe_ii, sEq_ww, sNe_ww, sEq_ll, sNe_ll, sIsi_ii, sIsi_ib, sIsi_ll, sIsi_tt, sIsi_ss, sEq_w, sEq_i, sEq_lw, sEq_lw', sEq_lle, sEq_lle', sNe_w, sNe_i, sNe_lle', sNe_lw', sEq_ss, sNe_ss, sEq_bb, sNe_bb, sIn_iw, sIn_ii, sIn_wl, sIn_wl', sSl3.eq_1, sSl3.eq_2, dSl3, isS.eq_1, isL.eq_1, isL.eq_2, isA.eq_1, dM0, dM1, sUpper.eq_1, sLower.eq_1, sStrip1.eq_1, sSfind.eq_1, sScount.eq_1, sSindex.eq_1, sSsplit.eq_1, sSjoin.eq_1, sSjoin.eq_2, fPop_snoc, fPop_snoc', startD, wipeD, List.map_cons, List.map_nil, List.length_cons, List.length_nil, List.length_map, List.cons_append, List.nil_append, List.replicate, List.set_cons_zero, List.set_cons_succ, List.set_nil, List.getElem?_cons_zero, List.getElem?_cons_succ, Bool.true_and, Bool.and_true, Bool.and_false, Bool.false_and, Bool.not_true, Bool.not_false, if_true, if_false, Bool.false_eq_true, reduceIte, and_true, true_and, decide_true, decide_false, not_true, Option.map_none, Option.map_some, Option.getD_none, Option.getD_some, Option.isSome_none, Option.isSome_some, Nat.zero_le, Nat.zero_add, Nat.reduceAdd, Nat.reduceSub, D.scal, Option.some.injEq, exists_eq_left', exists_eq_left, exists_eq', D.int.injEq, D.lst.injEq, D.tup.injEq, D.scr.injEq, D.str.injEq, List.cons.injEq, and_self]
  refine ⟨p, [], rfl, hp, by simp [sizeLine_eq], ?_⟩
  refine seq_i ?_
  try simp -implicitDefEqProofs only [dNext, dSet, dLst, dTup, dNil, dCons, dFor, dRng1_u, dRng2_u, dIt_u, oX, dC, dBin, dUn, dVarR, dVar, dApp, dExt, dUpd0, dPut, dAug, dRet, dRetV, dRetN, dBreak, dCont, dIf, dB_u, dTru_u, dTNot, dTAnd, dTOr, dAndV_u, dOrV_u, dNotV_u, dIfX, dChain_u, dCall, dSl, dNoP, dP_u, dLc, dDrop, dFrz, frzD, dAsg, dDicK, dDicT, gN, gT, gsC, gsN, kB.eq_1, kT.eq_1, kT.eq_2, kT.eq_3, kT.eq_4, kT.eq_5, kT.eq_6, kT.eq_7, kT.eq_8, kAnd.eq_1, kOr.eq_1, kNot.eq_1, kIt.eq_1, kIt.eq_2, kIt.eq_3, kIt.eq_4, kP.eq_1, kR1.eq_1, kR2.eq_1, sAdd.eq_1, sAdd.eq_2, sAdd.eq_3, sAdd.eq_4, sJ2.eq_1, sI2.eq_1, sPow, sLt.eq_1, sLt.eq_2, sLe, sGt, sGe, sMul.eq_1, sMul.eq_2, sMulB.eq_1, sMulB.eq_2, sMulB.eq_3, sLR1.eq_1, sLR2.eq_1, sTR1.eq_1, sTR2.eq_1, sIsBl.eq_1, dZip, kZip.eq_1, dDisp1, dSetN, dConsN, dAppN, dPutN, dFld, dFldS, dFldAug, dMeth, dMake, dGet1, dGet2, dDPop, dLPop, dLPopAt, dLClear, dEnum, kEnum.eq_1, dRng3, kR3.eq_1, dForN, dForKeys, dForItems, dLock, lkE, dBack, kNm_f, kNm_t, nmK_f, nmK_lst, nmK_dK, nmK_dT, isDct_dK, isDct_dT, isDct_fK, isDct_fT, sGetO_K, sGetO_S, sGetO_T, sGetO_fK, sGetO_fT, sIn_K, sIn_fK, sIn_T, sIn_fT, sPutC_lst, sPutC_K, sPutC_S, sPutC_T, keyOf_int, keyOf_str, keysC.eq_1, keysC.eq_2, itemsC.eq_1, rs_ref, rs_non, rs_bl, rs_int, rs_str, rs_ty, rs_lst, rs_tup, rs_dK, rs_dT, rs_scr, rs_wD, rs_iD, rs_lwD, resC_lst, resC_dK, resC_dT, resC_fK, resC_fT, resC_ins, updW_same, putFD.eq_1, putFD.eq_2, isL.eq_1, isL.eq_2, sNeg.eq_1, sLen.eq_1, sLen.eq_2, sLen.eq_3, sLen.eq_4, sLen.eq_5, sAbs.eq_1, sMax, sMin, sInt.eq_1, sInt.eq_2, sStr.eq_1, sList.eq_1, sList.eq_2, sList.eq_3, sTuple.eq_1, sTuple.eq_2, sTuple.eq_3, sIsN, sNotN, sIx.eq_1, sIx.eq_2, sIx.eq_3, sIx.eq_4, sIx.eq_5, sIx.eq_6, sIx.eq_7, sIx.eq_8, sIx.eq_9, sSl.eq_1, sSl.eq_2, sSl.eq_3, sSl.eq_4, sRev.eq_1, sRev.eq_2, sRev.eq_3, sAddI.eq_1, sAddI.eq_2, sPut.eq_1, sPut.eq_2, sPut.eq_3, sPut.eq_4, D.isNon, sEq_ii, sNe_ii, sEq_ww, sNe_ww, sEq_ll, sNe_ll, sIsi_ii, sIsi_ib, sIsi_ll, sIsi_tt, sIsi_ss, sEq_w, sEq_i, sEq_lw, sEq_lw', sEq_lle, sEq_lle', sNe_w, sNe_i, sNe_lle', sNe_lw', sEq_ss, sNe_ss, sEq_bb, sNe_bb, sIn_iw, sIn_ii, sIn_wl, sIn_wl', sSl3.eq_1, sSl3.eq_2, dSl3, isS.eq_1, isL.eq_1, isL.eq_2, isA.eq_1, dM0, dM1, sUpper.eq_1, sLower.eq_1, sStrip1.eq_1, sSfind.eq_1, sScount.eq_1, sSindex.eq_1, sSsplit.eq_1, sSjoin.eq_1, sSjoin.eq_2, fPop_snoc, fPop_snoc', startD, wipeD, List.map_cons, List.map_nil, List.length_cons, List.length_nil, List.length_map, List.cons_append, List.nil_append, List.replicate, List.set_cons_zero, List.set_cons_succ, List.set_nil, List.getElem?_cons_zero, List.getElem?_cons_succ, Bool.true_and, Bool.and_true, Bool.and_false, Bool.false_and, Bool.not_true, Bool.not_false, if_true, if_false, Bool.false_eq_true, reduceIte, and_true, true_and, decide_true, decide_false, not_true, Option.map_none, Option.map_some, Option.getD_none, Option.getD_some, Option.isSome_none, Option.isSome_some, Nat.zero_le, Nat.zero_add, Nat.reduceAdd, Nat.reduceSub, D.scal, Option.some.injEq, exists_eq_left', exists_eq_left, exists_eq', D.int.injEq, D.lst.injEq, D.tup.injEq, D.scr.injEq, D.str.injEq, List.cons.injEq, and_self]
  refine ⟨p, _, rfl, updW_same, by simp, ?_⟩
  rw [updW_twice]
  refine seq_i ?_
  try simp -implicitDefEqProofs only [dNext, dSet, dLst, dTup, dNil, dCons, dFor, dRng1_u, dRng2_u, dIt_u, oX, dC, dBin, dUn, dVarR, dVar, dApp, dExt, dUpd0, dPut, dAug, dRet, dRetV, dRetN, dBreak, dCont, dIf, dB_u, dTru_u, dTNot, dTAnd, dTOr, dAndV_u, dOrV_u, dNotV_u, dIfX, dChain_u, dCall, dSl, dNoP, dP_u, dLc, dDrop, dFrz, frzD, dAsg, dDicK, dDicT, gN, gT, gsC, gsN, kB.eq_1, kT.eq_1, kT.eq_2, kT.eq_3, kT.eq_4, kT.eq_5, kT.eq_6, kT.eq_7, kT.eq_8, kAnd.eq_1, kOr.eq_1, kNot.eq_1, kIt.eq_1, kIt.eq_2, kIt.eq_3, kIt.eq_4, kP.eq_1, kR1.eq_1, kR2.eq_1, sAdd.eq_1, sAdd.eq_2, sAdd.eq_3, sAdd.eq_4, sJ2.eq_1, sI2.eq_1, sPow, sLt.eq_1, sLt.eq_2, sLe, sGt, sGe, sMul.eq_1, sMul.eq_2, sMulB.eq_1, sMulB.eq_2, sMulB.eq_3, sLR1.eq_1, sLR2.eq_1, sTR1.eq_1, sTR2.eq_1, sIsBl.eq_1, dZip, kZip.eq_1, dDisp1, dSetN, dConsN, dAppN, dPutN, dFld, dFldS, dFldAug, dMeth, dMake, dGet1, dGet2, dDPop, dLPop, dLPopAt, dLClear, dEnum, kEnum.eq_1, dRng3, kR3.eq_1, dForN, dForKeys, dForItems, dLock, lkE, dBack, kNm_f, kNm_t, nmK_f, nmK_lst, nmK_dK, nmK_dT, isDct_dK, isDct_dT, isDct_fK, isDct_fT, sGetO_K, sGetO_S, sGetO_T, sGetO_fK, sGetO_fT, sIn_K, sIn_fK, sIn_T, sIn_fT, sPutC_lst, sPutC_K, sPutC_S, sPutC_T, keyOf_int, keyOf_str, keysC.eq_1, keysC.eq_2, itemsC.eq_1, rs_ref, rs_non, rs_bl, rs_int, rs_str, rs_ty, rs_lst, rs_tup, rs_dK, rs_dT, rs_scr, rs_wD, rs_iD, rs_lwD, resC_lst, resC_dK, resC_dT, resC_fK, resC_fT, resC_ins, updW_same, putFD.eq_1, putFD.eq_2, isL.eq_1, isL.eq_2, sNeg.eq_1, sLen.eq_1, sLen.eq_2, sLen.eq_3, sLen.eq_4, sLen.eq_5, sAbs.eq_1, sMax, sMin, sInt.eq_1, sInt.eq_2, sStr.eq_1, sList.eq_1, sList.eq_2, sList.eq_3, sTuple.eq_1, sTuple.eq_2, sTuple.eq_3, sIsN, sNotN, sIx.eq_1, sIx.eq_2, sIx.eq_3, sIx.eq_4, sIx.eq_5, sIx.eq_6, sIx.eq_7, sIx.eq_8, sIx.eq_9, sSl.eq_1, sSl.eq_2, sSl.eq_3, sSl.eq_4, sRev.eq_1, sRev.eq_2, sRev.eq_3, sAddI.eq_1, sAddI.eq_2, sPut.eq_1, sPut.eq_2, sPut.eq_3, sPut.eq_4, D.isNon, sEq_ii, sNe_ii, sEq_ww, sNe_ww, sEq_ll, sNe_ll, sIsi_ii, sIsi_ib, sIsi_ll, sIsi_tt, sIsi_ss, sEq_w, sEq_i, sEq_lw, sEq_lw', sEq_lle, sEq_lle', sNe_w, sNe_i, sNe_lle', sNe_lw', sEq_ss, sNe_ss, sEq_bb, sNe_bb, sIn_iw, sIn_ii, sIn_wl, sIn_wl', sSl3.eq_1, sSl3.eq_2, dSl3, isS.eq_1, isL.eq_1, isL.eq_2, isA.eq_1, dM0, dM1, sUpper.eq_1, sLower.eq_1, sStrip1.eq_1, sSfind.eq_1, sScount.eq_1, sSindex.eq_1, sSsplit.eq_1, sSjoin.eq_1, sSjoin.eq_2, fPop_snoc, fPop_snoc', startD, wipeD, List.map_cons, List.map_nil, List.length_cons, List.length_nil, List.length_map, List.cons_append, List.nil_append, List.replicate, List.set_cons_zero, List.set_cons_succ, List.set_nil, List.getElem?_cons_zero, List.getElem?_cons_succ, Bool.true_and, Bool.and_true, Bool.and_false, Bool.false_and, Bool.not_true, Bool.not_false, if_true, if_false, Bool.false_eq_true, reduceIte, and_true, true_and, decide_true, decide_false, not_true, Option.map_none, Option.map_some, Option.getD_none, Option.getD_some, Option.isSome_none, Option.isSome_some, Nat.zero_le, Nat.zero_add, Nat.reduceAdd, Nat.reduceSub, D.scal, Option.some.injEq, exists_eq_left', exists_eq_left, exists_eq', D.int.injEq, D.lst.injEq, D.tup.injEq, D.scr.injEq, D.str.injEq, List.cons.injEq, and_self]
  refine ⟨by omega, fun e he => ?_⟩
  have hpe : p ≠ e := fun z => by subst z; rw [updW_same] at he; cases he
  refine ⟨p, _, rfl, by rw [updW_ne hpe]; exact updW_same, by simp [putFD, n1], ?_⟩
  try simp -implicitDefEqProofs only [n1, n2, n3, dNext, dSet, dLst, dTup, dNil, dCons, dFor, dRng1_u, dRng2_u, dIt_u, oX, dC, dBin, dUn, dVarR, dVar, dApp, dExt, dUpd0, dPut, dAug, dRet, dRetV, dRetN, dBreak, dCont, dIf, dB_u, dTru_u, dTNot, dTAnd, dTOr, dAndV_u, dOrV_u, dNotV_u, dIfX, dChain_u, dCall, dSl, dNoP, dP_u, dLc, dDrop, dFrz, frzD, dAsg, dDicK, dDicT, gN, gT, gsC, gsN, kB.eq_1, kT.eq_1, kT.eq_2, kT.eq_3, kT.eq_4, kT.eq_5, kT.eq_6, kT.eq_7, kT.eq_8, kAnd.eq_1, kOr.eq_1, kNot.eq_1, kIt.eq_1, kIt.eq_2, kIt.eq_3, kIt.eq_4, kP.eq_1, kR1.eq_1, kR2.eq_1, sAdd.eq_1, sAdd.eq_2, sAdd.eq_3, sAdd.eq_4, sJ2.eq_1, sI2.eq_1, sPow, sLt.eq_1, sLt.eq_2, sLe, sGt, sGe, sMul.eq_1, sMul.eq_2, sMulB.eq_1, sMulB.eq_2, sMulB.eq_3, sLR1.eq_1, sLR2.eq_1, sTR1.eq_1, sTR2.eq_1, sIsBl.eq_1, dZip, kZip.eq_1, dDisp1, dSetN, dConsN, dAppN, dPutN, dFld, dFldS, dFldAug, dMeth, dMake, dGet1, dGet2, dDPop, dLPop, dLPopAt, dLClear, dEnum, kEnum.eq_1, dRng3, kR3.eq_1, dForN, dForKeys, dForItems, dLock, lkE, dBack, kNm_f, kNm_t, nmK_f, nmK_lst, nmK_dK, nmK_dT, isDct_dK, isDct_dT, isDct_fK, isDct_fT, sGetO_K, sGetO_S, sGetO_T, sGetO_fK, sGetO_fT, sIn_K, sIn_fK, sIn_T, sIn_fT, sPutC_lst, sPutC_K, sPutC_S, sPutC_T, keyOf_int, keyOf_str, keysC.eq_1, keysC.eq_2, itemsC.eq_1, rs_ref, rs_non, rs_bl, rs_int, rs_str, rs_ty, rs_lst, rs_tup, rs_dK, rs_dT, rs_scr, rs_wD, rs_iD, rs_lwD, resC_lst, resC_dK, resC_dT, resC_fK, resC_fT, resC_ins, updW_same, putFD.eq_1, putFD.eq_2, isL.eq_1, isL.eq_2, sNeg.eq_1, sLen.eq_1, sLen.eq_2, sLen.eq_3, sLen.eq_4, sLen.eq_5, sAbs.eq_1, sMax, sMin, sInt.eq_1, sInt.eq_2, sStr.eq_1, sList.eq_1, sList.eq_2, sList.eq_3, sTuple.eq_1, sTuple.eq_2, sTuple.eq_3, sIsN, sNotN, sIx.eq_1, sIx.eq_2, sIx.eq_3, sIx.eq_4, sIx.eq_5, sIx.eq_6, sIx.eq_7, sIx.eq_8, sIx.eq_9, sSl.eq_1, sSl.eq_2, sSl.eq_3, sSl.eq_4, sRev.eq_1, sRev.eq_2, sRev.eq_3, sAddI.eq_1, sAddI.eq_2, sPut.eq_1, sPut.eq_2, sPut.eq_3, sPut.eq_4, D.isNon, sEq_ii, sNe_ii, sEq_ww, sNe_ww, sEq_ll, sNe_ll, sIsi_ii, sIsi_ib, sIsi_ll, sIsi_tt, sIsi_ss, sEq_w, sEq_i, sEq_lw, sEq_lw', sEq_lle, sEq_lle', sNe_w, sNe_i, sNe_lle', sNe_lw', sEq_ss, sNe_ss, sEq_bb, sNe_bb, sIn_iw, sIn_ii, sIn_wl, sIn_wl', sSl3.eq_1, sSl3.eq_2, dSl3, isS.eq_1, isL.eq_1, isL.eq_2, isA.eq_1, dM0, dM1, sUpper.eq_1, sLower.eq_1, sStrip1.eq_1, sSfind.eq_1, sScount.eq_1, sSindex.eq_1, sSsplit.eq_1, sSjoin.eq_1, sSjoin.eq_2, fPop_snoc, fPop_snoc', startD, wipeD, List.map_cons, List.map_nil, List.length_cons, List.length_nil, List.length_map, List.cons_append, List.nil_append, List.replicate, List.set_cons_zero, List.set_cons_succ, List.set_nil, List.getElem?_cons_zero, List.getElem?_cons_succ, Bool.true_and, Bool.and_true, Bool.and_false, Bool.false_and, Bool.not_true, Bool.not_false, if_true, if_false, Bool.false_eq_true, reduceIte, and_true, true_and, decide_true, decide_false, not_true, Option.map_none, Option.map_some, Option.getD_none, Option.getD_some, Option.isSome_none, Option.isSome_some, Nat.zero_le, Nat.zero_add, Nat.reduceAdd, Nat.reduceSub, D.scal, Option.some.injEq, exists_eq_left', exists_eq_left, exists_eq', D.int.injEq, D.lst.injEq, D.tup.injEq, D.scr.injEq, D.str.injEq, List.cons.injEq, and_self]
  refine seq_i ?_
  try simp -implicitDefEqProofs only [dNext, dSet, dLst, dTup, dNil, dCons, dFor, dRng1_u, dRng2_u, dIt_u, oX, dC, dBin, dUn, dVarR, dVar, dApp, dExt, dUpd0, dPut, dAug, dRet, dRetV, dRetN, dBreak, dCont, dIf, dB_u, dTru_u, dTNot, dTAnd, dTOr, dAndV_u, dOrV_u, dNotV_u, dIfX, dChain_u, dCall, dSl, dNoP, dP_u, dLc, dDrop, dFrz, frzD, dAsg, dDicK, dDicT, gN, gT, gsC, gsN, kB.eq_1, kT.eq_1, kT.eq_2, kT.eq_3, kT.eq_4, kT.eq_5, kT.eq_6, kT.eq_7, kT.eq_8, kAnd.eq_1, kOr.eq_1, kNot.eq_1, kIt.eq_1, kIt.eq_2, kIt.eq_3, kIt.eq_4, kP.eq_1, kR1.eq_1, kR2.eq_1, sAdd.eq_1, sAdd.eq_2, sAdd.eq_3, sAdd.eq_4, sJ2.eq_1, sI2.eq_1, sPow, sLt.eq_1, sLt.eq_2, sLe, sGt, sGe, sMul.eq_1, sMul.eq_2, sMulB.eq_1, sMulB.eq_2, sMulB.eq_3, sLR1.eq_1, sLR2.eq_1, sTR1.eq_1, sTR2.eq_1, sIsBl.eq_1, dZip, kZip.eq_1, dDisp1, dSetN, dConsN, dAppN, dPutN, dFld, dFldS, dFldAug, dMeth, dMake, dGet1, dGet2, dDPop, dLPop, dLPopAt, dLClear, dEnum, kEnum.eq_1, dRng3, kR3.eq_1, dForN, dForKeys, dForItems, dLock, lkE, dBack, kNm_f, kNm_t, nmK_f, nmK_lst, nmK_dK, nmK_dT, isDct_dK, isDct_dT, isDct_fK, isDct_fT, sGetO_K, sGetO_S, sGetO_T, sGetO_fK, sGetO_fT, sIn_K, sIn_fK, sIn_T, sIn_fT, sPutC_lst, sPutC_K, sPutC_S, sPutC_T, keyOf_int, keyOf_str, keysC.eq_1, keysC.eq_2, itemsC.eq_1, rs_ref, rs_non, rs_bl, rs_int, rs_str, rs_ty, rs_lst, rs_tup, rs_dK, rs_dT, rs_scr, rs_wD, rs_iD, rs_lwD, resC_lst, resC_dK, resC_dT, resC_fK, resC_fT, resC_ins, updW_same, putFD.eq_1, putFD.eq_2, isL.eq_1, isL.eq_2, sNeg.eq_1, sLen.eq_1, sLen.eq_2, sLen.eq_3, sLen.eq_4, sLen.eq_5, sAbs.eq_1, sMax, sMin, sInt.eq_1, sInt.eq_2, sStr.eq_1, sList.eq_1, sList.eq_2, sList.eq_3, sTuple.eq_1, sTuple.eq_2, sTuple.eq_3, sIsN, sNotN, sIx.eq_1, sIx.eq_2, sIx.eq_3, sIx.eq_4, sIx.eq_5, sIx.eq_6, sIx.eq_7, sIx.eq_8, sIx.eq_9, sSl.eq_1, sSl.eq_2, sSl.eq_3, sSl.eq_4, sRev.eq_1, sRev.eq_2, sRev.eq_3, sAddI.eq_1, sAddI.eq_2, sPut.eq_1, sPut.eq_2, sPut.eq_3, sPut.eq_4, D.isNon, sEq_ii, sNe_ii, sEq_ww, sNe_ww, sEq_ll, sNe_ll, sIsi_ii, sIsi_ib, sIsi_ll, sIsi_tt, sIsi_ss, sEq_w, sEq_i, sEq_lw, sEq_lw', sEq_lle, sEq_lle', sNe_w, sNe_i, sNe_lle', sNe_lw', sEq_ss, sNe_ss, sEq_bb, sNe_bb, sIn_iw, sIn_ii, sIn_wl, sIn_wl', sSl3.eq_1, sSl3.eq_2, dSl3, isS.eq_1, isL.eq_1, isL.eq_2, isA.eq_1, dM0, dM1, sUpper.eq_1, sLower.eq_1, sStrip1.eq_1, sSfind.eq_1, sScount.eq_1, sSindex.eq_1, sSsplit.eq_1, sSjoin.eq_1, sSjoin.eq_2, fPop_snoc, fPop_snoc', startD, wipeD, List.map_cons, List.map_nil, List.length_cons, List.length_nil, List.length_map, List.cons_append, List.nil_append, List.replicate, List.set_cons_zero, List.set_cons_succ, List.set_nil, List.getElem?_cons_zero, List.getElem?_cons_succ, Bool.true_and, Bool.and_true, Bool.and_false, Bool.false_and, Bool.not_true, Bool.not_false, if_true, if_false, Bool.false_eq_true, reduceIte, and_true, true_and, decide_true, decide_false, not_true, Option.map_none, Option.map_some, Option.getD_none, Option.getD_some, Option.isSome_none, Option.isSome_some, Nat.zero_le, Nat.zero_add, Nat.reduceAdd, Nat.reduceSub, D.scal, Option.some.injEq, exists_eq_left', exists_eq_left, exists_eq', D.int.injEq, D.lst.injEq, D.tup.injEq, D.scr.injEq, D.str.injEq, List.cons.injEq, and_self]
  intro d0 hd0
  refine ⟨by omega, fun k hk => ?_⟩
  have n0 : p ≠ d0 := fun z => by subst z; simp [updW] at hd0
  have n11 : e ≠ d0 := fun z => by subst z; simp [updW, hpe.symm] at hd0
  have n12 : p ≠ k := fun z => by subst z; simp [updW, n0] at hk
  have n13 : e ≠ k := fun z => by subst z; simp [updW, hpe.symm, n11] at hk
  have n14 : d0 ≠ k := fun z => by subst z; simp [updW] at hk
  refine ⟨p, [("letters", .int l), ("made", .int 1), ("elders", .ref e)], rfl, by simp [updW, n0, n12], by simp, ?_⟩
  try simp -implicitDefEqProofs only [n4, n5, n6, dNext, dSet, dLst, dTup, dNil, dCons, dFor, dRng1_u, dRng2_u, dIt_u, oX, dC, dBin, dUn, dVarR, dVar, dApp, dExt, dUpd0, dPut, dAug, dRet, dRetV, dRetN, dBreak, dCont, dIf, dB_u, dTru_u, dTNot, dTAnd, dTOr, dAndV_u, dOrV_u, dNotV_u, dIfX, dChain_u, dCall, dSl, dNoP, dP_u, dLc, dDrop, dFrz, frzD, dAsg, dDicK, dDicT, gN, gT, gsC, gsN, kB.eq_1, kT.eq_1, kT.eq_2, kT.eq_3, kT.eq_4, kT.eq_5, kT.eq_6, kT.eq_7, kT.eq_8, kAnd.eq_1, kOr.eq_1, kNot.eq_1, kIt.eq_1, kIt.eq_2, kIt.eq_3, kIt.eq_4, kP.eq_1, kR1.eq_1, kR2.eq_1, sAdd.eq_1, sAdd.eq_2, sAdd.eq_3, sAdd.eq_4, sJ2.eq_1, sI2.eq_1, sPow, sLt.eq_1, sLt.eq_2, sLe, sGt, sGe, sMul.eq_1, sMul.eq_2, sMulB.eq_1, sMulB.eq_2, sMulB.eq_3, sLR1.eq_1, sLR2.eq_1, sTR1.eq_1, sTR2.eq_1, sIsBl.eq_1, dZip, kZip.eq_1, dDisp1, dSetN, dConsN, dAppN, dPutN, dFld, dFldS, dFldAug, dMeth, dMake, dGet1, dGet2, dDPop, dLPop, dLPopAt, dLClear, dEnum, kEnum.eq_1, dRng3, kR3.eq_1, dForN, dForKeys, dForItems, dLock, lkE, dBack, kNm_f, kNm_t, nmK_f, nmK_lst, nmK_dK, nmK_dT, isDct_dK, isDct_dT, isDct_fK, isDct_fT, sGetO_K, sGetO_S, sGetO_T, sGetO_fK, sGetO_fT, sIn_K, sIn_fK, sIn_T, sIn_fT, sPutC_lst, sPutC_K, sPutC_S, sPutC_T, keyOf_int, keyOf_str, keysC.eq_1, keysC.eq_2, itemsC.eq_1, rs_ref, rs_non, rs_bl, rs_int, rs_str, rs_ty, rs_lst, rs_tup, rs_dK, rs_dT, rs_scr, rs_wD, rs_iD, rs_lwD, resC_lst, resC_dK, resC_dT, resC_fK, resC_fT, resC_ins, updW_same, putFD.eq_1, putFD.eq_2, isL.eq_1, isL.eq_2, sNeg.eq_1, sLen.eq_1, sLen.eq_2, sLen.eq_3, sLen.eq_4, sLen.eq_5, sAbs.eq_1, sMax, sMin, sInt.eq_1, sInt.eq_2, sStr.eq_1, sList.eq_1, sList.eq_2, sList.eq_3, sTuple.eq_1, sTuple.eq_2, sTuple.eq_3, sIsN, sNotN, sIx.eq_1, sIx.eq_2, sIx.eq_3, sIx.eq_4, sIx.eq_5, sIx.eq_6, sIx.eq_7, sIx.eq_8, sIx.eq_9, sSl.eq_1, sSl.eq_2, sSl.eq_3, sSl.eq_4, sRev.eq_1, sRev.eq_2, sRev.eq_3, sAddI.eq_1, sAddI.eq_2, sPut.eq_1, sPut.eq_2, sPut.eq_3, sPut.eq_4, D.isNon, sEq_ii, sNe_ii, sEq_ww, sNe_ww, sEq_ll, sNe_ll, sIsi_ii, sIsi_ib, sIsi_ll, sIsi_tt, sIsi_ss, sEq_w, sEq_i, sEq_lw, sEq_lw', sEq_lle, sEq_lle', sNe_w, sNe_i, sNe_lle', sNe_lw', sEq_ss, sNe_ss, sEq_bb, sNe_bb, sIn_iw, sIn_ii, sIn_wl, sIn_wl', sSl3.eq_1, sSl3.eq_2, dSl3, isS.eq_1, isL.eq_1, isL.eq_2, isA.eq_1, dM0, dM1, sUpper.eq_1, sLower.eq_1, sStrip1.eq_1, sSfind.eq_1, sScount.eq_1, sSindex.eq_1, sSsplit.eq_1, sSjoin.eq_1, sSjoin.eq_2, fPop_snoc, fPop_snoc', startD, wipeD, List.map_cons, List.map_nil, List.length_cons, List.length_nil, List.length_map, List.cons_append, List.nil_append, List.replicate, List.set_cons_zero, List.set_cons_succ, List.set_nil, List.getElem?_cons_zero, List.getElem?_cons_succ, Bool.true_and, Bool.and_true, Bool.and_false, Bool.false_and, Bool.not_true, Bool.not_false, if_true, if_false, Bool.false_eq_true, reduceIte, and_true, true_and, decide_true, decide_false, not_true, Option.map_none, Option.map_some, Option.getD_none, Option.getD_some, Option.isSome_none, Option.isSome_some, Nat.zero_le, Nat.zero_add, Nat.reduceAdd, Nat.reduceSub, D.scal, Option.some.injEq, exists_eq_left', exists_eq_left, exists_eq', D.int.injEq, D.lst.injEq, D.tup.injEq, D.scr.injEq, D.str.injEq, List.cons.injEq, and_self]
  intro t ht
  have n15 : p ≠ t := fun z => by subst z; simp [updW] at ht
  have n16 : e ≠ t := fun z => by subst z; simp [updW, hpe.symm, n11, n13] at ht
  have n17 : d0 ≠ t := fun z => by subst z; simp [updW, n0.symm, n14] at ht
  have n18 : k ≠ t := fun z => by subst z; simp [updW, n12.symm] at ht
  refine ⟨p, [("letters", .int l), ("made", .int 1), ("elders", .ref e), ("known", .ref k)], rfl, by simp [updW, n15], by simp, ?_⟩
  try simp -implicitDefEqProofs only [n7, n8, n9, n10, dNext, dSet, dLst, dTup, dNil, dCons, dFor, dRng1_u, dRng2_u, dIt_u, oX, dC, dBin, dUn, dVarR, dVar, dApp, dExt, dUpd0, dPut, dAug, dRet, dRetV, dRetN, dBreak, dCont, dIf, dB_u, dTru_u, dTNot, dTAnd, dTOr, dAndV_u, dOrV_u, dNotV_u, dIfX, dChain_u, dCall, dSl, dNoP, dP_u, dLc, dDrop, dFrz, frzD, dAsg, dDicK, dDicT, gN, gT, gsC, gsN, kB.eq_1, kT.eq_1, kT.eq_2, kT.eq_3, kT.eq_4, kT.eq_5, kT.eq_6, kT.eq_7, kT.eq_8, kAnd.eq_1, kOr.eq_1, kNot.eq_1, kIt.eq_1, kIt.eq_2, kIt.eq_3, kIt.eq_4, kP.eq_1, kR1.eq_1, kR2.eq_1, sAdd.eq_1, sAdd.eq_2, sAdd.eq_3, sAdd.eq_4, sJ2.eq_1, sI2.eq_1, sPow, sLt.eq_1, sLt.eq_2, sLe, sGt, sGe, sMul.eq_1, sMul.eq_2, sMulB.eq_1, sMulB.eq_2, sMulB.eq_3, sLR1.eq_1, sLR2.eq_1, sTR1.eq_1, sTR2.eq_1, sIsBl.eq_1, dZip, kZip.eq_1, dDisp1, dSetN, dConsN, dAppN, dPutN, dFld, dFldS, dFldAug, dMeth, dMake, dGet1, dGet2, dDPop, dLPop, dLPopAt, dLClear, dEnum, kEnum.eq_1, dRng3, kR3.eq_1, dForN, dForKeys, dForItems, dLock, lkE, dBack, kNm_f, kNm_t, nmK_f, nmK_lst, nmK_dK, nmK_dT, isDct_dK, isDct_dT, isDct_fK, isDct_fT, sGetO_K, sGetO_S, sGetO_T, sGetO_fK, sGetO_fT, sIn_K, sIn_fK, sIn_T, sIn_fT, sPutC_lst, sPutC_K, sPutC_S, sPutC_T, keyOf_int, keyOf_str, keysC.eq_1, keysC.eq_2, itemsC.eq_1, rs_ref, rs_non, rs_bl, rs_int, rs_str, rs_ty, rs_lst, rs_tup, rs_dK, rs_dT, rs_scr, rs_wD, rs_iD, rs_lwD, resC_lst, resC_dK, resC_dT, resC_fK, resC_fT, resC_ins, updW_same, putFD.eq_1, putFD.eq_2, isL.eq_1, isL.eq_2, sNeg.eq_1, sLen.eq_1, sLen.eq_2, sLen.eq_3, sLen.eq_4, sLen.eq_5, sAbs.eq_1, sMax, sMin, sInt.eq_1, sInt.eq_2, sStr.eq_1, sList.eq_1, sList.eq_2, sList.eq_3, sTuple.eq_1, sTuple.eq_2, sTuple.eq_3, sIsN, sNotN, sIx.eq_1, sIx.eq_2, sIx.eq_3, sIx.eq_4, sIx.eq_5, sIx.eq_6, sIx.eq_7, sIx.eq_8, sIx.eq_9, sSl.eq_1, sSl.eq_2, sSl.eq_3, sSl.eq_4, sRev.eq_1, sRev.eq_2, sRev.eq_3, sAddI.eq_1, sAddI.eq_2, sPut.eq_1, sPut.eq_2, sPut.eq_3, sPut.eq_4, D.isNon, sEq_ii, sNe_ii, sEq_ww, sNe_ww, sEq_ll, sNe_ll, sIsi_ii, sIsi_ib, sIsi_ll, sIsi_tt, sIsi_ss, sEq_w, sEq_i, sEq_lw, sEq_lw', sEq_lle, sEq_lle', sNe_w, sNe_i, sNe_lle', sNe_lw', sEq_ss, sNe_ss, sEq_bb, sNe_bb, sIn_iw, sIn_ii, sIn_wl, sIn_wl', sSl3.eq_1, sSl3.eq_2, dSl3, isS.eq_1, isL.eq_1, isL.eq_2, isA.eq_1, dM0, dM1, sUpper.eq_1, sLower.eq_1, sStrip1.eq_1, sSfind.eq_1, sScount.eq_1, sSindex.eq_1, sSsplit.eq_1, sSjoin.eq_1, sSjoin.eq_2, fPop_snoc, fPop_snoc', startD, wipeD, List.map_cons, List.map_nil, List.length_cons, List.length_nil, List.length_map, List.cons_append, List.nil_append, List.replicate, List.set_cons_zero, List.set_cons_succ, List.set_nil, List.getElem?_cons_zero, List.getElem?_cons_succ, Bool.true_and, Bool.and_true, Bool.and_false, Bool.false_and, Bool.not_true, Bool.not_false, if_true, if_false, Bool.false_eq_true, reduceIte, and_true, true_and, decide_true, decide_false, not_true, Option.map_none, Option.map_some, Option.getD_none, Option.getD_some, Option.isSome_none, Option.isSome_some, Nat.zero_le, Nat.zero_add, Nat.reduceAdd, Nat.reduceSub, D.scal, Option.some.injEq, exists_eq_left', exists_eq_left, exists_eq', D.int.injEq, D.lst.injEq, D.tup.injEq, D.scr.injEq, D.str.injEq, List.cons.injEq, and_self]
  have he0 : w e = none := by simpa [updW, hpe.symm] using he
  have hd00 : w d0 = none := by simpa [updW, n0.symm, n11.symm] using hd0
  have hk0 : w k = none := by simpa [updW, n12.symm, n13.symm, n14.symm] using hk
  have ht0 : w t = none := by simpa [updW, n15.symm, n16.symm, n17.symm, n18.symm] using ht
  refine q _ ⟨e, k, t, [d0]⟩ ⟨?_, ?_, ?_, ?_, fun i a m hi hm => ?_, rfl, rfl, ?_⟩ ⟨fun b hb hn => ?_, fun b hb => ?_⟩
  · simp [updW, rmF]
  · simp [updW, hpe.symm, n11, n13, n16]
  · simp [updW, n12.symm, n18]
  · simp [updW, n15.symm]
  · have : i = 0 := by have := (List.getElem?_eq_some_iff.mp hi).1; simpa using this
    subst this
    simp at hi hm
    subst hi hm
    simp [updW, n0.symm, n14, n17, kvD, fD]
  · simp [RP.fp, hpe, n12, n15, n0, n13, n16, n11, n18, n14.symm, n17.symm]
  · simp at hb
    have g1 : b ≠ e := fun z => hn (z ▸ he0)
    have g2 : b ≠ d0 := fun z => hn (z ▸ hd00)
    have g3 : b ≠ k := fun z => hn (z ▸ hk0)
    have g4 : b ≠ t := fun z => hn (z ▸ ht0)
    simp [updW, hb, g1, g2, g3, g4]
  · simp [RP.fp] at hb
    rcases hb with h | h | h | h | h
    · subst h; exact .inl (by simp)
    · subst h; exact .inr he0
    · subst h; exact .inr hk0
    · subst h; exact .inr ht0
    · subst h; exact .inr hd00
/-- a list cell of an object changes: of the elders -/
theorem get_nat {l : List Nat} {i : Nat} (h : i < l.length) : atI (l.map fun n : Nat => D.int n) (i : Int) = some (.int ((l[i]?).getD 0 : Nat)) := by
  rw [atI_f (fun n : Nat => D.int n) (x := l[i]) (by omega) (by rw [Int.toNat_natCast]; exact List.getElem?_eq_getElem h), List.getElem?_eq_getElem h]
  rfl
theorem Rm.ne {w : Om} {p : Addr} {r : RP} {S : RS} (h : Rm w p r S) : p ≠ r.e ∧ p ≠ r.k ∧ p ≠ r.t ∧ p ∉ r.ks ∧ r.e ≠ r.k ∧ r.e ≠ r.t ∧ r.e ∉ r.ks ∧ r.k ≠ r.t ∧ r.k ∉ r.ks ∧ r.t ∉ r.ks ∧ r.ks.Nodup := by
  have nd := h.nd
  simp [RP.fp, List.nodup_cons] at nd
  obtain ⟨⟨a1, a2, a3, a4⟩, ⟨b1, b2, b3⟩, ⟨c1, c2⟩, d1, d2⟩ := nd
  exact ⟨a1, a2, a3, a4, b1, b2, b3, c1, c2, d1, d2⟩
def T_Rooms_by : DSp := fun ds w P => ∃ (p : Addr) (r : RP) (S : RS) (room : Nat) (m : Kn) (step : Int), ds = [.ref p, .int room, .int step] ∧ Rm w p r S ∧ S.kn[room]? = some m ∧ P false (((fget m step).map fun n : Nat => D.int n).getD .non) w
theorem len_Rooms_by (ds : List D) (w : Om) (P : Bool → D → Om → Prop) (h : T_Rooms_by ds w P) : ds.length = 3 := by first | (have h := h.1; subst h; rfl) | (obtain ⟨rfl, _⟩ := h; rfl) | (obtain ⟨_, rfl, _⟩ := h; rfl) | (obtain ⟨_, _, rfl, _⟩ := h; rfl) | (obtain ⟨_, _, _, rfl, _⟩ := h; rfl) | (obtain ⟨_, _, _, _, rfl, _⟩ := h; rfl) | (obtain ⟨_, _, _, _, _, rfl, _⟩ := h; rfl) | (obtain ⟨_, _, _, _, _, _, rfl, _⟩ := h; rfl) | (obtain ⟨_, _, _, _, _, _, _, rfl, _⟩ := h; rfl) | (obtain ⟨_, _, _, _, _, _, _, _, rfl, _⟩ := h; rfl) | (obtain ⟨_, _, _, _, _, _, _, _, _, rfl, _⟩ := h; rfl) | (obtain ⟨_, _, _, _, _, _, _, _, _, _, rfl, _⟩ := h; rfl) | (obtain ⟨_, _, _, _, _, _, _, _, _, _, _, rfl, _⟩ := h; rfl)
def b_Rooms_by : DS := (dRet (dGet1 (oX (dBin sIx (oX (dFld "Rooms" "known" (dVarR 0))) (dVarR 1))) (dVarR 2)))
theorem v_Rooms_by (ds : List D) (w : Om) (P : Bool → D → Om → Prop) (h : T_Rooms_by ds w P) : b_Rooms_by { nx := fun _ w => P false .non w, rt := P } (startD ["self", "room", "step"] ds) w := by
  unfold b_Rooms_by
  obtain ⟨p, r, S, room, m, step, rfl, R, hm, q⟩ := h
  have hl := (List.getElem?_eq_some_iff.mp hm).1
  obtain ⟨a, ha⟩ : ∃ a, r.ks[room]? = some a := ⟨_, List.getElem?_eq_getElem (by rw [R.len]; exact hl)⟩
  try simp -implicitDefEqProofs only [dNext, dSet, dLst, dTup, dNil, dCons, dFor, dRng1_u, dRng2_u, dIt_u, oX, dC, dBin, dUn, dVarR, dVar, dApp, dExt, dUpd0, dPut, dAug, dRet, dRetV, dRetN, dBreak, dCont, dIf, dB_u, dTru_u, dTNot, dTAnd, dTOr, dAndV_u, dOrV_u, dNotV_u, dIfX, dChain_u, dCall, dSl, dNoP, dP_u, dLc, dDrop, dFrz, frzD, dAsg, dDicK, dDicT, gN, gT, gsC, gsN, kB.eq_1, kT.eq_1, kT.eq_2, kT.eq_3, kT.eq_4, kT.eq_5, kT.eq_6, kT.eq_7, kT.eq_8, kAnd.eq_1, kOr.eq_1, kNot.eq_1, kIt.eq_1, kIt.eq_2, kIt.eq_3, kIt.eq_4, kP.eq_1, kR1.eq_1, kR2.eq_1, sAdd.eq_1, sAdd.eq_2, sAdd.eq_3, sAdd.eq_4, sJ2.eq_1, sI2.eq_1, sPow, sLt.eq_1, sLt.eq_2, sLe, sGt, sGe, sMul.eq_1, sMul.eq_2, sMulB.eq_1, sMulB.eq_2, sMulB.eq_3, sLR1.eq_1, sLR2.eq_1, sTR1.eq_1, sTR2.eq_1, sIsBl.eq_1, dZip, kZip.eq_1, dDisp1, dSetN, dConsN, dAppN, dPutN, dFld, dFldS, dFldAug, dMeth, dMake, dGet1, dGet2, dDPop, dLPop, dLPopAt, dLClear, dEnum, kEnum.eq_1, dRng3, kR3.eq_1, dForN, dForKeys, dForItems, dLock, lkE, dBack, kNm_f, kNm_t, nmK_f, nmK_lst, nmK_dK, nmK_dT, isDct_dK, isDct_dT, isDct_fK, isDct_fT, sGetO_K, sGetO_S, sGetO_T, sGetO_fK, sGetO_fT, sIn_K, sIn_fK, sIn_T, sIn_fT, sPutC_lst, sPutC_K, sPutC_S, sPutC_T, keyOf_int, keyOf_str, keysC.eq_1, keysC.eq_2, itemsC.eq_1, rs_ref, rs_non, rs_bl, rs_int, rs_str, rs_ty, rs_lst, rs_tup, rs_dK, rs_dT, rs_scr, rs_wD, rs_iD, rs_lwD, resC_lst, resC_dK, resC_dT, resC_fK, resC_fT, resC_ins, updW_same, putFD.eq_1, putFD.eq_2, isL.eq_1, isL.eq_2, sNeg.eq_1, sLen.eq_1, sLen.eq_2, sLen.eq_3, sLen.eq_4, sLen.eq_5, sAbs.eq_1, sMax, sMin, sInt.eq_1, sInt.eq_2, sStr.eq_1, sList.eq_1, sList.eq_2, sList.eq_3, sTuple.eq_1, sTuple.eq_2, sTuple.eq_3, sIsN, sNotN, sIx.eq_1, sIx.eq_2, sIx.eq_3, sIx.eq_4, sIx.eq_5, sIx.eq_6, sIx.eq_7, sIx.eq_8, sIx.eq_9, sSl.eq_1, sSl.eq_2, sSl.eq_3, sSl.eq_4, sRev.eq_1, sRev.eq_2, sRev.eq_3, sAddI.eq_1, sAddI.eq_2, sPut.eq_1, sPut.eq_2, sPut.eq_3, sPut.eq_4, D.isNon, sEq_ii, sNe_ii, sEq_ww, sNe_ww, sEq_ll, sNe_ll, sIsi_ii, sIsi_ib, sIsi_ll, sIsi_tt, sIsi_ss, sEq_w, sEq_i, sEq_lw, sEq_lw', sEq_lle, sEq_lle', sNe_w, sNe_i, sNe_lle', sNe_lw', sEq_ss, sNe_ss, sEq_bb, sNe_bb, sIn_iw, sIn_ii, sIn_wl, sIn_wl', sSl3.eq_1, sSl3.eq_2, dSl3, isS.eq_1, isL.eq_1, isL.eq_2, isA.eq_1, dM0, dM1, sUpper.eq_1, sLower.eq_1, sStrip1.eq_1, sSfind.eq_1, sScount.eq_1, sSindex.eq_1, sSsplit.eq_1, sSjoin.eq_1, sSjoin.eq_2, fPop_snoc, fPop_snoc', startD, wipeD, List.map_cons, List.map_nil, List.length_cons, List.length_nil, List.length_map, List.cons_append, List.nil_append, List.replicate, List.set_cons_zero, List.set_cons_succ, List.set_nil, List.getElem?_cons_zero, List.getElem?_cons_succ, Bool.true_and, Bool.and_true, Bool.and_false, Bool.false_and, Bool.not_true, Bool.not_false, if_true, if_false, Bool.false_eq_true, reduceIte, and_true, true_and, decide_true, decide_false, not_true, Option.map_none, Option.map_some, Option.getD_none, Option.getD_some, Option.isSome_none, Option.isSome_some, Nat.zero_le, Nat.zero_add, Nat.reduceAdd, Nat.reduceSub, D.scal, Option.some.injEq, exists_eq_left', exists_eq_left, exists_eq', D.int.injEq, D.lst.injEq, D.tup.injEq, D.scr.injEq, D.str.injEq, List.cons.injEq, and_self]
  refine ⟨p, _, .ref r.k, rfl, R.ins, rmF_known .., ?_⟩
  try simp -implicitDefEqProofs only [R.kl, dNext, dSet, dLst, dTup, dNil, dCons, dFor, dRng1_u, dRng2_u, dIt_u, oX, dC, dBin, dUn, dVarR, dVar, dApp, dExt, dUpd0, dPut, dAug, dRet, dRetV, dRetN, dBreak, dCont, dIf, dB_u, dTru_u, dTNot, dTAnd, dTOr, dAndV_u, dOrV_u, dNotV_u, dIfX, dChain_u, dCall, dSl, dNoP, dP_u, dLc, dDrop, dFrz, frzD, dAsg, dDicK, dDicT, gN, gT, gsC, gsN, kB.eq_1, kT.eq_1, kT.eq_2, kT.eq_3, kT.eq_4, kT.eq_5, kT.eq_6, kT.eq_7, kT.eq_8, kAnd.eq_1, kOr.eq_1, kNot.eq_1, kIt.eq_1, kIt.eq_2, kIt.eq_3, kIt.eq_4, kP.eq_1, kR1.eq_1, kR2.eq_1, sAdd.eq_1, sAdd.eq_2, sAdd.eq_3, sAdd.eq_4, sJ2.eq_1, sI2.eq_1, sPow, sLt.eq_1, sLt.eq_2, sLe, sGt, sGe, sMul.eq_1, sMul.eq_2, sMulB.eq_1, sMulB.eq_2, sMulB.eq_3, sLR1.eq_1, sLR2.eq_1, sTR1.eq_1, sTR2.eq_1, sIsBl.eq_1, dZip, kZip.eq_1, dDisp1, dSetN, dConsN, dAppN, dPutN, dFld, dFldS, dFldAug, dMeth, dMake, dGet1, dGet2, dDPop, dLPop, dLPopAt, dLClear, dEnum, kEnum.eq_1, dRng3, kR3.eq_1, dForN, dForKeys, dForItems, dLock, lkE, dBack, kNm_f, kNm_t, nmK_f, nmK_lst, nmK_dK, nmK_dT, isDct_dK, isDct_dT, isDct_fK, isDct_fT, sGetO_K, sGetO_S, sGetO_T, sGetO_fK, sGetO_fT, sIn_K, sIn_fK, sIn_T, sIn_fT, sPutC_lst, sPutC_K, sPutC_S, sPutC_T, keyOf_int, keyOf_str, keysC.eq_1, keysC.eq_2, itemsC.eq_1, rs_ref, rs_non, rs_bl, rs_int, rs_str, rs_ty, rs_lst, rs_tup, rs_dK, rs_dT, rs_scr, rs_wD, rs_iD, rs_lwD, resC_lst, resC_dK, resC_dT, resC_fK, resC_fT, resC_ins, updW_same, putFD.eq_1, putFD.eq_2, isL.eq_1, isL.eq_2, sNeg.eq_1, sLen.eq_1, sLen.eq_2, sLen.eq_3, sLen.eq_4, sLen.eq_5, sAbs.eq_1, sMax, sMin, sInt.eq_1, sInt.eq_2, sStr.eq_1, sList.eq_1, sList.eq_2, sList.eq_3, sTuple.eq_1, sTuple.eq_2, sTuple.eq_3, sIsN, sNotN, sIx.eq_1, sIx.eq_2, sIx.eq_3, sIx.eq_4, sIx.eq_5, sIx.eq_6, sIx.eq_7, sIx.eq_8, sIx.eq_9, sSl.eq_1, sSl.eq_2, sSl.eq_3, sSl.eq_4, sRev.eq_1, sRev.eq_2, sRev.eq_3, sAddI.eq_1, sAddI.eq_2, sPut.eq_1, sPut.eq_2, sPut.eq_3, sPut.eq_4, D.isNon, sEq_ii, sNe_ii, sEq_ww, sNe_ww, sEq_ll, sNe_ll, sIsi_ii, sIsi_ib, sIsi_ll, sIsi_tt, sIsi_ss, sEq_w, sEq_i, sEq_lw, sEq_lw', sEq_lle, sEq_lle', sNe_w, sNe_i, sNe_lle', sNe_lw', sEq_ss, sNe_ss, sEq_bb, sNe_bb, sIn_iw, sIn_ii, sIn_wl, sIn_wl', sSl3.eq_1, sSl3.eq_2, dSl3, isS.eq_1, isL.eq_1, isL.eq_2, isA.eq_1, dM0, dM1, sUpper.eq_1, sLower.eq_1, sStrip1.eq_1, sSfind.eq_1, sScount.eq_1, sSindex.eq_1, sSsplit.eq_1, sSjoin.eq_1, sSjoin.eq_2, fPop_snoc, fPop_snoc', startD, wipeD, List.map_cons, List.map_nil, List.length_cons, List.length_nil, List.length_map, List.cons_append, List.nil_append, List.replicate, List.set_cons_zero, List.set_cons_succ, List.set_nil, List.getElem?_cons_zero, List.getElem?_cons_succ, Bool.true_and, Bool.and_true, Bool.and_false, Bool.false_and, Bool.not_true, Bool.not_false, if_true, if_false, Bool.false_eq_true, reduceIte, and_true, true_and, decide_true, decide_false, not_true, Option.map_none, Option.map_some, Option.getD_none, Option.getD_some, Option.isSome_none, Option.isSome_some, Nat.zero_le, Nat.zero_add, Nat.reduceAdd, Nat.reduceSub, D.scal, Option.some.injEq, exists_eq_left', exists_eq_left, exists_eq', D.int.injEq, D.lst.injEq, D.tup.injEq, D.scr.injEq, D.str.injEq, List.cons.injEq, and_self]
  refine ⟨.ref a, atI_f D.ref (by omega) (by rw [Int.toNat_natCast]; exact ha), ?_⟩
  try simp -implicitDefEqProofs only [R.kn room a m ha hm, kv_val, dNext, dSet, dLst, dTup, dNil, dCons, dFor, dRng1_u, dRng2_u, dIt_u, oX, dC, dBin, dUn, dVarR, dVar, dApp, dExt, dUpd0, dPut, dAug, dRet, dRetV, dRetN, dBreak, dCont, dIf, dB_u, dTru_u, dTNot, dTAnd, dTOr, dAndV_u, dOrV_u, dNotV_u, dIfX, dChain_u, dCall, dSl, dNoP, dP_u, dLc, dDrop, dFrz, frzD, dAsg, dDicK, dDicT, gN, gT, gsC, gsN, kB.eq_1, kT.eq_1, kT.eq_2, kT.eq_3, kT.eq_4, kT.eq_5, kT.eq_6, kT.eq_7, kT.eq_8, kAnd.eq_1, kOr.eq_1, kNot.eq_1, kIt.eq_1, kIt.eq_2, kIt.eq_3, kIt.eq_4, kP.eq_1, kR1.eq_1, kR2.eq_1, sAdd.eq_1, sAdd.eq_2, sAdd.eq_3, sAdd.eq_4, sJ2.eq_1, sI2.eq_1, sPow, sLt.eq_1, sLt.eq_2, sLe, sGt, sGe, sMul.eq_1, sMul.eq_2, sMulB.eq_1, sMulB.eq_2, sMulB.eq_3, sLR1.eq_1, sLR2.eq_1, sTR1.eq_1, sTR2.eq_1, sIsBl.eq_1, dZip, kZip.eq_1, dDisp1, dSetN, dConsN, dAppN, dPutN, dFld, dFldS, dFldAug, dMeth, dMake, dGet1, dGet2, dDPop, dLPop, dLPopAt, dLClear, dEnum, kEnum.eq_1, dRng3, kR3.eq_1, dForN, dForKeys, dForItems, dLock, lkE, dBack, kNm_f, kNm_t, nmK_f, nmK_lst, nmK_dK, nmK_dT, isDct_dK, isDct_dT, isDct_fK, isDct_fT, sGetO_K, sGetO_S, sGetO_T, sGetO_fK, sGetO_fT, sIn_K, sIn_fK, sIn_T, sIn_fT, sPutC_lst, sPutC_K, sPutC_S, sPutC_T, keyOf_int, keyOf_str, keysC.eq_1, keysC.eq_2, itemsC.eq_1, rs_ref, rs_non, rs_bl, rs_int, rs_str, rs_ty, rs_lst, rs_tup, rs_dK, rs_dT, rs_scr, rs_wD, rs_iD, rs_lwD, resC_lst, resC_dK, resC_dT, resC_fK, resC_fT, resC_ins, updW_same, putFD.eq_1, putFD.eq_2, isL.eq_1, isL.eq_2, sNeg.eq_1, sLen.eq_1, sLen.eq_2, sLen.eq_3, sLen.eq_4, sLen.eq_5, sAbs.eq_1, sMax, sMin, sInt.eq_1, sInt.eq_2, sStr.eq_1, sList.eq_1, sList.eq_2, sList.eq_3, sTuple.eq_1, sTuple.eq_2, sTuple.eq_3, sIsN, sNotN, sIx.eq_1, sIx.eq_2, sIx.eq_3, sIx.eq_4, sIx.eq_5, sIx.eq_6, sIx.eq_7, sIx.eq_8, sIx.eq_9, sSl.eq_1, sSl.eq_2, sSl.eq_3, sSl.eq_4, sRev.eq_1, sRev.eq_2, sRev.eq_3, sAddI.eq_1, sAddI.eq_2, sPut.eq_1, sPut.eq_2, sPut.eq_3, sPut.eq_4, D.isNon, sEq_ii, sNe_ii, sEq_ww, sNe_ww, sEq_ll, sNe_ll, sIsi_ii, sIsi_ib, sIsi_ll, sIsi_tt, sIsi_ss, sEq_w, sEq_i, sEq_lw, sEq_lw', sEq_lle, sEq_lle', sNe_w, sNe_i, sNe_lle', sNe_lw', sEq_ss, sNe_ss, sEq_bb, sNe_bb, sIn_iw, sIn_ii, sIn_wl, sIn_wl', sSl3.eq_1, sSl3.eq_2, dSl3, isS.eq_1, isL.eq_1, isL.eq_2, isA.eq_1, dM0, dM1, sUpper.eq_1, sLower.eq_1, sStrip1.eq_1, sSfind.eq_1, sScount.eq_1, sSindex.eq_1, sSsplit.eq_1, sSjoin.eq_1, sSjoin.eq_2, fPop_snoc, fPop_snoc', startD, wipeD, List.map_cons, List.map_nil, List.length_cons, List.length_nil, List.length_map, List.cons_append, List.nil_append, List.replicate, List.set_cons_zero, List.set_cons_succ, List.set_nil, List.getElem?_cons_zero, List.getElem?_cons_succ, Bool.true_and, Bool.and_true, Bool.and_false, Bool.false_and, Bool.not_true, Bool.not_false, if_true, if_false, Bool.false_eq_true, reduceIte, and_true, true_and, decide_true, decide_false, not_true, Option.map_none, Option.map_some, Option.getD_none, Option.getD_some, Option.isSome_none, Option.isSome_some, Nat.zero_le, Nat.zero_add, Nat.reduceAdd, Nat.reduceSub, D.scal, Option.some.injEq, exists_eq_left', exists_eq_left, exists_eq', D.int.injEq, D.lst.injEq, D.tup.injEq, D.scr.injEq, D.str.injEq, List.cons.injEq, and_self]
  exact q
def T_Rooms_paper : DSp := fun ds w P => ∃ (p : Addr) (r : RP) (S : RS), ds = [.ref p] ∧ Rm w p r S ∧ P true (.lst S.told) w
theorem len_Rooms_paper (ds : List D) (w : Om) (P : Bool → D → Om → Prop) (h : T_Rooms_paper ds w P) : ds.length = 1 := by first | (have h := h.1; subst h; rfl) | (obtain ⟨rfl, _⟩ := h; rfl) | (obtain ⟨_, rfl, _⟩ := h; rfl) | (obtain ⟨_, _, rfl, _⟩ := h; rfl) | (obtain ⟨_, _, _, rfl, _⟩ := h; rfl) | (obtain ⟨_, _, _, _, rfl, _⟩ := h; rfl) | (obtain ⟨_, _, _, _, _, rfl, _⟩ := h; rfl) | (obtain ⟨_, _, _, _, _, _, rfl, _⟩ := h; rfl) | (obtain ⟨_, _, _, _, _, _, _, rfl, _⟩ := h; rfl) | (obtain ⟨_, _, _, _, _, _, _, _, rfl, _⟩ := h; rfl) | (obtain ⟨_, _, _, _, _, _, _, _, _, rfl, _⟩ := h; rfl) | (obtain ⟨_, _, _, _, _, _, _, _, _, _, rfl, _⟩ := h; rfl) | (obtain ⟨_, _, _, _, _, _, _, _, _, _, _, rfl, _⟩ := h; rfl)
def b_Rooms_paper : DS := (dRet (dUn sList (oX (dFld "Rooms" "told" (dVarR 0)))))
theorem v_Rooms_paper (ds : List D) (w : Om) (P : Bool → D → Om → Prop) (h : T_Rooms_paper ds w P) : b_Rooms_paper { nx := fun _ w => P false .non w, rt := P } (startD ["self"] ds) w := by
  unfold b_Rooms_paper
  obtain ⟨p, r, S, rfl, R, q⟩ := h
  try simp -implicitDefEqProofs only [dNext, dSet, dLst, dTup, dNil, dCons, dFor, dRng1_u, dRng2_u, dIt_u, oX, dC, dBin, dUn, dVarR, dVar, dApp, dExt, dUpd0, dPut, dAug, dRet, dRetV, dRetN, dBreak, dCont, dIf, dB_u, dTru_u, dTNot, dTAnd, dTOr, dAndV_u, dOrV_u, dNotV_u, dIfX, dChain_u, dCall, dSl, dNoP, dP_u, dLc, dDrop, dFrz, frzD, dAsg, dDicK, dDicT, gN, gT, gsC, gsN, kB.eq_1, kT.eq_1, kT.eq_2, kT.eq_3, kT.eq_4, kT.eq_5, kT.eq_6, kT.eq_7, kT.eq_8, kAnd.eq_1, kOr.eq_1, kNot.eq_1, kIt.eq_1, kIt.eq_2, kIt.eq_3, kIt.eq_4, kP.eq_1, kR1.eq_1, kR2.eq_1, sAdd.eq_1, sAdd.eq_2, sAdd.eq_3, sAdd.eq_4, sJ2.eq_1, sI2.eq_1, sPow, sLt.eq_1, sLt.eq_2, sLe, sGt, sGe, sMul.eq_1, sMul.eq_2, sMulB.eq_1, sMulB.eq_2, sMulB.eq_3, sLR1.eq_1, sLR2.eq_1, sTR1.eq_1, sTR2.eq_1, sIsBl.eq_1, dZip, kZip.eq_1, dDisp1, dSetN, dConsN, dAppN, dPutN, dFld, dFldS, dFldAug, dMeth, dMake, dGet1, dGet2, dDPop, dLPop, dLPopAt, dLClear, dEnum, kEnum.eq_1, dRng3, kR3.eq_1, dForN, dForKeys, dForItems, dLock, lkE, dBack, kNm_f, kNm_t, nmK_f, nmK_lst, nmK_dK, nmK_dT, isDct_dK, isDct_dT, isDct_fK, isDct_fT, sGetO_K, sGetO_S, sGetO_T, sGetO_fK, sGetO_fT, sIn_K, sIn_fK, sIn_T, sIn_fT, sPutC_lst, sPutC_K, sPutC_S, sPutC_T, keyOf_int, keyOf_str, keysC.eq_1, keysC.eq_2, itemsC.eq_1, rs_ref, rs_non, rs_bl, rs_int, rs_str, rs_ty, rs_lst, rs_tup, rs_dK, rs_dT, rs_scr, rs_wD, rs_iD, rs_lwD, resC_lst, resC_dK, resC_dT, resC_fK, resC_fT, resC_ins, updW_same, putFD.eq_1, putFD.eq_2, isL.eq_1, isL.eq_2, sNeg.eq_1, sLen.eq_1, sLen.eq_2, sLen.eq_3, sLen.eq_4, sLen.eq_5, sAbs.eq_1, sMax, sMin, sInt.eq_1, sInt.eq_2, sStr.eq_1, sList.eq_1, sList.eq_2, sList.eq_3, sTuple.eq_1, sTuple.eq_2, sTuple.eq_3, sIsN, sNotN, sIx.eq_1, sIx.eq_2, sIx.eq_3, sIx.eq_4, sIx.eq_5, sIx.eq_6, sIx.eq_7, sIx.eq_8, sIx.eq_9, sSl.eq_1, sSl.eq_2, sSl.eq_3, sSl.eq_4, sRev.eq_1, sRev.eq_2, sRev.eq_3, sAddI.eq_1, sAddI.eq_2, sPut.eq_1, sPut.eq_2, sPut.eq_3, sPut.eq_4, D.isNon, sEq_ii, sNe_ii, sEq_ww, sNe_ww, sEq_ll, sNe_ll, sIsi_ii, sIsi_ib, sIsi_ll, sIsi_tt, sIsi_ss, sEq_w, sEq_i, sEq_lw, sEq_lw', sEq_lle, sEq_lle', sNe_w, sNe_i, sNe_lle', sNe_lw', sEq_ss, sNe_ss, sEq_bb, sNe_bb, sIn_iw, sIn_ii, sIn_wl, sIn_wl', sSl3.eq_1, sSl3.eq_2, dSl3, isS.eq_1, isL.eq_1, isL.eq_2, isA.eq_1, dM0, dM1, sUpper.eq_1, sLower.eq_1, sStrip1.eq_1, sSfind.eq_1, sScount.eq_1, sSindex.eq_1, sSsplit.eq_1, sSjoin.eq_1, sSjoin.eq_2, fPop_snoc, fPop_snoc', startD, wipeD, List.map_cons, List.map_nil, List.length_cons, List.length_nil, List.length_map, List.cons_append, List.nil_append, List.replicate, List.set_cons_zero, List.set_cons_succ, List.set_nil, List.getElem?_cons_zero, List.getElem?_cons_succ, Bool.true_and, Bool.and_true, Bool.and_false, Bool.false_and, Bool.not_true, Bool.not_false, if_true, if_false, Bool.false_eq_true, reduceIte, and_true, true_and, decide_true, decide_false, not_true, Option.map_none, Option.map_some, Option.getD_none, Option.getD_some, Option.isSome_none, Option.isSome_some, Nat.zero_le, Nat.zero_add, Nat.reduceAdd, Nat.reduceSub, D.scal, Option.some.injEq, exists_eq_left', exists_eq_left, exists_eq', D.int.injEq, D.lst.injEq, D.tup.injEq, D.scr.injEq, D.str.injEq, List.cons.injEq, and_self]
  refine ⟨p, _, .ref r.t, rfl, R.ins, rmF_told .., ?_⟩
  try simp -implicitDefEqProofs only [R.td, dNext, dSet, dLst, dTup, dNil, dCons, dFor, dRng1_u, dRng2_u, dIt_u, oX, dC, dBin, dUn, dVarR, dVar, dApp, dExt, dUpd0, dPut, dAug, dRet, dRetV, dRetN, dBreak, dCont, dIf, dB_u, dTru_u, dTNot, dTAnd, dTOr, dAndV_u, dOrV_u, dNotV_u, dIfX, dChain_u, dCall, dSl, dNoP, dP_u, dLc, dDrop, dFrz, frzD, dAsg, dDicK, dDicT, gN, gT, gsC, gsN, kB.eq_1, kT.eq_1, kT.eq_2, kT.eq_3, kT.eq_4, kT.eq_5, kT.eq_6, kT.eq_7, kT.eq_8, kAnd.eq_1, kOr.eq_1, kNot.eq_1, kIt.eq_1, kIt.eq_2, kIt.eq_3, kIt.eq_4, kP.eq_1, kR1.eq_1, kR2.eq_1, sAdd.eq_1, sAdd.eq_2, sAdd.eq_3, sAdd.eq_4, sJ2.eq_1, sI2.eq_1, sPow, sLt.eq_1, sLt.eq_2, sLe, sGt, sGe, sMul.eq_1, sMul.eq_2, sMulB.eq_1, sMulB.eq_2, sMulB.eq_3, sLR1.eq_1, sLR2.eq_1, sTR1.eq_1, sTR2.eq_1, sIsBl.eq_1, dZip, kZip.eq_1, dDisp1, dSetN, dConsN, dAppN, dPutN, dFld, dFldS, dFldAug, dMeth, dMake, dGet1, dGet2, dDPop, dLPop, dLPopAt, dLClear, dEnum, kEnum.eq_1, dRng3, kR3.eq_1, dForN, dForKeys, dForItems, dLock, lkE, dBack, kNm_f, kNm_t, nmK_f, nmK_lst, nmK_dK, nmK_dT, isDct_dK, isDct_dT, isDct_fK, isDct_fT, sGetO_K, sGetO_S, sGetO_T, sGetO_fK, sGetO_fT, sIn_K, sIn_fK, sIn_T, sIn_fT, sPutC_lst, sPutC_K, sPutC_S, sPutC_T, keyOf_int, keyOf_str, keysC.eq_1, keysC.eq_2, itemsC.eq_1, rs_ref, rs_non, rs_bl, rs_int, rs_str, rs_ty, rs_lst, rs_tup, rs_dK, rs_dT, rs_scr, rs_wD, rs_iD, rs_lwD, resC_lst, resC_dK, resC_dT, resC_fK, resC_fT, resC_ins, updW_same, putFD.eq_1, putFD.eq_2, isL.eq_1, isL.eq_2, sNeg.eq_1, sLen.eq_1, sLen.eq_2, sLen.eq_3, sLen.eq_4, sLen.eq_5, sAbs.eq_1, sMax, sMin, sInt.eq_1, sInt.eq_2, sStr.eq_1, sList.eq_1, sList.eq_2, sList.eq_3, sTuple.eq_1, sTuple.eq_2, sTuple.eq_3, sIsN, sNotN, sIx.eq_1, sIx.eq_2, sIx.eq_3, sIx.eq_4, sIx.eq_5, sIx.eq_6, sIx.eq_7, sIx.eq_8, sIx.eq_9, sSl.eq_1, sSl.eq_2, sSl.eq_3, sSl.eq_4, sRev.eq_1, sRev.eq_2, sRev.eq_3, sAddI.eq_1, sAddI.eq_2, sPut.eq_1, sPut.eq_2, sPut.eq_3, sPut.eq_4, D.isNon, sEq_ii, sNe_ii, sEq_ww, sNe_ww, sEq_ll, sNe_ll, sIsi_ii, sIsi_ib, sIsi_ll, sIsi_tt, sIsi_ss, sEq_w, sEq_i, sEq_lw, sEq_lw', sEq_lle, sEq_lle', sNe_w, sNe_i, sNe_lle', sNe_lw', sEq_ss, sNe_ss, sEq_bb, sNe_bb, sIn_iw, sIn_ii, sIn_wl, sIn_wl', sSl3.eq_1, sSl3.eq_2, dSl3, isS.eq_1, isL.eq_1, isL.eq_2, isA.eq_1, dM0, dM1, sUpper.eq_1, sLower.eq_1, sStrip1.eq_1, sSfind.eq_1, sScount.eq_1, sSindex.eq_1, sSsplit.eq_1, sSjoin.eq_1, sSjoin.eq_2, fPop_snoc, fPop_snoc', startD, wipeD, List.map_cons, List.map_nil, List.length_cons, List.length_nil, List.length_map, List.cons_append, List.nil_append, List.replicate, List.set_cons_zero, List.set_cons_succ, List.set_nil, List.getElem?_cons_zero, List.getElem?_cons_succ, Bool.true_and, Bool.and_true, Bool.and_false, Bool.false_and, Bool.not_true, Bool.not_false, if_true, if_false, Bool.false_eq_true, reduceIte, and_true, true_and, decide_true, decide_false, not_true, Option.map_none, Option.map_some, Option.getD_none, Option.getD_some, Option.isSome_none, Option.isSome_some, Nat.zero_le, Nat.zero_add, Nat.reduceAdd, Nat.reduceSub, D.scal, Option.some.injEq, exists_eq_left', exists_eq_left, exists_eq', D.int.injEq, D.lst.injEq, D.tup.injEq, D.scr.injEq, D.str.injEq, List.cons.injEq, and_self]
  exact q
/-- as elders are told -/
structure ElOk (el : List Nat) : Prop where
  le : ∀ (i v : Nat), el[i]? = some v → v ≤ i
def root (el : List Nat) (r : Nat) : Nat := if h : (el[r]?).getD r < r then root el ((el[r]?).getD r) else r
termination_by r
theorem root_lt {el : List Nat} {r v : Nat} (h : el[r]? = some v) (hv : v < r) : root el r = root el v := by
  rw [root, h]
  simp [hv]
theorem root_eq {el : List Nat} {r : Nat} (h : el[r]? = some r) : root el r = r := by
  rw [root, h]
  simp
def T_Rooms_elder : DSp := fun ds w P => ∃ (p : Addr) (r : RP) (S : RS) (room : Nat), ds = [.ref p, .int room] ∧ Rm w p r S ∧ ElOk S.el ∧ room < S.el.length ∧ P false (.int (root S.el room : Nat)) w
theorem len_Rooms_elder (ds : List D) (w : Om) (P : Bool → D → Om → Prop) (h : T_Rooms_elder ds w P) : ds.length = 2 := by first | (have h := h.1; subst h; rfl) | (obtain ⟨rfl, _⟩ := h; rfl) | (obtain ⟨_, rfl, _⟩ := h; rfl) | (obtain ⟨_, _, rfl, _⟩ := h; rfl) | (obtain ⟨_, _, _, rfl, _⟩ := h; rfl) | (obtain ⟨_, _, _, _, rfl, _⟩ := h; rfl) | (obtain ⟨_, _, _, _, _, rfl, _⟩ := h; rfl) | (obtain ⟨_, _, _, _, _, _, rfl, _⟩ := h; rfl) | (obtain ⟨_, _, _, _, _, _, _, rfl, _⟩ := h; rfl) | (obtain ⟨_, _, _, _, _, _, _, _, rfl, _⟩ := h; rfl) | (obtain ⟨_, _, _, _, _, _, _, _, _, rfl, _⟩ := h; rfl) | (obtain ⟨_, _, _, _, _, _, _, _, _, _, rfl, _⟩ := h; rfl) | (obtain ⟨_, _, _, _, _, _, _, _, _, _, _, rfl, _⟩ := h; rfl)
def b_Rooms_elder : DS := (dSeq (dWhile (dB (dBin sNe (oX (dBin sIx (oX (dFld "Rooms" "elders" (dVarR 0))) (dVarR 1))) (dVarR 1))) (dSet false 1 (dBin sIx (oX (dFld "Rooms" "elders" (dVarR 0))) (dVarR 1))))
    (dRetV 1))
theorem v_Rooms_elder (ds : List D) (w : Om) (P : Bool → D → Om → Prop) (h : T_Rooms_elder ds w P) : b_Rooms_elder { nx := fun _ w => P false .non w, rt := P } (startD ["self", "room"] ds) w := by
  unfold b_Rooms_elder
  obtain ⟨p, r, S, room, rfl, R, ok, hl, q⟩ := h
  refine seq_cut (fun δ w' => w' = w ∧ δ = [some (false, .ref p), some (false, .int (root S.el room : Nat))]) (fun N h => ?_) ?_
  · refine while_go (α := Nat) (fun a δ w' => w' = w ∧ a < S.el.length ∧ root S.el a = root S.el room ∧ δ = [some (false, .ref p), some (false, .int (a : Nat))]) (fun a => a) ?_ room ⟨rfl, hl, rfl, rfl⟩
    rintro a δ w' ⟨rfl, ha, hr, rfl⟩ N2 hN2
    try simp -implicitDefEqProofs only [dNext, dSet, dLst, dTup, dNil, dCons, dFor, dRng1_u, dRng2_u, dIt_u, oX, dC, dBin, dUn, dVarR, dVar, dApp, dExt, dUpd0, dPut, dAug, dRet, dRetV, dRetN, dBreak, dCont, dIf, dB_u, dTru_u, dTNot, dTAnd, dTOr, dAndV_u, dOrV_u, dNotV_u, dIfX, dChain_u, dCall, dSl, dNoP, dP_u, dLc, dDrop, dFrz, frzD, dAsg, dDicK, dDicT, gN, gT, gsC, gsN, kB.eq_1, kT.eq_1, kT.eq_2, kT.eq_3, kT.eq_4, kT.eq_5, kT.eq_6, kT.eq_7, kT.eq_8, kAnd.eq_1, kOr.eq_1, kNot.eq_1, kIt.eq_1, kIt.eq_2, kIt.eq_3, kIt.eq_4, kP.eq_1, kR1.eq_1, kR2.eq_1, sAdd.eq_1, sAdd.eq_2, sAdd.eq_3, sAdd.eq_4, sJ2.eq_1, sI2.eq_1, sPow, sLt.eq_1, sLt.eq_2, sLe, sGt, sGe, sMul.eq_1, sMul.eq_2, sMulB.eq_1, sMulB.eq_2, sMulB.eq_3, sLR1.eq_1, sLR2.eq_1, sTR1.eq_1, sTR2.eq_1, sIsBl.eq_1, dZip, kZip.eq_1, dDisp1, dSetN, dConsN, dAppN, dPutN, dFld, dFldS, dFldAug, dMeth, dMake, dGet1, dGet2, dDPop, dLPop, dLPopAt, dLClear, dEnum, kEnum.eq_1, dRng3, kR3.eq_1, dForN, dForKeys, dForItems, dLock, lkE, dBack, kNm_f, kNm_t, nmK_f, nmK_lst, nmK_dK, nmK_dT, isDct_dK, isDct_dT, isDct_fK, isDct_fT, sGetO_K, sGetO_S, sGetO_T, sGetO_fK, sGetO_fT, sIn_K, sIn_fK, sIn_T, sIn_fT, sPutC_lst, sPutC_K, sPutC_S, sPutC_T, keyOf_int, keyOf_str, keysC.eq_1, keysC.eq_2, itemsC.eq_1, rs_ref, rs_non, rs_bl, rs_int, rs_str, rs_ty, rs_lst, rs_tup, rs_dK, rs_dT, rs_scr, rs_wD, rs_iD, rs_lwD, resC_lst, resC_dK, resC_dT, resC_fK, resC_fT, resC_ins, updW_same, putFD.eq_1, putFD.eq_2, isL.eq_1, isL.eq_2, sNeg.eq_1, sLen.eq_1, sLen.eq_2, sLen.eq_3, sLen.eq_4, sLen.eq_5, sAbs.eq_1, sMax, sMin, sInt.eq_1, sInt.eq_2, sStr.eq_1, sList.eq_1, sList.eq_2, sList.eq_3, sTuple.eq_1, sTuple.eq_2, sTuple.eq_3, sIsN, sNotN, sIx.eq_1, sIx.eq_2, sIx.eq_3, sIx.eq_4, sIx.eq_5, sIx.eq_6, sIx.eq_7, sIx.eq_8, sIx.eq_9, sSl.eq_1, sSl.eq_2, sSl.eq_3, sSl.eq_4, sRev.eq_1, sRev.eq_2, sRev.eq_3, sAddI.eq_1, sAddI.eq_2, sPut.eq_1, sPut.eq_2, sPut.eq_3, sPut.eq_4, D.isNon, sEq_ii, sNe_ii, sEq_ww, sNe_ww, sEq_ll, sNe_ll, sIsi_ii, sIsi_ib, sIsi_ll, sIsi_tt, sIsi_ss, sEq_w, sEq_i, sEq_lw, sEq_lw', sEq_lle, sEq_lle', sNe_w, sNe_i, sNe_lle', sNe_lw', sEq_ss, sNe_ss, sEq_bb, sNe_bb, sIn_iw, sIn_ii, sIn_wl, sIn_wl', sSl3.eq_1, sSl3.eq_2, dSl3, isS.eq_1, isL.eq_1, isL.eq_2, isA.eq_1, dM0, dM1, sUpper.eq_1, sLower.eq_1, sStrip1.eq_1, sSfind.eq_1, sScount.eq_1, sSindex.eq_1, sSsplit.eq_1, sSjoin.eq_1, sSjoin.eq_2, fPop_snoc, fPop_snoc', startD, wipeD, List.map_cons, List.map_nil, List.length_cons, List.length_nil, List.length_map, List.cons_append, List.nil_append, List.replicate, List.set_cons_zero, List.set_cons_succ, List.set_nil, List.getElem?_cons_zero, List.getElem?_cons_succ, Bool.true_and, Bool.and_true, Bool.and_false, Bool.false_and, Bool.not_true, Bool.not_false, if_true, if_false, Bool.false_eq_true, reduceIte, and_true, true_and, decide_true, decide_false, not_true, Option.map_none, Option.map_some, Option.getD_none, Option.getD_some, Option.isSome_none, Option.isSome_some, Nat.zero_le, Nat.zero_add, Nat.reduceAdd, Nat.reduceSub, D.scal, Option.some.injEq, exists_eq_left', exists_eq_left, exists_eq', D.int.injEq, D.lst.injEq, D.tup.injEq, D.scr.injEq, D.str.injEq, List.cons.injEq, and_self]
    refine ⟨p, _, .ref r.e, rfl, R.ins, rmF_elders .., ?_⟩
    try simp -implicitDefEqProofs only [R.el, dNext, dSet, dLst, dTup, dNil, dCons, dFor, dRng1_u, dRng2_u, dIt_u, oX, dC, dBin, dUn, dVarR, dVar, dApp, dExt, dUpd0, dPut, dAug, dRet, dRetV, dRetN, dBreak, dCont, dIf, dB_u, dTru_u, dTNot, dTAnd, dTOr, dAndV_u, dOrV_u, dNotV_u, dIfX, dChain_u, dCall, dSl, dNoP, dP_u, dLc, dDrop, dFrz, frzD, dAsg, dDicK, dDicT, gN, gT, gsC, gsN, kB.eq_1, kT.eq_1, kT.eq_2, kT.eq_3, kT.eq_4, kT.eq_5, kT.eq_6, kT.eq_7, kT.eq_8, kAnd.eq_1, kOr.eq_1, kNot.eq_1, kIt.eq_1, kIt.eq_2, kIt.eq_3, kIt.eq_4, kP.eq_1, kR1.eq_1, kR2.eq_1, sAdd.eq_1, sAdd.eq_2, sAdd.eq_3, sAdd.eq_4, sJ2.eq_1, sI2.eq_1, sPow, sLt.eq_1, sLt.eq_2, sLe, sGt, sGe, sMul.eq_1, sMul.eq_2, sMulB.eq_1, sMulB.eq_2, sMulB.eq_3, sLR1.eq_1, sLR2.eq_1, sTR1.eq_1, sTR2.eq_1, sIsBl.eq_1, dZip, kZip.eq_1, dDisp1, dSetN, dConsN, dAppN, dPutN, dFld, dFldS, dFldAug, dMeth, dMake, dGet1, dGet2, dDPop, dLPop, dLPopAt, dLClear, dEnum, kEnum.eq_1, dRng3, kR3.eq_1, dForN, dForKeys, dForItems, dLock, lkE, dBack, kNm_f, kNm_t, nmK_f, nmK_lst, nmK_dK, nmK_dT, isDct_dK, isDct_dT, isDct_fK, isDct_fT, sGetO_K, sGetO_S, sGetO_T, sGetO_fK, sGetO_fT, sIn_K, sIn_fK, sIn_T, sIn_fT, sPutC_lst, sPutC_K, sPutC_S, sPutC_T, keyOf_int, keyOf_str, keysC.eq_1, keysC.eq_2, itemsC.eq_1, rs_ref, rs_non, rs_bl, rs_int, rs_str, rs_ty, rs_lst, rs_tup, rs_dK, rs_dT, rs_scr, rs_wD, rs_iD, rs_lwD, resC_lst, resC_dK, resC_dT, resC_fK, resC_fT, resC_ins, updW_same, putFD.eq_1, putFD.eq_2, isL.eq_1, isL.eq_2, sNeg.eq_1, sLen.eq_1, sLen.eq_2, sLen.eq_3, sLen.eq_4, sLen.eq_5, sAbs.eq_1, sMax, sMin, sInt.eq_1, sInt.eq_2, sStr.eq_1, sList.eq_1, sList.eq_2, sList.eq_3, sTuple.eq_1, sTuple.eq_2, sTuple.eq_3, sIsN, sNotN, sIx.eq_1, sIx.eq_2, sIx.eq_3, sIx.eq_4, sIx.eq_5, sIx.eq_6, sIx.eq_7, sIx.eq_8, sIx.eq_9, sSl.eq_1, sSl.eq_2, sSl.eq_3, sSl.eq_4, sRev.eq_1, sRev.eq_2, sRev.eq_3, sAddI.eq_1, sAddI.eq_2, sPut.eq_1, sPut.eq_2, sPut.eq_3, sPut.eq_4, D.isNon, sEq_ii, sNe_ii, sEq_ww, sNe_ww, sEq_ll, sNe_ll, sIsi_ii, sIsi_ib, sIsi_ll, sIsi_tt, sIsi_ss, sEq_w, sEq_i, sEq_lw, sEq_lw', sEq_lle, sEq_lle', sNe_w, sNe_i, sNe_lle', sNe_lw', sEq_ss, sNe_ss, sEq_bb, sNe_bb, sIn_iw, sIn_ii, sIn_wl, sIn_wl', sSl3.eq_1, sSl3.eq_2, dSl3, isS.eq_1, isL.eq_1, isL.eq_2, isA.eq_1, dM0, dM1, sUpper.eq_1, sLower.eq_1, sStrip1.eq_1, sSfind.eq_1, sScount.eq_1, sSindex.eq_1, sSsplit.eq_1, sSjoin.eq_1, sSjoin.eq_2, fPop_snoc, fPop_snoc', startD, wipeD, List.map_cons, List.map_nil, List.length_cons, List.length_nil, List.length_map, List.cons_append, List.nil_append, List.replicate, List.set_cons_zero, List.set_cons_succ, List.set_nil, List.getElem?_cons_zero, List.getElem?_cons_succ, Bool.true_and, Bool.and_true, Bool.and_false, Bool.false_and, Bool.not_true, Bool.not_false, if_true, if_false, Bool.false_eq_true, reduceIte, and_true, true_and, decide_true, decide_false, not_true, Option.map_none, Option.map_some, Option.getD_none, Option.getD_some, Option.isSome_none, Option.isSome_some, Nat.zero_le, Nat.zero_add, Nat.reduceAdd, Nat.reduceSub, D.scal, Option.some.injEq, exists_eq_left', exists_eq_left, exists_eq', D.int.injEq, D.lst.injEq, D.tup.injEq, D.scr.injEq, D.str.injEq, List.cons.injEq, and_self]
    refine ⟨_, get_nat ha, ?_⟩
    have hv := List.getElem?_eq_getElem ha
    have hle := ok.le a _ hv
    generalize S.el[a] = v at hv hle
    try simp -implicitDefEqProofs only [hv, Option.getD_some, dNext, dSet, dLst, dTup, dNil, dCons, dFor, dRng1_u, dRng2_u, dIt_u, oX, dC, dBin, dUn, dVarR, dVar, dApp, dExt, dUpd0, dPut, dAug, dRet, dRetV, dRetN, dBreak, dCont, dIf, dB_u, dTru_u, dTNot, dTAnd, dTOr, dAndV_u, dOrV_u, dNotV_u, dIfX, dChain_u, dCall, dSl, dNoP, dP_u, dLc, dDrop, dFrz, frzD, dAsg, dDicK, dDicT, gN, gT, gsC, gsN, kB.eq_1, kT.eq_1, kT.eq_2, kT.eq_3, kT.eq_4, kT.eq_5, kT.eq_6, kT.eq_7, kT.eq_8, kAnd.eq_1, kOr.eq_1, kNot.eq_1, kIt.eq_1, kIt.eq_2, kIt.eq_3, kIt.eq_4, kP.eq_1, kR1.eq_1, kR2.eq_1, sAdd.eq_1, sAdd.eq_2, sAdd.eq_3, sAdd.eq_4, sJ2.eq_1, sI2.eq_1, sPow, sLt.eq_1, sLt.eq_2, sLe, sGt, sGe, sMul.eq_1, sMul.eq_2, sMulB.eq_1, sMulB.eq_2, sMulB.eq_3, sLR1.eq_1, sLR2.eq_1, sTR1.eq_1, sTR2.eq_1, sIsBl.eq_1, dZip, kZip.eq_1, dDisp1, dSetN, dConsN, dAppN, dPutN, dFld, dFldS, dFldAug, dMeth, dMake, dGet1, dGet2, dDPop, dLPop, dLPopAt, dLClear, dEnum, kEnum.eq_1, dRng3, kR3.eq_1, dForN, dForKeys, dForItems, dLock, lkE, dBack, kNm_f, kNm_t, nmK_f, nmK_lst, nmK_dK, nmK_dT, isDct_dK, isDct_dT, isDct_fK, isDct_fT, sGetO_K, sGetO_S, sGetO_T, sGetO_fK, sGetO_fT, sIn_K, sIn_fK, sIn_T, sIn_fT, sPutC_lst, sPutC_K, sPutC_S, sPutC_T, keyOf_int, keyOf_str, keysC.eq_1, keysC.eq_2, itemsC.eq_1, rs_ref, rs_non, rs_bl, rs_int, rs_str, rs_ty, rs_lst, rs_tup, rs_dK, rs_dT, rs_scr, rs_wD, rs_iD, rs_lwD, resC_lst, resC_dK, resC_dT, resC_fK, resC_fT, resC_ins, updW_same, putFD.eq_1, putFD.eq_2, isL.eq_1, isL.eq_2, sNeg.eq_1, sLen.eq_1, sLen.eq_2, sLen.eq_3, sLen.eq_4, sLen.eq_5, sAbs.eq_1, sMax, sMin, sInt.eq_1, sInt.eq_2, sStr.eq_1, sList.eq_1, sList.eq_2, sList.eq_3, sTuple.eq_1, sTuple.eq_2, sTuple.eq_3, sIsN, sNotN, sIx.eq_1, sIx.eq_2, sIx.eq_3, sIx.eq_4, sIx.eq_5, sIx.eq_6, sIx.eq_7, sIx.eq_8, sIx.eq_9, sSl.eq_1, sSl.eq_2, sSl.eq_3, sSl.eq_4, sRev.eq_1, sRev.eq_2, sRev.eq_3, sAddI.eq_1, sAddI.eq_2, sPut.eq_1, sPut.eq_2, sPut.eq_3, sPut.eq_4, D.isNon, sEq_ii, sNe_ii, sEq_ww, sNe_ww, sEq_ll, sNe_ll, sIsi_ii, sIsi_ib, sIsi_ll, sIsi_tt, sIsi_ss, sEq_w, sEq_i, sEq_lw, sEq_lw', sEq_lle, sEq_lle', sNe_w, sNe_i, sNe_lle', sNe_lw', sEq_ss, sNe_ss, sEq_bb, sNe_bb, sIn_iw, sIn_ii, sIn_wl, sIn_wl', sSl3.eq_1, sSl3.eq_2, dSl3, isS.eq_1, isL.eq_1, isL.eq_2, isA.eq_1, dM0, dM1, sUpper.eq_1, sLower.eq_1, sStrip1.eq_1, sSfind.eq_1, sScount.eq_1, sSindex.eq_1, sSsplit.eq_1, sSjoin.eq_1, sSjoin.eq_2, fPop_snoc, fPop_snoc', startD, wipeD, List.map_cons, List.map_nil, List.length_cons, List.length_nil, List.length_map, List.cons_append, List.nil_append, List.replicate, List.set_cons_zero, List.set_cons_succ, List.set_nil, List.getElem?_cons_zero, List.getElem?_cons_succ, Bool.true_and, Bool.and_true, Bool.and_false, Bool.false_and, Bool.not_true, Bool.not_false, if_true, if_false, Bool.false_eq_true, reduceIte, and_true, true_and, decide_true, decide_false, not_true, Option.map_none, Option.map_some, Option.getD_none, Option.getD_some, Option.isSome_none, Option.isSome_some, Nat.zero_le, Nat.zero_add, Nat.reduceAdd, Nat.reduceSub, D.scal, Option.some.injEq, exists_eq_left', exists_eq_left, exists_eq', D.int.injEq, D.lst.injEq, D.tup.injEq, D.scr.injEq, D.str.injEq, List.cons.injEq, and_self]
    by_cases e : v = a
    · subst e
      refine if_f (by simp) ?_
      rw [root_eq hv] at hr
      rw [← hr] at h
      exact h _ _ ⟨rfl, rfl⟩
    · refine if_t (by simp; omega) ?_
      try simp -implicitDefEqProofs only [dNext, dSet, dLst, dTup, dNil, dCons, dFor, dRng1_u, dRng2_u, dIt_u, oX, dC, dBin, dUn, dVarR, dVar, dApp, dExt, dUpd0, dPut, dAug, dRet, dRetV, dRetN, dBreak, dCont, dIf, dB_u, dTru_u, dTNot, dTAnd, dTOr, dAndV_u, dOrV_u, dNotV_u, dIfX, dChain_u, dCall, dSl, dNoP, dP_u, dLc, dDrop, dFrz, frzD, dAsg, dDicK, dDicT, gN, gT, gsC, gsN, kB.eq_1, kT.eq_1, kT.eq_2, kT.eq_3, kT.eq_4, kT.eq_5, kT.eq_6, kT.eq_7, kT.eq_8, kAnd.eq_1, kOr.eq_1, kNot.eq_1, kIt.eq_1, kIt.eq_2, kIt.eq_3, kIt.eq_4, kP.eq_1, kR1.eq_1, kR2.eq_1, sAdd.eq_1, sAdd.eq_2, sAdd.eq_3, sAdd.eq_4, sJ2.eq_1, sI2.eq_1, sPow, sLt.eq_1, sLt.eq_2, sLe, sGt, sGe, sMul.eq_1, sMul.eq_2, sMulB.eq_1, sMulB.eq_2, sMulB.eq_3, sLR1.eq_1, sLR2.eq_1, sTR1.eq_1, sTR2.eq_1, sIsBl.eq_1, dZip, kZip.eq_1, dDisp1, dSetN, dConsN, dAppN, dPutN, dFld, dFldS, dFldAug, dMeth, dMake, dGet1, dGet2, dDPop, dLPop, dLPopAt, dLClear, dEnum, kEnum.eq_1, dRng3, kR3.eq_1, dForN, dForKeys, dForItems, dLock, lkE, dBack, kNm_f, kNm_t, nmK_f, nmK_lst, nmK_dK, nmK_dT, isDct_dK, isDct_dT, isDct_fK, isDct_fT, sGetO_K, sGetO_S, sGetO_T, sGetO_fK, sGetO_fT, sIn_K, sIn_fK, sIn_T, sIn_fT, sPutC_lst, sPutC_K, sPutC_S, sPutC_T, keyOf_int, keyOf_str, keysC.eq_1, keysC.eq_2, itemsC.eq_1, rs_ref, rs_non, rs_bl, rs_int, rs_str, rs_ty, rs_lst, rs_tup, rs_dK, rs_dT, rs_scr, rs_wD, rs_iD, rs_lwD, resC_lst, resC_dK, resC_dT, resC_fK, resC_fT, resC_ins, updW_same, putFD.eq_1, putFD.eq_2, isL.eq_1, isL.eq_2, sNeg.eq_1, sLen.eq_1, sLen.eq_2, sLen.eq_3, sLen.eq_4, sLen.eq_5, sAbs.eq_1, sMax, sMin, sInt.eq_1, sInt.eq_2, sStr.eq_1, sList.eq_1, sList.eq_2, sList.eq_3, sTuple.eq_1, sTuple.eq_2, sTuple.eq_3, sIsN, sNotN, sIx.eq_1, sIx.eq_2, sIx.eq_3, sIx.eq_4, sIx.eq_5, sIx.eq_6, sIx.eq_7, sIx.eq_8, sIx.eq_9, sSl.eq_1, sSl.eq_2, sSl.eq_3, sSl.eq_4, sRev.eq_1, sRev.eq_2, sRev.eq_3, sAddI.eq_1, sAddI.eq_2, sPut.eq_1, sPut.eq_2, sPut.eq_3, sPut.eq_4, D.isNon, sEq_ii, sNe_ii, sEq_ww, sNe_ww, sEq_ll, sNe_ll, sIsi_ii, sIsi_ib, sIsi_ll, sIsi_tt, sIsi_ss, sEq_w, sEq_i, sEq_lw, sEq_lw', sEq_lle, sEq_lle', sNe_w, sNe_i, sNe_lle', sNe_lw', sEq_ss, sNe_ss, sEq_bb, sNe_bb, sIn_iw, sIn_ii, sIn_wl, sIn_wl', sSl3.eq_1, sSl3.eq_2, dSl3, isS.eq_1, isL.eq_1, isL.eq_2, isA.eq_1, dM0, dM1, sUpper.eq_1, sLower.eq_1, sStrip1.eq_1, sSfind.eq_1, sScount.eq_1, sSindex.eq_1, sSsplit.eq_1, sSjoin.eq_1, sSjoin.eq_2, fPop_snoc, fPop_snoc', startD, wipeD, List.map_cons, List.map_nil, List.length_cons, List.length_nil, List.length_map, List.cons_append, List.nil_append, List.replicate, List.set_cons_zero, List.set_cons_succ, List.set_nil, List.getElem?_cons_zero, List.getElem?_cons_succ, Bool.true_and, Bool.and_true, Bool.and_false, Bool.false_and, Bool.not_true, Bool.not_false, if_true, if_false, Bool.false_eq_true, reduceIte, and_true, true_and, decide_true, decide_false, not_true, Option.map_none, Option.map_some, Option.getD_none, Option.getD_some, Option.isSome_none, Option.isSome_some, Nat.zero_le, Nat.zero_add, Nat.reduceAdd, Nat.reduceSub, D.scal, Option.some.injEq, exists_eq_left', exists_eq_left, exists_eq', D.int.injEq, D.lst.injEq, D.tup.injEq, D.scr.injEq, D.str.injEq, List.cons.injEq, and_self]
      refine ⟨p, _, .ref r.e, rfl, R.ins, rmF_elders .., ?_⟩
      try simp -implicitDefEqProofs only [R.el, dNext, dSet, dLst, dTup, dNil, dCons, dFor, dRng1_u, dRng2_u, dIt_u, oX, dC, dBin, dUn, dVarR, dVar, dApp, dExt, dUpd0, dPut, dAug, dRet, dRetV, dRetN, dBreak, dCont, dIf, dB_u, dTru_u, dTNot, dTAnd, dTOr, dAndV_u, dOrV_u, dNotV_u, dIfX, dChain_u, dCall, dSl, dNoP, dP_u, dLc, dDrop, dFrz, frzD, dAsg, dDicK, dDicT, gN, gT, gsC, gsN, kB.eq_1, kT.eq_1, kT.eq_2, kT.eq_3, kT.eq_4, kT.eq_5, kT.eq_6, kT.eq_7, kT.eq_8, kAnd.eq_1, kOr.eq_1, kNot.eq_1, kIt.eq_1, kIt.eq_2, kIt.eq_3, kIt.eq_4, kP.eq_1, kR1.eq_1, kR2.eq_1, sAdd.eq_1, sAdd.eq_2, sAdd.eq_3, sAdd.eq_4, sJ2.eq_1, sI2.eq_1, sPow, sLt.eq_1, sLt.eq_2, sLe, sGt, sGe, sMul.eq_1, sMul.eq_2, sMulB.eq_1, sMulB.eq_2, sMulB.eq_3, sLR1.eq_1, sLR2.eq_1, sTR1.eq_1, sTR2.eq_1, sIsBl.eq_1, dZip, kZip.eq_1, dDisp1, dSetN, dConsN, dAppN, dPutN, dFld, dFldS, dFldAug, dMeth, dMake, dGet1, dGet2, dDPop, dLPop, dLPopAt, dLClear, dEnum, kEnum.eq_1, dRng3, kR3.eq_1, dForN, dForKeys, dForItems, dLock, lkE, dBack, kNm_f, kNm_t, nmK_f, nmK_lst, nmK_dK, nmK_dT, isDct_dK, isDct_dT, isDct_fK, isDct_fT, sGetO_K, sGetO_S, sGetO_T, sGetO_fK, sGetO_fT, sIn_K, sIn_fK, sIn_T, sIn_fT, sPutC_lst, sPutC_K, sPutC_S, sPutC_T, keyOf_int, keyOf_str, keysC.eq_1, keysC.eq_2, itemsC.eq_1, rs_ref, rs_non, rs_bl, rs_int, rs_str, rs_ty, rs_lst, rs_tup, rs_dK, rs_dT, rs_scr, rs_wD, rs_iD, rs_lwD, resC_lst, resC_dK, resC_dT, resC_fK, resC_fT, resC_ins, updW_same, putFD.eq_1, putFD.eq_2, isL.eq_1, isL.eq_2, sNeg.eq_1, sLen.eq_1, sLen.eq_2, sLen.eq_3, sLen.eq_4, sLen.eq_5, sAbs.eq_1, sMax, sMin, sInt.eq_1, sInt.eq_2, sStr.eq_1, sList.eq_1, sList.eq_2, sList.eq_3, sTuple.eq_1, sTuple.eq_2, sTuple.eq_3, sIsN, sNotN, sIx.eq_1, sIx.eq_2, sIx.eq_3, sIx.eq_4, sIx.eq_5, sIx.eq_6, sIx.eq_7, sIx.eq_8, sIx.eq_9, sSl.eq_1, sSl.eq_2, sSl.eq_3, sSl.eq_4, sRev.eq_1, sRev.eq_2, sRev.eq_3, sAddI.eq_1, sAddI.eq_2, sPut.eq_1, sPut.eq_2, sPut.eq_3, sPut.eq_4, D.isNon, sEq_ii, sNe_ii, sEq_ww, sNe_ww, sEq_ll, sNe_ll, sIsi_ii, sIsi_ib, sIsi_ll, sIsi_tt, sIsi_ss, sEq_w, sEq_i, sEq_lw, sEq_lw', sEq_lle, sEq_lle', sNe_w, sNe_i, sNe_lle', sNe_lw', sEq_ss, sNe_ss, sEq_bb, sNe_bb, sIn_iw, sIn_ii, sIn_wl, sIn_wl', sSl3.eq_1, sSl3.eq_2, dSl3, isS.eq_1, isL.eq_1, isL.eq_2, isA.eq_1, dM0, dM1, sUpper.eq_1, sLower.eq_1, sStrip1.eq_1, sSfind.eq_1, sScount.eq_1, sSindex.eq_1, sSsplit.eq_1, sSjoin.eq_1, sSjoin.eq_2, fPop_snoc, fPop_snoc', startD, wipeD, List.map_cons, List.map_nil, List.length_cons, List.length_nil, List.length_map, List.cons_append, List.nil_append, List.replicate, List.set_cons_zero, List.set_cons_succ, List.set_nil, List.getElem?_cons_zero, List.getElem?_cons_succ, Bool.true_and, Bool.and_true, Bool.and_false, Bool.false_and, Bool.not_true, Bool.not_false, if_true, if_false, Bool.false_eq_true, reduceIte, and_true, true_and, decide_true, decide_false, not_true, Option.map_none, Option.map_some, Option.getD_none, Option.getD_some, Option.isSome_none, Option.isSome_some, Nat.zero_le, Nat.zero_add, Nat.reduceAdd, Nat.reduceSub, D.scal, Option.some.injEq, exists_eq_left', exists_eq_left, exists_eq', D.int.injEq, D.lst.injEq, D.tup.injEq, D.scr.injEq, D.str.injEq, List.cons.injEq, and_self]
      refine ⟨_, get_nat ha, ?_⟩
      try simp -implicitDefEqProofs only [hv, Option.getD_some, dNext, dSet, dLst, dTup, dNil, dCons, dFor, dRng1_u, dRng2_u, dIt_u, oX, dC, dBin, dUn, dVarR, dVar, dApp, dExt, dUpd0, dPut, dAug, dRet, dRetV, dRetN, dBreak, dCont, dIf, dB_u, dTru_u, dTNot, dTAnd, dTOr, dAndV_u, dOrV_u, dNotV_u, dIfX, dChain_u, dCall, dSl, dNoP, dP_u, dLc, dDrop, dFrz, frzD, dAsg, dDicK, dDicT, gN, gT, gsC, gsN, kB.eq_1, kT.eq_1, kT.eq_2, kT.eq_3, kT.eq_4, kT.eq_5, kT.eq_6, kT.eq_7, kT.eq_8, kAnd.eq_1, kOr.eq_1, kNot.eq_1, kIt.eq_1, kIt.eq_2, kIt.eq_3, kIt.eq_4, kP.eq_1, kR1.eq_1, kR2.eq_1, sAdd.eq_1, sAdd.eq_2, sAdd.eq_3, sAdd.eq_4, sJ2.eq_1, sI2.eq_1, sPow, sLt.eq_1, sLt.eq_2, sLe, sGt, sGe, sMul.eq_1, sMul.eq_2, sMulB.eq_1, sMulB.eq_2, sMulB.eq_3, sLR1.eq_1, sLR2.eq_1, sTR1.eq_1, sTR2.eq_1, sIsBl.eq_1, dZip, kZip.eq_1, dDisp1, dSetN, dConsN, dAppN, dPutN, dFld, dFldS, dFldAug, dMeth, dMake, dGet1, dGet2, dDPop, dLPop, dLPopAt, dLClear, dEnum, kEnum.eq_1, dRng3, kR3.eq_1, dForN, dForKeys, dForItems, dLock, lkE, dBack, kNm_f, kNm_t, nmK_f, nmK_lst, nmK_dK, nmK_dT, isDct_dK, isDct_dT, isDct_fK, isDct_fT, sGetO_K, sGetO_S, sGetO_T, sGetO_fK, sGetO_fT, sIn_K, sIn_fK, sIn_T, sIn_fT, sPutC_lst, sPutC_K, sPutC_S, sPutC_T, keyOf_int, keyOf_str, keysC.eq_1, keysC.eq_2, itemsC.eq_1, rs_ref, rs_non, rs_bl, rs_int, rs_str, rs_ty, rs_lst, rs_tup, rs_dK, rs_dT, rs_scr, rs_wD, rs_iD, rs_lwD, resC_lst, resC_dK, resC_dT, resC_fK, resC_fT, resC_ins, updW_same, putFD.eq_1, putFD.eq_2, isL.eq_1, isL.eq_2, sNeg.eq_1, sLen.eq_1, sLen.eq_2, sLen.eq_3, sLen.eq_4, sLen.eq_5, sAbs.eq_1, sMax, sMin, sInt.eq_1, sInt.eq_2, sStr.eq_1, sList.eq_1, sList.eq_2, sList.eq_3, sTuple.eq_1, sTuple.eq_2, sTuple.eq_3, sIsN, sNotN, sIx.eq_1, sIx.eq_2, sIx.eq_3, sIx.eq_4, sIx.eq_5, sIx.eq_6, sIx.eq_7, sIx.eq_8, sIx.eq_9, sSl.eq_1, sSl.eq_2, sSl.eq_3, sSl.eq_4, sRev.eq_1, sRev.eq_2, sRev.eq_3, sAddI.eq_1, sAddI.eq_2, sPut.eq_1, sPut.eq_2, sPut.eq_3, sPut.eq_4, D.isNon, sEq_ii, sNe_ii, sEq_ww, sNe_ww, sEq_ll, sNe_ll, sIsi_ii, sIsi_ib, sIsi_ll, sIsi_tt, sIsi_ss, sEq_w, sEq_i, sEq_lw, sEq_lw', sEq_lle, sEq_lle', sNe_w, sNe_i, sNe_lle', sNe_lw', sEq_ss, sNe_ss, sEq_bb, sNe_bb, sIn_iw, sIn_ii, sIn_wl, sIn_wl', sSl3.eq_1, sSl3.eq_2, dSl3, isS.eq_1, isL.eq_1, isL.eq_2, isA.eq_1, dM0, dM1, sUpper.eq_1, sLower.eq_1, sStrip1.eq_1, sSfind.eq_1, sScount.eq_1, sSindex.eq_1, sSsplit.eq_1, sSjoin.eq_1, sSjoin.eq_2, fPop_snoc, fPop_snoc', startD, wipeD, List.map_cons, List.map_nil, List.length_cons, List.length_nil, List.length_map, List.cons_append, List.nil_append, List.replicate, List.set_cons_zero, List.set_cons_succ, List.set_nil, List.getElem?_cons_zero, List.getElem?_cons_succ, Bool.true_and, Bool.and_true, Bool.and_false, Bool.false_and, Bool.not_true, Bool.not_false, if_true, if_false, Bool.false_eq_true, reduceIte, and_true, true_and, decide_true, decide_false, not_true, Option.map_none, Option.map_some, Option.getD_none, Option.getD_some, Option.isSome_none, Option.isSome_some, Nat.zero_le, Nat.zero_add, Nat.reduceAdd, Nat.reduceSub, D.scal, Option.some.injEq, exists_eq_left', exists_eq_left, exists_eq', D.int.injEq, D.lst.injEq, D.tup.injEq, D.scr.injEq, D.str.injEq, List.cons.injEq, and_self]
      exact hN2 v _ _ ⟨rfl, by omega, by rw [← hr, root_lt hv (by omega)], rfl⟩ (by omega)
  rintro δ w' ⟨rfl, rfl⟩
  try simp -implicitDefEqProofs only [dNext, dSet, dLst, dTup, dNil, dCons, dFor, dRng1_u, dRng2_u, dIt_u, oX, dC, dBin, dUn, dVarR, dVar, dApp, dExt, dUpd0, dPut, dAug, dRet, dRetV, dRetN, dBreak, dCont, dIf, dB_u, dTru_u, dTNot, dTAnd, dTOr, dAndV_u, dOrV_u, dNotV_u, dIfX, dChain_u, dCall, dSl, dNoP, dP_u, dLc, dDrop, dFrz, frzD, dAsg, dDicK, dDicT, gN, gT, gsC, gsN, kB.eq_1, kT.eq_1, kT.eq_2, kT.eq_3, kT.eq_4, kT.eq_5, kT.eq_6, kT.eq_7, kT.eq_8, kAnd.eq_1, kOr.eq_1, kNot.eq_1, kIt.eq_1, kIt.eq_2, kIt.eq_3, kIt.eq_4, kP.eq_1, kR1.eq_1, kR2.eq_1, sAdd.eq_1, sAdd.eq_2, sAdd.eq_3, sAdd.eq_4, sJ2.eq_1, sI2.eq_1, sPow, sLt.eq_1, sLt.eq_2, sLe, sGt, sGe, sMul.eq_1, sMul.eq_2, sMulB.eq_1, sMulB.eq_2, sMulB.eq_3, sLR1.eq_1, sLR2.eq_1, sTR1.eq_1, sTR2.eq_1, sIsBl.eq_1, dZip, kZip.eq_1, dDisp1, dSetN, dConsN, dAppN, dPutN, dFld, dFldS, dFldAug, dMeth, dMake, dGet1, dGet2, dDPop, dLPop, dLPopAt, dLClear, dEnum, kEnum.eq_1, dRng3, kR3.eq_1, dForN, dForKeys, dForItems, dLock, lkE, dBack, kNm_f, kNm_t, nmK_f, nmK_lst, nmK_dK, nmK_dT, isDct_dK, isDct_dT, isDct_fK, isDct_fT, sGetO_K, sGetO_S, sGetO_T, sGetO_fK, sGetO_fT, sIn_K, sIn_fK, sIn_T, sIn_fT, sPutC_lst, sPutC_K, sPutC_S, sPutC_T, keyOf_int, keyOf_str, keysC.eq_1, keysC.eq_2, itemsC.eq_1, rs_ref, rs_non, rs_bl, rs_int, rs_str, rs_ty, rs_lst, rs_tup, rs_dK, rs_dT, rs_scr, rs_wD, rs_iD, rs_lwD, resC_lst, resC_dK, resC_dT, resC_fK, resC_fT, resC_ins, updW_same, putFD.eq_1, putFD.eq_2, isL.eq_1, isL.eq_2, sNeg.eq_1, sLen.eq_1, sLen.eq_2, sLen.eq_3, sLen.eq_4, sLen.eq_5, sAbs.eq_1, sMax, sMin, sInt.eq_1, sInt.eq_2, sStr.eq_1, sList.eq_1, sList.eq_2, sList.eq_3, sTuple.eq_1, sTuple.eq_2, sTuple.eq_3, sIsN, sNotN, sIx.eq_1, sIx.eq_2, sIx.eq_3, sIx.eq_4, sIx.eq_5, sIx.eq_6, sIx.eq_7, sIx.eq_8, sIx.eq_9, sSl.eq_1, sSl.eq_2, sSl.eq_3, sSl.eq_4, sRev.eq_1, sRev.eq_2, sRev.eq_3, sAddI.eq_1, sAddI.eq_2, sPut.eq_1, sPut.eq_2, sPut.eq_3, sPut.eq_4, D.isNon, sEq_ii, sNe_ii, sEq_ww, sNe_ww, sEq_ll, sNe_ll, sIsi_ii, sIsi_ib, sIsi_ll, sIsi_tt, sIsi_ss, sEq_w, sEq_i, sEq_lw, sEq_lw', sEq_lle, sEq_lle', sNe_w, sNe_i, sNe_lle', sNe_lw', sEq_ss, sNe_ss, sEq_bb, sNe_bb, sIn_iw, sIn_ii, sIn_wl, sIn_wl', sSl3.eq_1, sSl3.eq_2, dSl3, isS.eq_1, isL.eq_1, isL.eq_2, isA.eq_1, dM0, dM1, sUpper.eq_1, sLower.eq_1, sStrip1.eq_1, sSfind.eq_1, sScount.eq_1, sSindex.eq_1, sSsplit.eq_1, sSjoin.eq_1, sSjoin.eq_2, fPop_snoc, fPop_snoc', startD, wipeD, List.map_cons, List.map_nil, List.length_cons, List.length_nil, List.length_map, List.cons_append, List.nil_append, List.replicate, List.set_cons_zero, List.set_cons_succ, List.set_nil, List.getElem?_cons_zero, List.getElem?_cons_succ, Bool.true_and, Bool.and_true, Bool.and_false, Bool.false_and, Bool.not_true, Bool.not_false, if_true, if_false, Bool.false_eq_true, reduceIte, and_true, true_and, decide_true, decide_false, not_true, Option.map_none, Option.map_some, Option.getD_none, Option.getD_some, Option.isSome_none, Option.isSome_some, Nat.zero_le, Nat.zero_add, Nat.reduceAdd, Nat.reduceSub, D.scal, Option.some.injEq, exists_eq_left', exists_eq_left, exists_eq', D.int.injEq, D.lst.injEq, D.tup.injEq, D.scr.injEq, D.str.injEq, List.cons.injEq, and_self]
  exact q
def stands (el : List Nat) : List Nat := (List.range el.length).filter fun r => decide (el[r]? = some r)
def T_Rooms_standing : DSp := fun ds w P => ∃ (p : Addr) (r : RP) (S : RS), ds = [.ref p] ∧ Rm w p r S ∧ S.el.length ≤ 100000 ∧ P true (nL (stands S.el)) w
theorem len_Rooms_standing (ds : List D) (w : Om) (P : Bool → D → Om → Prop) (h : T_Rooms_standing ds w P) : ds.length = 1 := by first | (have h := h.1; subst h; rfl) | (obtain ⟨rfl, _⟩ := h; rfl) | (obtain ⟨_, rfl, _⟩ := h; rfl) | (obtain ⟨_, _, rfl, _⟩ := h; rfl) | (obtain ⟨_, _, _, rfl, _⟩ := h; rfl) | (obtain ⟨_, _, _, _, rfl, _⟩ := h; rfl) | (obtain ⟨_, _, _, _, _, rfl, _⟩ := h; rfl) | (obtain ⟨_, _, _, _, _, _, rfl, _⟩ := h; rfl) | (obtain ⟨_, _, _, _, _, _, _, rfl, _⟩ := h; rfl) | (obtain ⟨_, _, _, _, _, _, _, _, rfl, _⟩ := h; rfl) | (obtain ⟨_, _, _, _, _, _, _, _, _, rfl, _⟩ := h; rfl) | (obtain ⟨_, _, _, _, _, _, _, _, _, _, rfl, _⟩ := h; rfl) | (obtain ⟨_, _, _, _, _, _, _, _, _, _, _, rfl, _⟩ := h; rfl)
def b_Rooms_standing : DS := (dRet (dLc (dRng1 (oX (dFld "Rooms" "made" (dVarR 0)))) (gN 1) (dB (dBin sEq (oX (dBin sIx (oX (dFld "Rooms" "elders" (dVarR 0))) (dVarR 1))) (dVarR 1))) (dVar 1) [1]))
theorem v_Rooms_standing (ds : List D) (w : Om) (P : Bool → D → Om → Prop) (h : T_Rooms_standing ds w P) : b_Rooms_standing { nx := fun _ w => P false .non w, rt := P } (startD ["self", "room"] ds) w := by
  unfold b_Rooms_standing
  obtain ⟨p, r, S, rfl, R, hl, q⟩ := h
  have hs := sizeLine_eq
  try simp -implicitDefEqProofs only [dNext, dSet, dLst, dTup, dNil, dCons, dFor, dRng1_u, dRng2_u, dIt_u, oX, dC, dBin, dUn, dVarR, dVar, dApp, dExt, dUpd0, dPut, dAug, dRet, dRetV, dRetN, dBreak, dCont, dIf, dB_u, dTru_u, dTNot, dTAnd, dTOr, dAndV_u, dOrV_u, dNotV_u, dIfX, dChain_u, dCall, dSl, dNoP, dP_u, dLc, dDrop, dFrz, frzD, dAsg, dDicK, dDicT, gN, gT, gsC, gsN, kB.eq_1, kT.eq_1, kT.eq_2, kT.eq_3, kT.eq_4, kT.eq_5, kT.eq_6, kT.eq_7, kT.eq_8, kAnd.eq_1, kOr.eq_1, kNot.eq_1, kIt.eq_1, kIt.eq_2, kIt.eq_3, kIt.eq_4, kP.eq_1, kR1.eq_1, kR2.eq_1, sAdd.eq_1, sAdd.eq_2, sAdd.eq_3, sAdd.eq_4, sJ2.eq_1, sI2.eq_1, sPow, sLt.eq_1, sLt.eq_2, sLe, sGt, sGe, sMul.eq_1, sMul.eq_2, sMulB.eq_1, sMulB.eq_2, sMulB.eq_3, sLR1.eq_1, sLR2.eq_1, sTR1.eq_1, sTR2.eq_1, sIsBl.eq_1, dZip, kZip.eq_1, dDisp1, dSetN, dConsN, dAppN, dPutN, dFld, dFldS, dFldAug, dMeth, dMake, dGet1, dGet2, dDPop, dLPop, dLPopAt, dLClear, dEnum, kEnum.eq_1, dRng3, kR3.eq_1, dForN, dForKeys, dForItems, dLock, lkE, dBack, kNm_f, kNm_t, nmK_f, nmK_lst, nmK_dK, nmK_dT, isDct_dK, isDct_dT, isDct_fK, isDct_fT, sGetO_K, sGetO_S, sGetO_T, sGetO_fK, sGetO_fT, sIn_K, sIn_fK, sIn_T, sIn_fT, sPutC_lst, sPutC_K, sPutC_S, sPutC_T, keyOf_int, keyOf_str, keysC.eq_1, keysC.eq_2, itemsC.eq_1, rs_ref, rs_non, rs_bl, rs_int, rs_str, rs_ty, rs_lst, rs_tup, rs_dK, rs_dT, rs_scr, rs_wD, rs_iD, rs_lwD, resC_lst, resC_dK, resC_dT, resC_fK, resC_fT, resC_ins, updW_same, putFD.eq_1, putFD.eq_2, isL.eq_1, isL.eq_2, sNeg.eq_1, sLen.eq_1, sLen.eq_2, sLen.eq_3, sLen.eq_4, sLen.eq_5, sAbs.eq_1, sMax, sMin, sInt.eq_1, sInt.eq_2, sStr.eq_1, sList.eq_1, sList.eq_2, sList.eq_3, sTuple.eq_1, sTuple.eq_2, sTuple.eq_3, sIsN, sNotN, sIx.eq_1, sIx.eq_2, sIx.eq_3, sIx.eq_4, sIx.eq_5, sIx.eq_6, sIx.eq_7, sIx.eq_8, sIx.eq_9, sSl.eq_1, sSl.eq_2, sSl.eq_3, sSl.eq_4, sRev.eq_1, sRev.eq_2, sRev.eq_3, sAddI.eq_1, sAddI.eq_2, sPut.eq_1, sPut.eq_2, sPut.eq_3, sPut.eq_4, D.isNon, sEq_ii, sNe_ii, sEq_ww, sNe_ww, sEq_ll, sNe_ll, sIsi_ii, sIsi_ib, sIsi_ll, sIsi_tt, sIsi_ss, sEq_w, sEq_i, sEq_lw, sEq_lw', sEq_lle, sEq_lle', sNe_w, sNe_i, sNe_lle', sNe_lw', sEq_ss, sNe_ss, sEq_bb, sNe_bb, sIn_iw, sIn_ii, sIn_wl, sIn_wl', sSl3.eq_1, sSl3.eq_2, dSl3, isS.eq_1, isL.eq_1, isL.eq_2, isA.eq_1, dM0, dM1, sUpper.eq_1, sLower.eq_1, sStrip1.eq_1, sSfind.eq_1, sScount.eq_1, sSindex.eq_1, sSsplit.eq_1, sSjoin.eq_1, sSjoin.eq_2, fPop_snoc, fPop_snoc', startD, wipeD, List.map_cons, List.map_nil, List.length_cons, List.length_nil, List.length_map, List.cons_append, List.nil_append, List.replicate, List.set_cons_zero, List.set_cons_succ, List.set_nil, List.getElem?_cons_zero, List.getElem?_cons_succ, Bool.true_and, Bool.and_true, Bool.and_false, Bool.false_and, Bool.not_true, Bool.not_false, if_true, if_false, Bool.false_eq_true, reduceIte, and_true, true_and, decide_true, decide_false, not_true, Option.map_none, Option.map_some, Option.getD_none, Option.getD_some, Option.isSome_none, Option.isSome_some, Nat.zero_le, Nat.zero_add, Nat.reduceAdd, Nat.reduceSub, D.scal, Option.some.injEq, exists_eq_left', exists_eq_left, exists_eq', D.int.injEq, D.lst.injEq, D.tup.injEq, D.scr.injEq, D.str.injEq, List.cons.injEq, and_self]
  refine ⟨p, _, .int S.el.length, rfl, R.ins, rmF_made .., ?_⟩
  try simp -implicitDefEqProofs only [dNext, dSet, dLst, dTup, dNil, dCons, dFor, dRng1_u, dRng2_u, dIt_u, oX, dC, dBin, dUn, dVarR, dVar, dApp, dExt, dUpd0, dPut, dAug, dRet, dRetV, dRetN, dBreak, dCont, dIf, dB_u, dTru_u, dTNot, dTAnd, dTOr, dAndV_u, dOrV_u, dNotV_u, dIfX, dChain_u, dCall, dSl, dNoP, dP_u, dLc, dDrop, dFrz, frzD, dAsg, dDicK, dDicT, gN, gT, gsC, gsN, kB.eq_1, kT.eq_1, kT.eq_2, kT.eq_3, kT.eq_4, kT.eq_5, kT.eq_6, kT.eq_7, kT.eq_8, kAnd.eq_1, kOr.eq_1, kNot.eq_1, kIt.eq_1, kIt.eq_2, kIt.eq_3, kIt.eq_4, kP.eq_1, kR1.eq_1, kR2.eq_1, sAdd.eq_1, sAdd.eq_2, sAdd.eq_3, sAdd.eq_4, sJ2.eq_1, sI2.eq_1, sPow, sLt.eq_1, sLt.eq_2, sLe, sGt, sGe, sMul.eq_1, sMul.eq_2, sMulB.eq_1, sMulB.eq_2, sMulB.eq_3, sLR1.eq_1, sLR2.eq_1, sTR1.eq_1, sTR2.eq_1, sIsBl.eq_1, dZip, kZip.eq_1, dDisp1, dSetN, dConsN, dAppN, dPutN, dFld, dFldS, dFldAug, dMeth, dMake, dGet1, dGet2, dDPop, dLPop, dLPopAt, dLClear, dEnum, kEnum.eq_1, dRng3, kR3.eq_1, dForN, dForKeys, dForItems, dLock, lkE, dBack, kNm_f, kNm_t, nmK_f, nmK_lst, nmK_dK, nmK_dT, isDct_dK, isDct_dT, isDct_fK, isDct_fT, sGetO_K, sGetO_S, sGetO_T, sGetO_fK, sGetO_fT, sIn_K, sIn_fK, sIn_T, sIn_fT, sPutC_lst, sPutC_K, sPutC_S, sPutC_T, keyOf_int, keyOf_str, keysC.eq_1, keysC.eq_2, itemsC.eq_1, rs_ref, rs_non, rs_bl, rs_int, rs_str, rs_ty, rs_lst, rs_tup, rs_dK, rs_dT, rs_scr, rs_wD, rs_iD, rs_lwD, resC_lst, resC_dK, resC_dT, resC_fK, resC_fT, resC_ins, updW_same, putFD.eq_1, putFD.eq_2, isL.eq_1, isL.eq_2, sNeg.eq_1, sLen.eq_1, sLen.eq_2, sLen.eq_3, sLen.eq_4, sLen.eq_5, sAbs.eq_1, sMax, sMin, sInt.eq_1, sInt.eq_2, sStr.eq_1, sList.eq_1, sList.eq_2, sList.eq_3, sTuple.eq_1, sTuple.eq_2, sTuple.eq_3, sIsN, sNotN, sIx.eq_1, sIx.eq_2, sIx.eq_3, sIx.eq_4, sIx.eq_5, sIx.eq_6, sIx.eq_7, sIx.eq_8, sIx.eq_9, sSl.eq_1, sSl.eq_2, sSl.eq_3, sSl.eq_4, sRev.eq_1, sRev.eq_2, sRev.eq_3, sAddI.eq_1, sAddI.eq_2, sPut.eq_1, sPut.eq_2, sPut.eq_3, sPut.eq_4, D.isNon, sEq_ii, sNe_ii, sEq_ww, sNe_ww, sEq_ll, sNe_ll, sIsi_ii, sIsi_ib, sIsi_ll, sIsi_tt, sIsi_ss, sEq_w, sEq_i, sEq_lw, sEq_lw', sEq_lle, sEq_lle', sNe_w, sNe_i, sNe_lle', sNe_lw', sEq_ss, sNe_ss, sEq_bb, sNe_bb, sIn_iw, sIn_ii, sIn_wl, sIn_wl', sSl3.eq_1, sSl3.eq_2, dSl3, isS.eq_1, isL.eq_1, isL.eq_2, isA.eq_1, dM0, dM1, sUpper.eq_1, sLower.eq_1, sStrip1.eq_1, sSfind.eq_1, sScount.eq_1, sSindex.eq_1, sSsplit.eq_1, sSjoin.eq_1, sSjoin.eq_2, fPop_snoc, fPop_snoc', startD, wipeD, List.map_cons, List.map_nil, List.length_cons, List.length_nil, List.length_map, List.cons_append, List.nil_append, List.replicate, List.set_cons_zero, List.set_cons_succ, List.set_nil, List.getElem?_cons_zero, List.getElem?_cons_succ, Bool.true_and, Bool.and_true, Bool.and_false, Bool.false_and, Bool.not_true, Bool.not_false, if_true, if_false, Bool.false_eq_true, reduceIte, and_true, true_and, decide_true, decide_false, not_true, Option.map_none, Option.map_some, Option.getD_none, Option.getD_some, Option.isSome_none, Option.isSome_some, Nat.zero_le, Nat.zero_add, Nat.reduceAdd, Nat.reduceSub, D.scal, Option.some.injEq, exists_eq_left', exists_eq_left, exists_eq', D.int.injEq, D.lst.injEq, D.tup.injEq, D.scr.injEq, D.str.injEq, List.cons.injEq, and_self]
  refine ⟨⟨by omega, by omega⟩, ?_⟩
  rw [Int.toNat_natCast]
  unfold rngD
  refine lc_filter (fun k : Nat => D.int (0 + (k : Nat))) (fun k : Nat => D.int k) (fun k : Nat => decide (S.el[k]? = some k)) (List.range S.el.length) (fun k hk P hP => ?_) (fun k hk _ P hP => ?_) [] (by simp; omega) ?_
  · have hk' := List.mem_range.mp hk
    try simp -implicitDefEqProofs only [Int.zero_add, dNext, dSet, dLst, dTup, dNil, dCons, dFor, dRng1_u, dRng2_u, dIt_u, oX, dC, dBin, dUn, dVarR, dVar, dApp, dExt, dUpd0, dPut, dAug, dRet, dRetV, dRetN, dBreak, dCont, dIf, dB_u, dTru_u, dTNot, dTAnd, dTOr, dAndV_u, dOrV_u, dNotV_u, dIfX, dChain_u, dCall, dSl, dNoP, dP_u, dLc, dDrop, dFrz, frzD, dAsg, dDicK, dDicT, gN, gT, gsC, gsN, kB.eq_1, kT.eq_1, kT.eq_2, kT.eq_3, kT.eq_4, kT.eq_5, kT.eq_6, kT.eq_7, kT.eq_8, kAnd.eq_1, kOr.eq_1, kNot.eq_1, kIt.eq_1, kIt.eq_2, kIt.eq_3, kIt.eq_4, kP.eq_1, kR1.eq_1, kR2.eq_1, sAdd.eq_1, sAdd.eq_2, sAdd.eq_3, sAdd.eq_4, sJ2.eq_1, sI2.eq_1, sPow, sLt.eq_1, sLt.eq_2, sLe, sGt, sGe, sMul.eq_1, sMul.eq_2, sMulB.eq_1, sMulB.eq_2, sMulB.eq_3, sLR1.eq_1, sLR2.eq_1, sTR1.eq_1, sTR2.eq_1, sIsBl.eq_1, dZip, kZip.eq_1, dDisp1, dSetN, dConsN, dAppN, dPutN, dFld, dFldS, dFldAug, dMeth, dMake, dGet1, dGet2, dDPop, dLPop, dLPopAt, dLClear, dEnum, kEnum.eq_1, dRng3, kR3.eq_1, dForN, dForKeys, dForItems, dLock, lkE, dBack, kNm_f, kNm_t, nmK_f, nmK_lst, nmK_dK, nmK_dT, isDct_dK, isDct_dT, isDct_fK, isDct_fT, sGetO_K, sGetO_S, sGetO_T, sGetO_fK, sGetO_fT, sIn_K, sIn_fK, sIn_T, sIn_fT, sPutC_lst, sPutC_K, sPutC_S, sPutC_T, keyOf_int, keyOf_str, keysC.eq_1, keysC.eq_2, itemsC.eq_1, rs_ref, rs_non, rs_bl, rs_int, rs_str, rs_ty, rs_lst, rs_tup, rs_dK, rs_dT, rs_scr, rs_wD, rs_iD, rs_lwD, resC_lst, resC_dK, resC_dT, resC_fK, resC_fT, resC_ins, updW_same, putFD.eq_1, putFD.eq_2, isL.eq_1, isL.eq_2, sNeg.eq_1, sLen.eq_1, sLen.eq_2, sLen.eq_3, sLen.eq_4, sLen.eq_5, sAbs.eq_1, sMax, sMin, sInt.eq_1, sInt.eq_2, sStr.eq_1, sList.eq_1, sList.eq_2, sList.eq_3, sTuple.eq_1, sTuple.eq_2, sTuple.eq_3, sIsN, sNotN, sIx.eq_1, sIx.eq_2, sIx.eq_3, sIx.eq_4, sIx.eq_5, sIx.eq_6, sIx.eq_7, sIx.eq_8, sIx.eq_9, sSl.eq_1, sSl.eq_2, sSl.eq_3, sSl.eq_4, sRev.eq_1, sRev.eq_2, sRev.eq_3, sAddI.eq_1, sAddI.eq_2, sPut.eq_1, sPut.eq_2, sPut.eq_3, sPut.eq_4, D.isNon, sEq_ii, sNe_ii, sEq_ww, sNe_ww, sEq_ll, sNe_ll, sIsi_ii, sIsi_ib, sIsi_ll, sIsi_tt, sIsi_ss, sEq_w, sEq_i, sEq_lw, sEq_lw', sEq_lle, sEq_lle', sNe_w, sNe_i, sNe_lle', sNe_lw', sEq_ss, sNe_ss, sEq_bb, sNe_bb, sIn_iw, sIn_ii, sIn_wl, sIn_wl', sSl3.eq_1, sSl3.eq_2, dSl3, isS.eq_1, isL.eq_1, isL.eq_2, isA.eq_1, dM0, dM1, sUpper.eq_1, sLower.eq_1, sStrip1.eq_1, sSfind.eq_1, sScount.eq_1, sSindex.eq_1, sSsplit.eq_1, sSjoin.eq_1, sSjoin.eq_2, fPop_snoc, fPop_snoc', startD, wipeD, List.map_cons, List.map_nil, List.length_cons, List.length_nil, List.length_map, List.cons_append, List.nil_append, List.replicate, List.set_cons_zero, List.set_cons_succ, List.set_nil, List.getElem?_cons_zero, List.getElem?_cons_succ, Bool.true_and, Bool.and_true, Bool.and_false, Bool.false_and, Bool.not_true, Bool.not_false, if_true, if_false, Bool.false_eq_true, reduceIte, and_true, true_and, decide_true, decide_false, not_true, Option.map_none, Option.map_some, Option.getD_none, Option.getD_some, Option.isSome_none, Option.isSome_some, Nat.zero_le, Nat.zero_add, Nat.reduceAdd, Nat.reduceSub, D.scal, Option.some.injEq, exists_eq_left', exists_eq_left, exists_eq', D.int.injEq, D.lst.injEq, D.tup.injEq, D.scr.injEq, D.str.injEq, List.cons.injEq, and_self]
    refine ⟨p, _, .ref r.e, rfl, R.ins, rmF_elders .., ?_⟩
    try simp -implicitDefEqProofs only [R.el, dNext, dSet, dLst, dTup, dNil, dCons, dFor, dRng1_u, dRng2_u, dIt_u, oX, dC, dBin, dUn, dVarR, dVar, dApp, dExt, dUpd0, dPut, dAug, dRet, dRetV, dRetN, dBreak, dCont, dIf, dB_u, dTru_u, dTNot, dTAnd, dTOr, dAndV_u, dOrV_u, dNotV_u, dIfX, dChain_u, dCall, dSl, dNoP, dP_u, dLc, dDrop, dFrz, frzD, dAsg, dDicK, dDicT, gN, gT, gsC, gsN, kB.eq_1, kT.eq_1, kT.eq_2, kT.eq_3, kT.eq_4, kT.eq_5, kT.eq_6, kT.eq_7, kT.eq_8, kAnd.eq_1, kOr.eq_1, kNot.eq_1, kIt.eq_1, kIt.eq_2, kIt.eq_3, kIt.eq_4, kP.eq_1, kR1.eq_1, kR2.eq_1, sAdd.eq_1, sAdd.eq_2, sAdd.eq_3, sAdd.eq_4, sJ2.eq_1, sI2.eq_1, sPow, sLt.eq_1, sLt.eq_2, sLe, sGt, sGe, sMul.eq_1, sMul.eq_2, sMulB.eq_1, sMulB.eq_2, sMulB.eq_3, sLR1.eq_1, sLR2.eq_1, sTR1.eq_1, sTR2.eq_1, sIsBl.eq_1, dZip, kZip.eq_1, dDisp1, dSetN, dConsN, dAppN, dPutN, dFld, dFldS, dFldAug, dMeth, dMake, dGet1, dGet2, dDPop, dLPop, dLPopAt, dLClear, dEnum, kEnum.eq_1, dRng3, kR3.eq_1, dForN, dForKeys, dForItems, dLock, lkE, dBack, kNm_f, kNm_t, nmK_f, nmK_lst, nmK_dK, nmK_dT, isDct_dK, isDct_dT, isDct_fK, isDct_fT, sGetO_K, sGetO_S, sGetO_T, sGetO_fK, sGetO_fT, sIn_K, sIn_fK, sIn_T, sIn_fT, sPutC_lst, sPutC_K, sPutC_S, sPutC_T, keyOf_int, keyOf_str, keysC.eq_1, keysC.eq_2, itemsC.eq_1, rs_ref, rs_non, rs_bl, rs_int, rs_str, rs_ty, rs_lst, rs_tup, rs_dK, rs_dT, rs_scr, rs_wD, rs_iD, rs_lwD, resC_lst, resC_dK, resC_dT, resC_fK, resC_fT, resC_ins, updW_same, putFD.eq_1, putFD.eq_2, isL.eq_1, isL.eq_2, sNeg.eq_1, sLen.eq_1, sLen.eq_2, sLen.eq_3, sLen.eq_4, sLen.eq_5, sAbs.eq_1, sMax, sMin, sInt.eq_1, sInt.eq_2, sStr.eq_1, sList.eq_1, sList.eq_2, sList.eq_3, sTuple.eq_1, sTuple.eq_2, sTuple.eq_3, sIsN, sNotN, sIx.eq_1, sIx.eq_2, sIx.eq_3, sIx.eq_4, sIx.eq_5, sIx.eq_6, sIx.eq_7, sIx.eq_8, sIx.eq_9, sSl.eq_1, sSl.eq_2, sSl.eq_3, sSl.eq_4, sRev.eq_1, sRev.eq_2, sRev.eq_3, sAddI.eq_1, sAddI.eq_2, sPut.eq_1, sPut.eq_2, sPut.eq_3, sPut.eq_4, D.isNon, sEq_ii, sNe_ii, sEq_ww, sNe_ww, sEq_ll, sNe_ll, sIsi_ii, sIsi_ib, sIsi_ll, sIsi_tt, sIsi_ss, sEq_w, sEq_i, sEq_lw, sEq_lw', sEq_lle, sEq_lle', sNe_w, sNe_i, sNe_lle', sNe_lw', sEq_ss, sNe_ss, sEq_bb, sNe_bb, sIn_iw, sIn_ii, sIn_wl, sIn_wl', sSl3.eq_1, sSl3.eq_2, dSl3, isS.eq_1, isL.eq_1, isL.eq_2, isA.eq_1, dM0, dM1, sUpper.eq_1, sLower.eq_1, sStrip1.eq_1, sSfind.eq_1, sScount.eq_1, sSindex.eq_1, sSsplit.eq_1, sSjoin.eq_1, sSjoin.eq_2, fPop_snoc, fPop_snoc', startD, wipeD, List.map_cons, List.map_nil, List.length_cons, List.length_nil, List.length_map, List.cons_append, List.nil_append, List.replicate, List.set_cons_zero, List.set_cons_succ, List.set_nil, List.getElem?_cons_zero, List.getElem?_cons_succ, Bool.true_and, Bool.and_true, Bool.and_false, Bool.false_and, Bool.not_true, Bool.not_false, if_true, if_false, Bool.false_eq_true, reduceIte, and_true, true_and, decide_true, decide_false, not_true, Option.map_none, Option.map_some, Option.getD_none, Option.getD_some, Option.isSome_none, Option.isSome_some, Nat.zero_le, Nat.zero_add, Nat.reduceAdd, Nat.reduceSub, D.scal, Option.some.injEq, exists_eq_left', exists_eq_left, exists_eq', D.int.injEq, D.lst.injEq, D.tup.injEq, D.scr.injEq, D.str.injEq, List.cons.injEq, and_self]
    refine ⟨_, get_nat hk', ?_⟩
    try simp -implicitDefEqProofs only [dNext, dSet, dLst, dTup, dNil, dCons, dFor, dRng1_u, dRng2_u, dIt_u, oX, dC, dBin, dUn, dVarR, dVar, dApp, dExt, dUpd0, dPut, dAug, dRet, dRetV, dRetN, dBreak, dCont, dIf, dB_u, dTru_u, dTNot, dTAnd, dTOr, dAndV_u, dOrV_u, dNotV_u, dIfX, dChain_u, dCall, dSl, dNoP, dP_u, dLc, dDrop, dFrz, frzD, dAsg, dDicK, dDicT, gN, gT, gsC, gsN, kB.eq_1, kT.eq_1, kT.eq_2, kT.eq_3, kT.eq_4, kT.eq_5, kT.eq_6, kT.eq_7, kT.eq_8, kAnd.eq_1, kOr.eq_1, kNot.eq_1, kIt.eq_1, kIt.eq_2, kIt.eq_3, kIt.eq_4, kP.eq_1, kR1.eq_1, kR2.eq_1, sAdd.eq_1, sAdd.eq_2, sAdd.eq_3, sAdd.eq_4, sJ2.eq_1, sI2.eq_1, sPow, sLt.eq_1, sLt.eq_2, sLe, sGt, sGe, sMul.eq_1, sMul.eq_2, sMulB.eq_1, sMulB.eq_2, sMulB.eq_3, sLR1.eq_1, sLR2.eq_1, sTR1.eq_1, sTR2.eq_1, sIsBl.eq_1, dZip, kZip.eq_1, dDisp1, dSetN, dConsN, dAppN, dPutN, dFld, dFldS, dFldAug, dMeth, dMake, dGet1, dGet2, dDPop, dLPop, dLPopAt, dLClear, dEnum, kEnum.eq_1, dRng3, kR3.eq_1, dForN, dForKeys, dForItems, dLock, lkE, dBack, kNm_f, kNm_t, nmK_f, nmK_lst, nmK_dK, nmK_dT, isDct_dK, isDct_dT, isDct_fK, isDct_fT, sGetO_K, sGetO_S, sGetO_T, sGetO_fK, sGetO_fT, sIn_K, sIn_fK, sIn_T, sIn_fT, sPutC_lst, sPutC_K, sPutC_S, sPutC_T, keyOf_int, keyOf_str, keysC.eq_1, keysC.eq_2, itemsC.eq_1, rs_ref, rs_non, rs_bl, rs_int, rs_str, rs_ty, rs_lst, rs_tup, rs_dK, rs_dT, rs_scr, rs_wD, rs_iD, rs_lwD, resC_lst, resC_dK, resC_dT, resC_fK, resC_fT, resC_ins, updW_same, putFD.eq_1, putFD.eq_2, isL.eq_1, isL.eq_2, sNeg.eq_1, sLen.eq_1, sLen.eq_2, sLen.eq_3, sLen.eq_4, sLen.eq_5, sAbs.eq_1, sMax, sMin, sInt.eq_1, sInt.eq_2, sStr.eq_1, sList.eq_1, sList.eq_2, sList.eq_3, sTuple.eq_1, sTuple.eq_2, sTuple.eq_3, sIsN, sNotN, sIx.eq_1, sIx.eq_2, sIx.eq_3, sIx.eq_4, sIx.eq_5, sIx.eq_6, sIx.eq_7, sIx.eq_8, sIx.eq_9, sSl.eq_1, sSl.eq_2, sSl.eq_3, sSl.eq_4, sRev.eq_1, sRev.eq_2, sRev.eq_3, sAddI.eq_1, sAddI.eq_2, sPut.eq_1, sPut.eq_2, sPut.eq_3, sPut.eq_4, D.isNon, sEq_ii, sNe_ii, sEq_ww, sNe_ww, sEq_ll, sNe_ll, sIsi_ii, sIsi_ib, sIsi_ll, sIsi_tt, sIsi_ss, sEq_w, sEq_i, sEq_lw, sEq_lw', sEq_lle, sEq_lle', sNe_w, sNe_i, sNe_lle', sNe_lw', sEq_ss, sNe_ss, sEq_bb, sNe_bb, sIn_iw, sIn_ii, sIn_wl, sIn_wl', sSl3.eq_1, sSl3.eq_2, dSl3, isS.eq_1, isL.eq_1, isL.eq_2, isA.eq_1, dM0, dM1, sUpper.eq_1, sLower.eq_1, sStrip1.eq_1, sSfind.eq_1, sScount.eq_1, sSindex.eq_1, sSsplit.eq_1, sSjoin.eq_1, sSjoin.eq_2, fPop_snoc, fPop_snoc', startD, wipeD, List.map_cons, List.map_nil, List.length_cons, List.length_nil, List.length_map, List.cons_append, List.nil_append, List.replicate, List.set_cons_zero, List.set_cons_succ, List.set_nil, List.getElem?_cons_zero, List.getElem?_cons_succ, Bool.true_and, Bool.and_true, Bool.and_false, Bool.false_and, Bool.not_true, Bool.not_false, if_true, if_false, Bool.false_eq_true, reduceIte, and_true, true_and, decide_true, decide_false, not_true, Option.map_none, Option.map_some, Option.getD_none, Option.getD_some, Option.isSome_none, Option.isSome_some, Nat.zero_le, Nat.zero_add, Nat.reduceAdd, Nat.reduceSub, D.scal, Option.some.injEq, exists_eq_left', exists_eq_left, exists_eq', D.int.injEq, D.lst.injEq, D.tup.injEq, D.scr.injEq, D.str.injEq, List.cons.injEq, and_self]
    have hv := List.getElem?_eq_getElem hk'
    generalize S.el[k] = v at hv
    rw [hv] at hP ⊢
    have e : decide ((v : Int) = (k : Int)) = decide (some v = some k) := by
      rw [decide_eq_decide]
      simp
      omega
    simp only [Option.getD_some, e]
    exact hP
  · try simp -implicitDefEqProofs only [Int.zero_add, dNext, dSet, dLst, dTup, dNil, dCons, dFor, dRng1_u, dRng2_u, dIt_u, oX, dC, dBin, dUn, dVarR, dVar, dApp, dExt, dUpd0, dPut, dAug, dRet, dRetV, dRetN, dBreak, dCont, dIf, dB_u, dTru_u, dTNot, dTAnd, dTOr, dAndV_u, dOrV_u, dNotV_u, dIfX, dChain_u, dCall, dSl, dNoP, dP_u, dLc, dDrop, dFrz, frzD, dAsg, dDicK, dDicT, gN, gT, gsC, gsN, kB.eq_1, kT.eq_1, kT.eq_2, kT.eq_3, kT.eq_4, kT.eq_5, kT.eq_6, kT.eq_7, kT.eq_8, kAnd.eq_1, kOr.eq_1, kNot.eq_1, kIt.eq_1, kIt.eq_2, kIt.eq_3, kIt.eq_4, kP.eq_1, kR1.eq_1, kR2.eq_1, sAdd.eq_1, sAdd.eq_2, sAdd.eq_3, sAdd.eq_4, sJ2.eq_1, sI2.eq_1, sPow, sLt.eq_1, sLt.eq_2, sLe, sGt, sGe, sMul.eq_1, sMul.eq_2, sMulB.eq_1, sMulB.eq_2, sMulB.eq_3, sLR1.eq_1, sLR2.eq_1, sTR1.eq_1, sTR2.eq_1, sIsBl.eq_1, dZip, kZip.eq_1, dDisp1, dSetN, dConsN, dAppN, dPutN, dFld, dFldS, dFldAug, dMeth, dMake, dGet1, dGet2, dDPop, dLPop, dLPopAt, dLClear, dEnum, kEnum.eq_1, dRng3, kR3.eq_1, dForN, dForKeys, dForItems, dLock, lkE, dBack, kNm_f, kNm_t, nmK_f, nmK_lst, nmK_dK, nmK_dT, isDct_dK, isDct_dT, isDct_fK, isDct_fT, sGetO_K, sGetO_S, sGetO_T, sGetO_fK, sGetO_fT, sIn_K, sIn_fK, sIn_T, sIn_fT, sPutC_lst, sPutC_K, sPutC_S, sPutC_T, keyOf_int, keyOf_str, keysC.eq_1, keysC.eq_2, itemsC.eq_1, rs_ref, rs_non, rs_bl, rs_int, rs_str, rs_ty, rs_lst, rs_tup, rs_dK, rs_dT, rs_scr, rs_wD, rs_iD, rs_lwD, resC_lst, resC_dK, resC_dT, resC_fK, resC_fT, resC_ins, updW_same, putFD.eq_1, putFD.eq_2, isL.eq_1, isL.eq_2, sNeg.eq_1, sLen.eq_1, sLen.eq_2, sLen.eq_3, sLen.eq_4, sLen.eq_5, sAbs.eq_1, sMax, sMin, sInt.eq_1, sInt.eq_2, sStr.eq_1, sList.eq_1, sList.eq_2, sList.eq_3, sTuple.eq_1, sTuple.eq_2, sTuple.eq_3, sIsN, sNotN, sIx.eq_1, sIx.eq_2, sIx.eq_3, sIx.eq_4, sIx.eq_5, sIx.eq_6, sIx.eq_7, sIx.eq_8, sIx.eq_9, sSl.eq_1, sSl.eq_2, sSl.eq_3, sSl.eq_4, sRev.eq_1, sRev.eq_2, sRev.eq_3, sAddI.eq_1, sAddI.eq_2, sPut.eq_1, sPut.eq_2, sPut.eq_3, sPut.eq_4, D.isNon, sEq_ii, sNe_ii, sEq_ww, sNe_ww, sEq_ll, sNe_ll, sIsi_ii, sIsi_ib, sIsi_ll, sIsi_tt, sIsi_ss, sEq_w, sEq_i, sEq_lw, sEq_lw', sEq_lle, sEq_lle', sNe_w, sNe_i, sNe_lle', sNe_lw', sEq_ss, sNe_ss, sEq_bb, sNe_bb, sIn_iw, sIn_ii, sIn_wl, sIn_wl', sSl3.eq_1, sSl3.eq_2, dSl3, isS.eq_1, isL.eq_1, isL.eq_2, isA.eq_1, dM0, dM1, sUpper.eq_1, sLower.eq_1, sStrip1.eq_1, sSfind.eq_1, sScount.eq_1, sSindex.eq_1, sSsplit.eq_1, sSjoin.eq_1, sSjoin.eq_2, fPop_snoc, fPop_snoc', startD, wipeD, List.map_cons, List.map_nil, List.length_cons, List.length_nil, List.length_map, List.cons_append, List.nil_append, List.replicate, List.set_cons_zero, List.set_cons_succ, List.set_nil, List.getElem?_cons_zero, List.getElem?_cons_succ, Bool.true_and, Bool.and_true, Bool.and_false, Bool.false_and, Bool.not_true, Bool.not_false, if_true, if_false, Bool.false_eq_true, reduceIte, and_true, true_and, decide_true, decide_false, not_true, Option.map_none, Option.map_some, Option.getD_none, Option.getD_some, Option.isSome_none, Option.isSome_some, Nat.zero_le, Nat.zero_add, Nat.reduceAdd, Nat.reduceSub, D.scal, Option.some.injEq, exists_eq_left', exists_eq_left, exists_eq', D.int.injEq, D.lst.injEq, D.tup.injEq, D.scr.injEq, D.str.injEq, List.cons.injEq, and_self]
    exact hP _
  · rw [List.nil_append]
    exact q
def T_Rooms_make : DSp := fun ds w P => ∃ (p : Addr) (r : RP) (S : RS) (room : Nat) (m : Kn) (step : Int), ds = [.ref p, .int room, .int step] ∧ Rm w p r S ∧ S.kn[room]? = some m ∧ S.el.length ≤ 100000 ∧ S.told.length ≤ 1000000 ∧ m.length ≤ 1000000 ∧ ∀ w' r', Rm w' p r' (S.mk1 room step) → Fr w w' (r.fp p) (r'.fp p) → P false (.int S.el.length) w'
theorem len_Rooms_make (ds : List D) (w : Om) (P : Bool → D → Om → Prop) (h : T_Rooms_make ds w P) : ds.length = 3 := by first | (have h := h.1; subst h; rfl) | (obtain ⟨rfl, _⟩ := h; rfl) | (obtain ⟨_, rfl, _⟩ := h; rfl) | (obtain ⟨_, _, rfl, _⟩ := h; rfl) | (obtain ⟨_, _, _, rfl, _⟩ := h; rfl) | (obtain ⟨_, _, _, _, rfl, _⟩ := h; rfl) | (obtain ⟨_, _, _, _, _, rfl, _⟩ := h; rfl) | (obtain ⟨_, _, _, _, _, _, rfl, _⟩ := h; rfl) | (obtain ⟨_, _, _, _, _, _, _, rfl, _⟩ := h; rfl) | (obtain ⟨_, _, _, _, _, _, _, _, rfl, _⟩ := h; rfl) | (obtain ⟨_, _, _, _, _, _, _, _, _, rfl, _⟩ := h; rfl) | (obtain ⟨_, _, _, _, _, _, _, _, _, _, rfl, _⟩ := h; rfl) | (obtain ⟨_, _, _, _, _, _, _, _, _, _, _, rfl, _⟩ := h; rfl)
def b_Rooms_make : DS := (dSeq (dSet false 3 (dFld "Rooms" "made" (dVarR 0)))
    (dSeq (dFldAug "Rooms" "made" (dVarR 0) (oX (dC (.int 1))))
    (dSeq (dAppN false (oX (dFld "Rooms" "elders" (dVarR 0))) (dVar 3))
    (dSeq (dAppN true (oX (dFld "Rooms" "known" (dVarR 0))) (dDisp1 (oX (dUn sNeg (dVarR 2))) (dVar 1)))
    (dSeq (dPutN false (oX (dBin sIx (oX (dFld "Rooms" "known" (dVarR 0))) (dVarR 1))) (dVarR 2) (dVar 3))
    (dSeq (dAppN false (oX (dFld "Rooms" "told" (dVarR 0))) (dTup (dCons (dC (.str "new")) (dCons (dVar 1) (dCons (dVar 2) (dCons (dVar 3) dNil))))))
    (dRetV 3)))))))
theorem v_Rooms_make (ds : List D) (w : Om) (P : Bool → D → Om → Prop) (h : T_Rooms_make ds w P) : b_Rooms_make { nx := fun _ w => P false .non w, rt := P } (startD ["self", "room", "step", "other"] ds) w := by
  unfold b_Rooms_make
  obtain ⟨p, r, S, room, m, step, rfl, R, hm, hl, hlt, hml, q⟩ := h
  have hs := sizeLine_eq
  obtain ⟨npe, npk, npt, npks, nek, net, neks, nkt, nkks, ntks, nks⟩ := R.ne
  have hroom := (List.getElem?_eq_some_iff.mp hm).1
  obtain ⟨a, ha⟩ : ∃ a, r.ks[room]? = some a := ⟨_, List.getElem?_eq_getElem (by rw [R.len]; exact hroom)⟩
  have hac := List.mem_of_getElem? ha
  have nap : a ≠ p := fun z => npks (z ▸ hac)
  have nae : a ≠ r.e := fun z => neks (z ▸ hac)
  have nak : a ≠ r.k := fun z => nkks (z ▸ hac)
  have nat : a ≠ r.t := fun z => ntks (z ▸ hac)
  refine seq_i ?_
  try simp -implicitDefEqProofs only [dNext, dSet, dLst, dTup, dNil, dCons, dFor, dRng1_u, dRng2_u, dIt_u, oX, dC, dBin, dUn, dVarR, dVar, dApp, dExt, dUpd0, dPut, dAug, dRet, dRetV, dRetN, dBreak, dCont, dIf, dB_u, dTru_u, dTNot, dTAnd, dTOr, dAndV_u, dOrV_u, dNotV_u, dIfX, dChain_u, dCall, dSl, dNoP, dP_u, dLc, dDrop, dFrz, frzD, dAsg, dDicK, dDicT, gN, gT, gsC, gsN, kB.eq_1, kT.eq_1, kT.eq_2, kT.eq_3, kT.eq_4, kT.eq_5, kT.eq_6, kT.eq_7, kT.eq_8, kAnd.eq_1, kOr.eq_1, kNot.eq_1, kIt.eq_1, kIt.eq_2, kIt.eq_3, kIt.eq_4, kP.eq_1, kR1.eq_1, kR2.eq_1, sAdd.eq_1, sAdd.eq_2, sAdd.eq_3, sAdd.eq_4, sJ2.eq_1, sI2.eq_1, sPow, sLt.eq_1, sLt.eq_2, sLe, sGt, sGe, sMul.eq_1, sMul.eq_2, sMulB.eq_1, sMulB.eq_2, sMulB.eq_3, sLR1.eq_1, sLR2.eq_1, sTR1.eq_1, sTR2.eq_1, sIsBl.eq_1, dZip, kZip.eq_1, dDisp1, dSetN, dConsN, dAppN, dPutN, dFld, dFldS, dFldAug, dMeth, dMake, dGet1, dGet2, dDPop, dLPop, dLPopAt, dLClear, dEnum, kEnum.eq_1, dRng3, kR3.eq_1, dForN, dForKeys, dForItems, dLock, lkE, dBack, kNm_f, kNm_t, nmK_f, nmK_lst, nmK_dK, nmK_dT, isDct_dK, isDct_dT, isDct_fK, isDct_fT, sGetO_K, sGetO_S, sGetO_T, sGetO_fK, sGetO_fT, sIn_K, sIn_fK, sIn_T, sIn_fT, sPutC_lst, sPutC_K, sPutC_S, sPutC_T, keyOf_int, keyOf_str, keysC.eq_1, keysC.eq_2, itemsC.eq_1, rs_ref, rs_non, rs_bl, rs_int, rs_str, rs_ty, rs_lst, rs_tup, rs_dK, rs_dT, rs_scr, rs_wD, rs_iD, rs_lwD, resC_lst, resC_dK, resC_dT, resC_fK, resC_fT, resC_ins, updW_same, putFD.eq_1, putFD.eq_2, isL.eq_1, isL.eq_2, sNeg.eq_1, sLen.eq_1, sLen.eq_2, sLen.eq_3, sLen.eq_4, sLen.eq_5, sAbs.eq_1, sMax, sMin, sInt.eq_1, sInt.eq_2, sStr.eq_1, sList.eq_1, sList.eq_2, sList.eq_3, sTuple.eq_1, sTuple.eq_2, sTuple.eq_3, sIsN, sNotN, sIx.eq_1, sIx.eq_2, sIx.eq_3, sIx.eq_4, sIx.eq_5, sIx.eq_6, sIx.eq_7, sIx.eq_8, sIx.eq_9, sSl.eq_1, sSl.eq_2, sSl.eq_3, sSl.eq_4, sRev.eq_1, sRev.eq_2, sRev.eq_3, sAddI.eq_1, sAddI.eq_2, sPut.eq_1, sPut.eq_2, sPut.eq_3, sPut.eq_4, D.isNon, sEq_ii, sNe_ii, sEq_ww, sNe_ww, sEq_ll, sNe_ll, sIsi_ii, sIsi_ib, sIsi_ll, sIsi_tt, sIsi_ss, sEq_w, sEq_i, sEq_lw, sEq_lw', sEq_lle, sEq_lle', sNe_w, sNe_i, sNe_lle', sNe_lw', sEq_ss, sNe_ss, sEq_bb, sNe_bb, sIn_iw, sIn_ii, sIn_wl, sIn_wl', sSl3.eq_1, sSl3.eq_2, dSl3, isS.eq_1, isL.eq_1, isL.eq_2, isA.eq_1, dM0, dM1, sUpper.eq_1, sLower.eq_1, sStrip1.eq_1, sSfind.eq_1, sScount.eq_1, sSindex.eq_1, sSsplit.eq_1, sSjoin.eq_1, sSjoin.eq_2, fPop_snoc, fPop_snoc', startD, wipeD, List.map_cons, List.map_nil, List.length_cons, List.length_nil, List.length_map, List.cons_append, List.nil_append, List.replicate, List.set_cons_zero, List.set_cons_succ, List.set_nil, List.getElem?_cons_zero, List.getElem?_cons_succ, Bool.true_and, Bool.and_true, Bool.and_false, Bool.false_and, Bool.not_true, Bool.not_false, if_true, if_false, Bool.false_eq_true, reduceIte, and_true, true_and, decide_true, decide_false, not_true, Option.map_none, Option.map_some, Option.getD_none, Option.getD_some, Option.isSome_none, Option.isSome_some, Nat.zero_le, Nat.zero_add, Nat.reduceAdd, Nat.reduceSub, D.scal, Option.some.injEq, exists_eq_left', exists_eq_left, exists_eq', D.int.injEq, D.lst.injEq, D.tup.injEq, D.scr.injEq, D.str.injEq, List.cons.injEq, and_self]
  refine ⟨p, _, _, rfl, R.ins, rmF_made .., ?_⟩
  refine seq_i ?_
  try simp -implicitDefEqProofs only [dNext, dSet, dLst, dTup, dNil, dCons, dFor, dRng1_u, dRng2_u, dIt_u, oX, dC, dBin, dUn, dVarR, dVar, dApp, dExt, dUpd0, dPut, dAug, dRet, dRetV, dRetN, dBreak, dCont, dIf, dB_u, dTru_u, dTNot, dTAnd, dTOr, dAndV_u, dOrV_u, dNotV_u, dIfX, dChain_u, dCall, dSl, dNoP, dP_u, dLc, dDrop, dFrz, frzD, dAsg, dDicK, dDicT, gN, gT, gsC, gsN, kB.eq_1, kT.eq_1, kT.eq_2, kT.eq_3, kT.eq_4, kT.eq_5, kT.eq_6, kT.eq_7, kT.eq_8, kAnd.eq_1, kOr.eq_1, kNot.eq_1, kIt.eq_1, kIt.eq_2, kIt.eq_3, kIt.eq_4, kP.eq_1, kR1.eq_1, kR2.eq_1, sAdd.eq_1, sAdd.eq_2, sAdd.eq_3, sAdd.eq_4, sJ2.eq_1, sI2.eq_1, sPow, sLt.eq_1, sLt.eq_2, sLe, sGt, sGe, sMul.eq_1, sMul.eq_2, sMulB.eq_1, sMulB.eq_2, sMulB.eq_3, sLR1.eq_1, sLR2.eq_1, sTR1.eq_1, sTR2.eq_1, sIsBl.eq_1, dZip, kZip.eq_1, dDisp1, dSetN, dConsN, dAppN, dPutN, dFld, dFldS, dFldAug, dMeth, dMake, dGet1, dGet2, dDPop, dLPop, dLPopAt, dLClear, dEnum, kEnum.eq_1, dRng3, kR3.eq_1, dForN, dForKeys, dForItems, dLock, lkE, dBack, kNm_f, kNm_t, nmK_f, nmK_lst, nmK_dK, nmK_dT, isDct_dK, isDct_dT, isDct_fK, isDct_fT, sGetO_K, sGetO_S, sGetO_T, sGetO_fK, sGetO_fT, sIn_K, sIn_fK, sIn_T, sIn_fT, sPutC_lst, sPutC_K, sPutC_S, sPutC_T, keyOf_int, keyOf_str, keysC.eq_1, keysC.eq_2, itemsC.eq_1, rs_ref, rs_non, rs_bl, rs_int, rs_str, rs_ty, rs_lst, rs_tup, rs_dK, rs_dT, rs_scr, rs_wD, rs_iD, rs_lwD, resC_lst, resC_dK, resC_dT, resC_fK, resC_fT, resC_ins, updW_same, putFD.eq_1, putFD.eq_2, isL.eq_1, isL.eq_2, sNeg.eq_1, sLen.eq_1, sLen.eq_2, sLen.eq_3, sLen.eq_4, sLen.eq_5, sAbs.eq_1, sMax, sMin, sInt.eq_1, sInt.eq_2, sStr.eq_1, sList.eq_1, sList.eq_2, sList.eq_3, sTuple.eq_1, sTuple.eq_2, sTuple.eq_3, sIsN, sNotN, sIx.eq_1, sIx.eq_2, sIx.eq_3, sIx.eq_4, sIx.eq_5, sIx.eq_6, sIx.eq_7, sIx.eq_8, sIx.eq_9, sSl.eq_1, sSl.eq_2, sSl.eq_3, sSl.eq_4, sRev.eq_1, sRev.eq_2, sRev.eq_3, sAddI.eq_1, sAddI.eq_2, sPut.eq_1, sPut.eq_2, sPut.eq_3, sPut.eq_4, D.isNon, sEq_ii, sNe_ii, sEq_ww, sNe_ww, sEq_ll, sNe_ll, sIsi_ii, sIsi_ib, sIsi_ll, sIsi_tt, sIsi_ss, sEq_w, sEq_i, sEq_lw, sEq_lw', sEq_lle, sEq_lle', sNe_w, sNe_i, sNe_lle', sNe_lw', sEq_ss, sNe_ss, sEq_bb, sNe_bb, sIn_iw, sIn_ii, sIn_wl, sIn_wl', sSl3.eq_1, sSl3.eq_2, dSl3, isS.eq_1, isL.eq_1, isL.eq_2, isA.eq_1, dM0, dM1, sUpper.eq_1, sLower.eq_1, sStrip1.eq_1, sSfind.eq_1, sScount.eq_1, sSindex.eq_1, sSsplit.eq_1, sSjoin.eq_1, sSjoin.eq_2, fPop_snoc, fPop_snoc', startD, wipeD, List.map_cons, List.map_nil, List.length_cons, List.length_nil, List.length_map, List.cons_append, List.nil_append, List.replicate, List.set_cons_zero, List.set_cons_succ, List.set_nil, List.getElem?_cons_zero, List.getElem?_cons_succ, Bool.true_and, Bool.and_true, Bool.and_false, Bool.false_and, Bool.not_true, Bool.not_false, if_true, if_false, Bool.false_eq_true, reduceIte, and_true, true_and, decide_true, decide_false, not_true, Option.map_none, Option.map_some, Option.getD_none, Option.getD_some, Option.isSome_none, Option.isSome_some, Nat.zero_le, Nat.zero_add, Nat.reduceAdd, Nat.reduceSub, D.scal, Option.some.injEq, exists_eq_left', exists_eq_left, exists_eq', D.int.injEq, D.lst.injEq, D.tup.injEq, D.scr.injEq, D.str.injEq, List.cons.injEq, and_self]
  refine ⟨p, _, _, rfl, R.ins, rmF_made .., 1, _, rfl, R.ins, by simp [rmF], ?_⟩
  have e1 : putFD (Str.ofString "made") (D.int ((S.el.length : Int) + 1)) (rmF S.l S.el.length r.e r.k r.t) = rmF S.l (S.el.length + 1) r.e r.k r.t := rmF_putMade _ _ (S.el.length + 1) _ _ _
  rw [e1]
  refine seq_i ?_
  try simp -implicitDefEqProofs only [dNext, dSet, dLst, dTup, dNil, dCons, dFor, dRng1_u, dRng2_u, dIt_u, oX, dC, dBin, dUn, dVarR, dVar, dApp, dExt, dUpd0, dPut, dAug, dRet, dRetV, dRetN, dBreak, dCont, dIf, dB_u, dTru_u, dTNot, dTAnd, dTOr, dAndV_u, dOrV_u, dNotV_u, dIfX, dChain_u, dCall, dSl, dNoP, dP_u, dLc, dDrop, dFrz, frzD, dAsg, dDicK, dDicT, gN, gT, gsC, gsN, kB.eq_1, kT.eq_1, kT.eq_2, kT.eq_3, kT.eq_4, kT.eq_5, kT.eq_6, kT.eq_7, kT.eq_8, kAnd.eq_1, kOr.eq_1, kNot.eq_1, kIt.eq_1, kIt.eq_2, kIt.eq_3, kIt.eq_4, kP.eq_1, kR1.eq_1, kR2.eq_1, sAdd.eq_1, sAdd.eq_2, sAdd.eq_3, sAdd.eq_4, sJ2.eq_1, sI2.eq_1, sPow, sLt.eq_1, sLt.eq_2, sLe, sGt, sGe, sMul.eq_1, sMul.eq_2, sMulB.eq_1, sMulB.eq_2, sMulB.eq_3, sLR1.eq_1, sLR2.eq_1, sTR1.eq_1, sTR2.eq_1, sIsBl.eq_1, dZip, kZip.eq_1, dDisp1, dSetN, dConsN, dAppN, dPutN, dFld, dFldS, dFldAug, dMeth, dMake, dGet1, dGet2, dDPop, dLPop, dLPopAt, dLClear, dEnum, kEnum.eq_1, dRng3, kR3.eq_1, dForN, dForKeys, dForItems, dLock, lkE, dBack, kNm_f, kNm_t, nmK_f, nmK_lst, nmK_dK, nmK_dT, isDct_dK, isDct_dT, isDct_fK, isDct_fT, sGetO_K, sGetO_S, sGetO_T, sGetO_fK, sGetO_fT, sIn_K, sIn_fK, sIn_T, sIn_fT, sPutC_lst, sPutC_K, sPutC_S, sPutC_T, keyOf_int, keyOf_str, keysC.eq_1, keysC.eq_2, itemsC.eq_1, rs_ref, rs_non, rs_bl, rs_int, rs_str, rs_ty, rs_lst, rs_tup, rs_dK, rs_dT, rs_scr, rs_wD, rs_iD, rs_lwD, resC_lst, resC_dK, resC_dT, resC_fK, resC_fT, resC_ins, updW_same, putFD.eq_1, putFD.eq_2, isL.eq_1, isL.eq_2, sNeg.eq_1, sLen.eq_1, sLen.eq_2, sLen.eq_3, sLen.eq_4, sLen.eq_5, sAbs.eq_1, sMax, sMin, sInt.eq_1, sInt.eq_2, sStr.eq_1, sList.eq_1, sList.eq_2, sList.eq_3, sTuple.eq_1, sTuple.eq_2, sTuple.eq_3, sIsN, sNotN, sIx.eq_1, sIx.eq_2, sIx.eq_3, sIx.eq_4, sIx.eq_5, sIx.eq_6, sIx.eq_7, sIx.eq_8, sIx.eq_9, sSl.eq_1, sSl.eq_2, sSl.eq_3, sSl.eq_4, sRev.eq_1, sRev.eq_2, sRev.eq_3, sAddI.eq_1, sAddI.eq_2, sPut.eq_1, sPut.eq_2, sPut.eq_3, sPut.eq_4, D.isNon, sEq_ii, sNe_ii, sEq_ww, sNe_ww, sEq_ll, sNe_ll, sIsi_ii, sIsi_ib, sIsi_ll, sIsi_tt, sIsi_ss, sEq_w, sEq_i, sEq_lw, sEq_lw', sEq_lle, sEq_lle', sNe_w, sNe_i, sNe_lle', sNe_lw', sEq_ss, sNe_ss, sEq_bb, sNe_bb, sIn_iw, sIn_ii, sIn_wl, sIn_wl', sSl3.eq_1, sSl3.eq_2, dSl3, isS.eq_1, isL.eq_1, isL.eq_2, isA.eq_1, dM0, dM1, sUpper.eq_1, sLower.eq_1, sStrip1.eq_1, sSfind.eq_1, sScount.eq_1, sSindex.eq_1, sSsplit.eq_1, sSjoin.eq_1, sSjoin.eq_2, fPop_snoc, fPop_snoc', startD, wipeD, List.map_cons, List.map_nil, List.length_cons, List.length_nil, List.length_map, List.cons_append, List.nil_append, List.replicate, List.set_cons_zero, List.set_cons_succ, List.set_nil, List.getElem?_cons_zero, List.getElem?_cons_succ, Bool.true_and, Bool.and_true, Bool.and_false, Bool.false_and, Bool.not_true, Bool.not_false, if_true, if_false, Bool.false_eq_true, reduceIte, and_true, true_and, decide_true, decide_false, not_true, Option.map_none, Option.map_some, Option.getD_none, Option.getD_some, Option.isSome_none, Option.isSome_some, Nat.zero_le, Nat.zero_add, Nat.reduceAdd, Nat.reduceSub, D.scal, Option.some.injEq, exists_eq_left', exists_eq_left, exists_eq', D.int.injEq, D.lst.injEq, D.tup.injEq, D.scr.injEq, D.str.injEq, List.cons.injEq, and_self]
  refine ⟨p, _, _, rfl, updW_same, rmF_elders .., r.e, _, rfl, by rw [updW_ne npe.symm]; exact R.el, _, by rw [updW_ne npe.symm]; exact R.el, by simp; omega, ?_⟩
  refine seq_i ?_
  try simp -implicitDefEqProofs only [dNext, dSet, dLst, dTup, dNil, dCons, dFor, dRng1_u, dRng2_u, dIt_u, oX, dC, dBin, dUn, dVarR, dVar, dApp, dExt, dUpd0, dPut, dAug, dRet, dRetV, dRetN, dBreak, dCont, dIf, dB_u, dTru_u, dTNot, dTAnd, dTOr, dAndV_u, dOrV_u, dNotV_u, dIfX, dChain_u, dCall, dSl, dNoP, dP_u, dLc, dDrop, dFrz, frzD, dAsg, dDicK, dDicT, gN, gT, gsC, gsN, kB.eq_1, kT.eq_1, kT.eq_2, kT.eq_3, kT.eq_4, kT.eq_5, kT.eq_6, kT.eq_7, kT.eq_8, kAnd.eq_1, kOr.eq_1, kNot.eq_1, kIt.eq_1, kIt.eq_2, kIt.eq_3, kIt.eq_4, kP.eq_1, kR1.eq_1, kR2.eq_1, sAdd.eq_1, sAdd.eq_2, sAdd.eq_3, sAdd.eq_4, sJ2.eq_1, sI2.eq_1, sPow, sLt.eq_1, sLt.eq_2, sLe, sGt, sGe, sMul.eq_1, sMul.eq_2, sMulB.eq_1, sMulB.eq_2, sMulB.eq_3, sLR1.eq_1, sLR2.eq_1, sTR1.eq_1, sTR2.eq_1, sIsBl.eq_1, dZip, kZip.eq_1, dDisp1, dSetN, dConsN, dAppN, dPutN, dFld, dFldS, dFldAug, dMeth, dMake, dGet1, dGet2, dDPop, dLPop, dLPopAt, dLClear, dEnum, kEnum.eq_1, dRng3, kR3.eq_1, dForN, dForKeys, dForItems, dLock, lkE, dBack, kNm_f, kNm_t, nmK_f, nmK_lst, nmK_dK, nmK_dT, isDct_dK, isDct_dT, isDct_fK, isDct_fT, sGetO_K, sGetO_S, sGetO_T, sGetO_fK, sGetO_fT, sIn_K, sIn_fK, sIn_T, sIn_fT, sPutC_lst, sPutC_K, sPutC_S, sPutC_T, keyOf_int, keyOf_str, keysC.eq_1, keysC.eq_2, itemsC.eq_1, rs_ref, rs_non, rs_bl, rs_int, rs_str, rs_ty, rs_lst, rs_tup, rs_dK, rs_dT, rs_scr, rs_wD, rs_iD, rs_lwD, resC_lst, resC_dK, resC_dT, resC_fK, resC_fT, resC_ins, updW_same, putFD.eq_1, putFD.eq_2, isL.eq_1, isL.eq_2, sNeg.eq_1, sLen.eq_1, sLen.eq_2, sLen.eq_3, sLen.eq_4, sLen.eq_5, sAbs.eq_1, sMax, sMin, sInt.eq_1, sInt.eq_2, sStr.eq_1, sList.eq_1, sList.eq_2, sList.eq_3, sTuple.eq_1, sTuple.eq_2, sTuple.eq_3, sIsN, sNotN, sIx.eq_1, sIx.eq_2, sIx.eq_3, sIx.eq_4, sIx.eq_5, sIx.eq_6, sIx.eq_7, sIx.eq_8, sIx.eq_9, sSl.eq_1, sSl.eq_2, sSl.eq_3, sSl.eq_4, sRev.eq_1, sRev.eq_2, sRev.eq_3, sAddI.eq_1, sAddI.eq_2, sPut.eq_1, sPut.eq_2, sPut.eq_3, sPut.eq_4, D.isNon, sEq_ii, sNe_ii, sEq_ww, sNe_ww, sEq_ll, sNe_ll, sIsi_ii, sIsi_ib, sIsi_ll, sIsi_tt, sIsi_ss, sEq_w, sEq_i, sEq_lw, sEq_lw', sEq_lle, sEq_lle', sNe_w, sNe_i, sNe_lle', sNe_lw', sEq_ss, sNe_ss, sEq_bb, sNe_bb, sIn_iw, sIn_ii, sIn_wl, sIn_wl', sSl3.eq_1, sSl3.eq_2, dSl3, isS.eq_1, isL.eq_1, isL.eq_2, isA.eq_1, dM0, dM1, sUpper.eq_1, sLower.eq_1, sStrip1.eq_1, sSfind.eq_1, sScount.eq_1, sSindex.eq_1, sSsplit.eq_1, sSjoin.eq_1, sSjoin.eq_2, fPop_snoc, fPop_snoc', startD, wipeD, List.map_cons, List.map_nil, List.length_cons, List.length_nil, List.length_map, List.cons_append, List.nil_append, List.replicate, List.set_cons_zero, List.set_cons_succ, List.set_nil, List.getElem?_cons_zero, List.getElem?_cons_succ, Bool.true_and, Bool.and_true, Bool.and_false, Bool.false_and, Bool.not_true, Bool.not_false, if_true, if_false, Bool.false_eq_true, reduceIte, and_true, true_and, decide_true, decide_false, not_true, Option.map_none, Option.map_some, Option.getD_none, Option.getD_some, Option.isSome_none, Option.isSome_some, Nat.zero_le, Nat.zero_add, Nat.reduceAdd, Nat.reduceSub, D.scal, Option.some.injEq, exists_eq_left', exists_eq_left, exists_eq', D.int.injEq, D.lst.injEq, D.tup.injEq, D.scr.injEq, D.str.injEq, List.cons.injEq, and_self]
  have i2 : ∀ c c', updW (updW w p c) r.e c' p = some c := fun c c' => by rw [updW_ne npe]; exact updW_same
  refine ⟨p, _, _, rfl, i2 _ _, rmF_known .., r.k, _, rfl, by rw [updW_ne nek.symm, updW_ne npk.symm]; exact R.kl, fun c hc => ?_⟩
  have ncp : c ≠ p := fun z => by subst z; rw [i2] at hc; cases hc
  have nce : c ≠ r.e := fun z => by subst z; rw [updW_same] at hc; cases hc
  have hcw : w c = none := by rw [updW_ne nce, updW_ne ncp] at hc; exact hc
  have nof : ∀ b ∈ r.fp p, c ≠ b := fun b hb z => R.there b hb (z ▸ hcw)
  have nck : c ≠ r.k := nof _ (by simp [RP.fp])
  have nct : c ≠ r.t := nof _ (by simp [RP.fp])
  have ncks : c ∉ r.ks := fun z => nof c (by simp [RP.fp, z]) rfl
  have nca : c ≠ a := fun z => ncks (z ▸ hac)
  refine ⟨_, by rw [updW_ne nck.symm, updW_ne nek.symm, updW_ne npk.symm]; exact R.kl, by simp [R.len, R.len2]; omega, ?_⟩
  have ekl : r.ks.map D.ref ++ [.ref c] = (r.ks ++ [c]).map D.ref := by simp
  rw [ekl]
  refine seq_i ?_
  try simp -implicitDefEqProofs only [dNext, dSet, dLst, dTup, dNil, dCons, dFor, dRng1_u, dRng2_u, dIt_u, oX, dC, dBin, dUn, dVarR, dVar, dApp, dExt, dUpd0, dPut, dAug, dRet, dRetV, dRetN, dBreak, dCont, dIf, dB_u, dTru_u, dTNot, dTAnd, dTOr, dAndV_u, dOrV_u, dNotV_u, dIfX, dChain_u, dCall, dSl, dNoP, dP_u, dLc, dDrop, dFrz, frzD, dAsg, dDicK, dDicT, gN, gT, gsC, gsN, kB.eq_1, kT.eq_1, kT.eq_2, kT.eq_3, kT.eq_4, kT.eq_5, kT.eq_6, kT.eq_7, kT.eq_8, kAnd.eq_1, kOr.eq_1, kNot.eq_1, kIt.eq_1, kIt.eq_2, kIt.eq_3, kIt.eq_4, kP.eq_1, kR1.eq_1, kR2.eq_1, sAdd.eq_1, sAdd.eq_2, sAdd.eq_3, sAdd.eq_4, sJ2.eq_1, sI2.eq_1, sPow, sLt.eq_1, sLt.eq_2, sLe, sGt, sGe, sMul.eq_1, sMul.eq_2, sMulB.eq_1, sMulB.eq_2, sMulB.eq_3, sLR1.eq_1, sLR2.eq_1, sTR1.eq_1, sTR2.eq_1, sIsBl.eq_1, dZip, kZip.eq_1, dDisp1, dSetN, dConsN, dAppN, dPutN, dFld, dFldS, dFldAug, dMeth, dMake, dGet1, dGet2, dDPop, dLPop, dLPopAt, dLClear, dEnum, kEnum.eq_1, dRng3, kR3.eq_1, dForN, dForKeys, dForItems, dLock, lkE, dBack, kNm_f, kNm_t, nmK_f, nmK_lst, nmK_dK, nmK_dT, isDct_dK, isDct_dT, isDct_fK, isDct_fT, sGetO_K, sGetO_S, sGetO_T, sGetO_fK, sGetO_fT, sIn_K, sIn_fK, sIn_T, sIn_fT, sPutC_lst, sPutC_K, sPutC_S, sPutC_T, keyOf_int, keyOf_str, keysC.eq_1, keysC.eq_2, itemsC.eq_1, rs_ref, rs_non, rs_bl, rs_int, rs_str, rs_ty, rs_lst, rs_tup, rs_dK, rs_dT, rs_scr, rs_wD, rs_iD, rs_lwD, resC_lst, resC_dK, resC_dT, resC_fK, resC_fT, resC_ins, updW_same, putFD.eq_1, putFD.eq_2, isL.eq_1, isL.eq_2, sNeg.eq_1, sLen.eq_1, sLen.eq_2, sLen.eq_3, sLen.eq_4, sLen.eq_5, sAbs.eq_1, sMax, sMin, sInt.eq_1, sInt.eq_2, sStr.eq_1, sList.eq_1, sList.eq_2, sList.eq_3, sTuple.eq_1, sTuple.eq_2, sTuple.eq_3, sIsN, sNotN, sIx.eq_1, sIx.eq_2, sIx.eq_3, sIx.eq_4, sIx.eq_5, sIx.eq_6, sIx.eq_7, sIx.eq_8, sIx.eq_9, sSl.eq_1, sSl.eq_2, sSl.eq_3, sSl.eq_4, sRev.eq_1, sRev.eq_2, sRev.eq_3, sAddI.eq_1, sAddI.eq_2, sPut.eq_1, sPut.eq_2, sPut.eq_3, sPut.eq_4, D.isNon, sEq_ii, sNe_ii, sEq_ww, sNe_ww, sEq_ll, sNe_ll, sIsi_ii, sIsi_ib, sIsi_ll, sIsi_tt, sIsi_ss, sEq_w, sEq_i, sEq_lw, sEq_lw', sEq_lle, sEq_lle', sNe_w, sNe_i, sNe_lle', sNe_lw', sEq_ss, sNe_ss, sEq_bb, sNe_bb, sIn_iw, sIn_ii, sIn_wl, sIn_wl', sSl3.eq_1, sSl3.eq_2, dSl3, isS.eq_1, isL.eq_1, isL.eq_2, isA.eq_1, dM0, dM1, sUpper.eq_1, sLower.eq_1, sStrip1.eq_1, sSfind.eq_1, sScount.eq_1, sSindex.eq_1, sSsplit.eq_1, sSjoin.eq_1, sSjoin.eq_2, fPop_snoc, fPop_snoc', startD, wipeD, List.map_cons, List.map_nil, List.length_cons, List.length_nil, List.length_map, List.cons_append, List.nil_append, List.replicate, List.set_cons_zero, List.set_cons_succ, List.set_nil, List.getElem?_cons_zero, List.getElem?_cons_succ, Bool.true_and, Bool.and_true, Bool.and_false, Bool.false_and, Bool.not_true, Bool.not_false, if_true, if_false, Bool.false_eq_true, reduceIte, and_true, true_and, decide_true, decide_false, not_true, Option.map_none, Option.map_some, Option.getD_none, Option.getD_some, Option.isSome_none, Option.isSome_some, Nat.zero_le, Nat.zero_add, Nat.reduceAdd, Nat.reduceSub, D.scal, Option.some.injEq, exists_eq_left', exists_eq_left, exists_eq', D.int.injEq, D.lst.injEq, D.tup.injEq, D.scr.injEq, D.str.injEq, List.cons.injEq, and_self]
  have ha2 : (r.ks ++ [c])[room]? = some a := by rw [List.getElem?_append_left (by rw [R.len]; exact hroom)]; exact ha
  refine ⟨p, _, _, rfl, by rw [updW_ne npk, updW_ne ncp.symm]; exact i2 _ _, rmF_known .., ?_⟩
  try simp -implicitDefEqProofs only [dNext, dSet, dLst, dTup, dNil, dCons, dFor, dRng1_u, dRng2_u, dIt_u, oX, dC, dBin, dUn, dVarR, dVar, dApp, dExt, dUpd0, dPut, dAug, dRet, dRetV, dRetN, dBreak, dCont, dIf, dB_u, dTru_u, dTNot, dTAnd, dTOr, dAndV_u, dOrV_u, dNotV_u, dIfX, dChain_u, dCall, dSl, dNoP, dP_u, dLc, dDrop, dFrz, frzD, dAsg, dDicK, dDicT, gN, gT, gsC, gsN, kB.eq_1, kT.eq_1, kT.eq_2, kT.eq_3, kT.eq_4, kT.eq_5, kT.eq_6, kT.eq_7, kT.eq_8, kAnd.eq_1, kOr.eq_1, kNot.eq_1, kIt.eq_1, kIt.eq_2, kIt.eq_3, kIt.eq_4, kP.eq_1, kR1.eq_1, kR2.eq_1, sAdd.eq_1, sAdd.eq_2, sAdd.eq_3, sAdd.eq_4, sJ2.eq_1, sI2.eq_1, sPow, sLt.eq_1, sLt.eq_2, sLe, sGt, sGe, sMul.eq_1, sMul.eq_2, sMulB.eq_1, sMulB.eq_2, sMulB.eq_3, sLR1.eq_1, sLR2.eq_1, sTR1.eq_1, sTR2.eq_1, sIsBl.eq_1, dZip, kZip.eq_1, dDisp1, dSetN, dConsN, dAppN, dPutN, dFld, dFldS, dFldAug, dMeth, dMake, dGet1, dGet2, dDPop, dLPop, dLPopAt, dLClear, dEnum, kEnum.eq_1, dRng3, kR3.eq_1, dForN, dForKeys, dForItems, dLock, lkE, dBack, kNm_f, kNm_t, nmK_f, nmK_lst, nmK_dK, nmK_dT, isDct_dK, isDct_dT, isDct_fK, isDct_fT, sGetO_K, sGetO_S, sGetO_T, sGetO_fK, sGetO_fT, sIn_K, sIn_fK, sIn_T, sIn_fT, sPutC_lst, sPutC_K, sPutC_S, sPutC_T, keyOf_int, keyOf_str, keysC.eq_1, keysC.eq_2, itemsC.eq_1, rs_ref, rs_non, rs_bl, rs_int, rs_str, rs_ty, rs_lst, rs_tup, rs_dK, rs_dT, rs_scr, rs_wD, rs_iD, rs_lwD, resC_lst, resC_dK, resC_dT, resC_fK, resC_fT, resC_ins, updW_same, putFD.eq_1, putFD.eq_2, isL.eq_1, isL.eq_2, sNeg.eq_1, sLen.eq_1, sLen.eq_2, sLen.eq_3, sLen.eq_4, sLen.eq_5, sAbs.eq_1, sMax, sMin, sInt.eq_1, sInt.eq_2, sStr.eq_1, sList.eq_1, sList.eq_2, sList.eq_3, sTuple.eq_1, sTuple.eq_2, sTuple.eq_3, sIsN, sNotN, sIx.eq_1, sIx.eq_2, sIx.eq_3, sIx.eq_4, sIx.eq_5, sIx.eq_6, sIx.eq_7, sIx.eq_8, sIx.eq_9, sSl.eq_1, sSl.eq_2, sSl.eq_3, sSl.eq_4, sRev.eq_1, sRev.eq_2, sRev.eq_3, sAddI.eq_1, sAddI.eq_2, sPut.eq_1, sPut.eq_2, sPut.eq_3, sPut.eq_4, D.isNon, sEq_ii, sNe_ii, sEq_ww, sNe_ww, sEq_ll, sNe_ll, sIsi_ii, sIsi_ib, sIsi_ll, sIsi_tt, sIsi_ss, sEq_w, sEq_i, sEq_lw, sEq_lw', sEq_lle, sEq_lle', sNe_w, sNe_i, sNe_lle', sNe_lw', sEq_ss, sNe_ss, sEq_bb, sNe_bb, sIn_iw, sIn_ii, sIn_wl, sIn_wl', sSl3.eq_1, sSl3.eq_2, dSl3, isS.eq_1, isL.eq_1, isL.eq_2, isA.eq_1, dM0, dM1, sUpper.eq_1, sLower.eq_1, sStrip1.eq_1, sSfind.eq_1, sScount.eq_1, sSindex.eq_1, sSsplit.eq_1, sSjoin.eq_1, sSjoin.eq_2, fPop_snoc, fPop_snoc', startD, wipeD, List.map_cons, List.map_nil, List.length_cons, List.length_nil, List.length_map, List.cons_append, List.nil_append, List.replicate, List.set_cons_zero, List.set_cons_succ, List.set_nil, List.getElem?_cons_zero, List.getElem?_cons_succ, Bool.true_and, Bool.and_true, Bool.and_false, Bool.false_and, Bool.not_true, Bool.not_false, if_true, if_false, Bool.false_eq_true, reduceIte, and_true, true_and, decide_true, decide_false, not_true, Option.map_none, Option.map_some, Option.getD_none, Option.getD_some, Option.isSome_none, Option.isSome_some, Nat.zero_le, Nat.zero_add, Nat.reduceAdd, Nat.reduceSub, D.scal, Option.some.injEq, exists_eq_left', exists_eq_left, exists_eq', D.int.injEq, D.lst.injEq, D.tup.injEq, D.scr.injEq, D.str.injEq, List.cons.injEq, and_self]
  refine ⟨.ref a, atI_f D.ref (by omega) (by rw [Int.toNat_natCast]; exact ha2), a, rfl, ?_⟩
  have hwa : ∀ c1 c2 c3 c4, updW (updW (updW (updW w p c1) r.e c2) c c3) r.k c4 a = some (.dK (kvD m)) := fun c1 c2 c3 c4 => by rw [updW_ne nak, updW_ne nca.symm, updW_ne nae, updW_ne nap]; exact R.kn room a m ha hm
  rw [hwa]
  try simp -implicitDefEqProofs only [dNext, dSet, dLst, dTup, dNil, dCons, dFor, dRng1_u, dRng2_u, dIt_u, oX, dC, dBin, dUn, dVarR, dVar, dApp, dExt, dUpd0, dPut, dAug, dRet, dRetV, dRetN, dBreak, dCont, dIf, dB_u, dTru_u, dTNot, dTAnd, dTOr, dAndV_u, dOrV_u, dNotV_u, dIfX, dChain_u, dCall, dSl, dNoP, dP_u, dLc, dDrop, dFrz, frzD, dAsg, dDicK, dDicT, gN, gT, gsC, gsN, kB.eq_1, kT.eq_1, kT.eq_2, kT.eq_3, kT.eq_4, kT.eq_5, kT.eq_6, kT.eq_7, kT.eq_8, kAnd.eq_1, kOr.eq_1, kNot.eq_1, kIt.eq_1, kIt.eq_2, kIt.eq_3, kIt.eq_4, kP.eq_1, kR1.eq_1, kR2.eq_1, sAdd.eq_1, sAdd.eq_2, sAdd.eq_3, sAdd.eq_4, sJ2.eq_1, sI2.eq_1, sPow, sLt.eq_1, sLt.eq_2, sLe, sGt, sGe, sMul.eq_1, sMul.eq_2, sMulB.eq_1, sMulB.eq_2, sMulB.eq_3, sLR1.eq_1, sLR2.eq_1, sTR1.eq_1, sTR2.eq_1, sIsBl.eq_1, dZip, kZip.eq_1, dDisp1, dSetN, dConsN, dAppN, dPutN, dFld, dFldS, dFldAug, dMeth, dMake, dGet1, dGet2, dDPop, dLPop, dLPopAt, dLClear, dEnum, kEnum.eq_1, dRng3, kR3.eq_1, dForN, dForKeys, dForItems, dLock, lkE, dBack, kNm_f, kNm_t, nmK_f, nmK_lst, nmK_dK, nmK_dT, isDct_dK, isDct_dT, isDct_fK, isDct_fT, sGetO_K, sGetO_S, sGetO_T, sGetO_fK, sGetO_fT, sIn_K, sIn_fK, sIn_T, sIn_fT, sPutC_lst, sPutC_K, sPutC_S, sPutC_T, keyOf_int, keyOf_str, keysC.eq_1, keysC.eq_2, itemsC.eq_1, rs_ref, rs_non, rs_bl, rs_int, rs_str, rs_ty, rs_lst, rs_tup, rs_dK, rs_dT, rs_scr, rs_wD, rs_iD, rs_lwD, resC_lst, resC_dK, resC_dT, resC_fK, resC_fT, resC_ins, updW_same, putFD.eq_1, putFD.eq_2, isL.eq_1, isL.eq_2, sNeg.eq_1, sLen.eq_1, sLen.eq_2, sLen.eq_3, sLen.eq_4, sLen.eq_5, sAbs.eq_1, sMax, sMin, sInt.eq_1, sInt.eq_2, sStr.eq_1, sList.eq_1, sList.eq_2, sList.eq_3, sTuple.eq_1, sTuple.eq_2, sTuple.eq_3, sIsN, sNotN, sIx.eq_1, sIx.eq_2, sIx.eq_3, sIx.eq_4, sIx.eq_5, sIx.eq_6, sIx.eq_7, sIx.eq_8, sIx.eq_9, sSl.eq_1, sSl.eq_2, sSl.eq_3, sSl.eq_4, sRev.eq_1, sRev.eq_2, sRev.eq_3, sAddI.eq_1, sAddI.eq_2, sPut.eq_1, sPut.eq_2, sPut.eq_3, sPut.eq_4, D.isNon, sEq_ii, sNe_ii, sEq_ww, sNe_ww, sEq_ll, sNe_ll, sIsi_ii, sIsi_ib, sIsi_ll, sIsi_tt, sIsi_ss, sEq_w, sEq_i, sEq_lw, sEq_lw', sEq_lle, sEq_lle', sNe_w, sNe_i, sNe_lle', sNe_lw', sEq_ss, sNe_ss, sEq_bb, sNe_bb, sIn_iw, sIn_ii, sIn_wl, sIn_wl', sSl3.eq_1, sSl3.eq_2, dSl3, isS.eq_1, isL.eq_1, isL.eq_2, isA.eq_1, dM0, dM1, sUpper.eq_1, sLower.eq_1, sStrip1.eq_1, sSfind.eq_1, sScount.eq_1, sSindex.eq_1, sSsplit.eq_1, sSjoin.eq_1, sSjoin.eq_2, fPop_snoc, fPop_snoc', startD, wipeD, List.map_cons, List.map_nil, List.length_cons, List.length_nil, List.length_map, List.cons_append, List.nil_append, List.replicate, List.set_cons_zero, List.set_cons_succ, List.set_nil, List.getElem?_cons_zero, List.getElem?_cons_succ, Bool.true_and, Bool.and_true, Bool.and_false, Bool.false_and, Bool.not_true, Bool.not_false, if_true, if_false, Bool.false_eq_true, reduceIte, and_true, true_and, decide_true, decide_false, not_true, Option.map_none, Option.map_some, Option.getD_none, Option.getD_some, Option.isSome_none, Option.isSome_some, Nat.zero_le, Nat.zero_add, Nat.reduceAdd, Nat.reduceSub, D.scal, Option.some.injEq, exists_eq_left', exists_eq_left, exists_eq', D.int.injEq, D.lst.injEq, D.tup.injEq, D.scr.injEq, D.str.injEq, List.cons.injEq, and_self]
  rw [kv_put, kv_len]
  refine ⟨by omega, ?_⟩
  refine seq_i ?_
  try simp -implicitDefEqProofs only [dNext, dSet, dLst, dTup, dNil, dCons, dFor, dRng1_u, dRng2_u, dIt_u, oX, dC, dBin, dUn, dVarR, dVar, dApp, dExt, dUpd0, dPut, dAug, dRet, dRetV, dRetN, dBreak, dCont, dIf, dB_u, dTru_u, dTNot, dTAnd, dTOr, dAndV_u, dOrV_u, dNotV_u, dIfX, dChain_u, dCall, dSl, dNoP, dP_u, dLc, dDrop, dFrz, frzD, dAsg, dDicK, dDicT, gN, gT, gsC, gsN, kB.eq_1, kT.eq_1, kT.eq_2, kT.eq_3, kT.eq_4, kT.eq_5, kT.eq_6, kT.eq_7, kT.eq_8, kAnd.eq_1, kOr.eq_1, kNot.eq_1, kIt.eq_1, kIt.eq_2, kIt.eq_3, kIt.eq_4, kP.eq_1, kR1.eq_1, kR2.eq_1, sAdd.eq_1, sAdd.eq_2, sAdd.eq_3, sAdd.eq_4, sJ2.eq_1, sI2.eq_1, sPow, sLt.eq_1, sLt.eq_2, sLe, sGt, sGe, sMul.eq_1, sMul.eq_2, sMulB.eq_1, sMulB.eq_2, sMulB.eq_3, sLR1.eq_1, sLR2.eq_1, sTR1.eq_1, sTR2.eq_1, sIsBl.eq_1, dZip, kZip.eq_1, dDisp1, dSetN, dConsN, dAppN, dPutN, dFld, dFldS, dFldAug, dMeth, dMake, dGet1, dGet2, dDPop, dLPop, dLPopAt, dLClear, dEnum, kEnum.eq_1, dRng3, kR3.eq_1, dForN, dForKeys, dForItems, dLock, lkE, dBack, kNm_f, kNm_t, nmK_f, nmK_lst, nmK_dK, nmK_dT, isDct_dK, isDct_dT, isDct_fK, isDct_fT, sGetO_K, sGetO_S, sGetO_T, sGetO_fK, sGetO_fT, sIn_K, sIn_fK, sIn_T, sIn_fT, sPutC_lst, sPutC_K, sPutC_S, sPutC_T, keyOf_int, keyOf_str, keysC.eq_1, keysC.eq_2, itemsC.eq_1, rs_ref, rs_non, rs_bl, rs_int, rs_str, rs_ty, rs_lst, rs_tup, rs_dK, rs_dT, rs_scr, rs_wD, rs_iD, rs_lwD, resC_lst, resC_dK, resC_dT, resC_fK, resC_fT, resC_ins, updW_same, putFD.eq_1, putFD.eq_2, isL.eq_1, isL.eq_2, sNeg.eq_1, sLen.eq_1, sLen.eq_2, sLen.eq_3, sLen.eq_4, sLen.eq_5, sAbs.eq_1, sMax, sMin, sInt.eq_1, sInt.eq_2, sStr.eq_1, sList.eq_1, sList.eq_2, sList.eq_3, sTuple.eq_1, sTuple.eq_2, sTuple.eq_3, sIsN, sNotN, sIx.eq_1, sIx.eq_2, sIx.eq_3, sIx.eq_4, sIx.eq_5, sIx.eq_6, sIx.eq_7, sIx.eq_8, sIx.eq_9, sSl.eq_1, sSl.eq_2, sSl.eq_3, sSl.eq_4, sRev.eq_1, sRev.eq_2, sRev.eq_3, sAddI.eq_1, sAddI.eq_2, sPut.eq_1, sPut.eq_2, sPut.eq_3, sPut.eq_4, D.isNon, sEq_ii, sNe_ii, sEq_ww, sNe_ww, sEq_ll, sNe_ll, sIsi_ii, sIsi_ib, sIsi_ll, sIsi_tt, sIsi_ss, sEq_w, sEq_i, sEq_lw, sEq_lw', sEq_lle, sEq_lle', sNe_w, sNe_i, sNe_lle', sNe_lw', sEq_ss, sNe_ss, sEq_bb, sNe_bb, sIn_iw, sIn_ii, sIn_wl, sIn_wl', sSl3.eq_1, sSl3.eq_2, dSl3, isS.eq_1, isL.eq_1, isL.eq_2, isA.eq_1, dM0, dM1, sUpper.eq_1, sLower.eq_1, sStrip1.eq_1, sSfind.eq_1, sScount.eq_1, sSindex.eq_1, sSsplit.eq_1, sSjoin.eq_1, sSjoin.eq_2, fPop_snoc, fPop_snoc', startD, wipeD, List.map_cons, List.map_nil, List.length_cons, List.length_nil, List.length_map, List.cons_append, List.nil_append, List.replicate, List.set_cons_zero, List.set_cons_succ, List.set_nil, List.getElem?_cons_zero, List.getElem?_cons_succ, Bool.true_and, Bool.and_true, Bool.and_false, Bool.false_and, Bool.not_true, Bool.not_false, if_true, if_false, Bool.false_eq_true, reduceIte, and_true, true_and, decide_true, decide_false, not_true, Option.map_none, Option.map_some, Option.getD_none, Option.getD_some, Option.isSome_none, Option.isSome_some, Nat.zero_le, Nat.zero_add, Nat.reduceAdd, Nat.reduceSub, D.scal, Option.some.injEq, exists_eq_left', exists_eq_left, exists_eq', D.int.injEq, D.lst.injEq, D.tup.injEq, D.scr.injEq, D.str.injEq, List.cons.injEq, and_self]
  refine ⟨p, _, _, rfl, by rw [updW_ne nap.symm, updW_ne npk, updW_ne ncp.symm]; exact i2 _ _, rmF_told .., r.t, S.told, rfl, ?_⟩
  have ht : ∀ c1 c2 c3 c4 c5, updW (updW (updW (updW (updW w p c1) r.e c2) c c3) r.k c4) a c5 r.t = some (.lst S.told) := fun c1 c2 c3 c4 c5 => by rw [updW_ne nat.symm, updW_ne nkt.symm, updW_ne nct.symm, updW_ne net.symm, updW_ne npt.symm]; exact R.td
  refine ⟨ht _ _ _ _ _, by omega, S.told, ht _ _ _ _ _, by omega, ?_⟩
  try simp -implicitDefEqProofs only [dNext, dSet, dLst, dTup, dNil, dCons, dFor, dRng1_u, dRng2_u, dIt_u, oX, dC, dBin, dUn, dVarR, dVar, dApp, dExt, dUpd0, dPut, dAug, dRet, dRetV, dRetN, dBreak, dCont, dIf, dB_u, dTru_u, dTNot, dTAnd, dTOr, dAndV_u, dOrV_u, dNotV_u, dIfX, dChain_u, dCall, dSl, dNoP, dP_u, dLc, dDrop, dFrz, frzD, dAsg, dDicK, dDicT, gN, gT, gsC, gsN, kB.eq_1, kT.eq_1, kT.eq_2, kT.eq_3, kT.eq_4, kT.eq_5, kT.eq_6, kT.eq_7, kT.eq_8, kAnd.eq_1, kOr.eq_1, kNot.eq_1, kIt.eq_1, kIt.eq_2, kIt.eq_3, kIt.eq_4, kP.eq_1, kR1.eq_1, kR2.eq_1, sAdd.eq_1, sAdd.eq_2, sAdd.eq_3, sAdd.eq_4, sJ2.eq_1, sI2.eq_1, sPow, sLt.eq_1, sLt.eq_2, sLe, sGt, sGe, sMul.eq_1, sMul.eq_2, sMulB.eq_1, sMulB.eq_2, sMulB.eq_3, sLR1.eq_1, sLR2.eq_1, sTR1.eq_1, sTR2.eq_1, sIsBl.eq_1, dZip, kZip.eq_1, dDisp1, dSetN, dConsN, dAppN, dPutN, dFld, dFldS, dFldAug, dMeth, dMake, dGet1, dGet2, dDPop, dLPop, dLPopAt, dLClear, dEnum, kEnum.eq_1, dRng3, kR3.eq_1, dForN, dForKeys, dForItems, dLock, lkE, dBack, kNm_f, kNm_t, nmK_f, nmK_lst, nmK_dK, nmK_dT, isDct_dK, isDct_dT, isDct_fK, isDct_fT, sGetO_K, sGetO_S, sGetO_T, sGetO_fK, sGetO_fT, sIn_K, sIn_fK, sIn_T, sIn_fT, sPutC_lst, sPutC_K, sPutC_S, sPutC_T, keyOf_int, keyOf_str, keysC.eq_1, keysC.eq_2, itemsC.eq_1, rs_ref, rs_non, rs_bl, rs_int, rs_str, rs_ty, rs_lst, rs_tup, rs_dK, rs_dT, rs_scr, rs_wD, rs_iD, rs_lwD, resC_lst, resC_dK, resC_dT, resC_fK, resC_fT, resC_ins, updW_same, putFD.eq_1, putFD.eq_2, isL.eq_1, isL.eq_2, sNeg.eq_1, sLen.eq_1, sLen.eq_2, sLen.eq_3, sLen.eq_4, sLen.eq_5, sAbs.eq_1, sMax, sMin, sInt.eq_1, sInt.eq_2, sStr.eq_1, sList.eq_1, sList.eq_2, sList.eq_3, sTuple.eq_1, sTuple.eq_2, sTuple.eq_3, sIsN, sNotN, sIx.eq_1, sIx.eq_2, sIx.eq_3, sIx.eq_4, sIx.eq_5, sIx.eq_6, sIx.eq_7, sIx.eq_8, sIx.eq_9, sSl.eq_1, sSl.eq_2, sSl.eq_3, sSl.eq_4, sRev.eq_1, sRev.eq_2, sRev.eq_3, sAddI.eq_1, sAddI.eq_2, sPut.eq_1, sPut.eq_2, sPut.eq_3, sPut.eq_4, D.isNon, sEq_ii, sNe_ii, sEq_ww, sNe_ww, sEq_ll, sNe_ll, sIsi_ii, sIsi_ib, sIsi_ll, sIsi_tt, sIsi_ss, sEq_w, sEq_i, sEq_lw, sEq_lw', sEq_lle, sEq_lle', sNe_w, sNe_i, sNe_lle', sNe_lw', sEq_ss, sNe_ss, sEq_bb, sNe_bb, sIn_iw, sIn_ii, sIn_wl, sIn_wl', sSl3.eq_1, sSl3.eq_2, dSl3, isS.eq_1, isL.eq_1, isL.eq_2, isA.eq_1, dM0, dM1, sUpper.eq_1, sLower.eq_1, sStrip1.eq_1, sSfind.eq_1, sScount.eq_1, sSindex.eq_1, sSsplit.eq_1, sSjoin.eq_1, sSjoin.eq_2, fPop_snoc, fPop_snoc', startD, wipeD, List.map_cons, List.map_nil, List.length_cons, List.length_nil, List.length_map, List.cons_append, List.nil_append, List.replicate, List.set_cons_zero, List.set_cons_succ, List.set_nil, List.getElem?_cons_zero, List.getElem?_cons_succ, Bool.true_and, Bool.and_true, Bool.and_false, Bool.false_and, Bool.not_true, Bool.not_false, if_true, if_false, Bool.false_eq_true, reduceIte, and_true, true_and, decide_true, decide_false, not_true, Option.map_none, Option.map_some, Option.getD_none, Option.getD_some, Option.isSome_none, Option.isSome_some, Nat.zero_le, Nat.zero_add, Nat.reduceAdd, Nat.reduceSub, D.scal, Option.some.injEq, exists_eq_left', exists_eq_left, exists_eq', D.int.injEq, D.lst.injEq, D.tup.injEq, D.scr.injEq, D.str.injEq, List.cons.injEq, and_self]
  refine q _ ⟨r.e, r.k, r.t, r.ks ++ [c]⟩ ⟨?_, ?_, ?_, ?_, ?_, ?_, ?_, ?_⟩ ⟨?_, ?_⟩
  · rw [updW_ne npt, updW_ne nap.symm, updW_ne npk, updW_ne ncp.symm, updW_ne npe, updW_same]
    simp [RS.mk1]
  · rw [updW_ne net, updW_ne nae.symm, updW_ne nek, updW_ne nce.symm, updW_same]
    simp [RS.mk1]
  · rw [updW_ne nkt, updW_ne nak.symm, updW_same]
  · rw [updW_same]
    simp [RS.mk1, newR]
  · intro i b mm hi hmm
    simp only [RS.mk1, hm, Option.getD_some] at hmm
    by_cases hil : i < r.ks.length
    · have hi' := hi
      rw [List.getElem?_append_left hil] at hi'
      have hbc := List.mem_of_getElem? hi'
      have nbt : b ≠ r.t := fun z => ntks (z ▸ hbc)
      have nbk : b ≠ r.k := fun z => nkks (z ▸ hbc)
      have nbe : b ≠ r.e := fun z => neks (z ▸ hbc)
      have nbp : b ≠ p := fun z => npks (z ▸ hbc)
      have nbc : b ≠ c := fun z => ncks (z ▸ hbc)
      rw [List.getElem?_append_left (by rw [List.length_set, ← R.len]; exact hil)] at hmm
      rw [updW_ne nbt]
      rcases get_set hmm with ⟨e, e2⟩ | ⟨e, e2⟩
      · subst e
        rw [ha] at hi'
        cases hi'
        rw [updW_same, e2]
      · have nba : b ≠ a := fun z => by
          subst z
          obtain ⟨g1, g2⟩ := List.getElem?_eq_some_iff.mp ha
          obtain ⟨g3, g4⟩ := List.getElem?_eq_some_iff.mp hi'
          rcases Nat.lt_trichotomy room i with h | h | h
          · exact List.pairwise_iff_getElem.mp nks room i g1 g3 h (g2.trans g4.symm)
          · exact e h
          · exact List.pairwise_iff_getElem.mp nks i room g3 g1 h (g4.trans g2.symm)
        rw [updW_ne nba, updW_ne nbk, updW_ne nbc, updW_ne nbe, updW_ne nbp]
        exact R.kn i b mm hi' e2
    · have hi0 : i = r.ks.length := by have := (List.getElem?_eq_some_iff.mp hi).1; simp at this; omega
      subst hi0
      simp at hi
      subst hi
      rw [List.getElem?_append_right (by rw [List.length_set, ← R.len]; exact Nat.le_refl _), List.length_set, ← R.len, Nat.sub_self] at hmm
      simp at hmm
      subst hmm
      rw [updW_ne nct, updW_ne nca, updW_ne nck, updW_same]
      simp [kvD, fD]
  · simp [RS.mk1, R.len]
  · simp [RS.mk1, R.len2]
  · have := R.nd
    unfold RP.fp at this ⊢
    simp only [List.nodup_cons, List.mem_cons, List.mem_append, List.mem_singleton, not_or, List.nodup_append] at this ⊢
    refine ⟨⟨npe, npk, npt, npks, ?_⟩, ⟨nek, net, neks, ?_⟩, ⟨nkt, nkks, ?_⟩, ⟨ntks, ?_⟩, nks, by simp, fun x hx y hy z => ncks (by simp at hy; rw [← hy, ← z]; exact hx)⟩
    · simp [ncp.symm]
    · simp [nce.symm]
    · simp [nck.symm]
    · simp [nct.symm]
  · intro b hb hn
    have g : ∀ x ∈ r.fp p, b ≠ x := fun x hx z => hb (z ▸ hx)
    have g5 : b ≠ c := fun z => hn (z ▸ hcw)
    rw [updW_ne (g r.t (by simp [RP.fp])), updW_ne (g a (by simp [RP.fp, hac])), updW_ne (g r.k (by simp [RP.fp])), updW_ne g5, updW_ne (g r.e (by simp [RP.fp])), updW_ne (g p (by simp [RP.fp]))]
  · intro b hb
    simp only [RP.fp, List.mem_cons, List.mem_append, List.mem_singleton] at hb ⊢
    rcases hb with h | h | h | h | h | h
    · exact .inl (.inl h)
    · exact .inl (.inr (.inl h))
    · exact .inl (.inr (.inr (.inl h)))
    · exact .inl (.inr (.inr (.inr (.inl h))))
    · exact .inl (.inr (.inr (.inr (.inr h))))
    · rcases h with h | h
      · subst h; exact .inr hcw
      · cases h
theorem Rm.notT {w : Om} {p : Addr} {r : RP} {S : RS} (h : Rm w p r S) {b : Addr} {kvs : List (List Key × D)} (hb : w b = some (.dT kvs)) : b ∉ r.fp p := fun hm => by
  simp only [RP.fp, List.mem_cons] at hm
  rcases hm with e | e | e | e | e
  · subst e; rw [h.ins] at hb; cases hb
  · subst e; rw [h.el] at hb; cases hb
  · subst e; rw [h.kl] at hb; cases hb
  · subst e; rw [h.td] at hb; cases hb
  · obtain ⟨i, hi⟩ := List.mem_iff_getElem?.mp e
    have hl := (List.getElem?_eq_some_iff.mp hi).1
    rw [h.kn i b _ hi (List.getElem?_eq_getElem (by rw [← h.len]; exact hl))] at hb
    cases hb
mutual
theorem eqv_py : ∀ d : D, PyData.eqv d.py d.py = true
  | .non => by simp [D.py, PyData.eqv]
  | .bl _ => by simp [D.py, PyData.eqv]
  | .int _ => by simp [D.py, PyData.eqv]
  | .str _ => by simp [D.py, PyData.eqv]
  | .lst ds => by simp [D.py, PyData.eqv, eqv_pyAll ds]
  | .tup ds => by simp [D.py, PyData.eqv, eqv_pyAll ds]
  | .ref _ => by simp [D.py, PyData.eqv]
  | .ty _ => by simp [D.py, PyData.eqv]
  | .dK _ => by simp [D.py, PyData.eqv]
  | .dT _ => by simp [D.py, PyData.eqv]
  | .fK _ => by simp [D.py, PyData.eqv]
  | .fT _ => by simp [D.py, PyData.eqv]
  | .scr ns => by
    simp only [D.py, PyData.eqv]
    induction ns with
    | nil => rfl
    | cons n ns ih => simp [PyData.eqvAll, PyData.eqv, ih]
theorem eqv_pyAll : ∀ ds : List D, PyData.eqvAll (pyAll ds) (pyAll ds) = true
  | [] => rfl
  | d :: ds => by simp [pyAll, PyData.eqvAll, eqv_py d, eqv_pyAll ds]
end
theorem sEq_self {d : D} (h : d.pl = true) (hd : d.py.depth ≤ 64) (P : Bool → D → Prop) : sEq d d P = P false (.bl true) := by
  unfold sEq
  have e : d.eqv d = true := eqv_py d
  rw [e]
  simp [h, hd]
theorem sNe_self {d : D} (h : d.pl = true) (hd : d.py.depth ≤ 64) (P : Bool → D → Prop) : sNe d d P = P false (.bl false) := by
  unfold sNe
  have e : d.eqv d = true := eqv_py d
  rw [e]
  simp [h, hd]
/-- plain data of little depth -/
structure Flat (d : D) (n : Nat) : Prop where
  pl : d.pl = true
  dep : d.py.depth ≤ n
theorem Flat.int (i : Int) (n : Nat) : Flat (.int i) n := ⟨rfl, Nat.zero_le _⟩
theorem Flat.str (i : Str) (n : Nat) : Flat (.str i) n := ⟨rfl, Nat.zero_le _⟩
theorem Flat.all {n : Nat} : ∀ {ds : List D}, (∀ d ∈ ds, Flat d n) → plAll ds = true ∧ PyData.depthAll (pyAll ds) ≤ n
  | [], _ => ⟨rfl, Nat.zero_le _⟩
  | d :: ds, h => by
    obtain ⟨a, b⟩ := Flat.all (ds := ds) fun x hx => h x (List.mem_cons_of_mem _ hx)
    have := h d List.mem_cons_self
    exact ⟨by rw [plAll, this.pl, a]; rfl, by rw [pyAll, PyData.depthAll]; exact Nat.max_le.mpr ⟨this.dep, b⟩⟩
theorem Flat.lst {n : Nat} {ds : List D} (h : ∀ d ∈ ds, Flat d n) : Flat (.lst ds) (n + 1) := ⟨(Flat.all h).1, Nat.succ_le_succ (Flat.all h).2⟩
theorem Flat.tup {n : Nat} {ds : List D} (h : ∀ d ∈ ds, Flat d n) : Flat (.tup ds) (n + 1) := ⟨(Flat.all h).1, Nat.succ_le_succ (Flat.all h).2⟩
theorem Flat.eq {d : D} {n : Nat} (h : Flat d n) (hn : n ≤ 64) (P : Bool → D → Prop) : sEq d d P = P false (.bl true) := sEq_self h.pl (Nat.le_trans h.dep hn) P
theorem Flat.ne {d : D} {n : Nat} (h : Flat d n) (hn : n ≤ 64) (P : Bool → D → Prop) : sNe d d P = P false (.bl false) := sNe_self h.pl (Nat.le_trans h.dep hn) P
theorem newR_flat (a : Nat) (s : Int) (n : Nat) : Flat (newR a s n) 1 := Flat.tup (n := 0) fun d hd => by
  simp at hd
  rcases hd with h | h | h | h <;> subst h
  · exact .str _ _
  · exact .int _ _
  · exact .int _ _
  · exact .int _ _

def T_Lcell_at : DSp := fun ds w P => ∃ (ns : List Int) (k : Int), ds = [.scr ns, .int k] ∧ 0 ≤ k ∧ k ≤ 1000 ∧ ∀ x : Int, P false (.int x) w
theorem len_Lcell_at (ds : List D) (w : Om) (P : Bool → D → Om → Prop) (h : T_Lcell_at ds w P) : ds.length = 2 := by first | (have h := h.1; subst h; rfl) | (obtain ⟨rfl, _⟩ := h; rfl) | (obtain ⟨_, rfl, _⟩ := h; rfl) | (obtain ⟨_, _, rfl, _⟩ := h; rfl) | (obtain ⟨_, _, _, rfl, _⟩ := h; rfl) | (obtain ⟨_, _, _, _, rfl, _⟩ := h; rfl) | (obtain ⟨_, _, _, _, _, rfl, _⟩ := h; rfl) | (obtain ⟨_, _, _, _, _, _, rfl, _⟩ := h; rfl) | (obtain ⟨_, _, _, _, _, _, _, rfl, _⟩ := h; rfl) | (obtain ⟨_, _, _, _, _, _, _, _, rfl, _⟩ := h; rfl) | (obtain ⟨_, _, _, _, _, _, _, _, _, rfl, _⟩ := h; rfl) | (obtain ⟨_, _, _, _, _, _, _, _, _, _, rfl, _⟩ := h; rfl) | (obtain ⟨_, _, _, _, _, _, _, _, _, _, _, rfl, _⟩ := h; rfl)
def b_Lcell_at : DS := (dSeq (dIf (dB (dBin sLt (dVarR 1) (oX (dUn sLen (dVarR 0))))) (dRet (dBin sIx (dVarR 0) (dVarR 1))) dNext)
    (dRet (dC (.int 0))))
theorem v_Lcell_at (ds : List D) (w : Om) (P : Bool → D → Om → Prop) (h : T_Lcell_at ds w P) : b_Lcell_at { nx := fun _ w => P false .non w, rt := P } (startD ["_law_script", "_law_k"] ds) w := by
  unfold b_Lcell_at
  obtain ⟨ns, k, rfl, h0, h1, q⟩ := h
  refine seq_i ?_
  try simp -implicitDefEqProofs only [dNext, dSet, dLst, dTup, dNil, dCons, dFor, dRng1_u, dRng2_u, dIt_u, oX, dC, dBin, dUn, dVarR, dVar, dApp, dExt, dUpd0, dPut, dAug, dRet, dRetV, dRetN, dBreak, dCont, dIf, dB_u, dTru_u, dTNot, dTAnd, dTOr, dAndV_u, dOrV_u, dNotV_u, dIfX, dChain_u, dCall, dSl, dNoP, dP_u, dLc, dDrop, dFrz, frzD, dAsg, dDicK, dDicT, gN, gT, gsC, gsN, kB.eq_1, kT.eq_1, kT.eq_2, kT.eq_3, kT.eq_4, kT.eq_5, kT.eq_6, kT.eq_7, kT.eq_8, kAnd.eq_1, kOr.eq_1, kNot.eq_1, kIt.eq_1, kIt.eq_2, kIt.eq_3, kIt.eq_4, kP.eq_1, kR1.eq_1, kR2.eq_1, sAdd.eq_1, sAdd.eq_2, sAdd.eq_3, sAdd.eq_4, sJ2.eq_1, sI2.eq_1, sPow, sLt.eq_1, sLt.eq_2, sLe, sGt, sGe, sMul.eq_1, sMul.eq_2, sMulB.eq_1, sMulB.eq_2, sMulB.eq_3, sLR1.eq_1, sLR2.eq_1, sTR1.eq_1, sTR2.eq_1, sIsBl.eq_1, dZip, kZip.eq_1, dDisp1, dSetN, dConsN, dAppN, dPutN, dFld, dFldS, dFldAug, dMeth, dMake, dGet1, dGet2, dDPop, dLPop, dLPopAt, dLClear, dEnum, kEnum.eq_1, dRng3, kR3.eq_1, dForN, dForKeys, dForItems, dLock, lkE, dBack, kNm_f, kNm_t, nmK_f, nmK_lst, nmK_dK, nmK_dT, isDct_dK, isDct_dT, isDct_fK, isDct_fT, sGetO_K, sGetO_S, sGetO_T, sGetO_fK, sGetO_fT, sIn_K, sIn_fK, sIn_T, sIn_fT, sPutC_lst, sPutC_K, sPutC_S, sPutC_T, keyOf_int, keyOf_str, keysC.eq_1, keysC.eq_2, itemsC.eq_1, rs_ref, rs_non, rs_bl, rs_int, rs_str, rs_ty, rs_lst, rs_tup, rs_dK, rs_dT, rs_scr, rs_wD, rs_iD, rs_lwD, resC_lst, resC_dK, resC_dT, resC_fK, resC_fT, resC_ins, updW_same, putFD.eq_1, putFD.eq_2, isL.eq_1, isL.eq_2, sNeg.eq_1, sLen.eq_1, sLen.eq_2, sLen.eq_3, sLen.eq_4, sLen.eq_5, sAbs.eq_1, sMax, sMin, sInt.eq_1, sInt.eq_2, sStr.eq_1, sList.eq_1, sList.eq_2, sList.eq_3, sTuple.eq_1, sTuple.eq_2, sTuple.eq_3, sIsN, sNotN, sIx.eq_1, sIx.eq_2, sIx.eq_3, sIx.eq_4, sIx.eq_5, sIx.eq_6, sIx.eq_7, sIx.eq_8, sIx.eq_9, sSl.eq_1, sSl.eq_2, sSl.eq_3, sSl.eq_4, sRev.eq_1, sRev.eq_2, sRev.eq_3, sAddI.eq_1, sAddI.eq_2, sPut.eq_1, sPut.eq_2, sPut.eq_3, sPut.eq_4, D.isNon, sEq_ii, sNe_ii, sEq_ww, sNe_ww, sEq_ll, sNe_ll, sIsi_ii, sIsi_ib, sIsi_ll, sIsi_tt, sIsi_ss, sEq_w, sEq_i, sEq_lw, sEq_lw', sEq_lle, sEq_lle', sNe_w, sNe_i, sNe_lle', sNe_lw', sEq_ss, sNe_ss, sEq_bb, sNe_bb, sIn_iw, sIn_ii, sIn_wl, sIn_wl', sSl3.eq_1, sSl3.eq_2, dSl3, isS.eq_1, isL.eq_1, isL.eq_2, isA.eq_1, dM0, dM1, sUpper.eq_1, sLower.eq_1, sStrip1.eq_1, sSfind.eq_1, sScount.eq_1, sSindex.eq_1, sSsplit.eq_1, sSjoin.eq_1, sSjoin.eq_2, fPop_snoc, fPop_snoc', startD, wipeD, List.map_cons, List.map_nil, List.length_cons, List.length_nil, List.length_map, List.cons_append, List.nil_append, List.replicate, List.set_cons_zero, List.set_cons_succ, List.set_nil, List.getElem?_cons_zero, List.getElem?_cons_succ, Bool.true_and, Bool.and_true, Bool.and_false, Bool.false_and, Bool.not_true, Bool.not_false, if_true, if_false, Bool.false_eq_true, reduceIte, and_true, true_and, decide_true, decide_false, not_true, Option.map_none, Option.map_some, Option.getD_none, Option.getD_some, Option.isSome_none, Option.isSome_some, Nat.zero_le, Nat.zero_add, Nat.reduceAdd, Nat.reduceSub, D.scal]
  split
  · next hk =>
    simp at hk
    exact ⟨ns[k.toNat], by rw [atI_nn h0 hk]; simp, q _⟩
  · try simp -implicitDefEqProofs only [dNext, dSet, dLst, dTup, dNil, dCons, dFor, dRng1_u, dRng2_u, dIt_u, oX, dC, dBin, dUn, dVarR, dVar, dApp, dExt, dUpd0, dPut, dAug, dRet, dRetV, dRetN, dBreak, dCont, dIf, dB_u, dTru_u, dTNot, dTAnd, dTOr, dAndV_u, dOrV_u, dNotV_u, dIfX, dChain_u, dCall, dSl, dNoP, dP_u, dLc, dDrop, dFrz, frzD, dAsg, dDicK, dDicT, gN, gT, gsC, gsN, kB.eq_1, kT.eq_1, kT.eq_2, kT.eq_3, kT.eq_4, kT.eq_5, kT.eq_6, kT.eq_7, kT.eq_8, kAnd.eq_1, kOr.eq_1, kNot.eq_1, kIt.eq_1, kIt.eq_2, kIt.eq_3, kIt.eq_4, kP.eq_1, kR1.eq_1, kR2.eq_1, sAdd.eq_1, sAdd.eq_2, sAdd.eq_3, sAdd.eq_4, sJ2.eq_1, sI2.eq_1, sPow, sLt.eq_1, sLt.eq_2, sLe, sGt, sGe, sMul.eq_1, sMul.eq_2, sMulB.eq_1, sMulB.eq_2, sMulB.eq_3, sLR1.eq_1, sLR2.eq_1, sTR1.eq_1, sTR2.eq_1, sIsBl.eq_1, dZip, kZip.eq_1, dDisp1, dSetN, dConsN, dAppN, dPutN, dFld, dFldS, dFldAug, dMeth, dMake, dGet1, dGet2, dDPop, dLPop, dLPopAt, dLClear, dEnum, kEnum.eq_1, dRng3, kR3.eq_1, dForN, dForKeys, dForItems, dLock, lkE, dBack, kNm_f, kNm_t, nmK_f, nmK_lst, nmK_dK, nmK_dT, isDct_dK, isDct_dT, isDct_fK, isDct_fT, sGetO_K, sGetO_S, sGetO_T, sGetO_fK, sGetO_fT, sIn_K, sIn_fK, sIn_T, sIn_fT, sPutC_lst, sPutC_K, sPutC_S, sPutC_T, keyOf_int, keyOf_str, keysC.eq_1, keysC.eq_2, itemsC.eq_1, rs_ref, rs_non, rs_bl, rs_int, rs_str, rs_ty, rs_lst, rs_tup, rs_dK, rs_dT, rs_scr, rs_wD, rs_iD, rs_lwD, resC_lst, resC_dK, resC_dT, resC_fK, resC_fT, resC_ins, updW_same, putFD.eq_1, putFD.eq_2, isL.eq_1, isL.eq_2, sNeg.eq_1, sLen.eq_1, sLen.eq_2, sLen.eq_3, sLen.eq_4, sLen.eq_5, sAbs.eq_1, sMax, sMin, sInt.eq_1, sInt.eq_2, sStr.eq_1, sList.eq_1, sList.eq_2, sList.eq_3, sTuple.eq_1, sTuple.eq_2, sTuple.eq_3, sIsN, sNotN, sIx.eq_1, sIx.eq_2, sIx.eq_3, sIx.eq_4, sIx.eq_5, sIx.eq_6, sIx.eq_7, sIx.eq_8, sIx.eq_9, sSl.eq_1, sSl.eq_2, sSl.eq_3, sSl.eq_4, sRev.eq_1, sRev.eq_2, sRev.eq_3, sAddI.eq_1, sAddI.eq_2, sPut.eq_1, sPut.eq_2, sPut.eq_3, sPut.eq_4, D.isNon, sEq_ii, sNe_ii, sEq_ww, sNe_ww, sEq_ll, sNe_ll, sIsi_ii, sIsi_ib, sIsi_ll, sIsi_tt, sIsi_ss, sEq_w, sEq_i, sEq_lw, sEq_lw', sEq_lle, sEq_lle', sNe_w, sNe_i, sNe_lle', sNe_lw', sEq_ss, sNe_ss, sEq_bb, sNe_bb, sIn_iw, sIn_ii, sIn_wl, sIn_wl', sSl3.eq_1, sSl3.eq_2, dSl3, isS.eq_1, isL.eq_1, isL.eq_2, isA.eq_1, dM0, dM1, sUpper.eq_1, sLower.eq_1, sStrip1.eq_1, sSfind.eq_1, sScount.eq_1, sSindex.eq_1, sSsplit.eq_1, sSjoin.eq_1, sSjoin.eq_2, fPop_snoc, fPop_snoc', startD, wipeD, List.map_cons, List.map_nil, List.length_cons, List.length_nil, List.length_map, List.cons_append, List.nil_append, List.replicate, List.set_cons_zero, List.set_cons_succ, List.set_nil, List.getElem?_cons_zero, List.getElem?_cons_succ, Bool.true_and, Bool.and_true, Bool.and_false, Bool.false_and, Bool.not_true, Bool.not_false, if_true, if_false, Bool.false_eq_true, reduceIte, and_true, true_and, decide_true, decide_false, not_true, Option.map_none, Option.map_some, Option.getD_none, Option.getD_some, Option.isSome_none, Option.isSome_some, Nat.zero_le, Nat.zero_add, Nat.reduceAdd, Nat.reduceSub, D.scal, Option.some.injEq, exists_eq_left', exists_eq_left, exists_eq', D.int.injEq, D.lst.injEq, D.tup.injEq, D.scr.injEq, D.str.injEq, List.cons.injEq, and_self]
    exact q _
def T_Lwhole : DSp := fun ds w P => ∃ i : Int, ds = [.int i] ∧ P false (.bl true) w
theorem len_Lwhole (ds : List D) (w : Om) (P : Bool → D → Om → Prop) (h : T_Lwhole ds w P) : ds.length = 1 := by first | (have h := h.1; subst h; rfl) | (obtain ⟨rfl, _⟩ := h; rfl) | (obtain ⟨_, rfl, _⟩ := h; rfl) | (obtain ⟨_, _, rfl, _⟩ := h; rfl) | (obtain ⟨_, _, _, rfl, _⟩ := h; rfl) | (obtain ⟨_, _, _, _, rfl, _⟩ := h; rfl) | (obtain ⟨_, _, _, _, _, rfl, _⟩ := h; rfl) | (obtain ⟨_, _, _, _, _, _, rfl, _⟩ := h; rfl) | (obtain ⟨_, _, _, _, _, _, _, rfl, _⟩ := h; rfl) | (obtain ⟨_, _, _, _, _, _, _, _, rfl, _⟩ := h; rfl) | (obtain ⟨_, _, _, _, _, _, _, _, _, rfl, _⟩ := h; rfl) | (obtain ⟨_, _, _, _, _, _, _, _, _, _, rfl, _⟩ := h; rfl) | (obtain ⟨_, _, _, _, _, _, _, _, _, _, _, rfl, _⟩ := h; rfl)
def b_Lwhole : DS := (dRet (dAndV (dBin sIsi (dVarR 0) (oX (dC (.ty "int")))) (dNotV (dBin sIsi (dVarR 0) (oX (dC (.ty "bool")))))))
theorem v_Lwhole (ds : List D) (w : Om) (P : Bool → D → Om → Prop) (h : T_Lwhole ds w P) : b_Lwhole { nx := fun _ w => P false .non w, rt := P } (startD ["_law_found"] ds) w := by
  unfold b_Lwhole
  obtain ⟨i, rfl, q⟩ := h
  simp only [dNext, dSet, dLst, dTup, dNil, dCons, dFor, dRng1_u, dRng2_u, dIt_u, oX, dC, dBin, dUn, dVarR, dVar, dApp, dExt, dUpd0, dPut, dAug, dRet, dRetV, dRetN, dBreak, dCont, dIf, dB_u, dTru_u, dTNot, dTAnd, dTOr, dAndV_u, dOrV_u, dNotV_u, dIfX, dChain_u, dCall, dSl, dNoP, dP_u, dLc, dDrop, dFrz, frzD, dAsg, dDicK, dDicT, gN, gT, gsC, gsN, kB.eq_1, kT.eq_1, kT.eq_2, kT.eq_3, kT.eq_4, kT.eq_5, kT.eq_6, kT.eq_7, kT.eq_8, kAnd.eq_1, kOr.eq_1, kNot.eq_1, kIt.eq_1, kIt.eq_2, kIt.eq_3, kIt.eq_4, kP.eq_1, kR1.eq_1, kR2.eq_1, sAdd.eq_1, sAdd.eq_2, sAdd.eq_3, sAdd.eq_4, sJ2.eq_1, sI2.eq_1, sPow, sLt.eq_1, sLt.eq_2, sLe, sGt, sGe, sMul.eq_1, sMul.eq_2, sMulB.eq_1, sMulB.eq_2, sMulB.eq_3, sLR1.eq_1, sLR2.eq_1, sTR1.eq_1, sTR2.eq_1, sIsBl.eq_1, dZip, kZip.eq_1, dDisp1, dSetN, dConsN, dAppN, dPutN, dFld, dFldS, dFldAug, dMeth, dMake, dGet1, dGet2, dDPop, dLPop, dLPopAt, dLClear, dEnum, kEnum.eq_1, dRng3, kR3.eq_1, dForN, dForKeys, dForItems, dLock, lkE, dBack, kNm_f, kNm_t, nmK_f, nmK_lst, nmK_dK, nmK_dT, isDct_dK, isDct_dT, isDct_fK, isDct_fT, sGetO_K, sGetO_S, sGetO_T, sGetO_fK, sGetO_fT, sIn_K, sIn_fK, sIn_T, sIn_fT, sPutC_lst, sPutC_K, sPutC_S, sPutC_T, keyOf_int, keyOf_str, keysC.eq_1, keysC.eq_2, itemsC.eq_1, rs_ref, rs_non, rs_bl, rs_int, rs_str, rs_ty, rs_lst, rs_tup, rs_dK, rs_dT, rs_scr, rs_wD, rs_iD, rs_lwD, resC_lst, resC_dK, resC_dT, resC_fK, resC_fT, resC_ins, updW_same, putFD.eq_1, putFD.eq_2, isL.eq_1, isL.eq_2, sNeg.eq_1, sLen.eq_1, sLen.eq_2, sLen.eq_3, sLen.eq_4, sLen.eq_5, sAbs.eq_1, sMax, sMin, sInt.eq_1, sInt.eq_2, sStr.eq_1, sList.eq_1, sList.eq_2, sList.eq_3, sTuple.eq_1, sTuple.eq_2, sTuple.eq_3, sIsN, sNotN, sIx.eq_1, sIx.eq_2, sIx.eq_3, sIx.eq_4, sIx.eq_5, sIx.eq_6, sIx.eq_7, sIx.eq_8, sIx.eq_9, sSl.eq_1, sSl.eq_2, sSl.eq_3, sSl.eq_4, sRev.eq_1, sRev.eq_2, sRev.eq_3, sAddI.eq_1, sAddI.eq_2, sPut.eq_1, sPut.eq_2, sPut.eq_3, sPut.eq_4, D.isNon, sEq_ii, sNe_ii, sEq_ww, sNe_ww, sEq_ll, sNe_ll, sIsi_ii, sIsi_ib, sIsi_ll, sIsi_tt, sIsi_ss, sEq_w, sEq_i, sEq_lw, sEq_lw', sEq_lle, sEq_lle', sNe_w, sNe_i, sNe_lle', sNe_lw', sEq_ss, sNe_ss, sEq_bb, sNe_bb, sIn_iw, sIn_ii, sIn_wl, sIn_wl', sSl3.eq_1, sSl3.eq_2, dSl3, isS.eq_1, isL.eq_1, isL.eq_2, isA.eq_1, dM0, dM1, sUpper.eq_1, sLower.eq_1, sStrip1.eq_1, sSfind.eq_1, sScount.eq_1, sSindex.eq_1, sSsplit.eq_1, sSjoin.eq_1, sSjoin.eq_2, fPop_snoc, fPop_snoc', startD, wipeD, List.map_cons, List.map_nil, List.length_cons, List.length_nil, List.length_map, List.cons_append, List.nil_append, List.replicate, List.set_cons_zero, List.set_cons_succ, List.set_nil, List.getElem?_cons_zero, List.getElem?_cons_succ, Bool.true_and, Bool.and_true, Bool.and_false, Bool.false_and, Bool.not_true, Bool.not_false, if_true, if_false, Bool.false_eq_true, reduceIte, and_true, true_and, decide_true, decide_false, not_true, Option.map_none, Option.map_some, Option.getD_none, Option.getD_some, Option.isSome_none, Option.isSome_some, Nat.zero_le, Nat.zero_add, Nat.reduceAdd, Nat.reduceSub, D.scal]
  exact q
def T_Lstep : DSp := fun ds w P => ∃ (n : Int) (l : Nat), ds = [.int n, .int l] ∧ 1 ≤ l ∧ l ≤ 200 ∧ ∀ x : Int, x ≠ 0 → P false (.int x) w
theorem len_Lstep (ds : List D) (w : Om) (P : Bool → D → Om → Prop) (h : T_Lstep ds w P) : ds.length = 2 := by first | (have h := h.1; subst h; rfl) | (obtain ⟨rfl, _⟩ := h; rfl) | (obtain ⟨_, rfl, _⟩ := h; rfl) | (obtain ⟨_, _, rfl, _⟩ := h; rfl) | (obtain ⟨_, _, _, rfl, _⟩ := h; rfl) | (obtain ⟨_, _, _, _, rfl, _⟩ := h; rfl) | (obtain ⟨_, _, _, _, _, rfl, _⟩ := h; rfl) | (obtain ⟨_, _, _, _, _, _, rfl, _⟩ := h; rfl) | (obtain ⟨_, _, _, _, _, _, _, rfl, _⟩ := h; rfl) | (obtain ⟨_, _, _, _, _, _, _, _, rfl, _⟩ := h; rfl) | (obtain ⟨_, _, _, _, _, _, _, _, _, rfl, _⟩ := h; rfl) | (obtain ⟨_, _, _, _, _, _, _, _, _, _, rfl, _⟩ := h; rfl) | (obtain ⟨_, _, _, _, _, _, _, _, _, _, _, rfl, _⟩ := h; rfl)
def b_Lstep : DS := (dSeq (dIf (dB (dBin sEq (oX (dBin sMod (dVarR 0) (oX (dC (.int 2))))) (oX (dC (.int 1))))) (dRet (dUn sNeg (oX (dBin sAdd (oX (dC (.int 1))) (oX (dBin sMod (oX (dBin sFdiv (dVarR 0) (oX (dC (.int 2))))) (dVarR 1))))))) dNext)
    (dRet (dBin sAdd (oX (dC (.int 1))) (oX (dBin sMod (oX (dBin sFdiv (dVarR 0) (oX (dC (.int 2))))) (dVarR 1))))))
theorem v_Lstep (ds : List D) (w : Om) (P : Bool → D → Om → Prop) (h : T_Lstep ds w P) : b_Lstep { nx := fun _ w => P false .non w, rt := P } (startD ["_law_number", "_law_letters"] ds) w := by
  unfold b_Lstep
  obtain ⟨n, l, rfl, h0, h1, q⟩ := h
  have b := mod_bd (n / 2) (j := (l : Int)) (by omega)
  refine seq_cut (fun δ w' => w' = w ∧ δ = [some (false, .int n), some (false, .int l)]) (fun N h => ?_) ?_
  · try simp -implicitDefEqProofs only [dNext, dSet, dLst, dTup, dNil, dCons, dFor, dRng1_u, dRng2_u, dIt_u, oX, dC, dBin, dUn, dVarR, dVar, dApp, dExt, dUpd0, dPut, dAug, dRet, dRetV, dRetN, dBreak, dCont, dIf, dB_u, dTru_u, dTNot, dTAnd, dTOr, dAndV_u, dOrV_u, dNotV_u, dIfX, dChain_u, dCall, dSl, dNoP, dP_u, dLc, dDrop, dFrz, frzD, dAsg, dDicK, dDicT, gN, gT, gsC, gsN, kB.eq_1, kT.eq_1, kT.eq_2, kT.eq_3, kT.eq_4, kT.eq_5, kT.eq_6, kT.eq_7, kT.eq_8, kAnd.eq_1, kOr.eq_1, kNot.eq_1, kIt.eq_1, kIt.eq_2, kIt.eq_3, kIt.eq_4, kP.eq_1, kR1.eq_1, kR2.eq_1, sAdd.eq_1, sAdd.eq_2, sAdd.eq_3, sAdd.eq_4, sJ2.eq_1, sI2.eq_1, sPow, sLt.eq_1, sLt.eq_2, sLe, sGt, sGe, sMul.eq_1, sMul.eq_2, sMulB.eq_1, sMulB.eq_2, sMulB.eq_3, sLR1.eq_1, sLR2.eq_1, sTR1.eq_1, sTR2.eq_1, sIsBl.eq_1, dZip, kZip.eq_1, dDisp1, dSetN, dConsN, dAppN, dPutN, dFld, dFldS, dFldAug, dMeth, dMake, dGet1, dGet2, dDPop, dLPop, dLPopAt, dLClear, dEnum, kEnum.eq_1, dRng3, kR3.eq_1, dForN, dForKeys, dForItems, dLock, lkE, dBack, kNm_f, kNm_t, nmK_f, nmK_lst, nmK_dK, nmK_dT, isDct_dK, isDct_dT, isDct_fK, isDct_fT, sGetO_K, sGetO_S, sGetO_T, sGetO_fK, sGetO_fT, sIn_K, sIn_fK, sIn_T, sIn_fT, sPutC_lst, sPutC_K, sPutC_S, sPutC_T, keyOf_int, keyOf_str, keysC.eq_1, keysC.eq_2, itemsC.eq_1, rs_ref, rs_non, rs_bl, rs_int, rs_str, rs_ty, rs_lst, rs_tup, rs_dK, rs_dT, rs_scr, rs_wD, rs_iD, rs_lwD, resC_lst, resC_dK, resC_dT, resC_fK, resC_fT, resC_ins, updW_same, putFD.eq_1, putFD.eq_2, isL.eq_1, isL.eq_2, sNeg.eq_1, sLen.eq_1, sLen.eq_2, sLen.eq_3, sLen.eq_4, sLen.eq_5, sAbs.eq_1, sMax, sMin, sInt.eq_1, sInt.eq_2, sStr.eq_1, sList.eq_1, sList.eq_2, sList.eq_3, sTuple.eq_1, sTuple.eq_2, sTuple.eq_3, sIsN, sNotN, sIx.eq_1, sIx.eq_2, sIx.eq_3, sIx.eq_4, sIx.eq_5, sIx.eq_6, sIx.eq_7, sIx.eq_8, sIx.eq_9, sSl.eq_1, sSl.eq_2, sSl.eq_3, sSl.eq_4, sRev.eq_1, sRev.eq_2, sRev.eq_3, sAddI.eq_1, sAddI.eq_2, sPut.eq_1, sPut.eq_2, sPut.eq_3, sPut.eq_4, D.isNon, sEq_ii, sNe_ii, sEq_ww, sNe_ww, sEq_ll, sNe_ll, sIsi_ii, sIsi_ib, sIsi_ll, sIsi_tt, sIsi_ss, sEq_w, sEq_i, sEq_lw, sEq_lw', sEq_lle, sEq_lle', sNe_w, sNe_i, sNe_lle', sNe_lw', sEq_ss, sNe_ss, sEq_bb, sNe_bb, sIn_iw, sIn_ii, sIn_wl, sIn_wl', sSl3.eq_1, sSl3.eq_2, dSl3, isS.eq_1, isL.eq_1, isL.eq_2, isA.eq_1, dM0, dM1, sUpper.eq_1, sLower.eq_1, sStrip1.eq_1, sSfind.eq_1, sScount.eq_1, sSindex.eq_1, sSsplit.eq_1, sSjoin.eq_1, sSjoin.eq_2, fPop_snoc, fPop_snoc', startD, wipeD, List.map_cons, List.map_nil, List.length_cons, List.length_nil, List.length_map, List.cons_append, List.nil_append, List.replicate, List.set_cons_zero, List.set_cons_succ, List.set_nil, List.getElem?_cons_zero, List.getElem?_cons_succ, Bool.true_and, Bool.and_true, Bool.and_false, Bool.false_and, Bool.not_true, Bool.not_false, if_true, if_false, Bool.false_eq_true, reduceIte, and_true, true_and, decide_true, decide_false, not_true, Option.map_none, Option.map_some, Option.getD_none, Option.getD_some, Option.isSome_none, Option.isSome_some, Nat.zero_le, Nat.zero_add, Nat.reduceAdd, Nat.reduceSub, D.scal, Option.some.injEq, exists_eq_left', exists_eq_left, exists_eq', D.int.injEq, D.lst.injEq, D.tup.injEq, D.scr.injEq, D.str.injEq, List.cons.injEq, and_self]
    refine ⟨by omega, if_join (fun _ => ?_) (fun _ => h _ _ ⟨rfl, rfl⟩)⟩
    exact ⟨divC (by omega) (by omega), by omega, q _ (by omega)⟩
  rintro δ w' ⟨rfl, rfl⟩
  try simp -implicitDefEqProofs only [dNext, dSet, dLst, dTup, dNil, dCons, dFor, dRng1_u, dRng2_u, dIt_u, oX, dC, dBin, dUn, dVarR, dVar, dApp, dExt, dUpd0, dPut, dAug, dRet, dRetV, dRetN, dBreak, dCont, dIf, dB_u, dTru_u, dTNot, dTAnd, dTOr, dAndV_u, dOrV_u, dNotV_u, dIfX, dChain_u, dCall, dSl, dNoP, dP_u, dLc, dDrop, dFrz, frzD, dAsg, dDicK, dDicT, gN, gT, gsC, gsN, kB.eq_1, kT.eq_1, kT.eq_2, kT.eq_3, kT.eq_4, kT.eq_5, kT.eq_6, kT.eq_7, kT.eq_8, kAnd.eq_1, kOr.eq_1, kNot.eq_1, kIt.eq_1, kIt.eq_2, kIt.eq_3, kIt.eq_4, kP.eq_1, kR1.eq_1, kR2.eq_1, sAdd.eq_1, sAdd.eq_2, sAdd.eq_3, sAdd.eq_4, sJ2.eq_1, sI2.eq_1, sPow, sLt.eq_1, sLt.eq_2, sLe, sGt, sGe, sMul.eq_1, sMul.eq_2, sMulB.eq_1, sMulB.eq_2, sMulB.eq_3, sLR1.eq_1, sLR2.eq_1, sTR1.eq_1, sTR2.eq_1, sIsBl.eq_1, dZip, kZip.eq_1, dDisp1, dSetN, dConsN, dAppN, dPutN, dFld, dFldS, dFldAug, dMeth, dMake, dGet1, dGet2, dDPop, dLPop, dLPopAt, dLClear, dEnum, kEnum.eq_1, dRng3, kR3.eq_1, dForN, dForKeys, dForItems, dLock, lkE, dBack, kNm_f, kNm_t, nmK_f, nmK_lst, nmK_dK, nmK_dT, isDct_dK, isDct_dT, isDct_fK, isDct_fT, sGetO_K, sGetO_S, sGetO_T, sGetO_fK, sGetO_fT, sIn_K, sIn_fK, sIn_T, sIn_fT, sPutC_lst, sPutC_K, sPutC_S, sPutC_T, keyOf_int, keyOf_str, keysC.eq_1, keysC.eq_2, itemsC.eq_1, rs_ref, rs_non, rs_bl, rs_int, rs_str, rs_ty, rs_lst, rs_tup, rs_dK, rs_dT, rs_scr, rs_wD, rs_iD, rs_lwD, resC_lst, resC_dK, resC_dT, resC_fK, resC_fT, resC_ins, updW_same, putFD.eq_1, putFD.eq_2, isL.eq_1, isL.eq_2, sNeg.eq_1, sLen.eq_1, sLen.eq_2, sLen.eq_3, sLen.eq_4, sLen.eq_5, sAbs.eq_1, sMax, sMin, sInt.eq_1, sInt.eq_2, sStr.eq_1, sList.eq_1, sList.eq_2, sList.eq_3, sTuple.eq_1, sTuple.eq_2, sTuple.eq_3, sIsN, sNotN, sIx.eq_1, sIx.eq_2, sIx.eq_3, sIx.eq_4, sIx.eq_5, sIx.eq_6, sIx.eq_7, sIx.eq_8, sIx.eq_9, sSl.eq_1, sSl.eq_2, sSl.eq_3, sSl.eq_4, sRev.eq_1, sRev.eq_2, sRev.eq_3, sAddI.eq_1, sAddI.eq_2, sPut.eq_1, sPut.eq_2, sPut.eq_3, sPut.eq_4, D.isNon, sEq_ii, sNe_ii, sEq_ww, sNe_ww, sEq_ll, sNe_ll, sIsi_ii, sIsi_ib, sIsi_ll, sIsi_tt, sIsi_ss, sEq_w, sEq_i, sEq_lw, sEq_lw', sEq_lle, sEq_lle', sNe_w, sNe_i, sNe_lle', sNe_lw', sEq_ss, sNe_ss, sEq_bb, sNe_bb, sIn_iw, sIn_ii, sIn_wl, sIn_wl', sSl3.eq_1, sSl3.eq_2, dSl3, isS.eq_1, isL.eq_1, isL.eq_2, isA.eq_1, dM0, dM1, sUpper.eq_1, sLower.eq_1, sStrip1.eq_1, sSfind.eq_1, sScount.eq_1, sSindex.eq_1, sSsplit.eq_1, sSjoin.eq_1, sSjoin.eq_2, fPop_snoc, fPop_snoc', startD, wipeD, List.map_cons, List.map_nil, List.length_cons, List.length_nil, List.length_map, List.cons_append, List.nil_append, List.replicate, List.set_cons_zero, List.set_cons_succ, List.set_nil, List.getElem?_cons_zero, List.getElem?_cons_succ, Bool.true_and, Bool.and_true, Bool.and_false, Bool.false_and, Bool.not_true, Bool.not_false, if_true, if_false, Bool.false_eq_true, reduceIte, and_true, true_and, decide_true, decide_false, not_true, Option.map_none, Option.map_some, Option.getD_none, Option.getD_some, Option.isSome_none, Option.isSome_some, Nat.zero_le, Nat.zero_add, Nat.reduceAdd, Nat.reduceSub, D.scal, Option.some.injEq, exists_eq_left', exists_eq_left, exists_eq', D.int.injEq, D.lst.injEq, D.tup.injEq, D.scr.injEq, D.str.injEq, List.cons.injEq, and_self]
  exact ⟨divC (by omega) (by omega), by omega, q _ (by omega)⟩
abbrev Rw := Nat × Int × Nat
def rwD (x : Rw) : D := newR x.1 x.2.1 x.2.2
def T_Lrows : DSp := fun ds w P => ∃ (rs : List Rw) (d : D), ds = [.lst (rs.map rwD), d] ∧ res w d = .lst (rs.map rwD) ∧ P false (.bl true) w
theorem len_Lrows (ds : List D) (w : Om) (P : Bool → D → Om → Prop) (h : T_Lrows ds w P) : ds.length = 2 := by first | (have h := h.1; subst h; rfl) | (obtain ⟨rfl, _⟩ := h; rfl) | (obtain ⟨_, rfl, _⟩ := h; rfl) | (obtain ⟨_, _, rfl, _⟩ := h; rfl) | (obtain ⟨_, _, _, rfl, _⟩ := h; rfl) | (obtain ⟨_, _, _, _, rfl, _⟩ := h; rfl) | (obtain ⟨_, _, _, _, _, rfl, _⟩ := h; rfl) | (obtain ⟨_, _, _, _, _, _, rfl, _⟩ := h; rfl) | (obtain ⟨_, _, _, _, _, _, _, rfl, _⟩ := h; rfl) | (obtain ⟨_, _, _, _, _, _, _, _, rfl, _⟩ := h; rfl) | (obtain ⟨_, _, _, _, _, _, _, _, _, rfl, _⟩ := h; rfl) | (obtain ⟨_, _, _, _, _, _, _, _, _, _, rfl, _⟩ := h; rfl) | (obtain ⟨_, _, _, _, _, _, _, _, _, _, _, rfl, _⟩ := h; rfl)
def b_Lrows : DS := (dSeq (dIf (dTOr (dTNot (dTru (oX (dBin sIsi (dVarR 0) (oX (dC (.ty "list"))))))) (dB (dBin sNe (oX (dUn sLen (dVarR 0))) (oX (dUn sLen (dVarR 1)))))) (dRet (dC (.bl false))) dNext)
    (dSeq (dFor (dIt (dVar 0)) (gN 2) (dSeq (dIf (dTOr (dTNot (dTru (oX (dBin sIsi (dVarR 2) (oX (dC (.ty "tuple"))))))) (dTOr (dB (dBin sNe (oX (dUn sLen (dVarR 2))) (oX (dC (.int 4))))) (dTNot (dTru (oX (dBin sIsi (oX (dBin sIx (dVarR 2) (oX (dC (.int 0))))) (oX (dC (.ty "str"))))))))) (dRet (dC (.bl false))) dNext)
    (dIf (dTOr (dTNot (dTru (oX (dCall T_Lwhole (dCons (dBin sIx (dVarR 2) (oX (dC (.int 1)))) dNil))))) (dTOr (dTNot (dTru (oX (dCall T_Lwhole (dCons (dBin sIx (dVarR 2) (oX (dC (.int 2)))) dNil))))) (dTNot (dTru (oX (dCall T_Lwhole (dCons (dBin sIx (dVarR 2) (oX (dC (.int 3)))) dNil))))))) (dRet (dC (.bl false))) dNext)))
    (dRet (dBin sEq (dVarR 0) (dVarR 1)))))
theorem v_Lrows (ds : List D) (w : Om) (P : Bool → D → Om → Prop) (h : T_Lrows ds w P) : b_Lrows { nx := fun _ w => P false .non w, rt := P } (startD ["_law_told", "_law_due", "_law_row"] ds) w := by
  unfold b_Lrows
  obtain ⟨rs, d, rfl, hd, q⟩ := h
  refine seq_i ?_
  try simp -implicitDefEqProofs only [hd, not_true, dNext, dSet, dLst, dTup, dNil, dCons, dFor, dRng1_u, dRng2_u, dIt_u, oX, dC, dBin, dUn, dVarR, dVar, dApp, dExt, dUpd0, dPut, dAug, dRet, dRetV, dRetN, dBreak, dCont, dIf, dB_u, dTru_u, dTNot, dTAnd, dTOr, dAndV_u, dOrV_u, dNotV_u, dIfX, dChain_u, dCall, dSl, dNoP, dP_u, dLc, dDrop, dFrz, frzD, dAsg, dDicK, dDicT, gN, gT, gsC, gsN, kB.eq_1, kT.eq_1, kT.eq_2, kT.eq_3, kT.eq_4, kT.eq_5, kT.eq_6, kT.eq_7, kT.eq_8, kAnd.eq_1, kOr.eq_1, kNot.eq_1, kIt.eq_1, kIt.eq_2, kIt.eq_3, kIt.eq_4, kP.eq_1, kR1.eq_1, kR2.eq_1, sAdd.eq_1, sAdd.eq_2, sAdd.eq_3, sAdd.eq_4, sJ2.eq_1, sI2.eq_1, sPow, sLt.eq_1, sLt.eq_2, sLe, sGt, sGe, sMul.eq_1, sMul.eq_2, sMulB.eq_1, sMulB.eq_2, sMulB.eq_3, sLR1.eq_1, sLR2.eq_1, sTR1.eq_1, sTR2.eq_1, sIsBl.eq_1, dZip, kZip.eq_1, dDisp1, dSetN, dConsN, dAppN, dPutN, dFld, dFldS, dFldAug, dMeth, dMake, dGet1, dGet2, dDPop, dLPop, dLPopAt, dLClear, dEnum, kEnum.eq_1, dRng3, kR3.eq_1, dForN, dForKeys, dForItems, dLock, lkE, dBack, kNm_f, kNm_t, nmK_f, nmK_lst, nmK_dK, nmK_dT, isDct_dK, isDct_dT, isDct_fK, isDct_fT, sGetO_K, sGetO_S, sGetO_T, sGetO_fK, sGetO_fT, sIn_K, sIn_fK, sIn_T, sIn_fT, sPutC_lst, sPutC_K, sPutC_S, sPutC_T, keyOf_int, keyOf_str, keysC.eq_1, keysC.eq_2, itemsC.eq_1, rs_ref, rs_non, rs_bl, rs_int, rs_str, rs_ty, rs_lst, rs_tup, rs_dK, rs_dT, rs_scr, rs_wD, rs_iD, rs_lwD, resC_lst, resC_dK, resC_dT, resC_fK, resC_fT, resC_ins, updW_same, putFD.eq_1, putFD.eq_2, isL.eq_1, isL.eq_2, sNeg.eq_1, sLen.eq_1, sLen.eq_2, sLen.eq_3, sLen.eq_4, sLen.eq_5, sAbs.eq_1, sMax, sMin, sInt.eq_1, sInt.eq_2, sStr.eq_1, sList.eq_1, sList.eq_2, sList.eq_3, sTuple.eq_1, sTuple.eq_2, sTuple.eq_3, sIsN, sNotN, sIx.eq_1, sIx.eq_2, sIx.eq_3, sIx.eq_4, sIx.eq_5, sIx.eq_6, sIx.eq_7, sIx.eq_8, sIx.eq_9, sSl.eq_1, sSl.eq_2, sSl.eq_3, sSl.eq_4, sRev.eq_1, sRev.eq_2, sRev.eq_3, sAddI.eq_1, sAddI.eq_2, sPut.eq_1, sPut.eq_2, sPut.eq_3, sPut.eq_4, D.isNon, sEq_ii, sNe_ii, sEq_ww, sNe_ww, sEq_ll, sNe_ll, sIsi_ii, sIsi_ib, sIsi_ll, sIsi_tt, sIsi_ss, sEq_w, sEq_i, sEq_lw, sEq_lw', sEq_lle, sEq_lle', sNe_w, sNe_i, sNe_lle', sNe_lw', sEq_ss, sNe_ss, sEq_bb, sNe_bb, sIn_iw, sIn_ii, sIn_wl, sIn_wl', sSl3.eq_1, sSl3.eq_2, dSl3, isS.eq_1, isL.eq_1, isL.eq_2, isA.eq_1, dM0, dM1, sUpper.eq_1, sLower.eq_1, sStrip1.eq_1, sSfind.eq_1, sScount.eq_1, sSindex.eq_1, sSsplit.eq_1, sSjoin.eq_1, sSjoin.eq_2, fPop_snoc, fPop_snoc', startD, wipeD, List.map_cons, List.map_nil, List.length_cons, List.length_nil, List.length_map, List.cons_append, List.nil_append, List.replicate, List.set_cons_zero, List.set_cons_succ, List.set_nil, List.getElem?_cons_zero, List.getElem?_cons_succ, Bool.true_and, Bool.and_true, Bool.and_false, Bool.false_and, Bool.not_true, Bool.not_false, if_true, if_false, Bool.false_eq_true, reduceIte, and_true, true_and, decide_true, decide_false, not_true, Option.map_none, Option.map_some, Option.getD_none, Option.getD_some, Option.isSome_none, Option.isSome_some, Nat.zero_le, Nat.zero_add, Nat.reduceAdd, Nat.reduceSub, D.scal, Option.some.injEq, exists_eq_left', exists_eq_left, exists_eq', D.int.injEq, D.lst.injEq, D.tup.injEq, D.scr.injEq, D.str.injEq, List.cons.injEq, and_self]
  refine seq_i ?_
  try simp -implicitDefEqProofs only [dNext, dSet, dLst, dTup, dNil, dCons, dFor, dRng1_u, dRng2_u, dIt_u, oX, dC, dBin, dUn, dVarR, dVar, dApp, dExt, dUpd0, dPut, dAug, dRet, dRetV, dRetN, dBreak, dCont, dIf, dB_u, dTru_u, dTNot, dTAnd, dTOr, dAndV_u, dOrV_u, dNotV_u, dIfX, dChain_u, dCall, dSl, dNoP, dP_u, dLc, dDrop, dFrz, frzD, dAsg, dDicK, dDicT, gN, gT, gsC, gsN, kB.eq_1, kT.eq_1, kT.eq_2, kT.eq_3, kT.eq_4, kT.eq_5, kT.eq_6, kT.eq_7, kT.eq_8, kAnd.eq_1, kOr.eq_1, kNot.eq_1, kIt.eq_1, kIt.eq_2, kIt.eq_3, kIt.eq_4, kP.eq_1, kR1.eq_1, kR2.eq_1, sAdd.eq_1, sAdd.eq_2, sAdd.eq_3, sAdd.eq_4, sJ2.eq_1, sI2.eq_1, sPow, sLt.eq_1, sLt.eq_2, sLe, sGt, sGe, sMul.eq_1, sMul.eq_2, sMulB.eq_1, sMulB.eq_2, sMulB.eq_3, sLR1.eq_1, sLR2.eq_1, sTR1.eq_1, sTR2.eq_1, sIsBl.eq_1, dZip, kZip.eq_1, dDisp1, dSetN, dConsN, dAppN, dPutN, dFld, dFldS, dFldAug, dMeth, dMake, dGet1, dGet2, dDPop, dLPop, dLPopAt, dLClear, dEnum, kEnum.eq_1, dRng3, kR3.eq_1, dForN, dForKeys, dForItems, dLock, lkE, dBack, kNm_f, kNm_t, nmK_f, nmK_lst, nmK_dK, nmK_dT, isDct_dK, isDct_dT, isDct_fK, isDct_fT, sGetO_K, sGetO_S, sGetO_T, sGetO_fK, sGetO_fT, sIn_K, sIn_fK, sIn_T, sIn_fT, sPutC_lst, sPutC_K, sPutC_S, sPutC_T, keyOf_int, keyOf_str, keysC.eq_1, keysC.eq_2, itemsC.eq_1, rs_ref, rs_non, rs_bl, rs_int, rs_str, rs_ty, rs_lst, rs_tup, rs_dK, rs_dT, rs_scr, rs_wD, rs_iD, rs_lwD, resC_lst, resC_dK, resC_dT, resC_fK, resC_fT, resC_ins, updW_same, putFD.eq_1, putFD.eq_2, isL.eq_1, isL.eq_2, sNeg.eq_1, sLen.eq_1, sLen.eq_2, sLen.eq_3, sLen.eq_4, sLen.eq_5, sAbs.eq_1, sMax, sMin, sInt.eq_1, sInt.eq_2, sStr.eq_1, sList.eq_1, sList.eq_2, sList.eq_3, sTuple.eq_1, sTuple.eq_2, sTuple.eq_3, sIsN, sNotN, sIx.eq_1, sIx.eq_2, sIx.eq_3, sIx.eq_4, sIx.eq_5, sIx.eq_6, sIx.eq_7, sIx.eq_8, sIx.eq_9, sSl.eq_1, sSl.eq_2, sSl.eq_3, sSl.eq_4, sRev.eq_1, sRev.eq_2, sRev.eq_3, sAddI.eq_1, sAddI.eq_2, sPut.eq_1, sPut.eq_2, sPut.eq_3, sPut.eq_4, D.isNon, sEq_ii, sNe_ii, sEq_ww, sNe_ww, sEq_ll, sNe_ll, sIsi_ii, sIsi_ib, sIsi_ll, sIsi_tt, sIsi_ss, sEq_w, sEq_i, sEq_lw, sEq_lw', sEq_lle, sEq_lle', sNe_w, sNe_i, sNe_lle', sNe_lw', sEq_ss, sNe_ss, sEq_bb, sNe_bb, sIn_iw, sIn_ii, sIn_wl, sIn_wl', sSl3.eq_1, sSl3.eq_2, dSl3, isS.eq_1, isL.eq_1, isL.eq_2, isA.eq_1, dM0, dM1, sUpper.eq_1, sLower.eq_1, sStrip1.eq_1, sSfind.eq_1, sScount.eq_1, sSindex.eq_1, sSsplit.eq_1, sSjoin.eq_1, sSjoin.eq_2, fPop_snoc, fPop_snoc', startD, wipeD, List.map_cons, List.map_nil, List.length_cons, List.length_nil, List.length_map, List.cons_append, List.nil_append, List.replicate, List.set_cons_zero, List.set_cons_succ, List.set_nil, List.getElem?_cons_zero, List.getElem?_cons_succ, Bool.true_and, Bool.and_true, Bool.and_false, Bool.false_and, Bool.not_true, Bool.not_false, if_true, if_false, Bool.false_eq_true, reduceIte, and_true, true_and, decide_true, decide_false, not_true, Option.map_none, Option.map_some, Option.getD_none, Option.getD_some, Option.isSome_none, Option.isSome_some, Nat.zero_le, Nat.zero_add, Nat.reduceAdd, Nat.reduceSub, D.scal, Option.some.injEq, exists_eq_left', exists_eq_left, exists_eq', D.int.injEq, D.lst.injEq, D.tup.injEq, D.scr.injEq, D.str.injEq, List.cons.injEq, and_self]
  refine for_go rwD (fun pre δ w' => w' = w ∧ ∃ j, δ = [some (false, .lst (rs.map rwD)), some (false, d), j]) rs ⟨rfl, none, rfl⟩ ?_ ?_
  · rintro pre x post δ w' N C e ⟨rfl, j, rfl⟩ hN hC
    have e1 : ∀ i : Int, atI [D.str (Str.ofString "new"), D.int x.1, D.int x.2.1, D.int x.2.2] i = atI [D.str (Str.ofString "new"), D.int x.1, D.int x.2.1, D.int x.2.2] i := fun _ => rfl
    try simp -implicitDefEqProofs only [rwD, newR, not_true, T_Lwhole, dNext, dSet, dLst, dTup, dNil, dCons, dFor, dRng1_u, dRng2_u, dIt_u, oX, dC, dBin, dUn, dVarR, dVar, dApp, dExt, dUpd0, dPut, dAug, dRet, dRetV, dRetN, dBreak, dCont, dIf, dB_u, dTru_u, dTNot, dTAnd, dTOr, dAndV_u, dOrV_u, dNotV_u, dIfX, dChain_u, dCall, dSl, dNoP, dP_u, dLc, dDrop, dFrz, frzD, dAsg, dDicK, dDicT, gN, gT, gsC, gsN, kB.eq_1, kT.eq_1, kT.eq_2, kT.eq_3, kT.eq_4, kT.eq_5, kT.eq_6, kT.eq_7, kT.eq_8, kAnd.eq_1, kOr.eq_1, kNot.eq_1, kIt.eq_1, kIt.eq_2, kIt.eq_3, kIt.eq_4, kP.eq_1, kR1.eq_1, kR2.eq_1, sAdd.eq_1, sAdd.eq_2, sAdd.eq_3, sAdd.eq_4, sJ2.eq_1, sI2.eq_1, sPow, sLt.eq_1, sLt.eq_2, sLe, sGt, sGe, sMul.eq_1, sMul.eq_2, sMulB.eq_1, sMulB.eq_2, sMulB.eq_3, sLR1.eq_1, sLR2.eq_1, sTR1.eq_1, sTR2.eq_1, sIsBl.eq_1, dZip, kZip.eq_1, dDisp1, dSetN, dConsN, dAppN, dPutN, dFld, dFldS, dFldAug, dMeth, dMake, dGet1, dGet2, dDPop, dLPop, dLPopAt, dLClear, dEnum, kEnum.eq_1, dRng3, kR3.eq_1, dForN, dForKeys, dForItems, dLock, lkE, dBack, kNm_f, kNm_t, nmK_f, nmK_lst, nmK_dK, nmK_dT, isDct_dK, isDct_dT, isDct_fK, isDct_fT, sGetO_K, sGetO_S, sGetO_T, sGetO_fK, sGetO_fT, sIn_K, sIn_fK, sIn_T, sIn_fT, sPutC_lst, sPutC_K, sPutC_S, sPutC_T, keyOf_int, keyOf_str, keysC.eq_1, keysC.eq_2, itemsC.eq_1, rs_ref, rs_non, rs_bl, rs_int, rs_str, rs_ty, rs_lst, rs_tup, rs_dK, rs_dT, rs_scr, rs_wD, rs_iD, rs_lwD, resC_lst, resC_dK, resC_dT, resC_fK, resC_fT, resC_ins, updW_same, putFD.eq_1, putFD.eq_2, isL.eq_1, isL.eq_2, sNeg.eq_1, sLen.eq_1, sLen.eq_2, sLen.eq_3, sLen.eq_4, sLen.eq_5, sAbs.eq_1, sMax, sMin, sInt.eq_1, sInt.eq_2, sStr.eq_1, sList.eq_1, sList.eq_2, sList.eq_3, sTuple.eq_1, sTuple.eq_2, sTuple.eq_3, sIsN, sNotN, sIx.eq_1, sIx.eq_2, sIx.eq_3, sIx.eq_4, sIx.eq_5, sIx.eq_6, sIx.eq_7, sIx.eq_8, sIx.eq_9, sSl.eq_1, sSl.eq_2, sSl.eq_3, sSl.eq_4, sRev.eq_1, sRev.eq_2, sRev.eq_3, sAddI.eq_1, sAddI.eq_2, sPut.eq_1, sPut.eq_2, sPut.eq_3, sPut.eq_4, D.isNon, sEq_ii, sNe_ii, sEq_ww, sNe_ww, sEq_ll, sNe_ll, sIsi_ii, sIsi_ib, sIsi_ll, sIsi_tt, sIsi_ss, sEq_w, sEq_i, sEq_lw, sEq_lw', sEq_lle, sEq_lle', sNe_w, sNe_i, sNe_lle', sNe_lw', sEq_ss, sNe_ss, sEq_bb, sNe_bb, sIn_iw, sIn_ii, sIn_wl, sIn_wl', sSl3.eq_1, sSl3.eq_2, dSl3, isS.eq_1, isL.eq_1, isL.eq_2, isA.eq_1, dM0, dM1, sUpper.eq_1, sLower.eq_1, sStrip1.eq_1, sSfind.eq_1, sScount.eq_1, sSindex.eq_1, sSsplit.eq_1, sSjoin.eq_1, sSjoin.eq_2, fPop_snoc, fPop_snoc', startD, wipeD, List.map_cons, List.map_nil, List.length_cons, List.length_nil, List.length_map, List.cons_append, List.nil_append, List.replicate, List.set_cons_zero, List.set_cons_succ, List.set_nil, List.getElem?_cons_zero, List.getElem?_cons_succ, Bool.true_and, Bool.and_true, Bool.and_false, Bool.false_and, Bool.not_true, Bool.not_false, if_true, if_false, Bool.false_eq_true, reduceIte, and_true, true_and, decide_true, decide_false, not_true, Option.map_none, Option.map_some, Option.getD_none, Option.getD_some, Option.isSome_none, Option.isSome_some, Nat.zero_le, Nat.zero_add, Nat.reduceAdd, Nat.reduceSub, D.scal, Option.some.injEq, exists_eq_left', exists_eq_left, exists_eq', D.int.injEq, D.lst.injEq, D.tup.injEq, D.scr.injEq, D.str.injEq, List.cons.injEq, and_self]
    refine seq_i ?_
    try simp -implicitDefEqProofs only [not_true, dNext, dSet, dLst, dTup, dNil, dCons, dFor, dRng1_u, dRng2_u, dIt_u, oX, dC, dBin, dUn, dVarR, dVar, dApp, dExt, dUpd0, dPut, dAug, dRet, dRetV, dRetN, dBreak, dCont, dIf, dB_u, dTru_u, dTNot, dTAnd, dTOr, dAndV_u, dOrV_u, dNotV_u, dIfX, dChain_u, dCall, dSl, dNoP, dP_u, dLc, dDrop, dFrz, frzD, dAsg, dDicK, dDicT, gN, gT, gsC, gsN, kB.eq_1, kT.eq_1, kT.eq_2, kT.eq_3, kT.eq_4, kT.eq_5, kT.eq_6, kT.eq_7, kT.eq_8, kAnd.eq_1, kOr.eq_1, kNot.eq_1, kIt.eq_1, kIt.eq_2, kIt.eq_3, kIt.eq_4, kP.eq_1, kR1.eq_1, kR2.eq_1, sAdd.eq_1, sAdd.eq_2, sAdd.eq_3, sAdd.eq_4, sJ2.eq_1, sI2.eq_1, sPow, sLt.eq_1, sLt.eq_2, sLe, sGt, sGe, sMul.eq_1, sMul.eq_2, sMulB.eq_1, sMulB.eq_2, sMulB.eq_3, sLR1.eq_1, sLR2.eq_1, sTR1.eq_1, sTR2.eq_1, sIsBl.eq_1, dZip, kZip.eq_1, dDisp1, dSetN, dConsN, dAppN, dPutN, dFld, dFldS, dFldAug, dMeth, dMake, dGet1, dGet2, dDPop, dLPop, dLPopAt, dLClear, dEnum, kEnum.eq_1, dRng3, kR3.eq_1, dForN, dForKeys, dForItems, dLock, lkE, dBack, kNm_f, kNm_t, nmK_f, nmK_lst, nmK_dK, nmK_dT, isDct_dK, isDct_dT, isDct_fK, isDct_fT, sGetO_K, sGetO_S, sGetO_T, sGetO_fK, sGetO_fT, sIn_K, sIn_fK, sIn_T, sIn_fT, sPutC_lst, sPutC_K, sPutC_S, sPutC_T, keyOf_int, keyOf_str, keysC.eq_1, keysC.eq_2, itemsC.eq_1, rs_ref, rs_non, rs_bl, rs_int, rs_str, rs_ty, rs_lst, rs_tup, rs_dK, rs_dT, rs_scr, rs_wD, rs_iD, rs_lwD, resC_lst, resC_dK, resC_dT, resC_fK, resC_fT, resC_ins, updW_same, putFD.eq_1, putFD.eq_2, isL.eq_1, isL.eq_2, sNeg.eq_1, sLen.eq_1, sLen.eq_2, sLen.eq_3, sLen.eq_4, sLen.eq_5, sAbs.eq_1, sMax, sMin, sInt.eq_1, sInt.eq_2, sStr.eq_1, sList.eq_1, sList.eq_2, sList.eq_3, sTuple.eq_1, sTuple.eq_2, sTuple.eq_3, sIsN, sNotN, sIx.eq_1, sIx.eq_2, sIx.eq_3, sIx.eq_4, sIx.eq_5, sIx.eq_6, sIx.eq_7, sIx.eq_8, sIx.eq_9, sSl.eq_1, sSl.eq_2, sSl.eq_3, sSl.eq_4, sRev.eq_1, sRev.eq_2, sRev.eq_3, sAddI.eq_1, sAddI.eq_2, sPut.eq_1, sPut.eq_2, sPut.eq_3, sPut.eq_4, D.isNon, sEq_ii, sNe_ii, sEq_ww, sNe_ww, sEq_ll, sNe_ll, sIsi_ii, sIsi_ib, sIsi_ll, sIsi_tt, sIsi_ss, sEq_w, sEq_i, sEq_lw, sEq_lw', sEq_lle, sEq_lle', sNe_w, sNe_i, sNe_lle', sNe_lw', sEq_ss, sNe_ss, sEq_bb, sNe_bb, sIn_iw, sIn_ii, sIn_wl, sIn_wl', sSl3.eq_1, sSl3.eq_2, dSl3, isS.eq_1, isL.eq_1, isL.eq_2, isA.eq_1, dM0, dM1, sUpper.eq_1, sLower.eq_1, sStrip1.eq_1, sSfind.eq_1, sScount.eq_1, sSindex.eq_1, sSsplit.eq_1, sSjoin.eq_1, sSjoin.eq_2, fPop_snoc, fPop_snoc', startD, wipeD, List.map_cons, List.map_nil, List.length_cons, List.length_nil, List.length_map, List.cons_append, List.nil_append, List.replicate, List.set_cons_zero, List.set_cons_succ, List.set_nil, List.getElem?_cons_zero, List.getElem?_cons_succ, Bool.true_and, Bool.and_true, Bool.and_false, Bool.false_and, Bool.not_true, Bool.not_false, if_true, if_false, Bool.false_eq_true, reduceIte, and_true, true_and, decide_true, decide_false, not_true, Option.map_none, Option.map_some, Option.getD_none, Option.getD_some, Option.isSome_none, Option.isSome_some, Nat.zero_le, Nat.zero_add, Nat.reduceAdd, Nat.reduceSub, D.scal, Option.some.injEq, exists_eq_left', exists_eq_left, exists_eq', D.int.injEq, D.lst.injEq, D.tup.injEq, D.scr.injEq, D.str.injEq, List.cons.injEq, and_self]
    refine ⟨.str (Str.ofString "new"), rfl, ?_⟩
    try simp -implicitDefEqProofs only [not_true, dNext, dSet, dLst, dTup, dNil, dCons, dFor, dRng1_u, dRng2_u, dIt_u, oX, dC, dBin, dUn, dVarR, dVar, dApp, dExt, dUpd0, dPut, dAug, dRet, dRetV, dRetN, dBreak, dCont, dIf, dB_u, dTru_u, dTNot, dTAnd, dTOr, dAndV_u, dOrV_u, dNotV_u, dIfX, dChain_u, dCall, dSl, dNoP, dP_u, dLc, dDrop, dFrz, frzD, dAsg, dDicK, dDicT, gN, gT, gsC, gsN, kB.eq_1, kT.eq_1, kT.eq_2, kT.eq_3, kT.eq_4, kT.eq_5, kT.eq_6, kT.eq_7, kT.eq_8, kAnd.eq_1, kOr.eq_1, kNot.eq_1, kIt.eq_1, kIt.eq_2, kIt.eq_3, kIt.eq_4, kP.eq_1, kR1.eq_1, kR2.eq_1, sAdd.eq_1, sAdd.eq_2, sAdd.eq_3, sAdd.eq_4, sJ2.eq_1, sI2.eq_1, sPow, sLt.eq_1, sLt.eq_2, sLe, sGt, sGe, sMul.eq_1, sMul.eq_2, sMulB.eq_1, sMulB.eq_2, sMulB.eq_3, sLR1.eq_1, sLR2.eq_1, sTR1.eq_1, sTR2.eq_1, sIsBl.eq_1, dZip, kZip.eq_1, dDisp1, dSetN, dConsN, dAppN, dPutN, dFld, dFldS, dFldAug, dMeth, dMake, dGet1, dGet2, dDPop, dLPop, dLPopAt, dLClear, dEnum, kEnum.eq_1, dRng3, kR3.eq_1, dForN, dForKeys, dForItems, dLock, lkE, dBack, kNm_f, kNm_t, nmK_f, nmK_lst, nmK_dK, nmK_dT, isDct_dK, isDct_dT, isDct_fK, isDct_fT, sGetO_K, sGetO_S, sGetO_T, sGetO_fK, sGetO_fT, sIn_K, sIn_fK, sIn_T, sIn_fT, sPutC_lst, sPutC_K, sPutC_S, sPutC_T, keyOf_int, keyOf_str, keysC.eq_1, keysC.eq_2, itemsC.eq_1, rs_ref, rs_non, rs_bl, rs_int, rs_str, rs_ty, rs_lst, rs_tup, rs_dK, rs_dT, rs_scr, rs_wD, rs_iD, rs_lwD, resC_lst, resC_dK, resC_dT, resC_fK, resC_fT, resC_ins, updW_same, putFD.eq_1, putFD.eq_2, isL.eq_1, isL.eq_2, sNeg.eq_1, sLen.eq_1, sLen.eq_2, sLen.eq_3, sLen.eq_4, sLen.eq_5, sAbs.eq_1, sMax, sMin, sInt.eq_1, sInt.eq_2, sStr.eq_1, sList.eq_1, sList.eq_2, sList.eq_3, sTuple.eq_1, sTuple.eq_2, sTuple.eq_3, sIsN, sNotN, sIx.eq_1, sIx.eq_2, sIx.eq_3, sIx.eq_4, sIx.eq_5, sIx.eq_6, sIx.eq_7, sIx.eq_8, sIx.eq_9, sSl.eq_1, sSl.eq_2, sSl.eq_3, sSl.eq_4, sRev.eq_1, sRev.eq_2, sRev.eq_3, sAddI.eq_1, sAddI.eq_2, sPut.eq_1, sPut.eq_2, sPut.eq_3, sPut.eq_4, D.isNon, sEq_ii, sNe_ii, sEq_ww, sNe_ww, sEq_ll, sNe_ll, sIsi_ii, sIsi_ib, sIsi_ll, sIsi_tt, sIsi_ss, sEq_w, sEq_i, sEq_lw, sEq_lw', sEq_lle, sEq_lle', sNe_w, sNe_i, sNe_lle', sNe_lw', sEq_ss, sNe_ss, sEq_bb, sNe_bb, sIn_iw, sIn_ii, sIn_wl, sIn_wl', sSl3.eq_1, sSl3.eq_2, dSl3, isS.eq_1, isL.eq_1, isL.eq_2, isA.eq_1, dM0, dM1, sUpper.eq_1, sLower.eq_1, sStrip1.eq_1, sSfind.eq_1, sScount.eq_1, sSindex.eq_1, sSsplit.eq_1, sSjoin.eq_1, sSjoin.eq_2, fPop_snoc, fPop_snoc', startD, wipeD, List.map_cons, List.map_nil, List.length_cons, List.length_nil, List.length_map, List.cons_append, List.nil_append, List.replicate, List.set_cons_zero, List.set_cons_succ, List.set_nil, List.getElem?_cons_zero, List.getElem?_cons_succ, Bool.true_and, Bool.and_true, Bool.and_false, Bool.false_and, Bool.not_true, Bool.not_false, if_true, if_false, Bool.false_eq_true, reduceIte, and_true, true_and, decide_true, decide_false, not_true, Option.map_none, Option.map_some, Option.getD_none, Option.getD_some, Option.isSome_none, Option.isSome_some, Nat.zero_le, Nat.zero_add, Nat.reduceAdd, Nat.reduceSub, D.scal, Option.some.injEq, exists_eq_left', exists_eq_left, exists_eq', D.int.injEq, D.lst.injEq, D.tup.injEq, D.scr.injEq, D.str.injEq, List.cons.injEq, and_self]
    refine ⟨.int x.1, rfl, x.1, rfl, ?_⟩
    try simp -implicitDefEqProofs only [not_true, dNext, dSet, dLst, dTup, dNil, dCons, dFor, dRng1_u, dRng2_u, dIt_u, oX, dC, dBin, dUn, dVarR, dVar, dApp, dExt, dUpd0, dPut, dAug, dRet, dRetV, dRetN, dBreak, dCont, dIf, dB_u, dTru_u, dTNot, dTAnd, dTOr, dAndV_u, dOrV_u, dNotV_u, dIfX, dChain_u, dCall, dSl, dNoP, dP_u, dLc, dDrop, dFrz, frzD, dAsg, dDicK, dDicT, gN, gT, gsC, gsN, kB.eq_1, kT.eq_1, kT.eq_2, kT.eq_3, kT.eq_4, kT.eq_5, kT.eq_6, kT.eq_7, kT.eq_8, kAnd.eq_1, kOr.eq_1, kNot.eq_1, kIt.eq_1, kIt.eq_2, kIt.eq_3, kIt.eq_4, kP.eq_1, kR1.eq_1, kR2.eq_1, sAdd.eq_1, sAdd.eq_2, sAdd.eq_3, sAdd.eq_4, sJ2.eq_1, sI2.eq_1, sPow, sLt.eq_1, sLt.eq_2, sLe, sGt, sGe, sMul.eq_1, sMul.eq_2, sMulB.eq_1, sMulB.eq_2, sMulB.eq_3, sLR1.eq_1, sLR2.eq_1, sTR1.eq_1, sTR2.eq_1, sIsBl.eq_1, dZip, kZip.eq_1, dDisp1, dSetN, dConsN, dAppN, dPutN, dFld, dFldS, dFldAug, dMeth, dMake, dGet1, dGet2, dDPop, dLPop, dLPopAt, dLClear, dEnum, kEnum.eq_1, dRng3, kR3.eq_1, dForN, dForKeys, dForItems, dLock, lkE, dBack, kNm_f, kNm_t, nmK_f, nmK_lst, nmK_dK, nmK_dT, isDct_dK, isDct_dT, isDct_fK, isDct_fT, sGetO_K, sGetO_S, sGetO_T, sGetO_fK, sGetO_fT, sIn_K, sIn_fK, sIn_T, sIn_fT, sPutC_lst, sPutC_K, sPutC_S, sPutC_T, keyOf_int, keyOf_str, keysC.eq_1, keysC.eq_2, itemsC.eq_1, rs_ref, rs_non, rs_bl, rs_int, rs_str, rs_ty, rs_lst, rs_tup, rs_dK, rs_dT, rs_scr, rs_wD, rs_iD, rs_lwD, resC_lst, resC_dK, resC_dT, resC_fK, resC_fT, resC_ins, updW_same, putFD.eq_1, putFD.eq_2, isL.eq_1, isL.eq_2, sNeg.eq_1, sLen.eq_1, sLen.eq_2, sLen.eq_3, sLen.eq_4, sLen.eq_5, sAbs.eq_1, sMax, sMin, sInt.eq_1, sInt.eq_2, sStr.eq_1, sList.eq_1, sList.eq_2, sList.eq_3, sTuple.eq_1, sTuple.eq_2, sTuple.eq_3, sIsN, sNotN, sIx.eq_1, sIx.eq_2, sIx.eq_3, sIx.eq_4, sIx.eq_5, sIx.eq_6, sIx.eq_7, sIx.eq_8, sIx.eq_9, sSl.eq_1, sSl.eq_2, sSl.eq_3, sSl.eq_4, sRev.eq_1, sRev.eq_2, sRev.eq_3, sAddI.eq_1, sAddI.eq_2, sPut.eq_1, sPut.eq_2, sPut.eq_3, sPut.eq_4, D.isNon, sEq_ii, sNe_ii, sEq_ww, sNe_ww, sEq_ll, sNe_ll, sIsi_ii, sIsi_ib, sIsi_ll, sIsi_tt, sIsi_ss, sEq_w, sEq_i, sEq_lw, sEq_lw', sEq_lle, sEq_lle', sNe_w, sNe_i, sNe_lle', sNe_lw', sEq_ss, sNe_ss, sEq_bb, sNe_bb, sIn_iw, sIn_ii, sIn_wl, sIn_wl', sSl3.eq_1, sSl3.eq_2, dSl3, isS.eq_1, isL.eq_1, isL.eq_2, isA.eq_1, dM0, dM1, sUpper.eq_1, sLower.eq_1, sStrip1.eq_1, sSfind.eq_1, sScount.eq_1, sSindex.eq_1, sSsplit.eq_1, sSjoin.eq_1, sSjoin.eq_2, fPop_snoc, fPop_snoc', startD, wipeD, List.map_cons, List.map_nil, List.length_cons, List.length_nil, List.length_map, List.cons_append, List.nil_append, List.replicate, List.set_cons_zero, List.set_cons_succ, List.set_nil, List.getElem?_cons_zero, List.getElem?_cons_succ, Bool.true_and, Bool.and_true, Bool.and_false, Bool.false_and, Bool.not_true, Bool.not_false, if_true, if_false, Bool.false_eq_true, reduceIte, and_true, true_and, decide_true, decide_false, not_true, Option.map_none, Option.map_some, Option.getD_none, Option.getD_some, Option.isSome_none, Option.isSome_some, Nat.zero_le, Nat.zero_add, Nat.reduceAdd, Nat.reduceSub, D.scal, Option.some.injEq, exists_eq_left', exists_eq_left, exists_eq', D.int.injEq, D.lst.injEq, D.tup.injEq, D.scr.injEq, D.str.injEq, List.cons.injEq, and_self]
    refine ⟨.int x.2.1, rfl, x.2.1, rfl, ?_⟩
    try simp -implicitDefEqProofs only [not_true, dNext, dSet, dLst, dTup, dNil, dCons, dFor, dRng1_u, dRng2_u, dIt_u, oX, dC, dBin, dUn, dVarR, dVar, dApp, dExt, dUpd0, dPut, dAug, dRet, dRetV, dRetN, dBreak, dCont, dIf, dB_u, dTru_u, dTNot, dTAnd, dTOr, dAndV_u, dOrV_u, dNotV_u, dIfX, dChain_u, dCall, dSl, dNoP, dP_u, dLc, dDrop, dFrz, frzD, dAsg, dDicK, dDicT, gN, gT, gsC, gsN, kB.eq_1, kT.eq_1, kT.eq_2, kT.eq_3, kT.eq_4, kT.eq_5, kT.eq_6, kT.eq_7, kT.eq_8, kAnd.eq_1, kOr.eq_1, kNot.eq_1, kIt.eq_1, kIt.eq_2, kIt.eq_3, kIt.eq_4, kP.eq_1, kR1.eq_1, kR2.eq_1, sAdd.eq_1, sAdd.eq_2, sAdd.eq_3, sAdd.eq_4, sJ2.eq_1, sI2.eq_1, sPow, sLt.eq_1, sLt.eq_2, sLe, sGt, sGe, sMul.eq_1, sMul.eq_2, sMulB.eq_1, sMulB.eq_2, sMulB.eq_3, sLR1.eq_1, sLR2.eq_1, sTR1.eq_1, sTR2.eq_1, sIsBl.eq_1, dZip, kZip.eq_1, dDisp1, dSetN, dConsN, dAppN, dPutN, dFld, dFldS, dFldAug, dMeth, dMake, dGet1, dGet2, dDPop, dLPop, dLPopAt, dLClear, dEnum, kEnum.eq_1, dRng3, kR3.eq_1, dForN, dForKeys, dForItems, dLock, lkE, dBack, kNm_f, kNm_t, nmK_f, nmK_lst, nmK_dK, nmK_dT, isDct_dK, isDct_dT, isDct_fK, isDct_fT, sGetO_K, sGetO_S, sGetO_T, sGetO_fK, sGetO_fT, sIn_K, sIn_fK, sIn_T, sIn_fT, sPutC_lst, sPutC_K, sPutC_S, sPutC_T, keyOf_int, keyOf_str, keysC.eq_1, keysC.eq_2, itemsC.eq_1, rs_ref, rs_non, rs_bl, rs_int, rs_str, rs_ty, rs_lst, rs_tup, rs_dK, rs_dT, rs_scr, rs_wD, rs_iD, rs_lwD, resC_lst, resC_dK, resC_dT, resC_fK, resC_fT, resC_ins, updW_same, putFD.eq_1, putFD.eq_2, isL.eq_1, isL.eq_2, sNeg.eq_1, sLen.eq_1, sLen.eq_2, sLen.eq_3, sLen.eq_4, sLen.eq_5, sAbs.eq_1, sMax, sMin, sInt.eq_1, sInt.eq_2, sStr.eq_1, sList.eq_1, sList.eq_2, sList.eq_3, sTuple.eq_1, sTuple.eq_2, sTuple.eq_3, sIsN, sNotN, sIx.eq_1, sIx.eq_2, sIx.eq_3, sIx.eq_4, sIx.eq_5, sIx.eq_6, sIx.eq_7, sIx.eq_8, sIx.eq_9, sSl.eq_1, sSl.eq_2, sSl.eq_3, sSl.eq_4, sRev.eq_1, sRev.eq_2, sRev.eq_3, sAddI.eq_1, sAddI.eq_2, sPut.eq_1, sPut.eq_2, sPut.eq_3, sPut.eq_4, D.isNon, sEq_ii, sNe_ii, sEq_ww, sNe_ww, sEq_ll, sNe_ll, sIsi_ii, sIsi_ib, sIsi_ll, sIsi_tt, sIsi_ss, sEq_w, sEq_i, sEq_lw, sEq_lw', sEq_lle, sEq_lle', sNe_w, sNe_i, sNe_lle', sNe_lw', sEq_ss, sNe_ss, sEq_bb, sNe_bb, sIn_iw, sIn_ii, sIn_wl, sIn_wl', sSl3.eq_1, sSl3.eq_2, dSl3, isS.eq_1, isL.eq_1, isL.eq_2, isA.eq_1, dM0, dM1, sUpper.eq_1, sLower.eq_1, sStrip1.eq_1, sSfind.eq_1, sScount.eq_1, sSindex.eq_1, sSsplit.eq_1, sSjoin.eq_1, sSjoin.eq_2, fPop_snoc, fPop_snoc', startD, wipeD, List.map_cons, List.map_nil, List.length_cons, List.length_nil, List.length_map, List.cons_append, List.nil_append, List.replicate, List.set_cons_zero, List.set_cons_succ, List.set_nil, List.getElem?_cons_zero, List.getElem?_cons_succ, Bool.true_and, Bool.and_true, Bool.and_false, Bool.false_and, Bool.not_true, Bool.not_false, if_true, if_false, Bool.false_eq_true, reduceIte, and_true, true_and, decide_true, decide_false, not_true, Option.map_none, Option.map_some, Option.getD_none, Option.getD_some, Option.isSome_none, Option.isSome_some, Nat.zero_le, Nat.zero_add, Nat.reduceAdd, Nat.reduceSub, D.scal, Option.some.injEq, exists_eq_left', exists_eq_left, exists_eq', D.int.injEq, D.lst.injEq, D.tup.injEq, D.scr.injEq, D.str.injEq, List.cons.injEq, and_self]
    refine ⟨.int x.2.2, rfl, x.2.2, rfl, ?_⟩
    try simp -implicitDefEqProofs only [not_true, dNext, dSet, dLst, dTup, dNil, dCons, dFor, dRng1_u, dRng2_u, dIt_u, oX, dC, dBin, dUn, dVarR, dVar, dApp, dExt, dUpd0, dPut, dAug, dRet, dRetV, dRetN, dBreak, dCont, dIf, dB_u, dTru_u, dTNot, dTAnd, dTOr, dAndV_u, dOrV_u, dNotV_u, dIfX, dChain_u, dCall, dSl, dNoP, dP_u, dLc, dDrop, dFrz, frzD, dAsg, dDicK, dDicT, gN, gT, gsC, gsN, kB.eq_1, kT.eq_1, kT.eq_2, kT.eq_3, kT.eq_4, kT.eq_5, kT.eq_6, kT.eq_7, kT.eq_8, kAnd.eq_1, kOr.eq_1, kNot.eq_1, kIt.eq_1, kIt.eq_2, kIt.eq_3, kIt.eq_4, kP.eq_1, kR1.eq_1, kR2.eq_1, sAdd.eq_1, sAdd.eq_2, sAdd.eq_3, sAdd.eq_4, sJ2.eq_1, sI2.eq_1, sPow, sLt.eq_1, sLt.eq_2, sLe, sGt, sGe, sMul.eq_1, sMul.eq_2, sMulB.eq_1, sMulB.eq_2, sMulB.eq_3, sLR1.eq_1, sLR2.eq_1, sTR1.eq_1, sTR2.eq_1, sIsBl.eq_1, dZip, kZip.eq_1, dDisp1, dSetN, dConsN, dAppN, dPutN, dFld, dFldS, dFldAug, dMeth, dMake, dGet1, dGet2, dDPop, dLPop, dLPopAt, dLClear, dEnum, kEnum.eq_1, dRng3, kR3.eq_1, dForN, dForKeys, dForItems, dLock, lkE, dBack, kNm_f, kNm_t, nmK_f, nmK_lst, nmK_dK, nmK_dT, isDct_dK, isDct_dT, isDct_fK, isDct_fT, sGetO_K, sGetO_S, sGetO_T, sGetO_fK, sGetO_fT, sIn_K, sIn_fK, sIn_T, sIn_fT, sPutC_lst, sPutC_K, sPutC_S, sPutC_T, keyOf_int, keyOf_str, keysC.eq_1, keysC.eq_2, itemsC.eq_1, rs_ref, rs_non, rs_bl, rs_int, rs_str, rs_ty, rs_lst, rs_tup, rs_dK, rs_dT, rs_scr, rs_wD, rs_iD, rs_lwD, resC_lst, resC_dK, resC_dT, resC_fK, resC_fT, resC_ins, updW_same, putFD.eq_1, putFD.eq_2, isL.eq_1, isL.eq_2, sNeg.eq_1, sLen.eq_1, sLen.eq_2, sLen.eq_3, sLen.eq_4, sLen.eq_5, sAbs.eq_1, sMax, sMin, sInt.eq_1, sInt.eq_2, sStr.eq_1, sList.eq_1, sList.eq_2, sList.eq_3, sTuple.eq_1, sTuple.eq_2, sTuple.eq_3, sIsN, sNotN, sIx.eq_1, sIx.eq_2, sIx.eq_3, sIx.eq_4, sIx.eq_5, sIx.eq_6, sIx.eq_7, sIx.eq_8, sIx.eq_9, sSl.eq_1, sSl.eq_2, sSl.eq_3, sSl.eq_4, sRev.eq_1, sRev.eq_2, sRev.eq_3, sAddI.eq_1, sAddI.eq_2, sPut.eq_1, sPut.eq_2, sPut.eq_3, sPut.eq_4, D.isNon, sEq_ii, sNe_ii, sEq_ww, sNe_ww, sEq_ll, sNe_ll, sIsi_ii, sIsi_ib, sIsi_ll, sIsi_tt, sIsi_ss, sEq_w, sEq_i, sEq_lw, sEq_lw', sEq_lle, sEq_lle', sNe_w, sNe_i, sNe_lle', sNe_lw', sEq_ss, sNe_ss, sEq_bb, sNe_bb, sIn_iw, sIn_ii, sIn_wl, sIn_wl', sSl3.eq_1, sSl3.eq_2, dSl3, isS.eq_1, isL.eq_1, isL.eq_2, isA.eq_1, dM0, dM1, sUpper.eq_1, sLower.eq_1, sStrip1.eq_1, sSfind.eq_1, sScount.eq_1, sSindex.eq_1, sSsplit.eq_1, sSjoin.eq_1, sSjoin.eq_2, fPop_snoc, fPop_snoc', startD, wipeD, List.map_cons, List.map_nil, List.length_cons, List.length_nil, List.length_map, List.cons_append, List.nil_append, List.replicate, List.set_cons_zero, List.set_cons_succ, List.set_nil, List.getElem?_cons_zero, List.getElem?_cons_succ, Bool.true_and, Bool.and_true, Bool.and_false, Bool.false_and, Bool.not_true, Bool.not_false, if_true, if_false, Bool.false_eq_true, reduceIte, and_true, true_and, decide_true, decide_false, not_true, Option.map_none, Option.map_some, Option.getD_none, Option.getD_some, Option.isSome_none, Option.isSome_some, Nat.zero_le, Nat.zero_add, Nat.reduceAdd, Nat.reduceSub, D.scal, Option.some.injEq, exists_eq_left', exists_eq_left, exists_eq', D.int.injEq, D.lst.injEq, D.tup.injEq, D.scr.injEq, D.str.injEq, List.cons.injEq, and_self]
    exact hN _ _ ⟨rfl, _, rfl⟩
  · rintro δ w' ⟨rfl, j, rfl⟩
    try simp -implicitDefEqProofs only [hd, dNext, dSet, dLst, dTup, dNil, dCons, dFor, dRng1_u, dRng2_u, dIt_u, oX, dC, dBin, dUn, dVarR, dVar, dApp, dExt, dUpd0, dPut, dAug, dRet, dRetV, dRetN, dBreak, dCont, dIf, dB_u, dTru_u, dTNot, dTAnd, dTOr, dAndV_u, dOrV_u, dNotV_u, dIfX, dChain_u, dCall, dSl, dNoP, dP_u, dLc, dDrop, dFrz, frzD, dAsg, dDicK, dDicT, gN, gT, gsC, gsN, kB.eq_1, kT.eq_1, kT.eq_2, kT.eq_3, kT.eq_4, kT.eq_5, kT.eq_6, kT.eq_7, kT.eq_8, kAnd.eq_1, kOr.eq_1, kNot.eq_1, kIt.eq_1, kIt.eq_2, kIt.eq_3, kIt.eq_4, kP.eq_1, kR1.eq_1, kR2.eq_1, sAdd.eq_1, sAdd.eq_2, sAdd.eq_3, sAdd.eq_4, sJ2.eq_1, sI2.eq_1, sPow, sLt.eq_1, sLt.eq_2, sLe, sGt, sGe, sMul.eq_1, sMul.eq_2, sMulB.eq_1, sMulB.eq_2, sMulB.eq_3, sLR1.eq_1, sLR2.eq_1, sTR1.eq_1, sTR2.eq_1, sIsBl.eq_1, dZip, kZip.eq_1, dDisp1, dSetN, dConsN, dAppN, dPutN, dFld, dFldS, dFldAug, dMeth, dMake, dGet1, dGet2, dDPop, dLPop, dLPopAt, dLClear, dEnum, kEnum.eq_1, dRng3, kR3.eq_1, dForN, dForKeys, dForItems, dLock, lkE, dBack, kNm_f, kNm_t, nmK_f, nmK_lst, nmK_dK, nmK_dT, isDct_dK, isDct_dT, isDct_fK, isDct_fT, sGetO_K, sGetO_S, sGetO_T, sGetO_fK, sGetO_fT, sIn_K, sIn_fK, sIn_T, sIn_fT, sPutC_lst, sPutC_K, sPutC_S, sPutC_T, keyOf_int, keyOf_str, keysC.eq_1, keysC.eq_2, itemsC.eq_1, rs_ref, rs_non, rs_bl, rs_int, rs_str, rs_ty, rs_lst, rs_tup, rs_dK, rs_dT, rs_scr, rs_wD, rs_iD, rs_lwD, resC_lst, resC_dK, resC_dT, resC_fK, resC_fT, resC_ins, updW_same, putFD.eq_1, putFD.eq_2, isL.eq_1, isL.eq_2, sNeg.eq_1, sLen.eq_1, sLen.eq_2, sLen.eq_3, sLen.eq_4, sLen.eq_5, sAbs.eq_1, sMax, sMin, sInt.eq_1, sInt.eq_2, sStr.eq_1, sList.eq_1, sList.eq_2, sList.eq_3, sTuple.eq_1, sTuple.eq_2, sTuple.eq_3, sIsN, sNotN, sIx.eq_1, sIx.eq_2, sIx.eq_3, sIx.eq_4, sIx.eq_5, sIx.eq_6, sIx.eq_7, sIx.eq_8, sIx.eq_9, sSl.eq_1, sSl.eq_2, sSl.eq_3, sSl.eq_4, sRev.eq_1, sRev.eq_2, sRev.eq_3, sAddI.eq_1, sAddI.eq_2, sPut.eq_1, sPut.eq_2, sPut.eq_3, sPut.eq_4, D.isNon, sEq_ii, sNe_ii, sEq_ww, sNe_ww, sEq_ll, sNe_ll, sIsi_ii, sIsi_ib, sIsi_ll, sIsi_tt, sIsi_ss, sEq_w, sEq_i, sEq_lw, sEq_lw', sEq_lle, sEq_lle', sNe_w, sNe_i, sNe_lle', sNe_lw', sEq_ss, sNe_ss, sEq_bb, sNe_bb, sIn_iw, sIn_ii, sIn_wl, sIn_wl', sSl3.eq_1, sSl3.eq_2, dSl3, isS.eq_1, isL.eq_1, isL.eq_2, isA.eq_1, dM0, dM1, sUpper.eq_1, sLower.eq_1, sStrip1.eq_1, sSfind.eq_1, sScount.eq_1, sSindex.eq_1, sSsplit.eq_1, sSjoin.eq_1, sSjoin.eq_2, fPop_snoc, fPop_snoc', startD, wipeD, List.map_cons, List.map_nil, List.length_cons, List.length_nil, List.length_map, List.cons_append, List.nil_append, List.replicate, List.set_cons_zero, List.set_cons_succ, List.set_nil, List.getElem?_cons_zero, List.getElem?_cons_succ, Bool.true_and, Bool.and_true, Bool.and_false, Bool.false_and, Bool.not_true, Bool.not_false, if_true, if_false, Bool.false_eq_true, reduceIte, and_true, true_and, decide_true, decide_false, not_true, Option.map_none, Option.map_some, Option.getD_none, Option.getD_some, Option.isSome_none, Option.isSome_some, Nat.zero_le, Nat.zero_add, Nat.reduceAdd, Nat.reduceSub, D.scal, Option.some.injEq, exists_eq_left', exists_eq_left, exists_eq', D.int.injEq, D.lst.injEq, D.tup.injEq, D.scr.injEq, D.str.injEq, List.cons.injEq, and_self]
    rw [(Flat.lst (n := 1) fun d hd => by obtain ⟨x, _, rfl⟩ := List.mem_map.mp hd; exact newR_flat _ _ _).eq (by decide)]
    exact q
/-! ### ways as the law keeps them -/
abbrev Wm := List ((Nat × Int) × Nat)
def wmD (m : Wm) : List (List Key × D) := fD (fun q : Nat × Int => pk q.1 q.2) (fun n : Nat => D.int n) m
theorem wk_inj (a b : Nat × Int) (h : pk a.1 a.2 = pk b.1 b.2) : a = b := by
  obtain ⟨h1, h2⟩ := pk_inj.mp h
  exact Prod.ext (by omega) h2
theorem wm_val (m : Wm) (a : Nat) (s : Int) : valD (wmD m) (pk a s) = (fget m (a, s)).map fun n : Nat => D.int n := fD_val wk_inj m (a, s)
theorem wm_put (m : Wm) (a : Nat) (s : Int) (n : Nat) : putD (wmD m) (pk a s) (.int n) = wmD (fput m (a, s) n) := fD_put wk_inj m (a, s) n
def T_Lby : DSp := fun ds w P => ∃ (p : Addr) (r : RP) (S : RS) (room : Nat) (km : Kn) (step : Int) (d : D) (m : Wm), ds = [.ref p, .int room, .int step, d] ∧ Rm w p r S ∧ S.kn[room]? = some km ∧ (res w d = .dT (wmD m) ∨ res w d = .fT (wmD m)) ∧ fget m (room, step) = fget km step ∧ P false (.bl true) w
theorem len_Lby (ds : List D) (w : Om) (P : Bool → D → Om → Prop) (h : T_Lby ds w P) : ds.length = 4 := by first | (have h := h.1; subst h; rfl) | (obtain ⟨rfl, _⟩ := h; rfl) | (obtain ⟨_, rfl, _⟩ := h; rfl) | (obtain ⟨_, _, rfl, _⟩ := h; rfl) | (obtain ⟨_, _, _, rfl, _⟩ := h; rfl) | (obtain ⟨_, _, _, _, rfl, _⟩ := h; rfl) | (obtain ⟨_, _, _, _, _, rfl, _⟩ := h; rfl) | (obtain ⟨_, _, _, _, _, _, rfl, _⟩ := h; rfl) | (obtain ⟨_, _, _, _, _, _, _, rfl, _⟩ := h; rfl) | (obtain ⟨_, _, _, _, _, _, _, _, rfl, _⟩ := h; rfl) | (obtain ⟨_, _, _, _, _, _, _, _, _, rfl, _⟩ := h; rfl) | (obtain ⟨_, _, _, _, _, _, _, _, _, _, rfl, _⟩ := h; rfl) | (obtain ⟨_, _, _, _, _, _, _, _, _, _, _, rfl, _⟩ := h; rfl)
def b_Lby : DS := (dSeq (dSet false 4 (dMeth "Rooms" "by" T_Rooms_by (dVarR 0) (dCons (dVar 1) (dCons (dVar 2) dNil))))
    (dSeq (dIf (dB (dBin (sIn true) (oX (dTup (dCons (dVar 1) (dCons (dVar 2) dNil)))) (dVarR 3))) (dRet (dBin sIsN (dVarR 4) (oX (dC .non)))) dNext)
    (dRet (dAndV (dCall T_Lwhole (dCons (dVar 4) dNil)) (dBin sEq (dVarR 4) (oX (dBin sIx (dVarR 3) (oX (dTup (dCons (dVar 1) (dCons (dVar 2) dNil)))))))))))
theorem v_Lby (ds : List D) (w : Om) (P : Bool → D → Om → Prop) (h : T_Lby ds w P) : b_Lby { nx := fun _ w => P false .non w, rt := P } (startD ["_law_rooms", "_law_room", "_law_step_here", "_law_ways", "_law_found"] ds) w := by
  unfold b_Lby
  obtain ⟨p, r, S, room, km, step, d, m, rfl, R, hk, hd, he, q⟩ := h
  refine seq_i ?_
  try simp -implicitDefEqProofs only [dNext, dSet, dLst, dTup, dNil, dCons, dFor, dRng1_u, dRng2_u, dIt_u, oX, dC, dBin, dUn, dVarR, dVar, dApp, dExt, dUpd0, dPut, dAug, dRet, dRetV, dRetN, dBreak, dCont, dIf, dB_u, dTru_u, dTNot, dTAnd, dTOr, dAndV_u, dOrV_u, dNotV_u, dIfX, dChain_u, dCall, dSl, dNoP, dP_u, dLc, dDrop, dFrz, frzD, dAsg, dDicK, dDicT, gN, gT, gsC, gsN, kB.eq_1, kT.eq_1, kT.eq_2, kT.eq_3, kT.eq_4, kT.eq_5, kT.eq_6, kT.eq_7, kT.eq_8, kAnd.eq_1, kOr.eq_1, kNot.eq_1, kIt.eq_1, kIt.eq_2, kIt.eq_3, kIt.eq_4, kP.eq_1, kR1.eq_1, kR2.eq_1, sAdd.eq_1, sAdd.eq_2, sAdd.eq_3, sAdd.eq_4, sJ2.eq_1, sI2.eq_1, sPow, sLt.eq_1, sLt.eq_2, sLe, sGt, sGe, sMul.eq_1, sMul.eq_2, sMulB.eq_1, sMulB.eq_2, sMulB.eq_3, sLR1.eq_1, sLR2.eq_1, sTR1.eq_1, sTR2.eq_1, sIsBl.eq_1, dZip, kZip.eq_1, dDisp1, dSetN, dConsN, dAppN, dPutN, dFld, dFldS, dFldAug, dMeth, dMake, dGet1, dGet2, dDPop, dLPop, dLPopAt, dLClear, dEnum, kEnum.eq_1, dRng3, kR3.eq_1, dForN, dForKeys, dForItems, dLock, lkE, dBack, kNm_f, kNm_t, nmK_f, nmK_lst, nmK_dK, nmK_dT, isDct_dK, isDct_dT, isDct_fK, isDct_fT, sGetO_K, sGetO_S, sGetO_T, sGetO_fK, sGetO_fT, sIn_K, sIn_fK, sIn_T, sIn_fT, sPutC_lst, sPutC_K, sPutC_S, sPutC_T, keyOf_int, keyOf_str, keysC.eq_1, keysC.eq_2, itemsC.eq_1, rs_ref, rs_non, rs_bl, rs_int, rs_str, rs_ty, rs_lst, rs_tup, rs_dK, rs_dT, rs_scr, rs_wD, rs_iD, rs_lwD, resC_lst, resC_dK, resC_dT, resC_fK, resC_fT, resC_ins, updW_same, putFD.eq_1, putFD.eq_2, isL.eq_1, isL.eq_2, sNeg.eq_1, sLen.eq_1, sLen.eq_2, sLen.eq_3, sLen.eq_4, sLen.eq_5, sAbs.eq_1, sMax, sMin, sInt.eq_1, sInt.eq_2, sStr.eq_1, sList.eq_1, sList.eq_2, sList.eq_3, sTuple.eq_1, sTuple.eq_2, sTuple.eq_3, sIsN, sNotN, sIx.eq_1, sIx.eq_2, sIx.eq_3, sIx.eq_4, sIx.eq_5, sIx.eq_6, sIx.eq_7, sIx.eq_8, sIx.eq_9, sSl.eq_1, sSl.eq_2, sSl.eq_3, sSl.eq_4, sRev.eq_1, sRev.eq_2, sRev.eq_3, sAddI.eq_1, sAddI.eq_2, sPut.eq_1, sPut.eq_2, sPut.eq_3, sPut.eq_4, D.isNon, sEq_ii, sNe_ii, sEq_ww, sNe_ww, sEq_ll, sNe_ll, sIsi_ii, sIsi_ib, sIsi_ll, sIsi_tt, sIsi_ss, sEq_w, sEq_i, sEq_lw, sEq_lw', sEq_lle, sEq_lle', sNe_w, sNe_i, sNe_lle', sNe_lw', sEq_ss, sNe_ss, sEq_bb, sNe_bb, sIn_iw, sIn_ii, sIn_wl, sIn_wl', sSl3.eq_1, sSl3.eq_2, dSl3, isS.eq_1, isL.eq_1, isL.eq_2, isA.eq_1, dM0, dM1, sUpper.eq_1, sLower.eq_1, sStrip1.eq_1, sSfind.eq_1, sScount.eq_1, sSindex.eq_1, sSsplit.eq_1, sSjoin.eq_1, sSjoin.eq_2, fPop_snoc, fPop_snoc', startD, wipeD, List.map_cons, List.map_nil, List.length_cons, List.length_nil, List.length_map, List.cons_append, List.nil_append, List.replicate, List.set_cons_zero, List.set_cons_succ, List.set_nil, List.getElem?_cons_zero, List.getElem?_cons_succ, Bool.true_and, Bool.and_true, Bool.and_false, Bool.false_and, Bool.not_true, Bool.not_false, if_true, if_false, Bool.false_eq_true, reduceIte, and_true, true_and, decide_true, decide_false, not_true, Option.map_none, Option.map_some, Option.getD_none, Option.getD_some, Option.isSome_none, Option.isSome_some, Nat.zero_le, Nat.zero_add, Nat.reduceAdd, Nat.reduceSub, D.scal, Option.some.injEq, exists_eq_left', exists_eq_left, exists_eq', D.int.injEq, D.lst.injEq, D.tup.injEq, D.scr.injEq, D.str.injEq, List.cons.injEq, and_self]
  refine ⟨p, _, rfl, R.ins, no_by .., p, r, S, room, km, step, rfl, R, hk, ?_⟩
  rw [← he]
  have hv := wm_val m room step
  rcases hd with hd | hd
  all_goals
    cases e : fget m (room, step) with
    | none =>
      rw [e] at hv
      refine seq_i ?_
      try simp -implicitDefEqProofs only [hd, dNext, dSet, dLst, dTup, dNil, dCons, dFor, dRng1_u, dRng2_u, dIt_u, oX, dC, dBin, dUn, dVarR, dVar, dApp, dExt, dUpd0, dPut, dAug, dRet, dRetV, dRetN, dBreak, dCont, dIf, dB_u, dTru_u, dTNot, dTAnd, dTOr, dAndV_u, dOrV_u, dNotV_u, dIfX, dChain_u, dCall, dSl, dNoP, dP_u, dLc, dDrop, dFrz, frzD, dAsg, dDicK, dDicT, gN, gT, gsC, gsN, kB.eq_1, kT.eq_1, kT.eq_2, kT.eq_3, kT.eq_4, kT.eq_5, kT.eq_6, kT.eq_7, kT.eq_8, kAnd.eq_1, kOr.eq_1, kNot.eq_1, kIt.eq_1, kIt.eq_2, kIt.eq_3, kIt.eq_4, kP.eq_1, kR1.eq_1, kR2.eq_1, sAdd.eq_1, sAdd.eq_2, sAdd.eq_3, sAdd.eq_4, sJ2.eq_1, sI2.eq_1, sPow, sLt.eq_1, sLt.eq_2, sLe, sGt, sGe, sMul.eq_1, sMul.eq_2, sMulB.eq_1, sMulB.eq_2, sMulB.eq_3, sLR1.eq_1, sLR2.eq_1, sTR1.eq_1, sTR2.eq_1, sIsBl.eq_1, dZip, kZip.eq_1, dDisp1, dSetN, dConsN, dAppN, dPutN, dFld, dFldS, dFldAug, dMeth, dMake, dGet1, dGet2, dDPop, dLPop, dLPopAt, dLClear, dEnum, kEnum.eq_1, dRng3, kR3.eq_1, dForN, dForKeys, dForItems, dLock, lkE, dBack, kNm_f, kNm_t, nmK_f, nmK_lst, nmK_dK, nmK_dT, isDct_dK, isDct_dT, isDct_fK, isDct_fT, sGetO_K, sGetO_S, sGetO_T, sGetO_fK, sGetO_fT, sIn_K, sIn_fK, sIn_T, sIn_fT, sPutC_lst, sPutC_K, sPutC_S, sPutC_T, keyOf_int, keyOf_str, keysC.eq_1, keysC.eq_2, itemsC.eq_1, rs_ref, rs_non, rs_bl, rs_int, rs_str, rs_ty, rs_lst, rs_tup, rs_dK, rs_dT, rs_scr, rs_wD, rs_iD, rs_lwD, resC_lst, resC_dK, resC_dT, resC_fK, resC_fT, resC_ins, updW_same, putFD.eq_1, putFD.eq_2, isL.eq_1, isL.eq_2, sNeg.eq_1, sLen.eq_1, sLen.eq_2, sLen.eq_3, sLen.eq_4, sLen.eq_5, sAbs.eq_1, sMax, sMin, sInt.eq_1, sInt.eq_2, sStr.eq_1, sList.eq_1, sList.eq_2, sList.eq_3, sTuple.eq_1, sTuple.eq_2, sTuple.eq_3, sIsN, sNotN, sIx.eq_1, sIx.eq_2, sIx.eq_3, sIx.eq_4, sIx.eq_5, sIx.eq_6, sIx.eq_7, sIx.eq_8, sIx.eq_9, sSl.eq_1, sSl.eq_2, sSl.eq_3, sSl.eq_4, sRev.eq_1, sRev.eq_2, sRev.eq_3, sAddI.eq_1, sAddI.eq_2, sPut.eq_1, sPut.eq_2, sPut.eq_3, sPut.eq_4, D.isNon, sEq_ii, sNe_ii, sEq_ww, sNe_ww, sEq_ll, sNe_ll, sIsi_ii, sIsi_ib, sIsi_ll, sIsi_tt, sIsi_ss, sEq_w, sEq_i, sEq_lw, sEq_lw', sEq_lle, sEq_lle', sNe_w, sNe_i, sNe_lle', sNe_lw', sEq_ss, sNe_ss, sEq_bb, sNe_bb, sIn_iw, sIn_ii, sIn_wl, sIn_wl', sSl3.eq_1, sSl3.eq_2, dSl3, isS.eq_1, isL.eq_1, isL.eq_2, isA.eq_1, dM0, dM1, sUpper.eq_1, sLower.eq_1, sStrip1.eq_1, sSfind.eq_1, sScount.eq_1, sSindex.eq_1, sSsplit.eq_1, sSjoin.eq_1, sSjoin.eq_2, fPop_snoc, fPop_snoc', startD, wipeD, List.map_cons, List.map_nil, List.length_cons, List.length_nil, List.length_map, List.cons_append, List.nil_append, List.replicate, List.set_cons_zero, List.set_cons_succ, List.set_nil, List.getElem?_cons_zero, List.getElem?_cons_succ, Bool.true_and, Bool.and_true, Bool.and_false, Bool.false_and, Bool.not_true, Bool.not_false, if_true, if_false, Bool.false_eq_true, reduceIte, and_true, true_and, decide_true, decide_false, not_true, Option.map_none, Option.map_some, Option.getD_none, Option.getD_some, Option.isSome_none, Option.isSome_some, Nat.zero_le, Nat.zero_add, Nat.reduceAdd, Nat.reduceSub, D.scal, Option.some.injEq, exists_eq_left', exists_eq_left, exists_eq', D.int.injEq, D.lst.injEq, D.tup.injEq, D.scr.injEq, D.str.injEq, List.cons.injEq, and_self]
      refine ⟨by decide, pk_use ?_⟩
      rw [hv]
      try simp -implicitDefEqProofs only [dNext, dSet, dLst, dTup, dNil, dCons, dFor, dRng1_u, dRng2_u, dIt_u, oX, dC, dBin, dUn, dVarR, dVar, dApp, dExt, dUpd0, dPut, dAug, dRet, dRetV, dRetN, dBreak, dCont, dIf, dB_u, dTru_u, dTNot, dTAnd, dTOr, dAndV_u, dOrV_u, dNotV_u, dIfX, dChain_u, dCall, dSl, dNoP, dP_u, dLc, dDrop, dFrz, frzD, dAsg, dDicK, dDicT, gN, gT, gsC, gsN, kB.eq_1, kT.eq_1, kT.eq_2, kT.eq_3, kT.eq_4, kT.eq_5, kT.eq_6, kT.eq_7, kT.eq_8, kAnd.eq_1, kOr.eq_1, kNot.eq_1, kIt.eq_1, kIt.eq_2, kIt.eq_3, kIt.eq_4, kP.eq_1, kR1.eq_1, kR2.eq_1, sAdd.eq_1, sAdd.eq_2, sAdd.eq_3, sAdd.eq_4, sJ2.eq_1, sI2.eq_1, sPow, sLt.eq_1, sLt.eq_2, sLe, sGt, sGe, sMul.eq_1, sMul.eq_2, sMulB.eq_1, sMulB.eq_2, sMulB.eq_3, sLR1.eq_1, sLR2.eq_1, sTR1.eq_1, sTR2.eq_1, sIsBl.eq_1, dZip, kZip.eq_1, dDisp1, dSetN, dConsN, dAppN, dPutN, dFld, dFldS, dFldAug, dMeth, dMake, dGet1, dGet2, dDPop, dLPop, dLPopAt, dLClear, dEnum, kEnum.eq_1, dRng3, kR3.eq_1, dForN, dForKeys, dForItems, dLock, lkE, dBack, kNm_f, kNm_t, nmK_f, nmK_lst, nmK_dK, nmK_dT, isDct_dK, isDct_dT, isDct_fK, isDct_fT, sGetO_K, sGetO_S, sGetO_T, sGetO_fK, sGetO_fT, sIn_K, sIn_fK, sIn_T, sIn_fT, sPutC_lst, sPutC_K, sPutC_S, sPutC_T, keyOf_int, keyOf_str, keysC.eq_1, keysC.eq_2, itemsC.eq_1, rs_ref, rs_non, rs_bl, rs_int, rs_str, rs_ty, rs_lst, rs_tup, rs_dK, rs_dT, rs_scr, rs_wD, rs_iD, rs_lwD, resC_lst, resC_dK, resC_dT, resC_fK, resC_fT, resC_ins, updW_same, putFD.eq_1, putFD.eq_2, isL.eq_1, isL.eq_2, sNeg.eq_1, sLen.eq_1, sLen.eq_2, sLen.eq_3, sLen.eq_4, sLen.eq_5, sAbs.eq_1, sMax, sMin, sInt.eq_1, sInt.eq_2, sStr.eq_1, sList.eq_1, sList.eq_2, sList.eq_3, sTuple.eq_1, sTuple.eq_2, sTuple.eq_3, sIsN, sNotN, sIx.eq_1, sIx.eq_2, sIx.eq_3, sIx.eq_4, sIx.eq_5, sIx.eq_6, sIx.eq_7, sIx.eq_8, sIx.eq_9, sSl.eq_1, sSl.eq_2, sSl.eq_3, sSl.eq_4, sRev.eq_1, sRev.eq_2, sRev.eq_3, sAddI.eq_1, sAddI.eq_2, sPut.eq_1, sPut.eq_2, sPut.eq_3, sPut.eq_4, D.isNon, sEq_ii, sNe_ii, sEq_ww, sNe_ww, sEq_ll, sNe_ll, sIsi_ii, sIsi_ib, sIsi_ll, sIsi_tt, sIsi_ss, sEq_w, sEq_i, sEq_lw, sEq_lw', sEq_lle, sEq_lle', sNe_w, sNe_i, sNe_lle', sNe_lw', sEq_ss, sNe_ss, sEq_bb, sNe_bb, sIn_iw, sIn_ii, sIn_wl, sIn_wl', sSl3.eq_1, sSl3.eq_2, dSl3, isS.eq_1, isL.eq_1, isL.eq_2, isA.eq_1, dM0, dM1, sUpper.eq_1, sLower.eq_1, sStrip1.eq_1, sSfind.eq_1, sScount.eq_1, sSindex.eq_1, sSsplit.eq_1, sSjoin.eq_1, sSjoin.eq_2, fPop_snoc, fPop_snoc', startD, wipeD, List.map_cons, List.map_nil, List.length_cons, List.length_nil, List.length_map, List.cons_append, List.nil_append, List.replicate, List.set_cons_zero, List.set_cons_succ, List.set_nil, List.getElem?_cons_zero, List.getElem?_cons_succ, Bool.true_and, Bool.and_true, Bool.and_false, Bool.false_and, Bool.not_true, Bool.not_false, if_true, if_false, Bool.false_eq_true, reduceIte, and_true, true_and, decide_true, decide_false, not_true, Option.map_none, Option.map_some, Option.getD_none, Option.getD_some, Option.isSome_none, Option.isSome_some, Nat.zero_le, Nat.zero_add, Nat.reduceAdd, Nat.reduceSub, D.scal, Option.some.injEq, exists_eq_left', exists_eq_left, exists_eq', D.int.injEq, D.lst.injEq, D.tup.injEq, D.scr.injEq, D.str.injEq, List.cons.injEq, and_self]
      exact q
    | some n =>
      rw [e] at hv
      refine seq_i ?_
      try simp -implicitDefEqProofs only [hd, dNext, dSet, dLst, dTup, dNil, dCons, dFor, dRng1_u, dRng2_u, dIt_u, oX, dC, dBin, dUn, dVarR, dVar, dApp, dExt, dUpd0, dPut, dAug, dRet, dRetV, dRetN, dBreak, dCont, dIf, dB_u, dTru_u, dTNot, dTAnd, dTOr, dAndV_u, dOrV_u, dNotV_u, dIfX, dChain_u, dCall, dSl, dNoP, dP_u, dLc, dDrop, dFrz, frzD, dAsg, dDicK, dDicT, gN, gT, gsC, gsN, kB.eq_1, kT.eq_1, kT.eq_2, kT.eq_3, kT.eq_4, kT.eq_5, kT.eq_6, kT.eq_7, kT.eq_8, kAnd.eq_1, kOr.eq_1, kNot.eq_1, kIt.eq_1, kIt.eq_2, kIt.eq_3, kIt.eq_4, kP.eq_1, kR1.eq_1, kR2.eq_1, sAdd.eq_1, sAdd.eq_2, sAdd.eq_3, sAdd.eq_4, sJ2.eq_1, sI2.eq_1, sPow, sLt.eq_1, sLt.eq_2, sLe, sGt, sGe, sMul.eq_1, sMul.eq_2, sMulB.eq_1, sMulB.eq_2, sMulB.eq_3, sLR1.eq_1, sLR2.eq_1, sTR1.eq_1, sTR2.eq_1, sIsBl.eq_1, dZip, kZip.eq_1, dDisp1, dSetN, dConsN, dAppN, dPutN, dFld, dFldS, dFldAug, dMeth, dMake, dGet1, dGet2, dDPop, dLPop, dLPopAt, dLClear, dEnum, kEnum.eq_1, dRng3, kR3.eq_1, dForN, dForKeys, dForItems, dLock, lkE, dBack, kNm_f, kNm_t, nmK_f, nmK_lst, nmK_dK, nmK_dT, isDct_dK, isDct_dT, isDct_fK, isDct_fT, sGetO_K, sGetO_S, sGetO_T, sGetO_fK, sGetO_fT, sIn_K, sIn_fK, sIn_T, sIn_fT, sPutC_lst, sPutC_K, sPutC_S, sPutC_T, keyOf_int, keyOf_str, keysC.eq_1, keysC.eq_2, itemsC.eq_1, rs_ref, rs_non, rs_bl, rs_int, rs_str, rs_ty, rs_lst, rs_tup, rs_dK, rs_dT, rs_scr, rs_wD, rs_iD, rs_lwD, resC_lst, resC_dK, resC_dT, resC_fK, resC_fT, resC_ins, updW_same, putFD.eq_1, putFD.eq_2, isL.eq_1, isL.eq_2, sNeg.eq_1, sLen.eq_1, sLen.eq_2, sLen.eq_3, sLen.eq_4, sLen.eq_5, sAbs.eq_1, sMax, sMin, sInt.eq_1, sInt.eq_2, sStr.eq_1, sList.eq_1, sList.eq_2, sList.eq_3, sTuple.eq_1, sTuple.eq_2, sTuple.eq_3, sIsN, sNotN, sIx.eq_1, sIx.eq_2, sIx.eq_3, sIx.eq_4, sIx.eq_5, sIx.eq_6, sIx.eq_7, sIx.eq_8, sIx.eq_9, sSl.eq_1, sSl.eq_2, sSl.eq_3, sSl.eq_4, sRev.eq_1, sRev.eq_2, sRev.eq_3, sAddI.eq_1, sAddI.eq_2, sPut.eq_1, sPut.eq_2, sPut.eq_3, sPut.eq_4, D.isNon, sEq_ii, sNe_ii, sEq_ww, sNe_ww, sEq_ll, sNe_ll, sIsi_ii, sIsi_ib, sIsi_ll, sIsi_tt, sIsi_ss, sEq_w, sEq_i, sEq_lw, sEq_lw', sEq_lle, sEq_lle', sNe_w, sNe_i, sNe_lle', sNe_lw', sEq_ss, sNe_ss, sEq_bb, sNe_bb, sIn_iw, sIn_ii, sIn_wl, sIn_wl', sSl3.eq_1, sSl3.eq_2, dSl3, isS.eq_1, isL.eq_1, isL.eq_2, isA.eq_1, dM0, dM1, sUpper.eq_1, sLower.eq_1, sStrip1.eq_1, sSfind.eq_1, sScount.eq_1, sSindex.eq_1, sSsplit.eq_1, sSjoin.eq_1, sSjoin.eq_2, fPop_snoc, fPop_snoc', startD, wipeD, List.map_cons, List.map_nil, List.length_cons, List.length_nil, List.length_map, List.cons_append, List.nil_append, List.replicate, List.set_cons_zero, List.set_cons_succ, List.set_nil, List.getElem?_cons_zero, List.getElem?_cons_succ, Bool.true_and, Bool.and_true, Bool.and_false, Bool.false_and, Bool.not_true, Bool.not_false, if_true, if_false, Bool.false_eq_true, reduceIte, and_true, true_and, decide_true, decide_false, not_true, Option.map_none, Option.map_some, Option.getD_none, Option.getD_some, Option.isSome_none, Option.isSome_some, Nat.zero_le, Nat.zero_add, Nat.reduceAdd, Nat.reduceSub, D.scal, Option.some.injEq, exists_eq_left', exists_eq_left, exists_eq', D.int.injEq, D.lst.injEq, D.tup.injEq, D.scr.injEq, D.str.injEq, List.cons.injEq, and_self]
      refine ⟨by decide, pk_use ?_⟩
      rw [hv]
      try simp -implicitDefEqProofs only [dNext, dSet, dLst, dTup, dNil, dCons, dFor, dRng1_u, dRng2_u, dIt_u, oX, dC, dBin, dUn, dVarR, dVar, dApp, dExt, dUpd0, dPut, dAug, dRet, dRetV, dRetN, dBreak, dCont, dIf, dB_u, dTru_u, dTNot, dTAnd, dTOr, dAndV_u, dOrV_u, dNotV_u, dIfX, dChain_u, dCall, dSl, dNoP, dP_u, dLc, dDrop, dFrz, frzD, dAsg, dDicK, dDicT, gN, gT, gsC, gsN, kB.eq_1, kT.eq_1, kT.eq_2, kT.eq_3, kT.eq_4, kT.eq_5, kT.eq_6, kT.eq_7, kT.eq_8, kAnd.eq_1, kOr.eq_1, kNot.eq_1, kIt.eq_1, kIt.eq_2, kIt.eq_3, kIt.eq_4, kP.eq_1, kR1.eq_1, kR2.eq_1, sAdd.eq_1, sAdd.eq_2, sAdd.eq_3, sAdd.eq_4, sJ2.eq_1, sI2.eq_1, sPow, sLt.eq_1, sLt.eq_2, sLe, sGt, sGe, sMul.eq_1, sMul.eq_2, sMulB.eq_1, sMulB.eq_2, sMulB.eq_3, sLR1.eq_1, sLR2.eq_1, sTR1.eq_1, sTR2.eq_1, sIsBl.eq_1, dZip, kZip.eq_1, dDisp1, dSetN, dConsN, dAppN, dPutN, dFld, dFldS, dFldAug, dMeth, dMake, dGet1, dGet2, dDPop, dLPop, dLPopAt, dLClear, dEnum, kEnum.eq_1, dRng3, kR3.eq_1, dForN, dForKeys, dForItems, dLock, lkE, dBack, kNm_f, kNm_t, nmK_f, nmK_lst, nmK_dK, nmK_dT, isDct_dK, isDct_dT, isDct_fK, isDct_fT, sGetO_K, sGetO_S, sGetO_T, sGetO_fK, sGetO_fT, sIn_K, sIn_fK, sIn_T, sIn_fT, sPutC_lst, sPutC_K, sPutC_S, sPutC_T, keyOf_int, keyOf_str, keysC.eq_1, keysC.eq_2, itemsC.eq_1, rs_ref, rs_non, rs_bl, rs_int, rs_str, rs_ty, rs_lst, rs_tup, rs_dK, rs_dT, rs_scr, rs_wD, rs_iD, rs_lwD, resC_lst, resC_dK, resC_dT, resC_fK, resC_fT, resC_ins, updW_same, putFD.eq_1, putFD.eq_2, isL.eq_1, isL.eq_2, sNeg.eq_1, sLen.eq_1, sLen.eq_2, sLen.eq_3, sLen.eq_4, sLen.eq_5, sAbs.eq_1, sMax, sMin, sInt.eq_1, sInt.eq_2, sStr.eq_1, sList.eq_1, sList.eq_2, sList.eq_3, sTuple.eq_1, sTuple.eq_2, sTuple.eq_3, sIsN, sNotN, sIx.eq_1, sIx.eq_2, sIx.eq_3, sIx.eq_4, sIx.eq_5, sIx.eq_6, sIx.eq_7, sIx.eq_8, sIx.eq_9, sSl.eq_1, sSl.eq_2, sSl.eq_3, sSl.eq_4, sRev.eq_1, sRev.eq_2, sRev.eq_3, sAddI.eq_1, sAddI.eq_2, sPut.eq_1, sPut.eq_2, sPut.eq_3, sPut.eq_4, D.isNon, sEq_ii, sNe_ii, sEq_ww, sNe_ww, sEq_ll, sNe_ll, sIsi_ii, sIsi_ib, sIsi_ll, sIsi_tt, sIsi_ss, sEq_w, sEq_i, sEq_lw, sEq_lw', sEq_lle, sEq_lle', sNe_w, sNe_i, sNe_lle', sNe_lw', sEq_ss, sNe_ss, sEq_bb, sNe_bb, sIn_iw, sIn_ii, sIn_wl, sIn_wl', sSl3.eq_1, sSl3.eq_2, dSl3, isS.eq_1, isL.eq_1, isL.eq_2, isA.eq_1, dM0, dM1, sUpper.eq_1, sLower.eq_1, sStrip1.eq_1, sSfind.eq_1, sScount.eq_1, sSindex.eq_1, sSsplit.eq_1, sSjoin.eq_1, sSjoin.eq_2, fPop_snoc, fPop_snoc', startD, wipeD, List.map_cons, List.map_nil, List.length_cons, List.length_nil, List.length_map, List.cons_append, List.nil_append, List.replicate, List.set_cons_zero, List.set_cons_succ, List.set_nil, List.getElem?_cons_zero, List.getElem?_cons_succ, Bool.true_and, Bool.and_true, Bool.and_false, Bool.false_and, Bool.not_true, Bool.not_false, if_true, if_false, Bool.false_eq_true, reduceIte, and_true, true_and, decide_true, decide_false, not_true, Option.map_none, Option.map_some, Option.getD_none, Option.getD_some, Option.isSome_none, Option.isSome_some, Nat.zero_le, Nat.zero_add, Nat.reduceAdd, Nat.reduceSub, D.scal, Option.some.injEq, exists_eq_left', exists_eq_left, exists_eq', D.int.injEq, D.lst.injEq, D.tup.injEq, D.scr.injEq, D.str.injEq, List.cons.injEq, and_self]
      refine ⟨n, rfl, ?_⟩
      try simp -implicitDefEqProofs only [hd, dNext, dSet, dLst, dTup, dNil, dCons, dFor, dRng1_u, dRng2_u, dIt_u, oX, dC, dBin, dUn, dVarR, dVar, dApp, dExt, dUpd0, dPut, dAug, dRet, dRetV, dRetN, dBreak, dCont, dIf, dB_u, dTru_u, dTNot, dTAnd, dTOr, dAndV_u, dOrV_u, dNotV_u, dIfX, dChain_u, dCall, dSl, dNoP, dP_u, dLc, dDrop, dFrz, frzD, dAsg, dDicK, dDicT, gN, gT, gsC, gsN, kB.eq_1, kT.eq_1, kT.eq_2, kT.eq_3, kT.eq_4, kT.eq_5, kT.eq_6, kT.eq_7, kT.eq_8, kAnd.eq_1, kOr.eq_1, kNot.eq_1, kIt.eq_1, kIt.eq_2, kIt.eq_3, kIt.eq_4, kP.eq_1, kR1.eq_1, kR2.eq_1, sAdd.eq_1, sAdd.eq_2, sAdd.eq_3, sAdd.eq_4, sJ2.eq_1, sI2.eq_1, sPow, sLt.eq_1, sLt.eq_2, sLe, sGt, sGe, sMul.eq_1, sMul.eq_2, sMulB.eq_1, sMulB.eq_2, sMulB.eq_3, sLR1.eq_1, sLR2.eq_1, sTR1.eq_1, sTR2.eq_1, sIsBl.eq_1, dZip, kZip.eq_1, dDisp1, dSetN, dConsN, dAppN, dPutN, dFld, dFldS, dFldAug, dMeth, dMake, dGet1, dGet2, dDPop, dLPop, dLPopAt, dLClear, dEnum, kEnum.eq_1, dRng3, kR3.eq_1, dForN, dForKeys, dForItems, dLock, lkE, dBack, kNm_f, kNm_t, nmK_f, nmK_lst, nmK_dK, nmK_dT, isDct_dK, isDct_dT, isDct_fK, isDct_fT, sGetO_K, sGetO_S, sGetO_T, sGetO_fK, sGetO_fT, sIn_K, sIn_fK, sIn_T, sIn_fT, sPutC_lst, sPutC_K, sPutC_S, sPutC_T, keyOf_int, keyOf_str, keysC.eq_1, keysC.eq_2, itemsC.eq_1, rs_ref, rs_non, rs_bl, rs_int, rs_str, rs_ty, rs_lst, rs_tup, rs_dK, rs_dT, rs_scr, rs_wD, rs_iD, rs_lwD, resC_lst, resC_dK, resC_dT, resC_fK, resC_fT, resC_ins, updW_same, putFD.eq_1, putFD.eq_2, isL.eq_1, isL.eq_2, sNeg.eq_1, sLen.eq_1, sLen.eq_2, sLen.eq_3, sLen.eq_4, sLen.eq_5, sAbs.eq_1, sMax, sMin, sInt.eq_1, sInt.eq_2, sStr.eq_1, sList.eq_1, sList.eq_2, sList.eq_3, sTuple.eq_1, sTuple.eq_2, sTuple.eq_3, sIsN, sNotN, sIx.eq_1, sIx.eq_2, sIx.eq_3, sIx.eq_4, sIx.eq_5, sIx.eq_6, sIx.eq_7, sIx.eq_8, sIx.eq_9, sSl.eq_1, sSl.eq_2, sSl.eq_3, sSl.eq_4, sRev.eq_1, sRev.eq_2, sRev.eq_3, sAddI.eq_1, sAddI.eq_2, sPut.eq_1, sPut.eq_2, sPut.eq_3, sPut.eq_4, D.isNon, sEq_ii, sNe_ii, sEq_ww, sNe_ww, sEq_ll, sNe_ll, sIsi_ii, sIsi_ib, sIsi_ll, sIsi_tt, sIsi_ss, sEq_w, sEq_i, sEq_lw, sEq_lw', sEq_lle, sEq_lle', sNe_w, sNe_i, sNe_lle', sNe_lw', sEq_ss, sNe_ss, sEq_bb, sNe_bb, sIn_iw, sIn_ii, sIn_wl, sIn_wl', sSl3.eq_1, sSl3.eq_2, dSl3, isS.eq_1, isL.eq_1, isL.eq_2, isA.eq_1, dM0, dM1, sUpper.eq_1, sLower.eq_1, sStrip1.eq_1, sSfind.eq_1, sScount.eq_1, sSindex.eq_1, sSsplit.eq_1, sSjoin.eq_1, sSjoin.eq_2, fPop_snoc, fPop_snoc', startD, wipeD, List.map_cons, List.map_nil, List.length_cons, List.length_nil, List.length_map, List.cons_append, List.nil_append, List.replicate, List.set_cons_zero, List.set_cons_succ, List.set_nil, List.getElem?_cons_zero, List.getElem?_cons_succ, Bool.true_and, Bool.and_true, Bool.and_false, Bool.false_and, Bool.not_true, Bool.not_false, if_true, if_false, Bool.false_eq_true, reduceIte, and_true, true_and, decide_true, decide_false, not_true, Option.map_none, Option.map_some, Option.getD_none, Option.getD_some, Option.isSome_none, Option.isSome_some, Nat.zero_le, Nat.zero_add, Nat.reduceAdd, Nat.reduceSub, D.scal, Option.some.injEq, exists_eq_left', exists_eq_left, exists_eq', D.int.injEq, D.lst.injEq, D.tup.injEq, D.scr.injEq, D.str.injEq, List.cons.injEq, and_self]
      refine ⟨by decide, pk room step, .int n, rfl, hv, ?_⟩
      try simp -implicitDefEqProofs only [dNext, dSet, dLst, dTup, dNil, dCons, dFor, dRng1_u, dRng2_u, dIt_u, oX, dC, dBin, dUn, dVarR, dVar, dApp, dExt, dUpd0, dPut, dAug, dRet, dRetV, dRetN, dBreak, dCont, dIf, dB_u, dTru_u, dTNot, dTAnd, dTOr, dAndV_u, dOrV_u, dNotV_u, dIfX, dChain_u, dCall, dSl, dNoP, dP_u, dLc, dDrop, dFrz, frzD, dAsg, dDicK, dDicT, gN, gT, gsC, gsN, kB.eq_1, kT.eq_1, kT.eq_2, kT.eq_3, kT.eq_4, kT.eq_5, kT.eq_6, kT.eq_7, kT.eq_8, kAnd.eq_1, kOr.eq_1, kNot.eq_1, kIt.eq_1, kIt.eq_2, kIt.eq_3, kIt.eq_4, kP.eq_1, kR1.eq_1, kR2.eq_1, sAdd.eq_1, sAdd.eq_2, sAdd.eq_3, sAdd.eq_4, sJ2.eq_1, sI2.eq_1, sPow, sLt.eq_1, sLt.eq_2, sLe, sGt, sGe, sMul.eq_1, sMul.eq_2, sMulB.eq_1, sMulB.eq_2, sMulB.eq_3, sLR1.eq_1, sLR2.eq_1, sTR1.eq_1, sTR2.eq_1, sIsBl.eq_1, dZip, kZip.eq_1, dDisp1, dSetN, dConsN, dAppN, dPutN, dFld, dFldS, dFldAug, dMeth, dMake, dGet1, dGet2, dDPop, dLPop, dLPopAt, dLClear, dEnum, kEnum.eq_1, dRng3, kR3.eq_1, dForN, dForKeys, dForItems, dLock, lkE, dBack, kNm_f, kNm_t, nmK_f, nmK_lst, nmK_dK, nmK_dT, isDct_dK, isDct_dT, isDct_fK, isDct_fT, sGetO_K, sGetO_S, sGetO_T, sGetO_fK, sGetO_fT, sIn_K, sIn_fK, sIn_T, sIn_fT, sPutC_lst, sPutC_K, sPutC_S, sPutC_T, keyOf_int, keyOf_str, keysC.eq_1, keysC.eq_2, itemsC.eq_1, rs_ref, rs_non, rs_bl, rs_int, rs_str, rs_ty, rs_lst, rs_tup, rs_dK, rs_dT, rs_scr, rs_wD, rs_iD, rs_lwD, resC_lst, resC_dK, resC_dT, resC_fK, resC_fT, resC_ins, updW_same, putFD.eq_1, putFD.eq_2, isL.eq_1, isL.eq_2, sNeg.eq_1, sLen.eq_1, sLen.eq_2, sLen.eq_3, sLen.eq_4, sLen.eq_5, sAbs.eq_1, sMax, sMin, sInt.eq_1, sInt.eq_2, sStr.eq_1, sList.eq_1, sList.eq_2, sList.eq_3, sTuple.eq_1, sTuple.eq_2, sTuple.eq_3, sIsN, sNotN, sIx.eq_1, sIx.eq_2, sIx.eq_3, sIx.eq_4, sIx.eq_5, sIx.eq_6, sIx.eq_7, sIx.eq_8, sIx.eq_9, sSl.eq_1, sSl.eq_2, sSl.eq_3, sSl.eq_4, sRev.eq_1, sRev.eq_2, sRev.eq_3, sAddI.eq_1, sAddI.eq_2, sPut.eq_1, sPut.eq_2, sPut.eq_3, sPut.eq_4, D.isNon, sEq_ii, sNe_ii, sEq_ww, sNe_ww, sEq_ll, sNe_ll, sIsi_ii, sIsi_ib, sIsi_ll, sIsi_tt, sIsi_ss, sEq_w, sEq_i, sEq_lw, sEq_lw', sEq_lle, sEq_lle', sNe_w, sNe_i, sNe_lle', sNe_lw', sEq_ss, sNe_ss, sEq_bb, sNe_bb, sIn_iw, sIn_ii, sIn_wl, sIn_wl', sSl3.eq_1, sSl3.eq_2, dSl3, isS.eq_1, isL.eq_1, isL.eq_2, isA.eq_1, dM0, dM1, sUpper.eq_1, sLower.eq_1, sStrip1.eq_1, sSfind.eq_1, sScount.eq_1, sSindex.eq_1, sSsplit.eq_1, sSjoin.eq_1, sSjoin.eq_2, fPop_snoc, fPop_snoc', startD, wipeD, List.map_cons, List.map_nil, List.length_cons, List.length_nil, List.length_map, List.cons_append, List.nil_append, List.replicate, List.set_cons_zero, List.set_cons_succ, List.set_nil, List.getElem?_cons_zero, List.getElem?_cons_succ, Bool.true_and, Bool.and_true, Bool.and_false, Bool.false_and, Bool.not_true, Bool.not_false, if_true, if_false, Bool.false_eq_true, reduceIte, and_true, true_and, decide_true, decide_false, not_true, Option.map_none, Option.map_some, Option.getD_none, Option.getD_some, Option.isSome_none, Option.isSome_some, Nat.zero_le, Nat.zero_add, Nat.reduceAdd, Nat.reduceSub, D.scal, Option.some.injEq, exists_eq_left', exists_eq_left, exists_eq', D.int.injEq, D.lst.injEq, D.tup.injEq, D.scr.injEq, D.str.injEq, List.cons.injEq, and_self]
      exact q
theorem root_rng {n r : Nat} (h : r < n) : root (List.range n) r = r := root_eq (List.getElem?_range h)
theorem stands_rng (n : Nat) : stands (List.range n) = List.range n := by
  unfold stands
  rw [List.length_range]
  refine List.filter_eq_self.mpr fun r hr => ?_
  rw [List.getElem?_range (List.mem_range.mp hr)]
  simp
theorem elok_rng (n : Nat) : ElOk (List.range n) := ⟨fun i v h => by
  have hi := (List.getElem?_eq_some_iff.mp h).1
  rw [List.length_range] at hi
  rw [List.getElem?_range hi] at h
  cases h
  exact Nat.le_refl _⟩
theorem nL_flat (l : List Nat) : Flat (nL l) 1 := Flat.lst (n := 0) fun d hd => by obtain ⟨x, _, rfl⟩ := List.mem_map.mp hd; exact .int _ _
structure Oj where
  p : Addr
  r : RP
  S : RS
  d : Addr
  m : Wm
  lc : Addr
  rs : List Rw
structure OjOk (w : Om) (l : Nat) (o : Oj) : Prop where
  rm : Rm w o.p o.r o.S
  hd : w o.d = some (.dT (wmD o.m))
  hl : w o.lc = some (.lst (o.rs.map rwD))
  nl : o.lc ∉ o.r.fp o.p
  td : o.S.told = o.rs.map rwD
  sl : o.S.l = l
  el : o.S.el = List.range (o.rs.length + 1)
  kn : ∀ room km s, o.S.kn[room]? = some km → fget o.m (room, s) = fget km s
  keys : ∀ q ∈ o.m, q.1.1 ≤ o.rs.length
  kml : ∀ (room : Nat) (km : Kn), o.S.kn[room]? = some km → km.length ≤ o.rs.length + 1
  ml : o.m.length ≤ 2 * o.rs.length
def Oj.foot (o : Oj) : List Addr := o.d :: o.lc :: o.r.fp o.p
theorem OjOk.same {w w' : Om} {l : Nat} {o : Oj} (h : OjOk w l o) (e : ∀ b ∈ o.foot, w' b = w b) : OjOk w' l o :=
  ⟨h.rm.same fun b hb => e b (by simp [Oj.foot, hb]), by rw [e o.d (by simp [Oj.foot])]; exact h.hd, by rw [e o.lc (by simp [Oj.foot])]; exact h.hl, h.nl, h.td, h.sl, h.el, h.kn, h.keys, h.kml, h.ml⟩
theorem OjOk.there {w : Om} {l : Nat} {o : Oj} (h : OjOk w l o) : ∀ b ∈ o.foot, w b ≠ none := fun b hb => by
  simp only [Oj.foot, List.mem_cons] at hb
  rcases hb with e | e | e
  · subst e; rw [h.hd]; exact fun z => nomatch z
  · subst e; rw [h.hl]; exact fun z => nomatch z
  · exact h.rm.there b e
theorem OjOk.kat {w : Om} {l : Nat} {o : Oj} (h : OjOk w l o) {room : Nat} (hr : room ≤ o.rs.length) : ∃ km, o.S.kn[room]? = some km := ⟨_, List.getElem?_eq_getElem (by rw [h.rm.len2, h.el]; simp; omega)⟩
def T_Lseen : DSp := fun ds w P => ∃ (l : Nat) (o : Oj), ds = [.ref o.p, .int l, .ref o.d, .ref o.lc] ∧ OjOk w l o ∧ o.rs.length ≤ 1000 ∧ P false (.bl true) w
theorem len_Lseen (ds : List D) (w : Om) (P : Bool → D → Om → Prop) (h : T_Lseen ds w P) : ds.length = 4 := by first | (have h := h.1; subst h; rfl) | (obtain ⟨rfl, _⟩ := h; rfl) | (obtain ⟨_, rfl, _⟩ := h; rfl) | (obtain ⟨_, _, rfl, _⟩ := h; rfl) | (obtain ⟨_, _, _, rfl, _⟩ := h; rfl) | (obtain ⟨_, _, _, _, rfl, _⟩ := h; rfl) | (obtain ⟨_, _, _, _, _, rfl, _⟩ := h; rfl) | (obtain ⟨_, _, _, _, _, _, rfl, _⟩ := h; rfl) | (obtain ⟨_, _, _, _, _, _, _, rfl, _⟩ := h; rfl) | (obtain ⟨_, _, _, _, _, _, _, _, rfl, _⟩ := h; rfl) | (obtain ⟨_, _, _, _, _, _, _, _, _, rfl, _⟩ := h; rfl) | (obtain ⟨_, _, _, _, _, _, _, _, _, _, rfl, _⟩ := h; rfl) | (obtain ⟨_, _, _, _, _, _, _, _, _, _, _, rfl, _⟩ := h; rfl)
def b_Lseen : DS := (dSeq (dIf (dTOr (dTNot (dTru (oX (dCall T_Lwhole (dCons (dFld "Rooms" "made" (dVarR 0)) dNil))))) (dTOr (dB (dBin sNe (oX (dFld "Rooms" "made" (dVarR 0))) (oX (dBin sAdd (oX (dUn sLen (dVarR 3))) (oX (dC (.int 1))))))) (dB (dBin sNe (oX (dFld "Rooms" "letters" (dVarR 0))) (dVarR 1))))) (dRet (dC (.bl false))) dNext)
    (dSeq (dIf (dTNot (dTru (oX (dCall T_Lrows (dCons (dMeth "Rooms" "paper" T_Rooms_paper (dVarR 0) dNil) (dCons (dVar 3) dNil)))))) (dRet (dC (.bl false))) dNext)
    (dSeq (dSet false 4 (dMeth "Rooms" "standing" T_Rooms_standing (dVarR 0) dNil))
    (dSeq (dIf (dTOr (dTNot (dTru (oX (dBin sIsi (dVarR 4) (oX (dC (.ty "list"))))))) (dB (dBin sNe (dVarR 4) (oX (dUn sLR1 (oX (dBin sAdd (oX (dUn sLen (dVarR 3))) (oX (dC (.int 1)))))))))) (dRet (dC (.bl false))) dNext)
    (dSeq (dFor (dRng1 (oX (dBin sAdd (oX (dUn sLen (dVarR 3))) (oX (dC (.int 1)))))) (gN 5) (dSeq (dIf (dTOr (dTNot (dTru (oX (dCall T_Lwhole (dCons (dBin sIx (dVarR 4) (dVarR 5)) dNil))))) (dB (dBin sNe (oX (dMeth "Rooms" "elder" T_Rooms_elder (dVarR 0) (dCons (dVar 5) dNil))) (dVarR 5)))) (dRet (dC (.bl false))) dNext)
    (dFor (dIt (dLst (dCons (dC (.int 1)) (dCons (dUn sNeg (oX (dC (.int 1)))) (dCons (dVar 1) (dCons (dUn sNeg (dVarR 1)) dNil)))))) (gN 6) (dIf (dTNot (dTru (oX (dCall T_Lby (dCons (dVar 0) (dCons (dVar 5) (dCons (dVar 6) (dCons (dVar 2) dNil)))))))) (dRet (dC (.bl false))) dNext))))
    (dSeq (dLock (dForKeys (dVarR 2) (gT 2 (gsC (gN 5) (gsC (gN 6) gsN))) (dIf (dTNot (dTru (oX (dCall T_Lby (dCons (dVar 0) (dCons (dVar 5) (dCons (dVar 6) (dCons (dVar 2) dNil)))))))) (dRet (dC (.bl false))) dNext)))
    (dRet (dC (.bl true)))))))))
theorem v_Lseen (ds : List D) (w : Om) (P : Bool → D → Om → Prop) (h : T_Lseen ds w P) : b_Lseen { nx := fun _ w => P false .non w, rt := P } (startD ["_law_rooms", "_law_letters", "_law_ways", "_law_rows_here", "_law_found", "_law_room", "_law_step_here"] ds) w := by
  unfold b_Lseen
  obtain ⟨l, o, rfl, k, hn, q⟩ := h
  have hs := sizeLine_eq
  have hlen : o.S.el.length = o.rs.length + 1 := by rw [k.el]; simp
  have R := k.rm
  refine seq_i ?_
  try simp -implicitDefEqProofs only [not_true, dNext, dSet, dLst, dTup, dNil, dCons, dFor, dRng1_u, dRng2_u, dIt_u, oX, dC, dBin, dUn, dVarR, dVar, dApp, dExt, dUpd0, dPut, dAug, dRet, dRetV, dRetN, dBreak, dCont, dIf, dB_u, dTru_u, dTNot, dTAnd, dTOr, dAndV_u, dOrV_u, dNotV_u, dIfX, dChain_u, dCall, dSl, dNoP, dP_u, dLc, dDrop, dFrz, frzD, dAsg, dDicK, dDicT, gN, gT, gsC, gsN, kB.eq_1, kT.eq_1, kT.eq_2, kT.eq_3, kT.eq_4, kT.eq_5, kT.eq_6, kT.eq_7, kT.eq_8, kAnd.eq_1, kOr.eq_1, kNot.eq_1, kIt.eq_1, kIt.eq_2, kIt.eq_3, kIt.eq_4, kP.eq_1, kR1.eq_1, kR2.eq_1, sAdd.eq_1, sAdd.eq_2, sAdd.eq_3, sAdd.eq_4, sJ2.eq_1, sI2.eq_1, sPow, sLt.eq_1, sLt.eq_2, sLe, sGt, sGe, sMul.eq_1, sMul.eq_2, sMulB.eq_1, sMulB.eq_2, sMulB.eq_3, sLR1.eq_1, sLR2.eq_1, sTR1.eq_1, sTR2.eq_1, sIsBl.eq_1, dZip, kZip.eq_1, dDisp1, dSetN, dConsN, dAppN, dPutN, dFld, dFldS, dFldAug, dMeth, dMake, dGet1, dGet2, dDPop, dLPop, dLPopAt, dLClear, dEnum, kEnum.eq_1, dRng3, kR3.eq_1, dForN, dForKeys, dForItems, dLock, lkE, dBack, kNm_f, kNm_t, nmK_f, nmK_lst, nmK_dK, nmK_dT, isDct_dK, isDct_dT, isDct_fK, isDct_fT, sGetO_K, sGetO_S, sGetO_T, sGetO_fK, sGetO_fT, sIn_K, sIn_fK, sIn_T, sIn_fT, sPutC_lst, sPutC_K, sPutC_S, sPutC_T, keyOf_int, keyOf_str, keysC.eq_1, keysC.eq_2, itemsC.eq_1, rs_ref, rs_non, rs_bl, rs_int, rs_str, rs_ty, rs_lst, rs_tup, rs_dK, rs_dT, rs_scr, rs_wD, rs_iD, rs_lwD, resC_lst, resC_dK, resC_dT, resC_fK, resC_fT, resC_ins, updW_same, putFD.eq_1, putFD.eq_2, isL.eq_1, isL.eq_2, sNeg.eq_1, sLen.eq_1, sLen.eq_2, sLen.eq_3, sLen.eq_4, sLen.eq_5, sAbs.eq_1, sMax, sMin, sInt.eq_1, sInt.eq_2, sStr.eq_1, sList.eq_1, sList.eq_2, sList.eq_3, sTuple.eq_1, sTuple.eq_2, sTuple.eq_3, sIsN, sNotN, sIx.eq_1, sIx.eq_2, sIx.eq_3, sIx.eq_4, sIx.eq_5, sIx.eq_6, sIx.eq_7, sIx.eq_8, sIx.eq_9, sSl.eq_1, sSl.eq_2, sSl.eq_3, sSl.eq_4, sRev.eq_1, sRev.eq_2, sRev.eq_3, sAddI.eq_1, sAddI.eq_2, sPut.eq_1, sPut.eq_2, sPut.eq_3, sPut.eq_4, D.isNon, sEq_ii, sNe_ii, sEq_ww, sNe_ww, sEq_ll, sNe_ll, sIsi_ii, sIsi_ib, sIsi_ll, sIsi_tt, sIsi_ss, sEq_w, sEq_i, sEq_lw, sEq_lw', sEq_lle, sEq_lle', sNe_w, sNe_i, sNe_lle', sNe_lw', sEq_ss, sNe_ss, sEq_bb, sNe_bb, sIn_iw, sIn_ii, sIn_wl, sIn_wl', sSl3.eq_1, sSl3.eq_2, dSl3, isS.eq_1, isL.eq_1, isL.eq_2, isA.eq_1, dM0, dM1, sUpper.eq_1, sLower.eq_1, sStrip1.eq_1, sSfind.eq_1, sScount.eq_1, sSindex.eq_1, sSsplit.eq_1, sSjoin.eq_1, sSjoin.eq_2, fPop_snoc, fPop_snoc', startD, wipeD, List.map_cons, List.map_nil, List.length_cons, List.length_nil, List.length_map, List.cons_append, List.nil_append, List.replicate, List.set_cons_zero, List.set_cons_succ, List.set_nil, List.getElem?_cons_zero, List.getElem?_cons_succ, Bool.true_and, Bool.and_true, Bool.and_false, Bool.false_and, Bool.not_true, Bool.not_false, if_true, if_false, Bool.false_eq_true, reduceIte, and_true, true_and, decide_true, decide_false, not_true, Option.map_none, Option.map_some, Option.getD_none, Option.getD_some, Option.isSome_none, Option.isSome_some, Nat.zero_le, Nat.zero_add, Nat.reduceAdd, Nat.reduceSub, D.scal, Option.some.injEq, exists_eq_left', exists_eq_left, exists_eq', D.int.injEq, D.lst.injEq, D.tup.injEq, D.scr.injEq, D.str.injEq, List.cons.injEq, and_self]
  refine ⟨o.p, _, _, rfl, R.ins, rmF_made .., o.S.el.length, rfl, ?_⟩
  try simp -implicitDefEqProofs only [not_true, dNext, dSet, dLst, dTup, dNil, dCons, dFor, dRng1_u, dRng2_u, dIt_u, oX, dC, dBin, dUn, dVarR, dVar, dApp, dExt, dUpd0, dPut, dAug, dRet, dRetV, dRetN, dBreak, dCont, dIf, dB_u, dTru_u, dTNot, dTAnd, dTOr, dAndV_u, dOrV_u, dNotV_u, dIfX, dChain_u, dCall, dSl, dNoP, dP_u, dLc, dDrop, dFrz, frzD, dAsg, dDicK, dDicT, gN, gT, gsC, gsN, kB.eq_1, kT.eq_1, kT.eq_2, kT.eq_3, kT.eq_4, kT.eq_5, kT.eq_6, kT.eq_7, kT.eq_8, kAnd.eq_1, kOr.eq_1, kNot.eq_1, kIt.eq_1, kIt.eq_2, kIt.eq_3, kIt.eq_4, kP.eq_1, kR1.eq_1, kR2.eq_1, sAdd.eq_1, sAdd.eq_2, sAdd.eq_3, sAdd.eq_4, sJ2.eq_1, sI2.eq_1, sPow, sLt.eq_1, sLt.eq_2, sLe, sGt, sGe, sMul.eq_1, sMul.eq_2, sMulB.eq_1, sMulB.eq_2, sMulB.eq_3, sLR1.eq_1, sLR2.eq_1, sTR1.eq_1, sTR2.eq_1, sIsBl.eq_1, dZip, kZip.eq_1, dDisp1, dSetN, dConsN, dAppN, dPutN, dFld, dFldS, dFldAug, dMeth, dMake, dGet1, dGet2, dDPop, dLPop, dLPopAt, dLClear, dEnum, kEnum.eq_1, dRng3, kR3.eq_1, dForN, dForKeys, dForItems, dLock, lkE, dBack, kNm_f, kNm_t, nmK_f, nmK_lst, nmK_dK, nmK_dT, isDct_dK, isDct_dT, isDct_fK, isDct_fT, sGetO_K, sGetO_S, sGetO_T, sGetO_fK, sGetO_fT, sIn_K, sIn_fK, sIn_T, sIn_fT, sPutC_lst, sPutC_K, sPutC_S, sPutC_T, keyOf_int, keyOf_str, keysC.eq_1, keysC.eq_2, itemsC.eq_1, rs_ref, rs_non, rs_bl, rs_int, rs_str, rs_ty, rs_lst, rs_tup, rs_dK, rs_dT, rs_scr, rs_wD, rs_iD, rs_lwD, resC_lst, resC_dK, resC_dT, resC_fK, resC_fT, resC_ins, updW_same, putFD.eq_1, putFD.eq_2, isL.eq_1, isL.eq_2, sNeg.eq_1, sLen.eq_1, sLen.eq_2, sLen.eq_3, sLen.eq_4, sLen.eq_5, sAbs.eq_1, sMax, sMin, sInt.eq_1, sInt.eq_2, sStr.eq_1, sList.eq_1, sList.eq_2, sList.eq_3, sTuple.eq_1, sTuple.eq_2, sTuple.eq_3, sIsN, sNotN, sIx.eq_1, sIx.eq_2, sIx.eq_3, sIx.eq_4, sIx.eq_5, sIx.eq_6, sIx.eq_7, sIx.eq_8, sIx.eq_9, sSl.eq_1, sSl.eq_2, sSl.eq_3, sSl.eq_4, sRev.eq_1, sRev.eq_2, sRev.eq_3, sAddI.eq_1, sAddI.eq_2, sPut.eq_1, sPut.eq_2, sPut.eq_3, sPut.eq_4, D.isNon, sEq_ii, sNe_ii, sEq_ww, sNe_ww, sEq_ll, sNe_ll, sIsi_ii, sIsi_ib, sIsi_ll, sIsi_tt, sIsi_ss, sEq_w, sEq_i, sEq_lw, sEq_lw', sEq_lle, sEq_lle', sNe_w, sNe_i, sNe_lle', sNe_lw', sEq_ss, sNe_ss, sEq_bb, sNe_bb, sIn_iw, sIn_ii, sIn_wl, sIn_wl', sSl3.eq_1, sSl3.eq_2, dSl3, isS.eq_1, isL.eq_1, isL.eq_2, isA.eq_1, dM0, dM1, sUpper.eq_1, sLower.eq_1, sStrip1.eq_1, sSfind.eq_1, sScount.eq_1, sSindex.eq_1, sSsplit.eq_1, sSjoin.eq_1, sSjoin.eq_2, fPop_snoc, fPop_snoc', startD, wipeD, List.map_cons, List.map_nil, List.length_cons, List.length_nil, List.length_map, List.cons_append, List.nil_append, List.replicate, List.set_cons_zero, List.set_cons_succ, List.set_nil, List.getElem?_cons_zero, List.getElem?_cons_succ, Bool.true_and, Bool.and_true, Bool.and_false, Bool.false_and, Bool.not_true, Bool.not_false, if_true, if_false, Bool.false_eq_true, reduceIte, and_true, true_and, decide_true, decide_false, not_true, Option.map_none, Option.map_some, Option.getD_none, Option.getD_some, Option.isSome_none, Option.isSome_some, Nat.zero_le, Nat.zero_add, Nat.reduceAdd, Nat.reduceSub, D.scal, Option.some.injEq, exists_eq_left', exists_eq_left, exists_eq', D.int.injEq, D.lst.injEq, D.tup.injEq, D.scr.injEq, D.str.injEq, List.cons.injEq, and_self]
  refine ⟨o.p, _, _, rfl, R.ins, rmF_made .., ?_⟩
  try simp -implicitDefEqProofs only [k.hl, not_true, dNext, dSet, dLst, dTup, dNil, dCons, dFor, dRng1_u, dRng2_u, dIt_u, oX, dC, dBin, dUn, dVarR, dVar, dApp, dExt, dUpd0, dPut, dAug, dRet, dRetV, dRetN, dBreak, dCont, dIf, dB_u, dTru_u, dTNot, dTAnd, dTOr, dAndV_u, dOrV_u, dNotV_u, dIfX, dChain_u, dCall, dSl, dNoP, dP_u, dLc, dDrop, dFrz, frzD, dAsg, dDicK, dDicT, gN, gT, gsC, gsN, kB.eq_1, kT.eq_1, kT.eq_2, kT.eq_3, kT.eq_4, kT.eq_5, kT.eq_6, kT.eq_7, kT.eq_8, kAnd.eq_1, kOr.eq_1, kNot.eq_1, kIt.eq_1, kIt.eq_2, kIt.eq_3, kIt.eq_4, kP.eq_1, kR1.eq_1, kR2.eq_1, sAdd.eq_1, sAdd.eq_2, sAdd.eq_3, sAdd.eq_4, sJ2.eq_1, sI2.eq_1, sPow, sLt.eq_1, sLt.eq_2, sLe, sGt, sGe, sMul.eq_1, sMul.eq_2, sMulB.eq_1, sMulB.eq_2, sMulB.eq_3, sLR1.eq_1, sLR2.eq_1, sTR1.eq_1, sTR2.eq_1, sIsBl.eq_1, dZip, kZip.eq_1, dDisp1, dSetN, dConsN, dAppN, dPutN, dFld, dFldS, dFldAug, dMeth, dMake, dGet1, dGet2, dDPop, dLPop, dLPopAt, dLClear, dEnum, kEnum.eq_1, dRng3, kR3.eq_1, dForN, dForKeys, dForItems, dLock, lkE, dBack, kNm_f, kNm_t, nmK_f, nmK_lst, nmK_dK, nmK_dT, isDct_dK, isDct_dT, isDct_fK, isDct_fT, sGetO_K, sGetO_S, sGetO_T, sGetO_fK, sGetO_fT, sIn_K, sIn_fK, sIn_T, sIn_fT, sPutC_lst, sPutC_K, sPutC_S, sPutC_T, keyOf_int, keyOf_str, keysC.eq_1, keysC.eq_2, itemsC.eq_1, rs_ref, rs_non, rs_bl, rs_int, rs_str, rs_ty, rs_lst, rs_tup, rs_dK, rs_dT, rs_scr, rs_wD, rs_iD, rs_lwD, resC_lst, resC_dK, resC_dT, resC_fK, resC_fT, resC_ins, updW_same, putFD.eq_1, putFD.eq_2, isL.eq_1, isL.eq_2, sNeg.eq_1, sLen.eq_1, sLen.eq_2, sLen.eq_3, sLen.eq_4, sLen.eq_5, sAbs.eq_1, sMax, sMin, sInt.eq_1, sInt.eq_2, sStr.eq_1, sList.eq_1, sList.eq_2, sList.eq_3, sTuple.eq_1, sTuple.eq_2, sTuple.eq_3, sIsN, sNotN, sIx.eq_1, sIx.eq_2, sIx.eq_3, sIx.eq_4, sIx.eq_5, sIx.eq_6, sIx.eq_7, sIx.eq_8, sIx.eq_9, sSl.eq_1, sSl.eq_2, sSl.eq_3, sSl.eq_4, sRev.eq_1, sRev.eq_2, sRev.eq_3, sAddI.eq_1, sAddI.eq_2, sPut.eq_1, sPut.eq_2, sPut.eq_3, sPut.eq_4, D.isNon, sEq_ii, sNe_ii, sEq_ww, sNe_ww, sEq_ll, sNe_ll, sIsi_ii, sIsi_ib, sIsi_ll, sIsi_tt, sIsi_ss, sEq_w, sEq_i, sEq_lw, sEq_lw', sEq_lle, sEq_lle', sNe_w, sNe_i, sNe_lle', sNe_lw', sEq_ss, sNe_ss, sEq_bb, sNe_bb, sIn_iw, sIn_ii, sIn_wl, sIn_wl', sSl3.eq_1, sSl3.eq_2, dSl3, isS.eq_1, isL.eq_1, isL.eq_2, isA.eq_1, dM0, dM1, sUpper.eq_1, sLower.eq_1, sStrip1.eq_1, sSfind.eq_1, sScount.eq_1, sSindex.eq_1, sSsplit.eq_1, sSjoin.eq_1, sSjoin.eq_2, fPop_snoc, fPop_snoc', startD, wipeD, List.map_cons, List.map_nil, List.length_cons, List.length_nil, List.length_map, List.cons_append, List.nil_append, List.replicate, List.set_cons_zero, List.set_cons_succ, List.set_nil, List.getElem?_cons_zero, List.getElem?_cons_succ, Bool.true_and, Bool.and_true, Bool.and_false, Bool.false_and, Bool.not_true, Bool.not_false, if_true, if_false, Bool.false_eq_true, reduceIte, and_true, true_and, decide_true, decide_false, not_true, Option.map_none, Option.map_some, Option.getD_none, Option.getD_some, Option.isSome_none, Option.isSome_some, Nat.zero_le, Nat.zero_add, Nat.reduceAdd, Nat.reduceSub, D.scal, Option.some.injEq, exists_eq_left', exists_eq_left, exists_eq', D.int.injEq, D.lst.injEq, D.tup.injEq, D.scr.injEq, D.str.injEq, List.cons.injEq, and_self]
  refine if_f (by simp; omega) ?_
  refine ⟨o.p, _, _, rfl, R.ins, rmF_letters .., ?_⟩
  try simp -implicitDefEqProofs only [k.sl, not_true, dNext, dSet, dLst, dTup, dNil, dCons, dFor, dRng1_u, dRng2_u, dIt_u, oX, dC, dBin, dUn, dVarR, dVar, dApp, dExt, dUpd0, dPut, dAug, dRet, dRetV, dRetN, dBreak, dCont, dIf, dB_u, dTru_u, dTNot, dTAnd, dTOr, dAndV_u, dOrV_u, dNotV_u, dIfX, dChain_u, dCall, dSl, dNoP, dP_u, dLc, dDrop, dFrz, frzD, dAsg, dDicK, dDicT, gN, gT, gsC, gsN, kB.eq_1, kT.eq_1, kT.eq_2, kT.eq_3, kT.eq_4, kT.eq_5, kT.eq_6, kT.eq_7, kT.eq_8, kAnd.eq_1, kOr.eq_1, kNot.eq_1, kIt.eq_1, kIt.eq_2, kIt.eq_3, kIt.eq_4, kP.eq_1, kR1.eq_1, kR2.eq_1, sAdd.eq_1, sAdd.eq_2, sAdd.eq_3, sAdd.eq_4, sJ2.eq_1, sI2.eq_1, sPow, sLt.eq_1, sLt.eq_2, sLe, sGt, sGe, sMul.eq_1, sMul.eq_2, sMulB.eq_1, sMulB.eq_2, sMulB.eq_3, sLR1.eq_1, sLR2.eq_1, sTR1.eq_1, sTR2.eq_1, sIsBl.eq_1, dZip, kZip.eq_1, dDisp1, dSetN, dConsN, dAppN, dPutN, dFld, dFldS, dFldAug, dMeth, dMake, dGet1, dGet2, dDPop, dLPop, dLPopAt, dLClear, dEnum, kEnum.eq_1, dRng3, kR3.eq_1, dForN, dForKeys, dForItems, dLock, lkE, dBack, kNm_f, kNm_t, nmK_f, nmK_lst, nmK_dK, nmK_dT, isDct_dK, isDct_dT, isDct_fK, isDct_fT, sGetO_K, sGetO_S, sGetO_T, sGetO_fK, sGetO_fT, sIn_K, sIn_fK, sIn_T, sIn_fT, sPutC_lst, sPutC_K, sPutC_S, sPutC_T, keyOf_int, keyOf_str, keysC.eq_1, keysC.eq_2, itemsC.eq_1, rs_ref, rs_non, rs_bl, rs_int, rs_str, rs_ty, rs_lst, rs_tup, rs_dK, rs_dT, rs_scr, rs_wD, rs_iD, rs_lwD, resC_lst, resC_dK, resC_dT, resC_fK, resC_fT, resC_ins, updW_same, putFD.eq_1, putFD.eq_2, isL.eq_1, isL.eq_2, sNeg.eq_1, sLen.eq_1, sLen.eq_2, sLen.eq_3, sLen.eq_4, sLen.eq_5, sAbs.eq_1, sMax, sMin, sInt.eq_1, sInt.eq_2, sStr.eq_1, sList.eq_1, sList.eq_2, sList.eq_3, sTuple.eq_1, sTuple.eq_2, sTuple.eq_3, sIsN, sNotN, sIx.eq_1, sIx.eq_2, sIx.eq_3, sIx.eq_4, sIx.eq_5, sIx.eq_6, sIx.eq_7, sIx.eq_8, sIx.eq_9, sSl.eq_1, sSl.eq_2, sSl.eq_3, sSl.eq_4, sRev.eq_1, sRev.eq_2, sRev.eq_3, sAddI.eq_1, sAddI.eq_2, sPut.eq_1, sPut.eq_2, sPut.eq_3, sPut.eq_4, D.isNon, sEq_ii, sNe_ii, sEq_ww, sNe_ww, sEq_ll, sNe_ll, sIsi_ii, sIsi_ib, sIsi_ll, sIsi_tt, sIsi_ss, sEq_w, sEq_i, sEq_lw, sEq_lw', sEq_lle, sEq_lle', sNe_w, sNe_i, sNe_lle', sNe_lw', sEq_ss, sNe_ss, sEq_bb, sNe_bb, sIn_iw, sIn_ii, sIn_wl, sIn_wl', sSl3.eq_1, sSl3.eq_2, dSl3, isS.eq_1, isL.eq_1, isL.eq_2, isA.eq_1, dM0, dM1, sUpper.eq_1, sLower.eq_1, sStrip1.eq_1, sSfind.eq_1, sScount.eq_1, sSindex.eq_1, sSsplit.eq_1, sSjoin.eq_1, sSjoin.eq_2, fPop_snoc, fPop_snoc', startD, wipeD, List.map_cons, List.map_nil, List.length_cons, List.length_nil, List.length_map, List.cons_append, List.nil_append, List.replicate, List.set_cons_zero, List.set_cons_succ, List.set_nil, List.getElem?_cons_zero, List.getElem?_cons_succ, Bool.true_and, Bool.and_true, Bool.and_false, Bool.false_and, Bool.not_true, Bool.not_false, if_true, if_false, Bool.false_eq_true, reduceIte, and_true, true_and, decide_true, decide_false, not_true, Option.map_none, Option.map_some, Option.getD_none, Option.getD_some, Option.isSome_none, Option.isSome_some, Nat.zero_le, Nat.zero_add, Nat.reduceAdd, Nat.reduceSub, D.scal, Option.some.injEq, exists_eq_left', exists_eq_left, exists_eq', D.int.injEq, D.lst.injEq, D.tup.injEq, D.scr.injEq, D.str.injEq, List.cons.injEq, and_self]
  refine seq_i ?_
  try simp -implicitDefEqProofs only [not_true, dNext, dSet, dLst, dTup, dNil, dCons, dFor, dRng1_u, dRng2_u, dIt_u, oX, dC, dBin, dUn, dVarR, dVar, dApp, dExt, dUpd0, dPut, dAug, dRet, dRetV, dRetN, dBreak, dCont, dIf, dB_u, dTru_u, dTNot, dTAnd, dTOr, dAndV_u, dOrV_u, dNotV_u, dIfX, dChain_u, dCall, dSl, dNoP, dP_u, dLc, dDrop, dFrz, frzD, dAsg, dDicK, dDicT, gN, gT, gsC, gsN, kB.eq_1, kT.eq_1, kT.eq_2, kT.eq_3, kT.eq_4, kT.eq_5, kT.eq_6, kT.eq_7, kT.eq_8, kAnd.eq_1, kOr.eq_1, kNot.eq_1, kIt.eq_1, kIt.eq_2, kIt.eq_3, kIt.eq_4, kP.eq_1, kR1.eq_1, kR2.eq_1, sAdd.eq_1, sAdd.eq_2, sAdd.eq_3, sAdd.eq_4, sJ2.eq_1, sI2.eq_1, sPow, sLt.eq_1, sLt.eq_2, sLe, sGt, sGe, sMul.eq_1, sMul.eq_2, sMulB.eq_1, sMulB.eq_2, sMulB.eq_3, sLR1.eq_1, sLR2.eq_1, sTR1.eq_1, sTR2.eq_1, sIsBl.eq_1, dZip, kZip.eq_1, dDisp1, dSetN, dConsN, dAppN, dPutN, dFld, dFldS, dFldAug, dMeth, dMake, dGet1, dGet2, dDPop, dLPop, dLPopAt, dLClear, dEnum, kEnum.eq_1, dRng3, kR3.eq_1, dForN, dForKeys, dForItems, dLock, lkE, dBack, kNm_f, kNm_t, nmK_f, nmK_lst, nmK_dK, nmK_dT, isDct_dK, isDct_dT, isDct_fK, isDct_fT, sGetO_K, sGetO_S, sGetO_T, sGetO_fK, sGetO_fT, sIn_K, sIn_fK, sIn_T, sIn_fT, sPutC_lst, sPutC_K, sPutC_S, sPutC_T, keyOf_int, keyOf_str, keysC.eq_1, keysC.eq_2, itemsC.eq_1, rs_ref, rs_non, rs_bl, rs_int, rs_str, rs_ty, rs_lst, rs_tup, rs_dK, rs_dT, rs_scr, rs_wD, rs_iD, rs_lwD, resC_lst, resC_dK, resC_dT, resC_fK, resC_fT, resC_ins, updW_same, putFD.eq_1, putFD.eq_2, isL.eq_1, isL.eq_2, sNeg.eq_1, sLen.eq_1, sLen.eq_2, sLen.eq_3, sLen.eq_4, sLen.eq_5, sAbs.eq_1, sMax, sMin, sInt.eq_1, sInt.eq_2, sStr.eq_1, sList.eq_1, sList.eq_2, sList.eq_3, sTuple.eq_1, sTuple.eq_2, sTuple.eq_3, sIsN, sNotN, sIx.eq_1, sIx.eq_2, sIx.eq_3, sIx.eq_4, sIx.eq_5, sIx.eq_6, sIx.eq_7, sIx.eq_8, sIx.eq_9, sSl.eq_1, sSl.eq_2, sSl.eq_3, sSl.eq_4, sRev.eq_1, sRev.eq_2, sRev.eq_3, sAddI.eq_1, sAddI.eq_2, sPut.eq_1, sPut.eq_2, sPut.eq_3, sPut.eq_4, D.isNon, sEq_ii, sNe_ii, sEq_ww, sNe_ww, sEq_ll, sNe_ll, sIsi_ii, sIsi_ib, sIsi_ll, sIsi_tt, sIsi_ss, sEq_w, sEq_i, sEq_lw, sEq_lw', sEq_lle, sEq_lle', sNe_w, sNe_i, sNe_lle', sNe_lw', sEq_ss, sNe_ss, sEq_bb, sNe_bb, sIn_iw, sIn_ii, sIn_wl, sIn_wl', sSl3.eq_1, sSl3.eq_2, dSl3, isS.eq_1, isL.eq_1, isL.eq_2, isA.eq_1, dM0, dM1, sUpper.eq_1, sLower.eq_1, sStrip1.eq_1, sSfind.eq_1, sScount.eq_1, sSindex.eq_1, sSsplit.eq_1, sSjoin.eq_1, sSjoin.eq_2, fPop_snoc, fPop_snoc', startD, wipeD, List.map_cons, List.map_nil, List.length_cons, List.length_nil, List.length_map, List.cons_append, List.nil_append, List.replicate, List.set_cons_zero, List.set_cons_succ, List.set_nil, List.getElem?_cons_zero, List.getElem?_cons_succ, Bool.true_and, Bool.and_true, Bool.and_false, Bool.false_and, Bool.not_true, Bool.not_false, if_true, if_false, Bool.false_eq_true, reduceIte, and_true, true_and, decide_true, decide_false, not_true, Option.map_none, Option.map_some, Option.getD_none, Option.getD_some, Option.isSome_none, Option.isSome_some, Nat.zero_le, Nat.zero_add, Nat.reduceAdd, Nat.reduceSub, D.scal, Option.some.injEq, exists_eq_left', exists_eq_left, exists_eq', D.int.injEq, D.lst.injEq, D.tup.injEq, D.scr.injEq, D.str.injEq, List.cons.injEq, and_self]
  refine ⟨o.p, _, rfl, R.ins, no_paper .., o.p, o.r, o.S, rfl, R, o.rs, .ref o.lc, by rw [k.td], by rw [rs_ref, k.hl]; rfl, ?_⟩
  try simp -implicitDefEqProofs only [not_true, dNext, dSet, dLst, dTup, dNil, dCons, dFor, dRng1_u, dRng2_u, dIt_u, oX, dC, dBin, dUn, dVarR, dVar, dApp, dExt, dUpd0, dPut, dAug, dRet, dRetV, dRetN, dBreak, dCont, dIf, dB_u, dTru_u, dTNot, dTAnd, dTOr, dAndV_u, dOrV_u, dNotV_u, dIfX, dChain_u, dCall, dSl, dNoP, dP_u, dLc, dDrop, dFrz, frzD, dAsg, dDicK, dDicT, gN, gT, gsC, gsN, kB.eq_1, kT.eq_1, kT.eq_2, kT.eq_3, kT.eq_4, kT.eq_5, kT.eq_6, kT.eq_7, kT.eq_8, kAnd.eq_1, kOr.eq_1, kNot.eq_1, kIt.eq_1, kIt.eq_2, kIt.eq_3, kIt.eq_4, kP.eq_1, kR1.eq_1, kR2.eq_1, sAdd.eq_1, sAdd.eq_2, sAdd.eq_3, sAdd.eq_4, sJ2.eq_1, sI2.eq_1, sPow, sLt.eq_1, sLt.eq_2, sLe, sGt, sGe, sMul.eq_1, sMul.eq_2, sMulB.eq_1, sMulB.eq_2, sMulB.eq_3, sLR1.eq_1, sLR2.eq_1, sTR1.eq_1, sTR2.eq_1, sIsBl.eq_1, dZip, kZip.eq_1, dDisp1, dSetN, dConsN, dAppN, dPutN, dFld, dFldS, dFldAug, dMeth, dMake, dGet1, dGet2, dDPop, dLPop, dLPopAt, dLClear, dEnum, kEnum.eq_1, dRng3, kR3.eq_1, dForN, dForKeys, dForItems, dLock, lkE, dBack, kNm_f, kNm_t, nmK_f, nmK_lst, nmK_dK, nmK_dT, isDct_dK, isDct_dT, isDct_fK, isDct_fT, sGetO_K, sGetO_S, sGetO_T, sGetO_fK, sGetO_fT, sIn_K, sIn_fK, sIn_T, sIn_fT, sPutC_lst, sPutC_K, sPutC_S, sPutC_T, keyOf_int, keyOf_str, keysC.eq_1, keysC.eq_2, itemsC.eq_1, rs_ref, rs_non, rs_bl, rs_int, rs_str, rs_ty, rs_lst, rs_tup, rs_dK, rs_dT, rs_scr, rs_wD, rs_iD, rs_lwD, resC_lst, resC_dK, resC_dT, resC_fK, resC_fT, resC_ins, updW_same, putFD.eq_1, putFD.eq_2, isL.eq_1, isL.eq_2, sNeg.eq_1, sLen.eq_1, sLen.eq_2, sLen.eq_3, sLen.eq_4, sLen.eq_5, sAbs.eq_1, sMax, sMin, sInt.eq_1, sInt.eq_2, sStr.eq_1, sList.eq_1, sList.eq_2, sList.eq_3, sTuple.eq_1, sTuple.eq_2, sTuple.eq_3, sIsN, sNotN, sIx.eq_1, sIx.eq_2, sIx.eq_3, sIx.eq_4, sIx.eq_5, sIx.eq_6, sIx.eq_7, sIx.eq_8, sIx.eq_9, sSl.eq_1, sSl.eq_2, sSl.eq_3, sSl.eq_4, sRev.eq_1, sRev.eq_2, sRev.eq_3, sAddI.eq_1, sAddI.eq_2, sPut.eq_1, sPut.eq_2, sPut.eq_3, sPut.eq_4, D.isNon, sEq_ii, sNe_ii, sEq_ww, sNe_ww, sEq_ll, sNe_ll, sIsi_ii, sIsi_ib, sIsi_ll, sIsi_tt, sIsi_ss, sEq_w, sEq_i, sEq_lw, sEq_lw', sEq_lle, sEq_lle', sNe_w, sNe_i, sNe_lle', sNe_lw', sEq_ss, sNe_ss, sEq_bb, sNe_bb, sIn_iw, sIn_ii, sIn_wl, sIn_wl', sSl3.eq_1, sSl3.eq_2, dSl3, isS.eq_1, isL.eq_1, isL.eq_2, isA.eq_1, dM0, dM1, sUpper.eq_1, sLower.eq_1, sStrip1.eq_1, sSfind.eq_1, sScount.eq_1, sSindex.eq_1, sSsplit.eq_1, sSjoin.eq_1, sSjoin.eq_2, fPop_snoc, fPop_snoc', startD, wipeD, List.map_cons, List.map_nil, List.length_cons, List.length_nil, List.length_map, List.cons_append, List.nil_append, List.replicate, List.set_cons_zero, List.set_cons_succ, List.set_nil, List.getElem?_cons_zero, List.getElem?_cons_succ, Bool.true_and, Bool.and_true, Bool.and_false, Bool.false_and, Bool.not_true, Bool.not_false, if_true, if_false, Bool.false_eq_true, reduceIte, and_true, true_and, decide_true, decide_false, not_true, Option.map_none, Option.map_some, Option.getD_none, Option.getD_some, Option.isSome_none, Option.isSome_some, Nat.zero_le, Nat.zero_add, Nat.reduceAdd, Nat.reduceSub, D.scal, Option.some.injEq, exists_eq_left', exists_eq_left, exists_eq', D.int.injEq, D.lst.injEq, D.tup.injEq, D.scr.injEq, D.str.injEq, List.cons.injEq, and_self]
  refine seq_i ?_
  try simp -implicitDefEqProofs only [dNext, dSet, dLst, dTup, dNil, dCons, dFor, dRng1_u, dRng2_u, dIt_u, oX, dC, dBin, dUn, dVarR, dVar, dApp, dExt, dUpd0, dPut, dAug, dRet, dRetV, dRetN, dBreak, dCont, dIf, dB_u, dTru_u, dTNot, dTAnd, dTOr, dAndV_u, dOrV_u, dNotV_u, dIfX, dChain_u, dCall, dSl, dNoP, dP_u, dLc, dDrop, dFrz, frzD, dAsg, dDicK, dDicT, gN, gT, gsC, gsN, kB.eq_1, kT.eq_1, kT.eq_2, kT.eq_3, kT.eq_4, kT.eq_5, kT.eq_6, kT.eq_7, kT.eq_8, kAnd.eq_1, kOr.eq_1, kNot.eq_1, kIt.eq_1, kIt.eq_2, kIt.eq_3, kIt.eq_4, kP.eq_1, kR1.eq_1, kR2.eq_1, sAdd.eq_1, sAdd.eq_2, sAdd.eq_3, sAdd.eq_4, sJ2.eq_1, sI2.eq_1, sPow, sLt.eq_1, sLt.eq_2, sLe, sGt, sGe, sMul.eq_1, sMul.eq_2, sMulB.eq_1, sMulB.eq_2, sMulB.eq_3, sLR1.eq_1, sLR2.eq_1, sTR1.eq_1, sTR2.eq_1, sIsBl.eq_1, dZip, kZip.eq_1, dDisp1, dSetN, dConsN, dAppN, dPutN, dFld, dFldS, dFldAug, dMeth, dMake, dGet1, dGet2, dDPop, dLPop, dLPopAt, dLClear, dEnum, kEnum.eq_1, dRng3, kR3.eq_1, dForN, dForKeys, dForItems, dLock, lkE, dBack, kNm_f, kNm_t, nmK_f, nmK_lst, nmK_dK, nmK_dT, isDct_dK, isDct_dT, isDct_fK, isDct_fT, sGetO_K, sGetO_S, sGetO_T, sGetO_fK, sGetO_fT, sIn_K, sIn_fK, sIn_T, sIn_fT, sPutC_lst, sPutC_K, sPutC_S, sPutC_T, keyOf_int, keyOf_str, keysC.eq_1, keysC.eq_2, itemsC.eq_1, rs_ref, rs_non, rs_bl, rs_int, rs_str, rs_ty, rs_lst, rs_tup, rs_dK, rs_dT, rs_scr, rs_wD, rs_iD, rs_lwD, resC_lst, resC_dK, resC_dT, resC_fK, resC_fT, resC_ins, updW_same, putFD.eq_1, putFD.eq_2, isL.eq_1, isL.eq_2, sNeg.eq_1, sLen.eq_1, sLen.eq_2, sLen.eq_3, sLen.eq_4, sLen.eq_5, sAbs.eq_1, sMax, sMin, sInt.eq_1, sInt.eq_2, sStr.eq_1, sList.eq_1, sList.eq_2, sList.eq_3, sTuple.eq_1, sTuple.eq_2, sTuple.eq_3, sIsN, sNotN, sIx.eq_1, sIx.eq_2, sIx.eq_3, sIx.eq_4, sIx.eq_5, sIx.eq_6, sIx.eq_7, sIx.eq_8, sIx.eq_9, sSl.eq_1, sSl.eq_2, sSl.eq_3, sSl.eq_4, sRev.eq_1, sRev.eq_2, sRev.eq_3, sAddI.eq_1, sAddI.eq_2, sPut.eq_1, sPut.eq_2, sPut.eq_3, sPut.eq_4, D.isNon, sEq_ii, sNe_ii, sEq_ww, sNe_ww, sEq_ll, sNe_ll, sIsi_ii, sIsi_ib, sIsi_ll, sIsi_tt, sIsi_ss, sEq_w, sEq_i, sEq_lw, sEq_lw', sEq_lle, sEq_lle', sNe_w, sNe_i, sNe_lle', sNe_lw', sEq_ss, sNe_ss, sEq_bb, sNe_bb, sIn_iw, sIn_ii, sIn_wl, sIn_wl', sSl3.eq_1, sSl3.eq_2, dSl3, isS.eq_1, isL.eq_1, isL.eq_2, isA.eq_1, dM0, dM1, sUpper.eq_1, sLower.eq_1, sStrip1.eq_1, sSfind.eq_1, sScount.eq_1, sSindex.eq_1, sSsplit.eq_1, sSjoin.eq_1, sSjoin.eq_2, fPop_snoc, fPop_snoc', startD, wipeD, List.map_cons, List.map_nil, List.length_cons, List.length_nil, List.length_map, List.cons_append, List.nil_append, List.replicate, List.set_cons_zero, List.set_cons_succ, List.set_nil, List.getElem?_cons_zero, List.getElem?_cons_succ, Bool.true_and, Bool.and_true, Bool.and_false, Bool.false_and, Bool.not_true, Bool.not_false, if_true, if_false, Bool.false_eq_true, reduceIte, and_true, true_and, decide_true, decide_false, not_true, Option.map_none, Option.map_some, Option.getD_none, Option.getD_some, Option.isSome_none, Option.isSome_some, Nat.zero_le, Nat.zero_add, Nat.reduceAdd, Nat.reduceSub, D.scal, Option.some.injEq, exists_eq_left', exists_eq_left, exists_eq', D.int.injEq, D.lst.injEq, D.tup.injEq, D.scr.injEq, D.str.injEq, List.cons.injEq, and_self]
  refine ⟨o.p, _, rfl, R.ins, no_standing .., o.p, o.r, o.S, rfl, R, by omega, ?_⟩
  rw [k.el, stands_rng]
  refine seq_i ?_
  try simp -implicitDefEqProofs only [nL, not_true, k.hl, dNext, dSet, dLst, dTup, dNil, dCons, dFor, dRng1_u, dRng2_u, dIt_u, oX, dC, dBin, dUn, dVarR, dVar, dApp, dExt, dUpd0, dPut, dAug, dRet, dRetV, dRetN, dBreak, dCont, dIf, dB_u, dTru_u, dTNot, dTAnd, dTOr, dAndV_u, dOrV_u, dNotV_u, dIfX, dChain_u, dCall, dSl, dNoP, dP_u, dLc, dDrop, dFrz, frzD, dAsg, dDicK, dDicT, gN, gT, gsC, gsN, kB.eq_1, kT.eq_1, kT.eq_2, kT.eq_3, kT.eq_4, kT.eq_5, kT.eq_6, kT.eq_7, kT.eq_8, kAnd.eq_1, kOr.eq_1, kNot.eq_1, kIt.eq_1, kIt.eq_2, kIt.eq_3, kIt.eq_4, kP.eq_1, kR1.eq_1, kR2.eq_1, sAdd.eq_1, sAdd.eq_2, sAdd.eq_3, sAdd.eq_4, sJ2.eq_1, sI2.eq_1, sPow, sLt.eq_1, sLt.eq_2, sLe, sGt, sGe, sMul.eq_1, sMul.eq_2, sMulB.eq_1, sMulB.eq_2, sMulB.eq_3, sLR1.eq_1, sLR2.eq_1, sTR1.eq_1, sTR2.eq_1, sIsBl.eq_1, dZip, kZip.eq_1, dDisp1, dSetN, dConsN, dAppN, dPutN, dFld, dFldS, dFldAug, dMeth, dMake, dGet1, dGet2, dDPop, dLPop, dLPopAt, dLClear, dEnum, kEnum.eq_1, dRng3, kR3.eq_1, dForN, dForKeys, dForItems, dLock, lkE, dBack, kNm_f, kNm_t, nmK_f, nmK_lst, nmK_dK, nmK_dT, isDct_dK, isDct_dT, isDct_fK, isDct_fT, sGetO_K, sGetO_S, sGetO_T, sGetO_fK, sGetO_fT, sIn_K, sIn_fK, sIn_T, sIn_fT, sPutC_lst, sPutC_K, sPutC_S, sPutC_T, keyOf_int, keyOf_str, keysC.eq_1, keysC.eq_2, itemsC.eq_1, rs_ref, rs_non, rs_bl, rs_int, rs_str, rs_ty, rs_lst, rs_tup, rs_dK, rs_dT, rs_scr, rs_wD, rs_iD, rs_lwD, resC_lst, resC_dK, resC_dT, resC_fK, resC_fT, resC_ins, updW_same, putFD.eq_1, putFD.eq_2, isL.eq_1, isL.eq_2, sNeg.eq_1, sLen.eq_1, sLen.eq_2, sLen.eq_3, sLen.eq_4, sLen.eq_5, sAbs.eq_1, sMax, sMin, sInt.eq_1, sInt.eq_2, sStr.eq_1, sList.eq_1, sList.eq_2, sList.eq_3, sTuple.eq_1, sTuple.eq_2, sTuple.eq_3, sIsN, sNotN, sIx.eq_1, sIx.eq_2, sIx.eq_3, sIx.eq_4, sIx.eq_5, sIx.eq_6, sIx.eq_7, sIx.eq_8, sIx.eq_9, sSl.eq_1, sSl.eq_2, sSl.eq_3, sSl.eq_4, sRev.eq_1, sRev.eq_2, sRev.eq_3, sAddI.eq_1, sAddI.eq_2, sPut.eq_1, sPut.eq_2, sPut.eq_3, sPut.eq_4, D.isNon, sEq_ii, sNe_ii, sEq_ww, sNe_ww, sEq_ll, sNe_ll, sIsi_ii, sIsi_ib, sIsi_ll, sIsi_tt, sIsi_ss, sEq_w, sEq_i, sEq_lw, sEq_lw', sEq_lle, sEq_lle', sNe_w, sNe_i, sNe_lle', sNe_lw', sEq_ss, sNe_ss, sEq_bb, sNe_bb, sIn_iw, sIn_ii, sIn_wl, sIn_wl', sSl3.eq_1, sSl3.eq_2, dSl3, isS.eq_1, isL.eq_1, isL.eq_2, isA.eq_1, dM0, dM1, sUpper.eq_1, sLower.eq_1, sStrip1.eq_1, sSfind.eq_1, sScount.eq_1, sSindex.eq_1, sSsplit.eq_1, sSjoin.eq_1, sSjoin.eq_2, fPop_snoc, fPop_snoc', startD, wipeD, List.map_cons, List.map_nil, List.length_cons, List.length_nil, List.length_map, List.cons_append, List.nil_append, List.replicate, List.set_cons_zero, List.set_cons_succ, List.set_nil, List.getElem?_cons_zero, List.getElem?_cons_succ, Bool.true_and, Bool.and_true, Bool.and_false, Bool.false_and, Bool.not_true, Bool.not_false, if_true, if_false, Bool.false_eq_true, reduceIte, and_true, true_and, decide_true, decide_false, not_true, Option.map_none, Option.map_some, Option.getD_none, Option.getD_some, Option.isSome_none, Option.isSome_some, Nat.zero_le, Nat.zero_add, Nat.reduceAdd, Nat.reduceSub, D.scal, Option.some.injEq, exists_eq_left', exists_eq_left, exists_eq', D.int.injEq, D.lst.injEq, D.tup.injEq, D.scr.injEq, D.str.injEq, List.cons.injEq, and_self]
  refine ⟨RgOk.of_le (by omega) (by omega) (by omega) (by omega), ?_⟩
  have e1 : ((o.rs.length : Int) + 1) = ((o.rs.length + 1 : Nat) : Int) := by omega
  rw [e1, rng_nat']
  have e2 := fun P => (nL_flat (List.range (o.rs.length + 1))).ne (P := P) (by decide)
  unfold nL at e2
  try simp -implicitDefEqProofs only [e2, dNext, dSet, dLst, dTup, dNil, dCons, dFor, dRng1_u, dRng2_u, dIt_u, oX, dC, dBin, dUn, dVarR, dVar, dApp, dExt, dUpd0, dPut, dAug, dRet, dRetV, dRetN, dBreak, dCont, dIf, dB_u, dTru_u, dTNot, dTAnd, dTOr, dAndV_u, dOrV_u, dNotV_u, dIfX, dChain_u, dCall, dSl, dNoP, dP_u, dLc, dDrop, dFrz, frzD, dAsg, dDicK, dDicT, gN, gT, gsC, gsN, kB.eq_1, kT.eq_1, kT.eq_2, kT.eq_3, kT.eq_4, kT.eq_5, kT.eq_6, kT.eq_7, kT.eq_8, kAnd.eq_1, kOr.eq_1, kNot.eq_1, kIt.eq_1, kIt.eq_2, kIt.eq_3, kIt.eq_4, kP.eq_1, kR1.eq_1, kR2.eq_1, sAdd.eq_1, sAdd.eq_2, sAdd.eq_3, sAdd.eq_4, sJ2.eq_1, sI2.eq_1, sPow, sLt.eq_1, sLt.eq_2, sLe, sGt, sGe, sMul.eq_1, sMul.eq_2, sMulB.eq_1, sMulB.eq_2, sMulB.eq_3, sLR1.eq_1, sLR2.eq_1, sTR1.eq_1, sTR2.eq_1, sIsBl.eq_1, dZip, kZip.eq_1, dDisp1, dSetN, dConsN, dAppN, dPutN, dFld, dFldS, dFldAug, dMeth, dMake, dGet1, dGet2, dDPop, dLPop, dLPopAt, dLClear, dEnum, kEnum.eq_1, dRng3, kR3.eq_1, dForN, dForKeys, dForItems, dLock, lkE, dBack, kNm_f, kNm_t, nmK_f, nmK_lst, nmK_dK, nmK_dT, isDct_dK, isDct_dT, isDct_fK, isDct_fT, sGetO_K, sGetO_S, sGetO_T, sGetO_fK, sGetO_fT, sIn_K, sIn_fK, sIn_T, sIn_fT, sPutC_lst, sPutC_K, sPutC_S, sPutC_T, keyOf_int, keyOf_str, keysC.eq_1, keysC.eq_2, itemsC.eq_1, rs_ref, rs_non, rs_bl, rs_int, rs_str, rs_ty, rs_lst, rs_tup, rs_dK, rs_dT, rs_scr, rs_wD, rs_iD, rs_lwD, resC_lst, resC_dK, resC_dT, resC_fK, resC_fT, resC_ins, updW_same, putFD.eq_1, putFD.eq_2, isL.eq_1, isL.eq_2, sNeg.eq_1, sLen.eq_1, sLen.eq_2, sLen.eq_3, sLen.eq_4, sLen.eq_5, sAbs.eq_1, sMax, sMin, sInt.eq_1, sInt.eq_2, sStr.eq_1, sList.eq_1, sList.eq_2, sList.eq_3, sTuple.eq_1, sTuple.eq_2, sTuple.eq_3, sIsN, sNotN, sIx.eq_1, sIx.eq_2, sIx.eq_3, sIx.eq_4, sIx.eq_5, sIx.eq_6, sIx.eq_7, sIx.eq_8, sIx.eq_9, sSl.eq_1, sSl.eq_2, sSl.eq_3, sSl.eq_4, sRev.eq_1, sRev.eq_2, sRev.eq_3, sAddI.eq_1, sAddI.eq_2, sPut.eq_1, sPut.eq_2, sPut.eq_3, sPut.eq_4, D.isNon, sEq_ii, sNe_ii, sEq_ww, sNe_ww, sEq_ll, sNe_ll, sIsi_ii, sIsi_ib, sIsi_ll, sIsi_tt, sIsi_ss, sEq_w, sEq_i, sEq_lw, sEq_lw', sEq_lle, sEq_lle', sNe_w, sNe_i, sNe_lle', sNe_lw', sEq_ss, sNe_ss, sEq_bb, sNe_bb, sIn_iw, sIn_ii, sIn_wl, sIn_wl', sSl3.eq_1, sSl3.eq_2, dSl3, isS.eq_1, isL.eq_1, isL.eq_2, isA.eq_1, dM0, dM1, sUpper.eq_1, sLower.eq_1, sStrip1.eq_1, sSfind.eq_1, sScount.eq_1, sSindex.eq_1, sSsplit.eq_1, sSjoin.eq_1, sSjoin.eq_2, fPop_snoc, fPop_snoc', startD, wipeD, List.map_cons, List.map_nil, List.length_cons, List.length_nil, List.length_map, List.cons_append, List.nil_append, List.replicate, List.set_cons_zero, List.set_cons_succ, List.set_nil, List.getElem?_cons_zero, List.getElem?_cons_succ, Bool.true_and, Bool.and_true, Bool.and_false, Bool.false_and, Bool.not_true, Bool.not_false, if_true, if_false, Bool.false_eq_true, reduceIte, and_true, true_and, decide_true, decide_false, not_true, Option.map_none, Option.map_some, Option.getD_none, Option.getD_some, Option.isSome_none, Option.isSome_some, Nat.zero_le, Nat.zero_add, Nat.reduceAdd, Nat.reduceSub, D.scal, Option.some.injEq, exists_eq_left', exists_eq_left, exists_eq', D.int.injEq, D.lst.injEq, D.tup.injEq, D.scr.injEq, D.str.injEq, List.cons.injEq, and_self]
  refine seq_cut (fun δ w' => w' = w ∧ ∃ j5 j6, δ = [some (false, .ref o.p), some (false, .int l), some (false, .ref o.d), some (false, .ref o.lc), some (false, nL (List.range (o.rs.length + 1))), j5, j6]) (fun N h => ?_) ?_
  · try simp -implicitDefEqProofs only [k.hl, dNext, dSet, dLst, dTup, dNil, dCons, dFor, dRng1_u, dRng2_u, dIt_u, oX, dC, dBin, dUn, dVarR, dVar, dApp, dExt, dUpd0, dPut, dAug, dRet, dRetV, dRetN, dBreak, dCont, dIf, dB_u, dTru_u, dTNot, dTAnd, dTOr, dAndV_u, dOrV_u, dNotV_u, dIfX, dChain_u, dCall, dSl, dNoP, dP_u, dLc, dDrop, dFrz, frzD, dAsg, dDicK, dDicT, gN, gT, gsC, gsN, kB.eq_1, kT.eq_1, kT.eq_2, kT.eq_3, kT.eq_4, kT.eq_5, kT.eq_6, kT.eq_7, kT.eq_8, kAnd.eq_1, kOr.eq_1, kNot.eq_1, kIt.eq_1, kIt.eq_2, kIt.eq_3, kIt.eq_4, kP.eq_1, kR1.eq_1, kR2.eq_1, sAdd.eq_1, sAdd.eq_2, sAdd.eq_3, sAdd.eq_4, sJ2.eq_1, sI2.eq_1, sPow, sLt.eq_1, sLt.eq_2, sLe, sGt, sGe, sMul.eq_1, sMul.eq_2, sMulB.eq_1, sMulB.eq_2, sMulB.eq_3, sLR1.eq_1, sLR2.eq_1, sTR1.eq_1, sTR2.eq_1, sIsBl.eq_1, dZip, kZip.eq_1, dDisp1, dSetN, dConsN, dAppN, dPutN, dFld, dFldS, dFldAug, dMeth, dMake, dGet1, dGet2, dDPop, dLPop, dLPopAt, dLClear, dEnum, kEnum.eq_1, dRng3, kR3.eq_1, dForN, dForKeys, dForItems, dLock, lkE, dBack, kNm_f, kNm_t, nmK_f, nmK_lst, nmK_dK, nmK_dT, isDct_dK, isDct_dT, isDct_fK, isDct_fT, sGetO_K, sGetO_S, sGetO_T, sGetO_fK, sGetO_fT, sIn_K, sIn_fK, sIn_T, sIn_fT, sPutC_lst, sPutC_K, sPutC_S, sPutC_T, keyOf_int, keyOf_str, keysC.eq_1, keysC.eq_2, itemsC.eq_1, rs_ref, rs_non, rs_bl, rs_int, rs_str, rs_ty, rs_lst, rs_tup, rs_dK, rs_dT, rs_scr, rs_wD, rs_iD, rs_lwD, resC_lst, resC_dK, resC_dT, resC_fK, resC_fT, resC_ins, updW_same, putFD.eq_1, putFD.eq_2, isL.eq_1, isL.eq_2, sNeg.eq_1, sLen.eq_1, sLen.eq_2, sLen.eq_3, sLen.eq_4, sLen.eq_5, sAbs.eq_1, sMax, sMin, sInt.eq_1, sInt.eq_2, sStr.eq_1, sList.eq_1, sList.eq_2, sList.eq_3, sTuple.eq_1, sTuple.eq_2, sTuple.eq_3, sIsN, sNotN, sIx.eq_1, sIx.eq_2, sIx.eq_3, sIx.eq_4, sIx.eq_5, sIx.eq_6, sIx.eq_7, sIx.eq_8, sIx.eq_9, sSl.eq_1, sSl.eq_2, sSl.eq_3, sSl.eq_4, sRev.eq_1, sRev.eq_2, sRev.eq_3, sAddI.eq_1, sAddI.eq_2, sPut.eq_1, sPut.eq_2, sPut.eq_3, sPut.eq_4, D.isNon, sEq_ii, sNe_ii, sEq_ww, sNe_ww, sEq_ll, sNe_ll, sIsi_ii, sIsi_ib, sIsi_ll, sIsi_tt, sIsi_ss, sEq_w, sEq_i, sEq_lw, sEq_lw', sEq_lle, sEq_lle', sNe_w, sNe_i, sNe_lle', sNe_lw', sEq_ss, sNe_ss, sEq_bb, sNe_bb, sIn_iw, sIn_ii, sIn_wl, sIn_wl', sSl3.eq_1, sSl3.eq_2, dSl3, isS.eq_1, isL.eq_1, isL.eq_2, isA.eq_1, dM0, dM1, sUpper.eq_1, sLower.eq_1, sStrip1.eq_1, sSfind.eq_1, sScount.eq_1, sSindex.eq_1, sSsplit.eq_1, sSjoin.eq_1, sSjoin.eq_2, fPop_snoc, fPop_snoc', startD, wipeD, List.map_cons, List.map_nil, List.length_cons, List.length_nil, List.length_map, List.cons_append, List.nil_append, List.replicate, List.set_cons_zero, List.set_cons_succ, List.set_nil, List.getElem?_cons_zero, List.getElem?_cons_succ, Bool.true_and, Bool.and_true, Bool.and_false, Bool.false_and, Bool.not_true, Bool.not_false, if_true, if_false, Bool.false_eq_true, reduceIte, and_true, true_and, decide_true, decide_false, not_true, Option.map_none, Option.map_some, Option.getD_none, Option.getD_some, Option.isSome_none, Option.isSome_some, Nat.zero_le, Nat.zero_add, Nat.reduceAdd, Nat.reduceSub, D.scal, Option.some.injEq, exists_eq_left', exists_eq_left, exists_eq', D.int.injEq, D.lst.injEq, D.tup.injEq, D.scr.injEq, D.str.injEq, List.cons.injEq, and_self]
    rw [e1]
    refine ⟨⟨by omega, by omega⟩, ?_⟩
    rw [Int.toNat_natCast]
    refine for_rng 0 _ (fun a δ w' => w' = w ∧ ∃ j5 j6, δ = [some (false, .ref o.p), some (false, .int l), some (false, .ref o.d), some (false, .ref o.lc), some (false, nL (List.range (o.rs.length + 1))), j5, j6]) ⟨rfl, none, none, by simp [nL]⟩ ?_ ?_
    · rintro a δ w' N C ha ⟨rfl, j5, j6, rfl⟩ hN hC
      have hal : a < (List.range (o.rs.length + 1)).length := by simpa using ha
      obtain ⟨km, hkm⟩ := k.kat (room := a) (by omega)
      try simp -implicitDefEqProofs only [Int.zero_add, dNext, dSet, dLst, dTup, dNil, dCons, dFor, dRng1_u, dRng2_u, dIt_u, oX, dC, dBin, dUn, dVarR, dVar, dApp, dExt, dUpd0, dPut, dAug, dRet, dRetV, dRetN, dBreak, dCont, dIf, dB_u, dTru_u, dTNot, dTAnd, dTOr, dAndV_u, dOrV_u, dNotV_u, dIfX, dChain_u, dCall, dSl, dNoP, dP_u, dLc, dDrop, dFrz, frzD, dAsg, dDicK, dDicT, gN, gT, gsC, gsN, kB.eq_1, kT.eq_1, kT.eq_2, kT.eq_3, kT.eq_4, kT.eq_5, kT.eq_6, kT.eq_7, kT.eq_8, kAnd.eq_1, kOr.eq_1, kNot.eq_1, kIt.eq_1, kIt.eq_2, kIt.eq_3, kIt.eq_4, kP.eq_1, kR1.eq_1, kR2.eq_1, sAdd.eq_1, sAdd.eq_2, sAdd.eq_3, sAdd.eq_4, sJ2.eq_1, sI2.eq_1, sPow, sLt.eq_1, sLt.eq_2, sLe, sGt, sGe, sMul.eq_1, sMul.eq_2, sMulB.eq_1, sMulB.eq_2, sMulB.eq_3, sLR1.eq_1, sLR2.eq_1, sTR1.eq_1, sTR2.eq_1, sIsBl.eq_1, dZip, kZip.eq_1, dDisp1, dSetN, dConsN, dAppN, dPutN, dFld, dFldS, dFldAug, dMeth, dMake, dGet1, dGet2, dDPop, dLPop, dLPopAt, dLClear, dEnum, kEnum.eq_1, dRng3, kR3.eq_1, dForN, dForKeys, dForItems, dLock, lkE, dBack, kNm_f, kNm_t, nmK_f, nmK_lst, nmK_dK, nmK_dT, isDct_dK, isDct_dT, isDct_fK, isDct_fT, sGetO_K, sGetO_S, sGetO_T, sGetO_fK, sGetO_fT, sIn_K, sIn_fK, sIn_T, sIn_fT, sPutC_lst, sPutC_K, sPutC_S, sPutC_T, keyOf_int, keyOf_str, keysC.eq_1, keysC.eq_2, itemsC.eq_1, rs_ref, rs_non, rs_bl, rs_int, rs_str, rs_ty, rs_lst, rs_tup, rs_dK, rs_dT, rs_scr, rs_wD, rs_iD, rs_lwD, resC_lst, resC_dK, resC_dT, resC_fK, resC_fT, resC_ins, updW_same, putFD.eq_1, putFD.eq_2, isL.eq_1, isL.eq_2, sNeg.eq_1, sLen.eq_1, sLen.eq_2, sLen.eq_3, sLen.eq_4, sLen.eq_5, sAbs.eq_1, sMax, sMin, sInt.eq_1, sInt.eq_2, sStr.eq_1, sList.eq_1, sList.eq_2, sList.eq_3, sTuple.eq_1, sTuple.eq_2, sTuple.eq_3, sIsN, sNotN, sIx.eq_1, sIx.eq_2, sIx.eq_3, sIx.eq_4, sIx.eq_5, sIx.eq_6, sIx.eq_7, sIx.eq_8, sIx.eq_9, sSl.eq_1, sSl.eq_2, sSl.eq_3, sSl.eq_4, sRev.eq_1, sRev.eq_2, sRev.eq_3, sAddI.eq_1, sAddI.eq_2, sPut.eq_1, sPut.eq_2, sPut.eq_3, sPut.eq_4, D.isNon, sEq_ii, sNe_ii, sEq_ww, sNe_ww, sEq_ll, sNe_ll, sIsi_ii, sIsi_ib, sIsi_ll, sIsi_tt, sIsi_ss, sEq_w, sEq_i, sEq_lw, sEq_lw', sEq_lle, sEq_lle', sNe_w, sNe_i, sNe_lle', sNe_lw', sEq_ss, sNe_ss, sEq_bb, sNe_bb, sIn_iw, sIn_ii, sIn_wl, sIn_wl', sSl3.eq_1, sSl3.eq_2, dSl3, isS.eq_1, isL.eq_1, isL.eq_2, isA.eq_1, dM0, dM1, sUpper.eq_1, sLower.eq_1, sStrip1.eq_1, sSfind.eq_1, sScount.eq_1, sSindex.eq_1, sSsplit.eq_1, sSjoin.eq_1, sSjoin.eq_2, fPop_snoc, fPop_snoc', startD, wipeD, List.map_cons, List.map_nil, List.length_cons, List.length_nil, List.length_map, List.cons_append, List.nil_append, List.replicate, List.set_cons_zero, List.set_cons_succ, List.set_nil, List.getElem?_cons_zero, List.getElem?_cons_succ, Bool.true_and, Bool.and_true, Bool.and_false, Bool.false_and, Bool.not_true, Bool.not_false, if_true, if_false, Bool.false_eq_true, reduceIte, and_true, true_and, decide_true, decide_false, not_true, Option.map_none, Option.map_some, Option.getD_none, Option.getD_some, Option.isSome_none, Option.isSome_some, Nat.zero_le, Nat.zero_add, Nat.reduceAdd, Nat.reduceSub, D.scal, Option.some.injEq, exists_eq_left', exists_eq_left, exists_eq', D.int.injEq, D.lst.injEq, D.tup.injEq, D.scr.injEq, D.str.injEq, List.cons.injEq, and_self]
      refine seq_i ?_
      try simp -implicitDefEqProofs only [nL, not_true, dNext, dSet, dLst, dTup, dNil, dCons, dFor, dRng1_u, dRng2_u, dIt_u, oX, dC, dBin, dUn, dVarR, dVar, dApp, dExt, dUpd0, dPut, dAug, dRet, dRetV, dRetN, dBreak, dCont, dIf, dB_u, dTru_u, dTNot, dTAnd, dTOr, dAndV_u, dOrV_u, dNotV_u, dIfX, dChain_u, dCall, dSl, dNoP, dP_u, dLc, dDrop, dFrz, frzD, dAsg, dDicK, dDicT, gN, gT, gsC, gsN, kB.eq_1, kT.eq_1, kT.eq_2, kT.eq_3, kT.eq_4, kT.eq_5, kT.eq_6, kT.eq_7, kT.eq_8, kAnd.eq_1, kOr.eq_1, kNot.eq_1, kIt.eq_1, kIt.eq_2, kIt.eq_3, kIt.eq_4, kP.eq_1, kR1.eq_1, kR2.eq_1, sAdd.eq_1, sAdd.eq_2, sAdd.eq_3, sAdd.eq_4, sJ2.eq_1, sI2.eq_1, sPow, sLt.eq_1, sLt.eq_2, sLe, sGt, sGe, sMul.eq_1, sMul.eq_2, sMulB.eq_1, sMulB.eq_2, sMulB.eq_3, sLR1.eq_1, sLR2.eq_1, sTR1.eq_1, sTR2.eq_1, sIsBl.eq_1, dZip, kZip.eq_1, dDisp1, dSetN, dConsN, dAppN, dPutN, dFld, dFldS, dFldAug, dMeth, dMake, dGet1, dGet2, dDPop, dLPop, dLPopAt, dLClear, dEnum, kEnum.eq_1, dRng3, kR3.eq_1, dForN, dForKeys, dForItems, dLock, lkE, dBack, kNm_f, kNm_t, nmK_f, nmK_lst, nmK_dK, nmK_dT, isDct_dK, isDct_dT, isDct_fK, isDct_fT, sGetO_K, sGetO_S, sGetO_T, sGetO_fK, sGetO_fT, sIn_K, sIn_fK, sIn_T, sIn_fT, sPutC_lst, sPutC_K, sPutC_S, sPutC_T, keyOf_int, keyOf_str, keysC.eq_1, keysC.eq_2, itemsC.eq_1, rs_ref, rs_non, rs_bl, rs_int, rs_str, rs_ty, rs_lst, rs_tup, rs_dK, rs_dT, rs_scr, rs_wD, rs_iD, rs_lwD, resC_lst, resC_dK, resC_dT, resC_fK, resC_fT, resC_ins, updW_same, putFD.eq_1, putFD.eq_2, isL.eq_1, isL.eq_2, sNeg.eq_1, sLen.eq_1, sLen.eq_2, sLen.eq_3, sLen.eq_4, sLen.eq_5, sAbs.eq_1, sMax, sMin, sInt.eq_1, sInt.eq_2, sStr.eq_1, sList.eq_1, sList.eq_2, sList.eq_3, sTuple.eq_1, sTuple.eq_2, sTuple.eq_3, sIsN, sNotN, sIx.eq_1, sIx.eq_2, sIx.eq_3, sIx.eq_4, sIx.eq_5, sIx.eq_6, sIx.eq_7, sIx.eq_8, sIx.eq_9, sSl.eq_1, sSl.eq_2, sSl.eq_3, sSl.eq_4, sRev.eq_1, sRev.eq_2, sRev.eq_3, sAddI.eq_1, sAddI.eq_2, sPut.eq_1, sPut.eq_2, sPut.eq_3, sPut.eq_4, D.isNon, sEq_ii, sNe_ii, sEq_ww, sNe_ww, sEq_ll, sNe_ll, sIsi_ii, sIsi_ib, sIsi_ll, sIsi_tt, sIsi_ss, sEq_w, sEq_i, sEq_lw, sEq_lw', sEq_lle, sEq_lle', sNe_w, sNe_i, sNe_lle', sNe_lw', sEq_ss, sNe_ss, sEq_bb, sNe_bb, sIn_iw, sIn_ii, sIn_wl, sIn_wl', sSl3.eq_1, sSl3.eq_2, dSl3, isS.eq_1, isL.eq_1, isL.eq_2, isA.eq_1, dM0, dM1, sUpper.eq_1, sLower.eq_1, sStrip1.eq_1, sSfind.eq_1, sScount.eq_1, sSindex.eq_1, sSsplit.eq_1, sSjoin.eq_1, sSjoin.eq_2, fPop_snoc, fPop_snoc', startD, wipeD, List.map_cons, List.map_nil, List.length_cons, List.length_nil, List.length_map, List.cons_append, List.nil_append, List.replicate, List.set_cons_zero, List.set_cons_succ, List.set_nil, List.getElem?_cons_zero, List.getElem?_cons_succ, Bool.true_and, Bool.and_true, Bool.and_false, Bool.false_and, Bool.not_true, Bool.not_false, if_true, if_false, Bool.false_eq_true, reduceIte, and_true, true_and, decide_true, decide_false, not_true, Option.map_none, Option.map_some, Option.getD_none, Option.getD_some, Option.isSome_none, Option.isSome_some, Nat.zero_le, Nat.zero_add, Nat.reduceAdd, Nat.reduceSub, D.scal, Option.some.injEq, exists_eq_left', exists_eq_left, exists_eq', D.int.injEq, D.lst.injEq, D.tup.injEq, D.scr.injEq, D.str.injEq, List.cons.injEq, and_self]
      refine ⟨_, get_nat hal, _, rfl, ?_⟩
      try simp -implicitDefEqProofs only [not_true, dNext, dSet, dLst, dTup, dNil, dCons, dFor, dRng1_u, dRng2_u, dIt_u, oX, dC, dBin, dUn, dVarR, dVar, dApp, dExt, dUpd0, dPut, dAug, dRet, dRetV, dRetN, dBreak, dCont, dIf, dB_u, dTru_u, dTNot, dTAnd, dTOr, dAndV_u, dOrV_u, dNotV_u, dIfX, dChain_u, dCall, dSl, dNoP, dP_u, dLc, dDrop, dFrz, frzD, dAsg, dDicK, dDicT, gN, gT, gsC, gsN, kB.eq_1, kT.eq_1, kT.eq_2, kT.eq_3, kT.eq_4, kT.eq_5, kT.eq_6, kT.eq_7, kT.eq_8, kAnd.eq_1, kOr.eq_1, kNot.eq_1, kIt.eq_1, kIt.eq_2, kIt.eq_3, kIt.eq_4, kP.eq_1, kR1.eq_1, kR2.eq_1, sAdd.eq_1, sAdd.eq_2, sAdd.eq_3, sAdd.eq_4, sJ2.eq_1, sI2.eq_1, sPow, sLt.eq_1, sLt.eq_2, sLe, sGt, sGe, sMul.eq_1, sMul.eq_2, sMulB.eq_1, sMulB.eq_2, sMulB.eq_3, sLR1.eq_1, sLR2.eq_1, sTR1.eq_1, sTR2.eq_1, sIsBl.eq_1, dZip, kZip.eq_1, dDisp1, dSetN, dConsN, dAppN, dPutN, dFld, dFldS, dFldAug, dMeth, dMake, dGet1, dGet2, dDPop, dLPop, dLPopAt, dLClear, dEnum, kEnum.eq_1, dRng3, kR3.eq_1, dForN, dForKeys, dForItems, dLock, lkE, dBack, kNm_f, kNm_t, nmK_f, nmK_lst, nmK_dK, nmK_dT, isDct_dK, isDct_dT, isDct_fK, isDct_fT, sGetO_K, sGetO_S, sGetO_T, sGetO_fK, sGetO_fT, sIn_K, sIn_fK, sIn_T, sIn_fT, sPutC_lst, sPutC_K, sPutC_S, sPutC_T, keyOf_int, keyOf_str, keysC.eq_1, keysC.eq_2, itemsC.eq_1, rs_ref, rs_non, rs_bl, rs_int, rs_str, rs_ty, rs_lst, rs_tup, rs_dK, rs_dT, rs_scr, rs_wD, rs_iD, rs_lwD, resC_lst, resC_dK, resC_dT, resC_fK, resC_fT, resC_ins, updW_same, putFD.eq_1, putFD.eq_2, isL.eq_1, isL.eq_2, sNeg.eq_1, sLen.eq_1, sLen.eq_2, sLen.eq_3, sLen.eq_4, sLen.eq_5, sAbs.eq_1, sMax, sMin, sInt.eq_1, sInt.eq_2, sStr.eq_1, sList.eq_1, sList.eq_2, sList.eq_3, sTuple.eq_1, sTuple.eq_2, sTuple.eq_3, sIsN, sNotN, sIx.eq_1, sIx.eq_2, sIx.eq_3, sIx.eq_4, sIx.eq_5, sIx.eq_6, sIx.eq_7, sIx.eq_8, sIx.eq_9, sSl.eq_1, sSl.eq_2, sSl.eq_3, sSl.eq_4, sRev.eq_1, sRev.eq_2, sRev.eq_3, sAddI.eq_1, sAddI.eq_2, sPut.eq_1, sPut.eq_2, sPut.eq_3, sPut.eq_4, D.isNon, sEq_ii, sNe_ii, sEq_ww, sNe_ww, sEq_ll, sNe_ll, sIsi_ii, sIsi_ib, sIsi_ll, sIsi_tt, sIsi_ss, sEq_w, sEq_i, sEq_lw, sEq_lw', sEq_lle, sEq_lle', sNe_w, sNe_i, sNe_lle', sNe_lw', sEq_ss, sNe_ss, sEq_bb, sNe_bb, sIn_iw, sIn_ii, sIn_wl, sIn_wl', sSl3.eq_1, sSl3.eq_2, dSl3, isS.eq_1, isL.eq_1, isL.eq_2, isA.eq_1, dM0, dM1, sUpper.eq_1, sLower.eq_1, sStrip1.eq_1, sSfind.eq_1, sScount.eq_1, sSindex.eq_1, sSsplit.eq_1, sSjoin.eq_1, sSjoin.eq_2, fPop_snoc, fPop_snoc', startD, wipeD, List.map_cons, List.map_nil, List.length_cons, List.length_nil, List.length_map, List.cons_append, List.nil_append, List.replicate, List.set_cons_zero, List.set_cons_succ, List.set_nil, List.getElem?_cons_zero, List.getElem?_cons_succ, Bool.true_and, Bool.and_true, Bool.and_false, Bool.false_and, Bool.not_true, Bool.not_false, if_true, if_false, Bool.false_eq_true, reduceIte, and_true, true_and, decide_true, decide_false, not_true, Option.map_none, Option.map_some, Option.getD_none, Option.getD_some, Option.isSome_none, Option.isSome_some, Nat.zero_le, Nat.zero_add, Nat.reduceAdd, Nat.reduceSub, D.scal, Option.some.injEq, exists_eq_left', exists_eq_left, exists_eq', D.int.injEq, D.lst.injEq, D.tup.injEq, D.scr.injEq, D.str.injEq, List.cons.injEq, and_self]
      refine ⟨o.p, _, rfl, R.ins, no_elder .., o.p, o.r, o.S, a, rfl, R, by rw [k.el]; exact elok_rng _, by omega, ?_⟩
      rw [k.el, root_rng (by omega)]
      try simp -implicitDefEqProofs only [not_true, dNext, dSet, dLst, dTup, dNil, dCons, dFor, dRng1_u, dRng2_u, dIt_u, oX, dC, dBin, dUn, dVarR, dVar, dApp, dExt, dUpd0, dPut, dAug, dRet, dRetV, dRetN, dBreak, dCont, dIf, dB_u, dTru_u, dTNot, dTAnd, dTOr, dAndV_u, dOrV_u, dNotV_u, dIfX, dChain_u, dCall, dSl, dNoP, dP_u, dLc, dDrop, dFrz, frzD, dAsg, dDicK, dDicT, gN, gT, gsC, gsN, kB.eq_1, kT.eq_1, kT.eq_2, kT.eq_3, kT.eq_4, kT.eq_5, kT.eq_6, kT.eq_7, kT.eq_8, kAnd.eq_1, kOr.eq_1, kNot.eq_1, kIt.eq_1, kIt.eq_2, kIt.eq_3, kIt.eq_4, kP.eq_1, kR1.eq_1, kR2.eq_1, sAdd.eq_1, sAdd.eq_2, sAdd.eq_3, sAdd.eq_4, sJ2.eq_1, sI2.eq_1, sPow, sLt.eq_1, sLt.eq_2, sLe, sGt, sGe, sMul.eq_1, sMul.eq_2, sMulB.eq_1, sMulB.eq_2, sMulB.eq_3, sLR1.eq_1, sLR2.eq_1, sTR1.eq_1, sTR2.eq_1, sIsBl.eq_1, dZip, kZip.eq_1, dDisp1, dSetN, dConsN, dAppN, dPutN, dFld, dFldS, dFldAug, dMeth, dMake, dGet1, dGet2, dDPop, dLPop, dLPopAt, dLClear, dEnum, kEnum.eq_1, dRng3, kR3.eq_1, dForN, dForKeys, dForItems, dLock, lkE, dBack, kNm_f, kNm_t, nmK_f, nmK_lst, nmK_dK, nmK_dT, isDct_dK, isDct_dT, isDct_fK, isDct_fT, sGetO_K, sGetO_S, sGetO_T, sGetO_fK, sGetO_fT, sIn_K, sIn_fK, sIn_T, sIn_fT, sPutC_lst, sPutC_K, sPutC_S, sPutC_T, keyOf_int, keyOf_str, keysC.eq_1, keysC.eq_2, itemsC.eq_1, rs_ref, rs_non, rs_bl, rs_int, rs_str, rs_ty, rs_lst, rs_tup, rs_dK, rs_dT, rs_scr, rs_wD, rs_iD, rs_lwD, resC_lst, resC_dK, resC_dT, resC_fK, resC_fT, resC_ins, updW_same, putFD.eq_1, putFD.eq_2, isL.eq_1, isL.eq_2, sNeg.eq_1, sLen.eq_1, sLen.eq_2, sLen.eq_3, sLen.eq_4, sLen.eq_5, sAbs.eq_1, sMax, sMin, sInt.eq_1, sInt.eq_2, sStr.eq_1, sList.eq_1, sList.eq_2, sList.eq_3, sTuple.eq_1, sTuple.eq_2, sTuple.eq_3, sIsN, sNotN, sIx.eq_1, sIx.eq_2, sIx.eq_3, sIx.eq_4, sIx.eq_5, sIx.eq_6, sIx.eq_7, sIx.eq_8, sIx.eq_9, sSl.eq_1, sSl.eq_2, sSl.eq_3, sSl.eq_4, sRev.eq_1, sRev.eq_2, sRev.eq_3, sAddI.eq_1, sAddI.eq_2, sPut.eq_1, sPut.eq_2, sPut.eq_3, sPut.eq_4, D.isNon, sEq_ii, sNe_ii, sEq_ww, sNe_ww, sEq_ll, sNe_ll, sIsi_ii, sIsi_ib, sIsi_ll, sIsi_tt, sIsi_ss, sEq_w, sEq_i, sEq_lw, sEq_lw', sEq_lle, sEq_lle', sNe_w, sNe_i, sNe_lle', sNe_lw', sEq_ss, sNe_ss, sEq_bb, sNe_bb, sIn_iw, sIn_ii, sIn_wl, sIn_wl', sSl3.eq_1, sSl3.eq_2, dSl3, isS.eq_1, isL.eq_1, isL.eq_2, isA.eq_1, dM0, dM1, sUpper.eq_1, sLower.eq_1, sStrip1.eq_1, sSfind.eq_1, sScount.eq_1, sSindex.eq_1, sSsplit.eq_1, sSjoin.eq_1, sSjoin.eq_2, fPop_snoc, fPop_snoc', startD, wipeD, List.map_cons, List.map_nil, List.length_cons, List.length_nil, List.length_map, List.cons_append, List.nil_append, List.replicate, List.set_cons_zero, List.set_cons_succ, List.set_nil, List.getElem?_cons_zero, List.getElem?_cons_succ, Bool.true_and, Bool.and_true, Bool.and_false, Bool.false_and, Bool.not_true, Bool.not_false, if_true, if_false, Bool.false_eq_true, reduceIte, and_true, true_and, decide_true, decide_false, not_true, Option.map_none, Option.map_some, Option.getD_none, Option.getD_some, Option.isSome_none, Option.isSome_some, Nat.zero_le, Nat.zero_add, Nat.reduceAdd, Nat.reduceSub, D.scal, Option.some.injEq, exists_eq_left', exists_eq_left, exists_eq', D.int.injEq, D.lst.injEq, D.tup.injEq, D.scr.injEq, D.str.injEq, List.cons.injEq, and_self]
      have e3 : [D.int 1, D.int (-1), D.int l, D.int (-(l : Int))] = ([1, -1, (l : Int), -(l : Int)] : List Int).map D.int := rfl
      refine ⟨by omega, ?_⟩
      rw [e3]
      refine for_go D.int (fun pre δ w2 => w2 = w' ∧ ∃ j6, δ = [some (false, .ref o.p), some (false, .int l), some (false, .ref o.d), some (false, .ref o.lc), some (false, nL (List.range (o.rs.length + 1))), some (false, .int a), j6]) _ ⟨rfl, j6, by simp [nL]⟩ ?_ ?_
      · rintro pre x post δ w2 N2 C2 e ⟨rfl, j6, rfl⟩ hN2 hC2
        try simp -implicitDefEqProofs only [not_true, dNext, dSet, dLst, dTup, dNil, dCons, dFor, dRng1_u, dRng2_u, dIt_u, oX, dC, dBin, dUn, dVarR, dVar, dApp, dExt, dUpd0, dPut, dAug, dRet, dRetV, dRetN, dBreak, dCont, dIf, dB_u, dTru_u, dTNot, dTAnd, dTOr, dAndV_u, dOrV_u, dNotV_u, dIfX, dChain_u, dCall, dSl, dNoP, dP_u, dLc, dDrop, dFrz, frzD, dAsg, dDicK, dDicT, gN, gT, gsC, gsN, kB.eq_1, kT.eq_1, kT.eq_2, kT.eq_3, kT.eq_4, kT.eq_5, kT.eq_6, kT.eq_7, kT.eq_8, kAnd.eq_1, kOr.eq_1, kNot.eq_1, kIt.eq_1, kIt.eq_2, kIt.eq_3, kIt.eq_4, kP.eq_1, kR1.eq_1, kR2.eq_1, sAdd.eq_1, sAdd.eq_2, sAdd.eq_3, sAdd.eq_4, sJ2.eq_1, sI2.eq_1, sPow, sLt.eq_1, sLt.eq_2, sLe, sGt, sGe, sMul.eq_1, sMul.eq_2, sMulB.eq_1, sMulB.eq_2, sMulB.eq_3, sLR1.eq_1, sLR2.eq_1, sTR1.eq_1, sTR2.eq_1, sIsBl.eq_1, dZip, kZip.eq_1, dDisp1, dSetN, dConsN, dAppN, dPutN, dFld, dFldS, dFldAug, dMeth, dMake, dGet1, dGet2, dDPop, dLPop, dLPopAt, dLClear, dEnum, kEnum.eq_1, dRng3, kR3.eq_1, dForN, dForKeys, dForItems, dLock, lkE, dBack, kNm_f, kNm_t, nmK_f, nmK_lst, nmK_dK, nmK_dT, isDct_dK, isDct_dT, isDct_fK, isDct_fT, sGetO_K, sGetO_S, sGetO_T, sGetO_fK, sGetO_fT, sIn_K, sIn_fK, sIn_T, sIn_fT, sPutC_lst, sPutC_K, sPutC_S, sPutC_T, keyOf_int, keyOf_str, keysC.eq_1, keysC.eq_2, itemsC.eq_1, rs_ref, rs_non, rs_bl, rs_int, rs_str, rs_ty, rs_lst, rs_tup, rs_dK, rs_dT, rs_scr, rs_wD, rs_iD, rs_lwD, resC_lst, resC_dK, resC_dT, resC_fK, resC_fT, resC_ins, updW_same, putFD.eq_1, putFD.eq_2, isL.eq_1, isL.eq_2, sNeg.eq_1, sLen.eq_1, sLen.eq_2, sLen.eq_3, sLen.eq_4, sLen.eq_5, sAbs.eq_1, sMax, sMin, sInt.eq_1, sInt.eq_2, sStr.eq_1, sList.eq_1, sList.eq_2, sList.eq_3, sTuple.eq_1, sTuple.eq_2, sTuple.eq_3, sIsN, sNotN, sIx.eq_1, sIx.eq_2, sIx.eq_3, sIx.eq_4, sIx.eq_5, sIx.eq_6, sIx.eq_7, sIx.eq_8, sIx.eq_9, sSl.eq_1, sSl.eq_2, sSl.eq_3, sSl.eq_4, sRev.eq_1, sRev.eq_2, sRev.eq_3, sAddI.eq_1, sAddI.eq_2, sPut.eq_1, sPut.eq_2, sPut.eq_3, sPut.eq_4, D.isNon, sEq_ii, sNe_ii, sEq_ww, sNe_ww, sEq_ll, sNe_ll, sIsi_ii, sIsi_ib, sIsi_ll, sIsi_tt, sIsi_ss, sEq_w, sEq_i, sEq_lw, sEq_lw', sEq_lle, sEq_lle', sNe_w, sNe_i, sNe_lle', sNe_lw', sEq_ss, sNe_ss, sEq_bb, sNe_bb, sIn_iw, sIn_ii, sIn_wl, sIn_wl', sSl3.eq_1, sSl3.eq_2, dSl3, isS.eq_1, isL.eq_1, isL.eq_2, isA.eq_1, dM0, dM1, sUpper.eq_1, sLower.eq_1, sStrip1.eq_1, sSfind.eq_1, sScount.eq_1, sSindex.eq_1, sSsplit.eq_1, sSjoin.eq_1, sSjoin.eq_2, fPop_snoc, fPop_snoc', startD, wipeD, List.map_cons, List.map_nil, List.length_cons, List.length_nil, List.length_map, List.cons_append, List.nil_append, List.replicate, List.set_cons_zero, List.set_cons_succ, List.set_nil, List.getElem?_cons_zero, List.getElem?_cons_succ, Bool.true_and, Bool.and_true, Bool.and_false, Bool.false_and, Bool.not_true, Bool.not_false, if_true, if_false, Bool.false_eq_true, reduceIte, and_true, true_and, decide_true, decide_false, not_true, Option.map_none, Option.map_some, Option.getD_none, Option.getD_some, Option.isSome_none, Option.isSome_some, Nat.zero_le, Nat.zero_add, Nat.reduceAdd, Nat.reduceSub, D.scal, Option.some.injEq, exists_eq_left', exists_eq_left, exists_eq', D.int.injEq, D.lst.injEq, D.tup.injEq, D.scr.injEq, D.str.injEq, List.cons.injEq, and_self]
        refine ⟨o.p, o.r, o.S, a, km, x, .ref o.d, o.m, rfl, R, hkm, .inl (by rw [rs_ref, k.hd]; rfl), k.kn a km x hkm, ?_⟩
        try simp -implicitDefEqProofs only [not_true, dNext, dSet, dLst, dTup, dNil, dCons, dFor, dRng1_u, dRng2_u, dIt_u, oX, dC, dBin, dUn, dVarR, dVar, dApp, dExt, dUpd0, dPut, dAug, dRet, dRetV, dRetN, dBreak, dCont, dIf, dB_u, dTru_u, dTNot, dTAnd, dTOr, dAndV_u, dOrV_u, dNotV_u, dIfX, dChain_u, dCall, dSl, dNoP, dP_u, dLc, dDrop, dFrz, frzD, dAsg, dDicK, dDicT, gN, gT, gsC, gsN, kB.eq_1, kT.eq_1, kT.eq_2, kT.eq_3, kT.eq_4, kT.eq_5, kT.eq_6, kT.eq_7, kT.eq_8, kAnd.eq_1, kOr.eq_1, kNot.eq_1, kIt.eq_1, kIt.eq_2, kIt.eq_3, kIt.eq_4, kP.eq_1, kR1.eq_1, kR2.eq_1, sAdd.eq_1, sAdd.eq_2, sAdd.eq_3, sAdd.eq_4, sJ2.eq_1, sI2.eq_1, sPow, sLt.eq_1, sLt.eq_2, sLe, sGt, sGe, sMul.eq_1, sMul.eq_2, sMulB.eq_1, sMulB.eq_2, sMulB.eq_3, sLR1.eq_1, sLR2.eq_1, sTR1.eq_1, sTR2.eq_1, sIsBl.eq_1, dZip, kZip.eq_1, dDisp1, dSetN, dConsN, dAppN, dPutN, dFld, dFldS, dFldAug, dMeth, dMake, dGet1, dGet2, dDPop, dLPop, dLPopAt, dLClear, dEnum, kEnum.eq_1, dRng3, kR3.eq_1, dForN, dForKeys, dForItems, dLock, lkE, dBack, kNm_f, kNm_t, nmK_f, nmK_lst, nmK_dK, nmK_dT, isDct_dK, isDct_dT, isDct_fK, isDct_fT, sGetO_K, sGetO_S, sGetO_T, sGetO_fK, sGetO_fT, sIn_K, sIn_fK, sIn_T, sIn_fT, sPutC_lst, sPutC_K, sPutC_S, sPutC_T, keyOf_int, keyOf_str, keysC.eq_1, keysC.eq_2, itemsC.eq_1, rs_ref, rs_non, rs_bl, rs_int, rs_str, rs_ty, rs_lst, rs_tup, rs_dK, rs_dT, rs_scr, rs_wD, rs_iD, rs_lwD, resC_lst, resC_dK, resC_dT, resC_fK, resC_fT, resC_ins, updW_same, putFD.eq_1, putFD.eq_2, isL.eq_1, isL.eq_2, sNeg.eq_1, sLen.eq_1, sLen.eq_2, sLen.eq_3, sLen.eq_4, sLen.eq_5, sAbs.eq_1, sMax, sMin, sInt.eq_1, sInt.eq_2, sStr.eq_1, sList.eq_1, sList.eq_2, sList.eq_3, sTuple.eq_1, sTuple.eq_2, sTuple.eq_3, sIsN, sNotN, sIx.eq_1, sIx.eq_2, sIx.eq_3, sIx.eq_4, sIx.eq_5, sIx.eq_6, sIx.eq_7, sIx.eq_8, sIx.eq_9, sSl.eq_1, sSl.eq_2, sSl.eq_3, sSl.eq_4, sRev.eq_1, sRev.eq_2, sRev.eq_3, sAddI.eq_1, sAddI.eq_2, sPut.eq_1, sPut.eq_2, sPut.eq_3, sPut.eq_4, D.isNon, sEq_ii, sNe_ii, sEq_ww, sNe_ww, sEq_ll, sNe_ll, sIsi_ii, sIsi_ib, sIsi_ll, sIsi_tt, sIsi_ss, sEq_w, sEq_i, sEq_lw, sEq_lw', sEq_lle, sEq_lle', sNe_w, sNe_i, sNe_lle', sNe_lw', sEq_ss, sNe_ss, sEq_bb, sNe_bb, sIn_iw, sIn_ii, sIn_wl, sIn_wl', sSl3.eq_1, sSl3.eq_2, dSl3, isS.eq_1, isL.eq_1, isL.eq_2, isA.eq_1, dM0, dM1, sUpper.eq_1, sLower.eq_1, sStrip1.eq_1, sSfind.eq_1, sScount.eq_1, sSindex.eq_1, sSsplit.eq_1, sSjoin.eq_1, sSjoin.eq_2, fPop_snoc, fPop_snoc', startD, wipeD, List.map_cons, List.map_nil, List.length_cons, List.length_nil, List.length_map, List.cons_append, List.nil_append, List.replicate, List.set_cons_zero, List.set_cons_succ, List.set_nil, List.getElem?_cons_zero, List.getElem?_cons_succ, Bool.true_and, Bool.and_true, Bool.and_false, Bool.false_and, Bool.not_true, Bool.not_false, if_true, if_false, Bool.false_eq_true, reduceIte, and_true, true_and, decide_true, decide_false, not_true, Option.map_none, Option.map_some, Option.getD_none, Option.getD_some, Option.isSome_none, Option.isSome_some, Nat.zero_le, Nat.zero_add, Nat.reduceAdd, Nat.reduceSub, D.scal, Option.some.injEq, exists_eq_left', exists_eq_left, exists_eq', D.int.injEq, D.lst.injEq, D.tup.injEq, D.scr.injEq, D.str.injEq, List.cons.injEq, and_self]
        exact hN2 _ _ ⟨rfl, _, rfl⟩
      · rintro δ w2 ⟨rfl, j6, rfl⟩
        exact hN _ _ ⟨rfl, _, _, rfl⟩
    · rintro δ w' ⟨rfl, j5, j6, rfl⟩
      exact h _ _ ⟨rfl, _, _, rfl⟩
  rintro δ w' ⟨rfl, j5, j6, rfl⟩
  refine seq_cut (fun δ w2 => w2 = w' ∧ ∃ j5 j6, δ = [some (false, .ref o.p), some (false, .int l), some (false, .ref o.d), some (false, .ref o.lc), some (false, nL (List.range (o.rs.length + 1))), j5, j6]) (fun N h => ?_) ?_
  · try simp -implicitDefEqProofs only [dNext, dSet, dLst, dTup, dNil, dCons, dFor, dRng1_u, dRng2_u, dIt_u, oX, dC, dBin, dUn, dVarR, dVar, dApp, dExt, dUpd0, dPut, dAug, dRet, dRetV, dRetN, dBreak, dCont, dIf, dB_u, dTru_u, dTNot, dTAnd, dTOr, dAndV_u, dOrV_u, dNotV_u, dIfX, dChain_u, dCall, dSl, dNoP, dP_u, dLc, dDrop, dFrz, frzD, dAsg, dDicK, dDicT, gN, gT, gsC, gsN, kB.eq_1, kT.eq_1, kT.eq_2, kT.eq_3, kT.eq_4, kT.eq_5, kT.eq_6, kT.eq_7, kT.eq_8, kAnd.eq_1, kOr.eq_1, kNot.eq_1, kIt.eq_1, kIt.eq_2, kIt.eq_3, kIt.eq_4, kP.eq_1, kR1.eq_1, kR2.eq_1, sAdd.eq_1, sAdd.eq_2, sAdd.eq_3, sAdd.eq_4, sJ2.eq_1, sI2.eq_1, sPow, sLt.eq_1, sLt.eq_2, sLe, sGt, sGe, sMul.eq_1, sMul.eq_2, sMulB.eq_1, sMulB.eq_2, sMulB.eq_3, sLR1.eq_1, sLR2.eq_1, sTR1.eq_1, sTR2.eq_1, sIsBl.eq_1, dZip, kZip.eq_1, dDisp1, dSetN, dConsN, dAppN, dPutN, dFld, dFldS, dFldAug, dMeth, dMake, dGet1, dGet2, dDPop, dLPop, dLPopAt, dLClear, dEnum, kEnum.eq_1, dRng3, kR3.eq_1, dForN, dForKeys, dForItems, dLock, lkE, dBack, kNm_f, kNm_t, nmK_f, nmK_lst, nmK_dK, nmK_dT, isDct_dK, isDct_dT, isDct_fK, isDct_fT, sGetO_K, sGetO_S, sGetO_T, sGetO_fK, sGetO_fT, sIn_K, sIn_fK, sIn_T, sIn_fT, sPutC_lst, sPutC_K, sPutC_S, sPutC_T, keyOf_int, keyOf_str, keysC.eq_1, keysC.eq_2, itemsC.eq_1, rs_ref, rs_non, rs_bl, rs_int, rs_str, rs_ty, rs_lst, rs_tup, rs_dK, rs_dT, rs_scr, rs_wD, rs_iD, rs_lwD, resC_lst, resC_dK, resC_dT, resC_fK, resC_fT, resC_ins, updW_same, putFD.eq_1, putFD.eq_2, isL.eq_1, isL.eq_2, sNeg.eq_1, sLen.eq_1, sLen.eq_2, sLen.eq_3, sLen.eq_4, sLen.eq_5, sAbs.eq_1, sMax, sMin, sInt.eq_1, sInt.eq_2, sStr.eq_1, sList.eq_1, sList.eq_2, sList.eq_3, sTuple.eq_1, sTuple.eq_2, sTuple.eq_3, sIsN, sNotN, sIx.eq_1, sIx.eq_2, sIx.eq_3, sIx.eq_4, sIx.eq_5, sIx.eq_6, sIx.eq_7, sIx.eq_8, sIx.eq_9, sSl.eq_1, sSl.eq_2, sSl.eq_3, sSl.eq_4, sRev.eq_1, sRev.eq_2, sRev.eq_3, sAddI.eq_1, sAddI.eq_2, sPut.eq_1, sPut.eq_2, sPut.eq_3, sPut.eq_4, D.isNon, sEq_ii, sNe_ii, sEq_ww, sNe_ww, sEq_ll, sNe_ll, sIsi_ii, sIsi_ib, sIsi_ll, sIsi_tt, sIsi_ss, sEq_w, sEq_i, sEq_lw, sEq_lw', sEq_lle, sEq_lle', sNe_w, sNe_i, sNe_lle', sNe_lw', sEq_ss, sNe_ss, sEq_bb, sNe_bb, sIn_iw, sIn_ii, sIn_wl, sIn_wl', sSl3.eq_1, sSl3.eq_2, dSl3, isS.eq_1, isL.eq_1, isL.eq_2, isA.eq_1, dM0, dM1, sUpper.eq_1, sLower.eq_1, sStrip1.eq_1, sSfind.eq_1, sScount.eq_1, sSindex.eq_1, sSsplit.eq_1, sSjoin.eq_1, sSjoin.eq_2, fPop_snoc, fPop_snoc', startD, wipeD, List.map_cons, List.map_nil, List.length_cons, List.length_nil, List.length_map, List.cons_append, List.nil_append, List.replicate, List.set_cons_zero, List.set_cons_succ, List.set_nil, List.getElem?_cons_zero, List.getElem?_cons_succ, Bool.true_and, Bool.and_true, Bool.and_false, Bool.false_and, Bool.not_true, Bool.not_false, if_true, if_false, Bool.false_eq_true, reduceIte, and_true, true_and, decide_true, decide_false, not_true, Option.map_none, Option.map_some, Option.getD_none, Option.getD_some, Option.isSome_none, Option.isSome_some, Nat.zero_le, Nat.zero_add, Nat.reduceAdd, Nat.reduceSub, D.scal, Option.some.injEq, exists_eq_left', exists_eq_left, exists_eq', D.int.injEq, D.lst.injEq, D.tup.injEq, D.scr.injEq, D.str.injEq, List.cons.injEq, and_self]
    refine ⟨o.d, .inr ⟨_, k.hd, fun ob vs => ?_⟩⟩
    refine ⟨o.d, _, _, rfl, updW_same, rfl, ?_⟩
    have ek : (wmD o.m).map (fun kv => D.tup (kv.1.map kD)) = o.m.map fun q => D.tup [.int q.1.1, .int q.1.2] := by
      simp [wmD, fD, pk, kD]
    rw [ek]
    have k2 : Rm (updW w' o.d (.fT ob vs (wmD o.m))) o.p o.r o.S := R.same fun b hb => updW_ne fun z => R.notT k.hd (z ▸ hb)
    refine forN_go (fun q : (Nat × Int) × Nat => D.tup [.int q.1.1, .int q.1.2]) (fun pre δ w2 => w2 = updW w' o.d (.fT ob vs (wmD o.m)) ∧ ∃ j5 j6, δ = [some (false, .ref o.p), some (false, .int l), some (false, .ref o.d), some (false, .ref o.lc), some (false, nL (List.range (o.rs.length + 1))), j5, j6]) o.m ⟨rfl, j5, j6, rfl⟩ ?_ ?_
    · rintro pre x post δ w2 N2 C2 e ⟨rfl, j5, j6, rfl⟩ hN2 hC2
      obtain ⟨km, hkm⟩ := k.kat (room := x.1.1) (k.keys x (by rw [e]; simp))
      try simp -implicitDefEqProofs only [not_true, dNext, dSet, dLst, dTup, dNil, dCons, dFor, dRng1_u, dRng2_u, dIt_u, oX, dC, dBin, dUn, dVarR, dVar, dApp, dExt, dUpd0, dPut, dAug, dRet, dRetV, dRetN, dBreak, dCont, dIf, dB_u, dTru_u, dTNot, dTAnd, dTOr, dAndV_u, dOrV_u, dNotV_u, dIfX, dChain_u, dCall, dSl, dNoP, dP_u, dLc, dDrop, dFrz, frzD, dAsg, dDicK, dDicT, gN, gT, gsC, gsN, kB.eq_1, kT.eq_1, kT.eq_2, kT.eq_3, kT.eq_4, kT.eq_5, kT.eq_6, kT.eq_7, kT.eq_8, kAnd.eq_1, kOr.eq_1, kNot.eq_1, kIt.eq_1, kIt.eq_2, kIt.eq_3, kIt.eq_4, kP.eq_1, kR1.eq_1, kR2.eq_1, sAdd.eq_1, sAdd.eq_2, sAdd.eq_3, sAdd.eq_4, sJ2.eq_1, sI2.eq_1, sPow, sLt.eq_1, sLt.eq_2, sLe, sGt, sGe, sMul.eq_1, sMul.eq_2, sMulB.eq_1, sMulB.eq_2, sMulB.eq_3, sLR1.eq_1, sLR2.eq_1, sTR1.eq_1, sTR2.eq_1, sIsBl.eq_1, dZip, kZip.eq_1, dDisp1, dSetN, dConsN, dAppN, dPutN, dFld, dFldS, dFldAug, dMeth, dMake, dGet1, dGet2, dDPop, dLPop, dLPopAt, dLClear, dEnum, kEnum.eq_1, dRng3, kR3.eq_1, dForN, dForKeys, dForItems, dLock, lkE, dBack, kNm_f, kNm_t, nmK_f, nmK_lst, nmK_dK, nmK_dT, isDct_dK, isDct_dT, isDct_fK, isDct_fT, sGetO_K, sGetO_S, sGetO_T, sGetO_fK, sGetO_fT, sIn_K, sIn_fK, sIn_T, sIn_fT, sPutC_lst, sPutC_K, sPutC_S, sPutC_T, keyOf_int, keyOf_str, keysC.eq_1, keysC.eq_2, itemsC.eq_1, rs_ref, rs_non, rs_bl, rs_int, rs_str, rs_ty, rs_lst, rs_tup, rs_dK, rs_dT, rs_scr, rs_wD, rs_iD, rs_lwD, resC_lst, resC_dK, resC_dT, resC_fK, resC_fT, resC_ins, updW_same, putFD.eq_1, putFD.eq_2, isL.eq_1, isL.eq_2, sNeg.eq_1, sLen.eq_1, sLen.eq_2, sLen.eq_3, sLen.eq_4, sLen.eq_5, sAbs.eq_1, sMax, sMin, sInt.eq_1, sInt.eq_2, sStr.eq_1, sList.eq_1, sList.eq_2, sList.eq_3, sTuple.eq_1, sTuple.eq_2, sTuple.eq_3, sIsN, sNotN, sIx.eq_1, sIx.eq_2, sIx.eq_3, sIx.eq_4, sIx.eq_5, sIx.eq_6, sIx.eq_7, sIx.eq_8, sIx.eq_9, sSl.eq_1, sSl.eq_2, sSl.eq_3, sSl.eq_4, sRev.eq_1, sRev.eq_2, sRev.eq_3, sAddI.eq_1, sAddI.eq_2, sPut.eq_1, sPut.eq_2, sPut.eq_3, sPut.eq_4, D.isNon, sEq_ii, sNe_ii, sEq_ww, sNe_ww, sEq_ll, sNe_ll, sIsi_ii, sIsi_ib, sIsi_ll, sIsi_tt, sIsi_ss, sEq_w, sEq_i, sEq_lw, sEq_lw', sEq_lle, sEq_lle', sNe_w, sNe_i, sNe_lle', sNe_lw', sEq_ss, sNe_ss, sEq_bb, sNe_bb, sIn_iw, sIn_ii, sIn_wl, sIn_wl', sSl3.eq_1, sSl3.eq_2, dSl3, isS.eq_1, isL.eq_1, isL.eq_2, isA.eq_1, dM0, dM1, sUpper.eq_1, sLower.eq_1, sStrip1.eq_1, sSfind.eq_1, sScount.eq_1, sSindex.eq_1, sSsplit.eq_1, sSjoin.eq_1, sSjoin.eq_2, fPop_snoc, fPop_snoc', startD, wipeD, List.map_cons, List.map_nil, List.length_cons, List.length_nil, List.length_map, List.cons_append, List.nil_append, List.replicate, List.set_cons_zero, List.set_cons_succ, List.set_nil, List.getElem?_cons_zero, List.getElem?_cons_succ, Bool.true_and, Bool.and_true, Bool.and_false, Bool.false_and, Bool.not_true, Bool.not_false, if_true, if_false, Bool.false_eq_true, reduceIte, and_true, true_and, decide_true, decide_false, not_true, Option.map_none, Option.map_some, Option.getD_none, Option.getD_some, Option.isSome_none, Option.isSome_some, Nat.zero_le, Nat.zero_add, Nat.reduceAdd, Nat.reduceSub, D.scal, Option.some.injEq, exists_eq_left', exists_eq_left, exists_eq', D.int.injEq, D.lst.injEq, D.tup.injEq, D.scr.injEq, D.str.injEq, List.cons.injEq, and_self]
      refine ⟨o.p, o.r, o.S, x.1.1, km, x.1.2, .ref o.d, o.m, rfl, k2, hkm, .inr (by rw [rs_ref, updW_same]; rfl), k.kn _ km _ hkm, ?_⟩
      try simp -implicitDefEqProofs only [not_true, dNext, dSet, dLst, dTup, dNil, dCons, dFor, dRng1_u, dRng2_u, dIt_u, oX, dC, dBin, dUn, dVarR, dVar, dApp, dExt, dUpd0, dPut, dAug, dRet, dRetV, dRetN, dBreak, dCont, dIf, dB_u, dTru_u, dTNot, dTAnd, dTOr, dAndV_u, dOrV_u, dNotV_u, dIfX, dChain_u, dCall, dSl, dNoP, dP_u, dLc, dDrop, dFrz, frzD, dAsg, dDicK, dDicT, gN, gT, gsC, gsN, kB.eq_1, kT.eq_1, kT.eq_2, kT.eq_3, kT.eq_4, kT.eq_5, kT.eq_6, kT.eq_7, kT.eq_8, kAnd.eq_1, kOr.eq_1, kNot.eq_1, kIt.eq_1, kIt.eq_2, kIt.eq_3, kIt.eq_4, kP.eq_1, kR1.eq_1, kR2.eq_1, sAdd.eq_1, sAdd.eq_2, sAdd.eq_3, sAdd.eq_4, sJ2.eq_1, sI2.eq_1, sPow, sLt.eq_1, sLt.eq_2, sLe, sGt, sGe, sMul.eq_1, sMul.eq_2, sMulB.eq_1, sMulB.eq_2, sMulB.eq_3, sLR1.eq_1, sLR2.eq_1, sTR1.eq_1, sTR2.eq_1, sIsBl.eq_1, dZip, kZip.eq_1, dDisp1, dSetN, dConsN, dAppN, dPutN, dFld, dFldS, dFldAug, dMeth, dMake, dGet1, dGet2, dDPop, dLPop, dLPopAt, dLClear, dEnum, kEnum.eq_1, dRng3, kR3.eq_1, dForN, dForKeys, dForItems, dLock, lkE, dBack, kNm_f, kNm_t, nmK_f, nmK_lst, nmK_dK, nmK_dT, isDct_dK, isDct_dT, isDct_fK, isDct_fT, sGetO_K, sGetO_S, sGetO_T, sGetO_fK, sGetO_fT, sIn_K, sIn_fK, sIn_T, sIn_fT, sPutC_lst, sPutC_K, sPutC_S, sPutC_T, keyOf_int, keyOf_str, keysC.eq_1, keysC.eq_2, itemsC.eq_1, rs_ref, rs_non, rs_bl, rs_int, rs_str, rs_ty, rs_lst, rs_tup, rs_dK, rs_dT, rs_scr, rs_wD, rs_iD, rs_lwD, resC_lst, resC_dK, resC_dT, resC_fK, resC_fT, resC_ins, updW_same, putFD.eq_1, putFD.eq_2, isL.eq_1, isL.eq_2, sNeg.eq_1, sLen.eq_1, sLen.eq_2, sLen.eq_3, sLen.eq_4, sLen.eq_5, sAbs.eq_1, sMax, sMin, sInt.eq_1, sInt.eq_2, sStr.eq_1, sList.eq_1, sList.eq_2, sList.eq_3, sTuple.eq_1, sTuple.eq_2, sTuple.eq_3, sIsN, sNotN, sIx.eq_1, sIx.eq_2, sIx.eq_3, sIx.eq_4, sIx.eq_5, sIx.eq_6, sIx.eq_7, sIx.eq_8, sIx.eq_9, sSl.eq_1, sSl.eq_2, sSl.eq_3, sSl.eq_4, sRev.eq_1, sRev.eq_2, sRev.eq_3, sAddI.eq_1, sAddI.eq_2, sPut.eq_1, sPut.eq_2, sPut.eq_3, sPut.eq_4, D.isNon, sEq_ii, sNe_ii, sEq_ww, sNe_ww, sEq_ll, sNe_ll, sIsi_ii, sIsi_ib, sIsi_ll, sIsi_tt, sIsi_ss, sEq_w, sEq_i, sEq_lw, sEq_lw', sEq_lle, sEq_lle', sNe_w, sNe_i, sNe_lle', sNe_lw', sEq_ss, sNe_ss, sEq_bb, sNe_bb, sIn_iw, sIn_ii, sIn_wl, sIn_wl', sSl3.eq_1, sSl3.eq_2, dSl3, isS.eq_1, isL.eq_1, isL.eq_2, isA.eq_1, dM0, dM1, sUpper.eq_1, sLower.eq_1, sStrip1.eq_1, sSfind.eq_1, sScount.eq_1, sSindex.eq_1, sSsplit.eq_1, sSjoin.eq_1, sSjoin.eq_2, fPop_snoc, fPop_snoc', startD, wipeD, List.map_cons, List.map_nil, List.length_cons, List.length_nil, List.length_map, List.cons_append, List.nil_append, List.replicate, List.set_cons_zero, List.set_cons_succ, List.set_nil, List.getElem?_cons_zero, List.getElem?_cons_succ, Bool.true_and, Bool.and_true, Bool.and_false, Bool.false_and, Bool.not_true, Bool.not_false, if_true, if_false, Bool.false_eq_true, reduceIte, and_true, true_and, decide_true, decide_false, not_true, Option.map_none, Option.map_some, Option.getD_none, Option.getD_some, Option.isSome_none, Option.isSome_some, Nat.zero_le, Nat.zero_add, Nat.reduceAdd, Nat.reduceSub, D.scal, Option.some.injEq, exists_eq_left', exists_eq_left, exists_eq', D.int.injEq, D.lst.injEq, D.tup.injEq, D.scr.injEq, D.str.injEq, List.cons.injEq, and_self]
      exact hN2 _ _ updW_same ⟨rfl, _, _, rfl⟩
    · rintro δ w2 ⟨rfl, j5, j6, rfl⟩
      refine ⟨updW_same, ?_⟩
      rw [updW_twice, updW_self k.hd]
      exact h _ _ ⟨rfl, _, _, rfl⟩
  rintro δ w2 ⟨rfl, j5, j6, rfl⟩
  try simp -implicitDefEqProofs only [dNext, dSet, dLst, dTup, dNil, dCons, dFor, dRng1_u, dRng2_u, dIt_u, oX, dC, dBin, dUn, dVarR, dVar, dApp, dExt, dUpd0, dPut, dAug, dRet, dRetV, dRetN, dBreak, dCont, dIf, dB_u, dTru_u, dTNot, dTAnd, dTOr, dAndV_u, dOrV_u, dNotV_u, dIfX, dChain_u, dCall, dSl, dNoP, dP_u, dLc, dDrop, dFrz, frzD, dAsg, dDicK, dDicT, gN, gT, gsC, gsN, kB.eq_1, kT.eq_1, kT.eq_2, kT.eq_3, kT.eq_4, kT.eq_5, kT.eq_6, kT.eq_7, kT.eq_8, kAnd.eq_1, kOr.eq_1, kNot.eq_1, kIt.eq_1, kIt.eq_2, kIt.eq_3, kIt.eq_4, kP.eq_1, kR1.eq_1, kR2.eq_1, sAdd.eq_1, sAdd.eq_2, sAdd.eq_3, sAdd.eq_4, sJ2.eq_1, sI2.eq_1, sPow, sLt.eq_1, sLt.eq_2, sLe, sGt, sGe, sMul.eq_1, sMul.eq_2, sMulB.eq_1, sMulB.eq_2, sMulB.eq_3, sLR1.eq_1, sLR2.eq_1, sTR1.eq_1, sTR2.eq_1, sIsBl.eq_1, dZip, kZip.eq_1, dDisp1, dSetN, dConsN, dAppN, dPutN, dFld, dFldS, dFldAug, dMeth, dMake, dGet1, dGet2, dDPop, dLPop, dLPopAt, dLClear, dEnum, kEnum.eq_1, dRng3, kR3.eq_1, dForN, dForKeys, dForItems, dLock, lkE, dBack, kNm_f, kNm_t, nmK_f, nmK_lst, nmK_dK, nmK_dT, isDct_dK, isDct_dT, isDct_fK, isDct_fT, sGetO_K, sGetO_S, sGetO_T, sGetO_fK, sGetO_fT, sIn_K, sIn_fK, sIn_T, sIn_fT, sPutC_lst, sPutC_K, sPutC_S, sPutC_T, keyOf_int, keyOf_str, keysC.eq_1, keysC.eq_2, itemsC.eq_1, rs_ref, rs_non, rs_bl, rs_int, rs_str, rs_ty, rs_lst, rs_tup, rs_dK, rs_dT, rs_scr, rs_wD, rs_iD, rs_lwD, resC_lst, resC_dK, resC_dT, resC_fK, resC_fT, resC_ins, updW_same, putFD.eq_1, putFD.eq_2, isL.eq_1, isL.eq_2, sNeg.eq_1, sLen.eq_1, sLen.eq_2, sLen.eq_3, sLen.eq_4, sLen.eq_5, sAbs.eq_1, sMax, sMin, sInt.eq_1, sInt.eq_2, sStr.eq_1, sList.eq_1, sList.eq_2, sList.eq_3, sTuple.eq_1, sTuple.eq_2, sTuple.eq_3, sIsN, sNotN, sIx.eq_1, sIx.eq_2, sIx.eq_3, sIx.eq_4, sIx.eq_5, sIx.eq_6, sIx.eq_7, sIx.eq_8, sIx.eq_9, sSl.eq_1, sSl.eq_2, sSl.eq_3, sSl.eq_4, sRev.eq_1, sRev.eq_2, sRev.eq_3, sAddI.eq_1, sAddI.eq_2, sPut.eq_1, sPut.eq_2, sPut.eq_3, sPut.eq_4, D.isNon, sEq_ii, sNe_ii, sEq_ww, sNe_ww, sEq_ll, sNe_ll, sIsi_ii, sIsi_ib, sIsi_ll, sIsi_tt, sIsi_ss, sEq_w, sEq_i, sEq_lw, sEq_lw', sEq_lle, sEq_lle', sNe_w, sNe_i, sNe_lle', sNe_lw', sEq_ss, sNe_ss, sEq_bb, sNe_bb, sIn_iw, sIn_ii, sIn_wl, sIn_wl', sSl3.eq_1, sSl3.eq_2, dSl3, isS.eq_1, isL.eq_1, isL.eq_2, isA.eq_1, dM0, dM1, sUpper.eq_1, sLower.eq_1, sStrip1.eq_1, sSfind.eq_1, sScount.eq_1, sSindex.eq_1, sSsplit.eq_1, sSjoin.eq_1, sSjoin.eq_2, fPop_snoc, fPop_snoc', startD, wipeD, List.map_cons, List.map_nil, List.length_cons, List.length_nil, List.length_map, List.cons_append, List.nil_append, List.replicate, List.set_cons_zero, List.set_cons_succ, List.set_nil, List.getElem?_cons_zero, List.getElem?_cons_succ, Bool.true_and, Bool.and_true, Bool.and_false, Bool.false_and, Bool.not_true, Bool.not_false, if_true, if_false, Bool.false_eq_true, reduceIte, and_true, true_and, decide_true, decide_false, not_true, Option.map_none, Option.map_some, Option.getD_none, Option.getD_some, Option.isSome_none, Option.isSome_some, Nat.zero_le, Nat.zero_add, Nat.reduceAdd, Nat.reduceSub, D.scal, Option.some.injEq, exists_eq_left', exists_eq_left, exists_eq', D.int.injEq, D.lst.injEq, D.tup.injEq, D.scr.injEq, D.str.injEq, List.cons.injEq, and_self]
  exact q
def nxt (m : Wm) (room : Nat) (step : Int) (n : Nat) : Wm := fput (fput m (room, step) n) (n, -step) room
def Oj.step (o : Oj) (r' : RP) (room : Nat) (step : Int) : Oj :=
  { o with r := r', S := o.S.mk1 room step, m := nxt o.m room step (o.rs.length + 1), rs := o.rs ++ [(room, step, o.rs.length + 1)] }
theorem fput_keys {m : Wm} {k : Nat × Int} {v : Nat} {q : (Nat × Int) × Nat} (h : q ∈ fput m k v) : q.1 = k ∨ q.1 ∈ m.map (·.1) := by
  have : q.1 ∈ (fput m k v).map (·.1) := List.mem_map.mpr ⟨q, h, rfl⟩
  rw [fkeys_put] at this
  split at this
  · exact .inr this
  · rcases List.mem_append.mp this with h | h
    · exact .inr h
    · exact .inl (by simpa using h)
theorem OjOk.made {w w1 : Om} {l : Nat} {o : Oj} {r' : RP} {room : Nat} {step : Int} {km : Kn} (k : OjOk w l o) (hk : o.S.kn[room]? = some km) (R' : Rm w1 o.p r' (o.S.mk1 room step)) (fr : Fr w w1 (o.r.fp o.p) (r'.fp o.p)) (hs : step ≠ 0) :
    OjOk (updW (updW w1 o.d (.dT (wmD (nxt o.m room step (o.rs.length + 1))))) o.lc (.lst ((o.rs ++ [(room, step, o.rs.length + 1)]).map rwD))) l (o.step r' room step) ∧
    Fr w (updW (updW w1 o.d (.dT (wmD (nxt o.m room step (o.rs.length + 1))))) o.lc (.lst ((o.rs ++ [(room, step, o.rs.length + 1)]).map rwD))) o.foot (o.step r' room step).foot := by
  have nd : o.d ∉ o.r.fp o.p := k.rm.notT k.hd
  obtain ⟨d1, nd1⟩ := fr.cell k.hd nd
  obtain ⟨l1, nl1⟩ := fr.cell k.hl k.nl
  have ndl : o.d ≠ o.lc := fun z => by have h1 := k.hd; have h2 := k.hl; rw [z, h2] at h1; cases h1
  have hn : o.S.el.length = o.rs.length + 1 := by rw [k.el]; simp
  have hkl : o.S.kn.length = o.rs.length + 1 := by rw [k.rm.len2, hn]
  have hroom := (List.getElem?_eq_some_iff.mp hk).1
  have hkey : ∀ s, fget o.m (o.rs.length + 1, s) = none := fun s => fget_none.mpr fun hm => by
    obtain ⟨q, hq, e⟩ := List.mem_map.mp hm
    have := k.keys q hq
    rw [e] at this
    simp at this
    omega
  have hmk : ∀ (a : Nat) (km' : Kn), (o.S.mk1 room step).kn[a]? = some km' → (a < o.S.kn.length ∧ ((a = room ∧ km' = fput km step o.S.el.length) ∨ (a ≠ room ∧ o.S.kn[a]? = some km'))) ∨ (a = o.rs.length + 1 ∧ km' = [(-step, room)]) := by
    intro a km' hkm'
    simp only [RS.mk1, hk, Option.getD_some] at hkm'
    by_cases ha : a < o.S.kn.length
    · rw [List.getElem?_append_left (by rw [List.length_set]; exact ha)] at hkm'
      rcases get_set hkm' with ⟨e, e2⟩ | ⟨e, e2⟩
      · exact .inl ⟨ha, .inl ⟨e.symm, e2⟩⟩
      · exact .inl ⟨ha, .inr ⟨fun z => e z.symm, e2⟩⟩
    · have ha2 : a = o.rs.length + 1 := by
        have := (List.getElem?_eq_some_iff.mp hkm').1
        simp at this
        omega
      subst ha2
      rw [List.getElem?_append_right (by rw [List.length_set]; omega), List.length_set, hkl, Nat.sub_self] at hkm'
      exact .inr ⟨rfl, by simpa using hkm'.symm⟩
  refine ⟨⟨?_, ?_, updW_same, nl1, ?_, k.sl, ?_, ?_, ?_, fun a km' hkm' => ?_, ?_⟩, ⟨fun b hb hw => ?_, fun b hb => ?_⟩⟩
  · refine R'.same fun b hb => ?_
    have g1 : b ≠ o.lc := fun z => nl1 (z ▸ hb)
    have g2 : b ≠ o.d := fun z => nd1 (z ▸ hb)
    rw [updW_ne g1, updW_ne g2]
  · show updW (updW w1 o.d _) o.lc _ o.d = _
    rw [updW_ne ndl, updW_same]
    rfl
  · show (o.S.mk1 room step).told = _
    simp only [RS.mk1, k.td, Oj.step, List.map_append, List.map_cons, List.map_nil, hn]
    rfl
  · show (o.S.mk1 room step).el = List.range ((o.rs ++ [(room, step, o.rs.length + 1)]).length + 1)
    simp only [RS.mk1, k.el, List.length_range, List.length_append, List.length_cons, List.length_nil]
    rw [show o.rs.length + (0 + 1) + 1 = (o.rs.length + 1) + 1 by omega, List.range_succ (n := o.rs.length + 1)]
  · intro a km' s hkm'
    show fget (nxt o.m room step (o.rs.length + 1)) (a, s) = fget km' s
    have hkm2 : (o.S.kn.set room (fput km step o.S.el.length) ++ [[(-step, room)]])[a]? = some km' := by
      have h0 : (o.S.mk1 room step).kn[a]? = some km' := hkm'
      simp only [RS.mk1, hk, Option.getD_some] at h0
      exact h0
    unfold nxt
    rw [fget_put, fget_put]
    by_cases ha : a < o.S.kn.length
    · rw [List.getElem?_append_left (by rw [List.length_set]; exact ha)] at hkm2
      have e1 : ¬ ((a, s) = (o.rs.length + 1, -step)) := fun z => by have := congrArg Prod.fst z; simp at this; omega
      rw [if_neg e1]
      rcases get_set hkm2 with ⟨e, e2⟩ | ⟨e, e2⟩
      · subst e
        subst e2
        rw [fget_put, hn]
        by_cases h : s = step
        · subst h; simp
        · rw [if_neg (fun z => h (congrArg Prod.snd z)), if_neg h]
          exact k.kn _ _ _ hk
      · rw [if_neg (fun z => e (congrArg Prod.fst z).symm)]
        exact k.kn _ _ _ e2
    · have ha2 : a = o.rs.length + 1 := by
        have := (List.getElem?_eq_some_iff.mp hkm2).1
        simp at this
        omega
      subst ha2
      rw [List.getElem?_append_right (by rw [List.length_set]; omega), List.length_set, hkl, Nat.sub_self] at hkm2
      cases hkm2
      rw [fget_cons, fget_nil]
      by_cases h : s = -step
      · subst h; simp
      · rw [if_neg (fun z => h (congrArg Prod.snd z)), if_neg (fun z => by have := congrArg Prod.fst z; simp at this; omega), hkey, if_neg (fun z => h z.symm)]
  · intro q hq
    show q.1.1 ≤ (o.rs ++ [(room, step, o.rs.length + 1)]).length
    rw [List.length_append]
    rcases fput_keys hq with e | e
    · rw [e]; simp
    · obtain ⟨q2, hq2, e2⟩ := List.mem_map.mp e
      rw [← e2]
      rcases fput_keys hq2 with e | e
      · rw [e]; simp; omega
      · obtain ⟨q3, hq3, e3⟩ := List.mem_map.mp e
        rw [← e3]
        have := k.keys q3 hq3
        simp; omega
  · show km'.length ≤ (o.rs ++ [(room, step, o.rs.length + 1)]).length + 1
    rw [List.length_append]
    rcases hmk a km' hkm' with ⟨_, ⟨_, e⟩ | ⟨_, e⟩⟩ | ⟨_, e⟩
    · have h1 := flen_put km step o.S.el.length
      have h2 := k.kml room km hk
      rw [e]; simp; omega
    · have := k.kml a km' e
      simp; omega
    · rw [e]; simp
  · show (nxt o.m room step (o.rs.length + 1)).length ≤ 2 * (o.rs ++ [(room, step, o.rs.length + 1)]).length
    rw [List.length_append]
    have h1 := flen_put o.m (room, step) (o.rs.length + 1)
    have h2 := flen_put (fput o.m (room, step) (o.rs.length + 1)) (o.rs.length + 1, -step) room
    have := k.ml
    unfold nxt
    simp; omega
  · simp only [Oj.foot, List.mem_cons, not_or] at hb
    rw [updW_ne hb.2.1, updW_ne hb.1]
    exact fr.out b hb.2.2 hw
  · simp only [Oj.foot, Oj.step, List.mem_cons] at hb ⊢
    rcases hb with h | h | h
    · exact .inl (.inl h)
    · exact .inl (.inr (.inl h))
    · exact (fr.new b h).imp (fun z => .inr (.inr z)) id
/-- what the law's loop keeps -/
abbrev Hd := Addr × Addr × List D
structure LI (w : Om) (l : Nat) (ab aw ar ah : Addr) (o : Nat → Oj) (hs : List Hd) : Prop where
  hb : w ab = some (.lst [.ref (o 0).p, .ref (o 1).p])
  hw : w aw = some (.lst [.ref (o 0).d, .ref (o 1).d])
  hr : w ar = some (.lst [.ref (o 0).lc, .ref (o 1).lc])
  hh : w ah = some (.lst (hs.map fun h => .tup [.ref h.1, .ref h.2.1]))
  ok : ∀ i, i < 2 → OjOk w l (o i)
  dj : ∀ i j, i < 2 → j < 2 → i ≠ j → ∀ b ∈ (o i).foot, b ∉ (o j).foot
  nd : ([ab, aw, ar, ah] ++ hs.flatMap fun h => [h.1, h.2.1]).Nodup
  nf : ∀ i, i < 2 → ∀ b ∈ [ab, aw, ar, ah] ++ hs.flatMap (fun h => [h.1, h.2.1]), b ∉ (o i).foot
  held : ∀ h ∈ hs, w h.1 = some (.lst h.2.2) ∧ w h.2.1 = some (.lst h.2.2) ∧ Flat (.lst h.2.2) 5
theorem LI.there {w : Om} {l : Nat} {ab aw ar ah : Addr} {o : Nat → Oj} {hs : List Hd} (k : LI w l ab aw ar ah o hs) : ∀ b ∈ [ab, aw, ar, ah] ++ hs.flatMap (fun h => [h.1, h.2.1]), w b ≠ none := fun b hb => by
  simp only [List.mem_append, List.mem_cons, List.not_mem_nil, or_false, List.mem_flatMap] at hb
  rcases hb with (h | h | h | h) | ⟨x, hx, h | h⟩
  · subst h; rw [k.hb]; exact fun z => nomatch z
  · subst h; rw [k.hw]; exact fun z => nomatch z
  · subst h; rw [k.hr]; exact fun z => nomatch z
  · subst h; rw [k.hh]; exact fun z => nomatch z
  · subst h; rw [(k.held x hx).1]; exact fun z => nomatch z
  · subst h; rw [(k.held x hx).2.1]; exact fun z => nomatch z
/-- object i goes on -/
theorem LI.step {w w' : Om} {l : Nat} {ab aw ar ah : Addr} {o : Nat → Oj} {hs : List Hd} (k : LI w l ab aw ar ah o hs) {i : Nat} (hi : i < 2) {o' : Oj} (ok' : OjOk w' l o') (fr : Fr w w' (o i).foot o'.foot) (e1 : o'.p = (o i).p) (e2 : o'.d = (o i).d) (e3 : o'.lc = (o i).lc) :
    LI w' l ab aw ar ah (fun j => if j = i then o' else o j) hs := by
  have out : ∀ b ∈ [ab, aw, ar, ah] ++ hs.flatMap (fun h => [h.1, h.2.1]), w' b = w b := fun b hb => fr.out b (k.nf i hi b hb) (k.there b hb)
  have base : ∀ b, b ∈ [ab, aw, ar, ah] → b ∈ [ab, aw, ar, ah] ++ hs.flatMap (fun h => [h.1, h.2.1]) := fun b hb => List.mem_append_left _ hb
  have ep : ∀ j : Nat, (if j = i then o' else o j).p = (o j).p := by
    intro j
    by_cases h : j = i
    · rw [if_pos h, h, e1]
    · rw [if_neg h]
  have ed : ∀ j : Nat, (if j = i then o' else o j).d = (o j).d := by
    intro j
    by_cases h : j = i
    · rw [if_pos h, h, e2]
    · rw [if_neg h]
  have el : ∀ j : Nat, (if j = i then o' else o j).lc = (o j).lc := by
    intro j
    by_cases h : j = i
    · rw [if_pos h, h, e3]
    · rw [if_neg h]
  refine ⟨?_, ?_, ?_, ?_, fun j hj => ?_, fun a b ha hb hab x hx hx2 => ?_, k.nd, fun j hj b hb => ?_, fun h hh => ?_⟩
  · rw [out ab (base _ (by simp)), k.hb, ep, ep]
  · rw [out aw (base _ (by simp)), k.hw, ed, ed]
  · rw [out ar (base _ (by simp)), k.hr, el, el]
  · rw [out ah (base _ (by simp)), k.hh]
  · split
    · exact ok'
    · next hji => exact (k.ok j hj).same fun b hb => fr.out b (k.dj j i hj hi hji b hb) ((k.ok j hj).there b hb)
  · split at hx
    · next h =>
      subst h
      rw [if_neg (fun z => hab z.symm)] at hx2
      rcases fr.new x hx with h | h
      · exact k.dj _ _ hi hb hab x h hx2
      · exact (k.ok b hb).there x hx2 h
    · next h =>
      split at hx2
      · next h2 =>
        subst h2
        rcases fr.new x hx2 with h | h
        · exact k.dj _ _ ha hi hab x hx h
        · exact (k.ok a ha).there x hx h
      · exact k.dj a b ha hb hab x hx hx2
  · split
    · exact fun z => (fr.new b z).elim (k.nf i hi b hb) (k.there b hb)
    · exact k.nf j hj b hb
  · have m1 : h.1 ∈ [ab, aw, ar, ah] ++ hs.flatMap (fun h => [h.1, h.2.1]) := List.mem_append_right _ (List.mem_flatMap.mpr ⟨h, hh, by simp⟩)
    have m2 : h.2.1 ∈ [ab, aw, ar, ah] ++ hs.flatMap (fun h => [h.1, h.2.1]) := List.mem_append_right _ (List.mem_flatMap.mpr ⟨h, hh, by simp⟩)
    rw [out _ m1, out _ m2]
    exact k.held h hh
/-- two more lists are held -/
theorem LI.hold {w : Om} {l : Nat} {ab aw ar ah : Addr} {o : Nat → Oj} {hs : List Hd} (k : LI w l ab aw ar ah o hs) {c1 c2 : Addr} {X : List D} (h1 : w c1 = none) (h2 : updW w c1 (.lst X) c2 = none) (fX : Flat (.lst X) 5) :
    LI (updW (updW (updW w c1 (.lst X)) c2 (.lst X)) ah (.lst ((hs ++ [(c1, c2, X)]).map fun h => .tup [.ref h.1, .ref h.2.1]))) l ab aw ar ah o (hs ++ [(c1, c2, X)]) := by
  obtain ⟨h2', n21⟩ := none_upd h2
  have nb : ∀ b, w b ≠ none → b ≠ c1 ∧ b ≠ c2 := fun b hb => ⟨fun z => hb (z ▸ h1), fun z => hb (z ▸ h2')⟩
  have hnd := k.nd
  have nah : ∀ b ∈ hs.flatMap (fun h => [h.1, h.2.1]), b ≠ ah := fun b hb z => by
    have := (List.nodup_append.mp hnd).2.2 ah (by simp) b hb
    exact this z.symm
  simp only [List.cons_append, List.nil_append, List.nodup_cons, List.mem_cons, not_or] at hnd
  have keep : ∀ b, w b ≠ none → b ≠ ah → updW (updW (updW w c1 (.lst X)) c2 (.lst X)) ah (.lst ((hs ++ [(c1, c2, X)]).map fun h => .tup [.ref h.1, .ref h.2.1])) b = w b := fun b hb hne => by
    rw [updW_ne hne, updW_ne (nb b hb).2, updW_ne (nb b hb).1]
  have there := k.there
  have fm : (hs ++ [(c1, c2, X)]).flatMap (fun h => [h.1, h.2.1]) = hs.flatMap (fun h => [h.1, h.2.1]) ++ [c1, c2] := by simp
  have nah1 : ah ≠ c1 := (nb ah (there ah (by simp))).1
  have nah2 : ah ≠ c2 := (nb ah (there ah (by simp))).2
  refine ⟨?_, ?_, ?_, updW_same, fun i hi => (k.ok i hi).same fun b hb => keep b ((k.ok i hi).there b hb) (fun z => k.nf i hi ah (by simp) (z ▸ hb)), k.dj, ?_, fun i hi b hb => ?_, fun h hh => ?_⟩
  · rw [keep ab (there ab (by simp)) hnd.1.2.2.1]; exact k.hb
  · rw [keep aw (there aw (by simp)) hnd.2.1.2.1]; exact k.hw
  · rw [keep ar (there ar (by simp)) hnd.2.2.1.1]; exact k.hr
  · rw [fm, ← List.append_assoc, List.nodup_append]
    refine ⟨k.nd, by simp [n21.symm], fun x hx y hy => ?_⟩
    have := nb x (there x hx)
    simp at hy
    rcases hy with e | e
    · subst e; exact this.1
    · subst e; exact this.2
  · rw [fm, ← List.append_assoc] at hb
    rcases List.mem_append.mp hb with h | h
    · exact k.nf i hi b h
    · intro z
      have hb2 := (k.ok i hi).there b z
      simp at h
      rcases h with e | e
      · subst e; exact hb2 h1
      · subst e; exact hb2 h2'
  · rcases List.mem_append.mp hh with h' | h'
    · have hm1 : h.1 ∈ hs.flatMap (fun h => [h.1, h.2.1]) := List.mem_flatMap.mpr ⟨h, h', by simp⟩
      have hm2 : h.2.1 ∈ hs.flatMap (fun h => [h.1, h.2.1]) := List.mem_flatMap.mpr ⟨h, h', by simp⟩
      rw [keep _ (there _ (List.mem_append_right _ hm1)) (nah _ hm1), keep _ (there _ (List.mem_append_right _ hm2)) (nah _ hm2)]
      exact k.held h h'
    · simp at h'
      subst h'
      refine ⟨?_, ?_, fX⟩
      · show updW _ ah _ c1 = _
        rw [updW_ne nah1.symm, updW_ne n21.symm, updW_same]
      · show updW _ ah _ c2 = _
        rw [updW_ne nah2.symm, updW_same]
def S0 (l : Nat) : RS := ⟨l, [0], [[]], []⟩
def oj0 (l : Nat) (p0 : Addr) (r0 : RP) (d0 l0 p1 : Addr) (r1 : RP) (d1 l1 : Addr) : Nat → Oj := fun i => if i = 0 then ⟨p0, r0, S0 l, d0, [], l0, []⟩ else ⟨p1, r1, S0 l, d1, [], l1, []⟩
theorem LI.first {w1 w2 : Om} {p0 p1 : Addr} {r0 r1 : RP} {l : Nat} (R0 : Rm w1 p0 r0 ⟨l, [0], [[]], []⟩) (hp1 : w1 p1 = none) (R1 : Rm w2 p1 r1 ⟨l, [0], [[]], []⟩) {c1 : Cell} (fr1 : Fr (updW w1 p1 c1) w2 [p1] (r1.fp p1)) {ab d0 d1 aw l0 l1 ar ah : Addr}
    (hab : w2 ab = none) (hd0 : updW w2 ab (.lst [.ref p0, .ref p1]) d0 = none) (hd1 : updW (updW w2 ab (.lst [.ref p0, .ref p1])) d0 (.dT []) d1 = none)
    (haw : updW (updW (updW w2 ab (.lst [.ref p0, .ref p1])) d0 (.dT [])) d1 (.dT []) aw = none)
    (hl0 : updW (updW (updW (updW w2 ab (.lst [.ref p0, .ref p1])) d0 (.dT [])) d1 (.dT [])) aw (.lst [.ref d0, .ref d1]) l0 = none)
    (hl1 : updW (updW (updW (updW (updW w2 ab (.lst [.ref p0, .ref p1])) d0 (.dT [])) d1 (.dT [])) aw (.lst [.ref d0, .ref d1])) l0 (.lst []) l1 = none)
    (har : updW (updW (updW (updW (updW (updW w2 ab (.lst [.ref p0, .ref p1])) d0 (.dT [])) d1 (.dT [])) aw (.lst [.ref d0, .ref d1])) l0 (.lst [])) l1 (.lst []) ar = none)
    (hah : updW (updW (updW (updW (updW (updW (updW w2 ab (.lst [.ref p0, .ref p1])) d0 (.dT [])) d1 (.dT [])) aw (.lst [.ref d0, .ref d1])) l0 (.lst [])) l1 (.lst [])) ar (.lst [.ref l0, .ref l1]) ah = none) :
    LI (updW (updW (updW (updW (updW (updW (updW (updW w2 ab (.lst [.ref p0, .ref p1])) d0 (.dT [])) d1 (.dT [])) aw (.lst [.ref d0, .ref d1])) l0 (.lst [])) l1 (.lst [])) ar (.lst [.ref l0, .ref l1])) ah (.lst [])) l ab aw ar ah (oj0 l p0 r0 d0 l0 p1 r1 d1 l1) [] := by
  obtain ⟨hah, a1⟩ := none_upd hah
  obtain ⟨hah, a2⟩ := none_upd hah
  obtain ⟨hah, a3⟩ := none_upd hah
  obtain ⟨hah, a4⟩ := none_upd hah
  obtain ⟨hah, a5⟩ := none_upd hah
  obtain ⟨hah, a6⟩ := none_upd hah
  obtain ⟨hah, a7⟩ := none_upd hah
  obtain ⟨har, b1⟩ := none_upd har
  obtain ⟨har, b2⟩ := none_upd har
  obtain ⟨har, b3⟩ := none_upd har
  obtain ⟨har, b4⟩ := none_upd har
  obtain ⟨har, b5⟩ := none_upd har
  obtain ⟨har, b6⟩ := none_upd har
  obtain ⟨hl1, e1⟩ := none_upd hl1
  obtain ⟨hl1, e2⟩ := none_upd hl1
  obtain ⟨hl1, e3⟩ := none_upd hl1
  obtain ⟨hl1, e4⟩ := none_upd hl1
  obtain ⟨hl1, e5⟩ := none_upd hl1
  obtain ⟨hl0, g1⟩ := none_upd hl0
  obtain ⟨hl0, g2⟩ := none_upd hl0
  obtain ⟨hl0, g3⟩ := none_upd hl0
  obtain ⟨hl0, g4⟩ := none_upd hl0
  obtain ⟨haw, i1⟩ := none_upd haw
  obtain ⟨haw, i2⟩ := none_upd haw
  obtain ⟨haw, i3⟩ := none_upd haw
  obtain ⟨hd1, j1⟩ := none_upd hd1
  obtain ⟨hd1, j2⟩ := none_upd hd1
  obtain ⟨hd0, k1⟩ := none_upd hd0
  have o0 : ∀ b ∈ r0.fp p0, w2 b = w1 b := fun b hb => by
    have h := R0.there b hb
    have hb1 : b ≠ p1 := fun z => h (z ▸ hp1)
    rw [fr1.out b (by simpa using hb1) (by rw [updW_ne hb1]; exact h), updW_ne hb1]
  have R0' : Rm w2 p0 r0 ⟨l, [0], [[]], []⟩ := R0.same o0
  have dj : ∀ b ∈ r0.fp p0, b ∉ r1.fp p1 := fun b hb z => by
    have h := R0.there b hb
    have hb1 : b ≠ p1 := fun z => h (z ▸ hp1)
    rcases fr1.new b z with h1 | h1
    · exact hb1 (by simpa using h1)
    · rw [updW_ne hb1] at h1; exact h h1
  have n0 := R0'.there
  have n1 := R1.there
  have nn : ∀ b, w2 b ≠ none → b ≠ ab ∧ b ≠ d0 ∧ b ≠ d1 ∧ b ≠ aw ∧ b ≠ l0 ∧ b ≠ l1 ∧ b ≠ ar ∧ b ≠ ah := fun b hb =>
    ⟨fun z => hb (z ▸ hab), fun z => hb (z ▸ hd0), fun z => hb (z ▸ hd1), fun z => hb (z ▸ haw), fun z => hb (z ▸ hl0), fun z => hb (z ▸ hl1), fun z => hb (z ▸ har), fun z => hb (z ▸ hah)⟩
  have keep : ∀ b, w2 b ≠ none → updW (updW (updW (updW (updW (updW (updW (updW w2 ab (.lst [.ref p0, .ref p1])) d0 (.dT [])) d1 (.dT [])) aw (.lst [.ref d0, .ref d1])) l0 (.lst [])) l1 (.lst [])) ar (.lst [.ref l0, .ref l1])) ah (.lst []) b = w2 b := fun b hb => by
    obtain ⟨h1, h2, h3, h4, h5, h6, h7, h8⟩ := nn b hb
    rw [updW_ne h8, updW_ne h7, updW_ne h6, updW_ne h5, updW_ne h4, updW_ne h3, updW_ne h2, updW_ne h1]
  have z0 : ∀ b, w2 b = none → b ∉ r0.fp p0 := fun b hb z => n0 b z hb
  have z1 : ∀ b, w2 b = none → b ∉ r1.fp p1 := fun b hb z => n1 b z hb
  have key : ∀ b, b ∈ d0 :: l0 :: r0.fp p0 → b ∈ d1 :: l1 :: r1.fp p1 → False := fun b hb hb2 => by
    simp only [List.mem_cons] at hb hb2
    rcases hb with h | h | h
    · subst h
      rcases hb2 with h | h | h
      · exact j1 h.symm
      · exact e4 h.symm
      · exact z1 _ hd0 h
    · subst h
      rcases hb2 with h | h | h
      · exact g2 h
      · exact e1 h.symm
      · exact z1 _ hl0 h
    · rcases hb2 with g | g | g
      · subst g; exact z0 _ hd1 h
      · subst g; exact z0 _ hl1 h
      · exact dj b h g
  refine ⟨?_, ?_, ?_, updW_same, fun i hi => ?_, fun i j hi hj hij b hb hb2 => ?_, ?_, fun i hi b hb => ?_, fun h hh => nomatch hh⟩
  · rw [updW_ne a7.symm, updW_ne b6.symm, updW_ne e5.symm, updW_ne g4.symm, updW_ne i3.symm, updW_ne j2.symm, updW_ne k1.symm, updW_same]; rfl
  · rw [updW_ne a4.symm, updW_ne b3.symm, updW_ne e2.symm, updW_ne g1.symm, updW_same]; rfl
  · rw [updW_ne a1.symm, updW_same]; rfl
  · unfold oj0
    split
    · refine ⟨R0'.same fun b hb => keep b (n0 b hb), ?_, ?_, z0 _ hl0, rfl, rfl, rfl, fun room km s h => ?_, (fun q hq => nomatch hq), fun room km h => ?_, Nat.le_refl _⟩
      · show updW _ _ _ d0 = _
        rw [updW_ne a6.symm, updW_ne b5.symm, updW_ne e4.symm, updW_ne g3.symm, updW_ne i2.symm, updW_ne j1.symm, updW_same]; rfl
      · show updW _ _ _ l0 = _
        rw [updW_ne a3.symm, updW_ne b2.symm, updW_ne e1.symm, updW_same]; rfl
      · have : room = 0 := by have := (List.getElem?_eq_some_iff.mp h).1; simpa [S0] using this
        subst this
        cases h
        rfl
      · have : room = 0 := by have := (List.getElem?_eq_some_iff.mp h).1; simpa [S0] using this
        subst this
        cases h
        exact Nat.zero_le _
    · refine ⟨R1.same fun b hb => keep b (n1 b hb), ?_, ?_, z1 _ hl1, rfl, rfl, rfl, fun room km s h => ?_, (fun q hq => nomatch hq), fun room km h => ?_, Nat.le_refl _⟩
      · show updW _ _ _ d1 = _
        rw [updW_ne a5.symm, updW_ne b4.symm, updW_ne e3.symm, updW_ne g2.symm, updW_ne i1.symm, updW_same]; rfl
      · show updW _ _ _ l1 = _
        rw [updW_ne a2.symm, updW_ne b1.symm, updW_same]; rfl
      · have : room = 0 := by have := (List.getElem?_eq_some_iff.mp h).1; simpa [S0] using this
        subst this
        cases h
        rfl
      · have : room = 0 := by have := (List.getElem?_eq_some_iff.mp h).1; simpa [S0] using this
        subst this
        cases h
        exact Nat.zero_le _
  · unfold oj0 at hb hb2
    by_cases hi0 : i = 0
    · rw [if_pos hi0] at hb
      rw [if_neg (by omega)] at hb2
      exact key b hb hb2
    · rw [if_neg hi0] at hb
      rw [if_pos (by omega)] at hb2
      exact key b hb2 hb
  · simp [a1.symm, a4.symm, a7.symm, b3.symm, b6.symm, i3.symm]
  · simp only [List.flatMap_nil, List.append_nil, List.mem_cons, List.not_mem_nil, or_false] at hb
    unfold oj0
    split
    · simp only [Oj.foot, List.mem_cons, not_or]
      rcases hb with h | h | h | h <;> subst h
      · exact ⟨k1.symm, g4.symm, z0 _ hab⟩
      · exact ⟨i2, g1.symm, z0 _ haw⟩
      · exact ⟨b5, b2, z0 _ har⟩
      · exact ⟨a6, a3, z0 _ hah⟩
    · simp only [Oj.foot, List.mem_cons, not_or]
      rcases hb with h | h | h | h <;> subst h
      · exact ⟨j2.symm, e5.symm, z1 _ hab⟩
      · exact ⟨i1, e2.symm, z1 _ haw⟩
      · exact ⟨b4, b1, z1 _ har⟩
      · exact ⟨a5, a2, z1 _ hah⟩
theorem Oj.nfp {o : Oj} {b : Addr} (h : b ∉ o.foot) : b ∉ o.r.fp o.p ∧ b ≠ o.d ∧ b ≠ o.lc := by
  simp only [Oj.foot, List.mem_cons, not_or] at h
  exact ⟨h.2.2, h.1, h.2.1⟩
theorem nd_pre {a4 : List Addr} {hs pre post : List Hd} {x : Hd} (h : (a4 ++ hs.flatMap fun h => [h.1, h.2.1]).Nodup) (e : hs = pre ++ x :: post) : x.1 ∉ pre.map (·.1) ∧ x.2.1 ∉ pre.map (·.1) ∧ x.1 ≠ x.2.1 := by
  have h1 := (List.nodup_append.mp h).2.1
  rw [e, List.flatMap_append, List.flatMap_cons] at h1
  have h2 := (List.nodup_append.mp h1).2.2
  have key : ∀ b, b ∈ pre.map (·.1) → b ∈ pre.flatMap fun h => [h.1, h.2.1] := fun b hb => by
    obtain ⟨y, hy, e⟩ := List.mem_map.mp hb
    exact List.mem_flatMap.mpr ⟨y, hy, by simp [← e]⟩
  refine ⟨fun z => h2 _ (key _ z) x.1 (by simp) rfl, fun z => h2 _ (key _ z) x.2.1 (by simp) rfl, ?_⟩
  have h3 := (List.nodup_append.mp h1).2.1
  simp at h3
  exact h3.1.1
theorem nd_four {a4 : List Addr} {hs : List Hd} (h : (a4 ++ hs.flatMap fun h => [h.1, h.2.1]).Nodup) : ∀ a ∈ a4, a ∉ hs.map (·.1) := fun a ha z => by
  obtain ⟨y, hy, e⟩ := List.mem_map.mp z
  exact (List.nodup_append.mp h).2.2 a ha a (List.mem_flatMap.mpr ⟨y, hy, by simp [← e]⟩) rfl
theorem at2 (f : Nat → D) {i : Nat} (h : i < 2) : atI [f 0, f 1] (i : Int) = some (f i) := by
  rcases (show i = 0 ∨ i = 1 by omega) with e | e <;> subst e <;> rfl
def T_law : DSp := fun ds w P => lawT ds w P
theorem len_law (ds : List D) (w : Om) (P : Bool → D → Om → Prop) (h : T_law ds w P) : ds.length = 1 := by first | (have h := h.1; subst h; rfl) | (obtain ⟨rfl, _⟩ := h; rfl) | (obtain ⟨_, rfl, _⟩ := h; rfl) | (obtain ⟨_, _, rfl, _⟩ := h; rfl) | (obtain ⟨_, _, _, rfl, _⟩ := h; rfl) | (obtain ⟨_, _, _, _, rfl, _⟩ := h; rfl) | (obtain ⟨_, _, _, _, _, rfl, _⟩ := h; rfl) | (obtain ⟨_, _, _, _, _, _, rfl, _⟩ := h; rfl) | (obtain ⟨_, _, _, _, _, _, _, rfl, _⟩ := h; rfl) | (obtain ⟨_, _, _, _, _, _, _, _, rfl, _⟩ := h; rfl) | (obtain ⟨_, _, _, _, _, _, _, _, _, rfl, _⟩ := h; rfl) | (obtain ⟨_, _, _, _, _, _, _, _, _, _, rfl, _⟩ := h; rfl) | (obtain ⟨_, _, _, _, _, _, _, _, _, _, _, rfl, _⟩ := h; rfl)
def b_law : DS := (dSeq (dSet false 1 (dBin sAdd (oX (dC (.int 1))) (oX (dBin sMod (oX (dCall T_Lcell_at (dCons (dVar 0) (dCons (dC (.int 0)) dNil)))) (oX (dC (.int 4)))))))
    (dSeq (dIf (dB (dBin sEq (oX (dBin sMod (oX (dBin sFdiv (oX (dCall T_Lcell_at (dCons (dVar 0) (dCons (dC (.int 0)) dNil)))) (oX (dC (.int 4))))) (oX (dC (.int 5))))) (oX (dC (.int 1))))) (dSet false 1 (dC (.int 200))) dNext)
    (dSeq (dSetN 2 (dLst (dConsN (dMake "Rooms" T_Rooms_init (dCons (dVar 1) dNil)) (dConsN (dMake "Rooms" T_Rooms_init (dCons (dVar 1) dNil)) dNil))))
    (dSeq (dSetN 3 (dLst (dConsN dDicT (dConsN dDicT dNil))))
    (dSeq (dSetN 4 (dLst (dConsN (dLst dNil) (dConsN (dLst dNil) dNil))))
    (dSeq (dSetN 5 (dLst dNil))
    (dSeq (dFor (dIt (dSl (dVarR 0) (dP (oX (dC (.int 1)))) (dP (oX (dC (.int 63)))))) (gN 6) (dSeq (dSet false 7 (dBin sMod (dVarR 6) (oX (dC (.int 2)))))
    (dSeq (dSet false 8 (dBin sAdd (oX (dUn sLen (oX (dBin sIx (dVarR 4) (dVarR 7))))) (oX (dC (.int 1)))))
    (dSeq (dSet false 9 (dBin sMod (oX (dBin sMod (oX (dBin sMulB (oX (dBin sFdiv (dVarR 6) (oX (dC (.int 2))))) (oX (dC (.int 48271))))) (oX (dC (.int 2147483647))))) (dVarR 8)))
    (dSeq (dSet false 10 (dCall T_Lstep (dConsN (dBin sMod (oX (dBin sMulB (oX (dBin sFdiv (dVarR 6) (oX (dC (.int 3))))) (oX (dC (.int 69621))))) (oX (dC (.int 2147483629)))) (dCons (dVar 1) dNil))))
    (dSeq (dIf (dTNot (dTru (oX (dCall T_Lby (dCons (dBin sIx (dVarR 2) (dVarR 7)) (dCons (dVar 9) (dCons (dVar 10) (dCons (dBin sIx (dVarR 3) (dVarR 7)) dNil)))))))) (dRet (dC (.bl false))) dNext)
    (dSeq (dIf (dB (dBin (sIn true) (oX (dTup (dCons (dVar 9) (dCons (dVar 10) dNil)))) (oX (dBin sIx (dVarR 3) (dVarR 7))))) (dSeq (dSet false 11 (dMeth "Rooms" "make" T_Rooms_make (oX (dBin sIx (dVarR 2) (dVarR 7))) (dCons (dVar 9) (dCons (dVar 10) dNil))))
    (dSeq (dIf (dTOr (dTNot (dTru (oX (dCall T_Lwhole (dCons (dVar 11) dNil))))) (dB (dBin sNe (dVarR 11) (dVarR 8)))) (dRet (dC (.bl false))) dNext)
    (dSeq (dPutN false (oX (dBin sIx (dVarR 3) (dVarR 7))) (oX (dTup (dCons (dVar 9) (dCons (dVar 10) dNil)))) (dVar 8))
    (dSeq (dPutN false (oX (dBin sIx (dVarR 3) (dVarR 7))) (oX (dTup (dCons (dVar 8) (dCons (dUn sNeg (dVarR 10)) dNil)))) (dVar 9))
    (dAppN false (oX (dBin sIx (dVarR 4) (dVarR 7))) (dTup (dCons (dC (.str "new")) (dCons (dVar 9) (dCons (dVar 10) (dCons (dVar 8) dNil)))))))))) dNext)
    (dIf (dB (dBin sEq (oX (dBin sMod (dVarR 6) (oX (dC (.int 7))))) (oX (dC (.int 3))))) (dSeq (dAppN false (dVarR 5) (dTup (dConsN (dMeth "Rooms" "paper" T_Rooms_paper (oX (dBin sIx (dVarR 2) (dVarR 7))) dNil) (dConsN (dUn sList (oX (dBin sIx (dVarR 4) (dVarR 7)))) dNil))))
    (dAppN false (dVarR 5) (dTup (dConsN (dMeth "Rooms" "standing" T_Rooms_standing (oX (dBin sIx (dVarR 2) (dVarR 7))) dNil) (dConsN (dUn sLR1 (oX (dBin sAdd (oX (dUn sLen (oX (dBin sIx (dVarR 4) (dVarR 7))))) (oX (dC (.int 1)))))) dNil))))) dNext))))))))
    (dSeq (dFor (dRng1 (oX (dC (.int 2)))) (gN 7) (dIf (dTNot (dTru (oX (dCall T_Lseen (dCons (dBin sIx (dVarR 2) (dVarR 7)) (dCons (dVar 1) (dCons (dBin sIx (dVarR 3) (dVarR 7)) (dCons (dBin sIx (dVarR 4) (dVarR 7)) dNil)))))))) (dRet (dC (.bl false))) dNext))
    (dSeq (dForN (dVarR 5) (gT 2 (gsC (gN 12) (gsC (gN 13) gsN))) (dSeq (dIf (dB (dBin sNe (dVarR 12) (dVarR 13))) (dRet (dC (.bl false))) dNext)
    (dDrop (dLClear (dVarR 12)))))
    (dRet (dAndV (dCall T_Lseen (dCons (dBin sIx (dVarR 2) (oX (dC (.int 0)))) (dCons (dVar 1) (dCons (dBin sIx (dVarR 3) (oX (dC (.int 0)))) (dCons (dBin sIx (dVarR 4) (oX (dC (.int 0)))) dNil))))) (dCall T_Lseen (dCons (dBin sIx (dVarR 2) (oX (dC (.int 1)))) (dCons (dVar 1) (dCons (dBin sIx (dVarR 3) (oX (dC (.int 1)))) (dCons (dBin sIx (dVarR 4) (oX (dC (.int 1)))) dNil))))))))))))))))
theorem v_law (ds : List D) (w : Om) (P : Bool → D → Om → Prop) (h : T_law ds w P) : b_law { nx := fun _ w => P false .non w, rt := P } (startD ["_law_script", "_law_letters", "_law_both", "_law_ways", "_law_rows_here", "_law_held", "_law_cell", "_law_which", "_law_many", "_law_room", "_law_step_here", "_law_found", "_law_told", "_law_due"] ds) w := by
  unfold b_law
  obtain ⟨ns, rfl, hn, rfl, q⟩ := h
  have hs := sizeLine_eq
  refine seq_i ?_
  try simp -implicitDefEqProofs only [dNext, dSet, dLst, dTup, dNil, dCons, dFor, dRng1_u, dRng2_u, dIt_u, oX, dC, dBin, dUn, dVarR, dVar, dApp, dExt, dUpd0, dPut, dAug, dRet, dRetV, dRetN, dBreak, dCont, dIf, dB_u, dTru_u, dTNot, dTAnd, dTOr, dAndV_u, dOrV_u, dNotV_u, dIfX, dChain_u, dCall, dSl, dNoP, dP_u, dLc, dDrop, dFrz, frzD, dAsg, dDicK, dDicT, gN, gT, gsC, gsN, kB.eq_1, kT.eq_1, kT.eq_2, kT.eq_3, kT.eq_4, kT.eq_5, kT.eq_6, kT.eq_7, kT.eq_8, kAnd.eq_1, kOr.eq_1, kNot.eq_1, kIt.eq_1, kIt.eq_2, kIt.eq_3, kIt.eq_4, kP.eq_1, kR1.eq_1, kR2.eq_1, sAdd.eq_1, sAdd.eq_2, sAdd.eq_3, sAdd.eq_4, sJ2.eq_1, sI2.eq_1, sPow, sLt.eq_1, sLt.eq_2, sLe, sGt, sGe, sMul.eq_1, sMul.eq_2, sMulB.eq_1, sMulB.eq_2, sMulB.eq_3, sLR1.eq_1, sLR2.eq_1, sTR1.eq_1, sTR2.eq_1, sIsBl.eq_1, dZip, kZip.eq_1, dDisp1, dSetN, dConsN, dAppN, dPutN, dFld, dFldS, dFldAug, dMeth, dMake, dGet1, dGet2, dDPop, dLPop, dLPopAt, dLClear, dEnum, kEnum.eq_1, dRng3, kR3.eq_1, dForN, dForKeys, dForItems, dLock, lkE, dBack, kNm_f, kNm_t, nmK_f, nmK_lst, nmK_dK, nmK_dT, isDct_dK, isDct_dT, isDct_fK, isDct_fT, sGetO_K, sGetO_S, sGetO_T, sGetO_fK, sGetO_fT, sIn_K, sIn_fK, sIn_T, sIn_fT, sPutC_lst, sPutC_K, sPutC_S, sPutC_T, keyOf_int, keyOf_str, keysC.eq_1, keysC.eq_2, itemsC.eq_1, rs_ref, rs_non, rs_bl, rs_int, rs_str, rs_ty, rs_lst, rs_tup, rs_dK, rs_dT, rs_scr, rs_wD, rs_iD, rs_lwD, resC_lst, resC_dK, resC_dT, resC_fK, resC_fT, resC_ins, updW_same, putFD.eq_1, putFD.eq_2, isL.eq_1, isL.eq_2, sNeg.eq_1, sLen.eq_1, sLen.eq_2, sLen.eq_3, sLen.eq_4, sLen.eq_5, sAbs.eq_1, sMax, sMin, sInt.eq_1, sInt.eq_2, sStr.eq_1, sList.eq_1, sList.eq_2, sList.eq_3, sTuple.eq_1, sTuple.eq_2, sTuple.eq_3, sIsN, sNotN, sIx.eq_1, sIx.eq_2, sIx.eq_3, sIx.eq_4, sIx.eq_5, sIx.eq_6, sIx.eq_7, sIx.eq_8, sIx.eq_9, sSl.eq_1, sSl.eq_2, sSl.eq_3, sSl.eq_4, sRev.eq_1, sRev.eq_2, sRev.eq_3, sAddI.eq_1, sAddI.eq_2, sPut.eq_1, sPut.eq_2, sPut.eq_3, sPut.eq_4, D.isNon, sEq_ii, sNe_ii, sEq_ww, sNe_ww, sEq_ll, sNe_ll, sIsi_ii, sIsi_ib, sIsi_ll, sIsi_tt, sIsi_ss, sEq_w, sEq_i, sEq_lw, sEq_lw', sEq_lle, sEq_lle', sNe_w, sNe_i, sNe_lle', sNe_lw', sEq_ss, sNe_ss, sEq_bb, sNe_bb, sIn_iw, sIn_ii, sIn_wl, sIn_wl', sSl3.eq_1, sSl3.eq_2, dSl3, isS.eq_1, isL.eq_1, isL.eq_2, isA.eq_1, dM0, dM1, sUpper.eq_1, sLower.eq_1, sStrip1.eq_1, sSfind.eq_1, sScount.eq_1, sSindex.eq_1, sSsplit.eq_1, sSjoin.eq_1, sSjoin.eq_2, fPop_snoc, fPop_snoc', startD, wipeD, List.map_cons, List.map_nil, List.length_cons, List.length_nil, List.length_map, List.cons_append, List.nil_append, List.replicate, List.set_cons_zero, List.set_cons_succ, List.set_nil, List.getElem?_cons_zero, List.getElem?_cons_succ, Bool.true_and, Bool.and_true, Bool.and_false, Bool.false_and, Bool.not_true, Bool.not_false, if_true, if_false, Bool.false_eq_true, reduceIte, and_true, true_and, decide_true, decide_false, not_true, Option.map_none, Option.map_some, Option.getD_none, Option.getD_some, Option.isSome_none, Option.isSome_some, Nat.zero_le, Nat.zero_add, Nat.reduceAdd, Nat.reduceSub, D.scal, Option.some.injEq, exists_eq_left', exists_eq_left, exists_eq', D.int.injEq, D.lst.injEq, D.tup.injEq, D.scr.injEq, D.str.injEq, List.cons.injEq, and_self]
  refine ⟨ns, 0, rfl, by omega, by omega, fun x => ?_⟩
  try simp -implicitDefEqProofs only [dNext, dSet, dLst, dTup, dNil, dCons, dFor, dRng1_u, dRng2_u, dIt_u, oX, dC, dBin, dUn, dVarR, dVar, dApp, dExt, dUpd0, dPut, dAug, dRet, dRetV, dRetN, dBreak, dCont, dIf, dB_u, dTru_u, dTNot, dTAnd, dTOr, dAndV_u, dOrV_u, dNotV_u, dIfX, dChain_u, dCall, dSl, dNoP, dP_u, dLc, dDrop, dFrz, frzD, dAsg, dDicK, dDicT, gN, gT, gsC, gsN, kB.eq_1, kT.eq_1, kT.eq_2, kT.eq_3, kT.eq_4, kT.eq_5, kT.eq_6, kT.eq_7, kT.eq_8, kAnd.eq_1, kOr.eq_1, kNot.eq_1, kIt.eq_1, kIt.eq_2, kIt.eq_3, kIt.eq_4, kP.eq_1, kR1.eq_1, kR2.eq_1, sAdd.eq_1, sAdd.eq_2, sAdd.eq_3, sAdd.eq_4, sJ2.eq_1, sI2.eq_1, sPow, sLt.eq_1, sLt.eq_2, sLe, sGt, sGe, sMul.eq_1, sMul.eq_2, sMulB.eq_1, sMulB.eq_2, sMulB.eq_3, sLR1.eq_1, sLR2.eq_1, sTR1.eq_1, sTR2.eq_1, sIsBl.eq_1, dZip, kZip.eq_1, dDisp1, dSetN, dConsN, dAppN, dPutN, dFld, dFldS, dFldAug, dMeth, dMake, dGet1, dGet2, dDPop, dLPop, dLPopAt, dLClear, dEnum, kEnum.eq_1, dRng3, kR3.eq_1, dForN, dForKeys, dForItems, dLock, lkE, dBack, kNm_f, kNm_t, nmK_f, nmK_lst, nmK_dK, nmK_dT, isDct_dK, isDct_dT, isDct_fK, isDct_fT, sGetO_K, sGetO_S, sGetO_T, sGetO_fK, sGetO_fT, sIn_K, sIn_fK, sIn_T, sIn_fT, sPutC_lst, sPutC_K, sPutC_S, sPutC_T, keyOf_int, keyOf_str, keysC.eq_1, keysC.eq_2, itemsC.eq_1, rs_ref, rs_non, rs_bl, rs_int, rs_str, rs_ty, rs_lst, rs_tup, rs_dK, rs_dT, rs_scr, rs_wD, rs_iD, rs_lwD, resC_lst, resC_dK, resC_dT, resC_fK, resC_fT, resC_ins, updW_same, putFD.eq_1, putFD.eq_2, isL.eq_1, isL.eq_2, sNeg.eq_1, sLen.eq_1, sLen.eq_2, sLen.eq_3, sLen.eq_4, sLen.eq_5, sAbs.eq_1, sMax, sMin, sInt.eq_1, sInt.eq_2, sStr.eq_1, sList.eq_1, sList.eq_2, sList.eq_3, sTuple.eq_1, sTuple.eq_2, sTuple.eq_3, sIsN, sNotN, sIx.eq_1, sIx.eq_2, sIx.eq_3, sIx.eq_4, sIx.eq_5, sIx.eq_6, sIx.eq_7, sIx.eq_8, sIx.eq_9, sSl.eq_1, sSl.eq_2, sSl.eq_3, sSl.eq_4, sRev.eq_1, sRev.eq_2, sRev.eq_3, sAddI.eq_1, sAddI.eq_2, sPut.eq_1, sPut.eq_2, sPut.eq_3, sPut.eq_4, D.isNon, sEq_ii, sNe_ii, sEq_ww, sNe_ww, sEq_ll, sNe_ll, sIsi_ii, sIsi_ib, sIsi_ll, sIsi_tt, sIsi_ss, sEq_w, sEq_i, sEq_lw, sEq_lw', sEq_lle, sEq_lle', sNe_w, sNe_i, sNe_lle', sNe_lw', sEq_ss, sNe_ss, sEq_bb, sNe_bb, sIn_iw, sIn_ii, sIn_wl, sIn_wl', sSl3.eq_1, sSl3.eq_2, dSl3, isS.eq_1, isL.eq_1, isL.eq_2, isA.eq_1, dM0, dM1, sUpper.eq_1, sLower.eq_1, sStrip1.eq_1, sSfind.eq_1, sScount.eq_1, sSindex.eq_1, sSsplit.eq_1, sSjoin.eq_1, sSjoin.eq_2, fPop_snoc, fPop_snoc', startD, wipeD, List.map_cons, List.map_nil, List.length_cons, List.length_nil, List.length_map, List.cons_append, List.nil_append, List.replicate, List.set_cons_zero, List.set_cons_succ, List.set_nil, List.getElem?_cons_zero, List.getElem?_cons_succ, Bool.true_and, Bool.and_true, Bool.and_false, Bool.false_and, Bool.not_true, Bool.not_false, if_true, if_false, Bool.false_eq_true, reduceIte, and_true, true_and, decide_true, decide_false, not_true, Option.map_none, Option.map_some, Option.getD_none, Option.getD_some, Option.isSome_none, Option.isSome_some, Nat.zero_le, Nat.zero_add, Nat.reduceAdd, Nat.reduceSub, D.scal, Option.some.injEq, exists_eq_left', exists_eq_left, exists_eq', D.int.injEq, D.lst.injEq, D.tup.injEq, D.scr.injEq, D.str.injEq, List.cons.injEq, and_self]
  have hm4 := mod_bd x (j := 4) (by omega)
  refine ⟨by omega, ?_⟩
  refine seq_cut (fun δ w' => w' = noMem ∧ ∃ l : Nat, 1 ≤ l ∧ l ≤ 200 ∧ δ = [some (false, .scr ns), some (false, .int l), none, none, none, none, none, none, none, none, none, none, none, none]) (fun N h => ?_) ?_
  · try simp -implicitDefEqProofs only [dNext, dSet, dLst, dTup, dNil, dCons, dFor, dRng1_u, dRng2_u, dIt_u, oX, dC, dBin, dUn, dVarR, dVar, dApp, dExt, dUpd0, dPut, dAug, dRet, dRetV, dRetN, dBreak, dCont, dIf, dB_u, dTru_u, dTNot, dTAnd, dTOr, dAndV_u, dOrV_u, dNotV_u, dIfX, dChain_u, dCall, dSl, dNoP, dP_u, dLc, dDrop, dFrz, frzD, dAsg, dDicK, dDicT, gN, gT, gsC, gsN, kB.eq_1, kT.eq_1, kT.eq_2, kT.eq_3, kT.eq_4, kT.eq_5, kT.eq_6, kT.eq_7, kT.eq_8, kAnd.eq_1, kOr.eq_1, kNot.eq_1, kIt.eq_1, kIt.eq_2, kIt.eq_3, kIt.eq_4, kP.eq_1, kR1.eq_1, kR2.eq_1, sAdd.eq_1, sAdd.eq_2, sAdd.eq_3, sAdd.eq_4, sJ2.eq_1, sI2.eq_1, sPow, sLt.eq_1, sLt.eq_2, sLe, sGt, sGe, sMul.eq_1, sMul.eq_2, sMulB.eq_1, sMulB.eq_2, sMulB.eq_3, sLR1.eq_1, sLR2.eq_1, sTR1.eq_1, sTR2.eq_1, sIsBl.eq_1, dZip, kZip.eq_1, dDisp1, dSetN, dConsN, dAppN, dPutN, dFld, dFldS, dFldAug, dMeth, dMake, dGet1, dGet2, dDPop, dLPop, dLPopAt, dLClear, dEnum, kEnum.eq_1, dRng3, kR3.eq_1, dForN, dForKeys, dForItems, dLock, lkE, dBack, kNm_f, kNm_t, nmK_f, nmK_lst, nmK_dK, nmK_dT, isDct_dK, isDct_dT, isDct_fK, isDct_fT, sGetO_K, sGetO_S, sGetO_T, sGetO_fK, sGetO_fT, sIn_K, sIn_fK, sIn_T, sIn_fT, sPutC_lst, sPutC_K, sPutC_S, sPutC_T, keyOf_int, keyOf_str, keysC.eq_1, keysC.eq_2, itemsC.eq_1, rs_ref, rs_non, rs_bl, rs_int, rs_str, rs_ty, rs_lst, rs_tup, rs_dK, rs_dT, rs_scr, rs_wD, rs_iD, rs_lwD, resC_lst, resC_dK, resC_dT, resC_fK, resC_fT, resC_ins, updW_same, putFD.eq_1, putFD.eq_2, isL.eq_1, isL.eq_2, sNeg.eq_1, sLen.eq_1, sLen.eq_2, sLen.eq_3, sLen.eq_4, sLen.eq_5, sAbs.eq_1, sMax, sMin, sInt.eq_1, sInt.eq_2, sStr.eq_1, sList.eq_1, sList.eq_2, sList.eq_3, sTuple.eq_1, sTuple.eq_2, sTuple.eq_3, sIsN, sNotN, sIx.eq_1, sIx.eq_2, sIx.eq_3, sIx.eq_4, sIx.eq_5, sIx.eq_6, sIx.eq_7, sIx.eq_8, sIx.eq_9, sSl.eq_1, sSl.eq_2, sSl.eq_3, sSl.eq_4, sRev.eq_1, sRev.eq_2, sRev.eq_3, sAddI.eq_1, sAddI.eq_2, sPut.eq_1, sPut.eq_2, sPut.eq_3, sPut.eq_4, D.isNon, sEq_ii, sNe_ii, sEq_ww, sNe_ww, sEq_ll, sNe_ll, sIsi_ii, sIsi_ib, sIsi_ll, sIsi_tt, sIsi_ss, sEq_w, sEq_i, sEq_lw, sEq_lw', sEq_lle, sEq_lle', sNe_w, sNe_i, sNe_lle', sNe_lw', sEq_ss, sNe_ss, sEq_bb, sNe_bb, sIn_iw, sIn_ii, sIn_wl, sIn_wl', sSl3.eq_1, sSl3.eq_2, dSl3, isS.eq_1, isL.eq_1, isL.eq_2, isA.eq_1, dM0, dM1, sUpper.eq_1, sLower.eq_1, sStrip1.eq_1, sSfind.eq_1, sScount.eq_1, sSindex.eq_1, sSsplit.eq_1, sSjoin.eq_1, sSjoin.eq_2, fPop_snoc, fPop_snoc', startD, wipeD, List.map_cons, List.map_nil, List.length_cons, List.length_nil, List.length_map, List.cons_append, List.nil_append, List.replicate, List.set_cons_zero, List.set_cons_succ, List.set_nil, List.getElem?_cons_zero, List.getElem?_cons_succ, Bool.true_and, Bool.and_true, Bool.and_false, Bool.false_and, Bool.not_true, Bool.not_false, if_true, if_false, Bool.false_eq_true, reduceIte, and_true, true_and, decide_true, decide_false, not_true, Option.map_none, Option.map_some, Option.getD_none, Option.getD_some, Option.isSome_none, Option.isSome_some, Nat.zero_le, Nat.zero_add, Nat.reduceAdd, Nat.reduceSub, D.scal, Option.some.injEq, exists_eq_left', exists_eq_left, exists_eq', D.int.injEq, D.lst.injEq, D.tup.injEq, D.scr.injEq, D.str.injEq, List.cons.injEq, and_self]
    refine ⟨ns, 0, rfl, by omega, by omega, fun y => ?_⟩
    try simp -implicitDefEqProofs only [dNext, dSet, dLst, dTup, dNil, dCons, dFor, dRng1_u, dRng2_u, dIt_u, oX, dC, dBin, dUn, dVarR, dVar, dApp, dExt, dUpd0, dPut, dAug, dRet, dRetV, dRetN, dBreak, dCont, dIf, dB_u, dTru_u, dTNot, dTAnd, dTOr, dAndV_u, dOrV_u, dNotV_u, dIfX, dChain_u, dCall, dSl, dNoP, dP_u, dLc, dDrop, dFrz, frzD, dAsg, dDicK, dDicT, gN, gT, gsC, gsN, kB.eq_1, kT.eq_1, kT.eq_2, kT.eq_3, kT.eq_4, kT.eq_5, kT.eq_6, kT.eq_7, kT.eq_8, kAnd.eq_1, kOr.eq_1, kNot.eq_1, kIt.eq_1, kIt.eq_2, kIt.eq_3, kIt.eq_4, kP.eq_1, kR1.eq_1, kR2.eq_1, sAdd.eq_1, sAdd.eq_2, sAdd.eq_3, sAdd.eq_4, sJ2.eq_1, sI2.eq_1, sPow, sLt.eq_1, sLt.eq_2, sLe, sGt, sGe, sMul.eq_1, sMul.eq_2, sMulB.eq_1, sMulB.eq_2, sMulB.eq_3, sLR1.eq_1, sLR2.eq_1, sTR1.eq_1, sTR2.eq_1, sIsBl.eq_1, dZip, kZip.eq_1, dDisp1, dSetN, dConsN, dAppN, dPutN, dFld, dFldS, dFldAug, dMeth, dMake, dGet1, dGet2, dDPop, dLPop, dLPopAt, dLClear, dEnum, kEnum.eq_1, dRng3, kR3.eq_1, dForN, dForKeys, dForItems, dLock, lkE, dBack, kNm_f, kNm_t, nmK_f, nmK_lst, nmK_dK, nmK_dT, isDct_dK, isDct_dT, isDct_fK, isDct_fT, sGetO_K, sGetO_S, sGetO_T, sGetO_fK, sGetO_fT, sIn_K, sIn_fK, sIn_T, sIn_fT, sPutC_lst, sPutC_K, sPutC_S, sPutC_T, keyOf_int, keyOf_str, keysC.eq_1, keysC.eq_2, itemsC.eq_1, rs_ref, rs_non, rs_bl, rs_int, rs_str, rs_ty, rs_lst, rs_tup, rs_dK, rs_dT, rs_scr, rs_wD, rs_iD, rs_lwD, resC_lst, resC_dK, resC_dT, resC_fK, resC_fT, resC_ins, updW_same, putFD.eq_1, putFD.eq_2, isL.eq_1, isL.eq_2, sNeg.eq_1, sLen.eq_1, sLen.eq_2, sLen.eq_3, sLen.eq_4, sLen.eq_5, sAbs.eq_1, sMax, sMin, sInt.eq_1, sInt.eq_2, sStr.eq_1, sList.eq_1, sList.eq_2, sList.eq_3, sTuple.eq_1, sTuple.eq_2, sTuple.eq_3, sIsN, sNotN, sIx.eq_1, sIx.eq_2, sIx.eq_3, sIx.eq_4, sIx.eq_5, sIx.eq_6, sIx.eq_7, sIx.eq_8, sIx.eq_9, sSl.eq_1, sSl.eq_2, sSl.eq_3, sSl.eq_4, sRev.eq_1, sRev.eq_2, sRev.eq_3, sAddI.eq_1, sAddI.eq_2, sPut.eq_1, sPut.eq_2, sPut.eq_3, sPut.eq_4, D.isNon, sEq_ii, sNe_ii, sEq_ww, sNe_ww, sEq_ll, sNe_ll, sIsi_ii, sIsi_ib, sIsi_ll, sIsi_tt, sIsi_ss, sEq_w, sEq_i, sEq_lw, sEq_lw', sEq_lle, sEq_lle', sNe_w, sNe_i, sNe_lle', sNe_lw', sEq_ss, sNe_ss, sEq_bb, sNe_bb, sIn_iw, sIn_ii, sIn_wl, sIn_wl', sSl3.eq_1, sSl3.eq_2, dSl3, isS.eq_1, isL.eq_1, isL.eq_2, isA.eq_1, dM0, dM1, sUpper.eq_1, sLower.eq_1, sStrip1.eq_1, sSfind.eq_1, sScount.eq_1, sSindex.eq_1, sSsplit.eq_1, sSjoin.eq_1, sSjoin.eq_2, fPop_snoc, fPop_snoc', startD, wipeD, List.map_cons, List.map_nil, List.length_cons, List.length_nil, List.length_map, List.cons_append, List.nil_append, List.replicate, List.set_cons_zero, List.set_cons_succ, List.set_nil, List.getElem?_cons_zero, List.getElem?_cons_succ, Bool.true_and, Bool.and_true, Bool.and_false, Bool.false_and, Bool.not_true, Bool.not_false, if_true, if_false, Bool.false_eq_true, reduceIte, and_true, true_and, decide_true, decide_false, not_true, Option.map_none, Option.map_some, Option.getD_none, Option.getD_some, Option.isSome_none, Option.isSome_some, Nat.zero_le, Nat.zero_add, Nat.reduceAdd, Nat.reduceSub, D.scal, Option.some.injEq, exists_eq_left', exists_eq_left, exists_eq', D.int.injEq, D.lst.injEq, D.tup.injEq, D.scr.injEq, D.str.injEq, List.cons.injEq, and_self]
    refine ⟨divC (by omega) (by omega), by omega, if_join (fun _ => h _ _ ⟨rfl, 200, by omega, by omega, rfl⟩) (fun _ => h _ _ ⟨rfl, (1 + x % 4).toNat, by omega, by omega, ?_⟩)⟩
    rw [Int.toNat_of_nonneg (by omega)]
  rintro δ w' ⟨rfl, l, hl1, hl2, rfl⟩
  refine seq_i ?_
  try simp -implicitDefEqProofs only [dNext, dSet, dLst, dTup, dNil, dCons, dFor, dRng1_u, dRng2_u, dIt_u, oX, dC, dBin, dUn, dVarR, dVar, dApp, dExt, dUpd0, dPut, dAug, dRet, dRetV, dRetN, dBreak, dCont, dIf, dB_u, dTru_u, dTNot, dTAnd, dTOr, dAndV_u, dOrV_u, dNotV_u, dIfX, dChain_u, dCall, dSl, dNoP, dP_u, dLc, dDrop, dFrz, frzD, dAsg, dDicK, dDicT, gN, gT, gsC, gsN, kB.eq_1, kT.eq_1, kT.eq_2, kT.eq_3, kT.eq_4, kT.eq_5, kT.eq_6, kT.eq_7, kT.eq_8, kAnd.eq_1, kOr.eq_1, kNot.eq_1, kIt.eq_1, kIt.eq_2, kIt.eq_3, kIt.eq_4, kP.eq_1, kR1.eq_1, kR2.eq_1, sAdd.eq_1, sAdd.eq_2, sAdd.eq_3, sAdd.eq_4, sJ2.eq_1, sI2.eq_1, sPow, sLt.eq_1, sLt.eq_2, sLe, sGt, sGe, sMul.eq_1, sMul.eq_2, sMulB.eq_1, sMulB.eq_2, sMulB.eq_3, sLR1.eq_1, sLR2.eq_1, sTR1.eq_1, sTR2.eq_1, sIsBl.eq_1, dZip, kZip.eq_1, dDisp1, dSetN, dConsN, dAppN, dPutN, dFld, dFldS, dFldAug, dMeth, dMake, dGet1, dGet2, dDPop, dLPop, dLPopAt, dLClear, dEnum, kEnum.eq_1, dRng3, kR3.eq_1, dForN, dForKeys, dForItems, dLock, lkE, dBack, kNm_f, kNm_t, nmK_f, nmK_lst, nmK_dK, nmK_dT, isDct_dK, isDct_dT, isDct_fK, isDct_fT, sGetO_K, sGetO_S, sGetO_T, sGetO_fK, sGetO_fT, sIn_K, sIn_fK, sIn_T, sIn_fT, sPutC_lst, sPutC_K, sPutC_S, sPutC_T, keyOf_int, keyOf_str, keysC.eq_1, keysC.eq_2, itemsC.eq_1, rs_ref, rs_non, rs_bl, rs_int, rs_str, rs_ty, rs_lst, rs_tup, rs_dK, rs_dT, rs_scr, rs_wD, rs_iD, rs_lwD, resC_lst, resC_dK, resC_dT, resC_fK, resC_fT, resC_ins, updW_same, putFD.eq_1, putFD.eq_2, isL.eq_1, isL.eq_2, sNeg.eq_1, sLen.eq_1, sLen.eq_2, sLen.eq_3, sLen.eq_4, sLen.eq_5, sAbs.eq_1, sMax, sMin, sInt.eq_1, sInt.eq_2, sStr.eq_1, sList.eq_1, sList.eq_2, sList.eq_3, sTuple.eq_1, sTuple.eq_2, sTuple.eq_3, sIsN, sNotN, sIx.eq_1, sIx.eq_2, sIx.eq_3, sIx.eq_4, sIx.eq_5, sIx.eq_6, sIx.eq_7, sIx.eq_8, sIx.eq_9, sSl.eq_1, sSl.eq_2, sSl.eq_3, sSl.eq_4, sRev.eq_1, sRev.eq_2, sRev.eq_3, sAddI.eq_1, sAddI.eq_2, sPut.eq_1, sPut.eq_2, sPut.eq_3, sPut.eq_4, D.isNon, sEq_ii, sNe_ii, sEq_ww, sNe_ww, sEq_ll, sNe_ll, sIsi_ii, sIsi_ib, sIsi_ll, sIsi_tt, sIsi_ss, sEq_w, sEq_i, sEq_lw, sEq_lw', sEq_lle, sEq_lle', sNe_w, sNe_i, sNe_lle', sNe_lw', sEq_ss, sNe_ss, sEq_bb, sNe_bb, sIn_iw, sIn_ii, sIn_wl, sIn_wl', sSl3.eq_1, sSl3.eq_2, dSl3, isS.eq_1, isL.eq_1, isL.eq_2, isA.eq_1, dM0, dM1, sUpper.eq_1, sLower.eq_1, sStrip1.eq_1, sSfind.eq_1, sScount.eq_1, sSindex.eq_1, sSsplit.eq_1, sSjoin.eq_1, sSjoin.eq_2, fPop_snoc, fPop_snoc', startD, wipeD, List.map_cons, List.map_nil, List.length_cons, List.length_nil, List.length_map, List.cons_append, List.nil_append, List.replicate, List.set_cons_zero, List.set_cons_succ, List.set_nil, List.getElem?_cons_zero, List.getElem?_cons_succ, Bool.true_and, Bool.and_true, Bool.and_false, Bool.false_and, Bool.not_true, Bool.not_false, if_true, if_false, Bool.false_eq_true, reduceIte, and_true, true_and, decide_true, decide_false, not_true, Option.map_none, Option.map_some, Option.getD_none, Option.getD_some, Option.isSome_none, Option.isSome_some, Nat.zero_le, Nat.zero_add, Nat.reduceAdd, Nat.reduceSub, D.scal, Option.some.injEq, exists_eq_left', exists_eq_left, exists_eq', D.int.injEq, D.lst.injEq, D.tup.injEq, D.scr.injEq, D.str.injEq, List.cons.injEq, and_self]
  intro p0 hp0
  refine ⟨p0, l, rfl, updW_same, fun w1 r0 R0 fr0 => ?_⟩
  try simp -implicitDefEqProofs only [dNext, dSet, dLst, dTup, dNil, dCons, dFor, dRng1_u, dRng2_u, dIt_u, oX, dC, dBin, dUn, dVarR, dVar, dApp, dExt, dUpd0, dPut, dAug, dRet, dRetV, dRetN, dBreak, dCont, dIf, dB_u, dTru_u, dTNot, dTAnd, dTOr, dAndV_u, dOrV_u, dNotV_u, dIfX, dChain_u, dCall, dSl, dNoP, dP_u, dLc, dDrop, dFrz, frzD, dAsg, dDicK, dDicT, gN, gT, gsC, gsN, kB.eq_1, kT.eq_1, kT.eq_2, kT.eq_3, kT.eq_4, kT.eq_5, kT.eq_6, kT.eq_7, kT.eq_8, kAnd.eq_1, kOr.eq_1, kNot.eq_1, kIt.eq_1, kIt.eq_2, kIt.eq_3, kIt.eq_4, kP.eq_1, kR1.eq_1, kR2.eq_1, sAdd.eq_1, sAdd.eq_2, sAdd.eq_3, sAdd.eq_4, sJ2.eq_1, sI2.eq_1, sPow, sLt.eq_1, sLt.eq_2, sLe, sGt, sGe, sMul.eq_1, sMul.eq_2, sMulB.eq_1, sMulB.eq_2, sMulB.eq_3, sLR1.eq_1, sLR2.eq_1, sTR1.eq_1, sTR2.eq_1, sIsBl.eq_1, dZip, kZip.eq_1, dDisp1, dSetN, dConsN, dAppN, dPutN, dFld, dFldS, dFldAug, dMeth, dMake, dGet1, dGet2, dDPop, dLPop, dLPopAt, dLClear, dEnum, kEnum.eq_1, dRng3, kR3.eq_1, dForN, dForKeys, dForItems, dLock, lkE, dBack, kNm_f, kNm_t, nmK_f, nmK_lst, nmK_dK, nmK_dT, isDct_dK, isDct_dT, isDct_fK, isDct_fT, sGetO_K, sGetO_S, sGetO_T, sGetO_fK, sGetO_fT, sIn_K, sIn_fK, sIn_T, sIn_fT, sPutC_lst, sPutC_K, sPutC_S, sPutC_T, keyOf_int, keyOf_str, keysC.eq_1, keysC.eq_2, itemsC.eq_1, rs_ref, rs_non, rs_bl, rs_int, rs_str, rs_ty, rs_lst, rs_tup, rs_dK, rs_dT, rs_scr, rs_wD, rs_iD, rs_lwD, resC_lst, resC_dK, resC_dT, resC_fK, resC_fT, resC_ins, updW_same, putFD.eq_1, putFD.eq_2, isL.eq_1, isL.eq_2, sNeg.eq_1, sLen.eq_1, sLen.eq_2, sLen.eq_3, sLen.eq_4, sLen.eq_5, sAbs.eq_1, sMax, sMin, sInt.eq_1, sInt.eq_2, sStr.eq_1, sList.eq_1, sList.eq_2, sList.eq_3, sTuple.eq_1, sTuple.eq_2, sTuple.eq_3, sIsN, sNotN, sIx.eq_1, sIx.eq_2, sIx.eq_3, sIx.eq_4, sIx.eq_5, sIx.eq_6, sIx.eq_7, sIx.eq_8, sIx.eq_9, sSl.eq_1, sSl.eq_2, sSl.eq_3, sSl.eq_4, sRev.eq_1, sRev.eq_2, sRev.eq_3, sAddI.eq_1, sAddI.eq_2, sPut.eq_1, sPut.eq_2, sPut.eq_3, sPut.eq_4, D.isNon, sEq_ii, sNe_ii, sEq_ww, sNe_ww, sEq_ll, sNe_ll, sIsi_ii, sIsi_ib, sIsi_ll, sIsi_tt, sIsi_ss, sEq_w, sEq_i, sEq_lw, sEq_lw', sEq_lle, sEq_lle', sNe_w, sNe_i, sNe_lle', sNe_lw', sEq_ss, sNe_ss, sEq_bb, sNe_bb, sIn_iw, sIn_ii, sIn_wl, sIn_wl', sSl3.eq_1, sSl3.eq_2, dSl3, isS.eq_1, isL.eq_1, isL.eq_2, isA.eq_1, dM0, dM1, sUpper.eq_1, sLower.eq_1, sStrip1.eq_1, sSfind.eq_1, sScount.eq_1, sSindex.eq_1, sSsplit.eq_1, sSjoin.eq_1, sSjoin.eq_2, fPop_snoc, fPop_snoc', startD, wipeD, List.map_cons, List.map_nil, List.length_cons, List.length_nil, List.length_map, List.cons_append, List.nil_append, List.replicate, List.set_cons_zero, List.set_cons_succ, List.set_nil, List.getElem?_cons_zero, List.getElem?_cons_succ, Bool.true_and, Bool.and_true, Bool.and_false, Bool.false_and, Bool.not_true, Bool.not_false, if_true, if_false, Bool.false_eq_true, reduceIte, and_true, true_and, decide_true, decide_false, not_true, Option.map_none, Option.map_some, Option.getD_none, Option.getD_some, Option.isSome_none, Option.isSome_some, Nat.zero_le, Nat.zero_add, Nat.reduceAdd, Nat.reduceSub, D.scal, Option.some.injEq, exists_eq_left', exists_eq_left, exists_eq', D.int.injEq, D.lst.injEq, D.tup.injEq, D.scr.injEq, D.str.injEq, List.cons.injEq, and_self]
  intro p1 hp1
  refine ⟨p1, l, rfl, updW_same, fun w2 r1 R1 fr1 => ?_⟩
  try simp -implicitDefEqProofs only [dNext, dSet, dLst, dTup, dNil, dCons, dFor, dRng1_u, dRng2_u, dIt_u, oX, dC, dBin, dUn, dVarR, dVar, dApp, dExt, dUpd0, dPut, dAug, dRet, dRetV, dRetN, dBreak, dCont, dIf, dB_u, dTru_u, dTNot, dTAnd, dTOr, dAndV_u, dOrV_u, dNotV_u, dIfX, dChain_u, dCall, dSl, dNoP, dP_u, dLc, dDrop, dFrz, frzD, dAsg, dDicK, dDicT, gN, gT, gsC, gsN, kB.eq_1, kT.eq_1, kT.eq_2, kT.eq_3, kT.eq_4, kT.eq_5, kT.eq_6, kT.eq_7, kT.eq_8, kAnd.eq_1, kOr.eq_1, kNot.eq_1, kIt.eq_1, kIt.eq_2, kIt.eq_3, kIt.eq_4, kP.eq_1, kR1.eq_1, kR2.eq_1, sAdd.eq_1, sAdd.eq_2, sAdd.eq_3, sAdd.eq_4, sJ2.eq_1, sI2.eq_1, sPow, sLt.eq_1, sLt.eq_2, sLe, sGt, sGe, sMul.eq_1, sMul.eq_2, sMulB.eq_1, sMulB.eq_2, sMulB.eq_3, sLR1.eq_1, sLR2.eq_1, sTR1.eq_1, sTR2.eq_1, sIsBl.eq_1, dZip, kZip.eq_1, dDisp1, dSetN, dConsN, dAppN, dPutN, dFld, dFldS, dFldAug, dMeth, dMake, dGet1, dGet2, dDPop, dLPop, dLPopAt, dLClear, dEnum, kEnum.eq_1, dRng3, kR3.eq_1, dForN, dForKeys, dForItems, dLock, lkE, dBack, kNm_f, kNm_t, nmK_f, nmK_lst, nmK_dK, nmK_dT, isDct_dK, isDct_dT, isDct_fK, isDct_fT, sGetO_K, sGetO_S, sGetO_T, sGetO_fK, sGetO_fT, sIn_K, sIn_fK, sIn_T, sIn_fT, sPutC_lst, sPutC_K, sPutC_S, sPutC_T, keyOf_int, keyOf_str, keysC.eq_1, keysC.eq_2, itemsC.eq_1, rs_ref, rs_non, rs_bl, rs_int, rs_str, rs_ty, rs_lst, rs_tup, rs_dK, rs_dT, rs_scr, rs_wD, rs_iD, rs_lwD, resC_lst, resC_dK, resC_dT, resC_fK, resC_fT, resC_ins, updW_same, putFD.eq_1, putFD.eq_2, isL.eq_1, isL.eq_2, sNeg.eq_1, sLen.eq_1, sLen.eq_2, sLen.eq_3, sLen.eq_4, sLen.eq_5, sAbs.eq_1, sMax, sMin, sInt.eq_1, sInt.eq_2, sStr.eq_1, sList.eq_1, sList.eq_2, sList.eq_3, sTuple.eq_1, sTuple.eq_2, sTuple.eq_3, sIsN, sNotN, sIx.eq_1, sIx.eq_2, sIx.eq_3, sIx.eq_4, sIx.eq_5, sIx.eq_6, sIx.eq_7, sIx.eq_8, sIx.eq_9, sSl.eq_1, sSl.eq_2, sSl.eq_3, sSl.eq_4, sRev.eq_1, sRev.eq_2, sRev.eq_3, sAddI.eq_1, sAddI.eq_2, sPut.eq_1, sPut.eq_2, sPut.eq_3, sPut.eq_4, D.isNon, sEq_ii, sNe_ii, sEq_ww, sNe_ww, sEq_ll, sNe_ll, sIsi_ii, sIsi_ib, sIsi_ll, sIsi_tt, sIsi_ss, sEq_w, sEq_i, sEq_lw, sEq_lw', sEq_lle, sEq_lle', sNe_w, sNe_i, sNe_lle', sNe_lw', sEq_ss, sNe_ss, sEq_bb, sNe_bb, sIn_iw, sIn_ii, sIn_wl, sIn_wl', sSl3.eq_1, sSl3.eq_2, dSl3, isS.eq_1, isL.eq_1, isL.eq_2, isA.eq_1, dM0, dM1, sUpper.eq_1, sLower.eq_1, sStrip1.eq_1, sSfind.eq_1, sScount.eq_1, sSindex.eq_1, sSsplit.eq_1, sSjoin.eq_1, sSjoin.eq_2, fPop_snoc, fPop_snoc', startD, wipeD, List.map_cons, List.map_nil, List.length_cons, List.length_nil, List.length_map, List.cons_append, List.nil_append, List.replicate, List.set_cons_zero, List.set_cons_succ, List.set_nil, List.getElem?_cons_zero, List.getElem?_cons_succ, Bool.true_and, Bool.and_true, Bool.and_false, Bool.false_and, Bool.not_true, Bool.not_false, if_true, if_false, Bool.false_eq_true, reduceIte, and_true, true_and, decide_true, decide_false, not_true, Option.map_none, Option.map_some, Option.getD_none, Option.getD_some, Option.isSome_none, Option.isSome_some, Nat.zero_le, Nat.zero_add, Nat.reduceAdd, Nat.reduceSub, D.scal, Option.some.injEq, exists_eq_left', exists_eq_left, exists_eq', D.int.injEq, D.lst.injEq, D.tup.injEq, D.scr.injEq, D.str.injEq, List.cons.injEq, and_self]
  refine ⟨by omega, fun ab hab => ?_⟩
  refine seq_i ?_
  try simp -implicitDefEqProofs only [dNext, dSet, dLst, dTup, dNil, dCons, dFor, dRng1_u, dRng2_u, dIt_u, oX, dC, dBin, dUn, dVarR, dVar, dApp, dExt, dUpd0, dPut, dAug, dRet, dRetV, dRetN, dBreak, dCont, dIf, dB_u, dTru_u, dTNot, dTAnd, dTOr, dAndV_u, dOrV_u, dNotV_u, dIfX, dChain_u, dCall, dSl, dNoP, dP_u, dLc, dDrop, dFrz, frzD, dAsg, dDicK, dDicT, gN, gT, gsC, gsN, kB.eq_1, kT.eq_1, kT.eq_2, kT.eq_3, kT.eq_4, kT.eq_5, kT.eq_6, kT.eq_7, kT.eq_8, kAnd.eq_1, kOr.eq_1, kNot.eq_1, kIt.eq_1, kIt.eq_2, kIt.eq_3, kIt.eq_4, kP.eq_1, kR1.eq_1, kR2.eq_1, sAdd.eq_1, sAdd.eq_2, sAdd.eq_3, sAdd.eq_4, sJ2.eq_1, sI2.eq_1, sPow, sLt.eq_1, sLt.eq_2, sLe, sGt, sGe, sMul.eq_1, sMul.eq_2, sMulB.eq_1, sMulB.eq_2, sMulB.eq_3, sLR1.eq_1, sLR2.eq_1, sTR1.eq_1, sTR2.eq_1, sIsBl.eq_1, dZip, kZip.eq_1, dDisp1, dSetN, dConsN, dAppN, dPutN, dFld, dFldS, dFldAug, dMeth, dMake, dGet1, dGet2, dDPop, dLPop, dLPopAt, dLClear, dEnum, kEnum.eq_1, dRng3, kR3.eq_1, dForN, dForKeys, dForItems, dLock, lkE, dBack, kNm_f, kNm_t, nmK_f, nmK_lst, nmK_dK, nmK_dT, isDct_dK, isDct_dT, isDct_fK, isDct_fT, sGetO_K, sGetO_S, sGetO_T, sGetO_fK, sGetO_fT, sIn_K, sIn_fK, sIn_T, sIn_fT, sPutC_lst, sPutC_K, sPutC_S, sPutC_T, keyOf_int, keyOf_str, keysC.eq_1, keysC.eq_2, itemsC.eq_1, rs_ref, rs_non, rs_bl, rs_int, rs_str, rs_ty, rs_lst, rs_tup, rs_dK, rs_dT, rs_scr, rs_wD, rs_iD, rs_lwD, resC_lst, resC_dK, resC_dT, resC_fK, resC_fT, resC_ins, updW_same, putFD.eq_1, putFD.eq_2, isL.eq_1, isL.eq_2, sNeg.eq_1, sLen.eq_1, sLen.eq_2, sLen.eq_3, sLen.eq_4, sLen.eq_5, sAbs.eq_1, sMax, sMin, sInt.eq_1, sInt.eq_2, sStr.eq_1, sList.eq_1, sList.eq_2, sList.eq_3, sTuple.eq_1, sTuple.eq_2, sTuple.eq_3, sIsN, sNotN, sIx.eq_1, sIx.eq_2, sIx.eq_3, sIx.eq_4, sIx.eq_5, sIx.eq_6, sIx.eq_7, sIx.eq_8, sIx.eq_9, sSl.eq_1, sSl.eq_2, sSl.eq_3, sSl.eq_4, sRev.eq_1, sRev.eq_2, sRev.eq_3, sAddI.eq_1, sAddI.eq_2, sPut.eq_1, sPut.eq_2, sPut.eq_3, sPut.eq_4, D.isNon, sEq_ii, sNe_ii, sEq_ww, sNe_ww, sEq_ll, sNe_ll, sIsi_ii, sIsi_ib, sIsi_ll, sIsi_tt, sIsi_ss, sEq_w, sEq_i, sEq_lw, sEq_lw', sEq_lle, sEq_lle', sNe_w, sNe_i, sNe_lle', sNe_lw', sEq_ss, sNe_ss, sEq_bb, sNe_bb, sIn_iw, sIn_ii, sIn_wl, sIn_wl', sSl3.eq_1, sSl3.eq_2, dSl3, isS.eq_1, isL.eq_1, isL.eq_2, isA.eq_1, dM0, dM1, sUpper.eq_1, sLower.eq_1, sStrip1.eq_1, sSfind.eq_1, sScount.eq_1, sSindex.eq_1, sSsplit.eq_1, sSjoin.eq_1, sSjoin.eq_2, fPop_snoc, fPop_snoc', startD, wipeD, List.map_cons, List.map_nil, List.length_cons, List.length_nil, List.length_map, List.cons_append, List.nil_append, List.replicate, List.set_cons_zero, List.set_cons_succ, List.set_nil, List.getElem?_cons_zero, List.getElem?_cons_succ, Bool.true_and, Bool.and_true, Bool.and_false, Bool.false_and, Bool.not_true, Bool.not_false, if_true, if_false, Bool.false_eq_true, reduceIte, and_true, true_and, decide_true, decide_false, not_true, Option.map_none, Option.map_some, Option.getD_none, Option.getD_some, Option.isSome_none, Option.isSome_some, Nat.zero_le, Nat.zero_add, Nat.reduceAdd, Nat.reduceSub, D.scal, Option.some.injEq, exists_eq_left', exists_eq_left, exists_eq', D.int.injEq, D.lst.injEq, D.tup.injEq, D.scr.injEq, D.str.injEq, List.cons.injEq, and_self]
  intro d0 hd0 d1 hd1
  refine ⟨by omega, fun aw haw => ?_⟩
  refine seq_i ?_
  try simp -implicitDefEqProofs only [dNext, dSet, dLst, dTup, dNil, dCons, dFor, dRng1_u, dRng2_u, dIt_u, oX, dC, dBin, dUn, dVarR, dVar, dApp, dExt, dUpd0, dPut, dAug, dRet, dRetV, dRetN, dBreak, dCont, dIf, dB_u, dTru_u, dTNot, dTAnd, dTOr, dAndV_u, dOrV_u, dNotV_u, dIfX, dChain_u, dCall, dSl, dNoP, dP_u, dLc, dDrop, dFrz, frzD, dAsg, dDicK, dDicT, gN, gT, gsC, gsN, kB.eq_1, kT.eq_1, kT.eq_2, kT.eq_3, kT.eq_4, kT.eq_5, kT.eq_6, kT.eq_7, kT.eq_8, kAnd.eq_1, kOr.eq_1, kNot.eq_1, kIt.eq_1, kIt.eq_2, kIt.eq_3, kIt.eq_4, kP.eq_1, kR1.eq_1, kR2.eq_1, sAdd.eq_1, sAdd.eq_2, sAdd.eq_3, sAdd.eq_4, sJ2.eq_1, sI2.eq_1, sPow, sLt.eq_1, sLt.eq_2, sLe, sGt, sGe, sMul.eq_1, sMul.eq_2, sMulB.eq_1, sMulB.eq_2, sMulB.eq_3, sLR1.eq_1, sLR2.eq_1, sTR1.eq_1, sTR2.eq_1, sIsBl.eq_1, dZip, kZip.eq_1, dDisp1, dSetN, dConsN, dAppN, dPutN, dFld, dFldS, dFldAug, dMeth, dMake, dGet1, dGet2, dDPop, dLPop, dLPopAt, dLClear, dEnum, kEnum.eq_1, dRng3, kR3.eq_1, dForN, dForKeys, dForItems, dLock, lkE, dBack, kNm_f, kNm_t, nmK_f, nmK_lst, nmK_dK, nmK_dT, isDct_dK, isDct_dT, isDct_fK, isDct_fT, sGetO_K, sGetO_S, sGetO_T, sGetO_fK, sGetO_fT, sIn_K, sIn_fK, sIn_T, sIn_fT, sPutC_lst, sPutC_K, sPutC_S, sPutC_T, keyOf_int, keyOf_str, keysC.eq_1, keysC.eq_2, itemsC.eq_1, rs_ref, rs_non, rs_bl, rs_int, rs_str, rs_ty, rs_lst, rs_tup, rs_dK, rs_dT, rs_scr, rs_wD, rs_iD, rs_lwD, resC_lst, resC_dK, resC_dT, resC_fK, resC_fT, resC_ins, updW_same, putFD.eq_1, putFD.eq_2, isL.eq_1, isL.eq_2, sNeg.eq_1, sLen.eq_1, sLen.eq_2, sLen.eq_3, sLen.eq_4, sLen.eq_5, sAbs.eq_1, sMax, sMin, sInt.eq_1, sInt.eq_2, sStr.eq_1, sList.eq_1, sList.eq_2, sList.eq_3, sTuple.eq_1, sTuple.eq_2, sTuple.eq_3, sIsN, sNotN, sIx.eq_1, sIx.eq_2, sIx.eq_3, sIx.eq_4, sIx.eq_5, sIx.eq_6, sIx.eq_7, sIx.eq_8, sIx.eq_9, sSl.eq_1, sSl.eq_2, sSl.eq_3, sSl.eq_4, sRev.eq_1, sRev.eq_2, sRev.eq_3, sAddI.eq_1, sAddI.eq_2, sPut.eq_1, sPut.eq_2, sPut.eq_3, sPut.eq_4, D.isNon, sEq_ii, sNe_ii, sEq_ww, sNe_ww, sEq_ll, sNe_ll, sIsi_ii, sIsi_ib, sIsi_ll, sIsi_tt, sIsi_ss, sEq_w, sEq_i, sEq_lw, sEq_lw', sEq_lle, sEq_lle', sNe_w, sNe_i, sNe_lle', sNe_lw', sEq_ss, sNe_ss, sEq_bb, sNe_bb, sIn_iw, sIn_ii, sIn_wl, sIn_wl', sSl3.eq_1, sSl3.eq_2, dSl3, isS.eq_1, isL.eq_1, isL.eq_2, isA.eq_1, dM0, dM1, sUpper.eq_1, sLower.eq_1, sStrip1.eq_1, sSfind.eq_1, sScount.eq_1, sSindex.eq_1, sSsplit.eq_1, sSjoin.eq_1, sSjoin.eq_2, fPop_snoc, fPop_snoc', startD, wipeD, List.map_cons, List.map_nil, List.length_cons, List.length_nil, List.length_map, List.cons_append, List.nil_append, List.replicate, List.set_cons_zero, List.set_cons_succ, List.set_nil, List.getElem?_cons_zero, List.getElem?_cons_succ, Bool.true_and, Bool.and_true, Bool.and_false, Bool.false_and, Bool.not_true, Bool.not_false, if_true, if_false, Bool.false_eq_true, reduceIte, and_true, true_and, decide_true, decide_false, not_true, Option.map_none, Option.map_some, Option.getD_none, Option.getD_some, Option.isSome_none, Option.isSome_some, Nat.zero_le, Nat.zero_add, Nat.reduceAdd, Nat.reduceSub, D.scal, Option.some.injEq, exists_eq_left', exists_eq_left, exists_eq', D.int.injEq, D.lst.injEq, D.tup.injEq, D.scr.injEq, D.str.injEq, List.cons.injEq, and_self]
  intro l0 hl0 l1 hl1'
  refine ⟨by omega, fun ar har => ?_⟩
  refine seq_i ?_
  try simp -implicitDefEqProofs only [dNext, dSet, dLst, dTup, dNil, dCons, dFor, dRng1_u, dRng2_u, dIt_u, oX, dC, dBin, dUn, dVarR, dVar, dApp, dExt, dUpd0, dPut, dAug, dRet, dRetV, dRetN, dBreak, dCont, dIf, dB_u, dTru_u, dTNot, dTAnd, dTOr, dAndV_u, dOrV_u, dNotV_u, dIfX, dChain_u, dCall, dSl, dNoP, dP_u, dLc, dDrop, dFrz, frzD, dAsg, dDicK, dDicT, gN, gT, gsC, gsN, kB.eq_1, kT.eq_1, kT.eq_2, kT.eq_3, kT.eq_4, kT.eq_5, kT.eq_6, kT.eq_7, kT.eq_8, kAnd.eq_1, kOr.eq_1, kNot.eq_1, kIt.eq_1, kIt.eq_2, kIt.eq_3, kIt.eq_4, kP.eq_1, kR1.eq_1, kR2.eq_1, sAdd.eq_1, sAdd.eq_2, sAdd.eq_3, sAdd.eq_4, sJ2.eq_1, sI2.eq_1, sPow, sLt.eq_1, sLt.eq_2, sLe, sGt, sGe, sMul.eq_1, sMul.eq_2, sMulB.eq_1, sMulB.eq_2, sMulB.eq_3, sLR1.eq_1, sLR2.eq_1, sTR1.eq_1, sTR2.eq_1, sIsBl.eq_1, dZip, kZip.eq_1, dDisp1, dSetN, dConsN, dAppN, dPutN, dFld, dFldS, dFldAug, dMeth, dMake, dGet1, dGet2, dDPop, dLPop, dLPopAt, dLClear, dEnum, kEnum.eq_1, dRng3, kR3.eq_1, dForN, dForKeys, dForItems, dLock, lkE, dBack, kNm_f, kNm_t, nmK_f, nmK_lst, nmK_dK, nmK_dT, isDct_dK, isDct_dT, isDct_fK, isDct_fT, sGetO_K, sGetO_S, sGetO_T, sGetO_fK, sGetO_fT, sIn_K, sIn_fK, sIn_T, sIn_fT, sPutC_lst, sPutC_K, sPutC_S, sPutC_T, keyOf_int, keyOf_str, keysC.eq_1, keysC.eq_2, itemsC.eq_1, rs_ref, rs_non, rs_bl, rs_int, rs_str, rs_ty, rs_lst, rs_tup, rs_dK, rs_dT, rs_scr, rs_wD, rs_iD, rs_lwD, resC_lst, resC_dK, resC_dT, resC_fK, resC_fT, resC_ins, updW_same, putFD.eq_1, putFD.eq_2, isL.eq_1, isL.eq_2, sNeg.eq_1, sLen.eq_1, sLen.eq_2, sLen.eq_3, sLen.eq_4, sLen.eq_5, sAbs.eq_1, sMax, sMin, sInt.eq_1, sInt.eq_2, sStr.eq_1, sList.eq_1, sList.eq_2, sList.eq_3, sTuple.eq_1, sTuple.eq_2, sTuple.eq_3, sIsN, sNotN, sIx.eq_1, sIx.eq_2, sIx.eq_3, sIx.eq_4, sIx.eq_5, sIx.eq_6, sIx.eq_7, sIx.eq_8, sIx.eq_9, sSl.eq_1, sSl.eq_2, sSl.eq_3, sSl.eq_4, sRev.eq_1, sRev.eq_2, sRev.eq_3, sAddI.eq_1, sAddI.eq_2, sPut.eq_1, sPut.eq_2, sPut.eq_3, sPut.eq_4, D.isNon, sEq_ii, sNe_ii, sEq_ww, sNe_ww, sEq_ll, sNe_ll, sIsi_ii, sIsi_ib, sIsi_ll, sIsi_tt, sIsi_ss, sEq_w, sEq_i, sEq_lw, sEq_lw', sEq_lle, sEq_lle', sNe_w, sNe_i, sNe_lle', sNe_lw', sEq_ss, sNe_ss, sEq_bb, sNe_bb, sIn_iw, sIn_ii, sIn_wl, sIn_wl', sSl3.eq_1, sSl3.eq_2, dSl3, isS.eq_1, isL.eq_1, isL.eq_2, isA.eq_1, dM0, dM1, sUpper.eq_1, sLower.eq_1, sStrip1.eq_1, sSfind.eq_1, sScount.eq_1, sSindex.eq_1, sSsplit.eq_1, sSjoin.eq_1, sSjoin.eq_2, fPop_snoc, fPop_snoc', startD, wipeD, List.map_cons, List.map_nil, List.length_cons, List.length_nil, List.length_map, List.cons_append, List.nil_append, List.replicate, List.set_cons_zero, List.set_cons_succ, List.set_nil, List.getElem?_cons_zero, List.getElem?_cons_succ, Bool.true_and, Bool.and_true, Bool.and_false, Bool.false_and, Bool.not_true, Bool.not_false, if_true, if_false, Bool.false_eq_true, reduceIte, and_true, true_and, decide_true, decide_false, not_true, Option.map_none, Option.map_some, Option.getD_none, Option.getD_some, Option.isSome_none, Option.isSome_some, Nat.zero_le, Nat.zero_add, Nat.reduceAdd, Nat.reduceSub, D.scal, Option.some.injEq, exists_eq_left', exists_eq_left, exists_eq', D.int.injEq, D.lst.injEq, D.tup.injEq, D.scr.injEq, D.str.injEq, List.cons.injEq, and_self]
  intro ah hah
  have I0 := LI.first R0 hp1 R1 fr1 hab hd0 hd1 haw hl0 hl1' har hah
  generalize updW (updW _ ar _) ah _ = w3 at I0 ⊢
  have hr0 : ∀ i, (oj0 l p0 r0 d0 l0 p1 r1 d1 l1 i).rs = [] := fun i => by unfold oj0; split <;> rfl
  generalize oj0 _ _ _ _ _ _ _ _ _ = o0 at I0 hr0
  clear hab hd0 hd1 haw hl0 hl1' har hah R0 R1 fr1 fr0 hp0 hp1
  refine seq_cut (fun δ w => ∃ o hs j6 j7 j8 j9 j10 j11 j12 j13, δ = [some (false, .scr ns), some (false, .int l), some (false, .ref ab), some (false, .ref aw), some (false, .ref ar), some (false, .ref ah), j6, j7, j8, j9, j10, j11, j12, j13] ∧ LI w l ab aw ar ah o hs ∧ (∀ i, i < 2 → (o i).rs.length ≤ 63) ∧ hs.length ≤ 126) (fun N h => ?_) ?_
  · try simp -implicitDefEqProofs only [dNext, dSet, dLst, dTup, dNil, dCons, dFor, dRng1_u, dRng2_u, dIt_u, oX, dC, dBin, dUn, dVarR, dVar, dApp, dExt, dUpd0, dPut, dAug, dRet, dRetV, dRetN, dBreak, dCont, dIf, dB_u, dTru_u, dTNot, dTAnd, dTOr, dAndV_u, dOrV_u, dNotV_u, dIfX, dChain_u, dCall, dSl, dNoP, dP_u, dLc, dDrop, dFrz, frzD, dAsg, dDicK, dDicT, gN, gT, gsC, gsN, kB.eq_1, kT.eq_1, kT.eq_2, kT.eq_3, kT.eq_4, kT.eq_5, kT.eq_6, kT.eq_7, kT.eq_8, kAnd.eq_1, kOr.eq_1, kNot.eq_1, kIt.eq_1, kIt.eq_2, kIt.eq_3, kIt.eq_4, kP.eq_1, kR1.eq_1, kR2.eq_1, sAdd.eq_1, sAdd.eq_2, sAdd.eq_3, sAdd.eq_4, sJ2.eq_1, sI2.eq_1, sPow, sLt.eq_1, sLt.eq_2, sLe, sGt, sGe, sMul.eq_1, sMul.eq_2, sMulB.eq_1, sMulB.eq_2, sMulB.eq_3, sLR1.eq_1, sLR2.eq_1, sTR1.eq_1, sTR2.eq_1, sIsBl.eq_1, dZip, kZip.eq_1, dDisp1, dSetN, dConsN, dAppN, dPutN, dFld, dFldS, dFldAug, dMeth, dMake, dGet1, dGet2, dDPop, dLPop, dLPopAt, dLClear, dEnum, kEnum.eq_1, dRng3, kR3.eq_1, dForN, dForKeys, dForItems, dLock, lkE, dBack, kNm_f, kNm_t, nmK_f, nmK_lst, nmK_dK, nmK_dT, isDct_dK, isDct_dT, isDct_fK, isDct_fT, sGetO_K, sGetO_S, sGetO_T, sGetO_fK, sGetO_fT, sIn_K, sIn_fK, sIn_T, sIn_fT, sPutC_lst, sPutC_K, sPutC_S, sPutC_T, keyOf_int, keyOf_str, keysC.eq_1, keysC.eq_2, itemsC.eq_1, rs_ref, rs_non, rs_bl, rs_int, rs_str, rs_ty, rs_lst, rs_tup, rs_dK, rs_dT, rs_scr, rs_wD, rs_iD, rs_lwD, resC_lst, resC_dK, resC_dT, resC_fK, resC_fT, resC_ins, updW_same, putFD.eq_1, putFD.eq_2, isL.eq_1, isL.eq_2, sNeg.eq_1, sLen.eq_1, sLen.eq_2, sLen.eq_3, sLen.eq_4, sLen.eq_5, sAbs.eq_1, sMax, sMin, sInt.eq_1, sInt.eq_2, sStr.eq_1, sList.eq_1, sList.eq_2, sList.eq_3, sTuple.eq_1, sTuple.eq_2, sTuple.eq_3, sIsN, sNotN, sIx.eq_1, sIx.eq_2, sIx.eq_3, sIx.eq_4, sIx.eq_5, sIx.eq_6, sIx.eq_7, sIx.eq_8, sIx.eq_9, sSl.eq_1, sSl.eq_2, sSl.eq_3, sSl.eq_4, sRev.eq_1, sRev.eq_2, sRev.eq_3, sAddI.eq_1, sAddI.eq_2, sPut.eq_1, sPut.eq_2, sPut.eq_3, sPut.eq_4, D.isNon, sEq_ii, sNe_ii, sEq_ww, sNe_ww, sEq_ll, sNe_ll, sIsi_ii, sIsi_ib, sIsi_ll, sIsi_tt, sIsi_ss, sEq_w, sEq_i, sEq_lw, sEq_lw', sEq_lle, sEq_lle', sNe_w, sNe_i, sNe_lle', sNe_lw', sEq_ss, sNe_ss, sEq_bb, sNe_bb, sIn_iw, sIn_ii, sIn_wl, sIn_wl', sSl3.eq_1, sSl3.eq_2, dSl3, isS.eq_1, isL.eq_1, isL.eq_2, isA.eq_1, dM0, dM1, sUpper.eq_1, sLower.eq_1, sStrip1.eq_1, sSfind.eq_1, sScount.eq_1, sSindex.eq_1, sSsplit.eq_1, sSjoin.eq_1, sSjoin.eq_2, fPop_snoc, fPop_snoc', startD, wipeD, List.map_cons, List.map_nil, List.length_cons, List.length_nil, List.length_map, List.cons_append, List.nil_append, List.replicate, List.set_cons_zero, List.set_cons_succ, List.set_nil, List.getElem?_cons_zero, List.getElem?_cons_succ, Bool.true_and, Bool.and_true, Bool.and_false, Bool.false_and, Bool.not_true, Bool.not_false, if_true, if_false, Bool.false_eq_true, reduceIte, and_true, true_and, decide_true, decide_false, not_true, Option.map_none, Option.map_some, Option.getD_none, Option.getD_some, Option.isSome_none, Option.isSome_some, Nat.zero_le, Nat.zero_add, Nat.reduceAdd, Nat.reduceSub, D.scal, Option.some.injEq, exists_eq_left', exists_eq_left, exists_eq', D.int.injEq, D.lst.injEq, D.tup.injEq, D.scr.injEq, D.str.injEq, List.cons.injEq, and_self]
    have hcut := cutD_le ns (some 1) (some 63)
    refine for_go D.int (fun pre δ w => ∃ o hs j6 j7 j8 j9 j10 j11 j12 j13, δ = [some (false, .scr ns), some (false, .int l), some (false, .ref ab), some (false, .ref aw), some (false, .ref ar), some (false, .ref ah), j6, j7, j8, j9, j10, j11, j12, j13] ∧ LI w l ab aw ar ah o hs ∧ (∀ i, i < 2 → (o i).rs.length ≤ pre.length) ∧ hs.length ≤ 2 * pre.length) _ ⟨o0, [], none, none, none, none, none, none, none, none, rfl, I0, fun i _ => by rw [hr0]; exact Nat.zero_le _, by simp⟩ ?_ ?_
    · rintro pre x post δ w N C e ⟨o, hs, j6, j7, j8, j9, j10, j11, j12, j13, rfl, I, hR, hH⟩ hN hC
      have hpl : pre.length < 63 := by
        have := congrArg List.length e
        simp at this
        omega
      refine seq_i ?_
      try simp -implicitDefEqProofs only [dNext, dSet, dLst, dTup, dNil, dCons, dFor, dRng1_u, dRng2_u, dIt_u, oX, dC, dBin, dUn, dVarR, dVar, dApp, dExt, dUpd0, dPut, dAug, dRet, dRetV, dRetN, dBreak, dCont, dIf, dB_u, dTru_u, dTNot, dTAnd, dTOr, dAndV_u, dOrV_u, dNotV_u, dIfX, dChain_u, dCall, dSl, dNoP, dP_u, dLc, dDrop, dFrz, frzD, dAsg, dDicK, dDicT, gN, gT, gsC, gsN, kB.eq_1, kT.eq_1, kT.eq_2, kT.eq_3, kT.eq_4, kT.eq_5, kT.eq_6, kT.eq_7, kT.eq_8, kAnd.eq_1, kOr.eq_1, kNot.eq_1, kIt.eq_1, kIt.eq_2, kIt.eq_3, kIt.eq_4, kP.eq_1, kR1.eq_1, kR2.eq_1, sAdd.eq_1, sAdd.eq_2, sAdd.eq_3, sAdd.eq_4, sJ2.eq_1, sI2.eq_1, sPow, sLt.eq_1, sLt.eq_2, sLe, sGt, sGe, sMul.eq_1, sMul.eq_2, sMulB.eq_1, sMulB.eq_2, sMulB.eq_3, sLR1.eq_1, sLR2.eq_1, sTR1.eq_1, sTR2.eq_1, sIsBl.eq_1, dZip, kZip.eq_1, dDisp1, dSetN, dConsN, dAppN, dPutN, dFld, dFldS, dFldAug, dMeth, dMake, dGet1, dGet2, dDPop, dLPop, dLPopAt, dLClear, dEnum, kEnum.eq_1, dRng3, kR3.eq_1, dForN, dForKeys, dForItems, dLock, lkE, dBack, kNm_f, kNm_t, nmK_f, nmK_lst, nmK_dK, nmK_dT, isDct_dK, isDct_dT, isDct_fK, isDct_fT, sGetO_K, sGetO_S, sGetO_T, sGetO_fK, sGetO_fT, sIn_K, sIn_fK, sIn_T, sIn_fT, sPutC_lst, sPutC_K, sPutC_S, sPutC_T, keyOf_int, keyOf_str, keysC.eq_1, keysC.eq_2, itemsC.eq_1, rs_ref, rs_non, rs_bl, rs_int, rs_str, rs_ty, rs_lst, rs_tup, rs_dK, rs_dT, rs_scr, rs_wD, rs_iD, rs_lwD, resC_lst, resC_dK, resC_dT, resC_fK, resC_fT, resC_ins, updW_same, putFD.eq_1, putFD.eq_2, isL.eq_1, isL.eq_2, sNeg.eq_1, sLen.eq_1, sLen.eq_2, sLen.eq_3, sLen.eq_4, sLen.eq_5, sAbs.eq_1, sMax, sMin, sInt.eq_1, sInt.eq_2, sStr.eq_1, sList.eq_1, sList.eq_2, sList.eq_3, sTuple.eq_1, sTuple.eq_2, sTuple.eq_3, sIsN, sNotN, sIx.eq_1, sIx.eq_2, sIx.eq_3, sIx.eq_4, sIx.eq_5, sIx.eq_6, sIx.eq_7, sIx.eq_8, sIx.eq_9, sSl.eq_1, sSl.eq_2, sSl.eq_3, sSl.eq_4, sRev.eq_1, sRev.eq_2, sRev.eq_3, sAddI.eq_1, sAddI.eq_2, sPut.eq_1, sPut.eq_2, sPut.eq_3, sPut.eq_4, D.isNon, sEq_ii, sNe_ii, sEq_ww, sNe_ww, sEq_ll, sNe_ll, sIsi_ii, sIsi_ib, sIsi_ll, sIsi_tt, sIsi_ss, sEq_w, sEq_i, sEq_lw, sEq_lw', sEq_lle, sEq_lle', sNe_w, sNe_i, sNe_lle', sNe_lw', sEq_ss, sNe_ss, sEq_bb, sNe_bb, sIn_iw, sIn_ii, sIn_wl, sIn_wl', sSl3.eq_1, sSl3.eq_2, dSl3, isS.eq_1, isL.eq_1, isL.eq_2, isA.eq_1, dM0, dM1, sUpper.eq_1, sLower.eq_1, sStrip1.eq_1, sSfind.eq_1, sScount.eq_1, sSindex.eq_1, sSsplit.eq_1, sSjoin.eq_1, sSjoin.eq_2, fPop_snoc, fPop_snoc', startD, wipeD, List.map_cons, List.map_nil, List.length_cons, List.length_nil, List.length_map, List.cons_append, List.nil_append, List.replicate, List.set_cons_zero, List.set_cons_succ, List.set_nil, List.getElem?_cons_zero, List.getElem?_cons_succ, Bool.true_and, Bool.and_true, Bool.and_false, Bool.false_and, Bool.not_true, Bool.not_false, if_true, if_false, Bool.false_eq_true, reduceIte, and_true, true_and, decide_true, decide_false, not_true, Option.map_none, Option.map_some, Option.getD_none, Option.getD_some, Option.isSome_none, Option.isSome_some, Nat.zero_le, Nat.zero_add, Nat.reduceAdd, Nat.reduceSub, D.scal, Option.some.injEq, exists_eq_left', exists_eq_left, exists_eq', D.int.injEq, D.lst.injEq, D.tup.injEq, D.scr.injEq, D.str.injEq, List.cons.injEq, and_self]
      have hx2 := mod_bd x (j := 2) (by omega)
      obtain ⟨i, hi⟩ : ∃ i : Nat, x % 2 = (i : Int) := ⟨(x % 2).toNat, by omega⟩
      have hi2 : i < 2 := by omega
      have aB : atI [D.ref (o 0).p, D.ref (o 1).p] (i : Int) = some (.ref (o i).p) := at2 (fun i => D.ref (o i).p) hi2
      have aW : atI [D.ref (o 0).d, D.ref (o 1).d] (i : Int) = some (.ref (o i).d) := at2 (fun i => D.ref (o i).d) hi2
      have aR : atI [D.ref (o 0).lc, D.ref (o 1).lc] (i : Int) = some (.ref (o i).lc) := at2 (fun i => D.ref (o i).lc) hi2
      have k := I.ok i hi2
      have hRi := hR i hi2
      refine ⟨by omega, ?_⟩
      rw [hi]
      refine seq_i ?_
      try simp -implicitDefEqProofs only [I.hr, aR, k.hl, dNext, dSet, dLst, dTup, dNil, dCons, dFor, dRng1_u, dRng2_u, dIt_u, oX, dC, dBin, dUn, dVarR, dVar, dApp, dExt, dUpd0, dPut, dAug, dRet, dRetV, dRetN, dBreak, dCont, dIf, dB_u, dTru_u, dTNot, dTAnd, dTOr, dAndV_u, dOrV_u, dNotV_u, dIfX, dChain_u, dCall, dSl, dNoP, dP_u, dLc, dDrop, dFrz, frzD, dAsg, dDicK, dDicT, gN, gT, gsC, gsN, kB.eq_1, kT.eq_1, kT.eq_2, kT.eq_3, kT.eq_4, kT.eq_5, kT.eq_6, kT.eq_7, kT.eq_8, kAnd.eq_1, kOr.eq_1, kNot.eq_1, kIt.eq_1, kIt.eq_2, kIt.eq_3, kIt.eq_4, kP.eq_1, kR1.eq_1, kR2.eq_1, sAdd.eq_1, sAdd.eq_2, sAdd.eq_3, sAdd.eq_4, sJ2.eq_1, sI2.eq_1, sPow, sLt.eq_1, sLt.eq_2, sLe, sGt, sGe, sMul.eq_1, sMul.eq_2, sMulB.eq_1, sMulB.eq_2, sMulB.eq_3, sLR1.eq_1, sLR2.eq_1, sTR1.eq_1, sTR2.eq_1, sIsBl.eq_1, dZip, kZip.eq_1, dDisp1, dSetN, dConsN, dAppN, dPutN, dFld, dFldS, dFldAug, dMeth, dMake, dGet1, dGet2, dDPop, dLPop, dLPopAt, dLClear, dEnum, kEnum.eq_1, dRng3, kR3.eq_1, dForN, dForKeys, dForItems, dLock, lkE, dBack, kNm_f, kNm_t, nmK_f, nmK_lst, nmK_dK, nmK_dT, isDct_dK, isDct_dT, isDct_fK, isDct_fT, sGetO_K, sGetO_S, sGetO_T, sGetO_fK, sGetO_fT, sIn_K, sIn_fK, sIn_T, sIn_fT, sPutC_lst, sPutC_K, sPutC_S, sPutC_T, keyOf_int, keyOf_str, keysC.eq_1, keysC.eq_2, itemsC.eq_1, rs_ref, rs_non, rs_bl, rs_int, rs_str, rs_ty, rs_lst, rs_tup, rs_dK, rs_dT, rs_scr, rs_wD, rs_iD, rs_lwD, resC_lst, resC_dK, resC_dT, resC_fK, resC_fT, resC_ins, updW_same, putFD.eq_1, putFD.eq_2, isL.eq_1, isL.eq_2, sNeg.eq_1, sLen.eq_1, sLen.eq_2, sLen.eq_3, sLen.eq_4, sLen.eq_5, sAbs.eq_1, sMax, sMin, sInt.eq_1, sInt.eq_2, sStr.eq_1, sList.eq_1, sList.eq_2, sList.eq_3, sTuple.eq_1, sTuple.eq_2, sTuple.eq_3, sIsN, sNotN, sIx.eq_1, sIx.eq_2, sIx.eq_3, sIx.eq_4, sIx.eq_5, sIx.eq_6, sIx.eq_7, sIx.eq_8, sIx.eq_9, sSl.eq_1, sSl.eq_2, sSl.eq_3, sSl.eq_4, sRev.eq_1, sRev.eq_2, sRev.eq_3, sAddI.eq_1, sAddI.eq_2, sPut.eq_1, sPut.eq_2, sPut.eq_3, sPut.eq_4, D.isNon, sEq_ii, sNe_ii, sEq_ww, sNe_ww, sEq_ll, sNe_ll, sIsi_ii, sIsi_ib, sIsi_ll, sIsi_tt, sIsi_ss, sEq_w, sEq_i, sEq_lw, sEq_lw', sEq_lle, sEq_lle', sNe_w, sNe_i, sNe_lle', sNe_lw', sEq_ss, sNe_ss, sEq_bb, sNe_bb, sIn_iw, sIn_ii, sIn_wl, sIn_wl', sSl3.eq_1, sSl3.eq_2, dSl3, isS.eq_1, isL.eq_1, isL.eq_2, isA.eq_1, dM0, dM1, sUpper.eq_1, sLower.eq_1, sStrip1.eq_1, sSfind.eq_1, sScount.eq_1, sSindex.eq_1, sSsplit.eq_1, sSjoin.eq_1, sSjoin.eq_2, fPop_snoc, fPop_snoc', startD, wipeD, List.map_cons, List.map_nil, List.length_cons, List.length_nil, List.length_map, List.cons_append, List.nil_append, List.replicate, List.set_cons_zero, List.set_cons_succ, List.set_nil, List.getElem?_cons_zero, List.getElem?_cons_succ, Bool.true_and, Bool.and_true, Bool.and_false, Bool.false_and, Bool.not_true, Bool.not_false, if_true, if_false, Bool.false_eq_true, reduceIte, and_true, true_and, decide_true, decide_false, not_true, Option.map_none, Option.map_some, Option.getD_none, Option.getD_some, Option.isSome_none, Option.isSome_some, Nat.zero_le, Nat.zero_add, Nat.reduceAdd, Nat.reduceSub, D.scal, Option.some.injEq, exists_eq_left', exists_eq_left, exists_eq', D.int.injEq, D.lst.injEq, D.tup.injEq, D.scr.injEq, D.str.injEq, List.cons.injEq, and_self]
      refine seq_i ?_
      try simp -implicitDefEqProofs only [dNext, dSet, dLst, dTup, dNil, dCons, dFor, dRng1_u, dRng2_u, dIt_u, oX, dC, dBin, dUn, dVarR, dVar, dApp, dExt, dUpd0, dPut, dAug, dRet, dRetV, dRetN, dBreak, dCont, dIf, dB_u, dTru_u, dTNot, dTAnd, dTOr, dAndV_u, dOrV_u, dNotV_u, dIfX, dChain_u, dCall, dSl, dNoP, dP_u, dLc, dDrop, dFrz, frzD, dAsg, dDicK, dDicT, gN, gT, gsC, gsN, kB.eq_1, kT.eq_1, kT.eq_2, kT.eq_3, kT.eq_4, kT.eq_5, kT.eq_6, kT.eq_7, kT.eq_8, kAnd.eq_1, kOr.eq_1, kNot.eq_1, kIt.eq_1, kIt.eq_2, kIt.eq_3, kIt.eq_4, kP.eq_1, kR1.eq_1, kR2.eq_1, sAdd.eq_1, sAdd.eq_2, sAdd.eq_3, sAdd.eq_4, sJ2.eq_1, sI2.eq_1, sPow, sLt.eq_1, sLt.eq_2, sLe, sGt, sGe, sMul.eq_1, sMul.eq_2, sMulB.eq_1, sMulB.eq_2, sMulB.eq_3, sLR1.eq_1, sLR2.eq_1, sTR1.eq_1, sTR2.eq_1, sIsBl.eq_1, dZip, kZip.eq_1, dDisp1, dSetN, dConsN, dAppN, dPutN, dFld, dFldS, dFldAug, dMeth, dMake, dGet1, dGet2, dDPop, dLPop, dLPopAt, dLClear, dEnum, kEnum.eq_1, dRng3, kR3.eq_1, dForN, dForKeys, dForItems, dLock, lkE, dBack, kNm_f, kNm_t, nmK_f, nmK_lst, nmK_dK, nmK_dT, isDct_dK, isDct_dT, isDct_fK, isDct_fT, sGetO_K, sGetO_S, sGetO_T, sGetO_fK, sGetO_fT, sIn_K, sIn_fK, sIn_T, sIn_fT, sPutC_lst, sPutC_K, sPutC_S, sPutC_T, keyOf_int, keyOf_str, keysC.eq_1, keysC.eq_2, itemsC.eq_1, rs_ref, rs_non, rs_bl, rs_int, rs_str, rs_ty, rs_lst, rs_tup, rs_dK, rs_dT, rs_scr, rs_wD, rs_iD, rs_lwD, resC_lst, resC_dK, resC_dT, resC_fK, resC_fT, resC_ins, updW_same, putFD.eq_1, putFD.eq_2, isL.eq_1, isL.eq_2, sNeg.eq_1, sLen.eq_1, sLen.eq_2, sLen.eq_3, sLen.eq_4, sLen.eq_5, sAbs.eq_1, sMax, sMin, sInt.eq_1, sInt.eq_2, sStr.eq_1, sList.eq_1, sList.eq_2, sList.eq_3, sTuple.eq_1, sTuple.eq_2, sTuple.eq_3, sIsN, sNotN, sIx.eq_1, sIx.eq_2, sIx.eq_3, sIx.eq_4, sIx.eq_5, sIx.eq_6, sIx.eq_7, sIx.eq_8, sIx.eq_9, sSl.eq_1, sSl.eq_2, sSl.eq_3, sSl.eq_4, sRev.eq_1, sRev.eq_2, sRev.eq_3, sAddI.eq_1, sAddI.eq_2, sPut.eq_1, sPut.eq_2, sPut.eq_3, sPut.eq_4, D.isNon, sEq_ii, sNe_ii, sEq_ww, sNe_ww, sEq_ll, sNe_ll, sIsi_ii, sIsi_ib, sIsi_ll, sIsi_tt, sIsi_ss, sEq_w, sEq_i, sEq_lw, sEq_lw', sEq_lle, sEq_lle', sNe_w, sNe_i, sNe_lle', sNe_lw', sEq_ss, sNe_ss, sEq_bb, sNe_bb, sIn_iw, sIn_ii, sIn_wl, sIn_wl', sSl3.eq_1, sSl3.eq_2, dSl3, isS.eq_1, isL.eq_1, isL.eq_2, isA.eq_1, dM0, dM1, sUpper.eq_1, sLower.eq_1, sStrip1.eq_1, sSfind.eq_1, sScount.eq_1, sSindex.eq_1, sSsplit.eq_1, sSjoin.eq_1, sSjoin.eq_2, fPop_snoc, fPop_snoc', startD, wipeD, List.map_cons, List.map_nil, List.length_cons, List.length_nil, List.length_map, List.cons_append, List.nil_append, List.replicate, List.set_cons_zero, List.set_cons_succ, List.set_nil, List.getElem?_cons_zero, List.getElem?_cons_succ, Bool.true_and, Bool.and_true, Bool.and_false, Bool.false_and, Bool.not_true, Bool.not_false, if_true, if_false, Bool.false_eq_true, reduceIte, and_true, true_and, decide_true, decide_false, not_true, Option.map_none, Option.map_some, Option.getD_none, Option.getD_some, Option.isSome_none, Option.isSome_some, Nat.zero_le, Nat.zero_add, Nat.reduceAdd, Nat.reduceSub, D.scal, Option.some.injEq, exists_eq_left', exists_eq_left, exists_eq', D.int.injEq, D.lst.injEq, D.tup.injEq, D.scr.injEq, D.str.injEq, List.cons.injEq, and_self]
      have hmr := mod_bd (x / 2 * 48271 % 2147483647) (j := ((o i).rs.length : Int) + 1) (by omega)
      refine ⟨divC (by omega) (by omega), mulC' (by omega) (by omega), by omega, by omega, ?_⟩
      obtain ⟨room, hroom⟩ : ∃ room : Nat, x / 2 * 48271 % 2147483647 % (((o i).rs.length : Int) + 1) = (room : Int) := ⟨(x / 2 * 48271 % 2147483647 % (((o i).rs.length : Int) + 1)).toNat, by omega⟩
      have hrl : room ≤ (o i).rs.length := by omega
      rw [hroom]
      obtain ⟨km, hkm⟩ := k.kat hrl
      refine seq_i ?_
      try simp -implicitDefEqProofs only [dNext, dSet, dLst, dTup, dNil, dCons, dFor, dRng1_u, dRng2_u, dIt_u, oX, dC, dBin, dUn, dVarR, dVar, dApp, dExt, dUpd0, dPut, dAug, dRet, dRetV, dRetN, dBreak, dCont, dIf, dB_u, dTru_u, dTNot, dTAnd, dTOr, dAndV_u, dOrV_u, dNotV_u, dIfX, dChain_u, dCall, dSl, dNoP, dP_u, dLc, dDrop, dFrz, frzD, dAsg, dDicK, dDicT, gN, gT, gsC, gsN, kB.eq_1, kT.eq_1, kT.eq_2, kT.eq_3, kT.eq_4, kT.eq_5, kT.eq_6, kT.eq_7, kT.eq_8, kAnd.eq_1, kOr.eq_1, kNot.eq_1, kIt.eq_1, kIt.eq_2, kIt.eq_3, kIt.eq_4, kP.eq_1, kR1.eq_1, kR2.eq_1, sAdd.eq_1, sAdd.eq_2, sAdd.eq_3, sAdd.eq_4, sJ2.eq_1, sI2.eq_1, sPow, sLt.eq_1, sLt.eq_2, sLe, sGt, sGe, sMul.eq_1, sMul.eq_2, sMulB.eq_1, sMulB.eq_2, sMulB.eq_3, sLR1.eq_1, sLR2.eq_1, sTR1.eq_1, sTR2.eq_1, sIsBl.eq_1, dZip, kZip.eq_1, dDisp1, dSetN, dConsN, dAppN, dPutN, dFld, dFldS, dFldAug, dMeth, dMake, dGet1, dGet2, dDPop, dLPop, dLPopAt, dLClear, dEnum, kEnum.eq_1, dRng3, kR3.eq_1, dForN, dForKeys, dForItems, dLock, lkE, dBack, kNm_f, kNm_t, nmK_f, nmK_lst, nmK_dK, nmK_dT, isDct_dK, isDct_dT, isDct_fK, isDct_fT, sGetO_K, sGetO_S, sGetO_T, sGetO_fK, sGetO_fT, sIn_K, sIn_fK, sIn_T, sIn_fT, sPutC_lst, sPutC_K, sPutC_S, sPutC_T, keyOf_int, keyOf_str, keysC.eq_1, keysC.eq_2, itemsC.eq_1, rs_ref, rs_non, rs_bl, rs_int, rs_str, rs_ty, rs_lst, rs_tup, rs_dK, rs_dT, rs_scr, rs_wD, rs_iD, rs_lwD, resC_lst, resC_dK, resC_dT, resC_fK, resC_fT, resC_ins, updW_same, putFD.eq_1, putFD.eq_2, isL.eq_1, isL.eq_2, sNeg.eq_1, sLen.eq_1, sLen.eq_2, sLen.eq_3, sLen.eq_4, sLen.eq_5, sAbs.eq_1, sMax, sMin, sInt.eq_1, sInt.eq_2, sStr.eq_1, sList.eq_1, sList.eq_2, sList.eq_3, sTuple.eq_1, sTuple.eq_2, sTuple.eq_3, sIsN, sNotN, sIx.eq_1, sIx.eq_2, sIx.eq_3, sIx.eq_4, sIx.eq_5, sIx.eq_6, sIx.eq_7, sIx.eq_8, sIx.eq_9, sSl.eq_1, sSl.eq_2, sSl.eq_3, sSl.eq_4, sRev.eq_1, sRev.eq_2, sRev.eq_3, sAddI.eq_1, sAddI.eq_2, sPut.eq_1, sPut.eq_2, sPut.eq_3, sPut.eq_4, D.isNon, sEq_ii, sNe_ii, sEq_ww, sNe_ww, sEq_ll, sNe_ll, sIsi_ii, sIsi_ib, sIsi_ll, sIsi_tt, sIsi_ss, sEq_w, sEq_i, sEq_lw, sEq_lw', sEq_lle, sEq_lle', sNe_w, sNe_i, sNe_lle', sNe_lw', sEq_ss, sNe_ss, sEq_bb, sNe_bb, sIn_iw, sIn_ii, sIn_wl, sIn_wl', sSl3.eq_1, sSl3.eq_2, dSl3, isS.eq_1, isL.eq_1, isL.eq_2, isA.eq_1, dM0, dM1, sUpper.eq_1, sLower.eq_1, sStrip1.eq_1, sSfind.eq_1, sScount.eq_1, sSindex.eq_1, sSsplit.eq_1, sSjoin.eq_1, sSjoin.eq_2, fPop_snoc, fPop_snoc', startD, wipeD, List.map_cons, List.map_nil, List.length_cons, List.length_nil, List.length_map, List.cons_append, List.nil_append, List.replicate, List.set_cons_zero, List.set_cons_succ, List.set_nil, List.getElem?_cons_zero, List.getElem?_cons_succ, Bool.true_and, Bool.and_true, Bool.and_false, Bool.false_and, Bool.not_true, Bool.not_false, if_true, if_false, Bool.false_eq_true, reduceIte, and_true, true_and, decide_true, decide_false, not_true, Option.map_none, Option.map_some, Option.getD_none, Option.getD_some, Option.isSome_none, Option.isSome_some, Nat.zero_le, Nat.zero_add, Nat.reduceAdd, Nat.reduceSub, D.scal, Option.some.injEq, exists_eq_left', exists_eq_left, exists_eq', D.int.injEq, D.lst.injEq, D.tup.injEq, D.scr.injEq, D.str.injEq, List.cons.injEq, and_self]
      refine ⟨divC (by omega) (by omega), mulC' (by omega) (by omega), by omega, _, l, rfl, hl1, hl2, fun step hstep => ?_⟩
      refine seq_i ?_
      try simp -implicitDefEqProofs only [I.hb, aB, I.hw, aW, not_true, dNext, dSet, dLst, dTup, dNil, dCons, dFor, dRng1_u, dRng2_u, dIt_u, oX, dC, dBin, dUn, dVarR, dVar, dApp, dExt, dUpd0, dPut, dAug, dRet, dRetV, dRetN, dBreak, dCont, dIf, dB_u, dTru_u, dTNot, dTAnd, dTOr, dAndV_u, dOrV_u, dNotV_u, dIfX, dChain_u, dCall, dSl, dNoP, dP_u, dLc, dDrop, dFrz, frzD, dAsg, dDicK, dDicT, gN, gT, gsC, gsN, kB.eq_1, kT.eq_1, kT.eq_2, kT.eq_3, kT.eq_4, kT.eq_5, kT.eq_6, kT.eq_7, kT.eq_8, kAnd.eq_1, kOr.eq_1, kNot.eq_1, kIt.eq_1, kIt.eq_2, kIt.eq_3, kIt.eq_4, kP.eq_1, kR1.eq_1, kR2.eq_1, sAdd.eq_1, sAdd.eq_2, sAdd.eq_3, sAdd.eq_4, sJ2.eq_1, sI2.eq_1, sPow, sLt.eq_1, sLt.eq_2, sLe, sGt, sGe, sMul.eq_1, sMul.eq_2, sMulB.eq_1, sMulB.eq_2, sMulB.eq_3, sLR1.eq_1, sLR2.eq_1, sTR1.eq_1, sTR2.eq_1, sIsBl.eq_1, dZip, kZip.eq_1, dDisp1, dSetN, dConsN, dAppN, dPutN, dFld, dFldS, dFldAug, dMeth, dMake, dGet1, dGet2, dDPop, dLPop, dLPopAt, dLClear, dEnum, kEnum.eq_1, dRng3, kR3.eq_1, dForN, dForKeys, dForItems, dLock, lkE, dBack, kNm_f, kNm_t, nmK_f, nmK_lst, nmK_dK, nmK_dT, isDct_dK, isDct_dT, isDct_fK, isDct_fT, sGetO_K, sGetO_S, sGetO_T, sGetO_fK, sGetO_fT, sIn_K, sIn_fK, sIn_T, sIn_fT, sPutC_lst, sPutC_K, sPutC_S, sPutC_T, keyOf_int, keyOf_str, keysC.eq_1, keysC.eq_2, itemsC.eq_1, rs_ref, rs_non, rs_bl, rs_int, rs_str, rs_ty, rs_lst, rs_tup, rs_dK, rs_dT, rs_scr, rs_wD, rs_iD, rs_lwD, resC_lst, resC_dK, resC_dT, resC_fK, resC_fT, resC_ins, updW_same, putFD.eq_1, putFD.eq_2, isL.eq_1, isL.eq_2, sNeg.eq_1, sLen.eq_1, sLen.eq_2, sLen.eq_3, sLen.eq_4, sLen.eq_5, sAbs.eq_1, sMax, sMin, sInt.eq_1, sInt.eq_2, sStr.eq_1, sList.eq_1, sList.eq_2, sList.eq_3, sTuple.eq_1, sTuple.eq_2, sTuple.eq_3, sIsN, sNotN, sIx.eq_1, sIx.eq_2, sIx.eq_3, sIx.eq_4, sIx.eq_5, sIx.eq_6, sIx.eq_7, sIx.eq_8, sIx.eq_9, sSl.eq_1, sSl.eq_2, sSl.eq_3, sSl.eq_4, sRev.eq_1, sRev.eq_2, sRev.eq_3, sAddI.eq_1, sAddI.eq_2, sPut.eq_1, sPut.eq_2, sPut.eq_3, sPut.eq_4, D.isNon, sEq_ii, sNe_ii, sEq_ww, sNe_ww, sEq_ll, sNe_ll, sIsi_ii, sIsi_ib, sIsi_ll, sIsi_tt, sIsi_ss, sEq_w, sEq_i, sEq_lw, sEq_lw', sEq_lle, sEq_lle', sNe_w, sNe_i, sNe_lle', sNe_lw', sEq_ss, sNe_ss, sEq_bb, sNe_bb, sIn_iw, sIn_ii, sIn_wl, sIn_wl', sSl3.eq_1, sSl3.eq_2, dSl3, isS.eq_1, isL.eq_1, isL.eq_2, isA.eq_1, dM0, dM1, sUpper.eq_1, sLower.eq_1, sStrip1.eq_1, sSfind.eq_1, sScount.eq_1, sSindex.eq_1, sSsplit.eq_1, sSjoin.eq_1, sSjoin.eq_2, fPop_snoc, fPop_snoc', startD, wipeD, List.map_cons, List.map_nil, List.length_cons, List.length_nil, List.length_map, List.cons_append, List.nil_append, List.replicate, List.set_cons_zero, List.set_cons_succ, List.set_nil, List.getElem?_cons_zero, List.getElem?_cons_succ, Bool.true_and, Bool.and_true, Bool.and_false, Bool.false_and, Bool.not_true, Bool.not_false, if_true, if_false, Bool.false_eq_true, reduceIte, and_true, true_and, decide_true, decide_false, not_true, Option.map_none, Option.map_some, Option.getD_none, Option.getD_some, Option.isSome_none, Option.isSome_some, Nat.zero_le, Nat.zero_add, Nat.reduceAdd, Nat.reduceSub, D.scal, Option.some.injEq, exists_eq_left', exists_eq_left, exists_eq', D.int.injEq, D.lst.injEq, D.tup.injEq, D.scr.injEq, D.str.injEq, List.cons.injEq, and_self]
      refine ⟨(o i).p, (o i).r, (o i).S, room, km, step, .ref (o i).d, (o i).m, rfl, k.rm, hkm, .inl (by rw [rs_ref, k.hd]; rfl), k.kn room km step hkm, ?_⟩
      try simp -implicitDefEqProofs only [not_true, dNext, dSet, dLst, dTup, dNil, dCons, dFor, dRng1_u, dRng2_u, dIt_u, oX, dC, dBin, dUn, dVarR, dVar, dApp, dExt, dUpd0, dPut, dAug, dRet, dRetV, dRetN, dBreak, dCont, dIf, dB_u, dTru_u, dTNot, dTAnd, dTOr, dAndV_u, dOrV_u, dNotV_u, dIfX, dChain_u, dCall, dSl, dNoP, dP_u, dLc, dDrop, dFrz, frzD, dAsg, dDicK, dDicT, gN, gT, gsC, gsN, kB.eq_1, kT.eq_1, kT.eq_2, kT.eq_3, kT.eq_4, kT.eq_5, kT.eq_6, kT.eq_7, kT.eq_8, kAnd.eq_1, kOr.eq_1, kNot.eq_1, kIt.eq_1, kIt.eq_2, kIt.eq_3, kIt.eq_4, kP.eq_1, kR1.eq_1, kR2.eq_1, sAdd.eq_1, sAdd.eq_2, sAdd.eq_3, sAdd.eq_4, sJ2.eq_1, sI2.eq_1, sPow, sLt.eq_1, sLt.eq_2, sLe, sGt, sGe, sMul.eq_1, sMul.eq_2, sMulB.eq_1, sMulB.eq_2, sMulB.eq_3, sLR1.eq_1, sLR2.eq_1, sTR1.eq_1, sTR2.eq_1, sIsBl.eq_1, dZip, kZip.eq_1, dDisp1, dSetN, dConsN, dAppN, dPutN, dFld, dFldS, dFldAug, dMeth, dMake, dGet1, dGet2, dDPop, dLPop, dLPopAt, dLClear, dEnum, kEnum.eq_1, dRng3, kR3.eq_1, dForN, dForKeys, dForItems, dLock, lkE, dBack, kNm_f, kNm_t, nmK_f, nmK_lst, nmK_dK, nmK_dT, isDct_dK, isDct_dT, isDct_fK, isDct_fT, sGetO_K, sGetO_S, sGetO_T, sGetO_fK, sGetO_fT, sIn_K, sIn_fK, sIn_T, sIn_fT, sPutC_lst, sPutC_K, sPutC_S, sPutC_T, keyOf_int, keyOf_str, keysC.eq_1, keysC.eq_2, itemsC.eq_1, rs_ref, rs_non, rs_bl, rs_int, rs_str, rs_ty, rs_lst, rs_tup, rs_dK, rs_dT, rs_scr, rs_wD, rs_iD, rs_lwD, resC_lst, resC_dK, resC_dT, resC_fK, resC_fT, resC_ins, updW_same, putFD.eq_1, putFD.eq_2, isL.eq_1, isL.eq_2, sNeg.eq_1, sLen.eq_1, sLen.eq_2, sLen.eq_3, sLen.eq_4, sLen.eq_5, sAbs.eq_1, sMax, sMin, sInt.eq_1, sInt.eq_2, sStr.eq_1, sList.eq_1, sList.eq_2, sList.eq_3, sTuple.eq_1, sTuple.eq_2, sTuple.eq_3, sIsN, sNotN, sIx.eq_1, sIx.eq_2, sIx.eq_3, sIx.eq_4, sIx.eq_5, sIx.eq_6, sIx.eq_7, sIx.eq_8, sIx.eq_9, sSl.eq_1, sSl.eq_2, sSl.eq_3, sSl.eq_4, sRev.eq_1, sRev.eq_2, sRev.eq_3, sAddI.eq_1, sAddI.eq_2, sPut.eq_1, sPut.eq_2, sPut.eq_3, sPut.eq_4, D.isNon, sEq_ii, sNe_ii, sEq_ww, sNe_ww, sEq_ll, sNe_ll, sIsi_ii, sIsi_ib, sIsi_ll, sIsi_tt, sIsi_ss, sEq_w, sEq_i, sEq_lw, sEq_lw', sEq_lle, sEq_lle', sNe_w, sNe_i, sNe_lle', sNe_lw', sEq_ss, sNe_ss, sEq_bb, sNe_bb, sIn_iw, sIn_ii, sIn_wl, sIn_wl', sSl3.eq_1, sSl3.eq_2, dSl3, isS.eq_1, isL.eq_1, isL.eq_2, isA.eq_1, dM0, dM1, sUpper.eq_1, sLower.eq_1, sStrip1.eq_1, sSfind.eq_1, sScount.eq_1, sSindex.eq_1, sSsplit.eq_1, sSjoin.eq_1, sSjoin.eq_2, fPop_snoc, fPop_snoc', startD, wipeD, List.map_cons, List.map_nil, List.length_cons, List.length_nil, List.length_map, List.cons_append, List.nil_append, List.replicate, List.set_cons_zero, List.set_cons_succ, List.set_nil, List.getElem?_cons_zero, List.getElem?_cons_succ, Bool.true_and, Bool.and_true, Bool.and_false, Bool.false_and, Bool.not_true, Bool.not_false, if_true, if_false, Bool.false_eq_true, reduceIte, and_true, true_and, decide_true, decide_false, not_true, Option.map_none, Option.map_some, Option.getD_none, Option.getD_some, Option.isSome_none, Option.isSome_some, Nat.zero_le, Nat.zero_add, Nat.reduceAdd, Nat.reduceSub, D.scal, Option.some.injEq, exists_eq_left', exists_eq_left, exists_eq', D.int.injEq, D.lst.injEq, D.tup.injEq, D.scr.injEq, D.str.injEq, List.cons.injEq, and_self]
      have hv := wm_val (o i).m room step
      refine seq_cut (fun δ w => ∃ o j8 j11, δ = [some (false, .scr ns), some (false, .int l), some (false, .ref ab), some (false, .ref aw), some (false, .ref ar), some (false, .ref ah), some (false, .int x), some (false, .int i), j8, some (false, .int room), some (false, .int step), j11, j12, j13] ∧ LI w l ab aw ar ah o hs ∧ (∀ i, i < 2 → (o i).rs.length ≤ pre.length + 1)) (fun N2 h2 => ?_) ?_
      · try simp -implicitDefEqProofs only [I.hw, aW, k.hd, dNext, dSet, dLst, dTup, dNil, dCons, dFor, dRng1_u, dRng2_u, dIt_u, oX, dC, dBin, dUn, dVarR, dVar, dApp, dExt, dUpd0, dPut, dAug, dRet, dRetV, dRetN, dBreak, dCont, dIf, dB_u, dTru_u, dTNot, dTAnd, dTOr, dAndV_u, dOrV_u, dNotV_u, dIfX, dChain_u, dCall, dSl, dNoP, dP_u, dLc, dDrop, dFrz, frzD, dAsg, dDicK, dDicT, gN, gT, gsC, gsN, kB.eq_1, kT.eq_1, kT.eq_2, kT.eq_3, kT.eq_4, kT.eq_5, kT.eq_6, kT.eq_7, kT.eq_8, kAnd.eq_1, kOr.eq_1, kNot.eq_1, kIt.eq_1, kIt.eq_2, kIt.eq_3, kIt.eq_4, kP.eq_1, kR1.eq_1, kR2.eq_1, sAdd.eq_1, sAdd.eq_2, sAdd.eq_3, sAdd.eq_4, sJ2.eq_1, sI2.eq_1, sPow, sLt.eq_1, sLt.eq_2, sLe, sGt, sGe, sMul.eq_1, sMul.eq_2, sMulB.eq_1, sMulB.eq_2, sMulB.eq_3, sLR1.eq_1, sLR2.eq_1, sTR1.eq_1, sTR2.eq_1, sIsBl.eq_1, dZip, kZip.eq_1, dDisp1, dSetN, dConsN, dAppN, dPutN, dFld, dFldS, dFldAug, dMeth, dMake, dGet1, dGet2, dDPop, dLPop, dLPopAt, dLClear, dEnum, kEnum.eq_1, dRng3, kR3.eq_1, dForN, dForKeys, dForItems, dLock, lkE, dBack, kNm_f, kNm_t, nmK_f, nmK_lst, nmK_dK, nmK_dT, isDct_dK, isDct_dT, isDct_fK, isDct_fT, sGetO_K, sGetO_S, sGetO_T, sGetO_fK, sGetO_fT, sIn_K, sIn_fK, sIn_T, sIn_fT, sPutC_lst, sPutC_K, sPutC_S, sPutC_T, keyOf_int, keyOf_str, keysC.eq_1, keysC.eq_2, itemsC.eq_1, rs_ref, rs_non, rs_bl, rs_int, rs_str, rs_ty, rs_lst, rs_tup, rs_dK, rs_dT, rs_scr, rs_wD, rs_iD, rs_lwD, resC_lst, resC_dK, resC_dT, resC_fK, resC_fT, resC_ins, updW_same, putFD.eq_1, putFD.eq_2, isL.eq_1, isL.eq_2, sNeg.eq_1, sLen.eq_1, sLen.eq_2, sLen.eq_3, sLen.eq_4, sLen.eq_5, sAbs.eq_1, sMax, sMin, sInt.eq_1, sInt.eq_2, sStr.eq_1, sList.eq_1, sList.eq_2, sList.eq_3, sTuple.eq_1, sTuple.eq_2, sTuple.eq_3, sIsN, sNotN, sIx.eq_1, sIx.eq_2, sIx.eq_3, sIx.eq_4, sIx.eq_5, sIx.eq_6, sIx.eq_7, sIx.eq_8, sIx.eq_9, sSl.eq_1, sSl.eq_2, sSl.eq_3, sSl.eq_4, sRev.eq_1, sRev.eq_2, sRev.eq_3, sAddI.eq_1, sAddI.eq_2, sPut.eq_1, sPut.eq_2, sPut.eq_3, sPut.eq_4, D.isNon, sEq_ii, sNe_ii, sEq_ww, sNe_ww, sEq_ll, sNe_ll, sIsi_ii, sIsi_ib, sIsi_ll, sIsi_tt, sIsi_ss, sEq_w, sEq_i, sEq_lw, sEq_lw', sEq_lle, sEq_lle', sNe_w, sNe_i, sNe_lle', sNe_lw', sEq_ss, sNe_ss, sEq_bb, sNe_bb, sIn_iw, sIn_ii, sIn_wl, sIn_wl', sSl3.eq_1, sSl3.eq_2, dSl3, isS.eq_1, isL.eq_1, isL.eq_2, isA.eq_1, dM0, dM1, sUpper.eq_1, sLower.eq_1, sStrip1.eq_1, sSfind.eq_1, sScount.eq_1, sSindex.eq_1, sSsplit.eq_1, sSjoin.eq_1, sSjoin.eq_2, fPop_snoc, fPop_snoc', startD, wipeD, List.map_cons, List.map_nil, List.length_cons, List.length_nil, List.length_map, List.cons_append, List.nil_append, List.replicate, List.set_cons_zero, List.set_cons_succ, List.set_nil, List.getElem?_cons_zero, List.getElem?_cons_succ, Bool.true_and, Bool.and_true, Bool.and_false, Bool.false_and, Bool.not_true, Bool.not_false, if_true, if_false, Bool.false_eq_true, reduceIte, and_true, true_and, decide_true, decide_false, not_true, Option.map_none, Option.map_some, Option.getD_none, Option.getD_some, Option.isSome_none, Option.isSome_some, Nat.zero_le, Nat.zero_add, Nat.reduceAdd, Nat.reduceSub, D.scal, Option.some.injEq, exists_eq_left', exists_eq_left, exists_eq', D.int.injEq, D.lst.injEq, D.tup.injEq, D.scr.injEq, D.str.injEq, List.cons.injEq, and_self]
        refine ⟨by decide, pk_use ?_⟩
        rw [hv]
        cases e2 : fget (o i).m (room, step) with
        | some n =>
          try simp -implicitDefEqProofs only [dNext, dSet, dLst, dTup, dNil, dCons, dFor, dRng1_u, dRng2_u, dIt_u, oX, dC, dBin, dUn, dVarR, dVar, dApp, dExt, dUpd0, dPut, dAug, dRet, dRetV, dRetN, dBreak, dCont, dIf, dB_u, dTru_u, dTNot, dTAnd, dTOr, dAndV_u, dOrV_u, dNotV_u, dIfX, dChain_u, dCall, dSl, dNoP, dP_u, dLc, dDrop, dFrz, frzD, dAsg, dDicK, dDicT, gN, gT, gsC, gsN, kB.eq_1, kT.eq_1, kT.eq_2, kT.eq_3, kT.eq_4, kT.eq_5, kT.eq_6, kT.eq_7, kT.eq_8, kAnd.eq_1, kOr.eq_1, kNot.eq_1, kIt.eq_1, kIt.eq_2, kIt.eq_3, kIt.eq_4, kP.eq_1, kR1.eq_1, kR2.eq_1, sAdd.eq_1, sAdd.eq_2, sAdd.eq_3, sAdd.eq_4, sJ2.eq_1, sI2.eq_1, sPow, sLt.eq_1, sLt.eq_2, sLe, sGt, sGe, sMul.eq_1, sMul.eq_2, sMulB.eq_1, sMulB.eq_2, sMulB.eq_3, sLR1.eq_1, sLR2.eq_1, sTR1.eq_1, sTR2.eq_1, sIsBl.eq_1, dZip, kZip.eq_1, dDisp1, dSetN, dConsN, dAppN, dPutN, dFld, dFldS, dFldAug, dMeth, dMake, dGet1, dGet2, dDPop, dLPop, dLPopAt, dLClear, dEnum, kEnum.eq_1, dRng3, kR3.eq_1, dForN, dForKeys, dForItems, dLock, lkE, dBack, kNm_f, kNm_t, nmK_f, nmK_lst, nmK_dK, nmK_dT, isDct_dK, isDct_dT, isDct_fK, isDct_fT, sGetO_K, sGetO_S, sGetO_T, sGetO_fK, sGetO_fT, sIn_K, sIn_fK, sIn_T, sIn_fT, sPutC_lst, sPutC_K, sPutC_S, sPutC_T, keyOf_int, keyOf_str, keysC.eq_1, keysC.eq_2, itemsC.eq_1, rs_ref, rs_non, rs_bl, rs_int, rs_str, rs_ty, rs_lst, rs_tup, rs_dK, rs_dT, rs_scr, rs_wD, rs_iD, rs_lwD, resC_lst, resC_dK, resC_dT, resC_fK, resC_fT, resC_ins, updW_same, putFD.eq_1, putFD.eq_2, isL.eq_1, isL.eq_2, sNeg.eq_1, sLen.eq_1, sLen.eq_2, sLen.eq_3, sLen.eq_4, sLen.eq_5, sAbs.eq_1, sMax, sMin, sInt.eq_1, sInt.eq_2, sStr.eq_1, sList.eq_1, sList.eq_2, sList.eq_3, sTuple.eq_1, sTuple.eq_2, sTuple.eq_3, sIsN, sNotN, sIx.eq_1, sIx.eq_2, sIx.eq_3, sIx.eq_4, sIx.eq_5, sIx.eq_6, sIx.eq_7, sIx.eq_8, sIx.eq_9, sSl.eq_1, sSl.eq_2, sSl.eq_3, sSl.eq_4, sRev.eq_1, sRev.eq_2, sRev.eq_3, sAddI.eq_1, sAddI.eq_2, sPut.eq_1, sPut.eq_2, sPut.eq_3, sPut.eq_4, D.isNon, sEq_ii, sNe_ii, sEq_ww, sNe_ww, sEq_ll, sNe_ll, sIsi_ii, sIsi_ib, sIsi_ll, sIsi_tt, sIsi_ss, sEq_w, sEq_i, sEq_lw, sEq_lw', sEq_lle, sEq_lle', sNe_w, sNe_i, sNe_lle', sNe_lw', sEq_ss, sNe_ss, sEq_bb, sNe_bb, sIn_iw, sIn_ii, sIn_wl, sIn_wl', sSl3.eq_1, sSl3.eq_2, dSl3, isS.eq_1, isL.eq_1, isL.eq_2, isA.eq_1, dM0, dM1, sUpper.eq_1, sLower.eq_1, sStrip1.eq_1, sSfind.eq_1, sScount.eq_1, sSindex.eq_1, sSsplit.eq_1, sSjoin.eq_1, sSjoin.eq_2, fPop_snoc, fPop_snoc', startD, wipeD, List.map_cons, List.map_nil, List.length_cons, List.length_nil, List.length_map, List.cons_append, List.nil_append, List.replicate, List.set_cons_zero, List.set_cons_succ, List.set_nil, List.getElem?_cons_zero, List.getElem?_cons_succ, Bool.true_and, Bool.and_true, Bool.and_false, Bool.false_and, Bool.not_true, Bool.not_false, if_true, if_false, Bool.false_eq_true, reduceIte, and_true, true_and, decide_true, decide_false, not_true, Option.map_none, Option.map_some, Option.getD_none, Option.getD_some, Option.isSome_none, Option.isSome_some, Nat.zero_le, Nat.zero_add, Nat.reduceAdd, Nat.reduceSub, D.scal, Option.some.injEq, exists_eq_left', exists_eq_left, exists_eq', D.int.injEq, D.lst.injEq, D.tup.injEq, D.scr.injEq, D.str.injEq, List.cons.injEq, and_self]
          exact h2 _ _ ⟨o, _, _, rfl, I, fun i hi => by have := hR i hi; omega⟩
        | none =>
          have hnS : (o i).S.el.length = (o i).rs.length + 1 := by rw [k.el]; simp
          try simp -implicitDefEqProofs only [dNext, dSet, dLst, dTup, dNil, dCons, dFor, dRng1_u, dRng2_u, dIt_u, oX, dC, dBin, dUn, dVarR, dVar, dApp, dExt, dUpd0, dPut, dAug, dRet, dRetV, dRetN, dBreak, dCont, dIf, dB_u, dTru_u, dTNot, dTAnd, dTOr, dAndV_u, dOrV_u, dNotV_u, dIfX, dChain_u, dCall, dSl, dNoP, dP_u, dLc, dDrop, dFrz, frzD, dAsg, dDicK, dDicT, gN, gT, gsC, gsN, kB.eq_1, kT.eq_1, kT.eq_2, kT.eq_3, kT.eq_4, kT.eq_5, kT.eq_6, kT.eq_7, kT.eq_8, kAnd.eq_1, kOr.eq_1, kNot.eq_1, kIt.eq_1, kIt.eq_2, kIt.eq_3, kIt.eq_4, kP.eq_1, kR1.eq_1, kR2.eq_1, sAdd.eq_1, sAdd.eq_2, sAdd.eq_3, sAdd.eq_4, sJ2.eq_1, sI2.eq_1, sPow, sLt.eq_1, sLt.eq_2, sLe, sGt, sGe, sMul.eq_1, sMul.eq_2, sMulB.eq_1, sMulB.eq_2, sMulB.eq_3, sLR1.eq_1, sLR2.eq_1, sTR1.eq_1, sTR2.eq_1, sIsBl.eq_1, dZip, kZip.eq_1, dDisp1, dSetN, dConsN, dAppN, dPutN, dFld, dFldS, dFldAug, dMeth, dMake, dGet1, dGet2, dDPop, dLPop, dLPopAt, dLClear, dEnum, kEnum.eq_1, dRng3, kR3.eq_1, dForN, dForKeys, dForItems, dLock, lkE, dBack, kNm_f, kNm_t, nmK_f, nmK_lst, nmK_dK, nmK_dT, isDct_dK, isDct_dT, isDct_fK, isDct_fT, sGetO_K, sGetO_S, sGetO_T, sGetO_fK, sGetO_fT, sIn_K, sIn_fK, sIn_T, sIn_fT, sPutC_lst, sPutC_K, sPutC_S, sPutC_T, keyOf_int, keyOf_str, keysC.eq_1, keysC.eq_2, itemsC.eq_1, rs_ref, rs_non, rs_bl, rs_int, rs_str, rs_ty, rs_lst, rs_tup, rs_dK, rs_dT, rs_scr, rs_wD, rs_iD, rs_lwD, resC_lst, resC_dK, resC_dT, resC_fK, resC_fT, resC_ins, updW_same, putFD.eq_1, putFD.eq_2, isL.eq_1, isL.eq_2, sNeg.eq_1, sLen.eq_1, sLen.eq_2, sLen.eq_3, sLen.eq_4, sLen.eq_5, sAbs.eq_1, sMax, sMin, sInt.eq_1, sInt.eq_2, sStr.eq_1, sList.eq_1, sList.eq_2, sList.eq_3, sTuple.eq_1, sTuple.eq_2, sTuple.eq_3, sIsN, sNotN, sIx.eq_1, sIx.eq_2, sIx.eq_3, sIx.eq_4, sIx.eq_5, sIx.eq_6, sIx.eq_7, sIx.eq_8, sIx.eq_9, sSl.eq_1, sSl.eq_2, sSl.eq_3, sSl.eq_4, sRev.eq_1, sRev.eq_2, sRev.eq_3, sAddI.eq_1, sAddI.eq_2, sPut.eq_1, sPut.eq_2, sPut.eq_3, sPut.eq_4, D.isNon, sEq_ii, sNe_ii, sEq_ww, sNe_ww, sEq_ll, sNe_ll, sIsi_ii, sIsi_ib, sIsi_ll, sIsi_tt, sIsi_ss, sEq_w, sEq_i, sEq_lw, sEq_lw', sEq_lle, sEq_lle', sNe_w, sNe_i, sNe_lle', sNe_lw', sEq_ss, sNe_ss, sEq_bb, sNe_bb, sIn_iw, sIn_ii, sIn_wl, sIn_wl', sSl3.eq_1, sSl3.eq_2, dSl3, isS.eq_1, isL.eq_1, isL.eq_2, isA.eq_1, dM0, dM1, sUpper.eq_1, sLower.eq_1, sStrip1.eq_1, sSfind.eq_1, sScount.eq_1, sSindex.eq_1, sSsplit.eq_1, sSjoin.eq_1, sSjoin.eq_2, fPop_snoc, fPop_snoc', startD, wipeD, List.map_cons, List.map_nil, List.length_cons, List.length_nil, List.length_map, List.cons_append, List.nil_append, List.replicate, List.set_cons_zero, List.set_cons_succ, List.set_nil, List.getElem?_cons_zero, List.getElem?_cons_succ, Bool.true_and, Bool.and_true, Bool.and_false, Bool.false_and, Bool.not_true, Bool.not_false, if_true, if_false, Bool.false_eq_true, reduceIte, and_true, true_and, decide_true, decide_false, not_true, Option.map_none, Option.map_some, Option.getD_none, Option.getD_some, Option.isSome_none, Option.isSome_some, Nat.zero_le, Nat.zero_add, Nat.reduceAdd, Nat.reduceSub, D.scal, Option.some.injEq, exists_eq_left', exists_eq_left, exists_eq', D.int.injEq, D.lst.injEq, D.tup.injEq, D.scr.injEq, D.str.injEq, List.cons.injEq, and_self]
          refine seq_i ?_
          try simp -implicitDefEqProofs only [I.hb, aB, dNext, dSet, dLst, dTup, dNil, dCons, dFor, dRng1_u, dRng2_u, dIt_u, oX, dC, dBin, dUn, dVarR, dVar, dApp, dExt, dUpd0, dPut, dAug, dRet, dRetV, dRetN, dBreak, dCont, dIf, dB_u, dTru_u, dTNot, dTAnd, dTOr, dAndV_u, dOrV_u, dNotV_u, dIfX, dChain_u, dCall, dSl, dNoP, dP_u, dLc, dDrop, dFrz, frzD, dAsg, dDicK, dDicT, gN, gT, gsC, gsN, kB.eq_1, kT.eq_1, kT.eq_2, kT.eq_3, kT.eq_4, kT.eq_5, kT.eq_6, kT.eq_7, kT.eq_8, kAnd.eq_1, kOr.eq_1, kNot.eq_1, kIt.eq_1, kIt.eq_2, kIt.eq_3, kIt.eq_4, kP.eq_1, kR1.eq_1, kR2.eq_1, sAdd.eq_1, sAdd.eq_2, sAdd.eq_3, sAdd.eq_4, sJ2.eq_1, sI2.eq_1, sPow, sLt.eq_1, sLt.eq_2, sLe, sGt, sGe, sMul.eq_1, sMul.eq_2, sMulB.eq_1, sMulB.eq_2, sMulB.eq_3, sLR1.eq_1, sLR2.eq_1, sTR1.eq_1, sTR2.eq_1, sIsBl.eq_1, dZip, kZip.eq_1, dDisp1, dSetN, dConsN, dAppN, dPutN, dFld, dFldS, dFldAug, dMeth, dMake, dGet1, dGet2, dDPop, dLPop, dLPopAt, dLClear, dEnum, kEnum.eq_1, dRng3, kR3.eq_1, dForN, dForKeys, dForItems, dLock, lkE, dBack, kNm_f, kNm_t, nmK_f, nmK_lst, nmK_dK, nmK_dT, isDct_dK, isDct_dT, isDct_fK, isDct_fT, sGetO_K, sGetO_S, sGetO_T, sGetO_fK, sGetO_fT, sIn_K, sIn_fK, sIn_T, sIn_fT, sPutC_lst, sPutC_K, sPutC_S, sPutC_T, keyOf_int, keyOf_str, keysC.eq_1, keysC.eq_2, itemsC.eq_1, rs_ref, rs_non, rs_bl, rs_int, rs_str, rs_ty, rs_lst, rs_tup, rs_dK, rs_dT, rs_scr, rs_wD, rs_iD, rs_lwD, resC_lst, resC_dK, resC_dT, resC_fK, resC_fT, resC_ins, updW_same, putFD.eq_1, putFD.eq_2, isL.eq_1, isL.eq_2, sNeg.eq_1, sLen.eq_1, sLen.eq_2, sLen.eq_3, sLen.eq_4, sLen.eq_5, sAbs.eq_1, sMax, sMin, sInt.eq_1, sInt.eq_2, sStr.eq_1, sList.eq_1, sList.eq_2, sList.eq_3, sTuple.eq_1, sTuple.eq_2, sTuple.eq_3, sIsN, sNotN, sIx.eq_1, sIx.eq_2, sIx.eq_3, sIx.eq_4, sIx.eq_5, sIx.eq_6, sIx.eq_7, sIx.eq_8, sIx.eq_9, sSl.eq_1, sSl.eq_2, sSl.eq_3, sSl.eq_4, sRev.eq_1, sRev.eq_2, sRev.eq_3, sAddI.eq_1, sAddI.eq_2, sPut.eq_1, sPut.eq_2, sPut.eq_3, sPut.eq_4, D.isNon, sEq_ii, sNe_ii, sEq_ww, sNe_ww, sEq_ll, sNe_ll, sIsi_ii, sIsi_ib, sIsi_ll, sIsi_tt, sIsi_ss, sEq_w, sEq_i, sEq_lw, sEq_lw', sEq_lle, sEq_lle', sNe_w, sNe_i, sNe_lle', sNe_lw', sEq_ss, sNe_ss, sEq_bb, sNe_bb, sIn_iw, sIn_ii, sIn_wl, sIn_wl', sSl3.eq_1, sSl3.eq_2, dSl3, isS.eq_1, isL.eq_1, isL.eq_2, isA.eq_1, dM0, dM1, sUpper.eq_1, sLower.eq_1, sStrip1.eq_1, sSfind.eq_1, sScount.eq_1, sSindex.eq_1, sSsplit.eq_1, sSjoin.eq_1, sSjoin.eq_2, fPop_snoc, fPop_snoc', startD, wipeD, List.map_cons, List.map_nil, List.length_cons, List.length_nil, List.length_map, List.cons_append, List.nil_append, List.replicate, List.set_cons_zero, List.set_cons_succ, List.set_nil, List.getElem?_cons_zero, List.getElem?_cons_succ, Bool.true_and, Bool.and_true, Bool.and_false, Bool.false_and, Bool.not_true, Bool.not_false, if_true, if_false, Bool.false_eq_true, reduceIte, and_true, true_and, decide_true, decide_false, not_true, Option.map_none, Option.map_some, Option.getD_none, Option.getD_some, Option.isSome_none, Option.isSome_some, Nat.zero_le, Nat.zero_add, Nat.reduceAdd, Nat.reduceSub, D.scal, Option.some.injEq, exists_eq_left', exists_eq_left, exists_eq', D.int.injEq, D.lst.injEq, D.tup.injEq, D.scr.injEq, D.str.injEq, List.cons.injEq, and_self]
          refine ⟨(o i).p, _, rfl, k.rm.ins, no_make .., (o i).p, (o i).r, (o i).S, room, km, step, rfl, k.rm, hkm, by omega, by rw [k.td]; simp; omega, ?_, fun w4 r' R' fr => ?_⟩
          · have := k.kml room km hkm
            omega
          obtain ⟨nw1, nw2, nw3⟩ := Oj.nfp (I.nf i hi2 aw (by simp))
          obtain ⟨nr1, nr2, nr3⟩ := Oj.nfp (I.nf i hi2 ar (by simp))
          have aw4 := (fr.cell I.hw nw1).1
          have ar4 := (fr.cell I.hr nr1).1
          have ad4 := (fr.cell k.hd (k.rm.notT k.hd)).1
          have al4 := (fr.cell k.hl k.nl).1
          have ndl : (o i).lc ≠ (o i).d := fun z => by rw [z, ad4] at al4; cases al4
          rw [hnS]
          refine seq_i ?_
          try simp -implicitDefEqProofs only [not_true, dNext, dSet, dLst, dTup, dNil, dCons, dFor, dRng1_u, dRng2_u, dIt_u, oX, dC, dBin, dUn, dVarR, dVar, dApp, dExt, dUpd0, dPut, dAug, dRet, dRetV, dRetN, dBreak, dCont, dIf, dB_u, dTru_u, dTNot, dTAnd, dTOr, dAndV_u, dOrV_u, dNotV_u, dIfX, dChain_u, dCall, dSl, dNoP, dP_u, dLc, dDrop, dFrz, frzD, dAsg, dDicK, dDicT, gN, gT, gsC, gsN, kB.eq_1, kT.eq_1, kT.eq_2, kT.eq_3, kT.eq_4, kT.eq_5, kT.eq_6, kT.eq_7, kT.eq_8, kAnd.eq_1, kOr.eq_1, kNot.eq_1, kIt.eq_1, kIt.eq_2, kIt.eq_3, kIt.eq_4, kP.eq_1, kR1.eq_1, kR2.eq_1, sAdd.eq_1, sAdd.eq_2, sAdd.eq_3, sAdd.eq_4, sJ2.eq_1, sI2.eq_1, sPow, sLt.eq_1, sLt.eq_2, sLe, sGt, sGe, sMul.eq_1, sMul.eq_2, sMulB.eq_1, sMulB.eq_2, sMulB.eq_3, sLR1.eq_1, sLR2.eq_1, sTR1.eq_1, sTR2.eq_1, sIsBl.eq_1, dZip, kZip.eq_1, dDisp1, dSetN, dConsN, dAppN, dPutN, dFld, dFldS, dFldAug, dMeth, dMake, dGet1, dGet2, dDPop, dLPop, dLPopAt, dLClear, dEnum, kEnum.eq_1, dRng3, kR3.eq_1, dForN, dForKeys, dForItems, dLock, lkE, dBack, kNm_f, kNm_t, nmK_f, nmK_lst, nmK_dK, nmK_dT, isDct_dK, isDct_dT, isDct_fK, isDct_fT, sGetO_K, sGetO_S, sGetO_T, sGetO_fK, sGetO_fT, sIn_K, sIn_fK, sIn_T, sIn_fT, sPutC_lst, sPutC_K, sPutC_S, sPutC_T, keyOf_int, keyOf_str, keysC.eq_1, keysC.eq_2, itemsC.eq_1, rs_ref, rs_non, rs_bl, rs_int, rs_str, rs_ty, rs_lst, rs_tup, rs_dK, rs_dT, rs_scr, rs_wD, rs_iD, rs_lwD, resC_lst, resC_dK, resC_dT, resC_fK, resC_fT, resC_ins, updW_same, putFD.eq_1, putFD.eq_2, isL.eq_1, isL.eq_2, sNeg.eq_1, sLen.eq_1, sLen.eq_2, sLen.eq_3, sLen.eq_4, sLen.eq_5, sAbs.eq_1, sMax, sMin, sInt.eq_1, sInt.eq_2, sStr.eq_1, sList.eq_1, sList.eq_2, sList.eq_3, sTuple.eq_1, sTuple.eq_2, sTuple.eq_3, sIsN, sNotN, sIx.eq_1, sIx.eq_2, sIx.eq_3, sIx.eq_4, sIx.eq_5, sIx.eq_6, sIx.eq_7, sIx.eq_8, sIx.eq_9, sSl.eq_1, sSl.eq_2, sSl.eq_3, sSl.eq_4, sRev.eq_1, sRev.eq_2, sRev.eq_3, sAddI.eq_1, sAddI.eq_2, sPut.eq_1, sPut.eq_2, sPut.eq_3, sPut.eq_4, D.isNon, sEq_ii, sNe_ii, sEq_ww, sNe_ww, sEq_ll, sNe_ll, sIsi_ii, sIsi_ib, sIsi_ll, sIsi_tt, sIsi_ss, sEq_w, sEq_i, sEq_lw, sEq_lw', sEq_lle, sEq_lle', sNe_w, sNe_i, sNe_lle', sNe_lw', sEq_ss, sNe_ss, sEq_bb, sNe_bb, sIn_iw, sIn_ii, sIn_wl, sIn_wl', sSl3.eq_1, sSl3.eq_2, dSl3, isS.eq_1, isL.eq_1, isL.eq_2, isA.eq_1, dM0, dM1, sUpper.eq_1, sLower.eq_1, sStrip1.eq_1, sSfind.eq_1, sScount.eq_1, sSindex.eq_1, sSsplit.eq_1, sSjoin.eq_1, sSjoin.eq_2, fPop_snoc, fPop_snoc', startD, wipeD, List.map_cons, List.map_nil, List.length_cons, List.length_nil, List.length_map, List.cons_append, List.nil_append, List.replicate, List.set_cons_zero, List.set_cons_succ, List.set_nil, List.getElem?_cons_zero, List.getElem?_cons_succ, Bool.true_and, Bool.and_true, Bool.and_false, Bool.false_and, Bool.not_true, Bool.not_false, if_true, if_false, Bool.false_eq_true, reduceIte, and_true, true_and, decide_true, decide_false, not_true, Option.map_none, Option.map_some, Option.getD_none, Option.getD_some, Option.isSome_none, Option.isSome_some, Nat.zero_le, Nat.zero_add, Nat.reduceAdd, Nat.reduceSub, D.scal, Option.some.injEq, exists_eq_left', exists_eq_left, exists_eq', D.int.injEq, D.lst.injEq, D.tup.injEq, D.scr.injEq, D.str.injEq, List.cons.injEq, and_self]
          refine ⟨_, rfl, ?_⟩
          try simp -implicitDefEqProofs only [not_true, dNext, dSet, dLst, dTup, dNil, dCons, dFor, dRng1_u, dRng2_u, dIt_u, oX, dC, dBin, dUn, dVarR, dVar, dApp, dExt, dUpd0, dPut, dAug, dRet, dRetV, dRetN, dBreak, dCont, dIf, dB_u, dTru_u, dTNot, dTAnd, dTOr, dAndV_u, dOrV_u, dNotV_u, dIfX, dChain_u, dCall, dSl, dNoP, dP_u, dLc, dDrop, dFrz, frzD, dAsg, dDicK, dDicT, gN, gT, gsC, gsN, kB.eq_1, kT.eq_1, kT.eq_2, kT.eq_3, kT.eq_4, kT.eq_5, kT.eq_6, kT.eq_7, kT.eq_8, kAnd.eq_1, kOr.eq_1, kNot.eq_1, kIt.eq_1, kIt.eq_2, kIt.eq_3, kIt.eq_4, kP.eq_1, kR1.eq_1, kR2.eq_1, sAdd.eq_1, sAdd.eq_2, sAdd.eq_3, sAdd.eq_4, sJ2.eq_1, sI2.eq_1, sPow, sLt.eq_1, sLt.eq_2, sLe, sGt, sGe, sMul.eq_1, sMul.eq_2, sMulB.eq_1, sMulB.eq_2, sMulB.eq_3, sLR1.eq_1, sLR2.eq_1, sTR1.eq_1, sTR2.eq_1, sIsBl.eq_1, dZip, kZip.eq_1, dDisp1, dSetN, dConsN, dAppN, dPutN, dFld, dFldS, dFldAug, dMeth, dMake, dGet1, dGet2, dDPop, dLPop, dLPopAt, dLClear, dEnum, kEnum.eq_1, dRng3, kR3.eq_1, dForN, dForKeys, dForItems, dLock, lkE, dBack, kNm_f, kNm_t, nmK_f, nmK_lst, nmK_dK, nmK_dT, isDct_dK, isDct_dT, isDct_fK, isDct_fT, sGetO_K, sGetO_S, sGetO_T, sGetO_fK, sGetO_fT, sIn_K, sIn_fK, sIn_T, sIn_fT, sPutC_lst, sPutC_K, sPutC_S, sPutC_T, keyOf_int, keyOf_str, keysC.eq_1, keysC.eq_2, itemsC.eq_1, rs_ref, rs_non, rs_bl, rs_int, rs_str, rs_ty, rs_lst, rs_tup, rs_dK, rs_dT, rs_scr, rs_wD, rs_iD, rs_lwD, resC_lst, resC_dK, resC_dT, resC_fK, resC_fT, resC_ins, updW_same, putFD.eq_1, putFD.eq_2, isL.eq_1, isL.eq_2, sNeg.eq_1, sLen.eq_1, sLen.eq_2, sLen.eq_3, sLen.eq_4, sLen.eq_5, sAbs.eq_1, sMax, sMin, sInt.eq_1, sInt.eq_2, sStr.eq_1, sList.eq_1, sList.eq_2, sList.eq_3, sTuple.eq_1, sTuple.eq_2, sTuple.eq_3, sIsN, sNotN, sIx.eq_1, sIx.eq_2, sIx.eq_3, sIx.eq_4, sIx.eq_5, sIx.eq_6, sIx.eq_7, sIx.eq_8, sIx.eq_9, sSl.eq_1, sSl.eq_2, sSl.eq_3, sSl.eq_4, sRev.eq_1, sRev.eq_2, sRev.eq_3, sAddI.eq_1, sAddI.eq_2, sPut.eq_1, sPut.eq_2, sPut.eq_3, sPut.eq_4, D.isNon, sEq_ii, sNe_ii, sEq_ww, sNe_ww, sEq_ll, sNe_ll, sIsi_ii, sIsi_ib, sIsi_ll, sIsi_tt, sIsi_ss, sEq_w, sEq_i, sEq_lw, sEq_lw', sEq_lle, sEq_lle', sNe_w, sNe_i, sNe_lle', sNe_lw', sEq_ss, sNe_ss, sEq_bb, sNe_bb, sIn_iw, sIn_ii, sIn_wl, sIn_wl', sSl3.eq_1, sSl3.eq_2, dSl3, isS.eq_1, isL.eq_1, isL.eq_2, isA.eq_1, dM0, dM1, sUpper.eq_1, sLower.eq_1, sStrip1.eq_1, sSfind.eq_1, sScount.eq_1, sSindex.eq_1, sSsplit.eq_1, sSjoin.eq_1, sSjoin.eq_2, fPop_snoc, fPop_snoc', startD, wipeD, List.map_cons, List.map_nil, List.length_cons, List.length_nil, List.length_map, List.cons_append, List.nil_append, List.replicate, List.set_cons_zero, List.set_cons_succ, List.set_nil, List.getElem?_cons_zero, List.getElem?_cons_succ, Bool.true_and, Bool.and_true, Bool.and_false, Bool.false_and, Bool.not_true, Bool.not_false, if_true, if_false, Bool.false_eq_true, reduceIte, and_true, true_and, decide_true, decide_false, not_true, Option.map_none, Option.map_some, Option.getD_none, Option.getD_some, Option.isSome_none, Option.isSome_some, Nat.zero_le, Nat.zero_add, Nat.reduceAdd, Nat.reduceSub, D.scal, Option.some.injEq, exists_eq_left', exists_eq_left, exists_eq', D.int.injEq, D.lst.injEq, D.tup.injEq, D.scr.injEq, D.str.injEq, List.cons.injEq, and_self]
          refine if_f (by simp) ?_
          refine seq_i ?_
          try simp -implicitDefEqProofs only [aw4, aW, ad4, dNext, dSet, dLst, dTup, dNil, dCons, dFor, dRng1_u, dRng2_u, dIt_u, oX, dC, dBin, dUn, dVarR, dVar, dApp, dExt, dUpd0, dPut, dAug, dRet, dRetV, dRetN, dBreak, dCont, dIf, dB_u, dTru_u, dTNot, dTAnd, dTOr, dAndV_u, dOrV_u, dNotV_u, dIfX, dChain_u, dCall, dSl, dNoP, dP_u, dLc, dDrop, dFrz, frzD, dAsg, dDicK, dDicT, gN, gT, gsC, gsN, kB.eq_1, kT.eq_1, kT.eq_2, kT.eq_3, kT.eq_4, kT.eq_5, kT.eq_6, kT.eq_7, kT.eq_8, kAnd.eq_1, kOr.eq_1, kNot.eq_1, kIt.eq_1, kIt.eq_2, kIt.eq_3, kIt.eq_4, kP.eq_1, kR1.eq_1, kR2.eq_1, sAdd.eq_1, sAdd.eq_2, sAdd.eq_3, sAdd.eq_4, sJ2.eq_1, sI2.eq_1, sPow, sLt.eq_1, sLt.eq_2, sLe, sGt, sGe, sMul.eq_1, sMul.eq_2, sMulB.eq_1, sMulB.eq_2, sMulB.eq_3, sLR1.eq_1, sLR2.eq_1, sTR1.eq_1, sTR2.eq_1, sIsBl.eq_1, dZip, kZip.eq_1, dDisp1, dSetN, dConsN, dAppN, dPutN, dFld, dFldS, dFldAug, dMeth, dMake, dGet1, dGet2, dDPop, dLPop, dLPopAt, dLClear, dEnum, kEnum.eq_1, dRng3, kR3.eq_1, dForN, dForKeys, dForItems, dLock, lkE, dBack, kNm_f, kNm_t, nmK_f, nmK_lst, nmK_dK, nmK_dT, isDct_dK, isDct_dT, isDct_fK, isDct_fT, sGetO_K, sGetO_S, sGetO_T, sGetO_fK, sGetO_fT, sIn_K, sIn_fK, sIn_T, sIn_fT, sPutC_lst, sPutC_K, sPutC_S, sPutC_T, keyOf_int, keyOf_str, keysC.eq_1, keysC.eq_2, itemsC.eq_1, rs_ref, rs_non, rs_bl, rs_int, rs_str, rs_ty, rs_lst, rs_tup, rs_dK, rs_dT, rs_scr, rs_wD, rs_iD, rs_lwD, resC_lst, resC_dK, resC_dT, resC_fK, resC_fT, resC_ins, updW_same, putFD.eq_1, putFD.eq_2, isL.eq_1, isL.eq_2, sNeg.eq_1, sLen.eq_1, sLen.eq_2, sLen.eq_3, sLen.eq_4, sLen.eq_5, sAbs.eq_1, sMax, sMin, sInt.eq_1, sInt.eq_2, sStr.eq_1, sList.eq_1, sList.eq_2, sList.eq_3, sTuple.eq_1, sTuple.eq_2, sTuple.eq_3, sIsN, sNotN, sIx.eq_1, sIx.eq_2, sIx.eq_3, sIx.eq_4, sIx.eq_5, sIx.eq_6, sIx.eq_7, sIx.eq_8, sIx.eq_9, sSl.eq_1, sSl.eq_2, sSl.eq_3, sSl.eq_4, sRev.eq_1, sRev.eq_2, sRev.eq_3, sAddI.eq_1, sAddI.eq_2, sPut.eq_1, sPut.eq_2, sPut.eq_3, sPut.eq_4, D.isNon, sEq_ii, sNe_ii, sEq_ww, sNe_ww, sEq_ll, sNe_ll, sIsi_ii, sIsi_ib, sIsi_ll, sIsi_tt, sIsi_ss, sEq_w, sEq_i, sEq_lw, sEq_lw', sEq_lle, sEq_lle', sNe_w, sNe_i, sNe_lle', sNe_lw', sEq_ss, sNe_ss, sEq_bb, sNe_bb, sIn_iw, sIn_ii, sIn_wl, sIn_wl', sSl3.eq_1, sSl3.eq_2, dSl3, isS.eq_1, isL.eq_1, isL.eq_2, isA.eq_1, dM0, dM1, sUpper.eq_1, sLower.eq_1, sStrip1.eq_1, sSfind.eq_1, sScount.eq_1, sSindex.eq_1, sSsplit.eq_1, sSjoin.eq_1, sSjoin.eq_2, fPop_snoc, fPop_snoc', startD, wipeD, List.map_cons, List.map_nil, List.length_cons, List.length_nil, List.length_map, List.cons_append, List.nil_append, List.replicate, List.set_cons_zero, List.set_cons_succ, List.set_nil, List.getElem?_cons_zero, List.getElem?_cons_succ, Bool.true_and, Bool.and_true, Bool.and_false, Bool.false_and, Bool.not_true, Bool.not_false, if_true, if_false, Bool.false_eq_true, reduceIte, and_true, true_and, decide_true, decide_false, not_true, Option.map_none, Option.map_some, Option.getD_none, Option.getD_some, Option.isSome_none, Option.isSome_some, Nat.zero_le, Nat.zero_add, Nat.reduceAdd, Nat.reduceSub, D.scal, Option.some.injEq, exists_eq_left', exists_eq_left, exists_eq', D.int.injEq, D.lst.injEq, D.tup.injEq, D.scr.injEq, D.str.injEq, List.cons.injEq, and_self]
          refine ⟨by omega, _, rfl, ?_⟩
          try simp -implicitDefEqProofs only [ad4, dNext, dSet, dLst, dTup, dNil, dCons, dFor, dRng1_u, dRng2_u, dIt_u, oX, dC, dBin, dUn, dVarR, dVar, dApp, dExt, dUpd0, dPut, dAug, dRet, dRetV, dRetN, dBreak, dCont, dIf, dB_u, dTru_u, dTNot, dTAnd, dTOr, dAndV_u, dOrV_u, dNotV_u, dIfX, dChain_u, dCall, dSl, dNoP, dP_u, dLc, dDrop, dFrz, frzD, dAsg, dDicK, dDicT, gN, gT, gsC, gsN, kB.eq_1, kT.eq_1, kT.eq_2, kT.eq_3, kT.eq_4, kT.eq_5, kT.eq_6, kT.eq_7, kT.eq_8, kAnd.eq_1, kOr.eq_1, kNot.eq_1, kIt.eq_1, kIt.eq_2, kIt.eq_3, kIt.eq_4, kP.eq_1, kR1.eq_1, kR2.eq_1, sAdd.eq_1, sAdd.eq_2, sAdd.eq_3, sAdd.eq_4, sJ2.eq_1, sI2.eq_1, sPow, sLt.eq_1, sLt.eq_2, sLe, sGt, sGe, sMul.eq_1, sMul.eq_2, sMulB.eq_1, sMulB.eq_2, sMulB.eq_3, sLR1.eq_1, sLR2.eq_1, sTR1.eq_1, sTR2.eq_1, sIsBl.eq_1, dZip, kZip.eq_1, dDisp1, dSetN, dConsN, dAppN, dPutN, dFld, dFldS, dFldAug, dMeth, dMake, dGet1, dGet2, dDPop, dLPop, dLPopAt, dLClear, dEnum, kEnum.eq_1, dRng3, kR3.eq_1, dForN, dForKeys, dForItems, dLock, lkE, dBack, kNm_f, kNm_t, nmK_f, nmK_lst, nmK_dK, nmK_dT, isDct_dK, isDct_dT, isDct_fK, isDct_fT, sGetO_K, sGetO_S, sGetO_T, sGetO_fK, sGetO_fT, sIn_K, sIn_fK, sIn_T, sIn_fT, sPutC_lst, sPutC_K, sPutC_S, sPutC_T, keyOf_int, keyOf_str, keysC.eq_1, keysC.eq_2, itemsC.eq_1, rs_ref, rs_non, rs_bl, rs_int, rs_str, rs_ty, rs_lst, rs_tup, rs_dK, rs_dT, rs_scr, rs_wD, rs_iD, rs_lwD, resC_lst, resC_dK, resC_dT, resC_fK, resC_fT, resC_ins, updW_same, putFD.eq_1, putFD.eq_2, isL.eq_1, isL.eq_2, sNeg.eq_1, sLen.eq_1, sLen.eq_2, sLen.eq_3, sLen.eq_4, sLen.eq_5, sAbs.eq_1, sMax, sMin, sInt.eq_1, sInt.eq_2, sStr.eq_1, sList.eq_1, sList.eq_2, sList.eq_3, sTuple.eq_1, sTuple.eq_2, sTuple.eq_3, sIsN, sNotN, sIx.eq_1, sIx.eq_2, sIx.eq_3, sIx.eq_4, sIx.eq_5, sIx.eq_6, sIx.eq_7, sIx.eq_8, sIx.eq_9, sSl.eq_1, sSl.eq_2, sSl.eq_3, sSl.eq_4, sRev.eq_1, sRev.eq_2, sRev.eq_3, sAddI.eq_1, sAddI.eq_2, sPut.eq_1, sPut.eq_2, sPut.eq_3, sPut.eq_4, D.isNon, sEq_ii, sNe_ii, sEq_ww, sNe_ww, sEq_ll, sNe_ll, sIsi_ii, sIsi_ib, sIsi_ll, sIsi_tt, sIsi_ss, sEq_w, sEq_i, sEq_lw, sEq_lw', sEq_lle, sEq_lle', sNe_w, sNe_i, sNe_lle', sNe_lw', sEq_ss, sNe_ss, sEq_bb, sNe_bb, sIn_iw, sIn_ii, sIn_wl, sIn_wl', sSl3.eq_1, sSl3.eq_2, dSl3, isS.eq_1, isL.eq_1, isL.eq_2, isA.eq_1, dM0, dM1, sUpper.eq_1, sLower.eq_1, sStrip1.eq_1, sSfind.eq_1, sScount.eq_1, sSindex.eq_1, sSsplit.eq_1, sSjoin.eq_1, sSjoin.eq_2, fPop_snoc, fPop_snoc', startD, wipeD, List.map_cons, List.map_nil, List.length_cons, List.length_nil, List.length_map, List.cons_append, List.nil_append, List.replicate, List.set_cons_zero, List.set_cons_succ, List.set_nil, List.getElem?_cons_zero, List.getElem?_cons_succ, Bool.true_and, Bool.and_true, Bool.and_false, Bool.false_and, Bool.not_true, Bool.not_false, if_true, if_false, Bool.false_eq_true, reduceIte, and_true, true_and, decide_true, decide_false, not_true, Option.map_none, Option.map_some, Option.getD_none, Option.getD_some, Option.isSome_none, Option.isSome_some, Nat.zero_le, Nat.zero_add, Nat.reduceAdd, Nat.reduceSub, D.scal, Option.some.injEq, exists_eq_left', exists_eq_left, exists_eq', D.int.injEq, D.lst.injEq, D.tup.injEq, D.scr.injEq, D.str.injEq, List.cons.injEq, and_self]
          refine pk_use ⟨by have := k.ml; simp [wmD, fD]; omega, ?_⟩
          refine seq_i ?_
          try simp -implicitDefEqProofs only [updW_ne nw2, aw4, aW, dNext, dSet, dLst, dTup, dNil, dCons, dFor, dRng1_u, dRng2_u, dIt_u, oX, dC, dBin, dUn, dVarR, dVar, dApp, dExt, dUpd0, dPut, dAug, dRet, dRetV, dRetN, dBreak, dCont, dIf, dB_u, dTru_u, dTNot, dTAnd, dTOr, dAndV_u, dOrV_u, dNotV_u, dIfX, dChain_u, dCall, dSl, dNoP, dP_u, dLc, dDrop, dFrz, frzD, dAsg, dDicK, dDicT, gN, gT, gsC, gsN, kB.eq_1, kT.eq_1, kT.eq_2, kT.eq_3, kT.eq_4, kT.eq_5, kT.eq_6, kT.eq_7, kT.eq_8, kAnd.eq_1, kOr.eq_1, kNot.eq_1, kIt.eq_1, kIt.eq_2, kIt.eq_3, kIt.eq_4, kP.eq_1, kR1.eq_1, kR2.eq_1, sAdd.eq_1, sAdd.eq_2, sAdd.eq_3, sAdd.eq_4, sJ2.eq_1, sI2.eq_1, sPow, sLt.eq_1, sLt.eq_2, sLe, sGt, sGe, sMul.eq_1, sMul.eq_2, sMulB.eq_1, sMulB.eq_2, sMulB.eq_3, sLR1.eq_1, sLR2.eq_1, sTR1.eq_1, sTR2.eq_1, sIsBl.eq_1, dZip, kZip.eq_1, dDisp1, dSetN, dConsN, dAppN, dPutN, dFld, dFldS, dFldAug, dMeth, dMake, dGet1, dGet2, dDPop, dLPop, dLPopAt, dLClear, dEnum, kEnum.eq_1, dRng3, kR3.eq_1, dForN, dForKeys, dForItems, dLock, lkE, dBack, kNm_f, kNm_t, nmK_f, nmK_lst, nmK_dK, nmK_dT, isDct_dK, isDct_dT, isDct_fK, isDct_fT, sGetO_K, sGetO_S, sGetO_T, sGetO_fK, sGetO_fT, sIn_K, sIn_fK, sIn_T, sIn_fT, sPutC_lst, sPutC_K, sPutC_S, sPutC_T, keyOf_int, keyOf_str, keysC.eq_1, keysC.eq_2, itemsC.eq_1, rs_ref, rs_non, rs_bl, rs_int, rs_str, rs_ty, rs_lst, rs_tup, rs_dK, rs_dT, rs_scr, rs_wD, rs_iD, rs_lwD, resC_lst, resC_dK, resC_dT, resC_fK, resC_fT, resC_ins, updW_same, putFD.eq_1, putFD.eq_2, isL.eq_1, isL.eq_2, sNeg.eq_1, sLen.eq_1, sLen.eq_2, sLen.eq_3, sLen.eq_4, sLen.eq_5, sAbs.eq_1, sMax, sMin, sInt.eq_1, sInt.eq_2, sStr.eq_1, sList.eq_1, sList.eq_2, sList.eq_3, sTuple.eq_1, sTuple.eq_2, sTuple.eq_3, sIsN, sNotN, sIx.eq_1, sIx.eq_2, sIx.eq_3, sIx.eq_4, sIx.eq_5, sIx.eq_6, sIx.eq_7, sIx.eq_8, sIx.eq_9, sSl.eq_1, sSl.eq_2, sSl.eq_3, sSl.eq_4, sRev.eq_1, sRev.eq_2, sRev.eq_3, sAddI.eq_1, sAddI.eq_2, sPut.eq_1, sPut.eq_2, sPut.eq_3, sPut.eq_4, D.isNon, sEq_ii, sNe_ii, sEq_ww, sNe_ww, sEq_ll, sNe_ll, sIsi_ii, sIsi_ib, sIsi_ll, sIsi_tt, sIsi_ss, sEq_w, sEq_i, sEq_lw, sEq_lw', sEq_lle, sEq_lle', sNe_w, sNe_i, sNe_lle', sNe_lw', sEq_ss, sNe_ss, sEq_bb, sNe_bb, sIn_iw, sIn_ii, sIn_wl, sIn_wl', sSl3.eq_1, sSl3.eq_2, dSl3, isS.eq_1, isL.eq_1, isL.eq_2, isA.eq_1, dM0, dM1, sUpper.eq_1, sLower.eq_1, sStrip1.eq_1, sSfind.eq_1, sScount.eq_1, sSindex.eq_1, sSsplit.eq_1, sSjoin.eq_1, sSjoin.eq_2, fPop_snoc, fPop_snoc', startD, wipeD, List.map_cons, List.map_nil, List.length_cons, List.length_nil, List.length_map, List.cons_append, List.nil_append, List.replicate, List.set_cons_zero, List.set_cons_succ, List.set_nil, List.getElem?_cons_zero, List.getElem?_cons_succ, Bool.true_and, Bool.and_true, Bool.and_false, Bool.false_and, Bool.not_true, Bool.not_false, if_true, if_false, Bool.false_eq_true, reduceIte, and_true, true_and, decide_true, decide_false, not_true, Option.map_none, Option.map_some, Option.getD_none, Option.getD_some, Option.isSome_none, Option.isSome_some, Nat.zero_le, Nat.zero_add, Nat.reduceAdd, Nat.reduceSub, D.scal, Option.some.injEq, exists_eq_left', exists_eq_left, exists_eq', D.int.injEq, D.lst.injEq, D.tup.injEq, D.scr.injEq, D.str.injEq, List.cons.injEq, and_self]
          refine ⟨by omega, _, rfl, ?_⟩
          try simp -implicitDefEqProofs only [dNext, dSet, dLst, dTup, dNil, dCons, dFor, dRng1_u, dRng2_u, dIt_u, oX, dC, dBin, dUn, dVarR, dVar, dApp, dExt, dUpd0, dPut, dAug, dRet, dRetV, dRetN, dBreak, dCont, dIf, dB_u, dTru_u, dTNot, dTAnd, dTOr, dAndV_u, dOrV_u, dNotV_u, dIfX, dChain_u, dCall, dSl, dNoP, dP_u, dLc, dDrop, dFrz, frzD, dAsg, dDicK, dDicT, gN, gT, gsC, gsN, kB.eq_1, kT.eq_1, kT.eq_2, kT.eq_3, kT.eq_4, kT.eq_5, kT.eq_6, kT.eq_7, kT.eq_8, kAnd.eq_1, kOr.eq_1, kNot.eq_1, kIt.eq_1, kIt.eq_2, kIt.eq_3, kIt.eq_4, kP.eq_1, kR1.eq_1, kR2.eq_1, sAdd.eq_1, sAdd.eq_2, sAdd.eq_3, sAdd.eq_4, sJ2.eq_1, sI2.eq_1, sPow, sLt.eq_1, sLt.eq_2, sLe, sGt, sGe, sMul.eq_1, sMul.eq_2, sMulB.eq_1, sMulB.eq_2, sMulB.eq_3, sLR1.eq_1, sLR2.eq_1, sTR1.eq_1, sTR2.eq_1, sIsBl.eq_1, dZip, kZip.eq_1, dDisp1, dSetN, dConsN, dAppN, dPutN, dFld, dFldS, dFldAug, dMeth, dMake, dGet1, dGet2, dDPop, dLPop, dLPopAt, dLClear, dEnum, kEnum.eq_1, dRng3, kR3.eq_1, dForN, dForKeys, dForItems, dLock, lkE, dBack, kNm_f, kNm_t, nmK_f, nmK_lst, nmK_dK, nmK_dT, isDct_dK, isDct_dT, isDct_fK, isDct_fT, sGetO_K, sGetO_S, sGetO_T, sGetO_fK, sGetO_fT, sIn_K, sIn_fK, sIn_T, sIn_fT, sPutC_lst, sPutC_K, sPutC_S, sPutC_T, keyOf_int, keyOf_str, keysC.eq_1, keysC.eq_2, itemsC.eq_1, rs_ref, rs_non, rs_bl, rs_int, rs_str, rs_ty, rs_lst, rs_tup, rs_dK, rs_dT, rs_scr, rs_wD, rs_iD, rs_lwD, resC_lst, resC_dK, resC_dT, resC_fK, resC_fT, resC_ins, updW_same, putFD.eq_1, putFD.eq_2, isL.eq_1, isL.eq_2, sNeg.eq_1, sLen.eq_1, sLen.eq_2, sLen.eq_3, sLen.eq_4, sLen.eq_5, sAbs.eq_1, sMax, sMin, sInt.eq_1, sInt.eq_2, sStr.eq_1, sList.eq_1, sList.eq_2, sList.eq_3, sTuple.eq_1, sTuple.eq_2, sTuple.eq_3, sIsN, sNotN, sIx.eq_1, sIx.eq_2, sIx.eq_3, sIx.eq_4, sIx.eq_5, sIx.eq_6, sIx.eq_7, sIx.eq_8, sIx.eq_9, sSl.eq_1, sSl.eq_2, sSl.eq_3, sSl.eq_4, sRev.eq_1, sRev.eq_2, sRev.eq_3, sAddI.eq_1, sAddI.eq_2, sPut.eq_1, sPut.eq_2, sPut.eq_3, sPut.eq_4, D.isNon, sEq_ii, sNe_ii, sEq_ww, sNe_ww, sEq_ll, sNe_ll, sIsi_ii, sIsi_ib, sIsi_ll, sIsi_tt, sIsi_ss, sEq_w, sEq_i, sEq_lw, sEq_lw', sEq_lle, sEq_lle', sNe_w, sNe_i, sNe_lle', sNe_lw', sEq_ss, sNe_ss, sEq_bb, sNe_bb, sIn_iw, sIn_ii, sIn_wl, sIn_wl', sSl3.eq_1, sSl3.eq_2, dSl3, isS.eq_1, isL.eq_1, isL.eq_2, isA.eq_1, dM0, dM1, sUpper.eq_1, sLower.eq_1, sStrip1.eq_1, sSfind.eq_1, sScount.eq_1, sSindex.eq_1, sSsplit.eq_1, sSjoin.eq_1, sSjoin.eq_2, fPop_snoc, fPop_snoc', startD, wipeD, List.map_cons, List.map_nil, List.length_cons, List.length_nil, List.length_map, List.cons_append, List.nil_append, List.replicate, List.set_cons_zero, List.set_cons_succ, List.set_nil, List.getElem?_cons_zero, List.getElem?_cons_succ, Bool.true_and, Bool.and_true, Bool.and_false, Bool.false_and, Bool.not_true, Bool.not_false, if_true, if_false, Bool.false_eq_true, reduceIte, and_true, true_and, decide_true, decide_false, not_true, Option.map_none, Option.map_some, Option.getD_none, Option.getD_some, Option.isSome_none, Option.isSome_some, Nat.zero_le, Nat.zero_add, Nat.reduceAdd, Nat.reduceSub, D.scal, Option.some.injEq, exists_eq_left', exists_eq_left, exists_eq', D.int.injEq, D.lst.injEq, D.tup.injEq, D.scr.injEq, D.str.injEq, List.cons.injEq, and_self]
          have hpl2 : (wmD (o i).m).length ≤ 2 * (o i).rs.length := by have := k.ml; simpa [wmD, fD] using this
          have e5 : ((o i).rs.length : Int) + 1 = (((o i).rs.length + 1 : Nat) : Int) := by omega
          rw [e5, wm_put]
          refine pk_use ⟨by have h1 := flen_put (o i).m (room, step) ((o i).rs.length + 1); have := k.ml; simp [wmD, fD]; omega, ?_⟩
          rw [updW_twice, wm_put]
          try simp -implicitDefEqProofs only [updW_ne nr2, ar4, aR, updW_ne ndl, al4, dNext, dSet, dLst, dTup, dNil, dCons, dFor, dRng1_u, dRng2_u, dIt_u, oX, dC, dBin, dUn, dVarR, dVar, dApp, dExt, dUpd0, dPut, dAug, dRet, dRetV, dRetN, dBreak, dCont, dIf, dB_u, dTru_u, dTNot, dTAnd, dTOr, dAndV_u, dOrV_u, dNotV_u, dIfX, dChain_u, dCall, dSl, dNoP, dP_u, dLc, dDrop, dFrz, frzD, dAsg, dDicK, dDicT, gN, gT, gsC, gsN, kB.eq_1, kT.eq_1, kT.eq_2, kT.eq_3, kT.eq_4, kT.eq_5, kT.eq_6, kT.eq_7, kT.eq_8, kAnd.eq_1, kOr.eq_1, kNot.eq_1, kIt.eq_1, kIt.eq_2, kIt.eq_3, kIt.eq_4, kP.eq_1, kR1.eq_1, kR2.eq_1, sAdd.eq_1, sAdd.eq_2, sAdd.eq_3, sAdd.eq_4, sJ2.eq_1, sI2.eq_1, sPow, sLt.eq_1, sLt.eq_2, sLe, sGt, sGe, sMul.eq_1, sMul.eq_2, sMulB.eq_1, sMulB.eq_2, sMulB.eq_3, sLR1.eq_1, sLR2.eq_1, sTR1.eq_1, sTR2.eq_1, sIsBl.eq_1, dZip, kZip.eq_1, dDisp1, dSetN, dConsN, dAppN, dPutN, dFld, dFldS, dFldAug, dMeth, dMake, dGet1, dGet2, dDPop, dLPop, dLPopAt, dLClear, dEnum, kEnum.eq_1, dRng3, kR3.eq_1, dForN, dForKeys, dForItems, dLock, lkE, dBack, kNm_f, kNm_t, nmK_f, nmK_lst, nmK_dK, nmK_dT, isDct_dK, isDct_dT, isDct_fK, isDct_fT, sGetO_K, sGetO_S, sGetO_T, sGetO_fK, sGetO_fT, sIn_K, sIn_fK, sIn_T, sIn_fT, sPutC_lst, sPutC_K, sPutC_S, sPutC_T, keyOf_int, keyOf_str, keysC.eq_1, keysC.eq_2, itemsC.eq_1, rs_ref, rs_non, rs_bl, rs_int, rs_str, rs_ty, rs_lst, rs_tup, rs_dK, rs_dT, rs_scr, rs_wD, rs_iD, rs_lwD, resC_lst, resC_dK, resC_dT, resC_fK, resC_fT, resC_ins, updW_same, putFD.eq_1, putFD.eq_2, isL.eq_1, isL.eq_2, sNeg.eq_1, sLen.eq_1, sLen.eq_2, sLen.eq_3, sLen.eq_4, sLen.eq_5, sAbs.eq_1, sMax, sMin, sInt.eq_1, sInt.eq_2, sStr.eq_1, sList.eq_1, sList.eq_2, sList.eq_3, sTuple.eq_1, sTuple.eq_2, sTuple.eq_3, sIsN, sNotN, sIx.eq_1, sIx.eq_2, sIx.eq_3, sIx.eq_4, sIx.eq_5, sIx.eq_6, sIx.eq_7, sIx.eq_8, sIx.eq_9, sSl.eq_1, sSl.eq_2, sSl.eq_3, sSl.eq_4, sRev.eq_1, sRev.eq_2, sRev.eq_3, sAddI.eq_1, sAddI.eq_2, sPut.eq_1, sPut.eq_2, sPut.eq_3, sPut.eq_4, D.isNon, sEq_ii, sNe_ii, sEq_ww, sNe_ww, sEq_ll, sNe_ll, sIsi_ii, sIsi_ib, sIsi_ll, sIsi_tt, sIsi_ss, sEq_w, sEq_i, sEq_lw, sEq_lw', sEq_lle, sEq_lle', sNe_w, sNe_i, sNe_lle', sNe_lw', sEq_ss, sNe_ss, sEq_bb, sNe_bb, sIn_iw, sIn_ii, sIn_wl, sIn_wl', sSl3.eq_1, sSl3.eq_2, dSl3, isS.eq_1, isL.eq_1, isL.eq_2, isA.eq_1, dM0, dM1, sUpper.eq_1, sLower.eq_1, sStrip1.eq_1, sSfind.eq_1, sScount.eq_1, sSindex.eq_1, sSsplit.eq_1, sSjoin.eq_1, sSjoin.eq_2, fPop_snoc, fPop_snoc', startD, wipeD, List.map_cons, List.map_nil, List.length_cons, List.length_nil, List.length_map, List.cons_append, List.nil_append, List.replicate, List.set_cons_zero, List.set_cons_succ, List.set_nil, List.getElem?_cons_zero, List.getElem?_cons_succ, Bool.true_and, Bool.and_true, Bool.and_false, Bool.false_and, Bool.not_true, Bool.not_false, if_true, if_false, Bool.false_eq_true, reduceIte, and_true, true_and, decide_true, decide_false, not_true, Option.map_none, Option.map_some, Option.getD_none, Option.getD_some, Option.isSome_none, Option.isSome_some, Nat.zero_le, Nat.zero_add, Nat.reduceAdd, Nat.reduceSub, D.scal, Option.some.injEq, exists_eq_left', exists_eq_left, exists_eq', D.int.injEq, D.lst.injEq, D.tup.injEq, D.scr.injEq, D.str.injEq, List.cons.injEq, and_self]
          obtain ⟨ok', fr'⟩ := k.made hkm R' fr hstep
          refine ⟨_, _, rfl, by rw [updW_ne ndl]; exact al4, by omega, _, by rw [updW_ne ndl]; exact al4, by simp; omega, ?_⟩
          have e6 : (o i).rs.map rwD ++ [D.tup [D.str (Str.ofString "new"), D.int room, D.int step, D.int ((o i).rs.length + 1 : Nat)]] = ((o i).rs ++ [(room, step, (o i).rs.length + 1)]).map rwD := by simp [rwD, newR]
          rw [e6]
          refine h2 _ _ ⟨_, _, _, rfl, I.step hi2 ok' fr' rfl rfl rfl, fun j hj => ?_⟩
          show (if j = i then _ else o j).rs.length ≤ _
          split
          · simp [Oj.step]; omega
          · have := hR j hj; omega
      clear hv hkm km hrl hmr aB aW aR k hRi hR I
      rintro δ w ⟨o, j8, j11, rfl, I, hR⟩
      have aB : atI [D.ref (o 0).p, D.ref (o 1).p] (i : Int) = some (.ref (o i).p) := at2 (fun i => D.ref (o i).p) hi2
      have aR : atI [D.ref (o 0).lc, D.ref (o 1).lc] (i : Int) = some (.ref (o i).lc) := at2 (fun i => D.ref (o i).lc) hi2
      have k := I.ok i hi2
      have hRi := hR i hi2
      try simp -implicitDefEqProofs only [dNext, dSet, dLst, dTup, dNil, dCons, dFor, dRng1_u, dRng2_u, dIt_u, oX, dC, dBin, dUn, dVarR, dVar, dApp, dExt, dUpd0, dPut, dAug, dRet, dRetV, dRetN, dBreak, dCont, dIf, dB_u, dTru_u, dTNot, dTAnd, dTOr, dAndV_u, dOrV_u, dNotV_u, dIfX, dChain_u, dCall, dSl, dNoP, dP_u, dLc, dDrop, dFrz, frzD, dAsg, dDicK, dDicT, gN, gT, gsC, gsN, kB.eq_1, kT.eq_1, kT.eq_2, kT.eq_3, kT.eq_4, kT.eq_5, kT.eq_6, kT.eq_7, kT.eq_8, kAnd.eq_1, kOr.eq_1, kNot.eq_1, kIt.eq_1, kIt.eq_2, kIt.eq_3, kIt.eq_4, kP.eq_1, kR1.eq_1, kR2.eq_1, sAdd.eq_1, sAdd.eq_2, sAdd.eq_3, sAdd.eq_4, sJ2.eq_1, sI2.eq_1, sPow, sLt.eq_1, sLt.eq_2, sLe, sGt, sGe, sMul.eq_1, sMul.eq_2, sMulB.eq_1, sMulB.eq_2, sMulB.eq_3, sLR1.eq_1, sLR2.eq_1, sTR1.eq_1, sTR2.eq_1, sIsBl.eq_1, dZip, kZip.eq_1, dDisp1, dSetN, dConsN, dAppN, dPutN, dFld, dFldS, dFldAug, dMeth, dMake, dGet1, dGet2, dDPop, dLPop, dLPopAt, dLClear, dEnum, kEnum.eq_1, dRng3, kR3.eq_1, dForN, dForKeys, dForItems, dLock, lkE, dBack, kNm_f, kNm_t, nmK_f, nmK_lst, nmK_dK, nmK_dT, isDct_dK, isDct_dT, isDct_fK, isDct_fT, sGetO_K, sGetO_S, sGetO_T, sGetO_fK, sGetO_fT, sIn_K, sIn_fK, sIn_T, sIn_fT, sPutC_lst, sPutC_K, sPutC_S, sPutC_T, keyOf_int, keyOf_str, keysC.eq_1, keysC.eq_2, itemsC.eq_1, rs_ref, rs_non, rs_bl, rs_int, rs_str, rs_ty, rs_lst, rs_tup, rs_dK, rs_dT, rs_scr, rs_wD, rs_iD, rs_lwD, resC_lst, resC_dK, resC_dT, resC_fK, resC_fT, resC_ins, updW_same, putFD.eq_1, putFD.eq_2, isL.eq_1, isL.eq_2, sNeg.eq_1, sLen.eq_1, sLen.eq_2, sLen.eq_3, sLen.eq_4, sLen.eq_5, sAbs.eq_1, sMax, sMin, sInt.eq_1, sInt.eq_2, sStr.eq_1, sList.eq_1, sList.eq_2, sList.eq_3, sTuple.eq_1, sTuple.eq_2, sTuple.eq_3, sIsN, sNotN, sIx.eq_1, sIx.eq_2, sIx.eq_3, sIx.eq_4, sIx.eq_5, sIx.eq_6, sIx.eq_7, sIx.eq_8, sIx.eq_9, sSl.eq_1, sSl.eq_2, sSl.eq_3, sSl.eq_4, sRev.eq_1, sRev.eq_2, sRev.eq_3, sAddI.eq_1, sAddI.eq_2, sPut.eq_1, sPut.eq_2, sPut.eq_3, sPut.eq_4, D.isNon, sEq_ii, sNe_ii, sEq_ww, sNe_ww, sEq_ll, sNe_ll, sIsi_ii, sIsi_ib, sIsi_ll, sIsi_tt, sIsi_ss, sEq_w, sEq_i, sEq_lw, sEq_lw', sEq_lle, sEq_lle', sNe_w, sNe_i, sNe_lle', sNe_lw', sEq_ss, sNe_ss, sEq_bb, sNe_bb, sIn_iw, sIn_ii, sIn_wl, sIn_wl', sSl3.eq_1, sSl3.eq_2, dSl3, isS.eq_1, isL.eq_1, isL.eq_2, isA.eq_1, dM0, dM1, sUpper.eq_1, sLower.eq_1, sStrip1.eq_1, sSfind.eq_1, sScount.eq_1, sSindex.eq_1, sSsplit.eq_1, sSjoin.eq_1, sSjoin.eq_2, fPop_snoc, fPop_snoc', startD, wipeD, List.map_cons, List.map_nil, List.length_cons, List.length_nil, List.length_map, List.cons_append, List.nil_append, List.replicate, List.set_cons_zero, List.set_cons_succ, List.set_nil, List.getElem?_cons_zero, List.getElem?_cons_succ, Bool.true_and, Bool.and_true, Bool.and_false, Bool.false_and, Bool.not_true, Bool.not_false, if_true, if_false, Bool.false_eq_true, reduceIte, and_true, true_and, decide_true, decide_false, not_true, Option.map_none, Option.map_some, Option.getD_none, Option.getD_some, Option.isSome_none, Option.isSome_some, Nat.zero_le, Nat.zero_add, Nat.reduceAdd, Nat.reduceSub, D.scal, Option.some.injEq, exists_eq_left', exists_eq_left, exists_eq', D.int.injEq, D.lst.injEq, D.tup.injEq, D.scr.injEq, D.str.injEq, List.cons.injEq, and_self]
      refine ⟨by omega, if_join (fun _ => ?_) (fun _ => hN _ _ ⟨o, hs, _, _, _, _, _, _, _, _, rfl, I, fun i hi => by have := hR i hi; simp; omega, by simp; omega⟩)⟩
      refine seq_i ?_
      try simp -implicitDefEqProofs only [I.hb, aB, dNext, dSet, dLst, dTup, dNil, dCons, dFor, dRng1_u, dRng2_u, dIt_u, oX, dC, dBin, dUn, dVarR, dVar, dApp, dExt, dUpd0, dPut, dAug, dRet, dRetV, dRetN, dBreak, dCont, dIf, dB_u, dTru_u, dTNot, dTAnd, dTOr, dAndV_u, dOrV_u, dNotV_u, dIfX, dChain_u, dCall, dSl, dNoP, dP_u, dLc, dDrop, dFrz, frzD, dAsg, dDicK, dDicT, gN, gT, gsC, gsN, kB.eq_1, kT.eq_1, kT.eq_2, kT.eq_3, kT.eq_4, kT.eq_5, kT.eq_6, kT.eq_7, kT.eq_8, kAnd.eq_1, kOr.eq_1, kNot.eq_1, kIt.eq_1, kIt.eq_2, kIt.eq_3, kIt.eq_4, kP.eq_1, kR1.eq_1, kR2.eq_1, sAdd.eq_1, sAdd.eq_2, sAdd.eq_3, sAdd.eq_4, sJ2.eq_1, sI2.eq_1, sPow, sLt.eq_1, sLt.eq_2, sLe, sGt, sGe, sMul.eq_1, sMul.eq_2, sMulB.eq_1, sMulB.eq_2, sMulB.eq_3, sLR1.eq_1, sLR2.eq_1, sTR1.eq_1, sTR2.eq_1, sIsBl.eq_1, dZip, kZip.eq_1, dDisp1, dSetN, dConsN, dAppN, dPutN, dFld, dFldS, dFldAug, dMeth, dMake, dGet1, dGet2, dDPop, dLPop, dLPopAt, dLClear, dEnum, kEnum.eq_1, dRng3, kR3.eq_1, dForN, dForKeys, dForItems, dLock, lkE, dBack, kNm_f, kNm_t, nmK_f, nmK_lst, nmK_dK, nmK_dT, isDct_dK, isDct_dT, isDct_fK, isDct_fT, sGetO_K, sGetO_S, sGetO_T, sGetO_fK, sGetO_fT, sIn_K, sIn_fK, sIn_T, sIn_fT, sPutC_lst, sPutC_K, sPutC_S, sPutC_T, keyOf_int, keyOf_str, keysC.eq_1, keysC.eq_2, itemsC.eq_1, rs_ref, rs_non, rs_bl, rs_int, rs_str, rs_ty, rs_lst, rs_tup, rs_dK, rs_dT, rs_scr, rs_wD, rs_iD, rs_lwD, resC_lst, resC_dK, resC_dT, resC_fK, resC_fT, resC_ins, updW_same, putFD.eq_1, putFD.eq_2, isL.eq_1, isL.eq_2, sNeg.eq_1, sLen.eq_1, sLen.eq_2, sLen.eq_3, sLen.eq_4, sLen.eq_5, sAbs.eq_1, sMax, sMin, sInt.eq_1, sInt.eq_2, sStr.eq_1, sList.eq_1, sList.eq_2, sList.eq_3, sTuple.eq_1, sTuple.eq_2, sTuple.eq_3, sIsN, sNotN, sIx.eq_1, sIx.eq_2, sIx.eq_3, sIx.eq_4, sIx.eq_5, sIx.eq_6, sIx.eq_7, sIx.eq_8, sIx.eq_9, sSl.eq_1, sSl.eq_2, sSl.eq_3, sSl.eq_4, sRev.eq_1, sRev.eq_2, sRev.eq_3, sAddI.eq_1, sAddI.eq_2, sPut.eq_1, sPut.eq_2, sPut.eq_3, sPut.eq_4, D.isNon, sEq_ii, sNe_ii, sEq_ww, sNe_ww, sEq_ll, sNe_ll, sIsi_ii, sIsi_ib, sIsi_ll, sIsi_tt, sIsi_ss, sEq_w, sEq_i, sEq_lw, sEq_lw', sEq_lle, sEq_lle', sNe_w, sNe_i, sNe_lle', sNe_lw', sEq_ss, sNe_ss, sEq_bb, sNe_bb, sIn_iw, sIn_ii, sIn_wl, sIn_wl', sSl3.eq_1, sSl3.eq_2, dSl3, isS.eq_1, isL.eq_1, isL.eq_2, isA.eq_1, dM0, dM1, sUpper.eq_1, sLower.eq_1, sStrip1.eq_1, sSfind.eq_1, sScount.eq_1, sSindex.eq_1, sSsplit.eq_1, sSjoin.eq_1, sSjoin.eq_2, fPop_snoc, fPop_snoc', startD, wipeD, List.map_cons, List.map_nil, List.length_cons, List.length_nil, List.length_map, List.cons_append, List.nil_append, List.replicate, List.set_cons_zero, List.set_cons_succ, List.set_nil, List.getElem?_cons_zero, List.getElem?_cons_succ, Bool.true_and, Bool.and_true, Bool.and_false, Bool.false_and, Bool.not_true, Bool.not_false, if_true, if_false, Bool.false_eq_true, reduceIte, and_true, true_and, decide_true, decide_false, not_true, Option.map_none, Option.map_some, Option.getD_none, Option.getD_some, Option.isSome_none, Option.isSome_some, Nat.zero_le, Nat.zero_add, Nat.reduceAdd, Nat.reduceSub, D.scal, Option.some.injEq, exists_eq_left', exists_eq_left, exists_eq', D.int.injEq, D.lst.injEq, D.tup.injEq, D.scr.injEq, D.str.injEq, List.cons.injEq, and_self]
      refine ⟨_, _, rfl, I.hh, (o i).p, _, rfl, k.rm.ins, no_paper .., (o i).p, (o i).r, (o i).S, rfl, k.rm, ?_⟩
      try simp -implicitDefEqProofs only [dNext, dSet, dLst, dTup, dNil, dCons, dFor, dRng1_u, dRng2_u, dIt_u, oX, dC, dBin, dUn, dVarR, dVar, dApp, dExt, dUpd0, dPut, dAug, dRet, dRetV, dRetN, dBreak, dCont, dIf, dB_u, dTru_u, dTNot, dTAnd, dTOr, dAndV_u, dOrV_u, dNotV_u, dIfX, dChain_u, dCall, dSl, dNoP, dP_u, dLc, dDrop, dFrz, frzD, dAsg, dDicK, dDicT, gN, gT, gsC, gsN, kB.eq_1, kT.eq_1, kT.eq_2, kT.eq_3, kT.eq_4, kT.eq_5, kT.eq_6, kT.eq_7, kT.eq_8, kAnd.eq_1, kOr.eq_1, kNot.eq_1, kIt.eq_1, kIt.eq_2, kIt.eq_3, kIt.eq_4, kP.eq_1, kR1.eq_1, kR2.eq_1, sAdd.eq_1, sAdd.eq_2, sAdd.eq_3, sAdd.eq_4, sJ2.eq_1, sI2.eq_1, sPow, sLt.eq_1, sLt.eq_2, sLe, sGt, sGe, sMul.eq_1, sMul.eq_2, sMulB.eq_1, sMulB.eq_2, sMulB.eq_3, sLR1.eq_1, sLR2.eq_1, sTR1.eq_1, sTR2.eq_1, sIsBl.eq_1, dZip, kZip.eq_1, dDisp1, dSetN, dConsN, dAppN, dPutN, dFld, dFldS, dFldAug, dMeth, dMake, dGet1, dGet2, dDPop, dLPop, dLPopAt, dLClear, dEnum, kEnum.eq_1, dRng3, kR3.eq_1, dForN, dForKeys, dForItems, dLock, lkE, dBack, kNm_f, kNm_t, nmK_f, nmK_lst, nmK_dK, nmK_dT, isDct_dK, isDct_dT, isDct_fK, isDct_fT, sGetO_K, sGetO_S, sGetO_T, sGetO_fK, sGetO_fT, sIn_K, sIn_fK, sIn_T, sIn_fT, sPutC_lst, sPutC_K, sPutC_S, sPutC_T, keyOf_int, keyOf_str, keysC.eq_1, keysC.eq_2, itemsC.eq_1, rs_ref, rs_non, rs_bl, rs_int, rs_str, rs_ty, rs_lst, rs_tup, rs_dK, rs_dT, rs_scr, rs_wD, rs_iD, rs_lwD, resC_lst, resC_dK, resC_dT, resC_fK, resC_fT, resC_ins, updW_same, putFD.eq_1, putFD.eq_2, isL.eq_1, isL.eq_2, sNeg.eq_1, sLen.eq_1, sLen.eq_2, sLen.eq_3, sLen.eq_4, sLen.eq_5, sAbs.eq_1, sMax, sMin, sInt.eq_1, sInt.eq_2, sStr.eq_1, sList.eq_1, sList.eq_2, sList.eq_3, sTuple.eq_1, sTuple.eq_2, sTuple.eq_3, sIsN, sNotN, sIx.eq_1, sIx.eq_2, sIx.eq_3, sIx.eq_4, sIx.eq_5, sIx.eq_6, sIx.eq_7, sIx.eq_8, sIx.eq_9, sSl.eq_1, sSl.eq_2, sSl.eq_3, sSl.eq_4, sRev.eq_1, sRev.eq_2, sRev.eq_3, sAddI.eq_1, sAddI.eq_2, sPut.eq_1, sPut.eq_2, sPut.eq_3, sPut.eq_4, D.isNon, sEq_ii, sNe_ii, sEq_ww, sNe_ww, sEq_ll, sNe_ll, sIsi_ii, sIsi_ib, sIsi_ll, sIsi_tt, sIsi_ss, sEq_w, sEq_i, sEq_lw, sEq_lw', sEq_lle, sEq_lle', sNe_w, sNe_i, sNe_lle', sNe_lw', sEq_ss, sNe_ss, sEq_bb, sNe_bb, sIn_iw, sIn_ii, sIn_wl, sIn_wl', sSl3.eq_1, sSl3.eq_2, dSl3, isS.eq_1, isL.eq_1, isL.eq_2, isA.eq_1, dM0, dM1, sUpper.eq_1, sLower.eq_1, sStrip1.eq_1, sSfind.eq_1, sScount.eq_1, sSindex.eq_1, sSsplit.eq_1, sSjoin.eq_1, sSjoin.eq_2, fPop_snoc, fPop_snoc', startD, wipeD, List.map_cons, List.map_nil, List.length_cons, List.length_nil, List.length_map, List.cons_append, List.nil_append, List.replicate, List.set_cons_zero, List.set_cons_succ, List.set_nil, List.getElem?_cons_zero, List.getElem?_cons_succ, Bool.true_and, Bool.and_true, Bool.and_false, Bool.false_and, Bool.not_true, Bool.not_false, if_true, if_false, Bool.false_eq_true, reduceIte, and_true, true_and, decide_true, decide_false, not_true, Option.map_none, Option.map_some, Option.getD_none, Option.getD_some, Option.isSome_none, Option.isSome_some, Nat.zero_le, Nat.zero_add, Nat.reduceAdd, Nat.reduceSub, D.scal, Option.some.injEq, exists_eq_left', exists_eq_left, exists_eq', D.int.injEq, D.lst.injEq, D.tup.injEq, D.scr.injEq, D.str.injEq, List.cons.injEq, and_self]
      intro c1 hc1
      have u1 := updW_new (d := .lst (o i).S.told) I.hr hc1
      have u2 := updW_new (d := .lst (o i).S.told) k.hl hc1
      try simp -implicitDefEqProofs only [u1, u2, aR, dNext, dSet, dLst, dTup, dNil, dCons, dFor, dRng1_u, dRng2_u, dIt_u, oX, dC, dBin, dUn, dVarR, dVar, dApp, dExt, dUpd0, dPut, dAug, dRet, dRetV, dRetN, dBreak, dCont, dIf, dB_u, dTru_u, dTNot, dTAnd, dTOr, dAndV_u, dOrV_u, dNotV_u, dIfX, dChain_u, dCall, dSl, dNoP, dP_u, dLc, dDrop, dFrz, frzD, dAsg, dDicK, dDicT, gN, gT, gsC, gsN, kB.eq_1, kT.eq_1, kT.eq_2, kT.eq_3, kT.eq_4, kT.eq_5, kT.eq_6, kT.eq_7, kT.eq_8, kAnd.eq_1, kOr.eq_1, kNot.eq_1, kIt.eq_1, kIt.eq_2, kIt.eq_3, kIt.eq_4, kP.eq_1, kR1.eq_1, kR2.eq_1, sAdd.eq_1, sAdd.eq_2, sAdd.eq_3, sAdd.eq_4, sJ2.eq_1, sI2.eq_1, sPow, sLt.eq_1, sLt.eq_2, sLe, sGt, sGe, sMul.eq_1, sMul.eq_2, sMulB.eq_1, sMulB.eq_2, sMulB.eq_3, sLR1.eq_1, sLR2.eq_1, sTR1.eq_1, sTR2.eq_1, sIsBl.eq_1, dZip, kZip.eq_1, dDisp1, dSetN, dConsN, dAppN, dPutN, dFld, dFldS, dFldAug, dMeth, dMake, dGet1, dGet2, dDPop, dLPop, dLPopAt, dLClear, dEnum, kEnum.eq_1, dRng3, kR3.eq_1, dForN, dForKeys, dForItems, dLock, lkE, dBack, kNm_f, kNm_t, nmK_f, nmK_lst, nmK_dK, nmK_dT, isDct_dK, isDct_dT, isDct_fK, isDct_fT, sGetO_K, sGetO_S, sGetO_T, sGetO_fK, sGetO_fT, sIn_K, sIn_fK, sIn_T, sIn_fT, sPutC_lst, sPutC_K, sPutC_S, sPutC_T, keyOf_int, keyOf_str, keysC.eq_1, keysC.eq_2, itemsC.eq_1, rs_ref, rs_non, rs_bl, rs_int, rs_str, rs_ty, rs_lst, rs_tup, rs_dK, rs_dT, rs_scr, rs_wD, rs_iD, rs_lwD, resC_lst, resC_dK, resC_dT, resC_fK, resC_fT, resC_ins, updW_same, putFD.eq_1, putFD.eq_2, isL.eq_1, isL.eq_2, sNeg.eq_1, sLen.eq_1, sLen.eq_2, sLen.eq_3, sLen.eq_4, sLen.eq_5, sAbs.eq_1, sMax, sMin, sInt.eq_1, sInt.eq_2, sStr.eq_1, sList.eq_1, sList.eq_2, sList.eq_3, sTuple.eq_1, sTuple.eq_2, sTuple.eq_3, sIsN, sNotN, sIx.eq_1, sIx.eq_2, sIx.eq_3, sIx.eq_4, sIx.eq_5, sIx.eq_6, sIx.eq_7, sIx.eq_8, sIx.eq_9, sSl.eq_1, sSl.eq_2, sSl.eq_3, sSl.eq_4, sRev.eq_1, sRev.eq_2, sRev.eq_3, sAddI.eq_1, sAddI.eq_2, sPut.eq_1, sPut.eq_2, sPut.eq_3, sPut.eq_4, D.isNon, sEq_ii, sNe_ii, sEq_ww, sNe_ww, sEq_ll, sNe_ll, sIsi_ii, sIsi_ib, sIsi_ll, sIsi_tt, sIsi_ss, sEq_w, sEq_i, sEq_lw, sEq_lw', sEq_lle, sEq_lle', sNe_w, sNe_i, sNe_lle', sNe_lw', sEq_ss, sNe_ss, sEq_bb, sNe_bb, sIn_iw, sIn_ii, sIn_wl, sIn_wl', sSl3.eq_1, sSl3.eq_2, dSl3, isS.eq_1, isL.eq_1, isL.eq_2, isA.eq_1, dM0, dM1, sUpper.eq_1, sLower.eq_1, sStrip1.eq_1, sSfind.eq_1, sScount.eq_1, sSindex.eq_1, sSsplit.eq_1, sSjoin.eq_1, sSjoin.eq_2, fPop_snoc, fPop_snoc', startD, wipeD, List.map_cons, List.map_nil, List.length_cons, List.length_nil, List.length_map, List.cons_append, List.nil_append, List.replicate, List.set_cons_zero, List.set_cons_succ, List.set_nil, List.getElem?_cons_zero, List.getElem?_cons_succ, Bool.true_and, Bool.and_true, Bool.and_false, Bool.false_and, Bool.not_true, Bool.not_false, if_true, if_false, Bool.false_eq_true, reduceIte, and_true, true_and, decide_true, decide_false, not_true, Option.map_none, Option.map_some, Option.getD_none, Option.getD_some, Option.isSome_none, Option.isSome_some, Nat.zero_le, Nat.zero_add, Nat.reduceAdd, Nat.reduceSub, D.scal, Option.some.injEq, exists_eq_left', exists_eq_left, exists_eq', D.int.injEq, D.lst.injEq, D.tup.injEq, D.scr.injEq, D.str.injEq, List.cons.injEq, and_self]
      clear u1 u2
      rw [k.td]
      intro c2 hc2
      have fX : Flat (.lst ((o i).rs.map rwD)) 5 := ⟨(Flat.lst (n := 1) fun d hd => by obtain ⟨x, _, rfl⟩ := List.mem_map.mp hd; exact newR_flat _ _ _).pl, Nat.le_trans (Flat.lst (n := 1) fun d hd => by obtain ⟨x, _, rfl⟩ := List.mem_map.mp hd; exact newR_flat _ _ _).dep (by omega)⟩
      have I2 := I.hold hc1 hc2 fX
      have e7 : (hs.map fun h => D.tup [.ref h.1, .ref h.2.1]) ++ [D.tup [.ref c1, .ref c2]] = (hs ++ [(c1, c2, (o i).rs.map rwD)]).map fun h => D.tup [.ref h.1, .ref h.2.1] := by simp
      refine ⟨by omega, _, updW_new (updW_new I.hh hc1) hc2, by simp; omega, ?_⟩
      rw [e7]
      generalize updW (updW (updW w c1 _) c2 _) ah _ = w5 at I2 ⊢
      have k2 := I2.ok i hi2
      refine ⟨_, _, rfl, I2.hh, ?_⟩
      try simp -implicitDefEqProofs only [I2.hb, aB, dNext, dSet, dLst, dTup, dNil, dCons, dFor, dRng1_u, dRng2_u, dIt_u, oX, dC, dBin, dUn, dVarR, dVar, dApp, dExt, dUpd0, dPut, dAug, dRet, dRetV, dRetN, dBreak, dCont, dIf, dB_u, dTru_u, dTNot, dTAnd, dTOr, dAndV_u, dOrV_u, dNotV_u, dIfX, dChain_u, dCall, dSl, dNoP, dP_u, dLc, dDrop, dFrz, frzD, dAsg, dDicK, dDicT, gN, gT, gsC, gsN, kB.eq_1, kT.eq_1, kT.eq_2, kT.eq_3, kT.eq_4, kT.eq_5, kT.eq_6, kT.eq_7, kT.eq_8, kAnd.eq_1, kOr.eq_1, kNot.eq_1, kIt.eq_1, kIt.eq_2, kIt.eq_3, kIt.eq_4, kP.eq_1, kR1.eq_1, kR2.eq_1, sAdd.eq_1, sAdd.eq_2, sAdd.eq_3, sAdd.eq_4, sJ2.eq_1, sI2.eq_1, sPow, sLt.eq_1, sLt.eq_2, sLe, sGt, sGe, sMul.eq_1, sMul.eq_2, sMulB.eq_1, sMulB.eq_2, sMulB.eq_3, sLR1.eq_1, sLR2.eq_1, sTR1.eq_1, sTR2.eq_1, sIsBl.eq_1, dZip, kZip.eq_1, dDisp1, dSetN, dConsN, dAppN, dPutN, dFld, dFldS, dFldAug, dMeth, dMake, dGet1, dGet2, dDPop, dLPop, dLPopAt, dLClear, dEnum, kEnum.eq_1, dRng3, kR3.eq_1, dForN, dForKeys, dForItems, dLock, lkE, dBack, kNm_f, kNm_t, nmK_f, nmK_lst, nmK_dK, nmK_dT, isDct_dK, isDct_dT, isDct_fK, isDct_fT, sGetO_K, sGetO_S, sGetO_T, sGetO_fK, sGetO_fT, sIn_K, sIn_fK, sIn_T, sIn_fT, sPutC_lst, sPutC_K, sPutC_S, sPutC_T, keyOf_int, keyOf_str, keysC.eq_1, keysC.eq_2, itemsC.eq_1, rs_ref, rs_non, rs_bl, rs_int, rs_str, rs_ty, rs_lst, rs_tup, rs_dK, rs_dT, rs_scr, rs_wD, rs_iD, rs_lwD, resC_lst, resC_dK, resC_dT, resC_fK, resC_fT, resC_ins, updW_same, putFD.eq_1, putFD.eq_2, isL.eq_1, isL.eq_2, sNeg.eq_1, sLen.eq_1, sLen.eq_2, sLen.eq_3, sLen.eq_4, sLen.eq_5, sAbs.eq_1, sMax, sMin, sInt.eq_1, sInt.eq_2, sStr.eq_1, sList.eq_1, sList.eq_2, sList.eq_3, sTuple.eq_1, sTuple.eq_2, sTuple.eq_3, sIsN, sNotN, sIx.eq_1, sIx.eq_2, sIx.eq_3, sIx.eq_4, sIx.eq_5, sIx.eq_6, sIx.eq_7, sIx.eq_8, sIx.eq_9, sSl.eq_1, sSl.eq_2, sSl.eq_3, sSl.eq_4, sRev.eq_1, sRev.eq_2, sRev.eq_3, sAddI.eq_1, sAddI.eq_2, sPut.eq_1, sPut.eq_2, sPut.eq_3, sPut.eq_4, D.isNon, sEq_ii, sNe_ii, sEq_ww, sNe_ww, sEq_ll, sNe_ll, sIsi_ii, sIsi_ib, sIsi_ll, sIsi_tt, sIsi_ss, sEq_w, sEq_i, sEq_lw, sEq_lw', sEq_lle, sEq_lle', sNe_w, sNe_i, sNe_lle', sNe_lw', sEq_ss, sNe_ss, sEq_bb, sNe_bb, sIn_iw, sIn_ii, sIn_wl, sIn_wl', sSl3.eq_1, sSl3.eq_2, dSl3, isS.eq_1, isL.eq_1, isL.eq_2, isA.eq_1, dM0, dM1, sUpper.eq_1, sLower.eq_1, sStrip1.eq_1, sSfind.eq_1, sScount.eq_1, sSindex.eq_1, sSsplit.eq_1, sSjoin.eq_1, sSjoin.eq_2, fPop_snoc, fPop_snoc', startD, wipeD, List.map_cons, List.map_nil, List.length_cons, List.length_nil, List.length_map, List.cons_append, List.nil_append, List.replicate, List.set_cons_zero, List.set_cons_succ, List.set_nil, List.getElem?_cons_zero, List.getElem?_cons_succ, Bool.true_and, Bool.and_true, Bool.and_false, Bool.false_and, Bool.not_true, Bool.not_false, if_true, if_false, Bool.false_eq_true, reduceIte, and_true, true_and, decide_true, decide_false, not_true, Option.map_none, Option.map_some, Option.getD_none, Option.getD_some, Option.isSome_none, Option.isSome_some, Nat.zero_le, Nat.zero_add, Nat.reduceAdd, Nat.reduceSub, D.scal, Option.some.injEq, exists_eq_left', exists_eq_left, exists_eq', D.int.injEq, D.lst.injEq, D.tup.injEq, D.scr.injEq, D.str.injEq, List.cons.injEq, and_self]
      refine ⟨_, _, rfl, k2.rm.ins, no_standing .., (o i).p, (o i).r, (o i).S, rfl, k2.rm, by rw [k2.el]; simp; omega, ?_⟩
      rw [k2.el, stands_rng]
      try simp -implicitDefEqProofs only [nL, dNext, dSet, dLst, dTup, dNil, dCons, dFor, dRng1_u, dRng2_u, dIt_u, oX, dC, dBin, dUn, dVarR, dVar, dApp, dExt, dUpd0, dPut, dAug, dRet, dRetV, dRetN, dBreak, dCont, dIf, dB_u, dTru_u, dTNot, dTAnd, dTOr, dAndV_u, dOrV_u, dNotV_u, dIfX, dChain_u, dCall, dSl, dNoP, dP_u, dLc, dDrop, dFrz, frzD, dAsg, dDicK, dDicT, gN, gT, gsC, gsN, kB.eq_1, kT.eq_1, kT.eq_2, kT.eq_3, kT.eq_4, kT.eq_5, kT.eq_6, kT.eq_7, kT.eq_8, kAnd.eq_1, kOr.eq_1, kNot.eq_1, kIt.eq_1, kIt.eq_2, kIt.eq_3, kIt.eq_4, kP.eq_1, kR1.eq_1, kR2.eq_1, sAdd.eq_1, sAdd.eq_2, sAdd.eq_3, sAdd.eq_4, sJ2.eq_1, sI2.eq_1, sPow, sLt.eq_1, sLt.eq_2, sLe, sGt, sGe, sMul.eq_1, sMul.eq_2, sMulB.eq_1, sMulB.eq_2, sMulB.eq_3, sLR1.eq_1, sLR2.eq_1, sTR1.eq_1, sTR2.eq_1, sIsBl.eq_1, dZip, kZip.eq_1, dDisp1, dSetN, dConsN, dAppN, dPutN, dFld, dFldS, dFldAug, dMeth, dMake, dGet1, dGet2, dDPop, dLPop, dLPopAt, dLClear, dEnum, kEnum.eq_1, dRng3, kR3.eq_1, dForN, dForKeys, dForItems, dLock, lkE, dBack, kNm_f, kNm_t, nmK_f, nmK_lst, nmK_dK, nmK_dT, isDct_dK, isDct_dT, isDct_fK, isDct_fT, sGetO_K, sGetO_S, sGetO_T, sGetO_fK, sGetO_fT, sIn_K, sIn_fK, sIn_T, sIn_fT, sPutC_lst, sPutC_K, sPutC_S, sPutC_T, keyOf_int, keyOf_str, keysC.eq_1, keysC.eq_2, itemsC.eq_1, rs_ref, rs_non, rs_bl, rs_int, rs_str, rs_ty, rs_lst, rs_tup, rs_dK, rs_dT, rs_scr, rs_wD, rs_iD, rs_lwD, resC_lst, resC_dK, resC_dT, resC_fK, resC_fT, resC_ins, updW_same, putFD.eq_1, putFD.eq_2, isL.eq_1, isL.eq_2, sNeg.eq_1, sLen.eq_1, sLen.eq_2, sLen.eq_3, sLen.eq_4, sLen.eq_5, sAbs.eq_1, sMax, sMin, sInt.eq_1, sInt.eq_2, sStr.eq_1, sList.eq_1, sList.eq_2, sList.eq_3, sTuple.eq_1, sTuple.eq_2, sTuple.eq_3, sIsN, sNotN, sIx.eq_1, sIx.eq_2, sIx.eq_3, sIx.eq_4, sIx.eq_5, sIx.eq_6, sIx.eq_7, sIx.eq_8, sIx.eq_9, sSl.eq_1, sSl.eq_2, sSl.eq_3, sSl.eq_4, sRev.eq_1, sRev.eq_2, sRev.eq_3, sAddI.eq_1, sAddI.eq_2, sPut.eq_1, sPut.eq_2, sPut.eq_3, sPut.eq_4, D.isNon, sEq_ii, sNe_ii, sEq_ww, sNe_ww, sEq_ll, sNe_ll, sIsi_ii, sIsi_ib, sIsi_ll, sIsi_tt, sIsi_ss, sEq_w, sEq_i, sEq_lw, sEq_lw', sEq_lle, sEq_lle', sNe_w, sNe_i, sNe_lle', sNe_lw', sEq_ss, sNe_ss, sEq_bb, sNe_bb, sIn_iw, sIn_ii, sIn_wl, sIn_wl', sSl3.eq_1, sSl3.eq_2, dSl3, isS.eq_1, isL.eq_1, isL.eq_2, isA.eq_1, dM0, dM1, sUpper.eq_1, sLower.eq_1, sStrip1.eq_1, sSfind.eq_1, sScount.eq_1, sSindex.eq_1, sSsplit.eq_1, sSjoin.eq_1, sSjoin.eq_2, fPop_snoc, fPop_snoc', startD, wipeD, List.map_cons, List.map_nil, List.length_cons, List.length_nil, List.length_map, List.cons_append, List.nil_append, List.replicate, List.set_cons_zero, List.set_cons_succ, List.set_nil, List.getElem?_cons_zero, List.getElem?_cons_succ, Bool.true_and, Bool.and_true, Bool.and_false, Bool.false_and, Bool.not_true, Bool.not_false, if_true, if_false, Bool.false_eq_true, reduceIte, and_true, true_and, decide_true, decide_false, not_true, Option.map_none, Option.map_some, Option.getD_none, Option.getD_some, Option.isSome_none, Option.isSome_some, Nat.zero_le, Nat.zero_add, Nat.reduceAdd, Nat.reduceSub, D.scal, Option.some.injEq, exists_eq_left', exists_eq_left, exists_eq', D.int.injEq, D.lst.injEq, D.tup.injEq, D.scr.injEq, D.str.injEq, List.cons.injEq, and_self]
      intro c3 hc3
      have u1 := updW_new (d := .lst ((List.range ((o i).rs.length + 1)).map fun n : Nat => D.int n)) I2.hr hc3
      have u2 := updW_new (d := .lst ((List.range ((o i).rs.length + 1)).map fun n : Nat => D.int n)) k2.hl hc3
      try simp -implicitDefEqProofs only [u1, u2, aR, dNext, dSet, dLst, dTup, dNil, dCons, dFor, dRng1_u, dRng2_u, dIt_u, oX, dC, dBin, dUn, dVarR, dVar, dApp, dExt, dUpd0, dPut, dAug, dRet, dRetV, dRetN, dBreak, dCont, dIf, dB_u, dTru_u, dTNot, dTAnd, dTOr, dAndV_u, dOrV_u, dNotV_u, dIfX, dChain_u, dCall, dSl, dNoP, dP_u, dLc, dDrop, dFrz, frzD, dAsg, dDicK, dDicT, gN, gT, gsC, gsN, kB.eq_1, kT.eq_1, kT.eq_2, kT.eq_3, kT.eq_4, kT.eq_5, kT.eq_6, kT.eq_7, kT.eq_8, kAnd.eq_1, kOr.eq_1, kNot.eq_1, kIt.eq_1, kIt.eq_2, kIt.eq_3, kIt.eq_4, kP.eq_1, kR1.eq_1, kR2.eq_1, sAdd.eq_1, sAdd.eq_2, sAdd.eq_3, sAdd.eq_4, sJ2.eq_1, sI2.eq_1, sPow, sLt.eq_1, sLt.eq_2, sLe, sGt, sGe, sMul.eq_1, sMul.eq_2, sMulB.eq_1, sMulB.eq_2, sMulB.eq_3, sLR1.eq_1, sLR2.eq_1, sTR1.eq_1, sTR2.eq_1, sIsBl.eq_1, dZip, kZip.eq_1, dDisp1, dSetN, dConsN, dAppN, dPutN, dFld, dFldS, dFldAug, dMeth, dMake, dGet1, dGet2, dDPop, dLPop, dLPopAt, dLClear, dEnum, kEnum.eq_1, dRng3, kR3.eq_1, dForN, dForKeys, dForItems, dLock, lkE, dBack, kNm_f, kNm_t, nmK_f, nmK_lst, nmK_dK, nmK_dT, isDct_dK, isDct_dT, isDct_fK, isDct_fT, sGetO_K, sGetO_S, sGetO_T, sGetO_fK, sGetO_fT, sIn_K, sIn_fK, sIn_T, sIn_fT, sPutC_lst, sPutC_K, sPutC_S, sPutC_T, keyOf_int, keyOf_str, keysC.eq_1, keysC.eq_2, itemsC.eq_1, rs_ref, rs_non, rs_bl, rs_int, rs_str, rs_ty, rs_lst, rs_tup, rs_dK, rs_dT, rs_scr, rs_wD, rs_iD, rs_lwD, resC_lst, resC_dK, resC_dT, resC_fK, resC_fT, resC_ins, updW_same, putFD.eq_1, putFD.eq_2, isL.eq_1, isL.eq_2, sNeg.eq_1, sLen.eq_1, sLen.eq_2, sLen.eq_3, sLen.eq_4, sLen.eq_5, sAbs.eq_1, sMax, sMin, sInt.eq_1, sInt.eq_2, sStr.eq_1, sList.eq_1, sList.eq_2, sList.eq_3, sTuple.eq_1, sTuple.eq_2, sTuple.eq_3, sIsN, sNotN, sIx.eq_1, sIx.eq_2, sIx.eq_3, sIx.eq_4, sIx.eq_5, sIx.eq_6, sIx.eq_7, sIx.eq_8, sIx.eq_9, sSl.eq_1, sSl.eq_2, sSl.eq_3, sSl.eq_4, sRev.eq_1, sRev.eq_2, sRev.eq_3, sAddI.eq_1, sAddI.eq_2, sPut.eq_1, sPut.eq_2, sPut.eq_3, sPut.eq_4, D.isNon, sEq_ii, sNe_ii, sEq_ww, sNe_ww, sEq_ll, sNe_ll, sIsi_ii, sIsi_ib, sIsi_ll, sIsi_tt, sIsi_ss, sEq_w, sEq_i, sEq_lw, sEq_lw', sEq_lle, sEq_lle', sNe_w, sNe_i, sNe_lle', sNe_lw', sEq_ss, sNe_ss, sEq_bb, sNe_bb, sIn_iw, sIn_ii, sIn_wl, sIn_wl', sSl3.eq_1, sSl3.eq_2, dSl3, isS.eq_1, isL.eq_1, isL.eq_2, isA.eq_1, dM0, dM1, sUpper.eq_1, sLower.eq_1, sStrip1.eq_1, sSfind.eq_1, sScount.eq_1, sSindex.eq_1, sSsplit.eq_1, sSjoin.eq_1, sSjoin.eq_2, fPop_snoc, fPop_snoc', startD, wipeD, List.map_cons, List.map_nil, List.length_cons, List.length_nil, List.length_map, List.cons_append, List.nil_append, List.replicate, List.set_cons_zero, List.set_cons_succ, List.set_nil, List.getElem?_cons_zero, List.getElem?_cons_succ, Bool.true_and, Bool.and_true, Bool.and_false, Bool.false_and, Bool.not_true, Bool.not_false, if_true, if_false, Bool.false_eq_true, reduceIte, and_true, true_and, decide_true, decide_false, not_true, Option.map_none, Option.map_some, Option.getD_none, Option.getD_some, Option.isSome_none, Option.isSome_some, Nat.zero_le, Nat.zero_add, Nat.reduceAdd, Nat.reduceSub, D.scal, Option.some.injEq, exists_eq_left', exists_eq_left, exists_eq', D.int.injEq, D.lst.injEq, D.tup.injEq, D.scr.injEq, D.str.injEq, List.cons.injEq, and_self]
      clear u1 u2
      refine ⟨RgOk.of_le (by omega) (by omega) (by omega) (by omega), ?_⟩
      have e1 : ((o i).rs.length : Int) + 1 = (((o i).rs.length + 1 : Nat) : Int) := by omega
      rw [e1, rng_nat']
      intro c4 hc4
      have fY : Flat (.lst ((List.range ((o i).rs.length + 1)).map fun n : Nat => D.int n)) 5 := ⟨(nL_flat (List.range ((o i).rs.length + 1))).pl, Nat.le_trans (nL_flat (List.range ((o i).rs.length + 1))).dep (by omega)⟩
      have I3 := I2.hold hc3 hc4 fY
      have e8 : ((hs ++ [(c1, c2, (o i).rs.map rwD)]).map fun h => D.tup [.ref h.1, .ref h.2.1]) ++ [D.tup [.ref c3, .ref c4]] = ((hs ++ [(c1, c2, (o i).rs.map rwD)]) ++ [(c3, c4, (List.range ((o i).rs.length + 1)).map fun n : Nat => D.int n)]).map fun h => D.tup [.ref h.1, .ref h.2.1] := by simp
      refine ⟨by omega, _, updW_new (updW_new I2.hh hc3) hc4, by simp; omega, ?_⟩
      rw [e8]
      exact hN _ _ ⟨o, _, _, _, _, _, _, _, _, _, rfl, I3, fun i hi => by have := hR i hi; simp; omega, by simp; omega⟩
    · rintro δ w ⟨o, hs, j6, j7, j8, j9, j10, j11, j12, j13, rfl, I, hR, hH⟩
      exact h _ _ ⟨o, hs, j6, j7, j8, j9, j10, j11, j12, j13, rfl, I, fun i hi => by have := hR i hi; omega, by omega⟩
  rintro δ w ⟨o, hs, j6, j7, j8, j9, j10, j11, j12, j13, rfl, I, hR, hH⟩
  refine seq_cut (fun δ w' => w' = w ∧ ∃ j7, δ = [some (false, .scr ns), some (false, .int l), some (false, .ref ab), some (false, .ref aw), some (false, .ref ar), some (false, .ref ah), j6, j7, j8, j9, j10, j11, j12, j13]) (fun N h => ?_) ?_
  · try simp -implicitDefEqProofs only [dNext, dSet, dLst, dTup, dNil, dCons, dFor, dRng1_u, dRng2_u, dIt_u, oX, dC, dBin, dUn, dVarR, dVar, dApp, dExt, dUpd0, dPut, dAug, dRet, dRetV, dRetN, dBreak, dCont, dIf, dB_u, dTru_u, dTNot, dTAnd, dTOr, dAndV_u, dOrV_u, dNotV_u, dIfX, dChain_u, dCall, dSl, dNoP, dP_u, dLc, dDrop, dFrz, frzD, dAsg, dDicK, dDicT, gN, gT, gsC, gsN, kB.eq_1, kT.eq_1, kT.eq_2, kT.eq_3, kT.eq_4, kT.eq_5, kT.eq_6, kT.eq_7, kT.eq_8, kAnd.eq_1, kOr.eq_1, kNot.eq_1, kIt.eq_1, kIt.eq_2, kIt.eq_3, kIt.eq_4, kP.eq_1, kR1.eq_1, kR2.eq_1, sAdd.eq_1, sAdd.eq_2, sAdd.eq_3, sAdd.eq_4, sJ2.eq_1, sI2.eq_1, sPow, sLt.eq_1, sLt.eq_2, sLe, sGt, sGe, sMul.eq_1, sMul.eq_2, sMulB.eq_1, sMulB.eq_2, sMulB.eq_3, sLR1.eq_1, sLR2.eq_1, sTR1.eq_1, sTR2.eq_1, sIsBl.eq_1, dZip, kZip.eq_1, dDisp1, dSetN, dConsN, dAppN, dPutN, dFld, dFldS, dFldAug, dMeth, dMake, dGet1, dGet2, dDPop, dLPop, dLPopAt, dLClear, dEnum, kEnum.eq_1, dRng3, kR3.eq_1, dForN, dForKeys, dForItems, dLock, lkE, dBack, kNm_f, kNm_t, nmK_f, nmK_lst, nmK_dK, nmK_dT, isDct_dK, isDct_dT, isDct_fK, isDct_fT, sGetO_K, sGetO_S, sGetO_T, sGetO_fK, sGetO_fT, sIn_K, sIn_fK, sIn_T, sIn_fT, sPutC_lst, sPutC_K, sPutC_S, sPutC_T, keyOf_int, keyOf_str, keysC.eq_1, keysC.eq_2, itemsC.eq_1, rs_ref, rs_non, rs_bl, rs_int, rs_str, rs_ty, rs_lst, rs_tup, rs_dK, rs_dT, rs_scr, rs_wD, rs_iD, rs_lwD, resC_lst, resC_dK, resC_dT, resC_fK, resC_fT, resC_ins, updW_same, putFD.eq_1, putFD.eq_2, isL.eq_1, isL.eq_2, sNeg.eq_1, sLen.eq_1, sLen.eq_2, sLen.eq_3, sLen.eq_4, sLen.eq_5, sAbs.eq_1, sMax, sMin, sInt.eq_1, sInt.eq_2, sStr.eq_1, sList.eq_1, sList.eq_2, sList.eq_3, sTuple.eq_1, sTuple.eq_2, sTuple.eq_3, sIsN, sNotN, sIx.eq_1, sIx.eq_2, sIx.eq_3, sIx.eq_4, sIx.eq_5, sIx.eq_6, sIx.eq_7, sIx.eq_8, sIx.eq_9, sSl.eq_1, sSl.eq_2, sSl.eq_3, sSl.eq_4, sRev.eq_1, sRev.eq_2, sRev.eq_3, sAddI.eq_1, sAddI.eq_2, sPut.eq_1, sPut.eq_2, sPut.eq_3, sPut.eq_4, D.isNon, sEq_ii, sNe_ii, sEq_ww, sNe_ww, sEq_ll, sNe_ll, sIsi_ii, sIsi_ib, sIsi_ll, sIsi_tt, sIsi_ss, sEq_w, sEq_i, sEq_lw, sEq_lw', sEq_lle, sEq_lle', sNe_w, sNe_i, sNe_lle', sNe_lw', sEq_ss, sNe_ss, sEq_bb, sNe_bb, sIn_iw, sIn_ii, sIn_wl, sIn_wl', sSl3.eq_1, sSl3.eq_2, dSl3, isS.eq_1, isL.eq_1, isL.eq_2, isA.eq_1, dM0, dM1, sUpper.eq_1, sLower.eq_1, sStrip1.eq_1, sSfind.eq_1, sScount.eq_1, sSindex.eq_1, sSsplit.eq_1, sSjoin.eq_1, sSjoin.eq_2, fPop_snoc, fPop_snoc', startD, wipeD, List.map_cons, List.map_nil, List.length_cons, List.length_nil, List.length_map, List.cons_append, List.nil_append, List.replicate, List.set_cons_zero, List.set_cons_succ, List.set_nil, List.getElem?_cons_zero, List.getElem?_cons_succ, Bool.true_and, Bool.and_true, Bool.and_false, Bool.false_and, Bool.not_true, Bool.not_false, if_true, if_false, Bool.false_eq_true, reduceIte, and_true, true_and, decide_true, decide_false, not_true, Option.map_none, Option.map_some, Option.getD_none, Option.getD_some, Option.isSome_none, Option.isSome_some, Nat.zero_le, Nat.zero_add, Nat.reduceAdd, Nat.reduceSub, D.scal, Option.some.injEq, exists_eq_left', exists_eq_left, exists_eq', D.int.injEq, D.lst.injEq, D.tup.injEq, D.scr.injEq, D.str.injEq, List.cons.injEq, and_self]
    refine ⟨⟨by omega, by omega⟩, ?_⟩
    refine for_rng 0 _ (fun a δ w' => w' = w ∧ ∃ j7, δ = [some (false, .scr ns), some (false, .int l), some (false, .ref ab), some (false, .ref aw), some (false, .ref ar), some (false, .ref ah), j6, j7, j8, j9, j10, j11, j12, j13]) ⟨rfl, _, rfl⟩ ?_ ?_
    · rintro a δ w' N C ha ⟨rfl, j7, rfl⟩ hN hC
      have ha2 : a < 2 := by simpa using ha
      have aB : atI [D.ref (o 0).p, D.ref (o 1).p] (a : Int) = some (.ref (o a).p) := at2 (fun i => D.ref (o i).p) ha2
      have aW : atI [D.ref (o 0).d, D.ref (o 1).d] (a : Int) = some (.ref (o a).d) := at2 (fun i => D.ref (o i).d) ha2
      have aR : atI [D.ref (o 0).lc, D.ref (o 1).lc] (a : Int) = some (.ref (o a).lc) := at2 (fun i => D.ref (o i).lc) ha2
      try simp -implicitDefEqProofs only [Int.zero_add, not_true, I.hb, aB, I.hw, aW, I.hr, aR, dNext, dSet, dLst, dTup, dNil, dCons, dFor, dRng1_u, dRng2_u, dIt_u, oX, dC, dBin, dUn, dVarR, dVar, dApp, dExt, dUpd0, dPut, dAug, dRet, dRetV, dRetN, dBreak, dCont, dIf, dB_u, dTru_u, dTNot, dTAnd, dTOr, dAndV_u, dOrV_u, dNotV_u, dIfX, dChain_u, dCall, dSl, dNoP, dP_u, dLc, dDrop, dFrz, frzD, dAsg, dDicK, dDicT, gN, gT, gsC, gsN, kB.eq_1, kT.eq_1, kT.eq_2, kT.eq_3, kT.eq_4, kT.eq_5, kT.eq_6, kT.eq_7, kT.eq_8, kAnd.eq_1, kOr.eq_1, kNot.eq_1, kIt.eq_1, kIt.eq_2, kIt.eq_3, kIt.eq_4, kP.eq_1, kR1.eq_1, kR2.eq_1, sAdd.eq_1, sAdd.eq_2, sAdd.eq_3, sAdd.eq_4, sJ2.eq_1, sI2.eq_1, sPow, sLt.eq_1, sLt.eq_2, sLe, sGt, sGe, sMul.eq_1, sMul.eq_2, sMulB.eq_1, sMulB.eq_2, sMulB.eq_3, sLR1.eq_1, sLR2.eq_1, sTR1.eq_1, sTR2.eq_1, sIsBl.eq_1, dZip, kZip.eq_1, dDisp1, dSetN, dConsN, dAppN, dPutN, dFld, dFldS, dFldAug, dMeth, dMake, dGet1, dGet2, dDPop, dLPop, dLPopAt, dLClear, dEnum, kEnum.eq_1, dRng3, kR3.eq_1, dForN, dForKeys, dForItems, dLock, lkE, dBack, kNm_f, kNm_t, nmK_f, nmK_lst, nmK_dK, nmK_dT, isDct_dK, isDct_dT, isDct_fK, isDct_fT, sGetO_K, sGetO_S, sGetO_T, sGetO_fK, sGetO_fT, sIn_K, sIn_fK, sIn_T, sIn_fT, sPutC_lst, sPutC_K, sPutC_S, sPutC_T, keyOf_int, keyOf_str, keysC.eq_1, keysC.eq_2, itemsC.eq_1, rs_ref, rs_non, rs_bl, rs_int, rs_str, rs_ty, rs_lst, rs_tup, rs_dK, rs_dT, rs_scr, rs_wD, rs_iD, rs_lwD, resC_lst, resC_dK, resC_dT, resC_fK, resC_fT, resC_ins, updW_same, putFD.eq_1, putFD.eq_2, isL.eq_1, isL.eq_2, sNeg.eq_1, sLen.eq_1, sLen.eq_2, sLen.eq_3, sLen.eq_4, sLen.eq_5, sAbs.eq_1, sMax, sMin, sInt.eq_1, sInt.eq_2, sStr.eq_1, sList.eq_1, sList.eq_2, sList.eq_3, sTuple.eq_1, sTuple.eq_2, sTuple.eq_3, sIsN, sNotN, sIx.eq_1, sIx.eq_2, sIx.eq_3, sIx.eq_4, sIx.eq_5, sIx.eq_6, sIx.eq_7, sIx.eq_8, sIx.eq_9, sSl.eq_1, sSl.eq_2, sSl.eq_3, sSl.eq_4, sRev.eq_1, sRev.eq_2, sRev.eq_3, sAddI.eq_1, sAddI.eq_2, sPut.eq_1, sPut.eq_2, sPut.eq_3, sPut.eq_4, D.isNon, sEq_ii, sNe_ii, sEq_ww, sNe_ww, sEq_ll, sNe_ll, sIsi_ii, sIsi_ib, sIsi_ll, sIsi_tt, sIsi_ss, sEq_w, sEq_i, sEq_lw, sEq_lw', sEq_lle, sEq_lle', sNe_w, sNe_i, sNe_lle', sNe_lw', sEq_ss, sNe_ss, sEq_bb, sNe_bb, sIn_iw, sIn_ii, sIn_wl, sIn_wl', sSl3.eq_1, sSl3.eq_2, dSl3, isS.eq_1, isL.eq_1, isL.eq_2, isA.eq_1, dM0, dM1, sUpper.eq_1, sLower.eq_1, sStrip1.eq_1, sSfind.eq_1, sScount.eq_1, sSindex.eq_1, sSsplit.eq_1, sSjoin.eq_1, sSjoin.eq_2, fPop_snoc, fPop_snoc', startD, wipeD, List.map_cons, List.map_nil, List.length_cons, List.length_nil, List.length_map, List.cons_append, List.nil_append, List.replicate, List.set_cons_zero, List.set_cons_succ, List.set_nil, List.getElem?_cons_zero, List.getElem?_cons_succ, Bool.true_and, Bool.and_true, Bool.and_false, Bool.false_and, Bool.not_true, Bool.not_false, if_true, if_false, Bool.false_eq_true, reduceIte, and_true, true_and, decide_true, decide_false, not_true, Option.map_none, Option.map_some, Option.getD_none, Option.getD_some, Option.isSome_none, Option.isSome_some, Nat.zero_le, Nat.zero_add, Nat.reduceAdd, Nat.reduceSub, D.scal, Option.some.injEq, exists_eq_left', exists_eq_left, exists_eq', D.int.injEq, D.lst.injEq, D.tup.injEq, D.scr.injEq, D.str.injEq, List.cons.injEq, and_self]
      refine ⟨l, o a, rfl, I.ok a ha2, by have := hR a ha2; omega, ?_⟩
      try simp -implicitDefEqProofs only [not_true, dNext, dSet, dLst, dTup, dNil, dCons, dFor, dRng1_u, dRng2_u, dIt_u, oX, dC, dBin, dUn, dVarR, dVar, dApp, dExt, dUpd0, dPut, dAug, dRet, dRetV, dRetN, dBreak, dCont, dIf, dB_u, dTru_u, dTNot, dTAnd, dTOr, dAndV_u, dOrV_u, dNotV_u, dIfX, dChain_u, dCall, dSl, dNoP, dP_u, dLc, dDrop, dFrz, frzD, dAsg, dDicK, dDicT, gN, gT, gsC, gsN, kB.eq_1, kT.eq_1, kT.eq_2, kT.eq_3, kT.eq_4, kT.eq_5, kT.eq_6, kT.eq_7, kT.eq_8, kAnd.eq_1, kOr.eq_1, kNot.eq_1, kIt.eq_1, kIt.eq_2, kIt.eq_3, kIt.eq_4, kP.eq_1, kR1.eq_1, kR2.eq_1, sAdd.eq_1, sAdd.eq_2, sAdd.eq_3, sAdd.eq_4, sJ2.eq_1, sI2.eq_1, sPow, sLt.eq_1, sLt.eq_2, sLe, sGt, sGe, sMul.eq_1, sMul.eq_2, sMulB.eq_1, sMulB.eq_2, sMulB.eq_3, sLR1.eq_1, sLR2.eq_1, sTR1.eq_1, sTR2.eq_1, sIsBl.eq_1, dZip, kZip.eq_1, dDisp1, dSetN, dConsN, dAppN, dPutN, dFld, dFldS, dFldAug, dMeth, dMake, dGet1, dGet2, dDPop, dLPop, dLPopAt, dLClear, dEnum, kEnum.eq_1, dRng3, kR3.eq_1, dForN, dForKeys, dForItems, dLock, lkE, dBack, kNm_f, kNm_t, nmK_f, nmK_lst, nmK_dK, nmK_dT, isDct_dK, isDct_dT, isDct_fK, isDct_fT, sGetO_K, sGetO_S, sGetO_T, sGetO_fK, sGetO_fT, sIn_K, sIn_fK, sIn_T, sIn_fT, sPutC_lst, sPutC_K, sPutC_S, sPutC_T, keyOf_int, keyOf_str, keysC.eq_1, keysC.eq_2, itemsC.eq_1, rs_ref, rs_non, rs_bl, rs_int, rs_str, rs_ty, rs_lst, rs_tup, rs_dK, rs_dT, rs_scr, rs_wD, rs_iD, rs_lwD, resC_lst, resC_dK, resC_dT, resC_fK, resC_fT, resC_ins, updW_same, putFD.eq_1, putFD.eq_2, isL.eq_1, isL.eq_2, sNeg.eq_1, sLen.eq_1, sLen.eq_2, sLen.eq_3, sLen.eq_4, sLen.eq_5, sAbs.eq_1, sMax, sMin, sInt.eq_1, sInt.eq_2, sStr.eq_1, sList.eq_1, sList.eq_2, sList.eq_3, sTuple.eq_1, sTuple.eq_2, sTuple.eq_3, sIsN, sNotN, sIx.eq_1, sIx.eq_2, sIx.eq_3, sIx.eq_4, sIx.eq_5, sIx.eq_6, sIx.eq_7, sIx.eq_8, sIx.eq_9, sSl.eq_1, sSl.eq_2, sSl.eq_3, sSl.eq_4, sRev.eq_1, sRev.eq_2, sRev.eq_3, sAddI.eq_1, sAddI.eq_2, sPut.eq_1, sPut.eq_2, sPut.eq_3, sPut.eq_4, D.isNon, sEq_ii, sNe_ii, sEq_ww, sNe_ww, sEq_ll, sNe_ll, sIsi_ii, sIsi_ib, sIsi_ll, sIsi_tt, sIsi_ss, sEq_w, sEq_i, sEq_lw, sEq_lw', sEq_lle, sEq_lle', sNe_w, sNe_i, sNe_lle', sNe_lw', sEq_ss, sNe_ss, sEq_bb, sNe_bb, sIn_iw, sIn_ii, sIn_wl, sIn_wl', sSl3.eq_1, sSl3.eq_2, dSl3, isS.eq_1, isL.eq_1, isL.eq_2, isA.eq_1, dM0, dM1, sUpper.eq_1, sLower.eq_1, sStrip1.eq_1, sSfind.eq_1, sScount.eq_1, sSindex.eq_1, sSsplit.eq_1, sSjoin.eq_1, sSjoin.eq_2, fPop_snoc, fPop_snoc', startD, wipeD, List.map_cons, List.map_nil, List.length_cons, List.length_nil, List.length_map, List.cons_append, List.nil_append, List.replicate, List.set_cons_zero, List.set_cons_succ, List.set_nil, List.getElem?_cons_zero, List.getElem?_cons_succ, Bool.true_and, Bool.and_true, Bool.and_false, Bool.false_and, Bool.not_true, Bool.not_false, if_true, if_false, Bool.false_eq_true, reduceIte, and_true, true_and, decide_true, decide_false, not_true, Option.map_none, Option.map_some, Option.getD_none, Option.getD_some, Option.isSome_none, Option.isSome_some, Nat.zero_le, Nat.zero_add, Nat.reduceAdd, Nat.reduceSub, D.scal, Option.some.injEq, exists_eq_left', exists_eq_left, exists_eq', D.int.injEq, D.lst.injEq, D.tup.injEq, D.scr.injEq, D.str.injEq, List.cons.injEq, and_self]
      exact hN _ _ ⟨rfl, _, rfl⟩
    · rintro δ w' ⟨rfl, j7, rfl⟩
      exact h _ _ ⟨rfl, _, rfl⟩
  rintro δ w' ⟨rfl, j7, rfl⟩
  refine seq_cut (fun δ w2 => (∀ b, b ∉ hs.map (·.1) → w2 b = w' b) ∧ ∃ j12 j13, δ = [some (false, .scr ns), some (false, .int l), some (false, .ref ab), some (false, .ref aw), some (false, .ref ar), some (false, .ref ah), j6, j7, j8, j9, j10, j11, j12, j13]) (fun N h => ?_) ?_
  · try simp -implicitDefEqProofs only [dNext, dSet, dLst, dTup, dNil, dCons, dFor, dRng1_u, dRng2_u, dIt_u, oX, dC, dBin, dUn, dVarR, dVar, dApp, dExt, dUpd0, dPut, dAug, dRet, dRetV, dRetN, dBreak, dCont, dIf, dB_u, dTru_u, dTNot, dTAnd, dTOr, dAndV_u, dOrV_u, dNotV_u, dIfX, dChain_u, dCall, dSl, dNoP, dP_u, dLc, dDrop, dFrz, frzD, dAsg, dDicK, dDicT, gN, gT, gsC, gsN, kB.eq_1, kT.eq_1, kT.eq_2, kT.eq_3, kT.eq_4, kT.eq_5, kT.eq_6, kT.eq_7, kT.eq_8, kAnd.eq_1, kOr.eq_1, kNot.eq_1, kIt.eq_1, kIt.eq_2, kIt.eq_3, kIt.eq_4, kP.eq_1, kR1.eq_1, kR2.eq_1, sAdd.eq_1, sAdd.eq_2, sAdd.eq_3, sAdd.eq_4, sJ2.eq_1, sI2.eq_1, sPow, sLt.eq_1, sLt.eq_2, sLe, sGt, sGe, sMul.eq_1, sMul.eq_2, sMulB.eq_1, sMulB.eq_2, sMulB.eq_3, sLR1.eq_1, sLR2.eq_1, sTR1.eq_1, sTR2.eq_1, sIsBl.eq_1, dZip, kZip.eq_1, dDisp1, dSetN, dConsN, dAppN, dPutN, dFld, dFldS, dFldAug, dMeth, dMake, dGet1, dGet2, dDPop, dLPop, dLPopAt, dLClear, dEnum, kEnum.eq_1, dRng3, kR3.eq_1, dForN, dForKeys, dForItems, dLock, lkE, dBack, kNm_f, kNm_t, nmK_f, nmK_lst, nmK_dK, nmK_dT, isDct_dK, isDct_dT, isDct_fK, isDct_fT, sGetO_K, sGetO_S, sGetO_T, sGetO_fK, sGetO_fT, sIn_K, sIn_fK, sIn_T, sIn_fT, sPutC_lst, sPutC_K, sPutC_S, sPutC_T, keyOf_int, keyOf_str, keysC.eq_1, keysC.eq_2, itemsC.eq_1, rs_ref, rs_non, rs_bl, rs_int, rs_str, rs_ty, rs_lst, rs_tup, rs_dK, rs_dT, rs_scr, rs_wD, rs_iD, rs_lwD, resC_lst, resC_dK, resC_dT, resC_fK, resC_fT, resC_ins, updW_same, putFD.eq_1, putFD.eq_2, isL.eq_1, isL.eq_2, sNeg.eq_1, sLen.eq_1, sLen.eq_2, sLen.eq_3, sLen.eq_4, sLen.eq_5, sAbs.eq_1, sMax, sMin, sInt.eq_1, sInt.eq_2, sStr.eq_1, sList.eq_1, sList.eq_2, sList.eq_3, sTuple.eq_1, sTuple.eq_2, sTuple.eq_3, sIsN, sNotN, sIx.eq_1, sIx.eq_2, sIx.eq_3, sIx.eq_4, sIx.eq_5, sIx.eq_6, sIx.eq_7, sIx.eq_8, sIx.eq_9, sSl.eq_1, sSl.eq_2, sSl.eq_3, sSl.eq_4, sRev.eq_1, sRev.eq_2, sRev.eq_3, sAddI.eq_1, sAddI.eq_2, sPut.eq_1, sPut.eq_2, sPut.eq_3, sPut.eq_4, D.isNon, sEq_ii, sNe_ii, sEq_ww, sNe_ww, sEq_ll, sNe_ll, sIsi_ii, sIsi_ib, sIsi_ll, sIsi_tt, sIsi_ss, sEq_w, sEq_i, sEq_lw, sEq_lw', sEq_lle, sEq_lle', sNe_w, sNe_i, sNe_lle', sNe_lw', sEq_ss, sNe_ss, sEq_bb, sNe_bb, sIn_iw, sIn_ii, sIn_wl, sIn_wl', sSl3.eq_1, sSl3.eq_2, dSl3, isS.eq_1, isL.eq_1, isL.eq_2, isA.eq_1, dM0, dM1, sUpper.eq_1, sLower.eq_1, sStrip1.eq_1, sSfind.eq_1, sScount.eq_1, sSindex.eq_1, sSsplit.eq_1, sSjoin.eq_1, sSjoin.eq_2, fPop_snoc, fPop_snoc', startD, wipeD, List.map_cons, List.map_nil, List.length_cons, List.length_nil, List.length_map, List.cons_append, List.nil_append, List.replicate, List.set_cons_zero, List.set_cons_succ, List.set_nil, List.getElem?_cons_zero, List.getElem?_cons_succ, Bool.true_and, Bool.and_true, Bool.and_false, Bool.false_and, Bool.not_true, Bool.not_false, if_true, if_false, Bool.false_eq_true, reduceIte, and_true, true_and, decide_true, decide_false, not_true, Option.map_none, Option.map_some, Option.getD_none, Option.getD_some, Option.isSome_none, Option.isSome_some, Nat.zero_le, Nat.zero_add, Nat.reduceAdd, Nat.reduceSub, D.scal, Option.some.injEq, exists_eq_left', exists_eq_left, exists_eq', D.int.injEq, D.lst.injEq, D.tup.injEq, D.scr.injEq, D.str.injEq, List.cons.injEq, and_self]
    refine ⟨_, _, rfl, I.hh, ?_⟩
    refine forN_go (fun h : Hd => D.tup [.ref h.1, .ref h.2.1]) (fun pre δ w2 => (∀ b, b ∉ pre.map (·.1) → w2 b = w' b) ∧ ∃ j12 j13, δ = [some (false, .scr ns), some (false, .int l), some (false, .ref ab), some (false, .ref aw), some (false, .ref ar), some (false, .ref ah), j6, j7, j8, j9, j10, j11, j12, j13]) hs ⟨fun _ _ => rfl, _, _, rfl⟩ ?_ ?_
    · rintro pre x post δ w2 N2 C2 e ⟨hw, j12, j13, rfl⟩ hN2 hC2
      obtain ⟨hx1, hx2, hx3⟩ := nd_pre I.nd e
      obtain ⟨g1, g2, g3⟩ := I.held x (by rw [e]; simp)
      have f1 := (hw _ hx1).trans g1
      have f2 := (hw _ hx2).trans g2
      have e3 := fun P => g3.ne (P := P) (by decide)
      try simp -implicitDefEqProofs only [dNext, dSet, dLst, dTup, dNil, dCons, dFor, dRng1_u, dRng2_u, dIt_u, oX, dC, dBin, dUn, dVarR, dVar, dApp, dExt, dUpd0, dPut, dAug, dRet, dRetV, dRetN, dBreak, dCont, dIf, dB_u, dTru_u, dTNot, dTAnd, dTOr, dAndV_u, dOrV_u, dNotV_u, dIfX, dChain_u, dCall, dSl, dNoP, dP_u, dLc, dDrop, dFrz, frzD, dAsg, dDicK, dDicT, gN, gT, gsC, gsN, kB.eq_1, kT.eq_1, kT.eq_2, kT.eq_3, kT.eq_4, kT.eq_5, kT.eq_6, kT.eq_7, kT.eq_8, kAnd.eq_1, kOr.eq_1, kNot.eq_1, kIt.eq_1, kIt.eq_2, kIt.eq_3, kIt.eq_4, kP.eq_1, kR1.eq_1, kR2.eq_1, sAdd.eq_1, sAdd.eq_2, sAdd.eq_3, sAdd.eq_4, sJ2.eq_1, sI2.eq_1, sPow, sLt.eq_1, sLt.eq_2, sLe, sGt, sGe, sMul.eq_1, sMul.eq_2, sMulB.eq_1, sMulB.eq_2, sMulB.eq_3, sLR1.eq_1, sLR2.eq_1, sTR1.eq_1, sTR2.eq_1, sIsBl.eq_1, dZip, kZip.eq_1, dDisp1, dSetN, dConsN, dAppN, dPutN, dFld, dFldS, dFldAug, dMeth, dMake, dGet1, dGet2, dDPop, dLPop, dLPopAt, dLClear, dEnum, kEnum.eq_1, dRng3, kR3.eq_1, dForN, dForKeys, dForItems, dLock, lkE, dBack, kNm_f, kNm_t, nmK_f, nmK_lst, nmK_dK, nmK_dT, isDct_dK, isDct_dT, isDct_fK, isDct_fT, sGetO_K, sGetO_S, sGetO_T, sGetO_fK, sGetO_fT, sIn_K, sIn_fK, sIn_T, sIn_fT, sPutC_lst, sPutC_K, sPutC_S, sPutC_T, keyOf_int, keyOf_str, keysC.eq_1, keysC.eq_2, itemsC.eq_1, rs_ref, rs_non, rs_bl, rs_int, rs_str, rs_ty, rs_lst, rs_tup, rs_dK, rs_dT, rs_scr, rs_wD, rs_iD, rs_lwD, resC_lst, resC_dK, resC_dT, resC_fK, resC_fT, resC_ins, updW_same, putFD.eq_1, putFD.eq_2, isL.eq_1, isL.eq_2, sNeg.eq_1, sLen.eq_1, sLen.eq_2, sLen.eq_3, sLen.eq_4, sLen.eq_5, sAbs.eq_1, sMax, sMin, sInt.eq_1, sInt.eq_2, sStr.eq_1, sList.eq_1, sList.eq_2, sList.eq_3, sTuple.eq_1, sTuple.eq_2, sTuple.eq_3, sIsN, sNotN, sIx.eq_1, sIx.eq_2, sIx.eq_3, sIx.eq_4, sIx.eq_5, sIx.eq_6, sIx.eq_7, sIx.eq_8, sIx.eq_9, sSl.eq_1, sSl.eq_2, sSl.eq_3, sSl.eq_4, sRev.eq_1, sRev.eq_2, sRev.eq_3, sAddI.eq_1, sAddI.eq_2, sPut.eq_1, sPut.eq_2, sPut.eq_3, sPut.eq_4, D.isNon, sEq_ii, sNe_ii, sEq_ww, sNe_ww, sEq_ll, sNe_ll, sIsi_ii, sIsi_ib, sIsi_ll, sIsi_tt, sIsi_ss, sEq_w, sEq_i, sEq_lw, sEq_lw', sEq_lle, sEq_lle', sNe_w, sNe_i, sNe_lle', sNe_lw', sEq_ss, sNe_ss, sEq_bb, sNe_bb, sIn_iw, sIn_ii, sIn_wl, sIn_wl', sSl3.eq_1, sSl3.eq_2, dSl3, isS.eq_1, isL.eq_1, isL.eq_2, isA.eq_1, dM0, dM1, sUpper.eq_1, sLower.eq_1, sStrip1.eq_1, sSfind.eq_1, sScount.eq_1, sSindex.eq_1, sSsplit.eq_1, sSjoin.eq_1, sSjoin.eq_2, fPop_snoc, fPop_snoc', startD, wipeD, List.map_cons, List.map_nil, List.length_cons, List.length_nil, List.length_map, List.cons_append, List.nil_append, List.replicate, List.set_cons_zero, List.set_cons_succ, List.set_nil, List.getElem?_cons_zero, List.getElem?_cons_succ, Bool.true_and, Bool.and_true, Bool.and_false, Bool.false_and, Bool.not_true, Bool.not_false, if_true, if_false, Bool.false_eq_true, reduceIte, and_true, true_and, decide_true, decide_false, not_true, Option.map_none, Option.map_some, Option.getD_none, Option.getD_some, Option.isSome_none, Option.isSome_some, Nat.zero_le, Nat.zero_add, Nat.reduceAdd, Nat.reduceSub, D.scal, Option.some.injEq, exists_eq_left', exists_eq_left, exists_eq', D.int.injEq, D.lst.injEq, D.tup.injEq, D.scr.injEq, D.str.injEq, List.cons.injEq, and_self]
      refine seq_i ?_
      try simp -implicitDefEqProofs only [f1, f2, e3, not_true, dNext, dSet, dLst, dTup, dNil, dCons, dFor, dRng1_u, dRng2_u, dIt_u, oX, dC, dBin, dUn, dVarR, dVar, dApp, dExt, dUpd0, dPut, dAug, dRet, dRetV, dRetN, dBreak, dCont, dIf, dB_u, dTru_u, dTNot, dTAnd, dTOr, dAndV_u, dOrV_u, dNotV_u, dIfX, dChain_u, dCall, dSl, dNoP, dP_u, dLc, dDrop, dFrz, frzD, dAsg, dDicK, dDicT, gN, gT, gsC, gsN, kB.eq_1, kT.eq_1, kT.eq_2, kT.eq_3, kT.eq_4, kT.eq_5, kT.eq_6, kT.eq_7, kT.eq_8, kAnd.eq_1, kOr.eq_1, kNot.eq_1, kIt.eq_1, kIt.eq_2, kIt.eq_3, kIt.eq_4, kP.eq_1, kR1.eq_1, kR2.eq_1, sAdd.eq_1, sAdd.eq_2, sAdd.eq_3, sAdd.eq_4, sJ2.eq_1, sI2.eq_1, sPow, sLt.eq_1, sLt.eq_2, sLe, sGt, sGe, sMul.eq_1, sMul.eq_2, sMulB.eq_1, sMulB.eq_2, sMulB.eq_3, sLR1.eq_1, sLR2.eq_1, sTR1.eq_1, sTR2.eq_1, sIsBl.eq_1, dZip, kZip.eq_1, dDisp1, dSetN, dConsN, dAppN, dPutN, dFld, dFldS, dFldAug, dMeth, dMake, dGet1, dGet2, dDPop, dLPop, dLPopAt, dLClear, dEnum, kEnum.eq_1, dRng3, kR3.eq_1, dForN, dForKeys, dForItems, dLock, lkE, dBack, kNm_f, kNm_t, nmK_f, nmK_lst, nmK_dK, nmK_dT, isDct_dK, isDct_dT, isDct_fK, isDct_fT, sGetO_K, sGetO_S, sGetO_T, sGetO_fK, sGetO_fT, sIn_K, sIn_fK, sIn_T, sIn_fT, sPutC_lst, sPutC_K, sPutC_S, sPutC_T, keyOf_int, keyOf_str, keysC.eq_1, keysC.eq_2, itemsC.eq_1, rs_ref, rs_non, rs_bl, rs_int, rs_str, rs_ty, rs_lst, rs_tup, rs_dK, rs_dT, rs_scr, rs_wD, rs_iD, rs_lwD, resC_lst, resC_dK, resC_dT, resC_fK, resC_fT, resC_ins, updW_same, putFD.eq_1, putFD.eq_2, isL.eq_1, isL.eq_2, sNeg.eq_1, sLen.eq_1, sLen.eq_2, sLen.eq_3, sLen.eq_4, sLen.eq_5, sAbs.eq_1, sMax, sMin, sInt.eq_1, sInt.eq_2, sStr.eq_1, sList.eq_1, sList.eq_2, sList.eq_3, sTuple.eq_1, sTuple.eq_2, sTuple.eq_3, sIsN, sNotN, sIx.eq_1, sIx.eq_2, sIx.eq_3, sIx.eq_4, sIx.eq_5, sIx.eq_6, sIx.eq_7, sIx.eq_8, sIx.eq_9, sSl.eq_1, sSl.eq_2, sSl.eq_3, sSl.eq_4, sRev.eq_1, sRev.eq_2, sRev.eq_3, sAddI.eq_1, sAddI.eq_2, sPut.eq_1, sPut.eq_2, sPut.eq_3, sPut.eq_4, D.isNon, sEq_ii, sNe_ii, sEq_ww, sNe_ww, sEq_ll, sNe_ll, sIsi_ii, sIsi_ib, sIsi_ll, sIsi_tt, sIsi_ss, sEq_w, sEq_i, sEq_lw, sEq_lw', sEq_lle, sEq_lle', sNe_w, sNe_i, sNe_lle', sNe_lw', sEq_ss, sNe_ss, sEq_bb, sNe_bb, sIn_iw, sIn_ii, sIn_wl, sIn_wl', sSl3.eq_1, sSl3.eq_2, dSl3, isS.eq_1, isL.eq_1, isL.eq_2, isA.eq_1, dM0, dM1, sUpper.eq_1, sLower.eq_1, sStrip1.eq_1, sSfind.eq_1, sScount.eq_1, sSindex.eq_1, sSsplit.eq_1, sSjoin.eq_1, sSjoin.eq_2, fPop_snoc, fPop_snoc', startD, wipeD, List.map_cons, List.map_nil, List.length_cons, List.length_nil, List.length_map, List.cons_append, List.nil_append, List.replicate, List.set_cons_zero, List.set_cons_succ, List.set_nil, List.getElem?_cons_zero, List.getElem?_cons_succ, Bool.true_and, Bool.and_true, Bool.and_false, Bool.false_and, Bool.not_true, Bool.not_false, if_true, if_false, Bool.false_eq_true, reduceIte, and_true, true_and, decide_true, decide_false, not_true, Option.map_none, Option.map_some, Option.getD_none, Option.getD_some, Option.isSome_none, Option.isSome_some, Nat.zero_le, Nat.zero_add, Nat.reduceAdd, Nat.reduceSub, D.scal, Option.some.injEq, exists_eq_left', exists_eq_left, exists_eq', D.int.injEq, D.lst.injEq, D.tup.injEq, D.scr.injEq, D.str.injEq, List.cons.injEq, and_self]
      refine ⟨_, _, rfl, f1, hN2 _ _ ?_ ⟨fun b hb => ?_, _, _, rfl⟩⟩
      · rw [updW_ne (fun z => nd_four I.nd ah (by simp) (List.mem_map.mpr ⟨x, by rw [e]; simp, z.symm⟩)), hw ah (fun z => nd_four I.nd ah (by simp) (by rw [e, List.map_append]; exact List.mem_append_left _ z))]
        exact I.hh
      · simp only [List.map_append, List.mem_append, List.map_cons, List.map_nil, List.mem_singleton, not_or] at hb
        rw [updW_ne hb.2]
        exact hw b hb.1
    · rintro δ w2 ⟨hw, j12, j13, rfl⟩
      exact h _ _ ⟨hw, _, _, rfl⟩
  rintro δ w2 ⟨hw, j12, j13, rfl⟩
  have out : ∀ b, w' b ≠ none → b ∉ hs.map (·.1) → w2 b = w' b := fun b _ hb => hw b hb
  have q4 := nd_four I.nd
  have ok2 : ∀ i, i < 2 → OjOk w2 l (o i) := fun i hi => (I.ok i hi).same fun b hb => hw b fun z => by
    obtain ⟨h, hh, e⟩ := List.mem_map.mp z
    exact I.nf i hi b (List.mem_append_right _ (List.mem_flatMap.mpr ⟨h, hh, by simp [← e]⟩)) hb
  have ib := (hw ab (q4 ab (by simp))).trans I.hb
  have iw := (hw aw (q4 aw (by simp))).trans I.hw
  have ir := (hw ar (q4 ar (by simp))).trans I.hr
  try simp -implicitDefEqProofs only [not_true, ib, iw, ir, dNext, dSet, dLst, dTup, dNil, dCons, dFor, dRng1_u, dRng2_u, dIt_u, oX, dC, dBin, dUn, dVarR, dVar, dApp, dExt, dUpd0, dPut, dAug, dRet, dRetV, dRetN, dBreak, dCont, dIf, dB_u, dTru_u, dTNot, dTAnd, dTOr, dAndV_u, dOrV_u, dNotV_u, dIfX, dChain_u, dCall, dSl, dNoP, dP_u, dLc, dDrop, dFrz, frzD, dAsg, dDicK, dDicT, gN, gT, gsC, gsN, kB.eq_1, kT.eq_1, kT.eq_2, kT.eq_3, kT.eq_4, kT.eq_5, kT.eq_6, kT.eq_7, kT.eq_8, kAnd.eq_1, kOr.eq_1, kNot.eq_1, kIt.eq_1, kIt.eq_2, kIt.eq_3, kIt.eq_4, kP.eq_1, kR1.eq_1, kR2.eq_1, sAdd.eq_1, sAdd.eq_2, sAdd.eq_3, sAdd.eq_4, sJ2.eq_1, sI2.eq_1, sPow, sLt.eq_1, sLt.eq_2, sLe, sGt, sGe, sMul.eq_1, sMul.eq_2, sMulB.eq_1, sMulB.eq_2, sMulB.eq_3, sLR1.eq_1, sLR2.eq_1, sTR1.eq_1, sTR2.eq_1, sIsBl.eq_1, dZip, kZip.eq_1, dDisp1, dSetN, dConsN, dAppN, dPutN, dFld, dFldS, dFldAug, dMeth, dMake, dGet1, dGet2, dDPop, dLPop, dLPopAt, dLClear, dEnum, kEnum.eq_1, dRng3, kR3.eq_1, dForN, dForKeys, dForItems, dLock, lkE, dBack, kNm_f, kNm_t, nmK_f, nmK_lst, nmK_dK, nmK_dT, isDct_dK, isDct_dT, isDct_fK, isDct_fT, sGetO_K, sGetO_S, sGetO_T, sGetO_fK, sGetO_fT, sIn_K, sIn_fK, sIn_T, sIn_fT, sPutC_lst, sPutC_K, sPutC_S, sPutC_T, keyOf_int, keyOf_str, keysC.eq_1, keysC.eq_2, itemsC.eq_1, rs_ref, rs_non, rs_bl, rs_int, rs_str, rs_ty, rs_lst, rs_tup, rs_dK, rs_dT, rs_scr, rs_wD, rs_iD, rs_lwD, resC_lst, resC_dK, resC_dT, resC_fK, resC_fT, resC_ins, updW_same, putFD.eq_1, putFD.eq_2, isL.eq_1, isL.eq_2, sNeg.eq_1, sLen.eq_1, sLen.eq_2, sLen.eq_3, sLen.eq_4, sLen.eq_5, sAbs.eq_1, sMax, sMin, sInt.eq_1, sInt.eq_2, sStr.eq_1, sList.eq_1, sList.eq_2, sList.eq_3, sTuple.eq_1, sTuple.eq_2, sTuple.eq_3, sIsN, sNotN, sIx.eq_1, sIx.eq_2, sIx.eq_3, sIx.eq_4, sIx.eq_5, sIx.eq_6, sIx.eq_7, sIx.eq_8, sIx.eq_9, sSl.eq_1, sSl.eq_2, sSl.eq_3, sSl.eq_4, sRev.eq_1, sRev.eq_2, sRev.eq_3, sAddI.eq_1, sAddI.eq_2, sPut.eq_1, sPut.eq_2, sPut.eq_3, sPut.eq_4, D.isNon, sEq_ii, sNe_ii, sEq_ww, sNe_ww, sEq_ll, sNe_ll, sIsi_ii, sIsi_ib, sIsi_ll, sIsi_tt, sIsi_ss, sEq_w, sEq_i, sEq_lw, sEq_lw', sEq_lle, sEq_lle', sNe_w, sNe_i, sNe_lle', sNe_lw', sEq_ss, sNe_ss, sEq_bb, sNe_bb, sIn_iw, sIn_ii, sIn_wl, sIn_wl', sSl3.eq_1, sSl3.eq_2, dSl3, isS.eq_1, isL.eq_1, isL.eq_2, isA.eq_1, dM0, dM1, sUpper.eq_1, sLower.eq_1, sStrip1.eq_1, sSfind.eq_1, sScount.eq_1, sSindex.eq_1, sSsplit.eq_1, sSjoin.eq_1, sSjoin.eq_2, fPop_snoc, fPop_snoc', startD, wipeD, List.map_cons, List.map_nil, List.length_cons, List.length_nil, List.length_map, List.cons_append, List.nil_append, List.replicate, List.set_cons_zero, List.set_cons_succ, List.set_nil, List.getElem?_cons_zero, List.getElem?_cons_succ, Bool.true_and, Bool.and_true, Bool.and_false, Bool.false_and, Bool.not_true, Bool.not_false, if_true, if_false, Bool.false_eq_true, reduceIte, and_true, true_and, decide_true, decide_false, not_true, Option.map_none, Option.map_some, Option.getD_none, Option.getD_some, Option.isSome_none, Option.isSome_some, Nat.zero_le, Nat.zero_add, Nat.reduceAdd, Nat.reduceSub, D.scal, Option.some.injEq, exists_eq_left', exists_eq_left, exists_eq', D.int.injEq, D.lst.injEq, D.tup.injEq, D.scr.injEq, D.str.injEq, List.cons.injEq, and_self]
  refine ⟨_, rfl, _, rfl, _, rfl, l, o 0, rfl, ok2 0 (by omega), by have := hR 0 (by omega); omega, ?_⟩
  try simp -implicitDefEqProofs only [not_true, ib, iw, ir, dNext, dSet, dLst, dTup, dNil, dCons, dFor, dRng1_u, dRng2_u, dIt_u, oX, dC, dBin, dUn, dVarR, dVar, dApp, dExt, dUpd0, dPut, dAug, dRet, dRetV, dRetN, dBreak, dCont, dIf, dB_u, dTru_u, dTNot, dTAnd, dTOr, dAndV_u, dOrV_u, dNotV_u, dIfX, dChain_u, dCall, dSl, dNoP, dP_u, dLc, dDrop, dFrz, frzD, dAsg, dDicK, dDicT, gN, gT, gsC, gsN, kB.eq_1, kT.eq_1, kT.eq_2, kT.eq_3, kT.eq_4, kT.eq_5, kT.eq_6, kT.eq_7, kT.eq_8, kAnd.eq_1, kOr.eq_1, kNot.eq_1, kIt.eq_1, kIt.eq_2, kIt.eq_3, kIt.eq_4, kP.eq_1, kR1.eq_1, kR2.eq_1, sAdd.eq_1, sAdd.eq_2, sAdd.eq_3, sAdd.eq_4, sJ2.eq_1, sI2.eq_1, sPow, sLt.eq_1, sLt.eq_2, sLe, sGt, sGe, sMul.eq_1, sMul.eq_2, sMulB.eq_1, sMulB.eq_2, sMulB.eq_3, sLR1.eq_1, sLR2.eq_1, sTR1.eq_1, sTR2.eq_1, sIsBl.eq_1, dZip, kZip.eq_1, dDisp1, dSetN, dConsN, dAppN, dPutN, dFld, dFldS, dFldAug, dMeth, dMake, dGet1, dGet2, dDPop, dLPop, dLPopAt, dLClear, dEnum, kEnum.eq_1, dRng3, kR3.eq_1, dForN, dForKeys, dForItems, dLock, lkE, dBack, kNm_f, kNm_t, nmK_f, nmK_lst, nmK_dK, nmK_dT, isDct_dK, isDct_dT, isDct_fK, isDct_fT, sGetO_K, sGetO_S, sGetO_T, sGetO_fK, sGetO_fT, sIn_K, sIn_fK, sIn_T, sIn_fT, sPutC_lst, sPutC_K, sPutC_S, sPutC_T, keyOf_int, keyOf_str, keysC.eq_1, keysC.eq_2, itemsC.eq_1, rs_ref, rs_non, rs_bl, rs_int, rs_str, rs_ty, rs_lst, rs_tup, rs_dK, rs_dT, rs_scr, rs_wD, rs_iD, rs_lwD, resC_lst, resC_dK, resC_dT, resC_fK, resC_fT, resC_ins, updW_same, putFD.eq_1, putFD.eq_2, isL.eq_1, isL.eq_2, sNeg.eq_1, sLen.eq_1, sLen.eq_2, sLen.eq_3, sLen.eq_4, sLen.eq_5, sAbs.eq_1, sMax, sMin, sInt.eq_1, sInt.eq_2, sStr.eq_1, sList.eq_1, sList.eq_2, sList.eq_3, sTuple.eq_1, sTuple.eq_2, sTuple.eq_3, sIsN, sNotN, sIx.eq_1, sIx.eq_2, sIx.eq_3, sIx.eq_4, sIx.eq_5, sIx.eq_6, sIx.eq_7, sIx.eq_8, sIx.eq_9, sSl.eq_1, sSl.eq_2, sSl.eq_3, sSl.eq_4, sRev.eq_1, sRev.eq_2, sRev.eq_3, sAddI.eq_1, sAddI.eq_2, sPut.eq_1, sPut.eq_2, sPut.eq_3, sPut.eq_4, D.isNon, sEq_ii, sNe_ii, sEq_ww, sNe_ww, sEq_ll, sNe_ll, sIsi_ii, sIsi_ib, sIsi_ll, sIsi_tt, sIsi_ss, sEq_w, sEq_i, sEq_lw, sEq_lw', sEq_lle, sEq_lle', sNe_w, sNe_i, sNe_lle', sNe_lw', sEq_ss, sNe_ss, sEq_bb, sNe_bb, sIn_iw, sIn_ii, sIn_wl, sIn_wl', sSl3.eq_1, sSl3.eq_2, dSl3, isS.eq_1, isL.eq_1, isL.eq_2, isA.eq_1, dM0, dM1, sUpper.eq_1, sLower.eq_1, sStrip1.eq_1, sSfind.eq_1, sScount.eq_1, sSindex.eq_1, sSsplit.eq_1, sSjoin.eq_1, sSjoin.eq_2, fPop_snoc, fPop_snoc', startD, wipeD, List.map_cons, List.map_nil, List.length_cons, List.length_nil, List.length_map, List.cons_append, List.nil_append, List.replicate, List.set_cons_zero, List.set_cons_succ, List.set_nil, List.getElem?_cons_zero, List.getElem?_cons_succ, Bool.true_and, Bool.and_true, Bool.and_false, Bool.false_and, Bool.not_true, Bool.not_false, if_true, if_false, Bool.false_eq_true, reduceIte, and_true, true_and, decide_true, decide_false, not_true, Option.map_none, Option.map_some, Option.getD_none, Option.getD_some, Option.isSome_none, Option.isSome_some, Nat.zero_le, Nat.zero_add, Nat.reduceAdd, Nat.reduceSub, D.scal, Option.some.injEq, exists_eq_left', exists_eq_left, exists_eq', D.int.injEq, D.lst.injEq, D.tup.injEq, D.scr.injEq, D.str.injEq, List.cons.injEq, and_self]
  refine ⟨_, rfl, _, rfl, _, rfl, l, o 1, rfl, ok2 1 (by omega), by have := hR 1 (by omega); omega, ?_⟩
  exact q _

/-! ### the defs by their places, and that they do so -/
def top (i : Nat) : Stmt := PySem.Challenge.pw_cosetyard_k11_rooms_made.main.body.getD i (.Pass ⟨0, 0, 0, 0⟩)
structure Bs (mg : Str → Option Value) : Prop where
  bool_ : mg "bool" = none
  int_ : mg "int" = none
  isinstance_ : mg "isinstance" = none
  len_ : mg "len" = none
  list_ : mg "list" = none
  range_ : mg "range" = none
  str_ : mg "str" = none
  tuple_ : mg "tuple" = none
abbrev s_Rooms_init : Stmt := inClass (top 2) 0
theorem sc_Rooms_init : FnScope ["self", "letters"] ["self", "letters"] (defScope s_Rooms_init) := ⟨rfl, rfl, rfl, by decide +kernel, rfl, by decide +kernel, by decide +kernel⟩
abbrev s_Rooms_make : Stmt := inClass (top 2) 1
theorem sc_Rooms_make : FnScope ["self", "room", "step", "other"] ["self", "room", "step"] (defScope s_Rooms_make) := ⟨rfl, rfl, rfl, by decide +kernel, rfl, by decide +kernel, by decide +kernel⟩
abbrev s_Rooms_by : Stmt := inClass (top 2) 5
theorem sc_Rooms_by : FnScope ["self", "room", "step"] ["self", "room", "step"] (defScope s_Rooms_by) := ⟨rfl, rfl, rfl, by decide +kernel, rfl, by decide +kernel, by decide +kernel⟩
abbrev s_Rooms_elder : Stmt := inClass (top 2) 6
theorem sc_Rooms_elder : FnScope ["self", "room"] ["self", "room"] (defScope s_Rooms_elder) := ⟨rfl, rfl, rfl, by decide +kernel, rfl, by decide +kernel, by decide +kernel⟩
abbrev s_Rooms_standing : Stmt := inClass (top 2) 7
theorem sc_Rooms_standing : FnScope ["self", "room"] ["self"] (defScope s_Rooms_standing) := ⟨rfl, rfl, rfl, by decide +kernel, rfl, by decide +kernel, by decide +kernel⟩
abbrev s_Rooms_paper : Stmt := inClass (top 2) 8
theorem sc_Rooms_paper : FnScope ["self"] ["self"] (defScope s_Rooms_paper) := ⟨rfl, rfl, rfl, by decide +kernel, rfl, by decide +kernel, by decide +kernel⟩
abbrev s_Lcell_at : Stmt := top 4
theorem sc_Lcell_at : FnScope ["_law_script", "_law_k"] ["_law_script", "_law_k"] (defScope s_Lcell_at) := ⟨rfl, rfl, rfl, by decide +kernel, rfl, by decide +kernel, by decide +kernel⟩
abbrev s_Lwhole : Stmt := top 5
theorem sc_Lwhole : FnScope ["_law_found"] ["_law_found"] (defScope s_Lwhole) := ⟨rfl, rfl, rfl, by decide +kernel, rfl, by decide +kernel, by decide +kernel⟩
abbrev s_Lstep : Stmt := top 6
theorem sc_Lstep : FnScope ["_law_number", "_law_letters"] ["_law_number", "_law_letters"] (defScope s_Lstep) := ⟨rfl, rfl, rfl, by decide +kernel, rfl, by decide +kernel, by decide +kernel⟩
abbrev s_Lrows : Stmt := top 7
theorem sc_Lrows : FnScope ["_law_told", "_law_due", "_law_row"] ["_law_told", "_law_due"] (defScope s_Lrows) := ⟨rfl, rfl, rfl, by decide +kernel, rfl, by decide +kernel, by decide +kernel⟩
abbrev s_Lby : Stmt := top 8
theorem sc_Lby : FnScope ["_law_rooms", "_law_room", "_law_step_here", "_law_ways", "_law_found"] ["_law_rooms", "_law_room", "_law_step_here", "_law_ways"] (defScope s_Lby) := ⟨rfl, rfl, rfl, by decide +kernel, rfl, by decide +kernel, by decide +kernel⟩
abbrev s_Lseen : Stmt := top 9
theorem sc_Lseen : FnScope ["_law_rooms", "_law_letters", "_law_ways", "_law_rows_here", "_law_found", "_law_room", "_law_step_here"] ["_law_rooms", "_law_letters", "_law_ways", "_law_rows_here"] (defScope s_Lseen) := ⟨rfl, rfl, rfl, by decide +kernel, rfl, by decide +kernel, by decide +kernel⟩
abbrev s_law : Stmt := top 10
theorem sc_law : FnScope ["_law_script", "_law_letters", "_law_both", "_law_ways", "_law_rows_here", "_law_held", "_law_cell", "_law_which", "_law_many", "_law_room", "_law_step_here", "_law_found", "_law_told", "_law_due"] ["_law_script"] (defScope s_law) := ⟨rfl, rfl, rfl, by decide +kernel, rfl, by decide +kernel, by decide +kernel⟩
section
variable {P : Program} {w : World} {K : PySem.W.Frag} {mg : Str → Option Value} {base : Heap}
theorem d_Rooms_init {f : Addr} {fd : FuncData} (F : L2.Fun K "__init__" "Rooms.__init__" s_Rooms_init f fd) (B : Bs mg) {C_Rooms : Addr} (a_Rooms : PySem.W.nsIn K mainGlobals "Rooms" = some (some (.ref C_Rooms))) (c_Rooms : Cls K C_Rooms) (n_Rooms_elders : NoAttr K C_Rooms "elders") (n_Rooms_known : NoAttr K C_Rooms "known") (n_Rooms_letters : NoAttr K C_Rooms "letters") (n_Rooms_made : NoAttr K C_Rooms "made") (n_Rooms_told : NoAttr K C_Rooms "told") (hm : Mk K C_Rooms f) (mC : mg "Rooms" = some (.ref C_Rooms)) : Mak P w K mg base 1 "Rooms" T_Rooms_init :=
  mak_ok F sc_Rooms_init a_Rooms mC hm (fun _ _ _ _ _ _ us hl => match us, hl with | [_, _], _ => rfl) (fun ds w P h => len_Rooms_init ds w P h) ⟨fun _ => b_Rooms_init, fun cdv A outer s H F0 He0 w0 rep0 E hr => (jss_cons (js_fld false rfl a_Rooms c_Rooms n_Rooms_letters (jo_var (pv 0)) (jx_var (pv 1))) (jss_cons (js_fld false rfl a_Rooms c_Rooms n_Rooms_made (jo_var (pv 0)) jx_int) (jss_cons (js_fld true rfl a_Rooms c_Rooms n_Rooms_elders (jo_var (pv 0)) (jx_lst (ja_cons jx_int ja_nil))) (jss_cons (js_fld true rfl a_Rooms c_Rooms n_Rooms_known (jo_var (pv 0)) (jx_lst (ja_consN jx_dicK ja_nil))) (jss_one (js_fld true rfl a_Rooms c_Rooms n_Rooms_told (jo_var (pv 0)) (jx_lst ja_nil))))))), fun ds w P h => v_Rooms_init ds w P h⟩
theorem d_Rooms_make {f : Addr} {fd : FuncData} (F : L2.Fun K "make" "Rooms.make" s_Rooms_make f fd) (B : Bs mg) {C_Rooms : Addr} (a_Rooms : PySem.W.nsIn K mainGlobals "Rooms" = some (some (.ref C_Rooms))) (c_Rooms : Cls K C_Rooms) (n_Rooms_elders : NoAttr K C_Rooms "elders") (n_Rooms_known : NoAttr K C_Rooms "known") (n_Rooms_made : NoAttr K C_Rooms "made") (n_Rooms_told : NoAttr K C_Rooms "told") (hm : Meth K C_Rooms "make" f) : Mth P w K mg base 1 "Rooms" "make" T_Rooms_make :=
  mth_ok F sc_Rooms_make a_Rooms c_Rooms hm (fun _ _ _ _ _ _ us hl => match us, hl with | [_, _, _], _ => rfl) (fun ds w P h => len_Rooms_make ds w P h) ⟨fun _ => b_Rooms_make, fun cdv A outer s H F0 He0 w0 rep0 E hr => (jss_cons (js_set (i := 3) false sc_Rooms_make.nd (jx_fld rfl a_Rooms c_Rooms n_Rooms_made (jo_var (pv 0)))) (jss_cons (js_fldAug rfl a_Rooms c_Rooms n_Rooms_made (jo_var (pv 0)) (jo_of jx_int)) (jss_cons (js_appN false rfl (jo_of (jx_fld rfl a_Rooms c_Rooms n_Rooms_elders (jo_var (pv 0)))) (jx_var (pv 3))) (jss_cons (js_appN true rfl (jo_of (jx_fld rfl a_Rooms c_Rooms n_Rooms_known (jo_var (pv 0)))) (jx_disp1 (jo_of (jx_un un_neg sem_neg (jo_var (pv 2)))) (jx_var (pv 1)))) (jss_cons (js_putN false rfl (hu1 hr) (jo_of (jx_ix rfl (hu1 hr) (jo_of (jx_fld rfl a_Rooms c_Rooms n_Rooms_known (jo_var (pv 0)))) (jo_var (pv 1)))) (jo_var (pv 2)) (jx_var (pv 3))) (jss_cons (js_appN false rfl (jo_of (jx_fld rfl a_Rooms c_Rooms n_Rooms_told (jo_var (pv 0)))) (jx_tup (ja_cons jx_str (ja_cons (jx_var (pv 1)) (ja_cons (jx_var (pv 2)) (ja_cons (jx_var (pv 3)) ja_nil)))))) (jss_one (js_retV (pv 3))))))))), fun ds w P h => v_Rooms_make ds w P h⟩
theorem d_Rooms_by {f : Addr} {fd : FuncData} (F : L2.Fun K "by" "Rooms.by" s_Rooms_by f fd) (B : Bs mg) {C_Rooms : Addr} (a_Rooms : PySem.W.nsIn K mainGlobals "Rooms" = some (some (.ref C_Rooms))) (c_Rooms : Cls K C_Rooms) (n_Rooms_known : NoAttr K C_Rooms "known") (hm : Meth K C_Rooms "by" f) : Mth P w K mg base 1 "Rooms" "by" T_Rooms_by :=
  mth_ok F sc_Rooms_by a_Rooms c_Rooms hm (fun _ _ _ _ _ _ us hl => match us, hl with | [_, _, _], _ => rfl) (fun ds w P h => len_Rooms_by ds w P h) ⟨fun _ => b_Rooms_by, fun cdv A outer s H F0 He0 w0 rep0 E hr => (jss_one (js_ret (jx_get1 rfl (hu1 hr) (jo_of (jx_ix rfl (hu1 hr) (jo_of (jx_fld rfl a_Rooms c_Rooms n_Rooms_known (jo_var (pv 0)))) (jo_var (pv 1)))) (jo_var (pv 2))))), fun ds w P h => v_Rooms_by ds w P h⟩
theorem d_Rooms_elder {f : Addr} {fd : FuncData} (F : L2.Fun K "elder" "Rooms.elder" s_Rooms_elder f fd) (B : Bs mg) {C_Rooms : Addr} (a_Rooms : PySem.W.nsIn K mainGlobals "Rooms" = some (some (.ref C_Rooms))) (c_Rooms : Cls K C_Rooms) (n_Rooms_elders : NoAttr K C_Rooms "elders") (hm : Meth K C_Rooms "elder" f) : Mth P w K mg base 1 "Rooms" "elder" T_Rooms_elder :=
  mth_ok F sc_Rooms_elder a_Rooms c_Rooms hm (fun _ _ _ _ _ _ us hl => match us, hl with | [_, _], _ => rfl) (fun ds w P h => len_Rooms_elder ds w P h) ⟨fun _ => b_Rooms_elder, fun cdv A outer s H F0 He0 w0 rep0 E hr => (jss_cons (js_while PassesOwn.never (jt_cmp (op_neP (hu64 hr)) sem_ne (jo_of (jx_ix rfl (hu1 hr) (jo_of (jx_fld rfl a_Rooms c_Rooms n_Rooms_elders (jo_var (pv 0)))) (jo_var (pv 1)))) (jo_var (pv 1)) (by rfl)) (jss_one (js_set (i := 1) false sc_Rooms_elder.nd (jx_ix rfl (hu1 hr) (jo_of (jx_fld rfl a_Rooms c_Rooms n_Rooms_elders (jo_var (pv 0)))) (jo_var (pv 1)))))) (jss_one (js_retV (pv 1)))), fun ds w P h => v_Rooms_elder ds w P h⟩
theorem d_Rooms_standing {f : Addr} {fd : FuncData} (F : L2.Fun K "standing" "Rooms.standing" s_Rooms_standing f fd) (B : Bs mg) {C_Rooms : Addr} (a_Rooms : PySem.W.nsIn K mainGlobals "Rooms" = some (some (.ref C_Rooms))) (c_Rooms : Cls K C_Rooms) (n_Rooms_elders : NoAttr K C_Rooms "elders") (n_Rooms_made : NoAttr K C_Rooms "made") (hm : Meth K C_Rooms "standing" f) : Mth P w K mg base 1 "Rooms" "standing" T_Rooms_standing :=
  mth_ok F sc_Rooms_standing a_Rooms c_Rooms hm (fun _ _ _ _ _ _ us hl => match us, hl with | [_], _ => rfl) (fun ds w P h => len_Rooms_standing ds w P h) ⟨fun _ => b_Rooms_standing, fun cdv A outer s H F0 He0 w0 rep0 E hr => (jss_one (js_ret (jx_lc rfl sc_Rooms_standing.nd (ji_rng1 B.range_ (jo_of (jx_fld rfl a_Rooms c_Rooms n_Rooms_made (jo_var (pv 0))))) (blkOk_by (own := [("room", 1)]) rfl) (gokv_name 1 (by decide)) (fun _ _ _ _ _ => (pg_name (i := 1) sc_Rooms_standing.nd rfl (by first | exact Or.inl rfl | exact Or.inr rfl))) (fun _ _ _ _ _ => jts_one (jt_cmp (op_eqP (hu64 hr)) sem_eq (jo_of (jx_ix rfl (hu1 hr) (jo_of (jx_fld rfl a_Rooms c_Rooms n_Rooms_elders (jo_var (pv 0)))) (jo_var (pv 1)))) (jo_var (pv 1)) (by rfl))) (fun _ _ _ _ _ => (jx_var (pv 1)))))), fun ds w P h => v_Rooms_standing ds w P h⟩
theorem d_Rooms_paper {f : Addr} {fd : FuncData} (F : L2.Fun K "paper" "Rooms.paper" s_Rooms_paper f fd) (B : Bs mg) {C_Rooms : Addr} (a_Rooms : PySem.W.nsIn K mainGlobals "Rooms" = some (some (.ref C_Rooms))) (c_Rooms : Cls K C_Rooms) (n_Rooms_told : NoAttr K C_Rooms "told") (hm : Meth K C_Rooms "paper" f) : Mth P w K mg base 1 "Rooms" "paper" T_Rooms_paper :=
  mth_ok F sc_Rooms_paper a_Rooms c_Rooms hm (fun _ _ _ _ _ _ us hl => match us, hl with | [_], _ => rfl) (fun ds w P h => len_Rooms_paper ds w P h) ⟨fun _ => b_Rooms_paper, fun cdv A outer s H F0 He0 w0 rep0 E hr => (jss_one (js_ret (jx_t1 call_list_of sem_list (by rfl) B.list_ bt_list (jo_of (jx_fld rfl a_Rooms c_Rooms n_Rooms_told (jo_var (pv 0))))))), fun ds w P h => v_Rooms_paper ds w P h⟩
theorem d_Lcell_at {f : Addr} {fd : FuncData} (F : TopFn K mg "_law_cell_at" "_law_cell_at" s_Lcell_at f fd) (B : Bs mg) : Fn P w K mg base 1 "_law_cell_at" T_Lcell_at :=
  fn_ok F.fn sc_Lcell_at F.at_ (fun _ _ _ _ _ _ us hl => match us, hl with | [_, _], _ => rfl) (fun ds w P h => len_Lcell_at ds w P h) ⟨fun _ => b_Lcell_at, fun cdv A outer s H F0 He0 w0 rep0 E hr => (jss_cons (js_if (jt_cmp (op_ltD (hu0 hr)) sem_lt (jo_var (pv 1)) (jo_of (jx_b1 call_lenA sem_len (by rfl) B.len_ bb_len (jo_var (pv 0)))) (by rfl)) (jss_one (js_ret (jx_ix rfl (hu1 hr) (jo_var (pv 0)) (jo_var (pv 1))))) jss_nil) (jss_one (js_ret jx_int))), fun ds w P h => v_Lcell_at ds w P h⟩
theorem d_Lwhole {f : Addr} {fd : FuncData} (F : TopFn K mg "_law_whole" "_law_whole" s_Lwhole f fd) (B : Bs mg) : Fn P w K mg base 1 "_law_whole" T_Lwhole :=
  fn_ok F.fn sc_Lwhole F.at_ (fun _ _ _ _ _ _ us hl => match us, hl with | [_], _ => rfl) (fun ds w P h => len_Lwhole ds w P h) ⟨fun _ => b_Lwhole, fun cdv A outer s H F0 He0 w0 rep0 E hr => (jss_one (js_ret (jx_and (jx_b2 call_isi sem_isi (by rfl) B.isinstance_ bb_isinstance (jo_var (pv 0)) (jo_of (jx_ty (by rfl) B.int_ bt_int))) (jx_one (jx_not (jx_b2 call_isi sem_isi (by rfl) B.isinstance_ bb_isinstance (jo_var (pv 0)) (jo_of (jx_ty (by rfl) B.bool_ bt_bool)))))))), fun ds w P h => v_Lwhole ds w P h⟩
theorem d_Lstep {f : Addr} {fd : FuncData} (F : TopFn K mg "_law_step" "_law_step" s_Lstep f fd) (B : Bs mg) : Fn P w K mg base 1 "_law_step" T_Lstep :=
  fn_ok F.fn sc_Lstep F.at_ (fun _ _ _ _ _ _ us hl => match us, hl with | [_, _], _ => rfl) (fun ds w P h => len_Lstep ds w P h) ⟨fun _ => b_Lstep, fun cdv A outer s H F0 He0 w0 rep0 E hr => (jss_cons (js_if (jt_cmp (op_eqP (hu64 hr)) sem_eq (jo_of (jx_op op_mod sem_mod (jo_var (pv 0)) (jo_of jx_int))) (jo_of jx_int) (by rfl)) (jss_one (js_ret (jx_un un_neg sem_neg (jo_of (jx_op op_addD sem_add (jo_of jx_int) (jo_of (jx_op op_mod sem_mod (jo_of (jx_op op_fdivW sem_fdiv (jo_var (pv 0)) (jo_of jx_int))) (jo_var (pv 1))))))))) jss_nil) (jss_one (js_ret (jx_op op_addD sem_add (jo_of jx_int) (jo_of (jx_op op_mod sem_mod (jo_of (jx_op op_fdivW sem_fdiv (jo_var (pv 0)) (jo_of jx_int))) (jo_var (pv 1)))))))), fun ds w P h => v_Lstep ds w P h⟩
theorem d_Lrows {f : Addr} {fd : FuncData} (F : TopFn K mg "_law_rows" "_law_rows" s_Lrows f fd) (B : Bs mg) (h_Lwhole : Fn P w K mg base 1 "_law_whole" T_Lwhole) : Fn P w K mg base 2 "_law_rows" T_Lrows :=
  fn_ok F.fn sc_Lrows F.at_ (fun _ _ _ _ _ _ us hl => match us, hl with | [_, _], _ => rfl) (fun ds w P h => len_Lrows ds w P h) ⟨fun _ => b_Lrows, fun cdv A outer s H F0 He0 w0 rep0 E hr => (jss_cons (js_if (jt_w (jw_or (jt_not (jt_tru rfl (jo_of (jx_b2 call_isi sem_isi (by rfl) B.isinstance_ bb_isinstance (jo_var (pv 0)) (jo_of (jx_ty (by rfl) B.list_ bt_list)))))) (jw_or1 (jt_cmp (op_neP (hu64 hr)) sem_ne (jo_of (jx_b1 call_lenA sem_len (by rfl) B.len_ bb_len (jo_var (pv 0)))) (jo_of (jx_b1 call_lenA sem_len (by rfl) B.len_ bb_len (jo_var (pv 1)))) (by rfl))))) (jss_one (js_ret jx_bl)) jss_nil) (jss_cons (js_for PassesOwn.never rfl (ji_any rfl (jx_var (pv 0))) (pg_name (i := 2) sc_Lrows.nd rfl (by first | exact Or.inl rfl | exact Or.inr rfl)) (gok_name 2) (jss_cons (js_if (jt_w (jw_or (jt_not (jt_tru rfl (jo_of (jx_b2 call_isi sem_isi (by rfl) B.isinstance_ bb_isinstance (jo_var (pv 2)) (jo_of (jx_ty (by rfl) B.tuple_ bt_tuple)))))) (jw_or (jt_cmp (op_neP (hu64 hr)) sem_ne (jo_of (jx_b1 call_lenA sem_len (by rfl) B.len_ bb_len (jo_var (pv 2)))) (jo_of jx_int) (by rfl)) (jw_or1 (jt_not (jt_tru rfl (jo_of (jx_b2 call_isi sem_isi (by rfl) B.isinstance_ bb_isinstance (jo_of (jx_ix rfl (hu1 hr) (jo_var (pv 2)) (jo_of jx_int))) (jo_of (jx_ty (by rfl) B.str_ bt_str)))))))))) (jss_one (js_ret jx_bl)) jss_nil) (jss_one (js_if (jt_w (jw_or (jt_not (jt_tru rfl (jo_of (jx_call h_Lwhole rfl (hr.mono (by decide)) (ja_cons (jx_ix rfl (hu1 hr) (jo_var (pv 2)) (jo_of jx_int)) ja_nil))))) (jw_or (jt_not (jt_tru rfl (jo_of (jx_call h_Lwhole rfl (hr.mono (by decide)) (ja_cons (jx_ix rfl (hu1 hr) (jo_var (pv 2)) (jo_of jx_int)) ja_nil))))) (jw_or1 (jt_not (jt_tru rfl (jo_of (jx_call h_Lwhole rfl (hr.mono (by decide)) (ja_cons (jx_ix rfl (hu1 hr) (jo_var (pv 2)) (jo_of jx_int)) ja_nil))))))))) (jss_one (js_ret jx_bl)) jss_nil)))) (jss_one (js_ret (jx_cmp (op_eqP (hu64 hr)) sem_eq (jo_var (pv 0)) (jo_var (pv 1)) (by rfl)))))), fun ds w P h => v_Lrows ds w P h⟩
theorem d_Lby {f : Addr} {fd : FuncData} (F : TopFn K mg "_law_by" "_law_by" s_Lby f fd) (B : Bs mg) (h_Rooms_by : Mth P w K mg base 1 "Rooms" "by" T_Rooms_by) (h_Lwhole : Fn P w K mg base 1 "_law_whole" T_Lwhole) : Fn P w K mg base 2 "_law_by" T_Lby :=
  fn_ok F.fn sc_Lby F.at_ (fun _ _ _ _ _ _ us hl => match us, hl with | [_, _, _, _], _ => rfl) (fun ds w P h => len_Lby ds w P h) ⟨fun _ => b_Lby, fun cdv A outer s H F0 He0 w0 rep0 E hr => (jss_cons (js_set (i := 4) false sc_Lby.nd (jx_meth h_Rooms_by rfl (hr.mono (by decide)) (jo_var (pv 0)) (ja_cons (jx_var (pv 1)) (ja_cons (jx_var (pv 2)) ja_nil)))) (jss_cons (js_if (jt_cmp (op_notInA (hu65 hr)) (sem_in true) (jo_of (jx_tup (ja_cons (jx_var (pv 1)) (ja_cons (jx_var (pv 2)) ja_nil)))) (jo_var (pv 3)) (by rfl)) (jss_one (js_ret (jx_cmp op_isN sem_isN (jo_var (pv 4)) (jo_of jx_non) (by rfl)))) jss_nil) (jss_one (js_ret (jx_and (jx_call h_Lwhole rfl (hr.mono (by decide)) (ja_cons (jx_var (pv 4)) ja_nil)) (jx_one (jx_cmp (op_eqP (hu64 hr)) sem_eq (jo_var (pv 4)) (jo_of (jx_ix rfl (hu1 hr) (jo_var (pv 3)) (jo_of (jx_tup (ja_cons (jx_var (pv 1)) (ja_cons (jx_var (pv 2)) ja_nil)))))) (by rfl)))))))), fun ds w P h => v_Lby ds w P h⟩
theorem d_Lseen {f : Addr} {fd : FuncData} (F : TopFn K mg "_law_seen" "_law_seen" s_Lseen f fd) (B : Bs mg) {C_Rooms : Addr} (a_Rooms : PySem.W.nsIn K mainGlobals "Rooms" = some (some (.ref C_Rooms))) (c_Rooms : Cls K C_Rooms) (n_Rooms_letters : NoAttr K C_Rooms "letters") (n_Rooms_made : NoAttr K C_Rooms "made") (h_Rooms_elder : Mth P w K mg base 1 "Rooms" "elder" T_Rooms_elder) (h_Rooms_paper : Mth P w K mg base 1 "Rooms" "paper" T_Rooms_paper) (h_Rooms_standing : Mth P w K mg base 1 "Rooms" "standing" T_Rooms_standing) (h_Lby : Fn P w K mg base 2 "_law_by" T_Lby) (h_Lrows : Fn P w K mg base 2 "_law_rows" T_Lrows) (h_Lwhole : Fn P w K mg base 1 "_law_whole" T_Lwhole) : Fn P w K mg base 3 "_law_seen" T_Lseen :=
  fn_ok F.fn sc_Lseen F.at_ (fun _ _ _ _ _ _ us hl => match us, hl with | [_, _, _, _], _ => rfl) (fun ds w P h => len_Lseen ds w P h) ⟨fun _ => b_Lseen, fun cdv A outer s H F0 He0 w0 rep0 E hr => (jss_cons (js_if (jt_w (jw_or (jt_not (jt_tru rfl (jo_of (jx_call h_Lwhole rfl (hr.mono (by decide)) (ja_cons (jx_fld rfl a_Rooms c_Rooms n_Rooms_made (jo_var (pv 0))) ja_nil))))) (jw_or (jt_cmp (op_neP (hu64 hr)) sem_ne (jo_of (jx_fld rfl a_Rooms c_Rooms n_Rooms_made (jo_var (pv 0)))) (jo_of (jx_op op_addD sem_add (jo_of (jx_b1 call_lenA sem_len (by rfl) B.len_ bb_len (jo_var (pv 3)))) (jo_of jx_int))) (by rfl)) (jw_or1 (jt_cmp (op_neP (hu64 hr)) sem_ne (jo_of (jx_fld rfl a_Rooms c_Rooms n_Rooms_letters (jo_var (pv 0)))) (jo_var (pv 1)) (by rfl)))))) (jss_one (js_ret jx_bl)) jss_nil) (jss_cons (js_if (jt_not (jt_tru rfl (jo_of (jx_call h_Lrows rfl (hr.mono (by decide)) (ja_cons (jx_meth0 h_Rooms_paper rfl (hr.mono (by decide)) (jo_var (pv 0))) (ja_cons (jx_var (pv 3)) ja_nil)))))) (jss_one (js_ret jx_bl)) jss_nil) (jss_cons (js_set (i := 4) false sc_Lseen.nd (jx_meth0 h_Rooms_standing rfl (hr.mono (by decide)) (jo_var (pv 0)))) (jss_cons (js_if (jt_w (jw_or (jt_not (jt_tru rfl (jo_of (jx_b2 call_isi sem_isi (by rfl) B.isinstance_ bb_isinstance (jo_var (pv 4)) (jo_of (jx_ty (by rfl) B.list_ bt_list)))))) (jw_or1 (jt_cmp (op_neP (hu64 hr)) sem_ne (jo_var (pv 4)) (jo_of (jx_listRng1 B.list_ B.range_ (jo_of (jx_op op_addD sem_add (jo_of (jx_b1 call_lenA sem_len (by rfl) B.len_ bb_len (jo_var (pv 3)))) (jo_of jx_int))))) (by rfl))))) (jss_one (js_ret jx_bl)) jss_nil) (jss_cons (js_for PassesOwn.never rfl (ji_rng1 B.range_ (jo_of (jx_op op_addD sem_add (jo_of (jx_b1 call_lenA sem_len (by rfl) B.len_ bb_len (jo_var (pv 3)))) (jo_of jx_int)))) (pg_name (i := 5) sc_Lseen.nd rfl (by first | exact Or.inl rfl | exact Or.inr rfl)) (gok_name 5) (jss_cons (js_if (jt_w (jw_or (jt_not (jt_tru rfl (jo_of (jx_call h_Lwhole rfl (hr.mono (by decide)) (ja_cons (jx_ix rfl (hu1 hr) (jo_var (pv 4)) (jo_var (pv 5))) ja_nil))))) (jw_or1 (jt_cmp (op_neP (hu64 hr)) sem_ne (jo_of (jx_meth h_Rooms_elder rfl (hr.mono (by decide)) (jo_var (pv 0)) (ja_cons (jx_var (pv 5)) ja_nil))) (jo_var (pv 5)) (by rfl))))) (jss_one (js_ret jx_bl)) jss_nil) (jss_one (js_for PassesOwn.never rfl (ji_any rfl (jx_lst (ja_cons jx_int (ja_cons (jx_un un_neg sem_neg (jo_of jx_int)) (ja_cons (jx_var (pv 1)) (ja_cons (jx_un un_neg sem_neg (jo_var (pv 1))) ja_nil)))))) (pg_name (i := 6) sc_Lseen.nd rfl (by first | exact Or.inl rfl | exact Or.inr rfl)) (gok_name 6) (jss_one (js_if (jt_not (jt_tru rfl (jo_of (jx_call h_Lby rfl (hr.mono (by decide)) (ja_cons (jx_var (pv 0)) (ja_cons (jx_var (pv 5)) (ja_cons (jx_var (pv 6)) (ja_cons (jx_var (pv 2)) ja_nil)))))))) (jss_one (js_ret jx_bl)) jss_nil)))))) (jss_cons (js_lock (js_forKeys PassesOwn.never rfl (jo_var (pv 2)) (pg_tup rfl (pgs_cons (pg_name (i := 5) sc_Lseen.nd rfl (by first | exact Or.inl rfl | exact Or.inr rfl)) (pgs_cons (pg_name (i := 6) sc_Lseen.nd rfl (by first | exact Or.inl rfl | exact Or.inr rfl)) pgs_nil))) (gok_tup (gsok_cons (gok_name 5) (gsok_cons (gok_name 6) gsok_nil))) (jss_one (js_if (jt_not (jt_tru rfl (jo_of (jx_call h_Lby rfl (hr.mono (by decide)) (ja_cons (jx_var (pv 0)) (ja_cons (jx_var (pv 5)) (ja_cons (jx_var (pv 6)) (ja_cons (jx_var (pv 2)) ja_nil)))))))) (jss_one (js_ret jx_bl)) jss_nil)))) (jss_one (js_ret jx_bl)))))))), fun ds w P h => v_Lseen ds w P h⟩
theorem d_law {f : Addr} {fd : FuncData} (F : TopFn K mg "law" "law" s_law f fd) (B : Bs mg) (h_Rooms_init : Mak P w K mg base 1 "Rooms" T_Rooms_init) (h_Rooms_make : Mth P w K mg base 1 "Rooms" "make" T_Rooms_make) (h_Rooms_paper : Mth P w K mg base 1 "Rooms" "paper" T_Rooms_paper) (h_Rooms_standing : Mth P w K mg base 1 "Rooms" "standing" T_Rooms_standing) (h_Lby : Fn P w K mg base 2 "_law_by" T_Lby) (h_Lcell_at : Fn P w K mg base 1 "_law_cell_at" T_Lcell_at) (h_Lseen : Fn P w K mg base 3 "_law_seen" T_Lseen) (h_Lstep : Fn P w K mg base 1 "_law_step" T_Lstep) (h_Lwhole : Fn P w K mg base 1 "_law_whole" T_Lwhole) : Fn P w K mg base 4 "law" T_law :=
  fn_ok F.fn sc_law F.at_ (fun _ _ _ _ _ _ us hl => match us, hl with | [_], _ => rfl) (fun ds w P h => len_law ds w P h) ⟨fun _ => b_law, fun cdv A outer s H F0 He0 w0 rep0 E hr => (jss_cons (js_set (i := 1) false sc_law.nd (jx_op op_addD sem_add (jo_of jx_int) (jo_of (jx_op op_mod sem_mod (jo_of (jx_call h_Lcell_at rfl (hr.mono (by decide)) (ja_cons (jx_var (pv 0)) (ja_cons jx_int ja_nil)))) (jo_of jx_int))))) (jss_cons (js_if (jt_cmp (op_eqP (hu64 hr)) sem_eq (jo_of (jx_op op_mod sem_mod (jo_of (jx_op op_fdivW sem_fdiv (jo_of (jx_call h_Lcell_at rfl (hr.mono (by decide)) (ja_cons (jx_var (pv 0)) (ja_cons jx_int ja_nil)))) (jo_of jx_int))) (jo_of jx_int))) (jo_of jx_int) (by rfl)) (jss_one (js_set (i := 1) false sc_law.nd jx_int)) jss_nil) (jss_cons (js_setN (i := 2) sc_law.nd (jx_lst (ja_consN (jx_make h_Rooms_init rfl (hr.mono (by decide)) (ja_cons (jx_var (pv 1)) ja_nil)) (ja_consN (jx_make h_Rooms_init rfl (hr.mono (by decide)) (ja_cons (jx_var (pv 1)) ja_nil)) ja_nil)))) (jss_cons (js_setN (i := 3) sc_law.nd (jx_lst (ja_consN jx_dicT (ja_consN jx_dicT ja_nil)))) (jss_cons (js_setN (i := 4) sc_law.nd (jx_lst (ja_consN (jx_lst ja_nil) (ja_consN (jx_lst ja_nil) ja_nil)))) (jss_cons (js_setN (i := 5) sc_law.nd (jx_lst ja_nil)) (jss_cons (js_for PassesOwn.never rfl (ji_any rfl (jx_sl rfl (jo_var (pv 0)) (jp_some (jo_of jx_int)) (jp_some (jo_of jx_int)))) (pg_name (i := 6) sc_law.nd rfl (by first | exact Or.inl rfl | exact Or.inr rfl)) (gok_name 6) (jss_cons (js_set (i := 7) false sc_law.nd (jx_op op_mod sem_mod (jo_var (pv 6)) (jo_of jx_int))) (jss_cons (js_set (i := 8) false sc_law.nd (jx_op op_addD sem_add (jo_of (jx_b1 call_lenA sem_len (by rfl) B.len_ bb_len (jo_of (jx_ix rfl (hu1 hr) (jo_var (pv 4)) (jo_var (pv 7)))))) (jo_of jx_int))) (jss_cons (js_set (i := 9) false sc_law.nd (jx_op op_mod sem_mod (jo_of (jx_op op_mod sem_mod (jo_of (jx_op op_mulB sem_mulB (jo_of (jx_op op_fdivW sem_fdiv (jo_var (pv 6)) (jo_of jx_int))) (jo_of jx_int))) (jo_of jx_int))) (jo_var (pv 8)))) (jss_cons (js_set (i := 10) false sc_law.nd (jx_call h_Lstep rfl (hr.mono (by decide)) (ja_consN (jx_op op_mod sem_mod (jo_of (jx_op op_mulB sem_mulB (jo_of (jx_op op_fdivW sem_fdiv (jo_var (pv 6)) (jo_of jx_int))) (jo_of jx_int))) (jo_of jx_int)) (ja_cons (jx_var (pv 1)) ja_nil)))) (jss_cons (js_if (jt_not (jt_tru rfl (jo_of (jx_call h_Lby rfl (hr.mono (by decide)) (ja_cons (jx_ix rfl (hu1 hr) (jo_var (pv 2)) (jo_var (pv 7))) (ja_cons (jx_var (pv 9)) (ja_cons (jx_var (pv 10)) (ja_cons (jx_ix rfl (hu1 hr) (jo_var (pv 3)) (jo_var (pv 7))) ja_nil)))))))) (jss_one (js_ret jx_bl)) jss_nil) (jss_cons (js_if (jt_cmp (op_notInA (hu65 hr)) (sem_in true) (jo_of (jx_tup (ja_cons (jx_var (pv 9)) (ja_cons (jx_var (pv 10)) ja_nil)))) (jo_of (jx_ix rfl (hu1 hr) (jo_var (pv 3)) (jo_var (pv 7)))) (by rfl)) (jss_cons (js_set (i := 11) false sc_law.nd (jx_meth h_Rooms_make rfl (hr.mono (by decide)) (jo_of (jx_ix rfl (hu1 hr) (jo_var (pv 2)) (jo_var (pv 7)))) (ja_cons (jx_var (pv 9)) (ja_cons (jx_var (pv 10)) ja_nil)))) (jss_cons (js_if (jt_w (jw_or (jt_not (jt_tru rfl (jo_of (jx_call h_Lwhole rfl (hr.mono (by decide)) (ja_cons (jx_var (pv 11)) ja_nil))))) (jw_or1 (jt_cmp (op_neP (hu64 hr)) sem_ne (jo_var (pv 11)) (jo_var (pv 8)) (by rfl))))) (jss_one (js_ret jx_bl)) jss_nil) (jss_cons (js_putN false rfl (hu1 hr) (jo_of (jx_ix rfl (hu1 hr) (jo_var (pv 3)) (jo_var (pv 7)))) (jo_of (jx_tup (ja_cons (jx_var (pv 9)) (ja_cons (jx_var (pv 10)) ja_nil)))) (jx_var (pv 8))) (jss_cons (js_putN false rfl (hu1 hr) (jo_of (jx_ix rfl (hu1 hr) (jo_var (pv 3)) (jo_var (pv 7)))) (jo_of (jx_tup (ja_cons (jx_var (pv 8)) (ja_cons (jx_un un_neg sem_neg (jo_var (pv 10))) ja_nil)))) (jx_var (pv 9))) (jss_one (js_appN false rfl (jo_of (jx_ix rfl (hu1 hr) (jo_var (pv 4)) (jo_var (pv 7)))) (jx_tup (ja_cons jx_str (ja_cons (jx_var (pv 9)) (ja_cons (jx_var (pv 10)) (ja_cons (jx_var (pv 8)) ja_nil))))))))))) jss_nil) (jss_one (js_if (jt_cmp (op_eqP (hu64 hr)) sem_eq (jo_of (jx_op op_mod sem_mod (jo_var (pv 6)) (jo_of jx_int))) (jo_of jx_int) (by rfl)) (jss_cons (js_appN false rfl (jo_var (pv 5)) (jx_tup (ja_consN (jx_meth0 h_Rooms_paper rfl (hr.mono (by decide)) (jo_of (jx_ix rfl (hu1 hr) (jo_var (pv 2)) (jo_var (pv 7))))) (ja_consN (jx_t1 call_list_of sem_list (by rfl) B.list_ bt_list (jo_of (jx_ix rfl (hu1 hr) (jo_var (pv 4)) (jo_var (pv 7))))) ja_nil)))) (jss_one (js_appN false rfl (jo_var (pv 5)) (jx_tup (ja_consN (jx_meth0 h_Rooms_standing rfl (hr.mono (by decide)) (jo_of (jx_ix rfl (hu1 hr) (jo_var (pv 2)) (jo_var (pv 7))))) (ja_consN (jx_listRng1 B.list_ B.range_ (jo_of (jx_op op_addD sem_add (jo_of (jx_b1 call_lenA sem_len (by rfl) B.len_ bb_len (jo_of (jx_ix rfl (hu1 hr) (jo_var (pv 4)) (jo_var (pv 7)))))) (jo_of jx_int)))) ja_nil)))))) jss_nil))))))))) (jss_cons (js_for PassesOwn.never rfl (ji_rng1 B.range_ (jo_of jx_int)) (pg_name (i := 7) sc_law.nd rfl (by first | exact Or.inl rfl | exact Or.inr rfl)) (gok_name 7) (jss_one (js_if (jt_not (jt_tru rfl (jo_of (jx_call h_Lseen rfl (hr.mono (by decide)) (ja_cons (jx_ix rfl (hu1 hr) (jo_var (pv 2)) (jo_var (pv 7))) (ja_cons (jx_var (pv 1)) (ja_cons (jx_ix rfl (hu1 hr) (jo_var (pv 3)) (jo_var (pv 7))) (ja_cons (jx_ix rfl (hu1 hr) (jo_var (pv 4)) (jo_var (pv 7))) ja_nil)))))))) (jss_one (js_ret jx_bl)) jss_nil))) (jss_cons (js_forN rfl PassesOwn.never rfl (jo_var (pv 5)) (pg_tup rfl (pgs_cons (pg_name (i := 12) sc_law.nd rfl (by first | exact Or.inl rfl | exact Or.inr rfl)) (pgs_cons (pg_name (i := 13) sc_law.nd rfl (by first | exact Or.inl rfl | exact Or.inr rfl)) pgs_nil))) (gok_tup (gsok_cons (gok_name 12) (gsok_cons (gok_name 13) gsok_nil))) (jss_cons (js_if (jt_cmp (op_neP (hu64 hr)) sem_ne (jo_var (pv 12)) (jo_var (pv 13)) (by rfl)) (jss_one (js_ret jx_bl)) jss_nil) (jss_one (js_expr (jx_lclear rfl (jo_var (pv 12))))))) (jss_one (js_ret (jx_and (jx_call h_Lseen rfl (hr.mono (by decide)) (ja_cons (jx_ix rfl (hu1 hr) (jo_var (pv 2)) (jo_of jx_int)) (ja_cons (jx_var (pv 1)) (ja_cons (jx_ix rfl (hu1 hr) (jo_var (pv 3)) (jo_of jx_int)) (ja_cons (jx_ix rfl (hu1 hr) (jo_var (pv 4)) (jo_of jx_int)) ja_nil))))) (jx_one (jx_call h_Lseen rfl (hr.mono (by decide)) (ja_cons (jx_ix rfl (hu1 hr) (jo_var (pv 2)) (jo_of jx_int)) (ja_cons (jx_var (pv 1)) (ja_cons (jx_ix rfl (hu1 hr) (jo_var (pv 3)) (jo_of jx_int)) (ja_cons (jx_ix rfl (hu1 hr) (jo_var (pv 4)) (jo_of jx_int)) ja_nil)))))))))))))))))), fun ds w P h => v_law ds w P h⟩
end
theorem dl_law {P : Program} {w : World} {K : PySem.W.Frag} {mg : Str → Option Value} {base : Heap} {f : Addr} {fd : FuncData} (F : TopFn K mg "law" "law" s_law f fd) (B : Bs mg) (h_Rooms_init : Mak P w K mg base 1 "Rooms" T_Rooms_init) (h_Rooms_make : Mth P w K mg base 1 "Rooms" "make" T_Rooms_make) (h_Rooms_paper : Mth P w K mg base 1 "Rooms" "paper" T_Rooms_paper) (h_Rooms_standing : Mth P w K mg base 1 "Rooms" "standing" T_Rooms_standing) (h_Lby : Fn P w K mg base 2 "_law_by" T_Lby) (h_Lcell_at : Fn P w K mg base 1 "_law_cell_at" T_Lcell_at) (h_Lseen : Fn P w K mg base 3 "_law_seen" T_Lseen) (h_Lstep : Fn P w K mg base 1 "_law_step" T_Lstep) (h_Lwhole : Fn P w K mg base 1 "_law_whole" T_Lwhole) : FnOk P w K mg base CX0 4 f fd ["_law_script"] (toSp K T_law) :=
  fn_okF F.fn sc_law (fun ds w P h => len_law ds w P h) ⟨fun _ => b_law, fun cdv A outer s H F0 He0 w0 rep0 E hr => (jss_cons (js_set (i := 1) false sc_law.nd (jx_op op_addD sem_add (jo_of jx_int) (jo_of (jx_op op_mod sem_mod (jo_of (jx_call h_Lcell_at rfl (hr.mono (by decide)) (ja_cons (jx_var (pv 0)) (ja_cons jx_int ja_nil)))) (jo_of jx_int))))) (jss_cons (js_if (jt_cmp (op_eqP (hu64 hr)) sem_eq (jo_of (jx_op op_mod sem_mod (jo_of (jx_op op_fdivW sem_fdiv (jo_of (jx_call h_Lcell_at rfl (hr.mono (by decide)) (ja_cons (jx_var (pv 0)) (ja_cons jx_int ja_nil)))) (jo_of jx_int))) (jo_of jx_int))) (jo_of jx_int) (by rfl)) (jss_one (js_set (i := 1) false sc_law.nd jx_int)) jss_nil) (jss_cons (js_setN (i := 2) sc_law.nd (jx_lst (ja_consN (jx_make h_Rooms_init rfl (hr.mono (by decide)) (ja_cons (jx_var (pv 1)) ja_nil)) (ja_consN (jx_make h_Rooms_init rfl (hr.mono (by decide)) (ja_cons (jx_var (pv 1)) ja_nil)) ja_nil)))) (jss_cons (js_setN (i := 3) sc_law.nd (jx_lst (ja_consN jx_dicT (ja_consN jx_dicT ja_nil)))) (jss_cons (js_setN (i := 4) sc_law.nd (jx_lst (ja_consN (jx_lst ja_nil) (ja_consN (jx_lst ja_nil) ja_nil)))) (jss_cons (js_setN (i := 5) sc_law.nd (jx_lst ja_nil)) (jss_cons (js_for PassesOwn.never rfl (ji_any rfl (jx_sl rfl (jo_var (pv 0)) (jp_some (jo_of jx_int)) (jp_some (jo_of jx_int)))) (pg_name (i := 6) sc_law.nd rfl (by first | exact Or.inl rfl | exact Or.inr rfl)) (gok_name 6) (jss_cons (js_set (i := 7) false sc_law.nd (jx_op op_mod sem_mod (jo_var (pv 6)) (jo_of jx_int))) (jss_cons (js_set (i := 8) false sc_law.nd (jx_op op_addD sem_add (jo_of (jx_b1 call_lenA sem_len (by rfl) B.len_ bb_len (jo_of (jx_ix rfl (hu1 hr) (jo_var (pv 4)) (jo_var (pv 7)))))) (jo_of jx_int))) (jss_cons (js_set (i := 9) false sc_law.nd (jx_op op_mod sem_mod (jo_of (jx_op op_mod sem_mod (jo_of (jx_op op_mulB sem_mulB (jo_of (jx_op op_fdivW sem_fdiv (jo_var (pv 6)) (jo_of jx_int))) (jo_of jx_int))) (jo_of jx_int))) (jo_var (pv 8)))) (jss_cons (js_set (i := 10) false sc_law.nd (jx_call h_Lstep rfl (hr.mono (by decide)) (ja_consN (jx_op op_mod sem_mod (jo_of (jx_op op_mulB sem_mulB (jo_of (jx_op op_fdivW sem_fdiv (jo_var (pv 6)) (jo_of jx_int))) (jo_of jx_int))) (jo_of jx_int)) (ja_cons (jx_var (pv 1)) ja_nil)))) (jss_cons (js_if (jt_not (jt_tru rfl (jo_of (jx_call h_Lby rfl (hr.mono (by decide)) (ja_cons (jx_ix rfl (hu1 hr) (jo_var (pv 2)) (jo_var (pv 7))) (ja_cons (jx_var (pv 9)) (ja_cons (jx_var (pv 10)) (ja_cons (jx_ix rfl (hu1 hr) (jo_var (pv 3)) (jo_var (pv 7))) ja_nil)))))))) (jss_one (js_ret jx_bl)) jss_nil) (jss_cons (js_if (jt_cmp (op_notInA (hu65 hr)) (sem_in true) (jo_of (jx_tup (ja_cons (jx_var (pv 9)) (ja_cons (jx_var (pv 10)) ja_nil)))) (jo_of (jx_ix rfl (hu1 hr) (jo_var (pv 3)) (jo_var (pv 7)))) (by rfl)) (jss_cons (js_set (i := 11) false sc_law.nd (jx_meth h_Rooms_make rfl (hr.mono (by decide)) (jo_of (jx_ix rfl (hu1 hr) (jo_var (pv 2)) (jo_var (pv 7)))) (ja_cons (jx_var (pv 9)) (ja_cons (jx_var (pv 10)) ja_nil)))) (jss_cons (js_if (jt_w (jw_or (jt_not (jt_tru rfl (jo_of (jx_call h_Lwhole rfl (hr.mono (by decide)) (ja_cons (jx_var (pv 11)) ja_nil))))) (jw_or1 (jt_cmp (op_neP (hu64 hr)) sem_ne (jo_var (pv 11)) (jo_var (pv 8)) (by rfl))))) (jss_one (js_ret jx_bl)) jss_nil) (jss_cons (js_putN false rfl (hu1 hr) (jo_of (jx_ix rfl (hu1 hr) (jo_var (pv 3)) (jo_var (pv 7)))) (jo_of (jx_tup (ja_cons (jx_var (pv 9)) (ja_cons (jx_var (pv 10)) ja_nil)))) (jx_var (pv 8))) (jss_cons (js_putN false rfl (hu1 hr) (jo_of (jx_ix rfl (hu1 hr) (jo_var (pv 3)) (jo_var (pv 7)))) (jo_of (jx_tup (ja_cons (jx_var (pv 8)) (ja_cons (jx_un un_neg sem_neg (jo_var (pv 10))) ja_nil)))) (jx_var (pv 9))) (jss_one (js_appN false rfl (jo_of (jx_ix rfl (hu1 hr) (jo_var (pv 4)) (jo_var (pv 7)))) (jx_tup (ja_cons jx_str (ja_cons (jx_var (pv 9)) (ja_cons (jx_var (pv 10)) (ja_cons (jx_var (pv 8)) ja_nil))))))))))) jss_nil) (jss_one (js_if (jt_cmp (op_eqP (hu64 hr)) sem_eq (jo_of (jx_op op_mod sem_mod (jo_var (pv 6)) (jo_of jx_int))) (jo_of jx_int) (by rfl)) (jss_cons (js_appN false rfl (jo_var (pv 5)) (jx_tup (ja_consN (jx_meth0 h_Rooms_paper rfl (hr.mono (by decide)) (jo_of (jx_ix rfl (hu1 hr) (jo_var (pv 2)) (jo_var (pv 7))))) (ja_consN (jx_t1 call_list_of sem_list (by rfl) B.list_ bt_list (jo_of (jx_ix rfl (hu1 hr) (jo_var (pv 4)) (jo_var (pv 7))))) ja_nil)))) (jss_one (js_appN false rfl (jo_var (pv 5)) (jx_tup (ja_consN (jx_meth0 h_Rooms_standing rfl (hr.mono (by decide)) (jo_of (jx_ix rfl (hu1 hr) (jo_var (pv 2)) (jo_var (pv 7))))) (ja_consN (jx_listRng1 B.list_ B.range_ (jo_of (jx_op op_addD sem_add (jo_of (jx_b1 call_lenA sem_len (by rfl) B.len_ bb_len (jo_of (jx_ix rfl (hu1 hr) (jo_var (pv 4)) (jo_var (pv 7)))))) (jo_of jx_int)))) ja_nil)))))) jss_nil))))))))) (jss_cons (js_for PassesOwn.never rfl (ji_rng1 B.range_ (jo_of jx_int)) (pg_name (i := 7) sc_law.nd rfl (by first | exact Or.inl rfl | exact Or.inr rfl)) (gok_name 7) (jss_one (js_if (jt_not (jt_tru rfl (jo_of (jx_call h_Lseen rfl (hr.mono (by decide)) (ja_cons (jx_ix rfl (hu1 hr) (jo_var (pv 2)) (jo_var (pv 7))) (ja_cons (jx_var (pv 1)) (ja_cons (jx_ix rfl (hu1 hr) (jo_var (pv 3)) (jo_var (pv 7))) (ja_cons (jx_ix rfl (hu1 hr) (jo_var (pv 4)) (jo_var (pv 7))) ja_nil)))))))) (jss_one (js_ret jx_bl)) jss_nil))) (jss_cons (js_forN rfl PassesOwn.never rfl (jo_var (pv 5)) (pg_tup rfl (pgs_cons (pg_name (i := 12) sc_law.nd rfl (by first | exact Or.inl rfl | exact Or.inr rfl)) (pgs_cons (pg_name (i := 13) sc_law.nd rfl (by first | exact Or.inl rfl | exact Or.inr rfl)) pgs_nil))) (gok_tup (gsok_cons (gok_name 12) (gsok_cons (gok_name 13) gsok_nil))) (jss_cons (js_if (jt_cmp (op_neP (hu64 hr)) sem_ne (jo_var (pv 12)) (jo_var (pv 13)) (by rfl)) (jss_one (js_ret jx_bl)) jss_nil) (jss_one (js_expr (jx_lclear rfl (jo_var (pv 12))))))) (jss_one (js_ret (jx_and (jx_call h_Lseen rfl (hr.mono (by decide)) (ja_cons (jx_ix rfl (hu1 hr) (jo_var (pv 2)) (jo_of jx_int)) (ja_cons (jx_var (pv 1)) (ja_cons (jx_ix rfl (hu1 hr) (jo_var (pv 3)) (jo_of jx_int)) (ja_cons (jx_ix rfl (hu1 hr) (jo_var (pv 4)) (jo_of jx_int)) ja_nil))))) (jx_one (jx_call h_Lseen rfl (hr.mono (by decide)) (ja_cons (jx_ix rfl (hu1 hr) (jo_var (pv 2)) (jo_of jx_int)) (ja_cons (jx_var (pv 1)) (ja_cons (jx_ix rfl (hu1 hr) (jo_var (pv 3)) (jo_of jx_int)) (ja_cons (jx_ix rfl (hu1 hr) (jo_var (pv 4)) (jo_of jx_int)) ja_nil)))))))))))))))))), fun ds w P h => v_law ds w P h⟩
/-! ### the head -/
theorem topfn {K : PySem.W.Frag} {h : Heap} {mg : Str → Option Value} {x : Str} {st : Stmt} {f : Addr} {oc : Value} {od an : Option Addr} {osl : Array (Option Value)} {kV dc pm cd ct : Value} (X : K.In h) (G : h.Ns mainGlobals mg)
    (a : PySem.W.nsIn K mainGlobals x = some (some (.ref f))) (l : K.lookup f = some ⟨oc, od, .func (PySem.W.fnOf x x (defArgs st) (defBody st) (defScope st) .none kV dc pm an cd ct), osl⟩) (c : PySem.W.codeIn K cd x = true) (k : PySem.W.keepIn K (.ref f) = true) :
    TopFn K mg x x st f (PySem.W.fnOf x x (defArgs st) (defBody st) (defScope st) .none kV dc pm an cd ct) := ⟨fun_mk l c k, PySem.W.mg_of X G a⟩
theorem all_mk {l : PySem.W.OpenLaw} {w : World} {K : PySem.W.Frag} {h : Heap} {mg : Str → Option Value} {fa : Addr}
    {f0 : Addr} {od0 an0 : Option Addr} {sl0 : Array (Option Value)} {oc0 kV0 dc0 pm0 cd0 ct0 : Value} {f1 : Addr} {od1 an1 : Option Addr} {sl1 : Array (Option Value)} {oc1 kV1 dc1 pm1 cd1 ct1 : Value} {f2 : Addr} {od2 an2 : Option Addr} {sl2 : Array (Option Value)} {oc2 kV2 dc2 pm2 cd2 ct2 : Value} {f3 : Addr} {od3 an3 : Option Addr} {sl3 : Array (Option Value)} {oc3 kV3 dc3 pm3 cd3 ct3 : Value} {f4 : Addr} {od4 an4 : Option Addr} {sl4 : Array (Option Value)} {oc4 kV4 dc4 pm4 cd4 ct4 : Value} {f5 : Addr} {od5 an5 : Option Addr} {sl5 : Array (Option Value)} {oc5 kV5 dc5 pm5 cd5 ct5 : Value} {f6 : Addr} {od6 an6 : Option Addr} {sl6 : Array (Option Value)} {oc6 kV6 dc6 pm6 cd6 ct6 : Value} {f7 : Addr} {od7 an7 : Option Addr} {sl7 : Array (Option Value)} {oc7 kV7 dc7 pm7 cd7 ct7 : Value} {f8 : Addr} {od8 an8 : Option Addr} {sl8 : Array (Option Value)} {oc8 kV8 dc8 pm8 cd8 ct8 : Value} {f9 : Addr} {od9 an9 : Option Addr} {sl9 : Array (Option Value)} {oc9 kV9 dc9 pm9 cd9 ct9 : Value} {f10 : Addr} {od10 an10 : Option Addr} {sl10 : Array (Option Value)} {oc10 kV10 dc10 pm10 cd10 ct10 : Value} {f11 : Addr} {od11 an11 : Option Addr} {sl11 : Array (Option Value)} {oc11 kV11 dc11 pm11 cd11 ct11 : Value} {f12 : Addr} {od12 an12 : Option Addr} {sl12 : Array (Option Value)} {oc12 kV12 dc12 pm12 cd12 ct12 : Value}
    (X : K.In h) (G : h.Ns mainGlobals mg) (hfa : mg "law" = some (.ref fa))
    {C_Rooms : Addr} (a_Rooms : PySem.W.nsIn K mainGlobals "Rooms" = some (some (.ref C_Rooms))) (pg_Rooms : PySem.W.plainGet K C_Rooms Str.empty = true) (hd_Rooms : PySem.W.hasDictIn K C_Rooms = true) (po_Rooms : PySem.W.plainOver K C_Rooms = true) (sa_Rooms : PySem.W.findIn K (.ref C_Rooms) "__setattr__" = some (some (.builtin "object.__setattr__"))) (mk_Rooms : PySem.W.makesIn K C_Rooms = true) (kc_Rooms : PySem.W.keepIn K (.ref C_Rooms) = true)
    (n_Rooms_elders : PySem.W.findIn K (.ref C_Rooms) "elders" = some none)
    (n_Rooms_known : PySem.W.findIn K (.ref C_Rooms) "known" = some none)
    (n_Rooms_letters : PySem.W.findIn K (.ref C_Rooms) "letters" = some none)
    (n_Rooms_made : PySem.W.findIn K (.ref C_Rooms) "made" = some none)
    (n_Rooms_told : PySem.W.findIn K (.ref C_Rooms) "told" = some none)
    (a0 : PySem.W.findIn K (.ref C_Rooms) "__init__" = some (some (.ref f0))) (i0 : PySem.W.isFn K (.ref f0) = true) (l0 : K.lookup f0 = some ⟨oc0, od0, .func (PySem.W.fnOf "__init__" "Rooms.__init__" (defArgs s_Rooms_init) (defBody s_Rooms_init) (defScope s_Rooms_init) .none kV0 dc0 pm0 an0 cd0 ct0), sl0⟩) (c0 : PySem.W.codeIn K cd0 "Rooms.__init__" = true) (k0 : PySem.W.keepIn K (.ref f0) = true)
    (a1 : PySem.W.findIn K (.ref C_Rooms) "make" = some (some (.ref f1))) (i1 : PySem.W.isFn K (.ref f1) = true) (l1 : K.lookup f1 = some ⟨oc1, od1, .func (PySem.W.fnOf "make" "Rooms.make" (defArgs s_Rooms_make) (defBody s_Rooms_make) (defScope s_Rooms_make) .none kV1 dc1 pm1 an1 cd1 ct1), sl1⟩) (c1 : PySem.W.codeIn K cd1 "Rooms.make" = true) (k1 : PySem.W.keepIn K (.ref f1) = true)
    (a2 : PySem.W.findIn K (.ref C_Rooms) "by" = some (some (.ref f2))) (i2 : PySem.W.isFn K (.ref f2) = true) (l2 : K.lookup f2 = some ⟨oc2, od2, .func (PySem.W.fnOf "by" "Rooms.by" (defArgs s_Rooms_by) (defBody s_Rooms_by) (defScope s_Rooms_by) .none kV2 dc2 pm2 an2 cd2 ct2), sl2⟩) (c2 : PySem.W.codeIn K cd2 "Rooms.by" = true) (k2 : PySem.W.keepIn K (.ref f2) = true)
    (a3 : PySem.W.findIn K (.ref C_Rooms) "elder" = some (some (.ref f3))) (i3 : PySem.W.isFn K (.ref f3) = true) (l3 : K.lookup f3 = some ⟨oc3, od3, .func (PySem.W.fnOf "elder" "Rooms.elder" (defArgs s_Rooms_elder) (defBody s_Rooms_elder) (defScope s_Rooms_elder) .none kV3 dc3 pm3 an3 cd3 ct3), sl3⟩) (c3 : PySem.W.codeIn K cd3 "Rooms.elder" = true) (k3 : PySem.W.keepIn K (.ref f3) = true)
    (a4 : PySem.W.findIn K (.ref C_Rooms) "standing" = some (some (.ref f4))) (i4 : PySem.W.isFn K (.ref f4) = true) (l4 : K.lookup f4 = some ⟨oc4, od4, .func (PySem.W.fnOf "standing" "Rooms.standing" (defArgs s_Rooms_standing) (defBody s_Rooms_standing) (defScope s_Rooms_standing) .none kV4 dc4 pm4 an4 cd4 ct4), sl4⟩) (c4 : PySem.W.codeIn K cd4 "Rooms.standing" = true) (k4 : PySem.W.keepIn K (.ref f4) = true)
    (a5 : PySem.W.findIn K (.ref C_Rooms) "paper" = some (some (.ref f5))) (i5 : PySem.W.isFn K (.ref f5) = true) (l5 : K.lookup f5 = some ⟨oc5, od5, .func (PySem.W.fnOf "paper" "Rooms.paper" (defArgs s_Rooms_paper) (defBody s_Rooms_paper) (defScope s_Rooms_paper) .none kV5 dc5 pm5 an5 cd5 ct5), sl5⟩) (c5 : PySem.W.codeIn K cd5 "Rooms.paper" = true) (k5 : PySem.W.keepIn K (.ref f5) = true)
    (a6 : PySem.W.nsIn K mainGlobals "_law_cell_at" = some (some (.ref f6))) (l6 : K.lookup f6 = some ⟨oc6, od6, .func (PySem.W.fnOf "_law_cell_at" "_law_cell_at" (defArgs s_Lcell_at) (defBody s_Lcell_at) (defScope s_Lcell_at) .none kV6 dc6 pm6 an6 cd6 ct6), sl6⟩) (c6 : PySem.W.codeIn K cd6 "_law_cell_at" = true) (k6 : PySem.W.keepIn K (.ref f6) = true)
    (a7 : PySem.W.nsIn K mainGlobals "_law_whole" = some (some (.ref f7))) (l7 : K.lookup f7 = some ⟨oc7, od7, .func (PySem.W.fnOf "_law_whole" "_law_whole" (defArgs s_Lwhole) (defBody s_Lwhole) (defScope s_Lwhole) .none kV7 dc7 pm7 an7 cd7 ct7), sl7⟩) (c7 : PySem.W.codeIn K cd7 "_law_whole" = true) (k7 : PySem.W.keepIn K (.ref f7) = true)
    (a8 : PySem.W.nsIn K mainGlobals "_law_step" = some (some (.ref f8))) (l8 : K.lookup f8 = some ⟨oc8, od8, .func (PySem.W.fnOf "_law_step" "_law_step" (defArgs s_Lstep) (defBody s_Lstep) (defScope s_Lstep) .none kV8 dc8 pm8 an8 cd8 ct8), sl8⟩) (c8 : PySem.W.codeIn K cd8 "_law_step" = true) (k8 : PySem.W.keepIn K (.ref f8) = true)
    (a9 : PySem.W.nsIn K mainGlobals "_law_rows" = some (some (.ref f9))) (l9 : K.lookup f9 = some ⟨oc9, od9, .func (PySem.W.fnOf "_law_rows" "_law_rows" (defArgs s_Lrows) (defBody s_Lrows) (defScope s_Lrows) .none kV9 dc9 pm9 an9 cd9 ct9), sl9⟩) (c9 : PySem.W.codeIn K cd9 "_law_rows" = true) (k9 : PySem.W.keepIn K (.ref f9) = true)
    (a10 : PySem.W.nsIn K mainGlobals "_law_by" = some (some (.ref f10))) (l10 : K.lookup f10 = some ⟨oc10, od10, .func (PySem.W.fnOf "_law_by" "_law_by" (defArgs s_Lby) (defBody s_Lby) (defScope s_Lby) .none kV10 dc10 pm10 an10 cd10 ct10), sl10⟩) (c10 : PySem.W.codeIn K cd10 "_law_by" = true) (k10 : PySem.W.keepIn K (.ref f10) = true)
    (a11 : PySem.W.nsIn K mainGlobals "_law_seen" = some (some (.ref f11))) (l11 : K.lookup f11 = some ⟨oc11, od11, .func (PySem.W.fnOf "_law_seen" "_law_seen" (defArgs s_Lseen) (defBody s_Lseen) (defScope s_Lseen) .none kV11 dc11 pm11 an11 cd11 ct11), sl11⟩) (c11 : PySem.W.codeIn K cd11 "_law_seen" = true) (k11 : PySem.W.keepIn K (.ref f11) = true)
    (a12 : PySem.W.nsIn K mainGlobals "law" = some (some (.ref f12))) (l12 : K.lookup f12 = some ⟨oc12, od12, .func (PySem.W.fnOf "law" "law" (defArgs s_law) (defBody s_law) (defScope s_law) .none kV12 dc12 pm12 an12 cd12 ct12), sl12⟩) (c12 : PySem.W.codeIn K cd12 "law" = true) (k12 : PySem.W.keepIn K (.ref f12) = true)
    (z0 : PySem.W.nsIn K mainGlobals "bool" = some none)
    (z1 : PySem.W.nsIn K mainGlobals "int" = some none)
    (z2 : PySem.W.nsIn K mainGlobals "isinstance" = some none)
    (z3 : PySem.W.nsIn K mainGlobals "len" = some none)
    (z4 : PySem.W.nsIn K mainGlobals "list" = some none)
    (z5 : PySem.W.nsIn K mainGlobals "range" = some none)
    (z6 : PySem.W.nsIn K mainGlobals "str" = some none)
    (z7 : PySem.W.nsIn K mainGlobals "tuple" = some none) :
    ∃ fd : FuncData, (∀ (s : Shared) (v : Value), BindsTo s fd ⟨[v], []⟩ [("_law_script", v)]) ∧ ∀ base : Heap, K.In base → base.Ns mainGlobals mg → FnOk l.prog w K mg base CX0 4 fa fd ["_law_script"] (toSp K T_law) := by
  have e := hfa.symm.trans (PySem.W.mg_of X G a12)
  cases e
  have B : Bs mg := ⟨PySem.W.mg_none_of X G z0, PySem.W.mg_none_of X G z1, PySem.W.mg_none_of X G z2, PySem.W.mg_none_of X G z3, PySem.W.mg_none_of X G z4, PySem.W.mg_none_of X G z5, PySem.W.mg_none_of X G z6, PySem.W.mg_none_of X G z7⟩
  have c_Rooms : Cls K C_Rooms := ⟨pg_Rooms, hd_Rooms, po_Rooms, sa_Rooms⟩
  have t0 := fun_mk (st := s_Rooms_init) l0 c0 k0
  have t1 := fun_mk (st := s_Rooms_make) l1 c1 k1
  have t2 := fun_mk (st := s_Rooms_by) l2 c2 k2
  have t3 := fun_mk (st := s_Rooms_elder) l3 c3 k3
  have t4 := fun_mk (st := s_Rooms_standing) l4 c4 k4
  have t5 := fun_mk (st := s_Rooms_paper) l5 c5 k5
  have t6 := topfn (st := s_Lcell_at) X G a6 l6 c6 k6
  have t7 := topfn (st := s_Lwhole) X G a7 l7 c7 k7
  have t8 := topfn (st := s_Lstep) X G a8 l8 c8 k8
  have t9 := topfn (st := s_Lrows) X G a9 l9 c9 k9
  have t10 := topfn (st := s_Lby) X G a10 l10 c10 k10
  have t11 := topfn (st := s_Lseen) X G a11 l11 c11 k11
  have t12 := topfn (st := s_law) X G a12 l12 c12 k12
  refine ⟨PySem.W.fnOf "law" "law" (defArgs s_law) (defBody s_law) (defScope s_law) .none kV12 dc12 pm12 an12 cd12 ct12, fun s v => .of_eq rfl, fun base _ _ => ?_⟩
  have h_Rooms_init : Mak l.prog w K mg base 1 "Rooms" T_Rooms_init := d_Rooms_init t0 B a_Rooms c_Rooms n_Rooms_elders n_Rooms_known n_Rooms_letters n_Rooms_made n_Rooms_told ⟨mk_Rooms, a0, i0, kc_Rooms⟩ (PySem.W.mg_of X G a_Rooms)
  have h_Rooms_make : Mth l.prog w K mg base 1 "Rooms" "make" T_Rooms_make := d_Rooms_make t1 B a_Rooms c_Rooms n_Rooms_elders n_Rooms_known n_Rooms_made n_Rooms_told ⟨a1, i1, k1⟩
  have h_Rooms_by : Mth l.prog w K mg base 1 "Rooms" "by" T_Rooms_by := d_Rooms_by t2 B a_Rooms c_Rooms n_Rooms_known ⟨a2, i2, k2⟩
  have h_Rooms_elder : Mth l.prog w K mg base 1 "Rooms" "elder" T_Rooms_elder := d_Rooms_elder t3 B a_Rooms c_Rooms n_Rooms_elders ⟨a3, i3, k3⟩
  have h_Rooms_standing : Mth l.prog w K mg base 1 "Rooms" "standing" T_Rooms_standing := d_Rooms_standing t4 B a_Rooms c_Rooms n_Rooms_elders n_Rooms_made ⟨a4, i4, k4⟩
  have h_Rooms_paper : Mth l.prog w K mg base 1 "Rooms" "paper" T_Rooms_paper := d_Rooms_paper t5 B a_Rooms c_Rooms n_Rooms_told ⟨a5, i5, k5⟩
  have h_Lcell_at : Fn l.prog w K mg base 1 "_law_cell_at" T_Lcell_at := d_Lcell_at t6 B
  have h_Lwhole : Fn l.prog w K mg base 1 "_law_whole" T_Lwhole := d_Lwhole t7 B
  have h_Lstep : Fn l.prog w K mg base 1 "_law_step" T_Lstep := d_Lstep t8 B
  have h_Lrows : Fn l.prog w K mg base 2 "_law_rows" T_Lrows := d_Lrows t9 B h_Lwhole
  have h_Lby : Fn l.prog w K mg base 2 "_law_by" T_Lby := d_Lby t10 B h_Rooms_by h_Lwhole
  have h_Lseen : Fn l.prog w K mg base 3 "_law_seen" T_Lseen := d_Lseen t11 B a_Rooms c_Rooms n_Rooms_letters n_Rooms_made h_Rooms_elder h_Rooms_paper h_Rooms_standing h_Lby h_Lrows h_Lwhole
  exact dl_law t12 B h_Rooms_init h_Rooms_make h_Rooms_paper h_Rooms_standing h_Lby h_Lcell_at h_Lseen h_Lstep h_Lwhole
theorem walk {l : PySem.W.OpenLaw} {q : Program} {loose : List Str} {XP : (Str → Option Value) → Heap → Prop} {YP : World → Heap → Prop} {d : DefRec} {K : Params → PySem.W.Frag} (hn : l.most = some 63) (hdf : d.params.defaults = [])
    (hY : ∀ (w : World) (h : Heap), YP w h → (K w.params).In h)
    (F : ∀ (w : World) (mg : Str → Option Value) (fa : Addr) (h : Heap), (K w.params).In h → h.Ns mainGlobals mg → mg d.name = some (.ref fa) →
      ∃ fd : FuncData, (∀ (s : Shared) (u : Value), BindsTo s fd ⟨[u], []⟩ [("_law_script", u)]) ∧ ∀ base : Heap, (K w.params).In base → base.Ns mainGlobals mg → FnOk l.prog w (K w.params) mg base CX0 4 fa fd ["_law_script"] (toSp (K w.params) T_law)) :
    PySem.W.WalkO q loose XP YP l.row.toRowW d [] (fun f vs => PySem.call f vs) :=
  L2.walk_of (n := 63) (k := 4) (x := "_law_script") (CX := fun _ => CX0) (sp := fun w => toSp (K w.params) T_law) hn (by decide) hdf ⟨rfl, by decide, by decide⟩ hY F (fun _ _ a ns hl _ hS => law_sp hl hS fun _ => rfl) fun _ _ _ _ _ z => z
end My
open PySem PySem.W PyProof.Rows
set_option maxRecDepth 100000 in
set_option maxHeartbeats 0 in
theorem PySem.Challenge.cw_cosetyard_k11_rooms_made_holds : PySem.Challenge.rw_cosetyard_k11_rooms_made.Holds := by
  w_on; o_law; k_head; (case hw => w_witness2)
  k_fill
  refine My.walk (l := PySem.Challenge.rw_cosetyard_k11_rooms_made) rfl rfl (fun w h Y => PySem.W.kIn_of Y) ?F
  case F =>
    intro w mg fa h KX G hmg
    refine' My.all_mk KX G hmg ?a_Rooms ?pg_Rooms ?hd_Rooms ?po_Rooms ?sa_Rooms ?mk_Rooms ?kc_Rooms ?n_Rooms_elders ?n_Rooms_known ?n_Rooms_letters ?n_Rooms_made ?n_Rooms_told ?a0 ?i0 ?l0 ?c0 ?k0 ?a1 ?i1 ?l1 ?c1 ?k1 ?a2 ?i2 ?l2 ?c2 ?k2 ?a3 ?i3 ?l3 ?c3 ?k3 ?a4 ?i4 ?l4 ?c4 ?k4 ?a5 ?i5 ?l5 ?c5 ?k5 ?a6 ?l6 ?c6 ?k6 ?a7 ?l7 ?c7 ?k7 ?a8 ?l8 ?c8 ?k8 ?a9 ?l9 ?c9 ?k9 ?a10 ?l10 ?c10 ?k10 ?a11 ?l11 ?c11 ?k11 ?a12 ?l12 ?c12 ?k12 ?z0 ?z1 ?z2 ?z3 ?z4 ?z5 ?z6 ?z7
    (case a_Rooms => k_is)
    (case pg_Rooms => k_is)
    (case hd_Rooms => k_is)
    (case po_Rooms => k_is)
    (case sa_Rooms => k_is)
    (case mk_Rooms => k_is)
    (case kc_Rooms => k_is)
    (case n_Rooms_elders => k_is)
    (case n_Rooms_known => k_is)
    (case n_Rooms_letters => k_is)
    (case n_Rooms_made => k_is)
    (case n_Rooms_told => k_is)
    (case a0 => k_is)
    (case i0 => k_is)
    (case l0 => k_is)
    (case c0 => k_is)
    (case k0 => k_is)
    (case a1 => k_is)
    (case i1 => k_is)
    (case l1 => k_is)
    (case c1 => k_is)
    (case k1 => k_is)
    (case a2 => k_is)
    (case i2 => k_is)
    (case l2 => k_is)
    (case c2 => k_is)
    (case k2 => k_is)
    (case a3 => k_is)
    (case i3 => k_is)
    (case l3 => k_is)
    (case c3 => k_is)
    (case k3 => k_is)
    (case a4 => k_is)
    (case i4 => k_is)
    (case l4 => k_is)
    (case c4 => k_is)
    (case k4 => k_is)
    (case a5 => k_is)
    (case i5 => k_is)
    (case l5 => k_is)
    (case c5 => k_is)
    (case k5 => k_is)
    (case a6 => k_is)
    (case l6 => k_is)
    (case c6 => k_is)
    (case k6 => k_is)
    (case a7 => k_is)
    (case l7 => k_is)
    (case c7 => k_is)
    (case k7 => k_is)
    (case a8 => k_is)
    (case l8 => k_is)
    (case c8 => k_is)
    (case k8 => k_is)
    (case a9 => k_is)
    (case l9 => k_is)
    (case c9 => k_is)
    (case k9 => k_is)
    (case a10 => k_is)
    (case l10 => k_is)
    (case c10 => k_is)
    (case k10 => k_is)
    (case a11 => k_is)
    (case l11 => k_is)
    (case c11 => k_is)
    (case k11 => k_is)
    (case a12 => k_is)
    (case l12 => k_is)
    (case c12 => k_is)
    (case k12 => k_is)
    (case z0 => k_is)
    (case z1 => k_is)
    (case z2 => k_is)
    (case z3 => k_is)
    (case z4 => k_is)
    (case z5 => k_is)
    (case z6 => k_is)
    (case z7 => k_is)
