import PyProof.Rows.All
import Wide.All
import OpenK.AllK
import Wide.FinOn
import HandS.ForMost
import HandS.ForExc
import HandS.Wide
import HandS.Flow
import HandS.IsInst
import HandS.TupAny
import HandS.Deep
import KE.DataEq
import HandS.WordsDict
import HandS.StrMore
import HandS.SortInts
import HandS.TupLe
import HandS.Style
import HandS.More
import KE.KRevSl
import HandS.Small
import HandS.Replace
import HandS.Codes
import HandS.TupMul
import HandS.Conv
import HandS.Zip
import PySem.Challenge.RW_cosetyard_k53_least_ways
set_option Elab.async false
set_option linter.all false
set_option maxRecDepth 100000
set_option autoImplicit false
namespace Lv
open PySem PySem.Spec L2

/-! ### data: values as trees -/
inductive D where
  | non | bl (b : Bool) | int (i : Int) | str (x : Str) | ref (a : Addr) | ty (n : String)
  | lst (ds : List D) | tup (ds : List D) | dK (kvs : List (Key × D)) | dT (kvs : List (List Key × D)) | scr (ns : List Int)

/-! ### what stands for what, over a part F of the heap that no one changes -/
mutual
inductive DR (K : PySem.W.Frag) (F : Hp) : V → D → Prop
  | non : DR K F .non .non
  | bl (b : Bool) : DR K F (.bl b) (.bl b)
  | int (i : Int) : DR K F (.int i) (.int i)
  | str (x : Str) : DR K F (.str x) (.str x)
  | ref (a : Addr) : DR K F (.ref a) (.ref a)
  | ty (n : String) : DR K F (.ty n) (.ty n)
  | lst {a : Addr} {vs : List V} {ds : List D} : F a = some (.lst vs) → DRs K F vs ds → DR K F (.ref a) (.lst ds)
  | tup {a : Addr} {vs : List V} {ds : List D} : F a = some (.tup vs) → DRs K F vs ds → DR K F (.ref a) (.tup ds)
  | dK {a : Addr} {vs : List (Key × V)} {ds : List (Key × D)} : F a = some (.dK vs) → DKs K F vs ds → DR K F (.ref a) (.dK ds)
  | dT {a : Addr} {vs : List (List Key × V)} {ds : List (List Key × D)} : F a = some (.dT vs) → DTs K F vs ds → DR K F (.ref a) (.dT ds)
  | scr {a : Addr} {ns : List Int} : SqL K F a (ns.map V.int) → DR K F (.ref a) (.scr ns)
inductive DRs (K : PySem.W.Frag) (F : Hp) : List V → List D → Prop
  | nil : DRs K F [] []
  | cons {v : V} {vs : List V} {d : D} {ds : List D} : DR K F v d → DRs K F vs ds → DRs K F (v :: vs) (d :: ds)
inductive DKs (K : PySem.W.Frag) (F : Hp) : List (Key × V) → List (Key × D) → Prop
  | nil : DKs K F [] []
  | cons {k : Key} {v : V} {vs : List (Key × V)} {d : D} {ds : List (Key × D)} : DR K F v d → DKs K F vs ds → DKs K F ((k, v) :: vs) ((k, d) :: ds)
inductive DTs (K : PySem.W.Frag) (F : Hp) : List (List Key × V) → List (List Key × D) → Prop
  | nil : DTs K F [] []
  | cons {k : List Key} {v : V} {vs : List (List Key × V)} {d : D} {ds : List (List Key × D)} : DR K F v d → DTs K F vs ds → DTs K F ((k, v) :: vs) ((k, d) :: ds)
end
section
variable {K : PySem.W.Frag} {F F' : Hp}
mutual
theorem DR.mono (e : Same F F') : ∀ {v : V} {d : D}, DR K F v d → DR K F' v d
  | _, _, .non => .non
  | _, _, .bl b => .bl b
  | _, _, .int i => .int i
  | _, _, .str x => .str x
  | _, _, .ref a => .ref a
  | _, _, .ty n => .ty n
  | _, _, .lst h hs => .lst (e _ _ h) (DRs.mono e hs)
  | _, _, .tup h hs => .tup (e _ _ h) (DRs.mono e hs)
  | _, _, .dK h hs => .dK (e _ _ h) (DKs.mono e hs)
  | _, _, .dT h hs => .dT (e _ _ h) (DTs.mono e hs)
  | _, _, .scr h => .scr (e.seq h)
theorem DRs.mono (e : Same F F') : ∀ {vs : List V} {ds : List D}, DRs K F vs ds → DRs K F' vs ds
  | _, _, .nil => .nil
  | _, _, .cons h hs => .cons (DR.mono e h) (DRs.mono e hs)
theorem DKs.mono (e : Same F F') : ∀ {vs : List (Key × V)} {ds : List (Key × D)}, DKs K F vs ds → DKs K F' vs ds
  | _, _, .nil => .nil
  | _, _, .cons h hs => .cons (DR.mono e h) (DKs.mono e hs)
theorem DTs.mono (e : Same F F') : ∀ {vs : List (List Key × V)} {ds : List (List Key × D)}, DTs K F vs ds → DTs K F' vs ds
  | _, _, .nil => .nil
  | _, _, .cons h hs => .cons (DR.mono e h) (DTs.mono e hs)
end
theorem DRs.length : ∀ {vs : List V} {ds : List D}, DRs K F vs ds → vs.length = ds.length
  | _, _, .nil => rfl
  | _, _, .cons _ hs => by simp [DRs.length hs]
theorem DKs.length : ∀ {vs : List (Key × V)} {ds : List (Key × D)}, DKs K F vs ds → vs.length = ds.length
  | _, _, .nil => rfl
  | _, _, .cons _ hs => by simp [DKs.length hs]
theorem DTs.length : ∀ {vs : List (List Key × V)} {ds : List (List Key × D)}, DTs K F vs ds → vs.length = ds.length
  | _, _, .nil => rfl
  | _, _, .cons _ hs => by simp [DTs.length hs]
theorem DRs.get : ∀ {vs : List V} {ds : List D} {i : Nat} {d : D}, DRs K F vs ds → ds[i]? = some d → ∃ v, vs[i]? = some v ∧ DR K F v d
  | _, _, _, _, .nil, e => by simp at e
  | _, _, 0, _, .cons h _, e => by simp at e; subst e; exact ⟨_, rfl, h⟩
  | _, _, i + 1, d, .cons _ hs, e => by
    obtain ⟨u, h1, h2⟩ := DRs.get (i := i) (d := d) hs (by simpa using e)
    exact ⟨u, by simpa using h1, h2⟩
theorem DRs.getV : ∀ {vs : List V} {ds : List D} {i : Nat} {v : V}, DRs K F vs ds → vs[i]? = some v → ∃ d, ds[i]? = some d ∧ DR K F v d
  | _, _, _, _, .nil, e => by simp at e
  | _, _, 0, _, .cons h _, e => by simp at e; subst e; exact ⟨_, rfl, h⟩
  | _, _, i + 1, v, .cons _ hs, e => by
    obtain ⟨u, h1, h2⟩ := DRs.getV (i := i) (v := v) hs (by simpa using e)
    exact ⟨u, by simpa using h1, h2⟩
theorem DRs.append : ∀ {vs ws : List V} {ds es : List D}, DRs K F vs ds → DRs K F ws es → DRs K F (vs ++ ws) (ds ++ es)
  | _, _, _, _, .nil, s => s
  | _, _, _, _, .cons r t, s => .cons r (DRs.append t s)
theorem DRs.take : ∀ {vs : List V} {ds : List D} (n : Nat), DRs K F vs ds → DRs K F (vs.take n) (ds.take n)
  | _, _, 0, _ => .nil
  | _, _, _ + 1, .nil => .nil
  | _, _, n + 1, .cons r t => .cons r (DRs.take n t)
theorem DRs.drop : ∀ {vs : List V} {ds : List D} (n : Nat), DRs K F vs ds → DRs K F (vs.drop n) (ds.drop n)
  | _, _, 0, r => r
  | _, _, _ + 1, .nil => .nil
  | _, _, n + 1, .cons r t => DRs.drop n t
theorem DRs.reverse {vs : List V} {ds : List D} (h : DRs K F vs ds) : DRs K F vs.reverse ds.reverse := by
  induction ds generalizing vs with
  | nil => cases h; exact .nil
  | cons d ds ih =>
    cases h with
    | cons h hs => rw [List.reverse_cons, List.reverse_cons]; exact (ih hs).append (.cons h .nil)
theorem DRs.set {x : V} {y : D} (r : DR K F x y) : ∀ {vs : List V} {ds : List D} (i : Nat), DRs K F vs ds → DRs K F (vs.set i x) (ds.set i y)
  | _, _, _, .nil => .nil
  | _, _, 0, .cons _ t => .cons r t
  | _, _, i + 1, .cons q t => .cons q (DRs.set r i t)
theorem DRs.eraseIdx : ∀ {vs : List V} {ds : List D} (i : Nat), DRs K F vs ds → DRs K F (vs.eraseIdx i) (ds.eraseIdx i)
  | _, _, _, .nil => .nil
  | _, _, 0, .cons _ t => t
  | _, _, i + 1, .cons q t => .cons q (DRs.eraseIdx i t)
theorem DRs.dropLast {vs : List V} {ds : List D} (h : DRs K F vs ds) : DRs K F vs.dropLast ds.dropLast := by
  rw [List.dropLast_eq_take, List.dropLast_eq_take, h.length]
  exact h.take _
theorem DRs.rep {vs : List V} {ds : List D} (h : DRs K F vs ds) : ∀ k : Nat, DRs K F (List.replicate k vs).flatten (List.replicate k ds).flatten
  | 0 => .nil
  | k + 1 => by rw [List.replicate_succ, List.replicate_succ, List.flatten_cons, List.flatten_cons]; exact h.append (DRs.rep h k)
theorem DRs.ints : ∀ {vs : List V} {ns : List Int}, DRs K F vs (ns.map D.int) → vs = ns.map V.int
  | _, [], h => by cases h; rfl
  | _, n :: ns, h => by
    cases h with
    | cons h hs => cases h; rw [List.map_cons, DRs.ints hs]
theorem DRs.ofInts : ∀ (ns : List Int), DRs K F (ns.map V.int) (ns.map D.int)
  | [] => .nil
  | n :: ns => .cons (.int n) (DRs.ofInts ns)
end
/-- what an object of one's own holds -/
inductive OR (K : PySem.W.Frag) (F : Hp) : HO → D → Prop
  | lst {vs : List V} {ds : List D} : DRs K F vs ds → OR K F (.lst vs) (.lst ds)
  | dK {vs : List (Key × V)} {ds : List (Key × D)} : DKs K F vs ds → OR K F (.dK vs) (.dK ds)
  | dT {vs : List (List Key × V)} {ds : List (List Key × D)} : DTs K F vs ds → OR K F (.dT vs) (.dT ds)
theorem OR.mono {K : PySem.W.Frag} {F F' : Hp} {o : HO} {d : D} (h : OR K F o d) (e : Same F F') : OR K F' o d := by
  cases h with
  | lst h => exact .lst (h.mono e)
  | dK h => exact .dK (h.mono e)
  | dT h => exact .dT (h.mono e)
theorem OR.frozen {K : PySem.W.Frag} {F : Hp} {o : HO} {d : D} {a : Addr} (h : OR K F o d) (e : F a = some o) : DR K F (.ref a) d := by
  cases h with
  | lst h => exact .lst e h
  | dK h => exact .dK e h
  | dT h => exact .dT e h

/-! ### the world beside: objects that are told by a state of one's own -/
structure Ext where
  Om : Type
  rep : PySem.W.Frag → Om → Hp → Hp → Prop
  grow : ∀ {K : PySem.W.Frag} {w : Om} {F F' He : Hp}, rep K w F He → Same F F' → rep K w F' He
def noExt : Ext := ⟨Unit, fun _ _ _ He => ∀ b, He b = none, fun h _ => h⟩

/-- the heap in its parts: F frozen, He of the world beside -/
structure Wd (W : Ext) (K : PySem.W.Frag) (w : W.Om) (F He H : Hp) : Prop where
  sf : Same F H
  sh : Same He H
  dj : ∀ b o, He b = some o → F b = none
  ex : W.rep K w F He
/-- from one state to a later one -/
structure Step (F He H F' He' H' : Hp) : Prop where
  fz : Same F F'
  fzN : ∀ b, F' b ≠ none → F b ≠ none ∨ H b = none
  heN : ∀ b, He' b ≠ none → He b ≠ none ∨ H b = none
  keep : ∀ b o, H b = some o → He b = none → H' b = some o
  dom : ∀ b, H b ≠ none → H' b ≠ none
theorem Step.refl {F He H : Hp} : Step F He H F He H := ⟨Same.refl _, fun _ h => .inl h, fun _ h => .inl h, fun _ _ h _ => h, fun _ h => h⟩
theorem Step.trans {F He H F1 He1 H1 F2 He2 H2 : Hp} (a : Step F He H F1 He1 H1) (b : Step F1 He1 H1 F2 He2 H2) : Step F He H F2 He2 H2 where
  fz := a.fz.trans b.fz
  fzN := fun c h => (b.fzN c h).elim (fun h => a.fzN c h) fun h => .inr (Classical.byContradiction fun q => a.dom c q h)
  heN := fun c h => (b.heN c h).elim (fun h => a.heN c h) fun h => .inr (Classical.byContradiction fun q => a.dom c q h)
  keep := fun c o h n => b.keep c o (a.keep c o h n) (by
    cases e : He1 c with
    | none => rfl
    | some u =>
      rcases a.heN c (by rw [e]; exact fun z => nomatch z) with q | q
      · exact absurd n q
      · rw [q] at h; cases h)
  dom := fun c h => b.dom c (a.dom c h)
section
variable {W : Ext} {K : PySem.W.Frag} {w : W.Om} {F He H F' He' H' : Hp} {p : Addr} {o : HO}
theorem Wd.fnone (x : Wd W K w F He H) (h : H p = none) : F p = none := x.sf.free h
theorem Wd.henone (x : Wd W K w F He H) (h : H p = none) : He p = none := x.sh.free h
/-- a new object -/
theorem Wd.alloc (x : Wd W K w F He H) (h : H p = none) : Wd W K w F He (upd H p o) where
  sf := fun b u e => by rw [upd_ne (ne_of_none (x.sf b u e) h)]; exact x.sf b u e
  sh := fun b u e => by rw [upd_ne (ne_of_none (x.sh b u e) h)]; exact x.sh b u e
  dj := x.dj
  ex := x.ex
theorem Step.alloc (h : H p = none) : Step F He H F He (upd H p o) where
  fz := Same.refl _
  fzN := fun _ h => .inl h
  heN := fun _ h => .inl h
  keep := fun b u e _ => by rw [upd_ne (ne_of_none e h)]; exact e
  dom := fun b e => by
    by_cases hb : b = p
    · subst hb; exact absurd h e
    · rw [upd_ne hb]; exact e
/-- an own object is frozen -/
theorem Wd.freeze (x : Wd W K w F He H) (h : H p = some o) (n : F p = none) (m : He p = none) : Wd W K w (upd F p o) He H where
  sf := fun b u e => by
    by_cases hb : b = p
    · subst hb; rw [upd_same] at e; rw [h]; exact e
    · rw [upd_ne hb] at e; exact x.sf b u e
  sh := x.sh
  dj := fun b u e => by rw [upd_ne (ne_of_none e m)]; exact x.dj b u e
  ex := W.grow x.ex fun b u e => by rw [upd_ne (ne_of_none e n)]; exact e
theorem same_upd (n : F p = none) : Same F (upd F p o) := fun b u e => by rw [upd_ne (ne_of_none e n)]; exact e
theorem Step.freeze (s : Step F He H F' He' H') (n : F' p = none) (h : H p = none) : Step F He H (upd F' p o) He' H' where
  fz := s.fz.trans (same_upd n)
  fzN := fun b e => by
    by_cases hb : b = p
    · subst hb; exact .inr h
    · rw [upd_ne hb] at e; exact s.fzN b e
  heN := s.heN
  keep := s.keep
  dom := s.dom
end

/-! ### the entry of a def: where its frame's story begins -/
structure Ent where
  W : Ext
  K : PySem.W.Frag
  F0 : Hp
  He0 : Hp
  H0 : Hp
/-- a slot: nothing known, or own (true: a container that nothing else refers to), and the data -/
abbrev Sl := Option (Bool × D)
abbrev DSt := List Sl
def SlO (z : Ent) (F He H : Hp) : Sl → Option V → Prop
  | none, _ => True
  | some (false, d), v => ∃ x, v = some x ∧ DR z.K F x d
  | some (true, d), v => ∃ a o, v = some (.ref a) ∧ H a = some o ∧ F a = none ∧ He a = none ∧ z.H0 a = none ∧ OR z.K F o d
structure Rel (z : Ent) (δ : DSt) (w : z.W.Om) (F He : Hp) (σ : St) (H : Hp) : Prop where
  wd : Wd z.W z.K w F He H
  st : Step z.F0 z.He0 z.H0 F He H
  len : σ.length = δ.length
  sl : ∀ (i : Nat) (s : Sl), δ[i]? = some s → ∃ v, σ[i]? = some v ∧ SlO z F He H s v
  inj : ∀ (i j : Nat) (d e : D) (a : Addr), δ[i]? = some (some (true, d)) → δ[j]? = some (some (true, e)) → σ[i]? = some (some (.ref a)) → σ[j]? = some (some (.ref a)) → i = j
section
variable {z : Ent} {δ : DSt} {w w' : z.W.Om} {F He H F' He' H' : Hp} {σ : St}
theorem SlO.step {s : Sl} {v : Option V} (x : SlO z F He H s v) (k : Step F He H F' He' H') : SlO z F' He' H' s v := by
  match s, x with
  | none, _ => exact True.intro
  | some (false, d), ⟨u, e, r⟩ => exact ⟨u, e, r.mono k.fz⟩
  | some (true, d), ⟨a, o, e, ho, n, m, f, r⟩ =>
    refine ⟨a, o, e, k.keep a o ho m, ?_, ?_, f, r.mono k.fz⟩
    · refine Classical.byContradiction fun q => (k.fzN a q).elim (fun q => q n) fun q => ?_
      rw [ho] at q; cases q
    · refine Classical.byContradiction fun q => (k.heN a q).elim (fun q => q m) fun q => ?_
      rw [ho] at q; cases q
theorem Rel.step (x : Rel z δ w F He σ H) (y : Wd z.W z.K w' F' He' H') (k : Step F He H F' He' H') : Rel z δ w' F' He' σ H' where
  wd := y
  st := x.st.trans k
  len := x.len
  sl := fun i s e => let ⟨v, hv, r⟩ := x.sl i s e; ⟨v, hv, r.step k⟩
  inj := x.inj
end
/-- a result: own and new, or frozen -/
def Res (K : PySem.W.Frag) (F' He' Hb H' : Hp) : Bool → V → D → Prop
  | false, v, d => DR K F' v d
  | true, v, d => ∃ a o, v = .ref a ∧ H' a = some o ∧ F' a = none ∧ He' a = none ∧ Hb a = none ∧ OR K F' o d
/-- what may be read: frozen, or an own container with frozen things in it -/
def DT (K : PySem.W.Frag) (F He H : Hp) (v : V) (d : D) : Prop := DR K F v d ∨ ∃ a o, v = .ref a ∧ H a = some o ∧ He a = none ∧ OR K F o d
section
variable {W : Ext} {K : PySem.W.Frag} {w w' : W.Om} {F He H F' He' H' F2 He2 H2 Hb : Hp} {v : V} {d : D}
theorem Res.thaw {b : Bool} (k : Step F He H F' He' H') (x : Wd W K w' F' He' H') (r : Res K F' He' H H' b v d) :
    ∃ F2, Step F He H F2 He' H' ∧ Wd W K w' F2 He' H' ∧ DR K F2 v d ∧ Same F' F2 := by
  cases b with
  | false => exact ⟨F', k, x, r, Same.refl _⟩
  | true =>
    obtain ⟨a, o, rfl, ho, n, m, f, q⟩ := r
    exact ⟨upd F' a o, k.freeze n f, x.freeze ho n m, (q.mono (same_upd n)).frozen upd_same, same_upd n⟩
theorem Res.dt {b : Bool} (r : Res K F' He' Hb H' b v d) : DT K F' He' H' v d := by
  cases b with
  | false => exact .inl r
  | true =>
    obtain ⟨a, o, rfl, ho, n, m, f, q⟩ := r
    exact .inr ⟨a, o, rfl, ho, m, q⟩
theorem Res.base {b : Bool} (k : Step F He H F' He' H') (r : Res K F2 He2 H' H2 b v d) : Res K F2 He2 H H2 b v d := by
  cases b with
  | false => exact r
  | true =>
    obtain ⟨a, o, e, ho, n, m, f, q⟩ := r
    exact ⟨a, o, e, ho, n, m, Classical.byContradiction fun q => k.dom a q f, q⟩
theorem DT.step (r : DT K F He H v d) (k : Step F He H F' He' H') : DT K F' He' H' v d := by
  rcases r with r | ⟨a, o, e, ho, m, q⟩
  · exact .inl (r.mono k.fz)
  · refine .inr ⟨a, o, e, k.keep a o ho m, ?_, q.mono k.fz⟩
    refine Classical.byContradiction fun q => (k.heN a q).elim (fun q => q m) fun q => ?_
    rw [ho] at q; cases q
theorem DT.int {i : Int} (r : DT K F He H v (.int i)) : v = .int i := by
  rcases r with r | ⟨a, o, e, ho, m, q⟩ <;> (first | (cases r; rfl) | cases q)
theorem DT.bl {i : Bool} (r : DT K F He H v (.bl i)) : v = .bl i := by
  rcases r with r | ⟨a, o, e, ho, m, q⟩ <;> (first | (cases r; rfl) | cases q)
theorem DT.str {i : Str} (r : DT K F He H v (.str i)) : v = .str i := by
  rcases r with r | ⟨a, o, e, ho, m, q⟩ <;> (first | (cases r; rfl) | cases q)
theorem DT.non (r : DT K F He H v .non) : v = .non := by
  rcases r with r | ⟨a, o, e, ho, m, q⟩ <;> (first | (cases r; rfl) | cases q)
theorem DT.lst {ds : List D} (r : DT K F He H v (.lst ds)) (s : Same F H) : ∃ a vs, v = .ref a ∧ H a = some (.lst vs) ∧ DRs K F vs ds := by
  rcases r with r | ⟨a, o, e, ho, m, q⟩
  · cases r with | lst h hs => exact ⟨_, _, rfl, s _ _ h, hs⟩
  · cases q with | lst hs => exact ⟨a, _, e, ho, hs⟩
theorem DT.tup {ds : List D} (r : DT K F He H v (.tup ds)) (s : Same F H) : ∃ a vs, v = .ref a ∧ H a = some (.tup vs) ∧ DRs K F vs ds := by
  rcases r with r | ⟨a, o, e, ho, m, q⟩
  · cases r with | tup h hs => exact ⟨_, _, rfl, s _ _ h, hs⟩
  · cases q
theorem DT.dK {ds : List (Key × D)} (r : DT K F He H v (.dK ds)) (s : Same F H) : ∃ a vs, v = .ref a ∧ H a = some (.dK vs) ∧ DKs K F vs ds := by
  rcases r with r | ⟨a, o, e, ho, m, q⟩
  · cases r with | dK h hs => exact ⟨_, _, rfl, s _ _ h, hs⟩
  · cases q with | dK hs => exact ⟨a, _, e, ho, hs⟩
theorem DT.dT {ds : List (List Key × D)} (r : DT K F He H v (.dT ds)) (s : Same F H) : ∃ a vs, v = .ref a ∧ H a = some (.dT vs) ∧ DTs K F vs ds := by
  rcases r with r | ⟨a, o, e, ho, m, q⟩
  · cases r with | dT h hs => exact ⟨_, _, rfl, s _ _ h, hs⟩
  · cases q with | dT hs => exact ⟨a, _, e, ho, hs⟩
theorem DT.scr {ns : List Int} (r : DT K F He H v (.scr ns)) (s : Same F H) : ∃ a, v = .ref a ∧ SqL K H a (ns.map V.int) := by
  rcases r with r | ⟨a, o, e, ho, m, q⟩
  · cases r with | scr h => exact ⟨_, rfl, s.seq h⟩
  · cases q
theorem DT.of (r : DR K F v d) : DT K F He H v d := .inl r
end
end Lv

namespace Lv
open PySem PySem.Spec L2

/-! ### readings over data -/
abbrev DX (W : Ext) := DSt → W.Om → (Bool → D → W.Om → Prop) → Prop
abbrev DO (W : Ext) := DSt → W.Om → (D → W.Om → Prop) → Prop
abbrev DTs_ (W : Ext) := DSt → W.Om → (Bool → W.Om → Prop) → Prop
abbrev DA (W : Ext) := DSt → W.Om → (List D → W.Om → Prop) → Prop
def liftX (z : Ent) (t : DX z.W) : TE := fun σ H Q => ∃ δ w F He P, Rel z δ w F He σ H ∧ t δ w P ∧ ∀ b d w', P b d w' → ∀ v H' F' He', Wd z.W z.K w' F' He' H' → Step F He H F' He' H' → Res z.K F' He' H H' b v d → Q v H'
def liftO (z : Ent) (t : DO z.W) : TE := fun σ H Q => ∃ δ w F He P, Rel z δ w F He σ H ∧ t δ w P ∧ ∀ d w', P d w' → ∀ v H' F' He', Wd z.W z.K w' F' He' H' → Step F He H F' He' H' → DT z.K F' He' H' v d → Q v H'
def liftT (z : Ent) (t : DTs_ z.W) : TT := fun σ H Q => ∃ δ w F He P, Rel z δ w F He σ H ∧ t δ w P ∧ ∀ k w', P k w' → ∀ H' F' He', Wd z.W z.K w' F' He' H' → Step F He H F' He' H' → Q k H'
def liftA (z : Ent) (t : DA z.W) : TA := fun σ H Q => ∃ δ w F He P, Rel z δ w F He σ H ∧ t δ w P ∧ ∀ ds w', P ds w' → ∀ vs H' F' He', Wd z.W z.K w' F' He' H' → Step F He H F' He' H' → DRs z.K F' vs ds → Q vs H'
/-- what is wanted behind a statement -/
structure DEnds (W : Ext) where
  nx : DSt → W.Om → Prop
  rt : Bool → D → W.Om → Prop
  bk : DSt → W.Om → Prop := fun _ _ => False
  ct : DSt → W.Om → Prop := fun _ _ => False
abbrev DS (W : Ext) := DEnds W → DSt → W.Om → Prop
structure Conn (z : Ent) (F₀ : Hp) (E : DEnds z.W) (D : Ends) : Prop where
  nx : ∀ δ w F He σ H, E.nx δ w → Rel z δ w F He σ H → Same F₀ F → D.nx σ H
  rt : ∀ b d w, E.rt b d w → ∀ v H F He, Wd z.W z.K w F He H → Step z.F0 z.He0 z.H0 F He H → Res z.K F He z.H0 H b v d → D.rt v H
  bk : ∀ δ w F He σ H, E.bk δ w → Rel z δ w F He σ H → Same F₀ F → D.bk σ H
  ct : ∀ δ w F He σ H, E.ct δ w → Rel z δ w F He σ H → Same F₀ F → D.ct σ H
theorem Conn.mono {z : Ent} {F F' : Hp} {E : DEnds z.W} {D : Ends} (c : Conn z F E D) (s : Same F F') : Conn z F' E D :=
  ⟨fun δ w G He σ H q R s' => c.nx δ w G He σ H q R (s.trans s'), c.rt, fun δ w G He σ H q R s' => c.bk δ w G He σ H q R (s.trans s'), fun δ w G He σ H q R s' => c.ct δ w G He σ H q R (s.trans s')⟩
def liftS (z : Ent) (t : DS z.W) : TS := fun D σ H => ∃ δ w F He E, Rel z δ w F He σ H ∧ t E δ w ∧ Conn z F E D

theorem PE.imp {X : Cx} {e : Expr} {t t' : TE} (h : PE X e t) (f : ∀ σ H Q, t' σ H Q → t σ H Q) : PE X e t' := ⟨fun pins s σ H Q I q => h.run pins s σ H Q I (f σ H Q q)⟩
theorem PT.imp {X : Cx} {e : Expr} {t t' : TT} (h : PT X e t) (f : ∀ σ H Q, t' σ H Q → t σ H Q) : PT X e t' := ⟨fun pins s σ H Q I q => h.run pins s σ H Q I (f σ H Q q)⟩
theorem PW.imp {X : Cx} {e : Expr} {t t' : TT} (h : PW X e t) (f : ∀ σ H Q, t' σ H Q → t σ H Q) : PW X e t' := ⟨fun w pins s σ H Q I q => h.run w pins s σ H Q I (f σ H Q q)⟩
theorem PA.imp {X : Cx} {es : List Expr} {t t' : TA} (h : PA X es t) (f : ∀ σ H Q, t' σ H Q → t σ H Q) : PA X es t' := ⟨fun p pins s σ H Q I q => h.run p pins s σ H Q I (f σ H Q q)⟩
theorem PS.imp {X : Cx} {st : Stmt} {t t' : TS} (h : PS X st t) (f : ∀ D σ H, t' D σ H → t D σ H) : PS X st t' := ⟨fun pins s σ H D I q => h.run pins s σ H D I (f D σ H q)⟩
theorem PSs.imp {X : Cx} {st : List Stmt} {t t' : TS} (h : PSs X st t) (f : ∀ D σ H, t' D σ H → t D σ H) : PSs X st t' := ⟨fun pins s σ H D I q => h.run pins s σ H D I (f D σ H q)⟩

section
variable {X : Cx} {z : Ent} {pos : Pos}
abbrev JX (X : Cx) (z : Ent) (e : Expr) (t : DX z.W) : Prop := PE X e (liftX z t)
abbrev JO (X : Cx) (z : Ent) (e : Expr) (t : DO z.W) : Prop := PE X e (liftO z t)
abbrev JT (X : Cx) (z : Ent) (e : Expr) (t : DTs_ z.W) : Prop := PT X e (liftT z t)
abbrev JA (X : Cx) (z : Ent) (es : List Expr) (t : DA z.W) : Prop := PA X es (liftA z t)
abbrev JS (X : Cx) (z : Ent) (st : Stmt) (t : DS z.W) : Prop := PS X st (liftS z t)
abbrev JSs (X : Cx) (z : Ent) (st : List Stmt) (t : DS z.W) : Prop := PSs X st (liftS z t)

/-! ### names and constants -/
def dVar {W : Ext} (i : Nat) : DX W := fun δ w Q => match δ[i]? with
  | some (some (false, d)) => Q false d w
  | _ => False
def dVarR {W : Ext} (i : Nat) : DO W := fun δ w Q => match δ[i]? with
  | some (some (_, d)) => Q d w
  | _ => False
def dC {W : Ext} (d : D) : DX W := fun _ w Q => Q false d w
def oX {W : Ext} (t : DX W) : DO W := fun δ w Q => t δ w fun _ d w' => Q d w'
theorem jx_var {i : Nat} {e : Expr} (h : PE X e (tVar i)) : JX X z e (dVar i) := PE.imp h fun σ H Q ⟨δ, w, F, He, P, R, q, k⟩ => by
  unfold dVar at q
  split at q
  · next d e =>
    obtain ⟨v, hv, x, rfl, r⟩ := R.sl i _ e
    exact ⟨x, hv, k _ _ _ q x H F He R.wd .refl r⟩
  · exact q.elim
theorem jo_var {i : Nat} {e : Expr} (h : PE X e (tVar i)) : JO X z e (dVarR i) := PE.imp h fun σ H Q ⟨δ, w, F, He, P, R, q, k⟩ => by
  unfold dVarR at q
  split at q
  · next b d e =>
    obtain ⟨v, hv, r⟩ := R.sl i _ e
    cases b with
    | false =>
      obtain ⟨x, rfl, r⟩ := r
      exact ⟨x, hv, k _ _ q x H F He R.wd .refl (.inl r)⟩
    | true =>
      obtain ⟨a, o, rfl, ho, n, m, f, r⟩ := r
      exact ⟨.ref a, hv, k _ _ q _ H F He R.wd .refl (.inr ⟨a, o, rfl, ho, m, r⟩)⟩
  · exact q.elim
theorem jo_of {e : Expr} {t : DX z.W} (h : JX X z e t) : JO X z e (oX t) := PE.imp h fun σ H Q ⟨δ, w, F, He, P, R, q, k⟩ =>
  ⟨δ, w, F, He, _, R, q, fun b d w' p v H' F' He' wd st r => k d w' p v H' F' He' wd st r.dt⟩
theorem jx_c {e : Expr} {v : V} {d : D} (h : PE X e (tC v)) (r : ∀ F, DR z.K F v d) : JX X z e (dC d) := PE.imp h fun σ H Q ⟨δ, w, F, He, P, R, q, k⟩ => k _ _ _ q v H F He R.wd .refl (r F)
theorem jx_int {i : Int} {j : Nat} : JX X z (.Constant (.int i) j pos) (dC (.int i)) := jx_c pe_int fun _ => .int i
theorem jx_bl {b : Bool} {j : Nat} : JX X z (.Constant (.bool b) j pos) (dC (.bl b)) := jx_c pe_bl fun _ => .bl b
theorem jx_non {j : Nat} : JX X z (.Constant .none j pos) (dC .non) := jx_c pe_non fun _ => .non
theorem jx_str {x : Str} {j : Nat} : JX X z (.Constant (.str x) j pos) (dC (.str x)) := jx_c pe_str fun _ => .str x

/-! ### operations of two operands -/
/-- sem: what comes, by the data; the ties of a value's rule -/
def Sem2 (z : Ent) (r : R2) (sem : D → D → (Bool → D → Prop) → Prop) : Prop := ∀ (w : z.W.Om) (F He H : Hp) (x y : V) (d e : D) (P : Bool → D → Prop) (Q : VK), Wd z.W z.K w F He H → DT z.K F He H x d → DT z.K F He H y e → sem d e P →
  (∀ b d', P b d' → ∀ v H' F' He', Wd z.W z.K w F' He' H' → Step F He H F' He' H' → Res z.K F' He' H H' b v d' → Q v H') → r x y H Q
def dBin {W : Ext} (sem : D → D → (Bool → D → Prop) → Prop) (ta tb : DO W) : DX W := fun δ w Q => ta δ w fun d w1 => tb δ w1 fun e w2 => sem d e fun b d' => Q b d' w2
theorem bin2 {r : R2} {sem : D → D → (Bool → D → Prop) → Prop} (hs : Sem2 z r sem) {ta tb : DO z.W} {σ : St} {H : Hp} {Q : VK} (h : liftX z (dBin sem ta tb) σ H Q) : tOp r (liftO z ta) (liftO z tb) σ H Q := by
  obtain ⟨δ, w, F, He, P, R, q, k⟩ := h
  refine ⟨δ, w, F, He, _, R, q, fun d w1 q1 x H1 F1 He1 wd1 st1 r1 => ?_⟩
  refine ⟨δ, w1, F1, He1, _, R.step wd1 st1, q1, fun e w2 q2 y H2 F2 He2 wd2 st2 r2 => ?_⟩
  exact hs w2 F2 He2 H2 x y d e _ Q wd2 (r1.step st2) r2 q2 fun b d' p v H' F' He' wd st rr => k b d' w2 p v H' F' He' wd ((st1.trans st2).trans st) (rr.base (st1.trans st2))
theorem jx_op {op : Operator} {r : R2} {sem : D → D → (Bool → D → Prop) → Prop} {a b : Expr} {ta tb : DO z.W} (ho : OpR X (binaryOp op) r) (hs : Sem2 z r sem) (ha : JO X z a ta) (hb : JO X z b tb) : JX X z (.BinOp a op b pos) (dBin sem ta tb) :=
  PE.imp (pe_op ho ha hb) fun _ _ _ h => bin2 hs h
theorem jx_cmp {op : CmpOp} {r : R2} {sem : D → D → (Bool → D → Prop) → Prop} {a b : Expr} {ta tb : DO z.W} (ho : OpR X (compareOp op) r) (hs : Sem2 z r sem) (ha : JO X z a ta) (hb : JO X z b tb) (hm : behindInMarks op b = false) : JX X z (.Compare a [op] [b] pos) (dBin sem ta tb) :=
  PE.imp (pe_cmpR ho ha hb hm) fun _ _ _ h => bin2 hs h
/-- the truth of a comparison -/
def dB {W : Ext} (t : DX W) : DTs_ W := fun δ w Q => t δ w fun _ d w' => match d with
  | .bl k => Q k w'
  | _ => False
theorem jt_cmp {op : CmpOp} {r : R2} {sem : D → D → (Bool → D → Prop) → Prop} {a b : Expr} {ta tb : DO z.W} (ho : OpR X (compareOp op) r) (hs : Sem2 z r sem) (ha : JO X z a ta) (hb : JO X z b tb) (hm : behindInMarks op b = false) : JT X z (.Compare a [op] [b] pos) (dB (dBin sem ta tb)) :=
  PT.imp (pt_cmpR ho ha hb hm) fun σ H Q ⟨δ, w, F, He, P, R, q, k⟩ => by
    refine bin2 hs ⟨δ, w, F, He, _, R, q, fun b d w' p v H' F' He' wd st r => ?_⟩
    cases d with
    | bl c =>
      have e := r.dt.bl
      subst e
      exact ⟨c, rfl, k c w' p H' F' He' wd st⟩
    | _ => exact p.elim
/-- a new object as a result -/
theorem res_new {w : z.W.Om} {F He H : Hp} {p : Addr} {o : HO} {d : D} {P : Bool → D → Prop} {Q : VK} (wd : Wd z.W z.K w F He H) (hp : H p = none) (r : OR z.K F o d) (q : P true d)
    (k : ∀ b d', P b d' → ∀ v H' F' He', Wd z.W z.K w F' He' H' → Step F He H F' He' H' → Res z.K F' He' H H' b v d' → Q v H') : Q (.ref p) (upd H p o) :=
  k true d q _ _ F He (wd.alloc hp) (.alloc hp) ⟨p, o, rfl, upd_same, wd.fnone hp, wd.henone hp, hp, r⟩
/-- a new tuple -/
theorem res_tup {w : z.W.Om} {F He H : Hp} {p : Addr} {vs : List V} {ds : List D} {P : Bool → D → Prop} {Q : VK} (wd : Wd z.W z.K w F He H) (hp : H p = none) (r : DRs z.K F vs ds) (q : P false (.tup ds))
    (k : ∀ b d', P b d' → ∀ v H' F' He', Wd z.W z.K w F' He' H' → Step F He H F' He' H' → Res z.K F' He' H H' b v d' → Q v H') : Q (.ref p) (upd H p (.tup vs)) :=
  k false _ q _ _ (upd F p (.tup vs)) He ((wd.alloc hp).freeze upd_same (wd.fnone hp) (wd.henone hp)) ((Step.alloc hp).freeze (wd.fnone hp) hp)
    (.tup upd_same (r.mono (same_upd (wd.fnone hp))))
theorem res_at {w : z.W.Om} {F He H : Hp} {v : V} {d : D} {P : Bool → D → Prop} {Q : VK} (wd : Wd z.W z.K w F He H) (r : DR z.K F v d) (q : P false d)
    (k : ∀ b d', P b d' → ∀ v H' F' He', Wd z.W z.K w F' He' H' → Step F He H F' He' H' → Res z.K F' He' H H' b v d' → Q v H') : Q v H :=
  k false d q _ _ F He wd .refl r

def sAdd (d e : D) (P : Bool → D → Prop) : Prop := match d, e with
  | .int i, .int j => P false (.int (i + j))
  | .str x, .str y => x.length + y.length ≤ sizeLine ∧ P false (.str (x ++ y))
  | .lst xs, .lst ys => xs.length + ys.length ≤ sizeLine ∧ P true (.lst (xs ++ ys))
  | .tup xs, .tup ys => xs.length + ys.length ≤ sizeLine ∧ P false (.tup (xs ++ ys))
  | _, _ => False
def rAddD (K : PySem.W.Frag) : R2 := fun x y H Q => (∃ i j, x = .int i ∧ y = .int j ∧ Q (.int (i + j)) H) ∨ (∃ i j, x = .str i ∧ y = .str j ∧ i.length + j.length ≤ sizeLine ∧ Q (.str (i ++ j)) H) ∨ rCat x y H Q ∨ rCatA K x y H Q
theorem op_addD : OpR X (binaryOp .Add) (rAddD X.K) := op_add.or (op_add_str.or (op_cat.or op_catA))
end
end Lv

namespace Lv
open PySem PySem.Spec L2

/-! ### dicts over data -/
section
variable {κ : Type} [DecidableEq κ]
def valD (kvs : List (κ × D)) (k : κ) : Option D := (kvs.find? fun kv => decide (kv.1 = k)).map (·.2)
def putD (kvs : List (κ × D)) (k : κ) (v : D) : List (κ × D) :=
  if kvs.any fun kv => decide (kv.1 = k) then kvs.map fun kv => if kv.1 = k then (kv.1, v) else kv else kvs ++ [(k, v)]
def dropD (kvs : List (κ × D)) (k : κ) : List (κ × D) := kvs.filter fun kv => decide (kv.1 ≠ k)
end
def kD : Key → D
  | .inl i => .int i
  | .inr x => .str x
section
variable {K : PySem.W.Frag} {F : Hp}
theorem DKs.val {k : Key} : ∀ {vs : List (Key × V)} {ds : List (Key × D)}, DKs K F vs ds → (valV vs k = none ∧ valD ds k = none) ∨ ∃ v d, valV vs k = some v ∧ valD ds k = some d ∧ DR K F v d
  | _, _, .nil => .inl ⟨rfl, rfl⟩
  | _, _, .cons (k := j) (v := v) (d := d) h hs => by
    by_cases e : j = k
    · exact .inr ⟨v, d, by simp [valV, List.find?_cons, e], by simp [valD, List.find?_cons, e], h⟩
    · have := DKs.val (k := k) hs
      simpa [valV, valD, List.find?_cons, e] using this
theorem DTs.val {k : List Key} : ∀ {vs : List (List Key × V)} {ds : List (List Key × D)}, DTs K F vs ds → (valV vs k = none ∧ valD ds k = none) ∨ ∃ v d, valV vs k = some v ∧ valD ds k = some d ∧ DR K F v d
  | _, _, .nil => .inl ⟨rfl, rfl⟩
  | _, _, .cons (k := j) (v := v) (d := d) h hs => by
    by_cases e : j = k
    · exact .inr ⟨v, d, by simp [valV, List.find?_cons, e], by simp [valD, List.find?_cons, e], h⟩
    · have := DTs.val (k := k) hs
      simpa [valV, valD, List.find?_cons, e] using this
theorem DKs.app : ∀ {vs ws : List (Key × V)} {ds es : List (Key × D)}, DKs K F vs ds → DKs K F ws es → DKs K F (vs ++ ws) (ds ++ es)
  | _, _, _, _, .nil, s => s
  | _, _, _, _, .cons r t, s => .cons r (DKs.app t s)
theorem DTs.app : ∀ {vs ws : List (List Key × V)} {ds es : List (List Key × D)}, DTs K F vs ds → DTs K F ws es → DTs K F (vs ++ ws) (ds ++ es)
  | _, _, _, _, .nil, s => s
  | _, _, _, _, .cons r t, s => .cons r (DTs.app t s)
theorem DKs.any {k : Key} : ∀ {vs : List (Key × V)} {ds : List (Key × D)}, DKs K F vs ds → (vs.any fun kv => decide (kv.1 = k)) = ds.any fun kv => decide (kv.1 = k)
  | _, _, .nil => rfl
  | _, _, .cons r t => by simp [DKs.any t]
theorem DTs.any {k : List Key} : ∀ {vs : List (List Key × V)} {ds : List (List Key × D)}, DTs K F vs ds → (vs.any fun kv => decide (kv.1 = k)) = ds.any fun kv => decide (kv.1 = k)
  | _, _, .nil => rfl
  | _, _, .cons r t => by simp [DTs.any t]
theorem DKs.repl {k : Key} {x : V} {y : D} (r : DR K F x y) : ∀ {vs : List (Key × V)} {ds : List (Key × D)}, DKs K F vs ds → DKs K F (vs.map fun kv => if kv.1 = k then (kv.1, x) else kv) (ds.map fun kv => if kv.1 = k then (kv.1, y) else kv)
  | _, _, .nil => .nil
  | _, _, .cons (k := j) h t => by
    rw [List.map_cons, List.map_cons]
    by_cases e : j = k
    · simp only [e, if_true]; exact .cons r (DKs.repl r t)
    · simp only [e, if_false]; exact .cons h (DKs.repl r t)
theorem DTs.repl {k : List Key} {x : V} {y : D} (r : DR K F x y) : ∀ {vs : List (List Key × V)} {ds : List (List Key × D)}, DTs K F vs ds → DTs K F (vs.map fun kv => if kv.1 = k then (kv.1, x) else kv) (ds.map fun kv => if kv.1 = k then (kv.1, y) else kv)
  | _, _, .nil => .nil
  | _, _, .cons (k := j) h t => by
    rw [List.map_cons, List.map_cons]
    by_cases e : j = k
    · simp only [e, if_true]; exact .cons r (DTs.repl r t)
    · simp only [e, if_false]; exact .cons h (DTs.repl r t)
theorem DKs.put {k : Key} {x : V} {y : D} (r : DR K F x y) {vs : List (Key × V)} {ds : List (Key × D)} (h : DKs K F vs ds) : DKs K F (putK vs k x) (putD ds k y) := by
  unfold putK putD
  rw [h.any]
  split
  · exact h.repl r
  · exact h.app (.cons r .nil)
theorem DTs.put {k : List Key} {x : V} {y : D} (r : DR K F x y) {vs : List (List Key × V)} {ds : List (List Key × D)} (h : DTs K F vs ds) : DTs K F (putK vs k x) (putD ds k y) := by
  unfold putK putD
  rw [h.any]
  split
  · exact h.repl r
  · exact h.app (.cons r .nil)
theorem DKs.drop {k : Key} : ∀ {vs : List (Key × V)} {ds : List (Key × D)}, DKs K F vs ds → DKs K F (dropK vs k) (dropD ds k)
  | _, _, .nil => .nil
  | _, _, .cons (k := j) h t => by
    have ih := DKs.drop (k := k) t
    unfold dropK dropD at ih ⊢
    by_cases e : j = k
    · simpa [List.filter_cons, e] using ih
    · simpa [List.filter_cons, e] using DKs.cons h ih
theorem DR.key {v : V} {k : Key} (h : DR K F v (kD k)) : v = kV k := by
  cases k with
  | inl i => cases h; rfl
  | inr x => cases h; rfl
theorem DRs.keys : ∀ {ks : List Key} {vs : List V}, DRs K F vs (ks.map kD) → vs = ks.map kV
  | [], _, h => by cases h; rfl
  | k :: ks, _, h => by
    cases h with
    | cons h hs => rw [List.map_cons, h.key, DRs.keys hs]
theorem DRs.ofKeys : ∀ (ks : List Key), DRs K F (ks.map kV) (ks.map kD)
  | [] => .nil
  | .inl i :: ks => .cons (.int i) (DRs.ofKeys ks)
  | .inr x :: ks => .cons (.str x) (DRs.ofKeys ks)
end

/-! ### == over data -/
mutual
def D.py : D → PyData
  | .non => .none | .bl b => .bool b | .int i => .int i | .str x => .str x
  | .lst ds => .list (pyAll ds) | .tup ds => .tuple (pyAll ds)
  | .ref _ => .none | .ty _ => .none | .dK _ => .none | .dT _ => .none | .scr ns => .list (ns.map .int)
def pyAll : List D → List PyData
  | [] => []
  | d :: ds => d.py :: pyAll ds
end
mutual
/-- none of the things that == is not told of here -/
def D.pl : D → Bool
  | .non => true | .bl _ => true | .int _ => true | .str _ => true
  | .lst ds => plAll ds | .tup ds => plAll ds
  | .ref _ => false | .ty _ => false | .dK _ => false | .dT _ => false | .scr _ => true
def plAll : List D → Bool
  | [] => true
  | d :: ds => d.pl && plAll ds
end
section
variable {K : PySem.W.Frag} {F : Hp}
theorem dpInts (H : Hp) : ∀ ns : List Int, DpAll K H (ns.map V.int) (ns.map PyData.int)
  | [] => .nil
  | n :: ns => .cons (.int n) (dpInts H ns)
mutual
theorem DR.dp (F : Hp) : ∀ {v : V} {d : D}, DR K F v d → d.pl = true → Dp K F v d.py
  | _, _, .non, _ => by rw [D.py]; exact .non
  | _, _, .bl b, _ => by rw [D.py]; exact .bl b
  | _, _, .int i, _ => by rw [D.py]; exact .int i
  | _, _, .str x, _ => by rw [D.py]; exact .str x
  | _, _, .ref a, h => by simp [D.pl] at h
  | _, _, .ty n, h => by simp [D.pl] at h
  | _, _, .lst e hs, h => by rw [D.py]; exact .lst (.of e) (DRs.dp F hs (by simpa [D.pl] using h))
  | _, _, .tup e hs, h => by rw [D.py]; exact .tup (.of e) (DRs.dp F hs (by simpa [D.pl] using h))
  | _, _, .dK _ _, h => by simp [D.pl] at h
  | _, _, .dT _ _, h => by simp [D.pl] at h
  | _, _, .scr e, h => by rw [D.py]; exact .lst e (dpInts F _)
theorem DRs.dp (F : Hp) : ∀ {vs : List V} {ds : List D}, DRs K F vs ds → plAll ds = true → DpAll K F vs (pyAll ds)
  | _, _, .nil, _ => by rw [pyAll]; exact .nil
  | _, _, .cons (d := d) (ds := ds) h hs, p => by
    have p' : d.pl = true ∧ plAll ds = true := by simpa [plAll] using p
    rw [pyAll]
    exact .cons (DR.dp F h p'.1) (DRs.dp F hs p'.2)
end
theorem DT.dp {He H : Hp} {v : V} {d : D} (h : DT K F He H v d) (s : Same F H) (p : d.pl = true) : Dp K H v d.py := by
  rcases h with h | ⟨a, o, rfl, ho, m, q⟩
  · exact DR.dp H (h.mono s) p
  · cases q with
    | lst hs => rw [D.py]; exact .lst (.of ho) (DRs.dp H (hs.mono s) (by simpa [D.pl] using p))
    | dK _ => simp [D.pl] at p
    | dT _ => simp [D.pl] at p
end
mutual
theorem plain_py : ∀ d : D, d.py.plain = true
  | .non => by simp [D.py, PyData.plain]
  | .bl _ => by simp [D.py, PyData.plain]
  | .int _ => by simp [D.py, PyData.plain]
  | .str _ => by simp [D.py, PyData.plain]
  | .lst ds => by simp [D.py, PyData.plain, plain_pyAll ds]
  | .tup ds => by simp [D.py, PyData.plain, plain_pyAll ds]
  | .ref _ => by simp [D.py, PyData.plain]
  | .ty _ => by simp [D.py, PyData.plain]
  | .dK _ => by simp [D.py, PyData.plain]
  | .dT _ => by simp [D.py, PyData.plain]
  | .scr ns => by
    simp only [D.py, PyData.plain]
    induction ns with
    | nil => rfl
    | cons n ns ih => simp [PyData.plainAll, PyData.plain, ih]
theorem plain_pyAll : ∀ ds : List D, PyData.plainAll (pyAll ds) = true
  | [] => rfl
  | d :: ds => by simp [pyAll, PyData.plainAll, plain_py d, plain_pyAll ds]
end
/-- d == e -/
def D.eqv (d e : D) : Bool := PyData.eqv d.py e.py
def sEq (d e : D) (P : Bool → D → Prop) : Prop := (d.pl = true ∧ e.pl = true) ∧ (d.py.depth ≤ 64 ∨ e.py.depth ≤ 64) ∧ P false (.bl (d.eqv e))
def sNe (d e : D) (P : Bool → D → Prop) : Prop := (d.pl = true ∧ e.pl = true) ∧ (d.py.depth ≤ 64 ∨ e.py.depth ≤ 64) ∧ P false (.bl (!d.eqv e))
def rEqP (K : PySem.W.Frag) : R2 := fun x y H Q => ∃ d e, Dp K H x d ∧ Dp K H y e ∧ d.plain = true ∧ e.plain = true ∧ (d.depth ≤ 64 ∨ e.depth ≤ 64) ∧ Q (.bl (PyData.eqv d e)) H
def rNeP (K : PySem.W.Frag) : R2 := fun x y H Q => ∃ d e, Dp K H x d ∧ Dp K H y e ∧ d.plain = true ∧ e.plain = true ∧ (d.depth ≤ 64 ∨ e.depth ≤ 64) ∧ Q (.bl (!PyData.eqv d e)) H
theorem wp_eqPlain {prog : Program} {w : World} {A : Around} {E : Value → Shared → Prop} {s : Shared} {a b : Value} {da db : PyData} {as bs : List Addr} {Q : Value → Shared → Prop} (ra : Reads s.heap a da as) (rb : Reads s.heap b db bs) (ha : da.plain = true) (hb : db.plain = true)
    (hu : A.units + 64 < cLine) (hd : da.depth ≤ 64 ∨ db.depth ≤ 64) (h : Q (.bool (PyData.eqv da db)) s) : wpAny (model prog w) A (compareOp .Eq a b) Q E s := by
  have hm : A.units + min da.depth db.depth < cLine := by
    have h1 : min da.depth db.depth ≤ da.depth := Nat.min_le_left _ _
    have h2 : min da.depth db.depth ≤ db.depth := Nat.min_le_right _ _
    rcases hd with h | h <;> omega
  exact SeqAt.eq_plain ra rb ha hb hm h
theorem wp_nePlain {prog : Program} {w : World} {A : Around} {E : Value → Shared → Prop} {s : Shared} {a b : Value} {da db : PyData} {as bs : List Addr} {Q : Value → Shared → Prop} (ra : Reads s.heap a da as) (rb : Reads s.heap b db bs) (ha : da.plain = true) (hb : db.plain = true)
    (hu : A.units + 64 < cLine) (hd : da.depth ≤ 64 ∨ db.depth ≤ 64) (h : Q (.bool (!PyData.eqv da db)) s) : wpAny (model prog w) A (compareOp .NotEq a b) Q E s := by
  have hm : A.units + min da.depth db.depth < cLine := by
    have h1 : min da.depth db.depth ≤ da.depth := Nat.min_le_left _ _
    have h2 : min da.depth db.depth ≤ db.depth := Nat.min_le_right _ _
    rcases hd with h | h <;> omega
  exact SeqAt.ne_plain ra rb ha hb hm h
section
variable {X : Cx} {z : Ent} {pos : Pos}
theorem op_eqP (hu : X.A.units + 64 < cLine) : OpR X (compareOp .Eq) (rEqP X.K) := by
  intro pins s σ H x y v u Q I rx ry h
  obtain ⟨d, e, hd, he, sd, se, hh, q⟩ := h
  obtain ⟨as, r1⟩ := Dp.reads I d x v hd rx
  obtain ⟨bs, r2⟩ := Dp.reads I e y u he ry
  exact wp_eqPlain r1 r2 sd se hu hh ⟨.bl _, H, I, rfl, q⟩
theorem op_neP (hu : X.A.units + 64 < cLine) : OpR X (compareOp .NotEq) (rNeP X.K) := by
  intro pins s σ H x y v u Q I rx ry h
  obtain ⟨d, e, hd, he, sd, se, hh, q⟩ := h
  obtain ⟨as, r1⟩ := Dp.reads I d x v hd rx
  obtain ⟨bs, r2⟩ := Dp.reads I e y u he ry
  exact wp_nePlain r1 r2 sd se hu hh ⟨.bl _, H, I, rfl, q⟩
theorem sem_eq : Sem2 z (rEqP z.K) sEq := fun w F He H x y d e P Q wd dx dy ⟨⟨p1, p2⟩, p3, q⟩ k => ⟨d.py, e.py, dx.dp wd.sf p1, dy.dp wd.sf p2, plain_py d, plain_py e, p3, k false _ q _ H F He wd .refl (.bl _)⟩
theorem sem_ne : Sem2 z (rNeP z.K) sNe := fun w F He H x y d e P Q wd dx dy ⟨⟨p1, p2⟩, p3, q⟩ k => ⟨d.py, e.py, dx.dp wd.sf p1, dy.dp wd.sf p2, plain_py d, plain_py e, p3, k false _ q _ H F He wd .refl (.bl _)⟩
end
end Lv

namespace Lv
open PySem PySem.Spec L2
section
variable {X : Cx} {z : Ent} {pos : Pos}

/-! ### arithmetic -/
theorem dt_int {K : PySem.W.Frag} {F He H : Hp} {v : V} {i : Int} (r : DT K F He H v (.int i)) : v = .int i := r.int
theorem sem_add : Sem2 z (rAddD z.K) sAdd := fun w F He H x y d e P Q wd dx dy q k => by
  unfold sAdd at q
  split at q
  · exact .inl ⟨_, _, dx.int, dy.int, k _ _ q _ H F He wd .refl (.int _)⟩
  · exact .inr (.inl ⟨_, _, dx.str, dy.str, q.1, k _ _ q.2 _ H F He wd .refl (.str _)⟩)
  · obtain ⟨a, vs, rfl, ha, ra⟩ := dx.lst wd.sf
    obtain ⟨b, us, rfl, hb, rb⟩ := dy.lst wd.sf
    refine .inr (.inr (.inl ⟨a, b, vs, us, rfl, rfl, ha, hb, by rw [ra.length, rb.length]; exact q.1, fun p hp => res_new wd hp (.lst (ra.append rb)) q.2 k⟩))
  · obtain ⟨a, vs, rfl, ha, ra⟩ := dx.tup wd.sf
    obtain ⟨b, us, rfl, hb, rb⟩ := dy.tup wd.sf
    refine .inr (.inr (.inr ⟨a, b, vs, us, rfl, rfl, .of ha, .of hb, by rw [ra.length, rb.length]; exact q.1, fun e => ?_, fun _ e => ?_, fun _ _ p hp => res_tup wd hp (ra.append rb) q.2 k⟩))
    · subst e
      cases ra
      have q2 := q.2
      rw [List.nil_append] at q2
      rcases dy with dy | ⟨a', o, e, ho, m, t⟩
      · exact res_at wd dy q2 k
      · cases t
    · subst e
      cases rb
      have q2 := q.2
      rw [List.append_nil] at q2
      rcases dx with dx | ⟨a', o, e, ho, m, t⟩
      · exact res_at wd dx q2 k
      · cases t
  · exact q.elim
def sI2 (C : Int → Int → Prop) (g : Int → Int → D) (d e : D) (P : Bool → D → Prop) : Prop := match d, e with
  | .int i, .int j => C i j ∧ P false (g i j)
  | _, _ => False
theorem sem_I {C C' : Int → Int → Prop} {g : Int → Int → V} {g' : Int → Int → D} (h : ∀ i j, C' i j → C i j) (hg : ∀ F i j, DR z.K F (g i j) (g' i j)) : Sem2 z (rI C g) (sI2 C' g') := fun w F He H x y d e P Q wd dx dy q k => by
  unfold sI2 at q
  split at q
  · exact ⟨_, _, dx.int, dy.int, h _ _ q.1, k _ _ q.2 _ H F He wd .refl (hg _ _ _)⟩
  · exact q.elim
def sJ2 (g : Int → Int → D) (d e : D) (P : Bool → D → Prop) : Prop := match d, e with
  | .int i, .int j => P false (g i j)
  | _, _ => False
theorem sem_J {g : Int → Int → V} {g' : Int → Int → D} (hg : ∀ F i j, DR z.K F (g i j) (g' i j)) : Sem2 z (rI0 g) (sJ2 g') := fun w F He H x y d e P Q wd dx dy q k => by
  unfold sJ2 at q
  split at q
  · exact ⟨_, _, dx.int, dy.int, k _ _ q _ H F He wd .refl (hg _ _ _)⟩
  · exact q.elim
abbrev sSub := sJ2 fun i j => .int (i - j)
theorem sem_sub : Sem2 z (rI0 fun i j => .int (i - j)) sSub := sem_J fun _ _ _ => .int _
abbrev sFdiv := sI2 CDivW fun i j => .int (i / j)
theorem sem_fdiv : Sem2 z (rI CDivW fun i j => .int (i / j)) sFdiv := sem_I (fun _ _ h => h) fun _ _ _ => .int _
abbrev sMod := sI2 (fun _ j => 0 < j) fun i j => .int (i % j)
theorem sem_mod : Sem2 z (rI (fun _ j => 0 < j) fun i j => .int (i % j)) sMod := sem_I (fun _ _ h => h) fun _ _ _ => .int _
abbrev sPow := sI2 CPow fun i j => .int (i ^ j.toNat)
theorem sem_pow : Sem2 z (rI CPow fun i j => .int (i ^ j.toNat)) sPow := sem_I (fun _ _ h => h) fun _ _ _ => .int _
abbrev sLt0 := sJ2 fun i j => .bl (decide (i < j))
abbrev sLe := sJ2 fun i j => .bl (decide (i ≤ j))
abbrev sGt := sJ2 fun i j => .bl (decide (j < i))
abbrev sGe := sJ2 fun i j => .bl (decide (j ≤ i))
theorem sem_le : Sem2 z (rI0 fun i j => .bl (decide (i ≤ j))) sLe := sem_J fun _ _ _ => .bl _
theorem sem_gt : Sem2 z (rI0 fun i j => .bl (decide (j < i))) sGt := sem_J fun _ _ _ => .bl _
theorem sem_ge : Sem2 z (rI0 fun i j => .bl (decide (j ≤ i))) sGe := sem_J fun _ _ _ => .bl _
/-- < of numbers, of tuples of numbers -/
def toInts : List D → Option (List Int)
  | [] => some []
  | .int i :: ds => (toInts ds).map (i :: ·)
  | _ :: _ => none
theorem toInts_eq : ∀ {ds : List D} {ns : List Int}, toInts ds = some ns → ds = ns.map D.int
  | [], ns, h => by simp [toInts] at h; subst h; rfl
  | .int i :: ds, ns, h => by
    simp only [toInts, Option.map_eq_some_iff] at h
    obtain ⟨ms, h1, rfl⟩ := h
    rw [toInts_eq h1]; rfl
  | .non :: _, _, h => by simp [toInts] at h
  | .bl _ :: _, _, h => by simp [toInts] at h
  | .str _ :: _, _, h => by simp [toInts] at h
  | .ref _ :: _, _, h => by simp [toInts] at h
  | .ty _ :: _, _, h => by simp [toInts] at h
  | .lst _ :: _, _, h => by simp [toInts] at h
  | .tup _ :: _, _, h => by simp [toInts] at h
  | .dK _ :: _, _, h => by simp [toInts] at h
  | .dT _ :: _, _, h => by simp [toInts] at h
  | .scr _ :: _, _, h => by simp [toInts] at h
theorem toInts_map : ∀ (ns : List Int), toInts (ns.map D.int) = some ns
  | [] => rfl
  | n :: ns => by simp [toInts, toInts_map ns]
def sLt (d e : D) (P : Bool → D → Prop) : Prop := match d, e with
  | .int i, .int j => P false (.bl (decide (i < j)))
  | .tup xs, .tup ys => ∃ ns ms, toInts xs = some ns ∧ toInts ys = some ms ∧ P false (.bl (HT.lexLt ns ms))
  | _, _ => False
def rLtD (K : PySem.W.Frag) : R2 := fun x y H Q => (∃ i j, x = .int i ∧ y = .int j ∧ Q (.bl (decide (i < j))) H) ∨ rLtT K x y H Q
theorem op_ltD (hu : X.A.units < cLine) : OpR X (compareOp .Lt) (rLtD X.K) := op_lt.or (op_ltT hu)
theorem sem_lt : Sem2 z (rLtD z.K) sLt := fun w F He H x y d e P Q wd dx dy q k => by
  unfold sLt at q
  split at q
  · exact .inl ⟨_, _, dx.int, dy.int, k _ _ q _ H F He wd .refl (.bl _)⟩
  · obtain ⟨ns, ms, h1, h2, q⟩ := q
    have e1 := toInts_eq h1
    have e2 := toInts_eq h2
    subst e1 e2
    obtain ⟨a, vs, rfl, ha, ra⟩ := dx.tup wd.sf
    obtain ⟨b, us, rfl, hb, rb⟩ := dy.tup wd.sf
    have := ra.ints
    have := rb.ints
    subst vs us
    exact .inr ⟨a, b, ns, ms, rfl, rfl, .of ha, .of hb, k _ _ q _ H F He wd .refl (.bl _)⟩
  · exact q.elim
/-- a * b: numbers; a list so many times -/
def MulC (i j : Int) : Prop := CMul i j ∨ CMulW i j
theorem op_mulD : OpR X (binaryOp .Mult) (rI MulC fun i j => .int (i * j)) := opI fun _ _ _ _ _ _ _ hc q => PyProof.Rows.mul_int q (hc.elim CMul.ok CMulW.ok)
def sMul (d e : D) (P : Bool → D → Prop) : Prop := match d, e with
  | .int i, .int j => MulC i j ∧ P false (.int (i * j))
  | .lst xs, .int k => (-(2 ^ 63) ≤ k ∧ k < 2 ^ 63) ∧ xs.length * k.toNat ≤ sizeLine ∧ P true (.lst (List.replicate k.toNat xs).flatten)
  | _, _ => False
def rMulD : R2 := fun x y H Q => rI MulC (fun i j => .int (i * j)) x y H Q ∨ rRep x y H Q
theorem op_mulA : OpR X (binaryOp .Mult) rMulD := op_mulD.or op_rep
theorem sem_mul : Sem2 z rMulD sMul := fun w F He H x y d e P Q wd dx dy q k => by
  unfold sMul at q
  split at q
  · exact .inl ⟨_, _, dx.int, dy.int, q.1, k _ _ q.2 _ H F He wd .refl (.int _)⟩
  · obtain ⟨a, vs, rfl, ha, ra⟩ := dx.lst wd.sf
    exact .inr ⟨a, _, vs, rfl, dy.int, ha, q.1.1, q.1.2, by rw [ra.length]; exact q.2.1, fun p hp => res_new wd hp (.lst (ra.rep _)) q.2.2 k⟩
  · exact q.elim
end
section
variable {X : Cx} {z : Ent} {pos : Pos}
/-! ### operations of one operand -/
def Sem1 (z : Ent) (r : V → Hp → VK → Prop) (sem : D → (Bool → D → Prop) → Prop) : Prop := ∀ (w : z.W.Om) (F He H : Hp) (x : V) (d : D) (P : Bool → D → Prop) (Q : VK), Wd z.W z.K w F He H → DT z.K F He H x d → sem d P →
  (∀ b d', P b d' → ∀ v H' F' He', Wd z.W z.K w F' He' H' → Step F He H F' He' H' → Res z.K F' He' H H' b v d' → Q v H') → r x H Q
def dUn {W : Ext} (sem : D → (Bool → D → Prop) → Prop) (ta : DO W) : DX W := fun δ w Q => ta δ w fun d w1 => sem d fun b d' => Q b d' w1
theorem un1 {r : V → Hp → VK → Prop} {sem : D → (Bool → D → Prop) → Prop} (hs : Sem1 z r sem) {ta : DO z.W} {σ : St} {H : Hp} {Q : VK} (h : liftX z (dUn sem ta) σ H Q) : liftO z ta σ H (fun x H1 => r x H1 Q) := by
  obtain ⟨δ, w, F, He, P, R, q, k⟩ := h
  refine ⟨δ, w, F, He, _, R, q, fun d w1 q1 x H1 F1 He1 wd1 st1 r1 => ?_⟩
  exact hs w1 F1 He1 H1 x d _ Q wd1 r1 q1 fun b d' p v H' F' He' wd st rr => k b d' w1 p v H' F' He' wd (st1.trans st) (rr.base st1)
theorem jx_un {op : UnaryOp} {r : V → Hp → VK → Prop} {sem : D → (Bool → D → Prop) → Prop} {a : Expr} {ta : DO z.W} (ho : UnR X (unaryOp op) r) (hs : Sem1 z r sem) (ha : JO X z a ta) : JX X z (.UnaryOp op a pos) (dUn sem ta) :=
  PE.imp (pe_un ho ha) fun _ _ _ h => un1 hs h
def sNeg (d : D) (P : Bool → D → Prop) : Prop := match d with
  | .int i => P false (.int (-i))
  | _ => False
theorem sem_neg : Sem1 z (rU fun i => .int (-i)) sNeg := fun w F He H x d P Q wd dx q k => by
  unfold sNeg at q
  split at q
  · exact ⟨_, dx.int, k _ _ q _ H F He wd .refl (.int _)⟩
  · exact q.elim
/-- f(e) of a built-in -/
theorem jx_b1 {id : String} {r : List V → Hp → VK → Prop} {sem : D → (Bool → D → Prop) → Prop} {a : Expr} {ta : DO z.W} {x : Str} {p : Pos} (hc : CallR X (.builtin id) r) (hs : Sem1 z (fun x H Q => r [x] H Q) sem) (hg : Gl X x) (hm : X.mg x = none) (hv : bootBuiltins x = some (.builtin id)) (ha : JO X z a ta)
    (hn : x ≠ "__name__" := by decide) (hdb : (x == ("__debug__" : Str)) = false := by decide)
    (he : starEach [a] X.env = (false, eval a X.env) :: starEach [] X.env := by rfl) (hpl : (backTo pos (starEach [] X.env)).any (·.1) = false := by rfl) : JX X z (.Call (.Name x p) [a] [] pos) (dUn sem ta) :=
  PE.imp (pe_callB hc hg hm hv (pa_cons ha pa_nil he) hn hdb he hpl) fun _ _ _ h => un1 hs h
/-- T(e) of a built-in class -/
theorem jx_t1 {id : String} {r : List V → Hp → VK → Prop} {sem : D → (Bool → D → Prop) → Prop} {a : Expr} {ta : DO z.W} {x : Str} {p : Pos} (hc : CallR X (.type id) r) (hs : Sem1 z (fun x H Q => r [x] H Q) sem) (hg : Gl X x) (hm : X.mg x = none) (hv : bootBuiltins x = some (.type id)) (ha : JO X z a ta)
    (hn : x ≠ "__name__" := by decide) (hdb : (x == ("__debug__" : Str)) = false := by decide)
    (he : starEach [a] X.env = (false, eval a X.env) :: starEach [] X.env := by rfl) (hpl : (backTo pos (starEach [] X.env)).any (·.1) = false := by rfl) : JX X z (.Call (.Name x p) [a] [] pos) (dUn sem ta) :=
  PE.imp (pe_callTy hc hg hm hv (pa_cons ha pa_nil he) hn hdb he hpl) fun _ _ _ h => un1 hs h
/-- f(e, g) of a built-in -/
theorem jx_b2 {id : String} {r : List V → Hp → VK → Prop} {sem : D → D → (Bool → D → Prop) → Prop} {a b : Expr} {ta tb : DO z.W} {x : Str} {p : Pos} (hc : CallR X (.builtin id) r) (hs : Sem2 z (fun x y H Q => r [x, y] H Q) sem) (hg : Gl X x) (hm : X.mg x = none) (hv : bootBuiltins x = some (.builtin id)) (ha : JO X z a ta) (hb : JO X z b tb)
    (hn : x ≠ "__name__" := by decide) (hdb : (x == ("__debug__" : Str)) = false := by decide)
    (he : starEach [a, b] X.env = (false, eval a X.env) :: starEach [b] X.env := by rfl) (he2 : starEach [b] X.env = (false, eval b X.env) :: starEach [] X.env := by rfl) (hpl : (backTo pos (starEach [b] X.env)).any (·.1) = false := by rfl) : JX X z (.Call (.Name x p) [a, b] [] pos) (dBin sem ta tb) :=
  PE.imp (pe_callB hc hg hm hv (pa_cons ha (pa_cons hb pa_nil he2) he) hn hdb he hpl) fun _ _ _ h => bin2 hs h
def sLen (d : D) (P : Bool → D → Prop) : Prop := match d with
  | .lst ds => P false (.int ds.length)
  | .tup ds => P false (.int ds.length)
  | .scr ds => P false (.int ds.length)
  | .str x => x.length ≤ sizeLine ∧ P false (.int x.length)
  | .dK ds => P false (.int ds.length)
  | _ => False
def rLenD (K : PySem.W.Frag) : List V → Hp → VK → Prop := fun xs H Q => (∃ x n, xs = [x] ∧ LenV K x H n ∧ Q (.int n) H) ∨ ∃ a kvs, xs = [V.ref a] ∧ H a = some (.dK kvs) ∧ Q (.int kvs.length) H
theorem call_lenA : CallR X (.builtin "len") (rLenD X.K) := call_len.or call_lenD
theorem sem_len : Sem1 z (fun x H Q => rLenD z.K [x] H Q) sLen := fun w F He H x d P Q wd dx q k => by
  unfold sLen at q
  split at q
  · obtain ⟨a, vs, rfl, ha, ra⟩ := dx.lst wd.sf
    exact .inl ⟨_, _, rfl, .inl ⟨_, .of ha, rfl⟩, by rw [ra.length]; exact res_at wd (.int _) q k⟩
  · obtain ⟨a, vs, rfl, ha, ra⟩ := dx.tup wd.sf
    exact .inl ⟨_, _, rfl, .inr ⟨_, .of ha, rfl⟩, by rw [ra.length]; exact res_at wd (.int _) q k⟩
  · obtain ⟨a, rfl, ha⟩ := dx.scr wd.sf
    exact .inl ⟨_, _, rfl, .inl ⟨_, ha, rfl⟩, by rw [List.length_map]; exact res_at wd (.int _) q k⟩
  · have := dx.str
    subst x
    exact .inl ⟨_, _, rfl, ⟨q.1, rfl⟩, k _ _ q.2 _ H F He wd .refl (.int _)⟩
  · obtain ⟨a, vs, rfl, ha, ra⟩ := dx.dK wd.sf
    exact .inr ⟨a, vs, rfl, ha, by rw [ra.length]; exact res_at wd (.int _) q k⟩
  · exact q.elim
def sAbs (d : D) (P : Bool → D → Prop) : Prop := match d with
  | .int i => P false (.int (if i < 0 then -i else i))
  | _ => False
theorem sem_abs : Sem1 z (fun x H Q => ∃ i, [x] = [V.int i] ∧ Q (.int (if i < 0 then -i else i)) H) sAbs := fun w F He H x d P Q wd dx q k => by
  unfold sAbs at q
  split at q
  · have := dx.int
    subst x
    exact ⟨_, rfl, k _ _ q _ H F He wd .refl (.int _)⟩
  · exact q.elim
abbrev sMax := sJ2 fun i j => .int (if j > i then j else i)
abbrev sMin := sJ2 fun i j => .int (if j < i then j else i)
theorem sem_max : Sem2 z (fun x y H Q => ∃ i j, [x, y] = [V.int i, V.int j] ∧ Q (.int (if j > i then j else i)) H) sMax := fun w F He H x y d e P Q wd dx dy q k => by
  unfold sMax sJ2 at q
  split at q
  · have := dx.int
    have := dy.int
    subst x y
    exact ⟨_, _, rfl, k _ _ q _ H F He wd .refl (.int _)⟩
  · exact q.elim
theorem sem_min : Sem2 z (fun x y H Q => ∃ i j, [x, y] = [V.int i, V.int j] ∧ Q (.int (if j < i then j else i)) H) sMin := fun w F He H x y d e P Q wd dx dy q k => by
  unfold sMin sJ2 at q
  split at q
  · have := dx.int
    have := dy.int
    subst x y
    exact ⟨_, _, rfl, k _ _ q _ H F He wd .refl (.int _)⟩
  · exact q.elim
/-- int(n), int(flag) -/
def sInt (d : D) (P : Bool → D → Prop) : Prop := match d with
  | .int i => P false (.int i)
  | .bl k => P false (.int (if k then 1 else 0))
  | .str x => ∃ n, PySem.intText? x = some n ∧ x.length ≤ 640 ∧ P false (.int n)
  | _ => False
def rIntD : List V → Hp → VK → Prop := fun xs H Q => ((∃ i, xs = [.int i] ∧ Q (.int i) H) ∨ ∃ k, xs = [.bl k] ∧ Q (.int (if k then 1 else 0)) H) ∨ ∃ a n, xs = [.str a] ∧ PySem.intText? a = some n ∧ a.length ≤ 640 ∧ Q (.int n) H
theorem call_intD : CallR X (.type "int") rIntD := call_int1.or call_int_str
theorem sem_int : Sem1 z (fun x H Q => rIntD [x] H Q) sInt := fun w F He H x d P Q wd dx q k => by
  unfold sInt at q
  split at q
  · have := dx.int; subst x
    exact .inl (.inl ⟨_, rfl, k _ _ q _ H F He wd .refl (.int _)⟩)
  · have := dx.bl; subst x
    exact .inl (.inr ⟨_, rfl, k _ _ q _ H F He wd .refl (.int _)⟩)
  · have := dx.str; subst x
    obtain ⟨n, h1, h2, q⟩ := q
    exact .inr ⟨_, n, rfl, h1, h2, k _ _ q _ H F He wd .refl (.int _)⟩
  · exact q.elim
/-- str(n) -/
def sStr (d : D) (P : Bool → D → Prop) : Prop := match d with
  | .int i => i.natAbs.log2 < 1920 ∧ P false (.str (toString i))
  | _ => False
theorem sem_str : Sem1 z (fun x H Q => ∃ i, [x] = [V.int i] ∧ i.natAbs.log2 < 1920 ∧ Q (.str (toString i)) H) sStr := fun w F He H x d P Q wd dx q k => by
  unfold sStr at q
  split at q
  · have := dx.int; subst x
    exact ⟨_, rfl, q.1, k _ _ q.2 _ H F He wd .refl (.str _)⟩
  · exact q.elim
/-- list(x), tuple(x) -/
def sList (d : D) (P : Bool → D → Prop) : Prop := match d with
  | .lst ds => P true (.lst ds)
  | .tup ds => P true (.lst ds)
  | .scr ns => P true (.lst (ns.map .int))
  | _ => False
theorem sem_list : Sem1 z (fun x H Q => ∃ p ys, [x] = [V.ref p] ∧ (SqL z.K H p ys ∨ SqT z.K H p ys) ∧ ∀ l, H l = none → Q (.ref l) (upd H l (.lst ys))) sList := fun w F He H x d P Q wd dx q k => by
  unfold sList at q
  split at q
  · obtain ⟨a, vs, rfl, ha, ra⟩ := dx.lst wd.sf
    exact ⟨a, vs, rfl, .inl (.of ha), fun p hp => res_new wd hp (.lst ra) q k⟩
  · obtain ⟨a, vs, rfl, ha, ra⟩ := dx.tup wd.sf
    exact ⟨a, vs, rfl, .inr (.of ha), fun p hp => res_new wd hp (.lst ra) q k⟩
  · obtain ⟨a, rfl, ha⟩ := dx.scr wd.sf
    exact ⟨a, _, rfl, .inl ha, fun p hp => res_new wd hp (.lst (DRs.ofInts _)) q k⟩
  · exact q.elim
def sTuple (d : D) (P : Bool → D → Prop) : Prop := match d with
  | .lst ds => P false (.tup ds)
  | .tup ds => P false (.tup ds)
  | .scr ns => P false (.tup (ns.map .int))
  | _ => False
theorem sem_tuple : Sem1 z (fun x H Q => ∃ p ys, [x] = [V.ref p] ∧ ((SqL z.K H p ys ∧ ∀ l, H l = none → Q (.ref l) (upd H l (.tup ys))) ∨ (SqT z.K H p ys ∧ Q (.ref p) H))) sTuple := fun w F He H x d P Q wd dx q k => by
  unfold sTuple at q
  split at q
  · obtain ⟨a, vs, rfl, ha, ra⟩ := dx.lst wd.sf
    exact ⟨a, vs, rfl, .inl ⟨.of ha, fun p hp => res_tup wd hp ra q k⟩⟩
  · obtain ⟨a, vs, e, ha, ra⟩ := dx.tup wd.sf
    refine ⟨a, vs, by rw [e], .inr ⟨.of ha, ?_⟩⟩
    rcases dx with dx | ⟨a', o, _, _, _, t⟩
    · rw [← e]; exact res_at wd dx q k
    · cases t
  · obtain ⟨a, rfl, ha⟩ := dx.scr wd.sf
    exact ⟨a, _, rfl, .inl ⟨ha, fun p hp => res_tup wd hp (DRs.ofInts _) q k⟩⟩
  · exact q.elim
/-- isinstance(x, T) for a built-in T -/
def tyD : D → Option String
  | .non => some "NoneType" | .bl _ => some "bool" | .int _ => some "int" | .str _ => some "str" | .lst _ => some "list" | .tup _ => some "tuple" | .dK _ => some "dict" | .dT _ => some "dict"
  | _ => none
def sIsi (d e : D) (P : Bool → D → Prop) : Prop := match e with
  | .ty n => ∃ t b, tyD d = some t ∧ kitB t n = some b ∧ P false (.bl b)
  | _ => False
theorem DT.ty {K : PySem.W.Frag} {F He H : Hp} {v : V} {n : String} (r : DT K F He H v (.ty n)) : v = .ty n := by
  rcases r with r | ⟨a, o, e, ho, m, q⟩ <;> (first | (cases r; rfl) | cases q)
theorem tyx_of {K : PySem.W.Frag} {F He H : Hp} {v : V} {d : D} {t : String} (r : DT K F He H v d) (s : Same F H) (e : tyD d = some t) : TyX K H v (.type t) := by
  cases d with
  | non => cases r.non; cases e; exact .base .non
  | bl b => cases r.bl; cases e; exact .base (.bl b)
  | int i => cases r.int; cases e; exact .base (.int i)
  | str x => cases r.str; cases e; exact .base (.str x)
  | lst ds => obtain ⟨a, vs, rfl, ha, _⟩ := r.lst s; cases e; exact .base (.lst ha)
  | tup ds => obtain ⟨a, vs, rfl, ha, _⟩ := r.tup s; cases e; exact .base (.tup ha)
  | dK ds => obtain ⟨a, vs, rfl, ha, _⟩ := r.dK s; cases e; exact .base (.dK ha)
  | dT ds => obtain ⟨a, vs, rfl, ha, _⟩ := r.dT s; cases e; exact .base (.dT ha)
  | ref a => cases e
  | ty n => cases e
  | scr ns => cases e
theorem sem_isi : Sem2 z (fun x y H Q => rIsi z.K [x, y] H Q) sIsi := fun w F He H x y d e P Q wd dx dy q k => by
  unfold sIsi at q
  split at q
  · obtain ⟨t, b, h1, h2, q⟩ := q
    have := dy.ty; subst y
    exact ⟨x, _, _, _, b, rfl, .ty _, tyx_of dx wd.sf h1, kit_ty h2, k _ _ q _ H F He wd .refl (.bl _)⟩
  · exact q.elim
theorem jx_ty {x : Str} {n : String} (hg : Gl X x) (hm : X.mg x = none) (hv : bootBuiltins x = some (.type n)) (hn : x ≠ "__name__" := by decide) (hd : (x == ("__debug__" : Str)) = false := by decide) : JX X z (.Name x pos) (dC (.ty n)) :=
  jx_c (pe_bltn hg hm hv (show RelV (.ty n) (.type n) from rfl) hn hd) fun _ => .ty n
/-- a constant of the module -/
theorem jx_glob {x : Str} {v : V} {d : D} {u : Value} (hg : Gl X x) (hm : X.mg x = some u) (r : RelV v u) (rd : ∀ F, DR z.K F v d) (hd : (x == ("__debug__" : Str)) = false := by decide) : JX X z (.Name x pos) (dC d) := jx_c (pe_glob hg hm r hd) rd

/-! ### is None -/
def D.isNon : D → Bool
  | .non => true
  | _ => false
theorem isNon_of {K : PySem.W.Frag} {F He H : Hp} {v : V} {d : D} (r : DT K F He H v d) : decide (v = .non) = d.isNon := by
  cases d with
  | non => cases r.non; rfl
  | _ => rcases r with r | ⟨a, o, rfl, ho, m, q⟩ <;> (first | (cases r; rfl) | rfl)
def sIsN (d e : D) (P : Bool → D → Prop) : Prop := match e with
  | .non => P false (.bl d.isNon)
  | _ => False
def sNotN (d e : D) (P : Bool → D → Prop) : Prop := match e with
  | .non => P false (.bl (!d.isNon))
  | _ => False
theorem sem_isN : Sem2 z (fun x y H Q => y = .non ∧ Q (.bl (decide (x = .non))) H) sIsN := fun w F He H x y d e P Q wd dx dy q k => by
  unfold sIsN at q
  split at q
  · exact ⟨dy.non, by rw [isNon_of dx]; exact k _ _ q _ H F He wd .refl (.bl _)⟩
  · exact q.elim
theorem sem_notN : Sem2 z (fun x y H Q => y = .non ∧ Q (.bl (!decide (x = .non))) H) sNotN := fun w F He H x y d e P Q wd dx dy q k => by
  unfold sNotN at q
  split at q
  · exact ⟨dy.non, by rw [isNon_of dx]; exact k _ _ q _ H F He wd .refl (.bl _)⟩
  · exact q.elim

/-! ### subscripts -/
theorem ix_dct (hu : X.A.units + 1 < cLine) : IxR X (fun x y H Q => ∃ a v, x = .ref a ∧ DGet H a y (some v) ∧ Q v H) := by
  intro value slice pins s σ H x y v u Q I rx ry h hs
  obtain ⟨a, z, rfl, g, q⟩ := h
  cases rx
  exact PyProof.Rows.tail_any (dict_typeIs I g) PySem.F.slot_dict_getitem.lookup (d_getItem hu I g ry fun w' s3 I3 rw' => ⟨z, H, I3, rw', q⟩) hs
def rIxA (K : PySem.W.Frag) : R2 := fun x y H Q => rIx K x y H Q ∨ ∃ a v, x = .ref a ∧ DGet H a y (some v) ∧ Q v H
theorem ix_all (hu : X.A.units + 1 < cLine) : IxR X (rIxA X.K) := ix_seq.or (ix_dct hu)
def sIx (d e : D) (P : Bool → D → Prop) : Prop := match d, e with
  | .lst ds, .int i => ∃ x, atI ds i = some x ∧ P false x
  | .tup ds, .int i => ∃ x, atI ds i = some x ∧ P false x
  | .scr ns, .int i => ∃ x, atI ns i = some x ∧ P false (.int x)
  | .str x, .int i => x.length ≤ sizeLine ∧ ∃ c, atI x.cps.toList i = some c ∧ P false (.str ⟨#[c]⟩)
  | .dK kvs, .int i => ∃ x, valD kvs (.inl i) = some x ∧ P false x
  | .dK kvs, .str i => ∃ x, valD kvs (.inr i) = some x ∧ P false x
  | .dT kvs, .tup ds => ∃ ks x, ds = ks.map kD ∧ valD kvs ks = some x ∧ P false x
  | _, _ => False
theorem atI_rel {K : PySem.W.Frag} {F : Hp} {vs : List V} {ds : List D} {i : Int} {x : D} (r : DRs K F vs ds) (e : atI ds i = some x) : ∃ v, atI vs i = some v ∧ DR K F v x := by
  unfold atI at e ⊢
  rw [r.length]
  cases h : ixN ds.length i with
  | none => rw [h] at e; cases e
  | some j =>
    rw [h] at e
    exact r.get e
theorem atI_map {α β : Type} (f : α → β) (xs : List α) (i : Int) : atI (xs.map f) i = (atI xs i).map f := by
  unfold atI
  rw [List.length_map]
  cases ixN xs.length i with
  | none => rfl
  | some j => simp
theorem sem_ix : Sem2 z (rIxA z.K) sIx := fun w F He H x y d e P Q wd dx dy q k => by
  unfold sIx at q
  split at q
  · obtain ⟨c, h, q⟩ := q
    obtain ⟨a, vs, rfl, ha, ra⟩ := dx.lst wd.sf
    obtain ⟨v, hv, rv⟩ := atI_rel ra h
    exact .inl (.inl ⟨a, vs, _, v, rfl, dy.int, .of ha, hv, res_at wd rv q k⟩)
  · obtain ⟨c, h, q⟩ := q
    obtain ⟨a, vs, rfl, ha, ra⟩ := dx.tup wd.sf
    obtain ⟨v, hv, rv⟩ := atI_rel ra h
    exact .inl (.inr (.inl ⟨a, vs, _, v, rfl, dy.int, .of ha, hv, res_at wd rv q k⟩))
  · obtain ⟨c, h, q⟩ := q
    obtain ⟨a, rfl, ha⟩ := dx.scr wd.sf
    exact .inl (.inl ⟨a, _, _, .int c, rfl, dy.int, ha, by rw [atI_map, h]; rfl, res_at wd (.int c) q k⟩)
  · obtain ⟨h1, c, h, q⟩ := q
    exact .inl (.inr (.inr ⟨_, _, c, dx.str, dy.int, h1, h, res_at wd (.str _) q k⟩))
  · obtain ⟨c, h, q⟩ := q
    obtain ⟨a, vs, rfl, ha, ra⟩ := dx.dK wd.sf
    have := dy.int; subst y
    rcases ra.val (k := .inl _) with ⟨_, h2⟩ | ⟨v, c', h1, h2, rv⟩
    · rw [h] at h2; cases h2
    · rw [h] at h2; cases h2
      exact .inr ⟨a, v, rfl, by rw [← h1]; exact DGet.k (k := .inl _) ha, res_at wd rv q k⟩
  · obtain ⟨c, h, q⟩ := q
    obtain ⟨a, vs, rfl, ha, ra⟩ := dx.dK wd.sf
    have := dy.str; subst y
    rcases ra.val (k := .inr _) with ⟨_, h2⟩ | ⟨v, c', h1, h2, rv⟩
    · rw [h] at h2; cases h2
    · rw [h] at h2; cases h2
      exact .inr ⟨a, v, rfl, by rw [← h1]; exact DGet.k (k := .inr _) ha, res_at wd rv q k⟩
  · obtain ⟨ks, c, rfl, h, q⟩ := q
    obtain ⟨a, vs, rfl, ha, ra⟩ := dx.dT wd.sf
    obtain ⟨b, us, rfl, hb, rb⟩ := dy.tup wd.sf
    have := rb.keys; subst us
    rcases ra.val (k := ks) with ⟨_, h2⟩ | ⟨v, c', h1, h2, rv⟩
    · rw [h] at h2; cases h2
    · rw [h] at h2; cases h2
      exact .inr ⟨a, v, rfl, by rw [← h1]; exact DGet.t ha hb, res_at wd rv q k⟩
  · exact q.elim
theorem jx_ix {a b : Expr} {ta tb : DO z.W} (hK : z.K = X.K) (hu : X.A.units + 1 < cLine) (ha : JO X z a ta) (hb : JO X z b tb) (hs : PlainIx b := by exact fun _ _ => rfl) : JX X z (.Subscript a b pos) (dBin sIx ta tb) :=
  PE.imp (pe_ix (ix_all hu) ha hb hs) fun _ _ _ h => bin2 (by rw [← hK]; exact sem_ix) h
end
end Lv

/-! ### t[::-1] of a tuple -/
namespace HT
open PySem PySem.Spec PyProof.Rows PySem.Calls
section
variable {prog : Program} {w : World} {A : Around} {E : Value → Shared → Prop} {s : Shared}
theorem pick_back (xs : Array Value) : ((List.range xs.size).filterMap fun (m : Nat) => xs[(((xs.size : Int) - 1) + (m : Int) * (-1)).toNat]?).toArray = xs.toList.reverse.toArray := by
  have e : (List.range xs.size).filterMap (fun (m : Nat) => xs[(((xs.size : Int) - 1) + (m : Int) * (-1)).toNat]?) = ((List.range xs.size).map fun k => xs.size - 1 - k).filterMap (xs[·]?) := by
    rw [List.filterMap_map]
    have e : ∀ m : Nat, (((xs.size : Int) - 1) + (m : Int) * (-1)).toNat = xs.size - 1 - m := fun m => by omega
    have e2 : (fun (m : Nat) => xs[(((xs.size : Int) - 1) + (m : Int) * (-1)).toNat]?) = ((xs[·]?) ∘ fun k => xs.size - 1 - k) := by
      funext m
      rw [e m]
      rfl
    rw [e2]
  rw [e, PySem.W.krv_range, List.filterMap_reverse, PySem.W.krv_all]
theorem places_back (n : Nat) : Builtin.Slice.slicePlaces ((n : Int) - 1) (-1) (-1) = n := by
  unfold Builtin.Slice.slicePlaces
  have h1 : ¬ ((-1 : Int) > 0) := by omega
  simp only [h1, if_false, show (- -1 : Int) = 1 by decide, Int.ediv_one]
  split <;> omega
theorem sliceApplied_back {sl : Addr} {vl vu vs : Value} {n : Nat} {Q : Int × Int × Nat → Shared → Prop} (hs : s.heap.IsSliceOf sl vl vu vs) (pl : IsPart vl none) (pu : IsPart vu none) (ps : IsPart vs (some (-1)))
    (h : Q ((n : Int) - 1, -1, n) s) : wpAny (model prog w) A (Builtin.Slice.sliceApplied (.ref sl) (pure (n : Int))) Q E s := by
  obtain ⟨os, hos, hcs, hds⟩ := id hs
  unfold Builtin.Slice.sliceApplied Builtin.Slice.sliceFields
  refine wpAny_bind (wpAny_bind (wpAny_field hos hds (x := vl) rfl (wpAny_bind (wpAny_field hos hds (x := vu) rfl (wpAny_bind (wpAny_field hos hds (x := vs) rfl (wpAny_pure ?_)))))))
  refine wpAny_bind (slicePart_ ps ?_)
  show wpAny _ _ (if ((-1 : Int) == 0) = true then _ else _) _ _ s
  rw [if_neg (by decide)]
  refine wpAny_bind (slicePart_ pl (wpAny_bind (slicePart_ pu (wpAny_bind (wpAny_pure ?_)))))
  show wpAny _ _ (pure ((n : Int) - 1, (-1 : Int), Builtin.Slice.slicePlaces ((n : Int) - 1) (-1) (-1))) _ _ s
  rw [places_back]
  exact wpAny_pure h
theorem getItem_tuple_back {t sl : Addr} {items : Array Value} {vl vu vs : Value} {Q : Value → Shared → Prop} (ht : IsTup s.heap t items) (hs : s.heap.IsSliceOf sl vl vu vs) (pl : IsPart vl none) (pu : IsPart vu none) (ps : IsPart vs (some (-1)))
    (h : Q (.ref s.heap.objs.size) { s with heap := s.heap.push { cls := .type "tuple", data := .seq items.toList.reverse.toArray } })
    (hsz : items.size ≤ sizeLine) : wpAny (model prog w) A (getItem (.ref t) (.ref sl)) Q E s := by
  have htake : sizeOk (.seq items.toList.reverse.toArray) := by
    show items.toList.reverse.toArray.size ≤ sizeLine
    rw [List.size_toArray, List.length_reverse, Array.length_toList]
    exact hsz
  obtain ⟨os, hos, hcs, hds⟩ := id hs
  have hTs : s.TypeIs (.ref sl) "slice" := ⟨os, hos, hcs⟩
  unfold getItem
  try with_reducible refine wpAny_holding ?_
  first | refine wpAny_bind (wpAny_pure ?_) | skip
  refine wpAny_bind (wpAny_sequenceKey ht.typeIs (by decide) ?_)
  refine wpAny_bind (wpAny_callSpecial?_slot (name := Str.ofString "__getitem__") ht.typeIs PyProof.Rows.slot_tuple_getitem
    (wpAny_call_entry PyProof.Rows.slot_tuple_getitem ht.typeIs entry_tuple_getitem ?_ (args_tuple_getitem _ _)))
  show wpAny _ _ (Builtin.Tuple.tupleItemsOf (.ref t) >>= _) _ _ s
  refine wpAny_bind (tupleItemsOf_ ht ?_)
  refine wpAny_bind (wpAny_typeOf hTs ?_)
  rw [if_pos (by decide)]
  refine wpAny_bind (sliceApplied_back hs pl pu ps ?_)
  have hno : ¬ ((((items.size : Int) - 1) == 0 && (-1 : Int) == 1 && items.size == items.size) = true) := by
    intro q
    rw [Bool.and_eq_true, Bool.and_eq_true] at q
    exact absurd q.1.2 (by decide)
  show wpAny _ _ (if (((items.size : Int) - 1) == 0 && (-1 : Int) == 1 && items.size == items.size) = true then _ else _) _ _ s
  rw [if_neg hno, pick_back]
  first
    | exact wpAny_bind (m := Builtin.Tuple.tupleExact _) (wpAny_newObj_type (wpAny_pure ⟨_, rfl, wpAny_pure h⟩) htake)
    | exact wpAny_bind (m := Builtin.Tuple.tupleExact _) (wpAny_newObj_type (wpAny_bind (wpAny_pure (wpAny_pure ⟨_, rfl, wpAny_pure h⟩))) htake)
    | exact wpAny_bind (wpAny_bind (m := Builtin.Tuple.tupleExact _) (wpAny_newObj_type (wpAny_pure (wpAny_pure ⟨_, rfl, wpAny_pure h⟩)) htake))
    | exact wpAny_bind (wpAny_bind (m := Builtin.Tuple.tupleExact _) (wpAny_newObj_type (wpAny_pure ⟨_, rfl, wpAny_pure h⟩) htake))
end
end HT
namespace Lv
open PySem PySem.Spec L2
section
variable {X : Cx} {z : Ent} {pos : Pos}
open PyProof.Rows in
/-- x[::-1] of a list or a tuple -/
def tRev (K : PySem.W.Frag) (te : TE) : TE := fun σ H Q => te σ H fun x H1 => ∃ a xs, x = .ref a ∧ ((SqL K H1 a xs ∧ ∀ p, H1 p = none → Q (.ref p) (upd H1 p (.lst xs.reverse))) ∨ (SqT K H1 a xs ∧ ∀ p, H1 p = none → Q (.ref p) (upd H1 p (.tup xs.reverse))))
open PyProof.Rows in
theorem pe_rev {e : Expr} {te : TE} {k : Nat} {p1 p2 p3 pos : Pos} (he : PE X e te) : PE X (.Subscript e (.Slice none none (some (.UnaryOp .USub (.Constant (.int 1) k p1) p2)) p3) pos) (tRev X.K te) := by
  refine ⟨fun pins s σ H Q I h => ?_⟩
  refine PyProof.Rows.Subscript_ (thn (he.run pins s σ H _ I h) fun v s1 ⟨x, H1, I1, r1, q1⟩ => ?_)
  obtain ⟨a, xs, ex, hx⟩ := q1
  subst ex
  cases r1
  have hst : PO X (some (.UnaryOp .USub (.Constant (.int 1) k p1) p2)) (tPart (tUn (rU fun i => .int (-i)) (tC (.int 1)))) := po_some (pe_un un_neg pe_int)
  refine wpAny_Slice (thn (po_none.run pins s1 σ H1 (fun o H2 => o = none ∧ H2 = H1) I1 ⟨rfl, rfl⟩) fun vl s2 ⟨l, H2, I2, pl, el, e2⟩ => ?_)
  subst el e2
  refine thn (po_none.run pins s2 σ H2 (fun o H3 => o = none ∧ H3 = H2) I2 ⟨rfl, rfl⟩) fun vu s3 ⟨u, H3, I3, pu, eu, e3⟩ => ?_
  subst eu e3
  refine thn (hst.run pins s3 σ H3 (fun o H4 => o = some (-1) ∧ H4 = H3) I3 ⟨1, rfl, -1, rfl, rfl, rfl⟩) fun vs s4 ⟨o, H4, I4, ps, eo, e4⟩ => ?_
  subst eo e4
  have I5 : Inv X pins σ H4 { s4 with heap := s4.heap.push { cls := .type "slice", data := .fields #[vl, vu, vs] } } := I4.kept (t' := s4.toks) fun b ob q => Heap.get?_push_of_some _ q
  show wpAny (model X.prog X.w) X.A (subscriptTail e (.Slice none none (some (.UnaryOp .USub (.Constant (.int 1) k p1) p2)) p3) (.ref a) (.ref s4.heap.objs.size)) (EP X pins σ Q) X.xe { s4 with heap := s4.heap.push { cls := .type "slice", data := .fields #[vl, vu, vs] } }
  rcases hx with ⟨hx, q⟩ | ⟨hx, q⟩
  · obtain ⟨its, r, ht, hz⟩ := I5.list hx
    have hlen := r.length
    refine tail_any (ops := [.ref a, .ref s4.heap.objs.size]) ht.isList.typeIs (PySem.slot_list_getitem.lookup) ?_ (by with_unfolding_all rfl)
    refine wpAny_getItem_list_slice ht.isList (Heap.IsSliceOf.new _ vl vu vs) pl pu ps (by decide) ?_ (by rw [List.size_toArray]; omega)
    rw [PySem.W.krv_pick]
    refine ⟨.ref _, _, I5.laid (t' := s4.toks) (o := .lst xs.reverse) (fun b ob q => Heap.get?_push_of_some _ q) (Nat.le_refl _) ?_, rfl, q _ (I5.hok.fresh (Nat.le_refl _))⟩
    exact ⟨by rw [List.length_reverse]; exact hz, _, 0, r.reverse, Heap.get?_push_size _ rfl⟩
  · obtain ⟨its, r, ht, hz⟩ := I5.tuple hx
    have hlen := r.length
    refine tail_any (ops := [.ref a, .ref s4.heap.objs.size]) ht.typeIs (PyProof.Rows.slot_tuple_getitem.lookup) ?_ (by with_unfolding_all rfl)
    refine HT.getItem_tuple_back ht (Heap.IsSliceOf.new _ vl vu vs) pl pu ps ?_ (by rw [List.size_toArray]; omega)
    refine ⟨.ref _, _, I5.laid (t' := s4.toks) (o := .tup xs.reverse) (fun b ob q => Heap.get?_push_of_some _ q) (Nat.le_refl _) ?_, rfl, q _ (I5.hok.fresh (Nat.le_refl _))⟩
    exact ⟨by rw [List.length_reverse]; exact hz, _, r.reverse, ⟨_, Heap.get?_push_size _ rfl, rfl, _, rfl⟩⟩
def sRev (d : D) (P : Bool → D → Prop) : Prop := match d with
  | .lst ds => P true (.lst ds.reverse)
  | .tup ds => P false (.tup ds.reverse)
  | .scr ns => P true (.lst (ns.map .int).reverse)
  | _ => False
theorem sem_rev : Sem1 z (fun x H Q => ∃ a xs, x = .ref a ∧ ((SqL z.K H a xs ∧ ∀ p, H p = none → Q (.ref p) (upd H p (.lst xs.reverse))) ∨ (SqT z.K H a xs ∧ ∀ p, H p = none → Q (.ref p) (upd H p (.tup xs.reverse))))) sRev := fun w F He H x d P Q wd dx q k => by
  unfold sRev at q
  split at q
  · obtain ⟨a, vs, rfl, ha, ra⟩ := dx.lst wd.sf
    exact ⟨a, vs, rfl, .inl ⟨.of ha, fun p hp => res_new wd hp (.lst ra.reverse) q k⟩⟩
  · obtain ⟨a, vs, rfl, ha, ra⟩ := dx.tup wd.sf
    exact ⟨a, vs, rfl, .inr ⟨.of ha, fun p hp => res_tup wd hp ra.reverse q k⟩⟩
  · obtain ⟨a, rfl, ha⟩ := dx.scr wd.sf
    exact ⟨a, _, rfl, .inl ⟨ha, fun p hp => res_new wd hp (.lst (DRs.ofInts _).reverse) q k⟩⟩
  · exact q.elim
theorem jx_rev {e : Expr} {te : DO z.W} {k : Nat} {p1 p2 p3 : Pos} (hK : z.K = X.K) (he : JO X z e te) : JX X z (.Subscript e (.Slice none none (some (.UnaryOp .USub (.Constant (.int 1) k p1) p2)) p3) pos) (dUn sRev te) :=
  PE.imp (pe_rev he) fun _ _ _ h => by rw [← hK]; exact un1 sem_rev h
end
end Lv

namespace Lv
open PySem PySem.Spec L2
section
variable {X : Cx} {z : Ent} {pos : Pos}

/-! ### in, not in -/
def inD (d : D) (ds : List D) : Bool := ds.any fun y => y.eqv d
def sIn (neg : Bool) (d e : D) (P : Bool → D → Prop) : Prop := match e, d with
  | .lst ds, d => d.pl = true ∧ plAll ds = true ∧ d.py.depth ≤ 64 ∧ P false (.bl (if neg then !inD d ds else inD d ds))
  | .tup ds, d => d.pl = true ∧ plAll ds = true ∧ d.py.depth ≤ 64 ∧ P false (.bl (if neg then !inD d ds else inD d ds))
  | .str y, .str x => P false (.bl (if neg then !(!(Builtin.Str.occurrences y x 0 y.length 1).isEmpty) else !(Builtin.Str.occurrences y x 0 y.length 1).isEmpty))
  | .dK kvs, .int i => P false (.bl (if neg then !(valD kvs (.inl i)).isSome else (valD kvs (.inl i)).isSome))
  | .dK kvs, .str i => P false (.bl (if neg then !(valD kvs (.inr i)).isSome else (valD kvs (.inr i)).isSome))
  | .dT kvs, .tup ds => ∃ ks, ds = ks.map kD ∧ P false (.bl (if neg then !(valD kvs ks).isSome else (valD kvs ks).isSome))
  | _, _ => False
def rInA (K : PySem.W.Frag) (neg : Bool) : R2 := fun x y H Q =>
  (∃ d ds, Dp K H x d ∧ (Dp K H y (.list ds) ∨ Dp K H y (.tuple ds)) ∧ d.plain = true ∧ PyData.plainAll ds = true ∧ d.depth ≤ 64 ∧ Q (.bl (if neg then !(ds.any fun w => PyData.eqv w d) else ds.any fun w => PyData.eqv w d)) H) ∨
  (∃ i j, x = .str i ∧ y = .str j ∧ Q (.bl (if neg then !(!(Builtin.Str.occurrences j i 0 j.length 1).isEmpty) else !(Builtin.Str.occurrences j i 0 j.length 1).isEmpty)) H) ∨
  ∃ a o, y = .ref a ∧ DGet H a x o ∧ Q (.bl (if neg then !o.isSome else o.isSome)) H
theorem op_inA (hu : X.A.units + 65 < cLine) : OpR X (compareOp .In) (rInA X.K false) := by
  intro pins s σ H x y v u Q I rx ry h
  rcases h with ⟨d, ds, hd, hl, pd, pl, dd, q⟩ | ⟨i, j, rfl, rfl, q⟩ | ⟨a, o, rfl, g, q⟩
  · obtain ⟨as, r1⟩ := Dp.reads I d x v hd rx
    have hm : X.A.units + 1 + min (PyData.depthAll ds) d.depth < cLine := by
      have := Nat.min_le_right (PyData.depthAll ds) d.depth
      omega
    rcases hl with hl | hl
    · obtain ⟨bs, r2⟩ := Dp.reads I (.list ds) y u hl ry
      exact SeqAt.in_list_data r2 r1 pl pd hm ⟨.bl _, H, I, rfl, q⟩
    · obtain ⟨bs, r2⟩ := Dp.reads I (.tuple ds) y u hl ry
      exact SeqAt.in_tuple_data r2 r1 pl pd hm ⟨.bl _, H, I, rfl, q⟩
  · exact op_in_str pins s σ H _ _ v u Q I rx ry ⟨i, j, rfl, rfl, q⟩
  · cases ry
    exact d_in (by omega) I g rx fun s' I' => ⟨.bl _, H, I', rfl, q⟩
theorem op_notInA (hu : X.A.units + 65 < cLine) : OpR X (compareOp .NotIn) (rInA X.K true) := by
  intro pins s σ H x y v u Q I rx ry h
  rcases h with ⟨d, ds, hd, hl, pd, pl, dd, q⟩ | ⟨i, j, rfl, rfl, q⟩ | ⟨a, o, rfl, g, q⟩
  · obtain ⟨as, r1⟩ := Dp.reads I d x v hd rx
    have hm : X.A.units + 1 + min (PyData.depthAll ds) d.depth < cLine := by
      have := Nat.min_le_right (PyData.depthAll ds) d.depth
      omega
    rcases hl with hl | hl
    · obtain ⟨bs, r2⟩ := Dp.reads I (.list ds) y u hl ry
      exact SeqAt.notIn_list_data r2 r1 pl pd hm ⟨.bl _, H, I, rfl, q⟩
    · obtain ⟨bs, r2⟩ := Dp.reads I (.tuple ds) y u hl ry
      exact SeqAt.notIn_tuple_data r2 r1 pl pd hm ⟨.bl _, H, I, rfl, q⟩
  · exact op_notin_str pins s σ H _ _ v u Q I rx ry ⟨i, j, rfl, rfl, q⟩
  · cases ry
    exact d_notIn (by omega) I g rx fun s' I' => ⟨.bl _, H, I', rfl, q⟩
theorem any_py (d : D) : ∀ ds : List D, ((pyAll ds).any fun w => PyData.eqv w d.py) = inD d ds
  | [] => rfl
  | e :: ds => by
    have := any_py d ds
    simp only [pyAll, List.any_cons, inD] at this ⊢
    rw [this]
    rfl
theorem sem_in (neg : Bool) : Sem2 z (rInA z.K neg) (sIn neg) := fun w F He H x y d e P Q wd dx dy q k => by
  unfold sIn at q
  split at q
  · next ds =>
    obtain ⟨p1, p2, p3, q⟩ := q
    have hl := dy.dp wd.sf (by simpa [D.pl] using p2)
    rw [D.py] at hl
    exact .inl ⟨d.py, pyAll ds, dx.dp wd.sf p1, .inl hl, plain_py d, plain_pyAll ds, p3, by rw [any_py]; exact res_at wd (.bl _) q k⟩
  · next ds =>
    obtain ⟨p1, p2, p3, q⟩ := q
    have hl := dy.dp wd.sf (by simpa [D.pl] using p2)
    rw [D.py] at hl
    exact .inl ⟨d.py, pyAll ds, dx.dp wd.sf p1, .inr hl, plain_py d, plain_pyAll ds, p3, by rw [any_py]; exact res_at wd (.bl _) q k⟩
  · exact .inr (.inl ⟨_, _, dx.str, dy.str, res_at wd (.bl _) q k⟩)
  · obtain ⟨a, vs, rfl, ha, ra⟩ := dy.dK wd.sf
    have := dx.int; subst x
    refine .inr (.inr ⟨a, _, rfl, DGet.k (k := .inl _) ha, ?_⟩)
    rcases ra.val (k := .inl _) with ⟨h1, h2⟩ | ⟨v, c', h1, h2, rv⟩
    · rw [h1]; rw [h2] at q; exact res_at wd (.bl _) q k
    · rw [h1]; rw [h2] at q; exact res_at wd (.bl _) q k
  · obtain ⟨a, vs, rfl, ha, ra⟩ := dy.dK wd.sf
    have := dx.str; subst x
    refine .inr (.inr ⟨a, _, rfl, DGet.k (k := .inr _) ha, ?_⟩)
    rcases ra.val (k := .inr _) with ⟨h1, h2⟩ | ⟨v, c', h1, h2, rv⟩
    · rw [h1]; rw [h2] at q; exact res_at wd (.bl _) q k
    · rw [h1]; rw [h2] at q; exact res_at wd (.bl _) q k
  · obtain ⟨ks, rfl, q⟩ := q
    obtain ⟨a, vs, rfl, ha, ra⟩ := dy.dT wd.sf
    obtain ⟨b, us, rfl, hb, rb⟩ := dx.tup wd.sf
    have := rb.keys; subst us
    refine .inr (.inr ⟨a, _, rfl, DGet.t ha hb, ?_⟩)
    rcases ra.val (k := ks) with ⟨h1, h2⟩ | ⟨v, c', h1, h2, rv⟩
    · rw [h1]; rw [h2] at q; exact res_at wd (.bl _) q k
    · rw [h1]; rw [h2] at q; exact res_at wd (.bl _) q k
  · exact q.elim

/-! ### argument lists, displays -/
def dNil {W : Ext} : DA W := fun _ w Q => Q [] w
def dCons {W : Ext} (t : DX W) (ts : DA W) : DA W := fun δ w Q => t δ w fun _ d w1 => ts δ w1 fun ds w2 => Q (d :: ds) w2
theorem ja_nil : JA X z [] dNil := PA.imp pa_nil fun σ H Q ⟨δ, w, F, He, P, R, q, k⟩ => k _ _ q [] H F He R.wd .refl .nil
theorem ja_cons {e : Expr} {es : List Expr} {t : DX z.W} {ts : DA z.W} (ha : JX X z e t) (hr : JA X z es ts) (hs : starEach (e :: es) X.env = (false, eval e X.env) :: starEach es X.env := by rfl) : JA X z (e :: es) (dCons t ts) :=
  PA.imp (pa_cons ha hr hs) fun σ H Q ⟨δ, w, F, He, P, R, q, k⟩ => by
    refine ⟨δ, w, F, He, _, R, q, fun b d w1 q1 x H1 F1 He1 wd1 st1 r1 => ?_⟩
    obtain ⟨F2, st2, wd2, r2, s2⟩ := r1.thaw st1 wd1
    refine ⟨δ, w1, F2, He1, _, R.step wd2 st2, q1, fun ds w2 q2 vs H3 F3 He3 wd3 st3 r3 => ?_⟩
    exact k _ _ q2 _ H3 F3 He3 wd3 (st2.trans st3) (.cons (r2.mono st3.fz) r3)
def dTup {W : Ext} (t : DA W) : DX W := fun δ w Q => t δ w fun ds w1 => ds.length ≤ sizeLine ∧ Q false (.tup ds) w1
def dLst {W : Ext} (t : DA W) : DX W := fun δ w Q => t δ w fun ds w1 => ds.length ≤ sizeLine ∧ Q true (.lst ds) w1
theorem jx_tup {es : List Expr} {t : DA z.W} {x1 : Nat} (h : JA X z es t) : JX X z (.Tuple es x1 pos) (dTup t) := PE.imp (pe_tup h) fun σ H Q ⟨δ, w, F, He, P, R, q, k⟩ => by
  refine ⟨δ, w, F, He, _, R, q, fun ds w1 q1 vs H1 F1 He1 wd1 st1 r1 => ⟨by rw [r1.length]; exact q1.1, fun p hp => ?_⟩⟩
  exact res_tup (z := z) (P := fun b d => P b d w1) wd1 hp r1 q1.2 fun b d' p v H' F' He' wd st rr => k b d' w1 p v H' F' He' wd (st1.trans st) (rr.base st1)
theorem jx_lst {es : List Expr} {t : DA z.W} (h : JA X z es t) : JX X z (.List es pos) (dLst t) := PE.imp (pe_lst h) fun σ H Q ⟨δ, w, F, He, P, R, q, k⟩ => by
  refine ⟨δ, w, F, He, _, R, q, fun ds w1 q1 vs H1 F1 He1 wd1 st1 r1 => ⟨by rw [r1.length]; exact q1.1, fun p hp => ?_⟩⟩
  exact res_new (z := z) (P := fun b d => P b d w1) wd1 hp (.lst r1) q1.2 fun b d' p v H' F' He' wd st rr => k b d' w1 p v H' F' He' wd (st1.trans st) (rr.base st1)
def dDicK {W : Ext} : DX W := fun _ w Q => Q true (.dK []) w
def dDicT {W : Ext} : DX W := fun _ w Q => Q true (.dT []) w
theorem jx_dicK : JX X z (.Dict [] [] pos) dDicK := PE.imp pe_dnewK fun σ H Q ⟨δ, w, F, He, P, R, q, k⟩ p hp => res_new (z := z) (P := fun b d => P b d w) R.wd hp (.dK .nil) q fun b d' p => k b d' w p
theorem jx_dicT : JX X z (.Dict [] [] pos) dDicT := PE.imp pe_dnewT fun σ H Q ⟨δ, w, F, He, P, R, q, k⟩ p hp => res_new (z := z) (P := fun b d => P b d w) R.wd hp (.dT .nil) q fun b d' p => k b d' w p

/-! ### slices -/
abbrev DP (W : Ext) := DSt → W.Om → (Option Int → W.Om → Prop) → Prop
def liftP (z : Ent) (t : DP z.W) : TO := fun σ H Q => ∃ δ w F He P, Rel z δ w F He σ H ∧ t δ w P ∧ ∀ o w', P o w' → ∀ H' F' He', Wd z.W z.K w' F' He' H' → Step F He H F' He' H' → Q o H'
theorem PO.imp {X : Cx} {e : Option Expr} {t t' : TO} (h : PO X e t) (f : ∀ σ H Q, t' σ H Q → t σ H Q) : PO X e t' := ⟨fun pins s σ H Q I q => h.run pins s σ H Q I (f σ H Q q)⟩
def dNoP {W : Ext} : DP W := fun _ w Q => Q none w
def dP {W : Ext} (t : DO W) : DP W := fun δ w Q => t δ w fun d w1 => match d with
  | .int i => Q (some i) w1
  | _ => False
theorem jp_none : PO X none (liftP z dNoP) := PO.imp po_none fun σ H Q ⟨δ, w, F, He, P, R, q, k⟩ => k _ _ q H F He R.wd .refl
theorem jp_some {e : Expr} {t : DO z.W} (h : JO X z e t) : PO X (some e) (liftP z (dP t)) := PO.imp (po_some h) fun σ H Q ⟨δ, w, F, He, P, R, q, k⟩ => by
  refine ⟨δ, w, F, He, _, R, q, fun d w1 q1 v H1 F1 He1 wd1 st1 r1 => ?_⟩
  cases d with
  | int i => exact ⟨i, r1.int, k _ _ q1 H1 F1 He1 wd1 st1⟩
  | _ => exact q1.elim
def cutD {α : Type} (xs : List α) (lo hi : Option Int) : List α := (xs.drop (HT.sIx xs.length 0 lo)).take (HT.sIx xs.length xs.length hi - HT.sIx xs.length 0 lo)
def sSl (d : D) (lo hi : Option Int) (P : Bool → D → Prop) : Prop := match d with
  | .lst ds => P true (.lst (cutD ds lo hi))
  | .tup ds => P false (.tup (cutD ds lo hi))
  | .str x => x.length ≤ sizeLine ∧ P false (.str (cutS x lo hi))
  | .scr ns => P true (.lst ((cutD ns lo hi).map .int))
  | _ => False
def rSlD (K : PySem.W.Frag) : V → Option Int → Option Int → Hp → VK → Prop := fun x lo hi H Q => rSlL K x lo hi H Q ∨ rSlA K x lo hi H Q ∨ rSlS x lo hi H Q
theorem sl_all : SlR X (rSlD X.K) := sl_list.or (sl_tupA.or sl_str)
theorem cut_rel {K : PySem.W.Frag} {F : Hp} {vs : List V} {ds : List D} (r : DRs K F vs ds) (lo hi : Option Int) : DRs K F (cutV vs lo hi) (cutD ds lo hi) := by
  unfold cutV cutD
  rw [r.length]
  exact (r.drop _).take _
theorem cut_whole {α : Type} {xs : List α} {lo hi : Option Int} (h : HT.sIx xs.length 0 lo = 0 ∧ HT.sIx xs.length xs.length hi = xs.length) : cutD xs lo hi = xs := by
  unfold cutD
  rw [h.1, h.2]
  simp
theorem sem_sl {w : z.W.Om} {F He H : Hp} {x : V} {d : D} {lo hi : Option Int} {P : Bool → D → Prop} {Q : VK} (wd : Wd z.W z.K w F He H) (dx : DT z.K F He H x d) (q : sSl d lo hi P)
    (k : ∀ b d', P b d' → ∀ v H' F' He', Wd z.W z.K w F' He' H' → Step F He H F' He' H' → Res z.K F' He' H H' b v d' → Q v H') : rSlD z.K x lo hi H Q := by
  unfold sSl at q
  split at q
  · obtain ⟨a, vs, rfl, ha, ra⟩ := dx.lst wd.sf
    exact .inl ⟨a, vs, rfl, .of ha, fun p hp => res_new wd hp (.lst (cut_rel ra lo hi)) q k⟩
  · obtain ⟨a, vs, e, ha, ra⟩ := dx.tup wd.sf
    refine .inr (.inl ⟨a, vs, e, .of ha, fun hw => ?_, fun _ p hp => res_tup wd hp (cut_rel ra lo hi) q k⟩)
    rw [ra.length] at hw
    rw [cut_whole hw] at q
    rcases dx with dx | ⟨a', o, _, _, _, t⟩
    · rw [← e]; exact res_at wd dx q k
    · cases t
  · exact .inr (.inr ⟨_, dx.str, q.1, res_at wd (.str _) q.2 k⟩)
  · next ns =>
    obtain ⟨a, rfl, ha⟩ := dx.scr wd.sf
    refine .inl ⟨a, _, rfl, ha, fun p hp => res_new wd hp (.lst ?_) q k⟩
    have e : cutV (List.map V.int ns) lo hi = (cutD ns lo hi).map V.int := by
      unfold cutV cutD
      rw [List.length_map, List.map_take, List.map_drop]
    rw [e]
    exact DRs.ofInts _
  · exact q.elim
def dSl {W : Ext} (t : DO W) (l h : DP W) : DX W := fun δ w Q => t δ w fun d w1 => l δ w1 fun lo w2 => h δ w2 fun hi w3 => sSl d lo hi fun b d' => Q b d' w3
theorem jx_sl {e : Expr} {lo hi : Option Expr} {t : DO z.W} {tl th : DP z.W} {p2 : Pos} (hK : z.K = X.K) (he : JO X z e t) (hl : PO X lo (liftP z tl)) (hh : PO X hi (liftP z th)) : JX X z (.Subscript e (.Slice lo hi none p2) pos) (dSl t tl th) :=
  PE.imp (pe_slice sl_all he hl hh) fun σ H Q ⟨δ, w, F, He, P, R, q, k⟩ => by
    refine ⟨δ, w, F, He, _, R, q, fun d w1 q1 v H1 F1 He1 wd1 st1 r1 => ?_⟩
    refine ⟨δ, w1, F1, He1, _, R.step wd1 st1, q1, fun o w2 q2 H2 F2 He2 wd2 st2 => ?_⟩
    refine ⟨δ, w2, F2, He2, _, (R.step wd1 st1).step wd2 st2, q2, fun o' w3 q3 H3 F3 He3 wd3 st3 => ?_⟩
    have st := st1.trans (st2.trans st3)
    show rSlD X.K v o o' H3 Q
    rw [← hK]
    exact sem_sl wd3 (r1.step (st2.trans st3)) q3 fun b d' p v H' F' He' wd s' rr => k b d' w3 p v H' F' He' wd (st.trans s') (rr.base st)

/-! ### truth, and, or, not, if -/
def dTru {W : Ext} (t : DO W) : DTs_ W := fun δ w Q => t δ w fun d w1 => match d with
  | .non => Q false w1
  | .bl k => Q k w1
  | .int i => Q (i != 0) w1
  | .str x => x.length ≤ sizeLine ∧ Q ((x.length : Int) != 0) w1
  | .lst ds => Q (!ds.isEmpty) w1
  | .tup ds => Q (!ds.isEmpty) w1
  | .scr ds => Q (!ds.isEmpty) w1
  | .dK ds => Q (!ds.isEmpty) w1
  | _ => False
theorem isEmpty_len {α β : Type} {xs : List α} {ys : List β} (h : xs.length = ys.length) : xs.isEmpty = ys.isEmpty := by
  cases xs <;> cases ys <;> simp at h <;> rfl
theorem jt_tru {e : Expr} {t : DO z.W} (hK : z.K = X.K) (h : JO X z e t) (he : ∀ whole, isTrue e X.env whole = (do let v ← whole; standAt e.pos; holding [v] (truthy v)) := by exact fun _ => rfl) : JT X z e (dTru t) :=
  PT.imp (pt_truth h he) fun σ H Q ⟨δ, w, F, He, P, R, q, k⟩ => by
    refine ⟨δ, w, F, He, _, R, q, fun d w1 q1 v H1 F1 He1 wd1 st1 r1 => ?_⟩
    have fin : ∀ b, P b w1 → Q b H1 := fun b p => k b w1 p H1 F1 He1 wd1 st1
    show ∃ k, TruV X.K v H1 k ∧ Q k H1
    rw [← hK]
    cases d with
    | non => cases r1.non; exact ⟨_, rfl, fin _ q1⟩
    | bl c => cases r1.bl; exact ⟨_, rfl, fin _ q1⟩
    | int i => cases r1.int; exact ⟨_, rfl, fin _ q1⟩
    | str x => cases r1.str; exact ⟨_, ⟨q1.1, rfl⟩, fin _ q1.2⟩
    | lst ds => obtain ⟨a, vs, rfl, ha, ra⟩ := r1.lst wd1.sf; exact ⟨_, .inl ⟨vs, .of ha, rfl⟩, fin _ (by rw [isEmpty_len ra.length]; exact q1)⟩
    | tup ds => obtain ⟨a, vs, rfl, ha, ra⟩ := r1.tup wd1.sf; exact ⟨_, .inr (.inl ⟨vs, .of ha, rfl⟩), fin _ (by rw [isEmpty_len ra.length]; exact q1)⟩
    | scr ds => obtain ⟨a, rfl, ha⟩ := r1.scr wd1.sf; exact ⟨_, .inl ⟨_, ha, rfl⟩, fin _ (by rw [isEmpty_len (List.length_map (as := ds) V.int)]; exact q1)⟩
    | dK ds => obtain ⟨a, vs, rfl, ha, ra⟩ := r1.dK wd1.sf; exact ⟨_, .inr (.inr ⟨vs, ha, rfl⟩), fin _ (by rw [isEmpty_len ra.length]; exact q1)⟩
    | _ => exact q1.elim
def dTNot {W : Ext} (t : DTs_ W) : DTs_ W := fun δ w Q => t δ w fun k w1 => Q (!k) w1
def dTAnd {W : Ext} (t u : DTs_ W) : DTs_ W := fun δ w Q => t δ w fun k w1 => if k = true then u δ w1 Q else Q false w1
def dTOr {W : Ext} (t u : DTs_ W) : DTs_ W := fun δ w Q => t δ w fun k w1 => if k = true then Q true w1 else u δ w1 Q
theorem jt_not {a : Expr} {t : DTs_ z.W} (h : JT X z a t) : JT X z (.UnaryOp .Not a pos) (dTNot t) := PT.imp (pt_not h) fun σ H Q ⟨δ, w, F, He, P, R, q, k⟩ =>
  ⟨δ, w, F, He, _, R, q, fun b w1 q1 => k _ w1 q1⟩
abbrev JW (X : Cx) (z : Ent) (e : Expr) (t : DTs_ z.W) : Prop := PW X e (liftT z t)
theorem jw_and1 {a : Expr} {t : DTs_ z.W} (h : JT X z a t) : JW X z (.BoolOp .And [a] pos) t := pw_and1 h
theorem jw_or1 {a : Expr} {t : DTs_ z.W} (h : JT X z a t) : JW X z (.BoolOp .Or [a] pos) t := pw_or1 h
theorem jw_and {a b : Expr} {rest : List Expr} {t u : DTs_ z.W} (ha : JT X z a t) (hb : JW X z (.BoolOp .And (b :: rest) pos) u) : JW X z (.BoolOp .And (a :: b :: rest) pos) (dTAnd t u) := PW.imp (pw_and ha hb) fun σ H Q ⟨δ, w, F, He, P, R, q, k⟩ => by
  refine ⟨δ, w, F, He, _, R, q, fun b w1 q1 H1 F1 He1 wd1 st1 => ?_⟩
  cases b with
  | true => exact ⟨δ, w1, F1, He1, _, R.step wd1 st1, q1, fun c w2 q2 H2 F2 He2 wd2 st2 => k c w2 q2 H2 F2 He2 wd2 (st1.trans st2)⟩
  | false => exact k _ w1 q1 H1 F1 He1 wd1 st1
theorem jw_or {a b : Expr} {rest : List Expr} {t u : DTs_ z.W} (ha : JT X z a t) (hb : JW X z (.BoolOp .Or (b :: rest) pos) u) : JW X z (.BoolOp .Or (a :: b :: rest) pos) (dTOr t u) := PW.imp (pw_or ha hb) fun σ H Q ⟨δ, w, F, He, P, R, q, k⟩ => by
  refine ⟨δ, w, F, He, _, R, q, fun b w1 q1 H1 F1 He1 wd1 st1 => ?_⟩
  cases b with
  | false => exact ⟨δ, w1, F1, He1, _, R.step wd1 st1, q1, fun c w2 q2 H2 F2 He2 wd2 st2 => k c w2 q2 H2 F2 He2 wd2 (st1.trans st2)⟩
  | true => exact k _ w1 q1 H1 F1 He1 wd1 st1
theorem jt_w {e : Expr} {t : DTs_ z.W} (h : JW X z e t) : JT X z e t := PW.pt h
/-- as values, all but the last True or False -/
def dAndV {W : Ext} (t u : DX W) : DX W := fun δ w Q => t δ w fun _ d w1 => match d with
  | .bl k => if k = true then u δ w1 Q else Q false (.bl false) w1
  | _ => False
def dOrV {W : Ext} (t u : DX W) : DX W := fun δ w Q => t δ w fun _ d w1 => match d with
  | .bl k => if k = true then Q false (.bl true) w1 else u δ w1 Q
  | _ => False
def dNotV {W : Ext} (t : DX W) : DX W := fun δ w Q => t δ w fun _ d w1 => match d with
  | .bl k => Q false (.bl (!k)) w1
  | _ => False
theorem jx_one {op : BoolOp} {a : Expr} {t : DX z.W} (h : JX X z a t) : JX X z (.BoolOp op [a] pos) t := pe_one h
theorem jx_and {a b : Expr} {rest : List Expr} {t u : DX z.W} (ha : JX X z a t) (hb : JX X z (.BoolOp .And (b :: rest) pos) u) : JX X z (.BoolOp .And (a :: b :: rest) pos) (dAndV t u) := PE.imp (pe_and ha hb) fun σ H Q ⟨δ, w, F, He, P, R, q, k⟩ => by
  refine ⟨δ, w, F, He, _, R, q, fun b d w1 q1 v H1 F1 He1 wd1 st1 r1 => ?_⟩
  cases d with
  | bl c =>
    have := r1.dt.bl; subst v
    refine ⟨c, rfl, ?_⟩
    cases c with
    | true => exact ⟨δ, w1, F1, He1, _, R.step wd1 st1, q1, fun b d w2 q2 v H2 F2 He2 wd2 st2 rr => k b d w2 q2 v H2 F2 He2 wd2 (st1.trans st2) (rr.base st1)⟩
    | false => exact k _ _ w1 q1 _ H1 F1 He1 wd1 st1 (.bl _)
  | _ => exact q1.elim
theorem jx_or {a b : Expr} {rest : List Expr} {t u : DX z.W} (ha : JX X z a t) (hb : JX X z (.BoolOp .Or (b :: rest) pos) u) : JX X z (.BoolOp .Or (a :: b :: rest) pos) (dOrV t u) := PE.imp (pe_or ha hb) fun σ H Q ⟨δ, w, F, He, P, R, q, k⟩ => by
  refine ⟨δ, w, F, He, _, R, q, fun b d w1 q1 v H1 F1 He1 wd1 st1 r1 => ?_⟩
  cases d with
  | bl c =>
    have := r1.dt.bl; subst v
    refine ⟨c, rfl, ?_⟩
    cases c with
    | false => exact ⟨δ, w1, F1, He1, _, R.step wd1 st1, q1, fun b d w2 q2 v H2 F2 He2 wd2 st2 rr => k b d w2 q2 v H2 F2 He2 wd2 (st1.trans st2) (rr.base st1)⟩
    | true => exact k _ _ w1 q1 _ H1 F1 He1 wd1 st1 (.bl _)
  | _ => exact q1.elim
theorem jx_not {a : Expr} {t : DX z.W} (h : JX X z a t) : JX X z (.UnaryOp .Not a pos) (dNotV t) := PE.imp (pe_not h) fun σ H Q ⟨δ, w, F, He, P, R, q, k⟩ => by
  refine ⟨δ, w, F, He, _, R, q, fun b d w1 q1 v H1 F1 He1 wd1 st1 r1 => ?_⟩
  cases d with
  | bl c =>
    have := r1.dt.bl; subst v
    exact ⟨c, rfl, k _ _ w1 q1 _ H1 F1 He1 wd1 st1 (.bl _)⟩
  | _ => exact q1.elim
def dIfX {W : Ext} (c : DTs_ W) (t u : DX W) : DX W := fun δ w Q => c δ w fun k w1 => if k = true then t δ w1 Q else u δ w1 Q
theorem jx_if {c a b : Expr} {tc : DTs_ z.W} {t u : DX z.W} (hc : JT X z c tc) (ha : JX X z a t) (hb : JX X z b u) : JX X z (.IfExp c a b pos) (dIfX tc t u) := PE.imp (pe_ifExp hc ha hb) fun σ H Q ⟨δ, w, F, He, P, R, q, k⟩ => by
  refine ⟨δ, w, F, He, _, R, q, fun c w1 q1 H1 F1 He1 wd1 st1 => ?_⟩
  cases c <;> exact ⟨δ, w1, F1, He1, _, R.step wd1 st1, q1, fun b d w2 q2 v H2 F2 He2 wd2 st2 rr => k b d w2 q2 v H2 F2 He2 wd2 (st1.trans st2) (rr.base st1)⟩
/-- a op b op' c -/
def dChain {W : Ext} (s1 s2 : D → D → (Bool → D → Prop) → Prop) (ta tb tc : DO W) : DX W := fun δ w Q => ta δ w fun d w1 => tb δ w1 fun e w2 => s1 d e fun _ r => match r with
  | .bl k => if k = true then tc δ w2 fun f w3 => s2 e f fun b d' => Q b d' w3 else Q false (.bl false) w2
  | _ => False
theorem chain2 {r r' : R2} {s1 s2 : D → D → (Bool → D → Prop) → Prop} (hs : Sem2 z r s1) (hs' : Sem2 z r' s2) {ta tb tc : DO z.W} {σ : St} {H : Hp} {Q : VK} (h : liftX z (dChain s1 s2 ta tb tc) σ H Q) : tChain r r' (liftO z ta) (liftO z tb) (liftO z tc) σ H Q := by
  obtain ⟨δ, w, F, He, P, R, q, k⟩ := h
  refine ⟨δ, w, F, He, _, R, q, fun d w1 q1 x H1 F1 He1 wd1 st1 r1 => ?_⟩
  refine ⟨δ, w1, F1, He1, _, R.step wd1 st1, q1, fun e w2 q2 y H2 F2 He2 wd2 st2 r2 => ?_⟩
  refine hs w2 F2 He2 H2 x y d e _ _ wd2 (r1.step st2) r2 q2 fun b d' p v H3 F3 He3 wd3 st3 rr => ?_
  have st := st1.trans (st2.trans st3)
  cases d' with
  | bl c =>
    have := rr.dt.bl; subst v
    refine ⟨c, rfl, ?_⟩
    cases c with
    | false => exact k _ _ w2 p _ H3 F3 He3 wd3 st (.bl _)
    | true =>
      refine ⟨δ, w2, F3, He3, _, R.step wd3 st, p, fun f w4 q4 u H4 F4 He4 wd4 st4 r4 => ?_⟩
      exact hs' w4 F4 He4 H4 y u e f _ Q wd4 ((r2.step st3).step st4) r4 q4 fun b d' p v H' F' He' wd s' rr => k b d' w4 p v H' F' He' wd ((st.trans st4).trans s') (rr.base (st.trans st4))
  | _ => exact p.elim
theorem jx_chain {op op' : CmpOp} {r r' : R2} {s1 s2 : D → D → (Bool → D → Prop) → Prop} {a b c : Expr} {ta tb tc : DO z.W} (ho : OpR X (compareOp op) r) (ho' : OpR X (compareOp op') r') (hs : Sem2 z r s1) (hs' : Sem2 z r' s2) (ha : JO X z a ta) (hb : JO X z b tb) (hc : JO X z c tc)
    (hm : lastMarks [op, op'] [b, c] = false := by with_unfolding_all rfl) : JX X z (.Compare a [op, op'] [b, c] pos) (dChain s1 s2 ta tb tc) := PE.imp (pe_chain ho ho' ha hb hc hm) fun _ _ _ h => chain2 hs hs' h
theorem jt_chain {op op' : CmpOp} {r r' : R2} {s1 s2 : D → D → (Bool → D → Prop) → Prop} {a b c : Expr} {ta tb tc : DO z.W} (ho : OpR X (compareOp op) r) (ho' : OpR X (compareOp op') r') (hs : Sem2 z r s1) (hs' : Sem2 z r' s2) (ha : JO X z a ta) (hb : JO X z b tb) (hc : JO X z c tc)
    (hm : lastMarks [op, op'] [b, c] = false := by with_unfolding_all rfl) : JT X z (.Compare a [op, op'] [b, c] pos) (dB (dChain s1 s2 ta tb tc)) := PT.imp (pt_chain ho ho' ha hb hc hm) fun σ H Q ⟨δ, w, F, He, P, R, q, k⟩ => by
  refine chain2 hs hs' ⟨δ, w, F, He, _, R, q, fun b d w' p v H' F' He' wd st r => ?_⟩
  cases d with
  | bl c =>
    have e := r.dt.bl
    subst e
    exact ⟨c, rfl, k c w' p H' F' He' wd st⟩
  | _ => exact p.elim
end
end Lv

/-! ### xs.extend(a tuple) -/
namespace HT
open PySem PySem.AutoSeq1 PySem.Spec
theorem list_extend_tuple_any (l : Addr) (items : Array Value) (n : Nat) (b : Addr) (items2 : Array Value) (n2 : Nat) (dd : Option Addr) (sl : Array (Option Value)) (hs0 : ¬(!items.isEmpty && Builtin.List.listTooLong (items.size + items2.size)) = true) (hs1 : items.size ≤ sizeLine) (hs2 : items.size + items2.size ≤ sizeLine + 1) :
    Meets (Builtin.«list.extend» ⟨[.ref l, .ref b], []⟩) (fun _ R s => s.heap.get? l = some { cls := .type "list", dict := none, data := .seq items n, slots := #[] } ∧ s.heap.get? b = some { cls := .type "tuple", dict := dd, data := .seq items2 n2, slots := sl } ∧ R (.ok (.ret Value.none)) { s with heap := s.heap.update l (Obj.mapSeq fun x => x ++ items2), toks := s.toks }) :=
  .of_wp fun prog w A R s h => by
    obtain ⟨hp, g, d, tk, os⟩ := s; obtain ⟨hl, hb, h⟩ := h; have f1 := idx_int; have f2 := sub_tuple_tuple; have f3 := sub_list_list; have f4 := sub_tuple_list; have f5 := sub_list_tuple;
    have hz' : (items ++ items2).size ≤ sizeLine + 1 := by rw [Array.size_append]; exact hs2
    wp_walk using (wpAny_updateSeq hl rfl (hz := hs1) (_hz' := hz')), wpAny_loadPart' hl, wpAny_loadPart' hb; exact ⟨_, rfl, h⟩
end HT
namespace Lv
open PySem PySem.Spec L2
section
variable {X : Cx}
def rExtendT (K : PySem.W.Frag) : V → List V → Hp → VK → Prop := fun x vs H Q => ∃ l b xs zs, x = .ref l ∧ vs = [.ref b] ∧ H l = some (.lst xs) ∧ SqT K H b zs ∧ xs.length + zs.length ≤ sizeLine ∧ Q .non (upd H l (.lst (xs ++ zs)))
theorem mt_extendT : MtM X "list.extend" (rExtendT X.K) := by
  intro pins s σ H x vs v us Q I rx rv h
  obtain ⟨l, b, xs, zs, rfl, rfl, hH, hB, hz, q⟩ := h
  cases rx
  obtain ⟨u, rfl, ru⟩ := rv.one
  cases ru
  obtain ⟨z, its, n, r, hl, e⟩ := I.lstM hH
  obtain ⟨its2, r2, ⟨⟨cls, dd, data, sl⟩, e2, hc, n2, hd⟩, z2⟩ := I.tuple hB
  simp only at hc hd
  subst hc hd
  have hl2 := r2.length
  have hsz : its.toArray.size + its2.toArray.size ≤ sizeLine := by rw [List.size_toArray, List.size_toArray]; omega
  have hlong : ¬ (!its.toArray.isEmpty && Builtin.List.listTooLong (its.toArray.size + its2.toArray.size)) = true := by
    rw [notLongL hsz, Bool.and_false]
    exact Bool.false_ne_true
  refine call_meets F.slot_list_extend ⟨_, e, rfl⟩ F.entry_list_extend (F.args_list_extend_2 _ _)
    (HT.list_extend_tuple_any l its.toArray n b its2.toArray n2 dd sl hlong (by rw [List.size_toArray]; omega) (by omega)) ⟨e, e2, ?_⟩
  refine ⟨.non, _, I.lset (its' := its ++ its2) hH e (by simp) (r.append r2) ?_, rfl, q⟩
  rw [List.length_append]
  omega
end
section
variable {z : Ent} {δ : DSt} {w : z.W.Om} {F He H F' He' H' : Hp} {σ : St} {i : Nat} {v : V} {d : D}
theorem get_set {α : Type} {l : List α} {i j : Nat} {x y : α} (h : (l.set i x)[j]? = some y) : (i = j ∧ y = x) ∨ (i ≠ j ∧ l[j]? = some y) := by
  by_cases e : i = j
  · subst e
    by_cases hl : i < l.length
    · rw [List.getElem?_set_self hl] at h
      exact .inl ⟨rfl, (Option.some.inj h).symm⟩
    · rw [List.getElem?_eq_none (by simpa using hl)] at h; cases h
  · rw [List.getElem?_set_ne e] at h; exact .inr ⟨e, h⟩
/-- a name is given a value -/
theorem Rel.assign {b : Bool} {w' : z.W.Om} (R : Rel z δ w F He σ H) (wd : Wd z.W z.K w' F' He' H') (st : Step F He H F' He' H') (r : Res z.K F' He' H H' b v d) : Rel z (δ.set i (some (b, d))) w' F' He' (σ.set i (some v)) H' := by
  have R' := R.step wd st
  refine ⟨wd, R'.st, by rw [List.length_set, List.length_set]; exact R.len, fun j s e => ?_, fun j k d1 d2 a e1 e2 a1 a2 => ?_⟩
  · rcases get_set e with ⟨rfl, rfl⟩ | ⟨hj, e'⟩
    · have hi : i < δ.length := by
        have := (List.getElem?_eq_some_iff.mp e).1
        simpa using this
      refine ⟨some v, List.getElem?_set_self (by rw [R.len]; exact hi), ?_⟩
      cases b with
      | false => exact ⟨v, rfl, r⟩
      | true =>
        obtain ⟨a, o, e, ho, n, m, f, q⟩ := r
        exact ⟨a, o, by rw [e], ho, n, m, Classical.byContradiction fun q => R.st.dom a q f, q⟩
    · obtain ⟨u, hu, q⟩ := R'.sl j s e'
      exact ⟨u, by rw [List.getElem?_set_ne hj]; exact hu, q⟩
  · have key : ∀ (j : Nat) (d1 : D) (a : Addr), i ≠ j → δ[j]? = some (some (true, d1)) → σ[j]? = some (some (.ref a)) → H a ≠ none := by
      intro j d1 a _ e1 a1
      obtain ⟨u, hu, a', o, e, ho, _⟩ := R.sl j _ e1
      rw [a1] at hu
      cases hu
      cases e
      rw [ho]; exact fun q => nomatch q
    rcases get_set e1 with ⟨hj, x1⟩ | ⟨hj, e1'⟩ <;> rcases get_set e2 with ⟨hk, x2⟩ | ⟨hk, e2'⟩
    · exact hj.symm.trans hk
    · subst hj
      cases x1
      obtain ⟨a0, o, e, ho, n, m, f, q⟩ := r
      rcases get_set a1 with ⟨_, y⟩ | ⟨hh, _⟩
      · cases y
        cases e
        rw [List.getElem?_set_ne hk] at a2
        exact absurd f (key k d2 a hk e2' a2)
      · exact absurd rfl hh
    · subst hk
      cases x2
      obtain ⟨a0, o, e, ho, n, m, f, q⟩ := r
      rcases get_set a2 with ⟨_, y⟩ | ⟨hh, _⟩
      · cases y
        cases e
        rw [List.getElem?_set_ne hj] at a1
        exact absurd f (key j d1 a hj e1' a1)
      · exact absurd rfl hh
    · rw [List.getElem?_set_ne hj] at a1
      rw [List.getElem?_set_ne hk] at a2
      exact R.inj j k d1 d2 a e1' e2' a1 a2
theorem Rel.put (R : Rel z δ w F He σ H) (r : DR z.K F v d) : Rel z (δ.set i (some (false, d))) w F He (σ.set i (some v)) H := R.assign (b := false) R.wd .refl r
/-- an own container is written -/
theorem Rel.write {a : Addr} {o' : HO} {d' : D} (R : Rel z δ w F He σ H) (e : δ[i]? = some (some (true, d))) (hs : σ[i]? = some (some (.ref a))) (r : OR z.K F o' d') : Rel z (δ.set i (some (true, d'))) w F He σ (upd H a o') := by
  obtain ⟨u, hu, a', o, ea, ho, n, m, f, q⟩ := R.sl i _ e
  rw [hs] at hu
  cases hu
  cases ea
  have hne : ∀ (b : Addr) (u : HO), F b = some u → b ≠ a := fun b u h z => by subst z; rw [n] at h; cases h
  have hne2 : ∀ (b : Addr) (u : HO), He b = some u → b ≠ a := fun b u h z => by subst z; rw [m] at h; cases h
  refine ⟨⟨fun b u h => by rw [upd_ne (hne b u h)]; exact R.wd.sf b u h, fun b u h => by rw [upd_ne (hne2 b u h)]; exact R.wd.sh b u h, R.wd.dj, R.wd.ex⟩,
    ⟨R.st.fz, R.st.fzN, R.st.heN, fun b u h x => by
      rw [upd_ne (fun z => by subst z; rw [f] at h; cases h)]; exact R.st.keep b u h x, fun b h => by
      by_cases hb : b = a
      · subst hb; exact absurd f h
      · rw [upd_ne hb]; exact R.st.dom b h⟩, by rw [List.length_set]; exact R.len, fun j s es => ?_, fun j k d1 d2 c e1 e2 a1 a2 => ?_⟩
  · rcases get_set es with ⟨rfl, rfl⟩ | ⟨hj, e'⟩
    · exact ⟨_, hs, a, o', rfl, upd_same, n, m, f, r⟩
    · obtain ⟨u, hu, q'⟩ := R.sl j s e'
      refine ⟨u, hu, ?_⟩
      match s, q' with
      | none, _ => exact True.intro
      | some (false, d1), q' => exact q'
      | some (true, d1), ⟨c, oc, ec, hc, nc, mc, fc, qc⟩ =>
        refine ⟨c, oc, ec, ?_, nc, mc, fc, qc⟩
        have hca : c ≠ a := fun z => by
          subst z
          rw [ec] at hu
          exact hj (R.inj i j d d1 c e e' hs hu)
        rw [upd_ne hca]; exact hc
  · have h1 : ∃ x, δ[j]? = some (some (true, x)) := by
      rcases get_set e1 with ⟨rfl, _⟩ | ⟨_, e'⟩
      · exact ⟨_, e⟩
      · exact ⟨_, e'⟩
    have h2 : ∃ x, δ[k]? = some (some (true, x)) := by
      rcases get_set e2 with ⟨rfl, _⟩ | ⟨_, e'⟩
      · exact ⟨_, e⟩
      · exact ⟨_, e'⟩
    obtain ⟨x1, h1⟩ := h1
    obtain ⟨x2, h2⟩ := h2
    exact R.inj j k x1 x2 c h1 h2 a1 a2
/-- an own container is frozen -/
def frzD (δ : DSt) (i : Nat) : DSt := match δ[i]? with
  | some (some (_, d)) => δ.set i (some (false, d))
  | _ => δ
theorem Rel.frz (R : Rel z δ w F He σ H) (i : Nat) : ∃ F', Rel z (frzD δ i) w F' He σ H ∧ Same F F' := by
  unfold frzD
  split
  · next b d e =>
    obtain ⟨u, hu, q⟩ := R.sl i _ e
    cases b with
    | false =>
      refine ⟨F, ?_⟩
      have e2 : δ.set i (some (false, d)) = δ := by
        apply List.ext_getElem?
        intro j
        by_cases hj : i = j
        · subst hj
          rw [List.getElem?_set_self (List.getElem?_eq_some_iff.mp e).1, e]
        · rw [List.getElem?_set_ne hj]
      rw [e2]; exact ⟨R, Same.refl _⟩
    | true =>
      obtain ⟨a, o, rfl, ho, n, m, f, q⟩ := q
      refine ⟨upd F a o, ⟨R.wd.freeze ho n m, R.st.freeze n f, by rw [List.length_set]; exact R.len, fun j s es => ?_, fun j k d1 d2 c e1 e2 a1 a2 => ?_⟩, same_upd n⟩
      · rcases get_set es with ⟨rfl, rfl⟩ | ⟨hj, e'⟩
        · exact ⟨_, hu, .ref a, rfl, (q.mono (same_upd n)).frozen upd_same⟩
        · obtain ⟨u, hu', q'⟩ := R.sl j s e'
          refine ⟨u, hu', ?_⟩
          match s, q' with
          | none, _ => exact True.intro
          | some (false, d1), ⟨x, ex, qx⟩ => exact ⟨x, ex, qx.mono (same_upd n)⟩
          | some (true, d1), ⟨c, oc, ec, hc, nc, mc, fc, qc⟩ =>
            have hca : c ≠ a := fun z => by
              subst z
              rw [ec] at hu'
              exact hj (R.inj i j d d1 c e e' hu hu')
            exact ⟨c, oc, ec, hc, by rw [upd_ne hca]; exact nc, mc, fc, qc.mono (same_upd n)⟩
      · rcases get_set e1 with ⟨_, x⟩ | ⟨_, e1'⟩
        · cases x
        · rcases get_set e2 with ⟨_, x⟩ | ⟨_, e2'⟩
          · cases x
          · exact R.inj j k d1 d2 c e1' e2' a1 a2
  · exact ⟨F, R, Same.refl _⟩
end

/-! ### statements -/
section
variable {X : Cx} {z : Ent} {pos : Pos}
def dNext {W : Ext} : DS W := fun E δ w => E.nx δ w
def dSeq {W : Ext} (t u : DS W) : DS W := fun E δ w => t { E with nx := u E } δ w
theorem jss_nil : JSs X z [] dNext := PSs.imp pss_nil fun D σ H ⟨δ, w, F, He, E, R, q, c⟩ => c.nx _ _ _ _ _ _ q R (Same.refl _)
theorem jss_cons {st : Stmt} {rest : List Stmt} {t u : DS z.W} (h1 : JS X z st t) (h2 : JSs X z rest u) : JSs X z (st :: rest) (dSeq t u) := PSs.imp (pss_cons h1 h2) fun D σ H ⟨δ, w, F, He, E, R, q, c⟩ =>
  ⟨δ, w, F, He, _, R, q, ⟨fun δ' w' F' He' σ' H' n R' s' => ⟨δ', w', F', He', E, R', n, c.mono s'⟩, c.rt, c.bk, c.ct⟩⟩
theorem jss_one {st : Stmt} {t : DS z.W} (h : JS X z st t) : JSs X z [st] t := pss_one h
def dFrz {W : Ext} (i : Nat) (t : DS W) : DS W := fun E δ w => t E (frzD δ i) w
theorem js_frz {st : Stmt} {t : DS z.W} (i : Nat) (h : JS X z st t) : JS X z st (dFrz i t) := PS.imp h fun D σ H ⟨δ, w, F, He, E, R, q, c⟩ => let ⟨F', R', s'⟩ := R.frz i; ⟨_, w, F', He, E, R', q, c.mono s'⟩
/-- x = e; the container is one's own from then on, or it isn't -/
def dSet {W : Ext} (own : Bool) (i : Nat) (t : DX W) : DS W := fun E δ w => t δ w fun b d w1 => E.nx (δ.set i (some (b && own, d))) w1
theorem asg_set {own : Bool} {i : Nat} {t : DX z.W} {D : Ends} {σ : St} {H : Hp} (h : liftS z (dSet own i t) D σ H) : tAsg (liftX z t) (gName i) D σ H := by
  obtain ⟨δ, w, F, He, E, R, q, c⟩ := h
  refine ⟨δ, w, F, He, _, R, q, fun b d w1 q1 v H1 F1 He1 wd1 st1 r1 => ?_⟩
  cases own with
  | true => rw [Bool.and_true] at q1; exact c.nx _ _ _ _ _ _ q1 (R.assign wd1 st1 r1) st1.fz
  | false =>
    rw [Bool.and_false] at q1
    obtain ⟨F2, st2, wd2, r2, _⟩ := r1.thaw st1 wd1
    exact c.nx _ _ _ _ _ _ q1 (R.assign (b := false) wd2 st2 r2) st2.fz
theorem js_set {i : Nat} {x : Str} {e : Expr} {t : DX z.W} {pos' : Pos} (own : Bool) (hN : X.N.Nodup) (he : JX X z e t) (hi : X.N[i]? = some x := by rfl) (hx : Loc X.env.scope x := by first | exact Or.inl rfl | exact Or.inr rfl)
    (hs : swapsWith e (some (.Name x pos')) pos.line X.env = pure false := by rfl) (hf : X.fn x = true ∨ X.env.scope.names.lookup x = some .local := by first | exact .inl rfl | exact .inr rfl) : JS X z (.Assign [.Name x pos'] e pos) (dSet own i t) :=
  PS.imp (ps_set hN hi hx he hs hf) fun _ _ _ h => asg_set h
/-- x op= e, numbers or texts -/
def dAug {W : Ext} (i : Nat) (sem : D → D → (Bool → D → Prop) → Prop) (t : DO W) : DS W := fun E δ w => match δ[i]? with
  | some (some (false, d)) => t δ w fun e w1 => sem d e fun b r => E.nx (δ.set i (some (b, r))) w1
  | _ => False
theorem js_aug {i : Nat} {x : Str} {e : Expr} {t : DO z.W} {op : Operator} {r : R2} {sem : D → D → (Bool → D → Prop) → Prop} {pos' : Pos} (ho : OpR X (inplaceOp op) r) (hs : Sem2 z r sem) (hN : X.N.Nodup) (he : JO X z e t) (hi : X.N[i]? = some x := by rfl) (hx : Loc X.env.scope x := by first | exact Or.inl rfl | exact Or.inr rfl)
    (hf : X.fn x = true ∨ X.env.scope.names.lookup x = some .local := by first | exact .inl rfl | exact .inr rfl) : JS X z (.AugAssign (.Name x pos') op e pos) (dAug i sem t) :=
  PS.imp (ps_aug (ti := r) hN hi hx he (fun pins s σ H x y v u Q I rx ry h => augR ho I rx ry h) hf) fun D σ H ⟨δ, w, F, He, E, R, q, c⟩ => by
    unfold dAug at q
    split at q
    · next d e =>
      obtain ⟨u, hu, v, rfl, rv⟩ := R.sl i _ e
      refine ⟨v, hu, δ, w, F, He, _, R, q, fun d2 w1 q1 y H1 F1 He1 wd1 st1 r1 => ?_⟩
      refine hs w1 F1 He1 H1 v y d d2 _ _ wd1 (.inl (rv.mono st1.fz)) r1 q1 fun b d' p v' H2 F2 He2 wd2 st2 rr => ?_
      exact c.nx _ _ _ _ _ _ p (R.assign wd2 (st1.trans st2) (rr.base st1)) (st1.trans st2).fz
    · exact q.elim
def rAddI : R2 := fun x y H Q => (∃ i j, x = .int i ∧ y = .int j ∧ Q (.int (i + j)) H) ∨ ∃ i j, x = .str i ∧ y = .str j ∧ i.length + j.length ≤ sizeLine ∧ Q (.str (i ++ j)) H
theorem iop_addI : OpR X (inplaceOp .Add) rAddI := iop_add.or iop_add_str
def sAddI (d e : D) (P : Bool → D → Prop) : Prop := match d, e with
  | .int i, .int j => P false (.int (i + j))
  | .str x, .str y => x.length + y.length ≤ sizeLine ∧ P false (.str (x ++ y))
  | _, _ => False
theorem sem_addI : Sem2 z rAddI sAddI := fun w F He H x y d e P Q wd dx dy q k => by
  unfold sAddI at q
  split at q
  · exact .inl ⟨_, _, dx.int, dy.int, k _ _ q _ H F He wd .refl (.int _)⟩
  · exact .inr ⟨_, _, dx.str, dy.str, q.1, k _ _ q.2 _ H F He wd .refl (.str _)⟩
  · exact q.elim
/-- a call as a statement -/
def dDrop {W : Ext} (t : DX W) : DS W := fun E δ w => t δ w fun _ _ w1 => E.nx δ w1
theorem js_expr {e : Expr} {t : DX z.W} (he : JX X z e t) (hs : swapsWith e none pos.line X.env = pure false := by rfl) : JS X z (.Expr e pos) (dDrop t) := PS.imp (ps_expr he hs) fun D σ H ⟨δ, w, F, He, E, R, q, c⟩ =>
  ⟨δ, w, F, He, _, R, q, fun b d w1 q1 v H1 F1 He1 wd1 st1 r1 => c.nx _ _ _ _ _ _ q1 (R.step wd1 st1) st1.fz⟩
def dRet {W : Ext} (t : DX W) : DS W := fun E δ w => t δ w E.rt
theorem js_ret {e : Expr} {t : DX z.W} (he : JX X z e t) : JS X z (.Return (some e) pos) (dRet t) := PS.imp (ps_ret he) fun D σ H ⟨δ, w, F, He, E, R, q, c⟩ =>
  ⟨δ, w, F, He, _, R, q, fun b d w1 q1 v H1 F1 He1 wd1 st1 r1 => c.rt _ _ _ q1 v H1 F1 He1 wd1 (R.st.trans st1) (r1.base R.st)⟩
def dRetV {W : Ext} (i : Nat) : DS W := fun E δ w => match δ[i]? with
  | some (some (b, d)) => E.rt b d w
  | _ => False
theorem js_retV {i : Nat} {e : Expr} (he : PE X e (tVar i)) : JS X z (.Return (some e) pos) (dRetV i) := PS.imp (ps_ret he) fun D σ H ⟨δ, w, F, He, E, R, q, c⟩ => by
  unfold dRetV at q
  split at q
  · next b d e =>
    obtain ⟨u, hu, r⟩ := R.sl i _ e
    cases b with
    | false => obtain ⟨v, rfl, r⟩ := r; exact ⟨v, hu, c.rt _ _ _ q v H F He R.wd R.st r⟩
    | true => obtain ⟨a, o, rfl, ho, n, m, f, r⟩ := r; exact ⟨.ref a, hu, c.rt _ _ _ q _ H F He R.wd R.st ⟨a, o, rfl, ho, n, m, f, r⟩⟩
  · exact q.elim
def dRetN {W : Ext} : DS W := fun E _ w => E.rt false .non w
theorem js_retN : JS X z (.Return none pos) dRetN := PS.imp ps_retN fun D σ H ⟨δ, w, F, He, E, R, q, c⟩ => c.rt _ _ _ q _ H F He R.wd R.st .non
def dBreak {W : Ext} : DS W := fun E δ w => E.bk δ w
def dCont {W : Ext} : DS W := fun E δ w => E.ct δ w
theorem js_break : JS X z (.Break pos) dBreak := PS.imp ps_break fun D σ H ⟨δ, w, F, He, E, R, q, c⟩ => c.bk _ _ _ _ _ _ q R (Same.refl _)
theorem js_cont : JS X z (.Continue pos) dCont := PS.imp ps_continue fun D σ H ⟨δ, w, F, He, E, R, q, c⟩ => c.ct _ _ _ _ _ _ q R (Same.refl _)
theorem js_pass : JS X z (.Pass pos) dNext := PS.imp ps_pass fun D σ H ⟨δ, w, F, He, E, R, q, c⟩ => c.nx _ _ _ _ _ _ q R (Same.refl _)
def dIf {W : Ext} (c : DTs_ W) (t u : DS W) : DS W := fun E δ w => c δ w fun k w1 => if k = true then t E δ w1 else u E δ w1
theorem js_if {c : Expr} {a b : List Stmt} {tc : DTs_ z.W} {t u : DS z.W} (hc : JT X z c tc) (ha : JSs X z a t) (hb : JSs X z b u) : JS X z (.If c a b pos) (dIf tc t u) := PS.imp (ps_if hc ha hb) fun D σ H ⟨δ, w, F, He, E, R, q, cn⟩ => by
  refine ⟨δ, w, F, He, _, R, q, fun k w1 q1 H1 F1 He1 wd1 st1 => ?_⟩
  cases k <;> exact ⟨δ, w1, F1, He1, E, R.step wd1 st1, q1, cn.mono st1.fz⟩
/-- while: n turns at most -/
def wN {W : Ext} (c : DTs_ W) (t : DS W) (E : DEnds W) : Nat → DSt → W.Om → Prop
  | 0, _, _ => False
  | n + 1, δ, w => c δ w fun k w1 => if k = true then t { E with nx := wN c t E n, ct := wN c t E n, bk := E.nx } δ w1 else E.nx δ w1
def dWhile {W : Ext} (c : DTs_ W) (t : DS W) : DS W := fun E δ w => ∃ n, wN c t E n δ w
theorem js_while {c : Expr} {body : List Stmt} {tc : DTs_ z.W} {t : DS z.W} (hp : PassesOwn (model X.prog X.w) X.A X.env X.xe) (hc : JT X z c tc) (hb : JSs X z body t) : JS X z (.While c body [] pos) (dWhile tc t) :=
  PS.imp (ps_while hp hc hb) fun D σ H ⟨δ, w, F, He, E, R, q, cn⟩ => by
    obtain ⟨n, q⟩ := q
    refine ⟨fun m σ H => ∃ δ w F' He, Rel z δ w F' He σ H ∧ Same F F' ∧ wN tc t E m δ w, ⟨n, δ, w, F, He, R, Same.refl _, q⟩, ?_⟩
    rintro m σ H ⟨δ, w, F', He, R, s', q⟩
    cases m with
    | zero => exact q.elim
    | succ m =>
      refine ⟨δ, w, F', He, _, R, q, fun k w1 q1 H1 F1 He1 wd1 st1 => ?_⟩
      cases k with
      | false => exact cn.nx _ _ _ _ _ _ q1 (R.step wd1 st1) (s'.trans st1.fz)
      | true =>
        have s1 := s'.trans st1.fz
        refine ⟨fun σ' H' => ∃ δ w F' He, Rel z δ w F' He σ' H' ∧ Same F F' ∧ wN tc t E m δ w, fun σ' H' h => ⟨m, Nat.lt_succ_self m, h⟩, ?_⟩
        exact ⟨δ, w1, F1, He1, _, R.step wd1 st1, q1, ⟨fun δ' w' F' He' σ' H' p r s => ⟨δ', w', F', He', r, s1.trans s, p⟩, cn.rt, fun δ' w' F' He' σ' H' p r s => cn.nx _ _ _ _ _ _ p r (s1.trans s), fun δ' w' F' He' σ' H' p r s => ⟨δ', w', F', He', r, s1.trans s, p⟩⟩⟩
end
end Lv

namespace Lv
open PySem PySem.Spec L2
section
variable {X : Cx} {z : Ent} {pos : Pos}

/-! ### containers changed in place: x.m(e), x[i] = e -/
/-- what a name's own container is, at a state -/
theorem own_at {δ : DSt} {w : z.W.Om} {F He H : Hp} {σ : St} {i : Nat} {d : D} (R : Rel z δ w F He σ H) (e : δ[i]? = some (some (true, d))) : ∃ a o, σ[i]? = some (some (.ref a)) ∧ H a = some o ∧ He a = none ∧ OR z.K F o d := by
  obtain ⟨u, hu, a, o, rfl, ho, n, m, f, q⟩ := R.sl i _ e
  exact ⟨a, o, hu, ho, m, q⟩
/-- x.append(e) -/
def dApp {W : Ext} (i : Nat) (t : DX W) : DS W := fun E δ w => match δ[i]? with
  | some (some (true, .lst ds)) => t δ w fun _ d w1 => ds.length < sizeLine ∧ E.nx (δ.set i (some (true, .lst (ds ++ [d])))) w1
  | _ => False
theorem js_app {i : Nat} {o e : Expr} {t : DX z.W} {apos cpos : Pos} (hK : z.K = X.K) (ho : PE X o (tVar i)) (he : JX X z e t)
    (hbase : attributeBase o "append" X.env (eval o X.env) = eval o X.env := by rfl)
    (hfew : ((backTo cpos (starEach [e] X.env)).all (fun x => !x.1) && (backToKw cpos (keywordEach [] X.env)).all (fun x => x.1.isSome)
      && decide (([e] : List Expr).length + ([] : List Keyword).length + (if ([] : List Keyword).isEmpty then 0 else 1) < 30)) = true := by rfl)
    (hline : (apos.endLine == cpos.line) = true := by rfl) (hs : starEach [e] X.env = (false, eval e X.env) :: starEach [] X.env := by rfl) (hplain : (backTo cpos (starEach [] X.env)).any (·.1) = false := by rfl)
    (hsw : swapsWith (.Call (.Attribute o "append" apos) [e] [] cpos) none pos.line X.env = pure false := by rfl) : JS X z (.Expr (.Call (.Attribute o "append" apos) [e] [] cpos) pos) (dApp i t) :=
  PS.imp (ps_expr (pe_bm PySem.F.plainAttrs_list PySem.F.slot_list_append PySem.F.type_list_append mt_append ho (pa_cons he pa_nil hs) hbase hfew hline hs hplain) hsw) fun D σ H ⟨δ, w, F, He, E, R, q, c⟩ => by
    unfold dApp at q
    split at q
    · next ds e =>
      obtain ⟨a, ob, hs, ha, m, r⟩ := own_at R e
      cases r with
      | lst r =>
        refine ⟨.ref a, hs, .inl ⟨rfl, _, .of ha⟩, δ, w, F, He, _, R, q, fun b d w1 q1 v H1 F1 He1 wd1 st1 r1 => ?_⟩
        obtain ⟨F2, st2, wd2, r2, s2⟩ := r1.thaw st1 wd1
        have R2 := R.step wd2 st2
        refine ⟨a, _, v, rfl, rfl, st2.keep a _ ha m, by rw [r.length]; exact q1.1, ?_⟩
        exact c.nx _ _ _ _ _ _ q1.2 (R2.write e hs (.lst ((r.mono st2.fz).append (.cons r2 .nil)))) st2.fz
    · exact q.elim
/-- x.extend(e), e a list or a tuple -/
def dExt {W : Ext} (i : Nat) (t : DO W) : DS W := fun E δ w => match δ[i]? with
  | some (some (true, .lst ds)) => t δ w fun d w1 => match d with
    | .lst es => ds.length + es.length ≤ sizeLine ∧ E.nx (δ.set i (some (true, .lst (ds ++ es)))) w1
    | .tup es => ds.length + es.length ≤ sizeLine ∧ E.nx (δ.set i (some (true, .lst (ds ++ es)))) w1
    | _ => False
  | _ => False
theorem js_ext {i : Nat} {o e : Expr} {t : DO z.W} {apos cpos : Pos} (hK : z.K = X.K) (ho : PE X o (tVar i)) (he : JO X z e t)
    (hbase : attributeBase o "extend" X.env (eval o X.env) = eval o X.env := by rfl)
    (hfew : ((backTo cpos (starEach [e] X.env)).all (fun x => !x.1) && (backToKw cpos (keywordEach [] X.env)).all (fun x => x.1.isSome)
      && decide (([e] : List Expr).length + ([] : List Keyword).length + (if ([] : List Keyword).isEmpty then 0 else 1) < 30)) = true := by rfl)
    (hline : (apos.endLine == cpos.line) = true := by rfl) (hs : starEach [e] X.env = (false, eval e X.env) :: starEach [] X.env := by rfl) (hplain : (backTo cpos (starEach [] X.env)).any (·.1) = false := by rfl)
    (hsw : swapsWith (.Call (.Attribute o "extend" apos) [e] [] cpos) none pos.line X.env = pure false := by rfl) : JS X z (.Expr (.Call (.Attribute o "extend" apos) [e] [] cpos) pos) (dExt i t) :=
  PS.imp (ps_expr (pe_bm PySem.F.plainAttrs_list PySem.F.slot_list_extend PySem.F.type_list_extend (MtR.or mt_extend mt_extendT) ho (pa_cons he pa_nil hs) hbase hfew hline hs hplain) hsw) fun D σ H ⟨δ, w, F, He, E, R, q, c⟩ => by
    unfold dExt at q
    split at q
    · next ds e =>
      obtain ⟨a, ob, hs, ha, m, r⟩ := own_at R e
      cases r with
      | lst r =>
        refine ⟨.ref a, hs, .inl ⟨rfl, _, .of ha⟩, δ, w, F, He, _, R, q, fun d w1 q1 v H1 F1 He1 wd1 st1 r1 => ?_⟩
        have R2 := R.step wd1 st1
        split at q1
        · obtain ⟨b, vs, rfl, hb, rb⟩ := r1.lst wd1.sf
          refine .inl ⟨a, b, _, vs, rfl, rfl, st1.keep a _ ha m, hb, by rw [r.length, rb.length]; exact q1.1, ?_⟩
          exact c.nx _ _ _ _ _ _ q1.2 (R2.write e hs (.lst ((r.mono st1.fz).append rb))) st1.fz
        · obtain ⟨b, vs, rfl, hb, rb⟩ := r1.tup wd1.sf
          refine .inr ⟨a, b, _, vs, rfl, rfl, st1.keep a _ ha m, .of hb, by rw [r.length, rb.length]; exact q1.1, ?_⟩
          exact c.nx _ _ _ _ _ _ q1.2 (R2.write e hs (.lst ((r.mono st1.fz).append rb))) st1.fz
        · exact q1.elim
    · exact q.elim
/-- x.pop(), x.clear(), x.reverse() as statements -/
def dUpd0 {W : Ext} (i : Nat) (f : List D → Option (List D)) : DS W := fun E δ w => match δ[i]? with
  | some (some (true, .lst ds)) => match f ds with
    | some es => E.nx (δ.set i (some (true, .lst es))) w
    | none => False
  | _ => False
def fPop (ds : List D) : Option (List D) := if ds.isEmpty then none else some ds.dropLast
theorem js_pop {i : Nat} {o : Expr} {apos cpos : Pos} (hK : z.K = X.K) (ho : PE X o (tVar i))
    (hbase : attributeBase o "pop" X.env (eval o X.env) = eval o X.env := by rfl) (hline : (apos.endLine == cpos.line) = true := by rfl)
    (hsw : swapsWith (.Call (.Attribute o "pop" apos) [] [] cpos) none pos.line X.env = pure false := by rfl) : JS X z (.Expr (.Call (.Attribute o "pop" apos) [] [] cpos) pos) (dUpd0 i fPop) :=
  PS.imp (ps_expr (pe_bm0 PySem.F.plainAttrs_list PySem.F.slot_list_pop PySem.F.type_list_pop mt_pop ho hbase hline) hsw) fun D σ H ⟨δ, w, F, He, E, R, q, c⟩ => by
    unfold dUpd0 fPop at q
    split at q
    · next ds e =>
      obtain ⟨a, ob, hs, ha, m, r⟩ := own_at R e
      cases r with
      | @lst vs _ r =>
        by_cases h0 : ds.isEmpty = true
        · rw [if_pos h0] at q; exact q.elim
        · rw [if_neg h0] at q
          have hl := r.length
          have h1 : vs.length - 1 < vs.length := by
            have : ds.length ≠ 0 := fun z => h0 (by simp at z; simp [z])
            omega
          refine ⟨.ref a, hs, .inl ⟨rfl, _, .of ha⟩, a, _, vs[vs.length - 1], rfl, rfl, ha, by simp [h1], ?_⟩
          exact c.nx _ _ _ _ _ _ q (R.write e hs (.lst r.dropLast)) (Same.refl _)
    · exact q.elim
theorem js_clear {i : Nat} {o : Expr} {apos cpos : Pos} (hK : z.K = X.K) (ho : PE X o (tVar i))
    (hbase : attributeBase o "clear" X.env (eval o X.env) = eval o X.env := by rfl) (hline : (apos.endLine == cpos.line) = true := by rfl)
    (hsw : swapsWith (.Call (.Attribute o "clear" apos) [] [] cpos) none pos.line X.env = pure false := by rfl) : JS X z (.Expr (.Call (.Attribute o "clear" apos) [] [] cpos) pos) (dUpd0 i fun _ => some []) :=
  PS.imp (ps_expr (pe_bm0 PySem.F.plainAttrs_list PySem.F.slot_list_clear PySem.F.type_list_clear mt_clear ho hbase hline) hsw) fun D σ H ⟨δ, w, F, He, E, R, q, c⟩ => by
    unfold dUpd0 at q
    split at q
    · next ds e =>
      obtain ⟨a, ob, hs, ha, m, r⟩ := own_at R e
      cases r with
      | @lst vs _ r => exact ⟨.ref a, hs, .inl ⟨rfl, _, .of ha⟩, a, _, rfl, rfl, ha, c.nx _ _ _ _ _ _ q (R.write e hs (.lst .nil)) (Same.refl _)⟩
    · exact q.elim
theorem js_reverse {i : Nat} {o : Expr} {apos cpos : Pos} (hK : z.K = X.K) (ho : PE X o (tVar i))
    (hbase : attributeBase o "reverse" X.env (eval o X.env) = eval o X.env := by rfl) (hline : (apos.endLine == cpos.line) = true := by rfl)
    (hsw : swapsWith (.Call (.Attribute o "reverse" apos) [] [] cpos) none pos.line X.env = pure false := by rfl) : JS X z (.Expr (.Call (.Attribute o "reverse" apos) [] [] cpos) pos) (dUpd0 i fun ds => some ds.reverse) :=
  PS.imp (ps_expr (pe_bm0 PySem.F.plainAttrs_list PySem.F.slot_list_reverse PySem.F.type_list_reverse mt_reverse ho hbase hline) hsw) fun D σ H ⟨δ, w, F, He, E, R, q, c⟩ => by
    unfold dUpd0 at q
    split at q
    · next ds e =>
      obtain ⟨a, ob, hs, ha, m, r⟩ := own_at R e
      cases r with
      | @lst vs _ r => exact ⟨.ref a, hs, .inl ⟨rfl, _, .of ha⟩, a, _, rfl, rfl, ha, c.nx _ _ _ _ _ _ q (R.write e hs (.lst r.reverse)) (Same.refl _)⟩
    · exact q.elim
/-- x[k] = e -/
def sPut (c k d : D) (P : D → Prop) : Prop := match c, k with
  | .lst ds, .int j => ∃ n, ixN ds.length j = some n ∧ P (.lst (ds.set n d))
  | .dK kvs, .int j => kvs.length < sizeLine ∧ P (.dK (putD kvs (.inl j) d))
  | .dK kvs, .str j => kvs.length < sizeLine ∧ P (.dK (putD kvs (.inr j) d))
  | .dT kvs, .tup ks => ∃ js, ks = js.map kD ∧ kvs.length < sizeLine ∧ P (.dT (putD kvs js d))
  | _, _ => False
def dPut {W : Ext} (i : Nat) (tk : DO W) (t : DX W) : DS W := fun E δ w => match δ[i]? with
  | some (some (true, c)) => t δ w fun _ d w1 => tk δ w1 fun k w2 => sPut c k d fun c' => E.nx (δ.set i (some (true, c'))) w2
  | _ => False
theorem PSet.or {t t' : TSet} (h : PSet X t) (h' : PSet X t') : PSet X (fun o i v H Q => t o i v H Q ∨ t' o i v H Q) := fun pins s σ H o i v ov iv u Q I r1 r2 r3 q => by
  rcases q with q | q
  · exact h pins s σ H o i v ov iv u Q I r1 r2 r3 q
  · exact h' pins s σ H o i v ov iv u Q I r1 r2 r3 q
theorem js_put {i : Nat} {o k e : Expr} {tk : DO z.W} {t : DX z.W} {spos : Pos} (hK : z.K = X.K) (hu : X.A.units + 1 < cLine) (ho : PE X o (tVar i)) (hk : JO X z k tk) (he : JX X z e t)
    (hs : swapsWithSole [.Subscript o k spos] e pos.line X.env = pure false := by rfl) (hw : swappedStores [.Subscript o k spos] e X.env = pure none := by rfl)
    (h1 : (assignEach [.Subscript o k spos] X.env).map (·.2) = [assign (.Subscript o k spos) X.env] := by rfl)
    (ha : ∀ v, assign (.Subscript o k spos) X.env v = (do
      let ov ← holding [v] (eval o X.env)
      let iv ← holding [v, ov] (eval k X.env)
      standAt spos
      holding [v, ov, iv] (setItem ov iv v)
      release [v, ov, iv] []) := by intro _; rfl) : JS X z (.Assign [.Subscript o k spos] e pos) (dPut i tk t) :=
  PS.imp (ps_asg he (pg_sub ho hk (PSet.or set_list (set_dict hu)) ha) hs hw h1) fun D σ H ⟨δ, w, F, He, E, R, q, c⟩ => by
    unfold dPut at q
    split at q
    · next c0 e0 =>
      refine ⟨δ, w, F, He, _, R, q, fun b d w1 q1 v H1 F1 He1 wd1 st1 r1 => ?_⟩
      obtain ⟨F2, st2, wd2, r2, s2⟩ := r1.thaw st1 wd1
      have R2 := R.step wd2 st2
      obtain ⟨a, ob, hs, ha, m, r⟩ := own_at R2 e0
      refine ⟨.ref a, hs, δ, w1, F2, He1, _, R2, q1, fun kd w2 q2 kv H3 F3 He3 wd3 st3 r3 => ?_⟩
      have R3 := R2.step wd3 st3
      have r2' := r2.mono st3.fz
      have ha3 := st3.keep a _ ha m
      have rr := r.mono st3.fz
      unfold sPut at q2
      split at q2
      · obtain ⟨n, hn, q2⟩ := q2
        cases rr with
        | lst rr =>
          exact .inl ⟨a, _, _, n, rfl, r3.int, ha3, by rw [rr.length]; exact hn, c.nx _ _ _ _ _ _ q2 (R3.write e0 hs (.lst (rr.set r2' n))) (st2.trans st3).fz⟩
      · cases rr with
        | dK rr =>
          have := r3.int; subst kv
          exact .inr ⟨a, _, rfl, DPut.k (k := .inl _) ha3 (by rw [rr.length]; exact q2.1), c.nx _ _ _ _ _ _ q2.2 (R3.write e0 hs (.dK (rr.put r2'))) (st2.trans st3).fz⟩
      · cases rr with
        | dK rr =>
          have := r3.str; subst kv
          exact .inr ⟨a, _, rfl, DPut.k (k := .inr _) ha3 (by rw [rr.length]; exact q2.1), c.nx _ _ _ _ _ _ q2.2 (R3.write e0 hs (.dK (rr.put r2'))) (st2.trans st3).fz⟩
      · obtain ⟨js, rfl, hl, q2⟩ := q2
        cases rr with
        | dT rr =>
          obtain ⟨b, us, rfl, hb, rb⟩ := r3.tup wd3.sf
          have := rb.keys; subst us
          exact .inr ⟨a, _, rfl, DPut.t ha3 hb (by rw [rr.length]; exact hl), c.nx _ _ _ _ _ _ q2 (R3.write e0 hs (.dT (rr.put r2'))) (st2.trans st3).fz⟩
      · exact q2.elim
    · exact q.elim
end
end Lv

namespace Lv
open PySem PySem.Spec L2

/-! ### targets -/
/-- what a target does with data -/
abbrev DG := D → DSt → (DSt → Prop) → Prop
def GOk (z : Ent) (G : TG) (g : DG) : Prop := ∀ (δ : DSt) (w : z.W.Om) (F He H : Hp) (σ : St) (x : V) (d : D) (P : DSt → Prop) (Q : St → Hp → Prop), Rel z δ w F He σ H → DR z.K F x d → g d δ P → (∀ δ' σ', P δ' → Rel z δ' w F He σ' H → Q σ' H) → G x σ H Q
def gN (i : Nat) : DG := fun d δ P => P (δ.set i (some (false, d)))
theorem gok_name {z : Ent} (i : Nat) : GOk z (gName i) (gN i) := fun δ w F He H σ x d P Q R r q k => k _ _ q (R.put r)
abbrev DGs := List D → DSt → (DSt → Prop) → Prop
def GsOk (z : Ent) (G : TGs) (g : DGs) : Prop := ∀ (δ : DSt) (w : z.W.Om) (F He H : Hp) (σ : St) (xs : List V) (ds : List D) (P : DSt → Prop) (Q : St → Hp → Prop), Rel z δ w F He σ H → DRs z.K F xs ds → g ds δ P → (∀ δ' σ', P δ' → Rel z δ' w F He σ' H → Q σ' H) → G xs σ H Q
def gsN : DGs := fun ds δ P => match ds with
  | [] => P δ
  | _ => False
def gsC (g : DG) (gs : DGs) : DGs := fun ds δ P => match ds with
  | d :: ds => g d δ fun δ1 => gs ds δ1 P
  | [] => False
theorem gsok_nil {z : Ent} : GsOk z gNil gsN := fun δ w F He H σ xs ds P Q R r q k => by
  cases ds with
  | nil => cases r; exact ⟨rfl, k _ _ q R⟩
  | cons d ds => exact q.elim
theorem gsok_cons {z : Ent} {G : TG} {Gs : TGs} {g : DG} {gs : DGs} (h : GOk z G g) (hs : GsOk z Gs gs) : GsOk z (gCons G Gs) (gsC g gs) := fun δ w F He H σ xs ds P Q R r q k => by
  cases ds with
  | nil => exact q.elim
  | cons d ds =>
    cases r with
    | cons r rs => exact ⟨_, _, rfl, h δ w F He H σ _ d _ _ R r q fun δ1 σ1 q1 R1 => hs δ1 w F He H σ1 _ ds P Q R1 rs q1 k⟩
/-- a, b, .. = a tuple of n -/
def gT (n : Nat) (gs : DGs) : DG := fun d δ P => match d with
  | .tup ds => ds.length = n ∧ gs ds δ P
  | _ => False
theorem gok_tup {z : Ent} {Gs : TGs} {gs : DGs} {K : PySem.W.Frag} {n : Nat} (h : GsOk z Gs gs) : GOk z (gTup K n Gs) (gT n gs) := fun δ w F He H σ x d P Q R r q k => by
  unfold gT at q
  split at q
  · cases r with
    | tup e rs => exact ⟨_, _, rfl, .of (R.wd.sf _ _ e), by rw [rs.length]; exact q.1, h δ w F He H σ _ _ P Q R rs q.2 k⟩
  · exact q.elim
section
variable {X : Cx} {z : Ent} {pos : Pos}
/-- target = e -/
def dAsg {W : Ext} (t : DX W) (g : DG) : DS W := fun E δ w => t δ w fun _ d w1 => g d δ fun δ' => E.nx δ' w1
theorem js_asg {tg e : Expr} {t : DX z.W} {G : TG} {g : DG} (he : JX X z e t) (hg : PG X tg G) (ok : GOk z G g) (hs : swapsWithSole [tg] e pos.line X.env = pure false := by rfl) (hw : swappedStores [tg] e X.env = pure none := by rfl)
    (h1 : (assignEach [tg] X.env).map (·.2) = [assign tg X.env] := by rfl) : JS X z (.Assign [tg] e pos) (dAsg t g) :=
  PS.imp (ps_asg he hg hs hw h1) fun D σ H ⟨δ, w, F, He, E, R, q, c⟩ => by
    refine ⟨δ, w, F, He, _, R, q, fun b d w1 q1 v H1 F1 He1 wd1 st1 r1 => ?_⟩
    obtain ⟨F2, st2, wd2, r2, s2⟩ := r1.thaw st1 wd1
    exact ok δ w1 F2 He1 H1 σ v d _ _ (R.step wd2 st2) r2 q1 fun δ' σ' q' R' => c.nx _ _ _ _ _ _ q' R' st2.fz
end

/-! ### what is walked -/
abbrev DI (W : Ext) := DSt → W.Om → (List D → W.Om → Prop) → Prop
structure ItOk (K : PySem.W.Frag) (J : It) (F : Hp) (ds : List D) : Prop where
  go : ∀ i H, Same F H → i < ds.length → J.go i H
  stop : ∀ H, Same F H → J.stop ds.length H
  yld : ∀ i H x H', Same F H → i < ds.length → J.yld i H x H' → (H' = H ∧ ∃ d, ds[i]? = some d ∧ DR K F x d) ∨ ∃ T vs es, x = .ref T ∧ H T = none ∧ H' = upd H T (.tup vs) ∧ ds[i]? = some (.tup es) ∧ DRs K F vs es
def liftI (z : Ent) (t : DI z.W) : TI := fun σ H R => ∃ δ w F He P, Rel z δ w F He σ H ∧ t δ w P ∧ ∀ ds w', P ds w' → ∀ J H' F' He', Wd z.W z.K w' F' He' H' → Step F He H F' He' H' → ItOk z.K J F' ds → R J H'
theorem PI.imp {X : Cx} {tg e : Expr} {t t' : TI} (h : PI X tg e t) (f : ∀ σ H R, t' σ H R → t σ H R) : PI X tg e t' := ⟨fun pins s σ H R I q => h.run pins s σ H R I (f σ H R q)⟩
theorem itok_list {K : PySem.W.Frag} {F : Hp} {a : Addr} {vs : List V} {ds : List D} (e : F a = some (.lst vs)) (r : DRs K F vs ds) : ItOk K (Itl K a) F ds where
  go := fun i H s h => let ⟨v, hv, _⟩ := r.get (List.getElem?_eq_getElem h); ⟨vs, v, .of (s _ _ e), hv⟩
  stop := fun H s => ⟨vs, .of (s _ _ e), by rw [r.length]; exact Nat.le_refl _⟩
  yld := fun i H x H' s h ⟨e1, y⟩ => .inl ⟨e1, by
    obtain ⟨d, hd, rd⟩ := r.getV (y vs (.of (s _ _ e)))
    exact ⟨d, hd, rd⟩⟩
theorem itok_tup {K : PySem.W.Frag} {F : Hp} {a : Addr} {vs : List V} {ds : List D} (e : F a = some (.tup vs)) (r : DRs K F vs ds) : ItOk K (Itt K a) F ds where
  go := fun i H s h => let ⟨v, hv, _⟩ := r.get (List.getElem?_eq_getElem h); ⟨vs, v, .of (s _ _ e), hv⟩
  stop := fun H s => ⟨vs, .of (s _ _ e), by rw [r.length]; exact Nat.le_refl _⟩
  yld := fun i H x H' s h ⟨e1, y⟩ => .inl ⟨e1, by
    obtain ⟨d, hd, rd⟩ := r.getV (y vs (.of (s _ _ e)))
    exact ⟨d, hd, rd⟩⟩
theorem itok_scr {K : PySem.W.Frag} {F : Hp} {a : Addr} {ns : List Int} (e : SqL K F a (ns.map V.int)) : ItOk K (Itl K a) F (ns.map .int) where
  go := fun i H s h => ⟨_, .int (ns[i]'(by simpa using h)), s.seq e, by rw [List.getElem?_map, List.getElem?_eq_getElem (by simpa using h)]; rfl⟩
  stop := fun H s => ⟨_, s.seq e, by simp⟩
  yld := fun i H x H' s h ⟨e1, y⟩ => .inl ⟨e1, by
    have h' : i < ns.length := by simpa using h
    have := y _ (s.seq e)
    rw [List.getElem?_map, List.getElem?_eq_getElem h'] at this
    cases this
    exact ⟨.int ns[i], by rw [List.getElem?_map, List.getElem?_eq_getElem h']; rfl, .int _⟩⟩
def strD (x : Str) : List D := x.cps.toList.map fun c => .str ⟨#[c]⟩
theorem itok_str {K : PySem.W.Frag} {F : Hp} {x : Str} : ItOk K (Its x) F (strD x) where
  go := fun i H s h => by
    have h' : i < x.cps.size := by simpa [strD] using h
    exact h'
  stop := fun H s => by simp [strD, Its]
  yld := fun i H v H' s h ⟨e1, c, hc, hv⟩ => .inl ⟨e1, .str ⟨#[c]⟩, by
    simp only [strD, List.getElem?_map, Array.getElem?_toList, hc]; rfl, by rw [hv]; exact .str _⟩
def rngD (lo : Int) (n : Nat) : List D := (List.range n).map fun k => .int (lo + (k : Nat))
theorem rngD_length (lo : Int) (n : Nat) : (rngD lo n).length = n := by simp [rngD]
theorem itok_rng {K : PySem.W.Frag} {F : Hp} {lo : Int} {n : Nat} : ItOk K (Itr lo n) F (rngD lo n) where
  go := fun i H s h => by
    have h' : i < n := by simpa [rngD] using h
    exact h'
  stop := fun H s => by simp [rngD, Itr]
  yld := fun i H v H' s h ⟨e1, hv⟩ => .inl ⟨e1, .int (lo + (i : Nat)), by
    have h' : i < n := by simpa [rngD] using h
    simp [rngD, h'], by rw [hv]; exact .int _⟩
section
variable {X : Cx} {z : Ent} {pos : Pos} {tg : Expr}
/-- for .. in a list, a tuple, a text, the script -/
def iAny (K : PySem.W.Frag) (te : TE) : TI := fun σ H R => te σ H fun x H1 => (∃ a, x = .ref a ∧ (∃ xs, SqL K H1 a xs) ∧ R (Itl K a) H1) ∨ (∃ a, x = .ref a ∧ (∃ xs, SqT K H1 a xs) ∧ R (Itt K a) H1) ∨ ∃ y, x = .str y ∧ R (Its y) H1
theorem pi_any {l : Expr} {te : TE} (hl : PE X l te) : PI X tg l (iAny X.K te) := by
  refine ⟨fun pins s σ H R I h => ?_⟩
  refine thn (hl.run pins s σ H _ I h) fun v s1 ⟨x, H1, I1, r1, q1⟩ => ?_
  rcases q1 with ⟨a, e, ⟨xs, hq⟩, q⟩ | ⟨a, e, ⟨xs, hq⟩, q⟩ | ⟨y, e, q⟩
  · subst e
    cases r1
    obtain ⟨its, rv, p, hz⟩ := I1.list hq
    refine wpAny_pyIter_list p.isList ?_
    refine ⟨s1.heap.objs.size, [s1.heap.objs.size], _, _, H1, rfl, I1.kept (t' := s1.toks) fun b o e => Heap.get?_push_of_some _ e, turn_list a _, ⟨_, Heap.get?_push_size _ rfl, rfl, rfl⟩, fun b hb => ?_, q⟩
    have e : b = s1.heap.objs.size := by simpa using hb
    subst e
    exact I1.fpOk (Nat.le_refl _) (I1.hok.fresh (Nat.le_refl _))
  · subst e
    cases r1
    obtain ⟨its, rv, p, hz⟩ := I1.tuple hq
    refine wpAny_pyIter_tuple (show s1.heap.IsTuple a its.toArray from p) ?_
    refine ⟨s1.heap.objs.size, [s1.heap.objs.size], _, _, H1, rfl, I1.kept (t' := s1.toks) fun b o e => Heap.get?_push_of_some _ e, turn_tuple a _, ⟨_, Heap.get?_push_size _ rfl, rfl, rfl⟩, fun b hb => ?_, q⟩
    have e : b = s1.heap.objs.size := by simpa using hb
    subst e
    exact I1.fpOk (Nat.le_refl _) (I1.hok.fresh (Nat.le_refl _))
  · subst e
    obtain ⟨t, rfl⟩ := r1
    cases ha : y.cps.all (· < 128)
    · exact PySem.wpAny_pyIter_wide ha (pi_one (tk := s1.toks) I1 _ (turn_str _ y t "str_iterator" (.inr rfl)) ⟨_, Heap.get?_push_size _ rfl, rfl, rfl⟩ q)
    · exact PySem.wpAny_pyIter_ascii ha (pi_one (tk := s1.toks) I1 _ (turn_str _ y t "str_ascii_iterator" (.inl rfl)) ⟨_, Heap.get?_push_size _ rfl, rfl, rfl⟩ q)
def dIt {W : Ext} (t : DX W) : DI W := fun δ w Q => t δ w fun _ d w1 => match d with
  | .lst ds => Q ds w1
  | .tup ds => Q ds w1
  | .scr ns => Q (ns.map .int) w1
  | .str x => Q (strD x) w1
  | _ => False
theorem ji_any {l : Expr} {t : DX z.W} (hK : z.K = X.K) (hl : JX X z l t) : PI X tg l (liftI z (dIt t)) := PI.imp (pi_any hl) fun σ H R ⟨δ, w, F, He, P, Re, q, k⟩ => by
  refine ⟨δ, w, F, He, _, Re, q, fun b d w1 q1 v H1 F1 He1 wd1 st1 r1 => ?_⟩
  obtain ⟨F2, st2, wd2, r2, s2⟩ := r1.thaw st1 wd1
  rw [← hK]
  cases r2 with
  | lst e r => exact .inl ⟨_, rfl, ⟨_, .of (wd2.sf _ _ e)⟩, k _ _ q1 _ H1 F2 He1 wd2 st2 (itok_list e r)⟩
  | tup e r => exact .inr (.inl ⟨_, rfl, ⟨_, .of (wd2.sf _ _ e)⟩, k _ _ q1 _ H1 F2 He1 wd2 st2 (itok_tup e r)⟩)
  | scr e => exact .inl ⟨_, rfl, ⟨_, wd2.sf.seq e⟩, k _ _ q1 _ H1 F2 He1 wd2 st2 (itok_scr e)⟩
  | str x => exact .inr (.inr ⟨x, rfl, k _ _ q1 _ H1 F2 He1 wd2 st2 itok_str⟩)
  | _ => exact q1.elim
/-- range(b), range(a, b) -/
def dRng1 {W : Ext} (t : DO W) : DI W := fun δ w Q => t δ w fun d w1 => match d with
  | .int j => (-(2 ^ 62) ≤ j ∧ j < 2 ^ 62) ∧ Q (rngD 0 j.toNat) w1
  | _ => False
def dRng2 {W : Ext} (t u : DO W) : DI W := fun δ w Q => t δ w fun d w1 => u δ w1 fun e w2 => match d, e with
  | .int i, .int j => (-(2 ^ 62) ≤ i ∧ i < 2 ^ 62 ∧ -(2 ^ 62) ≤ j ∧ j < 2 ^ 62) ∧ Q (rngD i (j - i).toNat) w2
  | _, _ => False
theorem ji_rng1 {a : Expr} {t : DO z.W} {p pos : Pos} (hm : X.mg "range" = none) (ha : JO X z a t) (hg : Gl X "range" := by rfl) (hs : starEach [a] X.env = [(false, eval a X.env)] := by rfl) : PI X tg (.Call (.Name "range" p) [a] [] pos) (liftI z (dRng1 t)) :=
  PI.imp (pi_range1 hg hm (pa_cons ha pa_nil hs) hs) fun σ H R ⟨δ, w, F, He, P, Re, q, k⟩ => by
    refine ⟨δ, w, F, He, _, Re, q, fun d w1 q1 v H1 F1 He1 wd1 st1 r1 => ?_⟩
    cases d with
    | int j => have := r1.int; subst v; exact ⟨j, rfl, q1.1.1, q1.1.2, k _ _ q1.2 _ H1 F1 He1 wd1 st1 itok_rng⟩
    | _ => exact q1.elim
theorem ji_rng2 {a b : Expr} {t u : DO z.W} {p pos : Pos} (hm : X.mg "range" = none) (ha : JO X z a t) (hb : JO X z b u) (hg : Gl X "range" := by rfl) (hs : starEach [a, b] X.env = [(false, eval a X.env), (false, eval b X.env)] := by rfl) (hs2 : starEach [b] X.env = [(false, eval b X.env)] := by rfl) :
    PI X tg (.Call (.Name "range" p) [a, b] [] pos) (liftI z (dRng2 t u)) :=
  PI.imp (pi_range2 hg hm (pa_cons ha (pa_cons hb pa_nil hs2) (by rw [hs, hs2])) hs hs2) fun σ H R ⟨δ, w, F, He, P, Re, q, k⟩ => by
    refine ⟨δ, w, F, He, _, Re, q, fun d w1 q1 v H1 F1 He1 wd1 st1 r1 => ?_⟩
    refine ⟨δ, w1, F1, He1, _, Re.step wd1 st1, q1, fun e w2 q2 u H2 F2 He2 wd2 st2 r2 => ?_⟩
    cases d with
    | int i =>
      cases e with
      | int j =>
        have := r1.int; subst v
        have := r2.int; subst u
        exact ⟨i, j, rfl, q2.1, k _ _ q2.2 _ H2 F2 He2 wd2 (st1.trans st2) itok_rng⟩
      | _ => exact q2.elim
    | _ => exact q2.elim

/-! ### for -/
def dForGo {W : Ext} (g : DG) (t : DS W) (E : DEnds W) : List D → DSt → W.Om → Prop
  | [], δ, w => E.nx δ w
  | d :: ds, δ, w => g d δ fun δ1 => t { E with nx := dForGo g t E ds, ct := dForGo g t E ds, bk := E.nx } δ1 w
def dFor {W : Ext} (it : DI W) (g : DG) (t : DS W) : DS W := fun E δ w => it δ w fun ds w1 => dForGo g t E ds δ w1
theorem Rel.two {δ : DSt} {w : z.W.Om} {F He H H' : Hp} {σ : St} {T : Addr} {o : HO} (R : Rel z δ w F He σ H) (hT : H T = none) : Rel z δ w F He σ (upd H T o) := R.step (R.wd.alloc hT) (.alloc hT)
theorem js_for {iter : Expr} {body : List Stmt} {it : DI z.W} {G : TG} {g : DG} {t : DS z.W} (hp : PassesOwn (model X.prog X.w) X.A X.env X.xe) (hc : X.calm = true) (hi : PI X tg iter (liftI z it)) (hg : PG X tg G) (ok : GOk z G g) (hb : JSs X z body t)
    (hs : ∀ x, foldedSetIterable iter X.env x = pure x := by intro _; rfl) : JS X z (.For tg iter body [] pos) (dFor it g t) :=
  PS.imp (ps_for hp hc hi hg hb hs) fun D σ H ⟨δ, w, F, He, E, R, q, cn⟩ => by
    refine ⟨δ, w, F, He, _, R, q, fun ds w1 q1 J H1 F1 He1 wd1 st1 io => ?_⟩
    have R1 := R.step wd1 st1
    refine ⟨fun i m σ H => m = ds.length - i ∧ i ≤ ds.length ∧ ∃ δ w F He, Same F1 F ∧ Rel z δ w F He σ H ∧ dForGo g t E (ds.drop i) δ w, ⟨ds.length, by simp, Nat.zero_le _, δ, w1, F1, He1, Same.refl _, R1, q1⟩, ?_⟩
    rintro i m σ H ⟨rfl, hle, δ, w, F, He, sF, R, q⟩
    have sH : Same F1 H := sF.trans R.wd.sf
    by_cases hlt : i < ds.length
    · refine .inr ⟨io.go i H sH hlt, fun σ' H' => ∃ δ w F He, Same F1 F ∧ Rel z δ w F He σ' H' ∧ dForGo g t E (ds.drop (i + 1)) δ w, fun σ' H' h => ⟨ds.length - (i + 1), by omega, rfl, hlt, h⟩, fun x H' y => ?_⟩
      rw [List.drop_eq_getElem_cons hlt] at q
      have fin : ∀ {F' : Hp}, Same F1 F' → Rel z δ w F' He σ H' → DR z.K F' x ds[i] → G x σ H' fun σ2 H2 => liftS z t { D with nx := fun σ' H' => ∃ δ w F He, Same F1 F ∧ Rel z δ w F He σ' H' ∧ dForGo g t E (ds.drop (i + 1)) δ w, ct := fun σ' H' => ∃ δ w F He, Same F1 F ∧ Rel z δ w F He σ' H' ∧ dForGo g t E (ds.drop (i + 1)) δ w, bk := D.nx } σ2 H2 := by
        intro F' sF' R' rx
        refine ok δ w F' He H' σ x _ _ _ R' rx q fun δ2 σ2 q2 R2 => ?_
        have s1 := st1.fz.trans sF'
        exact ⟨δ2, w, F', He, _, R2, q2, ⟨fun δ3 w3 F3 He3 σ3 H3 p r s3 => ⟨δ3, w3, F3, He3, sF'.trans s3, r, p⟩, cn.rt, fun δ3 w3 F3 He3 σ3 H3 p r s3 => cn.nx _ _ _ _ _ _ p r (s1.trans s3), fun δ3 w3 F3 He3 σ3 H3 p r s3 => ⟨δ3, w3, F3, He3, sF'.trans s3, r, p⟩⟩⟩
      rcases io.yld i H x H' sH hlt y with ⟨rfl, d, hd, rd⟩ | ⟨T, vs, es, rfl, hT, rfl, hd, rd⟩
      · rw [List.getElem?_eq_getElem hlt] at hd
        cases hd
        exact fin sF R (rd.mono sF)
      · rw [List.getElem?_eq_getElem hlt] at hd
        have hd' := Option.some.inj hd
        have R' := R.step (R.wd.alloc (o := .tup vs) hT) (.alloc hT)
        have hF : F T = none := R.wd.fnone hT
        have hHe : He T = none := R.wd.henone hT
        refine fin (F' := upd F T (.tup vs)) (sF.trans (same_upd hF)) (R.step ((R.wd.alloc hT).freeze upd_same hF hHe) ((Step.alloc hT).freeze hF hT)) ?_
        rw [hd']
        exact .tup upd_same ((rd.mono sF).mono (same_upd hF))
    · have e : i = ds.length := by omega
      subst e
      rw [List.drop_length] at q
      exact .inl ⟨io.stop H sH, cn.nx _ _ _ _ _ _ q R (st1.fz.trans sF)⟩
end
end Lv

namespace Lv
open PySem PySem.Spec L2

/-! ### list comprehensions -/
def wipeD (δ : DSt) : List Nat → DSt
  | [] => δ
  | v :: vs => (wipeD δ vs).set v none
section
variable {z : Ent} {δ : DSt} {w : z.W.Om} {F He H F' He' H' : Hp} {σ : St}
theorem Rel.forget (R : Rel z δ w F He σ H) (i : Nat) : Rel z (δ.set i none) w F He (σ.set i none) H := by
  refine ⟨R.wd, R.st, by rw [List.length_set, List.length_set]; exact R.len, fun j s e => ?_, fun j k d1 d2 a e1 e2 a1 a2 => ?_⟩
  · rcases get_set e with ⟨rfl, rfl⟩ | ⟨hj, e'⟩
    · have hi : i < δ.length := by
        have := (List.getElem?_eq_some_iff.mp e).1
        simpa using this
      exact ⟨none, List.getElem?_set_self (by rw [R.len]; exact hi), True.intro⟩
    · obtain ⟨u, hu, q⟩ := R.sl j s e'
      exact ⟨u, by rw [List.getElem?_set_ne hj]; exact hu, q⟩
  · rcases get_set e1 with ⟨_, x⟩ | ⟨hj, e1'⟩
    · cases x
    · rcases get_set e2 with ⟨_, x⟩ | ⟨hk, e2'⟩
      · cases x
      · rw [List.getElem?_set_ne hj] at a1
        rw [List.getElem?_set_ne hk] at a2
        exact R.inj j k d1 d2 a e1' e2' a1 a2
theorem Rel.wipe (R : Rel z δ w F He σ H) : ∀ vs : List Nat, Rel z (wipeD δ vs) w F He (L2.wipe σ vs) H
  | [] => R
  | v :: vs => (Rel.wipe R vs).forget v
end
theorem wipe_comm {σ : St} {i : Nat} {v : Option V} (h : ∀ (j : Nat), j = i → True) : ∀ vs : List Nat, i ∉ vs → L2.wipe (σ.set i v) vs = (L2.wipe σ vs).set i v
  | [], _ => rfl
  | u :: vs, hn => by
    simp only [List.mem_cons, not_or] at hn
    rw [L2.wipe, L2.wipe, wipe_comm h vs hn.2, List.set_comm _ _ hn.1]
theorem wipe_set {σ : St} {i : Nat} {v : Option V} : ∀ {vs : List Nat}, i ∈ vs → L2.wipe (σ.set i v) vs = L2.wipe σ vs
  | u :: vs, hm => by
    rw [L2.wipe, L2.wipe]
    by_cases hu : i ∈ vs
    · rw [wipe_set hu]
    · have e : i = u := by
        rcases List.mem_cons.mp hm with e | e
        · exact e
        · exact absurd e hu
      subst e
      rw [wipe_comm (fun _ _ => True.intro) vs hu, List.set_set]
theorem wipe_wipe {σ : St} : ∀ (us vs : List Nat), (∀ i ∈ us, i ∈ vs) → L2.wipe (L2.wipe σ us) vs = L2.wipe σ vs
  | [], _, _ => rfl
  | u :: us, vs, h => by
    rw [L2.wipe, wipe_set (h u List.mem_cons_self), wipe_wipe us vs fun i hi => h i (List.mem_cons_of_mem _ hi)]
/-- a target that keeps to the slots vs -/
def GOkV (z : Ent) (vs : List Nat) (G : TG) (g : DG) : Prop := ∀ (δ : DSt) (w : z.W.Om) (F He H : Hp) (σ : St) (x : V) (d : D) (P : DSt → Prop) (Q : St → Hp → Prop), Rel z δ w F He σ H → DR z.K F x d → g d δ P → (∀ δ' σ', P δ' → Rel z δ' w F He σ' H → L2.wipe σ' vs = L2.wipe σ vs → Q σ' H) → G x σ H Q
theorem gokv_name {z : Ent} {vs : List Nat} (i : Nat) (h : i ∈ vs) : GOkV z vs (gName i) (gN i) := fun δ w F He H σ x d P Q R r q k => k _ _ q (R.put r) (wipe_set h)
def GsOkV (z : Ent) (vs : List Nat) (G : TGs) (g : DGs) : Prop := ∀ (δ : DSt) (w : z.W.Om) (F He H : Hp) (σ : St) (xs : List V) (ds : List D) (P : DSt → Prop) (Q : St → Hp → Prop), Rel z δ w F He σ H → DRs z.K F xs ds → g ds δ P → (∀ δ' σ', P δ' → Rel z δ' w F He σ' H → L2.wipe σ' vs = L2.wipe σ vs → Q σ' H) → G xs σ H Q
theorem gsokv_nil {z : Ent} {vs : List Nat} : GsOkV z vs gNil gsN := fun δ w F He H σ xs ds P Q R r q k => by
  cases ds with
  | nil => cases r; exact ⟨rfl, k _ _ q R rfl⟩
  | cons d ds => exact q.elim
theorem gsokv_cons {z : Ent} {vs : List Nat} {G : TG} {Gs : TGs} {g : DG} {gs : DGs} (h : GOkV z vs G g) (hs : GsOkV z vs Gs gs) : GsOkV z vs (gCons G Gs) (gsC g gs) := fun δ w F He H σ xs ds P Q R r q k => by
  cases ds with
  | nil => exact q.elim
  | cons d ds =>
    cases r with
    | cons r rs => exact ⟨_, _, rfl, h δ w F He H σ _ d _ _ R r q fun δ1 σ1 q1 R1 e1 => hs δ1 w F He H σ1 _ ds P Q R1 rs q1 fun δ' σ' q' R' e' => k δ' σ' q' R' (e'.trans e1)⟩
theorem gokv_tup {z : Ent} {vs : List Nat} {Gs : TGs} {gs : DGs} {K : PySem.W.Frag} {n : Nat} (h : GsOkV z vs Gs gs) : GOkV z vs (gTup K n Gs) (gT n gs) := fun δ w F He H σ x d P Q R r q k => by
  unfold gT at q
  split at q
  · cases r with
    | tup e rs => exact ⟨_, _, rfl, .of (R.wd.sf _ _ e), by rw [rs.length]; exact q.1, h δ w F He H σ _ _ P Q R rs q.2 k⟩
  · exact q.elim
def dLcGo {W : Ext} (g : DG) (tt : DTs_ W) (te : DX W) (δ : DSt) : List D → List D → W.Om → (Bool → D → W.Om → Prop) → Prop
  | [], acc, w, Q => Q true (.lst acc) w
  | d :: ds, acc, w, Q => g d δ fun δ1 => tt δ1 w fun k w1 => if k = true then te δ1 w1 fun _ e w2 => acc.length < sizeLine ∧ dLcGo g tt te δ ds (acc ++ [e]) w2 Q else dLcGo g tt te δ ds acc w1 Q
def dLc {W : Ext} (it : DI W) (g : DG) (tt : DTs_ W) (te : DX W) (vs : List Nat) : DX W := fun δ w Q => it δ w fun ds w1 => dLcGo g tt te (wipeD δ vs) ds [] w1 Q
theorem Step.write {F He H F' He' H' : Hp} {p : Addr} {o : HO} (s : Step F He H F' He' H') (h : H p = none) : Step F He H F' He' (upd H' p o) where
  fz := s.fz
  fzN := s.fzN
  heN := s.heN
  keep := fun b u e n => by rw [upd_ne (ne_of_none e h)]; exact s.keep b u e n
  dom := fun b e => by
    by_cases hb : b = p
    · subst hb; exact absurd h e
    · rw [upd_ne hb]; exact s.dom b e
theorem Wd.write {W : Ext} {K : PySem.W.Frag} {w : W.Om} {F He H : Hp} {p : Addr} {o : HO} (x : Wd W K w F He H) (n : F p = none) (m : He p = none) : Wd W K w F He (upd H p o) where
  sf := fun b u e => by rw [upd_ne (ne_of_none e n)]; exact x.sf b u e
  sh := fun b u e => by rw [upd_ne (ne_of_none e m)]; exact x.sh b u e
  dj := x.dj
  ex := x.ex
theorem Step.fresh {F He H F' He' H' : Hp} {p : Addr} (s : Step F He H F' He' H') (h : H p ≠ none) (n : F p = none) : F' p = none :=
  Classical.byContradiction fun q => (s.fzN p q).elim (fun q => q n) fun q => h q
theorem Step.freshE {F He H F' He' H' : Hp} {p : Addr} (s : Step F He H F' He' H') (h : H p ≠ none) (n : He p = none) : He' p = none :=
  Classical.byContradiction fun q => (s.heN p q).elim (fun q => q n) fun q => h q
section
variable {X : Cx} {z : Ent} {pos : Pos}
theorem PTs.imp {X : Cx} {es : List Expr} {t t' : TT} (h : PTs X es t) (f : ∀ σ H Q, t' σ H Q → t σ H Q) : PTs X es t' := ⟨fun pins s σ H Q I q => h.run pins s σ H Q I (f σ H Q q)⟩
def dYes {W : Ext} : DTs_ W := fun _ w Q => Q true w
theorem jts_nil : PTs X [] (liftT z dYes) := PTs.imp pts_nil fun σ H Q ⟨δ, w, F, He, P, R, q, k⟩ => k _ _ q H F He R.wd .refl
theorem jts_one {c : Expr} {t : DTs_ z.W} (h : JT X z c t) : PTs X [c] (liftT z t) := pts_one h
theorem lc_lift {it : DI z.W} {G : TG} {g : DG} {tt : DTs_ z.W} {te : DX z.W} {vs : List Nat} (ok : GOkV z vs G g) {σ : St} {H : Hp} {Q : VK} (h : liftX z (dLc it g tt te vs) σ H Q) : tLc (liftI z it) G (liftT z tt) (liftX z te) vs σ H Q := by
  obtain ⟨δ, w, F, He, P, R, q, k⟩ := h
  refine ⟨δ, w, F, He, _, R, q, fun ds w1 q1 J H1 F1 He1 wd1 st1 io D hD => ?_⟩
  have R1 := (R.step wd1 st1).wipe vs
  have hF1 : F1 D = none := wd1.fnone hD
  have hE1 : He1 D = none := wd1.henone hD
  refine ⟨fun i m H => m = ds.length - i ∧ i ≤ ds.length ∧ ∃ w F He accV accD, Wd z.W z.K w F He H ∧ Step F1 He1 H1 F He H ∧ H D = some (.lst accV) ∧ F D = none ∧ He D = none ∧ DRs z.K F accV accD ∧ dLcGo g tt te (wipeD δ vs) (ds.drop i) accD w P,
    ⟨ds.length, by simp, Nat.zero_le _, w1, F1, He1, [], [], wd1.alloc hD, .alloc hD, upd_same, hF1, hE1, .nil, q1⟩, ?_⟩
  rintro i m H2 ⟨rfl, hle, w2, F2, He2, accV, accD, wd2, st2, hD2, hF2, hE2, ra, q2⟩
  have sH : Same F1 H2 := st2.fz.trans wd2.sf
  by_cases hlt : i < ds.length
  · refine .inr ⟨io.go i H2 sH hlt, fun H' => ∃ w F He accV accD, Wd z.W z.K w F He H' ∧ Step F1 He1 H1 F He H' ∧ H' D = some (.lst accV) ∧ F D = none ∧ He D = none ∧ DRs z.K F accV accD ∧ dLcGo g tt te (wipeD δ vs) (ds.drop (i + 1)) accD w P,
      fun H' h => ⟨ds.length - (i + 1), by omega, rfl, hlt, h⟩, fun x H3 y => ?_⟩
    rw [List.drop_eq_getElem_cons hlt] at q2
    -- the item is there: the heap is as it was, or one tuple more
    have go : ∀ F3, Wd z.W z.K w2 F3 He2 H3 → Step F2 He2 H2 F3 He2 H3 → DR z.K F3 x ds[i] → G x (L2.wipe σ vs) H3 fun σ2 H2 => L2.wipe σ2 vs = L2.wipe σ vs ∧ liftT z tt σ2 H2 fun b H3 => if b = true then liftX z te σ2 H3 fun y H4 => ∃ acc, H4 D = some (.lst acc) ∧ acc.length < sizeLine ∧
        (∃ w F He accV accD, Wd z.W z.K w F He (upd H4 D (.lst (acc ++ [y]))) ∧ Step F1 He1 H1 F He (upd H4 D (.lst (acc ++ [y]))) ∧ (upd H4 D (.lst (acc ++ [y]))) D = some (.lst accV) ∧ F D = none ∧ He D = none ∧ DRs z.K F accV accD ∧ dLcGo g tt te (wipeD δ vs) (ds.drop (i + 1)) accD w P)
        else ∃ w F He accV accD, Wd z.W z.K w F He H3 ∧ Step F1 He1 H1 F He H3 ∧ H3 D = some (.lst accV) ∧ F D = none ∧ He D = none ∧ DRs z.K F accV accD ∧ dLcGo g tt te (wipeD δ vs) (ds.drop (i + 1)) accD w P := by
      intro F3 wd3 st3 rx
      have nD2 : H2 D ≠ none := by rw [hD2]; exact fun z => nomatch z
      have hF3 := st3.fresh nD2 hF2
      have hD3 := st3.keep D _ hD2 hE2
      have nD3 : H3 D ≠ none := by rw [hD3]; exact fun z => nomatch z
      have st3' := st2.trans st3
      refine ok (wipeD δ vs) w2 F3 He2 H3 (L2.wipe σ vs) x ds[i] _ _ (R1.step wd3 st3') rx q2 fun δ4 σ4 q4 R4 e4 => ⟨e4.trans (wipe_wipe vs vs fun _ h => h), ?_⟩
      refine ⟨δ4, w2, F3, He2, _, R4, q4, fun b w5 q5 H5 F5 He5 wd5 st5 => ?_⟩
      have hF5 := st5.fresh nD3 hF3
      have hE5 := st5.freshE nD3 hE2
      have hD5 := st5.keep D _ hD3 hE2
      have nD5 : H5 D ≠ none := by rw [hD5]; exact fun z => nomatch z
      have st5' := st3'.trans st5
      have ra5 := (ra.mono st3.fz).mono st5.fz
      cases b with
      | false => exact ⟨w5, F5, He5, accV, accD, wd5, st5', hD5, hF5, hE5, ra5, q5⟩
      | true =>
        refine ⟨δ4, w5, F5, He5, _, R4.step wd5 st5, q5, fun bb e w6 q6 v H6 F6 He6 wd6 st6 r6 => ?_⟩
        obtain ⟨F7, st7, wd7, r7, s7⟩ := r6.thaw st6 wd6
        have hF7 := st7.fresh nD5 hF5
        have hE7 := st7.freshE nD5 hE5
        refine ⟨accV, st7.keep D _ hD5 hE5, by rw [ra.length]; exact q6.1, w6, F7, He6, accV ++ [v], accD ++ [e], wd7.write hF7 hE7, (st5'.trans st7).write hD, upd_same, hF7, hE7, (ra5.mono st7.fz).append (.cons r7 .nil), q6.2⟩
    rcases io.yld i H2 x H3 sH hlt y with ⟨rfl, d, hd, rd⟩ | ⟨T, us, es, rfl, hT, rfl, hd, rd⟩
    · rw [List.getElem?_eq_getElem hlt] at hd
      cases hd
      exact go F2 wd2 .refl (rd.mono st2.fz)
    · rw [List.getElem?_eq_getElem hlt] at hd
      have hd' := Option.some.inj hd
      have hF : F2 T = none := wd2.fnone hT
      have hE : He2 T = none := wd2.henone hT
      refine go (upd F2 T (.tup us)) ((wd2.alloc hT).freeze upd_same hF hE) ((Step.alloc hT).freeze hF hT) ?_
      rw [hd']
      exact .tup upd_same ((rd.mono st2.fz).mono (same_upd hF))
  · have e : i = ds.length := by omega
    subst e
    rw [List.drop_length] at q2
    refine .inl ⟨io.stop H2 sH, k _ _ _ q2 _ H2 F2 He2 wd2 (st1.trans st2) ⟨D, _, rfl, hD2, hF2, hE2, Classical.byContradiction fun q => st1.dom D q hD, .lst ra⟩⟩
theorem jx_lc {elt tg iter : Expr} {ifs : List Expr} {scope : Scope} {own : List (Str × Nat)} {it : DI z.W} {G : TG} {g : DG} {tt : DTs_ z.W} {te : DX z.W} (hc : X.calm = true) (hN : X.N.Nodup) (hi : PI X tg iter (liftI z it)) (ok : BlkOk X.N X.env.scope scope own) (gok : GOkV z (own.map (·.2)) G g)
    (hg : ∀ (s : Shared) (H : Hp) (C : Addr) (cl : List (Str × Addr)) (fp : List Addr), PG (X.blk s H scope (compEnvC scope cl C X.env) fp) tg G) (ht : ∀ (s : Shared) (H : Hp) (C : Addr) (cl : List (Str × Addr)) (fp : List Addr), PTs (X.blk s H scope (compEnvC scope cl C X.env) fp) ifs (liftT z tt))
    (he : ∀ (s : Shared) (H : Hp) (C : Addr) (cl : List (Str × Addr)) (fp : List Addr), JX (X.blk s H scope (compEnvC scope cl C X.env) fp) z elt te) (hs : ∀ x, foldedSetIterable iter X.env x = pure x := by intro _; rfl) :
    JX X z (.ListComp elt [⟨tg, iter, ifs, 0⟩] scope pos) (dLc it g tt te (own.map (·.2))) := PE.imp (pe_lc hc hN hi ok hg ht he hs) fun _ _ _ h => lc_lift gok h
theorem js_setLc {i : Nat} {y : Str} {py : Pos} {elt tg iter : Expr} {ifs : List Expr} {scope : Scope} {own : List (Str × Nat)} {it : DI z.W} {G : TG} {g : DG} {tt : DTs_ z.W} {te : DX z.W} {spos : Pos} (own' : Bool) (hc : X.calm = true) (hN : X.N.Nodup) (hy : X.N[i]? = some y) (hyl : X.env.scope.names.lookup y = some .local)
    (hsw : swapsWith (.ListComp elt [⟨tg, iter, ifs, 0⟩] scope pos) (some (.Name y py)) spos.line X.env = pure true) (hi : PI X tg iter (liftI z it)) (ok : BlkOk X.N X.env.scope scope own) (gok : GOkV z (own.map (·.2)) G g)
    (hg : ∀ (s : Shared) (H : Hp) (C : Addr) (cl : List (Str × Addr)) (fp : List Addr), PG (X.blk s H scope (compEnvC scope cl C X.env) fp) tg G) (ht : ∀ (s : Shared) (H : Hp) (C : Addr) (cl : List (Str × Addr)) (fp : List Addr), PTs (X.blk s H scope (compEnvC scope cl C X.env) fp) ifs (liftT z tt))
    (he : ∀ (s : Shared) (H : Hp) (C : Addr) (cl : List (Str × Addr)) (fp : List Addr), JX (X.blk s H scope (compEnvC scope cl C X.env) fp) z elt te) (hs : ∀ x, foldedSetIterable iter X.env x = pure x := by intro _; rfl) :
    JS X z (.Assign [.Name y py] (.ListComp elt [⟨tg, iter, ifs, 0⟩] scope pos) spos) (dSet own' i (dLc it g tt te (own.map (·.2)))) := PS.imp (ps_setLc hc hN hy hyl hsw hi ok hg ht he hs) fun D σ H h => by
  obtain ⟨δ, w, F, He, E, R, q, c⟩ := h
  refine lc_lift gok ⟨δ, w, F, He, _, R, q, fun b d w1 q1 v H1 F1 He1 wd1 st1 r1 => ?_⟩
  cases own' with
  | true => rw [Bool.and_true] at q1; exact c.nx _ _ _ _ _ _ q1 (R.assign wd1 st1 r1) st1.fz
  | false =>
    rw [Bool.and_false] at q1
    obtain ⟨F2, st2, wd2, r2, _⟩ := r1.thaw st1 wd1
    exact c.nx _ _ _ _ _ _ q1 (R.assign (b := false) wd2 st2 r2) st2.fz
end

/-! ### defs -/
/-- what a def is worth over data: arguments, the world, what is wanted of its result -/
abbrev DSp (W : Ext) := List D → W.Om → (Bool → D → W.Om → Prop) → Prop
def toSp (W : Ext) (K : PySem.W.Frag) (T : DSp W) : Sp := fun vs H Q _ => ∃ ds w F He P, Wd W K w F He H ∧ DRs K F vs ds ∧ T ds w P ∧ ∀ b d w', P b d w' → ∀ v H' F' He', Wd W K w' F' He' H' → Step F He H F' He' H' → Res K F' He' H H' b v d → Q v H'
/-- the def of this name keeps T -/
structure Fn (P : Program) (w : World) (K : PySem.W.Frag) (mg : Str → Option Value) (base : Heap) (W : Ext) (k : Nat) (x : Str) (T : DSp W) : Prop where
  ex : ∃ (f : Addr) (fd : FuncData) (ps : List Str), FnOk P w K mg base CX0 k f fd ps (toSp W K T) ∧ mg x = some (.ref f) ∧ PySem.W.keepIn K (.ref f) = true ∧ Binds K fd ps []
theorem Fn.mono {P : Program} {w : World} {K : PySem.W.Frag} {mg : Str → Option Value} {base : Heap} {W : Ext} {j k : Nat} {x : Str} {T : DSp W} (F : Fn P w K mg base W j x T) (h : j ≤ k) : Fn P w K mg base W k x T :=
  let ⟨f, fd, ps, a, b, c, d⟩ := F.ex; ⟨f, fd, ps, a.mono h, b, c, d⟩
def dCall {W : Ext} (T : DSp W) (t : DA W) : DX W := fun δ w Q => t δ w fun ds w1 => T ds w1 Q
section
variable {X : Cx} {z : Ent} {pos : Pos}
theorem call_lift {T : DSp z.W} {t : DA z.W} {σ : St} {H : Hp} {Q : VK} {K : PySem.W.Frag} (hK : z.K = K) (h : liftX z (dCall T t) σ H Q) : tCall (toSp z.W K T) [] E0 (liftA z t) σ H Q := by
  subst hK
  obtain ⟨δ, w, F, He, P, R, q, k⟩ := h
  refine ⟨δ, w, F, He, _, R, q, fun ds w1 q1 vs H1 F1 He1 wd1 st1 r1 => ?_⟩
  show toSp z.W z.K T (vs ++ []) H1 Q E0
  rw [List.append_nil]
  exact ⟨ds, w1, F1, He1, P, wd1, r1, q1, fun b d w' p v H' F' He' wd st r => k b d w' p v H' F' He' wd (st1.trans st) (r.base st1)⟩
theorem jx_call {k : Nat} {T : DSp z.W} {t : DA z.W} {x : Str} {p : Pos} {e : Expr} {es : List Expr} (f : Fn X.prog X.w X.K X.mg X.base z.W k x T) (hK : z.K = X.K) (hr : Room k X.A) (ha : JA X z (e :: es) t) (hg : Gl X x := by rfl)
    (hdb : (x == ("__debug__" : Str)) = false := by decide) (he : starEach (e :: es) X.env = (false, eval e X.env) :: starEach es X.env := by rfl) (hpl : (backTo pos (starEach es X.env)).any (·.1) = false := by rfl) : JX X z (.Call (.Name x p) (e :: es) [] pos) (dCall T t) := by
  obtain ⟨fa, fd, ps, a, b, c, d⟩ := f.ex
  exact PE.imp (pe_call a hr hg b c d .nil pass0 ha hdb he hpl) fun _ _ _ h => call_lift hK h
theorem jx_call0 {k : Nat} {T : DSp z.W} {x : Str} {p : Pos} (f : Fn X.prog X.w X.K X.mg X.base z.W k x T) (hK : z.K = X.K) (hr : Room k X.A) (hg : Gl X x := by rfl) (hdb : (x == ("__debug__" : Str)) = false := by decide) : JX X z (.Call (.Name x p) [] [] pos) (dCall T dNil) := by
  obtain ⟨fa, fd, ps, a, b, c, d⟩ := f.ex
  refine PE.imp (pe_call0 a hr hg b c d .nil pass0 hdb) fun σ H Q h => ?_
  obtain ⟨δ, w, F, He, P, R, q, k⟩ := h
  show toSp z.W X.K T [] H Q E0
  rw [← hK]
  exact ⟨[], w, F, He, P, R.wd, .nil, q, fun b d w' p v H' F' He' wd st r => k b d w' p v H' F' He' wd st r⟩
end
def startD (N : List Str) (ds : List D) : DSt := ds.map (fun d => some (false, d)) ++ List.replicate (N.length - ds.length) none
theorem DRs.getAt {K : PySem.W.Frag} {F : Hp} {vs : List V} {ds : List D} (r : DRs K F vs ds) {i : Nat} {d : D} (h : ds[i]? = some d) : ∃ v, vs[i]? = some v ∧ DR K F v d := r.get h
theorem rel_start {W : Ext} {K : PySem.W.Frag} {w : W.Om} {F He H : Hp} {N : List Str} {vs : List V} {ds : List D} (wd : Wd W K w F He H) (r : DRs K F vs ds) : Rel ⟨W, K, F, He, H⟩ (startD N ds) w F He (start N vs) H := by
  have hl := r.length
  refine ⟨wd, .refl, ?_, fun i s e => ?_, fun i j d1 d2 a e1 e2 a1 a2 => ?_⟩
  · unfold L2.start startD
    rw [List.length_append, List.length_append, List.length_map, List.length_map, List.length_replicate, List.length_replicate, hl]
  · unfold startD at e
    unfold L2.start
    by_cases hi : i < ds.length
    · rw [List.getElem?_append_left (by simpa using hi), List.getElem?_map, List.getElem?_eq_getElem hi] at e
      cases e
      obtain ⟨v, hv, rv⟩ := r.get (List.getElem?_eq_getElem hi)
      refine ⟨some v, ?_, v, rfl, rv⟩
      rw [List.getElem?_append_left (by simpa [hl] using hi), List.getElem?_map, hv]
      rfl
    · rw [List.getElem?_append_right (by simpa using hi), List.length_map, List.getElem?_replicate] at e
      split at e
      · next hlt =>
        cases e
        refine ⟨none, ?_, True.intro⟩
        rw [List.getElem?_append_right (by rw [List.length_map]; omega), List.length_map, List.getElem?_replicate, if_pos (by omega)]
      · cases e
  · unfold startD at e1
    by_cases hi : i < ds.length
    · rw [List.getElem?_append_left (by simpa using hi), List.getElem?_map, List.getElem?_eq_getElem hi] at e1
      cases e1
    · rw [List.getElem?_append_right (by simpa using hi), List.length_map, List.getElem?_replicate] at e1
      split at e1 <;> cases e1
section
variable {P : Program} {w : World} {K : PySem.W.Frag} {mg : Str → Option Value} {base : Heap}
/-- a def by its body's reading over data -/
theorem fn_ok {W : Ext} {T : DSp W} {x qual : Str} {st : Stmt} {f : Addr} {fd : FuncData} {N ps : List Str} {k : Nat} (F : L2.Fun K x qual st f fd) (S : FnScope N ps (defScope st)) (hm : mg x = some (.ref f))
    (hbd : ∀ (kV doc pm : Value) (an : Option Addr) (cdv ct : Value) (us : List Value), us.length = ps.length → bindArgs (PySem.W.fnOf x qual (defArgs st) (defBody st) (defScope st) .none kV doc pm an cdv ct) ⟨us, []⟩ = pure (ps.zip us))
    (len : ∀ ds w P, T ds w P → ds.length = ps.length)
    (h : ∃ tb : DS W, (∀ (cdv : Value) (A : Around) (outer : List Env) (s : Shared) (H F0 He0 : Hp) (E : XK), Room k (A.deeper (PyProof.Rows.envOfC qual (defScope st) s.heap.objs.size f cdv)) → JSs (cxOf CX0 P w K mg base N qual (defScope st) f cdv A outer s H E).nox ⟨W, K, F0, He0, H⟩ (defBody st) tb) ∧
      ∀ ds w P, T ds w P → tb { nx := fun _ w => P false .non w, rt := P } (startD N ds) w) : Fn P w K mg base W (k + 1) x T := by
  obtain ⟨tb, hb, hT⟩ := h
  refine ⟨f, fd, ps, F.ok S (fun vs H Q E h => ?_) (fun cdv A outer s H vs Q E hr h => ?_), hm, F.kp, F.binds hbd⟩
  · obtain ⟨ds, w, F, He, P, _, r, q, _⟩ := h
    rw [r.length]
    exact len _ _ _ q
  · obtain ⟨ds, w, F, He, P, wd, r, q, k⟩ := h
    refine ⟨_, hb cdv A outer s H F He E hr, startD N ds, w, F, He, _, rel_start wd r, hT ds w P q, ?_⟩
    exact ⟨fun δ w' F' He' σ H' p R _ => k _ _ _ p .non H' F' He' R.wd R.st .non, fun b d w' p v H' F' He' wd' st' rr => k b d w' p v H' F' He' wd' st' rr, fun _ _ _ _ _ _ p => p.elim, fun _ _ _ _ _ _ p => p.elim⟩
end
end Lv

namespace Lv
open PySem PySem.Spec L2

/-! ### a call that gives a plain thing back: its arguments stay one's own -/
def D.scal : D → Bool
  | .non => true | .bl _ => true | .int _ => true | .str _ => true | _ => false
def Quiet (W : Ext) : Prop := ∀ (K : PySem.W.Frag) (w : W.Om) (F He : Hp) (b : Addr), W.rep K w F He → He b = none
theorem noExt_quiet : Quiet noExt := fun K w F He b h => h b
inductive DTl (K : PySem.W.Frag) (F He H : Hp) : List V → List D → Prop
  | nil : DTl K F He H [] []
  | cons {v : V} {vs : List V} {d : D} {ds : List D} : DT K F He H v d → DTl K F He H vs ds → DTl K F He H (v :: vs) (d :: ds)
def liftB (z : Ent) (t : DA z.W) : TA := fun σ H Q => ∃ δ w F He P, Rel z δ w F He σ H ∧ t δ w P ∧ ∀ ds w', P ds w' → ∀ vs H' F' He', Wd z.W z.K w' F' He' H' → Step F He H F' He' H' → DTl z.K F' He' H' vs ds → Q vs H'
def dConsO {W : Ext} (t : DO W) (ts : DA W) : DA W := fun δ w Q => t δ w fun d w1 => ts δ w1 fun ds w2 => Q (d :: ds) w2
section
variable {X : Cx} {z : Ent} {pos : Pos}
abbrev JB (X : Cx) (z : Ent) (es : List Expr) (t : DA z.W) : Prop := PA X es (liftB z t)
theorem jb_nil : JB X z [] dNil := PA.imp pa_nil fun σ H Q ⟨δ, w, F, He, P, R, q, k⟩ => k _ _ q [] H F He R.wd .refl .nil
theorem jb_cons {e : Expr} {es : List Expr} {t : DO z.W} {ts : DA z.W} (ha : JO X z e t) (hr : JB X z es ts) (hs : starEach (e :: es) X.env = (false, eval e X.env) :: starEach es X.env := by rfl) : JB X z (e :: es) (dConsO t ts) :=
  PA.imp (pa_cons ha hr hs) fun σ H Q ⟨δ, w, F, He, P, R, q, k⟩ => by
    refine ⟨δ, w, F, He, _, R, q, fun d w1 q1 x H1 F1 He1 wd1 st1 r1 => ?_⟩
    refine ⟨δ, w1, F1, He1, _, R.step wd1 st1, q1, fun ds w2 q2 vs H3 F3 He3 wd3 st3 r3 => ?_⟩
    exact k _ _ q2 _ H3 F3 He3 wd3 (st1.trans st3) (.cons (r1.step st3) r3)
theorem thawB {w : z.W.Om} {He H : Hp} : ∀ {vs : List V} {ds : List D} {F : Hp}, Wd z.W z.K w F He H → DTl z.K F He H vs ds → ∃ F1, Same F F1 ∧ Wd z.W z.K w F1 He H ∧ DRs z.K F1 vs ds
  | _, _, F, wd, .nil => ⟨F, Same.refl _, wd, .nil⟩
  | _, _, F, wd, .cons h hs => by
    obtain ⟨F1, s1, wd1, r1⟩ := thawB wd hs
    rcases h with h | ⟨a, o, rfl, ho, m, q⟩
    · exact ⟨F1, s1, wd1, .cons (h.mono s1) r1⟩
    · cases e : F1 a with
      | none => exact ⟨upd F1 a o, s1.trans (same_upd e), wd1.freeze ho e m, .cons (((q.mono s1).mono (same_upd e)).frozen upd_same) (r1.mono (same_upd e))⟩
      | some u =>
        have := wd1.sf a u e
        rw [ho] at this
        cases this
        exact ⟨F1, s1, wd1, .cons ((q.mono s1).frozen e) r1⟩
theorem dr_scal {K : PySem.W.Frag} {F F' : Hp} {v : V} {d : D} (h : DR K F v d) (s : d.scal = true) : DR K F' v d := by
  cases h <;> first | (cases s; done) | constructor
def dCallB {W : Ext} (T : DSp W) (t : DA W) : DX W := fun δ w Q => t δ w fun ds w1 => T ds w1 fun b d w2 => (b = false ∧ d.scal = true ∧ w2 = w1) ∧ Q false d w2
theorem jx_callB {k : Nat} {T : DSp z.W} {t : DA z.W} {x : Str} {p : Pos} {e : Expr} {es : List Expr} (hq : Quiet z.W) (f : Fn X.prog X.w X.K X.mg X.base z.W k x T) (hK : z.K = X.K) (hr : Room k X.A) (ha : JB X z (e :: es) t) (hg : Gl X x := by rfl)
    (hdb : (x == ("__debug__" : Str)) = false := by decide) (he : starEach (e :: es) X.env = (false, eval e X.env) :: starEach es X.env := by rfl) (hpl : (backTo pos (starEach es X.env)).any (·.1) = false := by rfl) : JX X z (.Call (.Name x p) (e :: es) [] pos) (dCallB T t) := by
  obtain ⟨fa, fd, ps, a, b, c, d⟩ := f.ex
  refine PE.imp (pe_call a hr hg b c d .nil pass0 ha hdb he hpl) fun σ H Q h => ?_
  obtain ⟨δ, w, F, He, P, R, q, k⟩ := h
  refine ⟨δ, w, F, He, _, R, q, fun ds w1 q1 vs H1 F1 He1 wd1 st1 r1 => ?_⟩
  show toSp z.W X.K T (vs ++ []) H1 Q E0
  rw [List.append_nil, ← hK]
  obtain ⟨F2, s2, wd2, r2⟩ := thawB wd1 r1
  refine ⟨ds, w1, F2, He1, _, wd2, r2, q1, fun b d w' p v H' F' He' wd st r => ?_⟩
  obtain ⟨⟨rfl, sc, rfl⟩, p⟩ := p
  have hE1 := fun b => hq z.K _ _ _ b wd1.ex
  have hE' := fun b => hq z.K _ _ _ b wd.ex
  have keep : Same H1 H' := fun b o e => st.keep b o e (hE1 b)
  have e2 : He' = He1 := by funext b; rw [hE1 b, hE' b]
  subst e2
  exact k false d _ p v H' F1 He' ⟨wd1.sf.trans keep, (fun b o e => by rw [hE1 b] at e; cases e), (fun b o e => by rw [hE1 b] at e; cases e), wd1.ex⟩
    (st1.trans ⟨Same.refl _, fun _ h => .inl h, fun _ h => .inl h, fun b o e _ => keep b o e, st.dom⟩) (dr_scal r sc)
end

/-! ### builtins of the top that nobody has bound -/
theorem bt_int : bootBuiltins "int" = some (.type "int") := by decide +kernel
theorem bt_bool : bootBuiltins "bool" = some (.type "bool") := by decide +kernel
theorem bt_list : bootBuiltins "list" = some (.type "list") := by decide +kernel
theorem bt_tuple : bootBuiltins "tuple" = some (.type "tuple") := by decide +kernel
theorem bt_str : bootBuiltins "str" = some (.type "str") := by decide +kernel
theorem bt_dict : bootBuiltins "dict" = some (.type "dict") := by decide +kernel
theorem bb_len : bootBuiltins "len" = some (.builtin "len") := by decide +kernel
theorem bb_abs : bootBuiltins "abs" = some (.builtin "abs") := by decide +kernel
theorem bb_max : bootBuiltins "max" = some (.builtin "max") := by decide +kernel
theorem bb_min : bootBuiltins "min" = some (.builtin "min") := by decide +kernel
theorem bb_sum : bootBuiltins "sum" = some (.builtin "sum") := by decide +kernel
theorem bb_sorted : bootBuiltins "sorted" = some (.builtin "sorted") := by decide +kernel
theorem bb_isinstance : bootBuiltins "isinstance" = some (.builtin "isinstance") := by decide +kernel
theorem hu0 {k : Nat} {A : Around} (r : Room k A) : A.units < cLine := by have := r.un; omega
theorem hu1 {k : Nat} {A : Around} (r : Room k A) : A.units + 1 < cLine := by have := r.un; omega
theorem hu64 {k : Nat} {A : Around} (r : Room k A) : A.units + 64 < cLine := by have := r.un; omega
theorem hu65 {k : Nat} {A : Around} (r : Room k A) : A.units + 65 < cLine := by have := r.un; omega
/-- a def as the top has left it -/
structure TopFn (K : PySem.W.Frag) (mg : Str → Option Value) (x qual : Str) (st : Stmt) (f : Addr) (fd : FuncData) : Prop where
  fn : L2.Fun K x qual st f fd
  at_ : mg x = some (.ref f)

theorem if_t {p : Prop} [Decidable p] {a b : Prop} (h : p) (q : a) : if p then a else b := by rw [if_pos h]; exact q
theorem if_f {p : Prop} [Decidable p] {a b : Prop} (h : ¬p) (q : b) : if p then a else b := by rw [if_neg h]; exact q
/-! ### loops over data -/
section
variable {W : Ext}
theorem seq_i {t u : DS W} {E : DEnds W} {δ : DSt} {w : W.Om} (h : t ⟨u E, E.rt, E.bk, E.ct⟩ δ w) : dSeq t u E δ w := h
/-- a block cut behind its first statement -/
theorem seq_cut {t u : DS W} {E : DEnds W} {δ : DSt} {w : W.Om} (S : DSt → W.Om → Prop) (h1 : ∀ N : DSt → W.Om → Prop, (∀ δ w, S δ w → N δ w) → t ⟨N, E.rt, E.bk, E.ct⟩ δ w) (h2 : ∀ δ w, S δ w → u E δ w) : dSeq t u E δ w := h1 _ h2
theorem for_inv {α : Type} {g : DG} {t : DS W} {E : DEnds W} (f : α → D) (I : List α → DSt → W.Om → Prop) (xs : List α)
    (hs : ∀ pre x post δ w (N C : DSt → W.Om → Prop), xs = pre ++ x :: post → I pre δ w → (∀ δ' w', I (pre ++ [x]) δ' w' → N δ' w') → (∀ δ' w', I (pre ++ [x]) δ' w' → C δ' w') → g (f x) δ fun δ1 => t ⟨N, E.rt, E.nx, C⟩ δ1 w)
    (hd : ∀ δ w, I xs δ w → E.nx δ w) : ∀ (post pre : List α), xs = pre ++ post → ∀ δ w, I pre δ w → dForGo g t E (post.map f) δ w
  | [], pre, e, δ, w, h => by
    rw [List.append_nil] at e
    subst e
    exact hd δ w h
  | x :: post, pre, e, δ, w, h => by
    have e2 : xs = (pre ++ [x]) ++ post := by rw [e]; simp
    have ih := for_inv f I xs hs hd post (pre ++ [x]) e2
    exact hs pre x post δ w _ _ e h ih ih
/-- a for over data that are told by f of some list -/
theorem for_go {α : Type} {g : DG} {t : DS W} {E : DEnds W} (f : α → D) (I : List α → DSt → W.Om → Prop) (xs : List α) {δ : DSt} {w : W.Om} (h0 : I [] δ w)
    (hs : ∀ pre x post δ w (N C : DSt → W.Om → Prop), xs = pre ++ x :: post → I pre δ w → (∀ δ' w', I (pre ++ [x]) δ' w' → N δ' w') → (∀ δ' w', I (pre ++ [x]) δ' w' → C δ' w') → g (f x) δ fun δ1 => t ⟨N, E.rt, E.nx, C⟩ δ1 w)
    (hd : ∀ δ w, I xs δ w → E.nx δ w) : dForGo g t E (xs.map f) δ w := for_inv f I xs hs hd xs [] rfl δ w h0
/-- a for over a range -/
theorem for_rng {g : DG} {t : DS W} {E : DEnds W} (lo : Int) (n : Nat) (I : Nat → DSt → W.Om → Prop) {δ : DSt} {w : W.Om} (h0 : I 0 δ w)
    (hs : ∀ k δ w (N C : DSt → W.Om → Prop), k < n → I k δ w → (∀ δ' w', I (k + 1) δ' w' → N δ' w') → (∀ δ' w', I (k + 1) δ' w' → C δ' w') → g (.int (lo + (k : Nat))) δ fun δ1 => t ⟨N, E.rt, E.nx, C⟩ δ1 w)
    (hd : ∀ δ w, I n δ w → E.nx δ w) : dForGo g t E (rngD lo n) δ w := by
  refine for_go (fun k : Nat => D.int (lo + (k : Nat))) (fun pre δ w => I pre.length δ w) (List.range n) h0 (fun pre x post δ w N C e h hN hC => ?_) (fun δ w h => hd δ w (by simpa using h))
  have hx : x = pre.length ∧ pre.length < n := by
    have h1 : (List.range n)[pre.length]? = some x := by rw [e]; simp
    have h2 : pre.length < n := by
      have := (List.getElem?_eq_some_iff.mp h1).1
      simpa using this
    rw [List.getElem?_range h2] at h1
    exact ⟨(Option.some.inj h1).symm, h2⟩
  obtain ⟨rfl, hlt⟩ := hx
  exact hs _ δ w N C hlt h (fun δ' w' h => hN δ' w' (by simpa using h)) (fun δ' w' h => hC δ' w' (by simpa using h))
/-- a while, by a word I over states a of one's own with a measure -/
theorem while_go {α : Type} {c : DTs_ W} {t : DS W} {E : DEnds W} (I : α → DSt → W.Om → Prop) (μ : α → Nat)
    (hs : ∀ a δ w, I a δ w → ∀ N : DSt → W.Om → Prop, (∀ a' δ' w', I a' δ' w' → μ a' < μ a → N δ' w') → c δ w fun k w1 => if k = true then t ⟨N, E.rt, E.nx, N⟩ δ w1 else E.nx δ w1)
    (a : α) {δ : DSt} {w : W.Om} (h : I a δ w) : dWhile c t E δ w := by
  have key : ∀ n a δ w, I a δ w → μ a < n → wN c t E n δ w := by
    intro n
    induction n with
    | zero => intro a δ w _ h; omega
    | succ n ih => exact fun a δ w hI hm => hs a δ w hI _ fun a' δ' w' hI' hlt => ih a' δ' w' hI' (by omega)
  exact ⟨μ a + 1, key _ a δ w h (Nat.lt_succ_self _)⟩
/-- a comprehension: f the item, h what comes of it -/
theorem lc_map {α : Type} {i : Nat} {te : DX W} {δ : DSt} {w : W.Om} {Q : Bool → D → W.Om → Prop} (f : α → D) (h : α → D) (xs : List α)
    (hs : ∀ x ∈ xs, ∀ P : Bool → D → W.Om → Prop, (∀ b, P b (h x) w) → te (δ.set i (some (false, f x))) w P) :
    ∀ acc : List D, acc.length + xs.length ≤ sizeLine → Q true (.lst (acc ++ xs.map h)) w → dLcGo (gN i) dYes te δ (xs.map f) acc w Q := by
  induction xs with
  | nil => intro acc _ q; rw [List.map_nil, List.append_nil] at q; exact q
  | cons x xs ih =>
    intro acc hz q
    simp only [List.map_cons, dLcGo, gN, dYes, if_true]
    refine hs x List.mem_cons_self _ fun b => ⟨by simp at hz; omega, ?_⟩
    exact ih (fun y hy => hs y (List.mem_cons_of_mem _ hy)) _ (by simp at hz ⊢; omega) (by simpa using q)
/-- a comprehension with a test -/
theorem lc_filter {α : Type} {i : Nat} {tt : DTs_ W} {te : DX W} {δ : DSt} {w : W.Om} {Q : Bool → D → W.Om → Prop} (f : α → D) (h : α → D) (p : α → Bool) (xs : List α)
    (ht : ∀ x ∈ xs, ∀ P : Bool → W.Om → Prop, P (p x) w → tt (δ.set i (some (false, f x))) w P)
    (hs : ∀ x ∈ xs, p x = true → ∀ P : Bool → D → W.Om → Prop, (∀ b, P b (h x) w) → te (δ.set i (some (false, f x))) w P) :
    ∀ acc : List D, acc.length + xs.length ≤ sizeLine → Q true (.lst (acc ++ (xs.filter p).map h)) w → dLcGo (gN i) tt te δ (xs.map f) acc w Q := by
  induction xs with
  | nil => intro acc _ q; rw [List.filter_nil, List.map_nil, List.append_nil] at q; exact q
  | cons x xs ih =>
    intro acc hz q
    simp only [List.map_cons, dLcGo, gN]
    refine ht x List.mem_cons_self _ ?_
    have ih' := ih (fun y hy => ht y (List.mem_cons_of_mem _ hy)) (fun y hy => hs y (List.mem_cons_of_mem _ hy))
    by_cases hp : p x = true
    · rw [if_pos hp]
      refine hs x List.mem_cons_self hp _ fun b => ⟨by simp at hz; omega, ?_⟩
      exact ih' _ (by simp at hz ⊢; omega) (by simpa [List.filter_cons, hp] using q)
    · rw [if_neg hp]
      exact ih' _ (by simp at hz ⊢; omega) (by simpa [List.filter_cons, hp] using q)
end
/-- words -/
def wD (ws : List Int) : D := .tup (ws.map .int)
def iD (ws : List Int) : D := .lst (ws.map .int)
theorem pyAll_ints : ∀ ns : List Int, pyAll (ns.map .int) = ns.map .int
  | [] => rfl
  | n :: ns => by simp [pyAll, D.py, pyAll_ints ns]
theorem plAll_ints : ∀ ns : List Int, plAll (ns.map .int) = true
  | [] => rfl
  | n :: ns => by simp [plAll, D.pl, plAll_ints ns]
theorem eqvAll_ints : ∀ ns ms : List Int, PyData.eqvAll (ns.map .int) (ms.map .int) = decide (ns = ms)
  | [], [] => rfl
  | [], _ :: _ => rfl
  | _ :: _, [] => rfl
  | n :: ns, m :: ms => by
    simp only [List.map_cons, PyData.eqvAll, PyData.eqv, eqvAll_ints ns ms]
    by_cases h : n = m <;> by_cases h2 : ns = ms <;> simp [h, h2]
theorem depthAll_ints : ∀ ns : List Int, PyData.depthAll (ns.map .int) = 0
  | [] => rfl
  | n :: ns => by simp [PyData.depthAll, PyData.depth, depthAll_ints ns]
theorem eqv_ww (ns ms : List Int) : D.eqv (.tup (ns.map .int)) (.tup (ms.map .int)) = decide (ns = ms) := by simp only [D.eqv, D.py, PyData.eqv, pyAll_ints, eqvAll_ints]
theorem eqv_ll (ns ms : List Int) : D.eqv (.lst (ns.map .int)) (.lst (ms.map .int)) = decide (ns = ms) := by simp only [D.eqv, D.py, PyData.eqv, pyAll_ints, eqvAll_ints]
theorem eqv_ii (n m : Int) : D.eqv (.int n) (.int m) = decide (n = m) := by
  show (n == m) = decide (n = m)
  exact Bool.beq_eq_decide_eq n m
theorem sEq_ii (n m : Int) (P : Bool → D → Prop) : sEq (.int n) (.int m) P = P false (.bl (decide (n = m))) := by
  unfold sEq
  rw [eqv_ii]
  simp [D.pl, D.py, PyData.depth]
theorem sNe_ii (n m : Int) (P : Bool → D → Prop) : sNe (.int n) (.int m) P = P false (.bl (!decide (n = m))) := by
  unfold sNe
  rw [eqv_ii]
  simp [D.pl, D.py, PyData.depth]
theorem sEq_ww (n m : List Int) (P : Bool → D → Prop) : sEq (.tup (n.map .int)) (.tup (m.map .int)) P = P false (.bl (decide (n = m))) := by
  unfold sEq
  rw [eqv_ww]
  simp [D.pl, D.py, PyData.depth, pyAll_ints, depthAll_ints, plAll_ints]
theorem sNe_ww (n m : List Int) (P : Bool → D → Prop) : sNe (.tup (n.map .int)) (.tup (m.map .int)) P = P false (.bl (!decide (n = m))) := by
  unfold sNe
  rw [eqv_ww]
  simp [D.pl, D.py, PyData.depth, pyAll_ints, depthAll_ints, plAll_ints]
theorem sEq_ll (n m : List Int) (P : Bool → D → Prop) : sEq (.lst (n.map .int)) (.lst (m.map .int)) P = P false (.bl (decide (n = m))) := by
  unfold sEq
  rw [eqv_ll]
  simp [D.pl, D.py, PyData.depth, pyAll_ints, depthAll_ints, plAll_ints]
theorem sNe_ll (n m : List Int) (P : Bool → D → Prop) : sNe (.lst (n.map .int)) (.lst (m.map .int)) P = P false (.bl (!decide (n = m))) := by
  unfold sNe
  rw [eqv_ll]
  simp [D.pl, D.py, PyData.depth, pyAll_ints, depthAll_ints, plAll_ints]
theorem kitB_ii : kitB "int" "int" = some true := by decide +kernel
theorem kitB_ib : kitB "int" "bool" = some false := by decide +kernel
theorem kitB_ll : kitB "list" "list" = some true := by decide +kernel
theorem kitB_tt : kitB "tuple" "tuple" = some true := by decide +kernel
theorem kitB_ss : kitB "str" "str" = some true := by decide +kernel
theorem sIsi_ii (i : Int) (P : Bool → D → Prop) : sIsi (.int i) (.ty "int") P = P false (.bl true) := by
  unfold sIsi; simp [tyD, kitB_ii]
theorem sIsi_ib (i : Int) (P : Bool → D → Prop) : sIsi (.int i) (.ty "bool") P = P false (.bl false) := by
  unfold sIsi; simp [tyD, kitB_ib]
theorem sIsi_ll (ds : List D) (P : Bool → D → Prop) : sIsi (.lst ds) (.ty "list") P = P false (.bl true) := by
  unfold sIsi; simp [tyD, kitB_ll]
theorem sIsi_tt (ds : List D) (P : Bool → D → Prop) : sIsi (.tup ds) (.ty "tuple") P = P false (.bl true) := by
  unfold sIsi; simp [tyD, kitB_tt]
theorem sIsi_ss (x : Str) (P : Bool → D → Prop) : sIsi (.str x) (.ty "str") P = P false (.bl true) := by
  unfold sIsi; simp [tyD, kitB_ss]
theorem atI_nn {α : Type} {xs : List α} {i : Int} (h : 0 ≤ i) (h2 : i < xs.length) : atI xs i = xs[i.toNat]? := by
  unfold atI ixN
  rw [if_pos h, if_pos h2]
  rfl
theorem divC {i j : Int} (h : 0 < j) (h2 : j < 2 ^ 64) : CDivW i j := by
  refine wide_div h (b := 64) ?_ (by decide) (by decide)
  omega
theorem mulC {i j : Int} (h : -(2 ^ 64) < i) (h2 : i < 2 ^ 64) : MulC i j := .inl (.inl ⟨h, h2⟩)
theorem mulC' {i j : Int} (h : -(2 ^ 64) < j) (h2 : j < 2 ^ 64) : MulC i j := .inl (.inr ⟨h, h2⟩)
end Lv
namespace Lv
open PySem PySem.Spec L2
section
variable {P : Program} {w : World} {K : PySem.W.Frag} {mg : Str → Option Value} {base : Heap}
theorem fn_okF {W : Ext} {T : DSp W} {x qual : Str} {st : Stmt} {f : Addr} {fd : FuncData} {N ps : List Str} {k : Nat} (F : L2.Fun K x qual st f fd) (S : FnScope N ps (defScope st))
    (len : ∀ ds w P, T ds w P → ds.length = ps.length)
    (h : ∃ tb : DS W, (∀ (cdv : Value) (A : Around) (outer : List Env) (s : Shared) (H F0 He0 : Hp) (E : XK), Room k (A.deeper (PyProof.Rows.envOfC qual (defScope st) s.heap.objs.size f cdv)) → JSs (cxOf CX0 P w K mg base N qual (defScope st) f cdv A outer s H E).nox ⟨W, K, F0, He0, H⟩ (defBody st) tb) ∧
      ∀ ds w P, T ds w P → tb { nx := fun _ w => P false .non w, rt := P } (startD N ds) w) : FnOk P w K mg base CX0 (k + 1) f fd ps (toSp W K T) := by
  obtain ⟨tb, hb, hT⟩ := h
  refine F.ok S (fun vs H Q E h => ?_) (fun cdv A outer s H vs Q E hr h => ?_)
  · obtain ⟨ds, w, F, He, P, _, r, q, _⟩ := h
    rw [r.length]
    exact len _ _ _ q
  · obtain ⟨ds, w, F, He, P, wd, r, q, k⟩ := h
    refine ⟨_, hb cdv A outer s H F He E hr, startD N ds, w, F, He, _, rel_start wd r, hT ds w P q, ?_⟩
    exact ⟨fun δ w' F' He' σ H' p R _ => k _ _ _ p .non H' F' He' R.wd R.st .non, fun b d w' p v H' F' He' wd' st' rr => k b d w' p v H' F' He' wd' st' rr, fun _ _ _ _ _ _ p => p.elim, fun _ _ _ _ _ _ p => p.elim⟩
end
/-- a law's promise: the script in, True out -/
def lawT {W : Ext} (w0 : W.Om) : DSp W := fun ds w P => ∃ ns : List Int, ds = [.scr ns] ∧ ns.length ≤ 63 ∧ w = w0 ∧ ∀ w', P false (.bl true) w'
theorem law_sp {K : PySem.W.Frag} {a : Addr} {ns : List Int} {H : Hp} {Q : VK} {E : XK} (hl : ns.length ≤ 63) (hS : SqL K H a (ns.map V.int)) (hQ : ∀ H', Q (.bl true) H') : toSp noExt K (lawT (W := noExt) ()) [.ref a] H Q E := by
  refine ⟨[.scr ns], (), H, fun _ => none, fun b d _ => b = false ∧ d = .bl true, ⟨Same.refl _, (fun b o e => nomatch e), (fun b o e => nomatch e), fun _ => rfl⟩, .cons (.scr hS) .nil, ⟨ns, rfl, hl, rfl, fun _ => ⟨rfl, rfl⟩⟩, fun b d w' p v H' F' He' _ _ r => ?_⟩
  obtain ⟨rfl, rfl⟩ := p
  cases r
  exact hQ H'
end Lv

namespace Lv
open PySem PySem.Spec L2

/-! ### the results' readers, stuck where the result isn't known -/
section
variable {α : Type}
def kB (Q : Bool → α → Prop) (w : α) : D → Prop
  | .bl k => Q k w
  | _ => False
def kT (Q : Bool → α → Prop) (w : α) : D → Prop
  | .non => Q false w
  | .bl k => Q k w
  | .int i => Q (i != 0) w
  | .str x => x.length ≤ sizeLine ∧ Q ((x.length : Int) != 0) w
  | .lst ds => Q (!ds.isEmpty) w
  | .tup ds => Q (!ds.isEmpty) w
  | .scr ds => Q (!ds.isEmpty) w
  | .dK ds => Q (!ds.isEmpty) w
  | _ => False
def kAnd (u : α → Prop) (Q : Bool → D → α → Prop) (w : α) : D → Prop
  | .bl k => if k = true then u w else Q false (.bl false) w
  | _ => False
def kOr (u : α → Prop) (Q : Bool → D → α → Prop) (w : α) : D → Prop
  | .bl k => if k = true then Q false (.bl true) w else u w
  | _ => False
def kNot (Q : Bool → D → α → Prop) (w : α) : D → Prop
  | .bl k => Q false (.bl (!k)) w
  | _ => False
def kIt (Q : List D → α → Prop) (w : α) : D → Prop
  | .lst ds => Q ds w
  | .tup ds => Q ds w
  | .scr ns => Q (ns.map .int) w
  | .str x => Q (strD x) w
  | _ => False
def kP (Q : Option Int → α → Prop) (w : α) : D → Prop
  | .int i => Q (some i) w
  | _ => False
def kR1 (Q : List D → α → Prop) (w : α) : D → Prop
  | .int j => (-(2 ^ 62) ≤ j ∧ j < 2 ^ 62) ∧ Q (rngD 0 j.toNat) w
  | _ => False
def kR2 (Q : List D → α → Prop) (w : α) : D → D → Prop
  | .int i, .int j => (-(2 ^ 62) ≤ i ∧ i < 2 ^ 62 ∧ -(2 ^ 62) ≤ j ∧ j < 2 ^ 62) ∧ Q (rngD i (j - i).toNat) w
  | _, _ => False
end
section
variable {W : Ext}
theorem dB_u (t : DX W) (δ : DSt) (w : W.Om) (Q : Bool → W.Om → Prop) : dB t δ w Q = t δ w fun _ d w' => kB Q w' d := rfl
theorem dTru_u (t : DO W) (δ : DSt) (w : W.Om) (Q : Bool → W.Om → Prop) : dTru t δ w Q = t δ w fun d w' => kT Q w' d := rfl
theorem dAndV_u (t u : DX W) (δ : DSt) (w : W.Om) (Q : Bool → D → W.Om → Prop) : dAndV t u δ w Q = t δ w fun _ d w' => kAnd (fun w => u δ w Q) Q w' d := rfl
theorem dOrV_u (t u : DX W) (δ : DSt) (w : W.Om) (Q : Bool → D → W.Om → Prop) : dOrV t u δ w Q = t δ w fun _ d w' => kOr (fun w => u δ w Q) Q w' d := rfl
theorem dNotV_u (t : DX W) (δ : DSt) (w : W.Om) (Q : Bool → D → W.Om → Prop) : dNotV t δ w Q = t δ w fun _ d w' => kNot Q w' d := rfl
theorem dIt_u (t : DX W) (δ : DSt) (w : W.Om) (Q : List D → W.Om → Prop) : dIt t δ w Q = t δ w fun _ d w' => kIt Q w' d := rfl
theorem dP_u (t : DO W) (δ : DSt) (w : W.Om) (Q : Option Int → W.Om → Prop) : dP t δ w Q = t δ w fun d w' => kP Q w' d := rfl
theorem dRng1_u (t : DO W) (δ : DSt) (w : W.Om) (Q : List D → W.Om → Prop) : dRng1 t δ w Q = t δ w fun d w' => kR1 Q w' d := rfl
theorem dRng2_u (t u : DO W) (δ : DSt) (w : W.Om) (Q : List D → W.Om → Prop) : dRng2 t u δ w Q = t δ w fun d w1 => u δ w1 fun e w2 => kR2 Q w2 d e := rfl
theorem dChain_u (s1 s2 : D → D → (Bool → D → Prop) → Prop) (ta tb tc : DO W) (δ : DSt) (w : W.Om) (Q : Bool → D → W.Om → Prop) : dChain s1 s2 ta tb tc δ w Q = ta δ w fun d w1 => tb δ w1 fun e w2 => s1 d e fun _ r => kAnd (fun w2 => tc δ w2 fun f w3 => s2 e f fun b d' => Q b d' w3) Q w2 r := rfl
end
theorem atI_ints {ns : List Int} {k : Int} {x : Int} (h0 : 0 ≤ k) (h : ns[k.toNat]? = some x) : atI (ns.map D.int) k = some (.int x) := by
  have hl := (List.getElem?_eq_some_iff.mp h).1
  rw [atI_nn h0 (by rw [List.length_map]; omega), List.getElem?_map, h]
  rfl
theorem atI_k {ns : List Int} {k : Nat} (h : k < ns.length) : atI (ns.map D.int) (0 + (k : Int)) = some (.int ns[k]) := atI_ints (by omega) (by rw [show (0 + (k : Int)).toNat = k by omega]; simp)
theorem atI_scr {ns : List Int} {k : Int} (h0 : 0 ≤ k) (h : k < ns.length) : ∃ x, atI ns k = some x := ⟨ns[k.toNat], by rw [atI_nn h0 h]; simp⟩
theorem atI_lastD (p : List D) (x : D) : atI (p ++ [x]) (-1) = some x := by
  unfold atI ixN
  have e : (-1 + ((p.length : Int) + 1)).toNat = p.length := by omega
  have e2 : (1 : Int) ≤ p.length + 1 := by omega
  simp [e, e2]
theorem atI_last (p : List Int) (x : Int) : atI ((p ++ [x]).map D.int) (-1) = some (.int x) := by
  rw [List.map_append]
  exact atI_lastD _ _
theorem fPop_snoc (p : List D) (x : D) : fPop (p ++ [x]) = some p := by simp [fPop]
theorem fPop_snoc' (p : List Int) (x : Int) : fPop ((p ++ [x]).map D.int) = some (p.map D.int) := by simp [fPop]
theorem mod_bd (i : Int) {j : Int} (h : 0 < j) : 0 ≤ i % j ∧ i % j < j := ⟨Int.emod_nonneg i (by omega), Int.emod_lt_of_pos i h⟩
theorem kR1_c {α : Type} {Q : List D → α → Prop} {w : α} {j : Int} (h : -(2 ^ 62) ≤ j) (h2 : j < 2 ^ 62) (q : Q (rngD 0 j.toNat) w) : kR1 Q w (.int j) := ⟨⟨h, h2⟩, q⟩
theorem rep1 {α : Type} (d : α) : ∀ n, (List.replicate n [d]).flatten = List.replicate n d
  | 0 => rfl
  | n + 1 => by rw [List.replicate_succ, List.flatten_cons, rep1 d n]; rfl
theorem cutD_le {α : Type} (ns : List α) (lo hi : Option Int) : (cutD ns lo hi).length ≤ ns.length := by unfold cutD; simp; omega
theorem cutD_map {α β : Type} (f : α → β) (ns : List α) (lo hi : Option Int) : cutD (ns.map f) lo hi = (cutD ns lo hi).map f := by unfold cutD; simp [List.map_take, List.map_drop]
theorem cutD_at {α : Type} (ns : List α) {k : Int} (h : 0 ≤ k) (h2 : k ≤ ns.length) : cutD ns none (some k) = ns.take k.toNat ∧ cutD ns (some k) none = ns.drop k.toNat := by
  have e1 : HT.sIx ns.length 0 (some k) = k.toNat := by
    unfold HT.sIx
    simp only []
    rw [if_neg (by omega)]
    omega
  have e2 : HT.sIx ns.length ns.length (some k) = k.toNat := by
    unfold HT.sIx
    simp only []
    rw [if_neg (by omega)]
    omega
  have e3 : HT.sIx ns.length 0 none = 0 := rfl
  have e4 : HT.sIx ns.length ns.length none = ns.length := rfl
  unfold cutD
  rw [e1, e2, e3, e4]
  constructor
  · simp
  · rw [List.take_of_length_le (by simp)]
end Lv

namespace Lv
open PySem PySem.Spec L2

/-! ### xs[a:b:n] of a list -/
def pickD {α : Type} (xs : List α) (lo hi st : Option Int) : List α :=
  (sliceRange (PySem.sliceBounds lo hi st xs.length).1 (PySem.sliceBounds lo hi st xs.length).2.1 (PySem.sliceBounds lo hi st xs.length).2.2).filterMap (xs[·]?)
theorem pick_vals {R : V → D → Prop} : ∀ (ks : List Nat) (vs : List V) (ds : List D), (∀ k : Nat, (vs[k]? = none ∧ ds[k]? = none) ∨ ∃ v d, vs[k]? = some v ∧ ds[k]? = some d ∧ R v d) → True := fun _ _ _ _ => trivial
section
variable {X : Cx} {z : Ent} {pos : Pos}
theorem vals_pick {xs : List V} {us : List Value} (r : Vals xs us) : ∀ ks : List Nat, Vals (ks.filterMap (xs[·]?)) (ks.filterMap (us[·]?)) := by
  intro ks
  induction ks with
  | nil => exact .nil
  | cons k ks ih =>
    rw [List.filterMap_cons, List.filterMap_cons]
    cases e : xs[k]? with
    | none =>
      have : us[k]? = none := by
        rw [List.getElem?_eq_none_iff] at e ⊢
        rw [← r.length]; exact e
      rw [this]
      exact ih
    | some x =>
      obtain ⟨u, hu, ru⟩ := r.get e
      rw [hu]
      exact .cons ru ih
theorem drs_pick {K : PySem.W.Frag} {F : Hp} {vs : List V} {ds : List D} (r : DRs K F vs ds) : ∀ ks : List Nat, DRs K F (ks.filterMap (vs[·]?)) (ks.filterMap (ds[·]?)) := by
  intro ks
  induction ks with
  | nil => exact .nil
  | cons k ks ih =>
    rw [List.filterMap_cons, List.filterMap_cons]
    cases e : ds[k]? with
    | none =>
      have : vs[k]? = none := by
        rw [List.getElem?_eq_none_iff] at e ⊢
        rw [r.length]; exact e
      rw [this]
      exact ih
    | some x =>
      obtain ⟨u, hu, ru⟩ := r.get e
      rw [hu]
      exact .cons ru ih
theorem pickD_le {α : Type} (xs : List α) (lo hi st : Option Int) : (pickD xs lo hi st).length ≤ xs.length := by
  have := PySem.slicePick_size_le (items := (xs.map fun _ => Value.none).toArray) lo hi st
  unfold PySem.slicePick at this
  rw [List.size_toArray, List.size_toArray, List.length_map] at this
  refine Nat.le_trans ?_ this
  unfold pickD
  generalize sliceRange _ _ _ = ks
  induction ks with
  | nil => simp
  | cons k ks ih =>
    rw [List.filterMap_cons, List.filterMap_cons]
    have e : ((xs.map fun _ => Value.none).toArray)[k]? = (xs[k]?).map fun _ => Value.none := by simp
    rw [e]
    cases xs[k]? with
    | none => exact ih
    | some x => simp only [Option.map, List.length_cons]; omega
def tSl3 (K : PySem.W.Frag) (te : TE) (tl th ts : TO) : TE := fun σ H Q => te σ H fun x H1 => tl σ H1 fun l H2 => th σ H2 fun u H3 => ts σ H3 fun st H4 => ∃ a xs, x = .ref a ∧ SqL K H4 a xs ∧ st ≠ some 0 ∧ ∀ p, H4 p = none → Q (.ref p) (upd H4 p (.lst (pickD xs l u st)))
open PyProof.Rows in
theorem pe_sl3 {e : Expr} {lo hi : Option Expr} {sx : Expr} {te : TE} {tl th ts : TO} {p3 pos : Pos} (he : PE X e te) (hl : PO X lo tl) (hh : PO X hi th) (hs : PO X (some sx) ts) : PE X (.Subscript e (.Slice lo hi (some sx) p3) pos) (tSl3 X.K te tl th ts) := by
  refine ⟨fun pins s σ H Q I h => ?_⟩
  refine PyProof.Rows.Subscript_ (thn (he.run pins s σ H _ I h) fun v s1 ⟨x, H1, I1, r1, q1⟩ => ?_)
  refine wpAny_Slice (thn (hl.run pins s1 σ H1 _ I1 q1) fun vl s2 ⟨l, H2, I2, pl, q2⟩ => ?_)
  refine thn (hh.run pins s2 σ H2 _ I2 q2) fun vu s3 ⟨u, H3, I3, pu, q3⟩ => ?_
  refine thn (hs.run pins s3 σ H3 _ I3 q3) fun vs s4 ⟨o, H4, I4, ps, q4⟩ => ?_
  obtain ⟨a, xs, ex, hx, h0, q⟩ := q4
  subst ex
  cases r1
  have I5 : Inv X pins σ H4 { s4 with heap := s4.heap.push { cls := .type "slice", data := .fields #[vl, vu, vs] } } := I4.kept (t' := s4.toks) fun b ob q => Heap.get?_push_of_some _ q
  show wpAny (model X.prog X.w) X.A (subscriptTail e (.Slice lo hi (some sx) p3) (.ref a) (.ref s4.heap.objs.size)) (EP X pins σ Q) X.xe { s4 with heap := s4.heap.push { cls := .type "slice", data := .fields #[vl, vu, vs] } }
  obtain ⟨its, r, ht, hz⟩ := I5.list hx
  have hlen := r.length
  refine tail_any (ops := [.ref a, .ref s4.heap.objs.size]) ht.isList.typeIs (PySem.slot_list_getitem.lookup) ?_ (by with_unfolding_all rfl)
  refine wpAny_getItem_list_slice ht.isList (Heap.IsSliceOf.new _ vl vu vs) pl pu ps h0 ?_ (by rw [List.size_toArray]; omega)
  have e : slicePick its.toArray l u o = (pickD its l u o).toArray := by
    unfold slicePick pickD
    rw [List.size_toArray]
    simp
  have e2 : Vals (pickD xs l u o) (pickD its l u o) := by
    unfold pickD
    rw [hlen]
    exact vals_pick r _
  rw [e]
  refine ⟨.ref _, _, I5.laid (t' := s4.toks) (o := .lst (pickD xs l u o)) (fun b ob q => Heap.get?_push_of_some _ q) (Nat.le_refl _) ?_, rfl, q _ (I5.hok.fresh (Nat.le_refl _))⟩
  exact ⟨Nat.le_trans (pickD_le xs l u o) hz, _, 0, e2, Heap.get?_push_size _ rfl⟩
def sSl3 (d : D) (lo hi st : Option Int) (P : Bool → D → Prop) : Prop := match d with
  | .lst ds => st ≠ some 0 ∧ P true (.lst (pickD ds lo hi st))
  | .scr ns => st ≠ some 0 ∧ P true (.lst ((pickD ns lo hi st).map .int))
  | _ => False
theorem pickD_map {α β : Type} (f : α → β) (xs : List α) (lo hi st : Option Int) : pickD (xs.map f) lo hi st = (pickD xs lo hi st).map f := by
  unfold pickD
  rw [List.length_map]
  generalize sliceRange _ _ _ = ks
  induction ks with
  | nil => rfl
  | cons k ks ih =>
    rw [List.filterMap_cons, List.filterMap_cons, ih, List.getElem?_map]
    cases xs[k]? <;> rfl
theorem sem_sl3 {w : z.W.Om} {F He H : Hp} {x : V} {d : D} {lo hi st : Option Int} {P : Bool → D → Prop} {Q : VK} (wd : Wd z.W z.K w F He H) (dx : DT z.K F He H x d) (q : sSl3 d lo hi st P)
    (k : ∀ b d', P b d' → ∀ v H' F' He', Wd z.W z.K w F' He' H' → Step F He H F' He' H' → Res z.K F' He' H H' b v d' → Q v H') : ∃ a xs, x = .ref a ∧ SqL z.K H a xs ∧ st ≠ some 0 ∧ ∀ p, H p = none → Q (.ref p) (upd H p (.lst (pickD xs lo hi st))) := by
  unfold sSl3 at q
  split at q
  · obtain ⟨a, vs, rfl, ha, ra⟩ := dx.lst wd.sf
    refine ⟨a, vs, rfl, .of ha, q.1, fun p hp => res_new wd hp (.lst ?_) q.2 k⟩
    unfold pickD
    rw [ra.length]
    exact drs_pick ra _
  · next ns =>
    obtain ⟨a, rfl, ha⟩ := dx.scr wd.sf
    refine ⟨a, _, rfl, ha, q.1, fun p hp => res_new wd hp (.lst ?_) q.2 k⟩
    rw [pickD_map]
    exact DRs.ofInts _
  · exact q.elim
def dSl3 {W : Ext} (t : DO W) (l h s : DP W) : DX W := fun δ w Q => t δ w fun d w1 => l δ w1 fun lo w2 => h δ w2 fun hi w3 => s δ w3 fun st w4 => sSl3 d lo hi st fun b d' => Q b d' w4
theorem jx_sl3 {e : Expr} {lo hi : Option Expr} {sx : Expr} {t : DO z.W} {tl th ts : DP z.W} {p2 : Pos} (hK : z.K = X.K) (he : JO X z e t) (hl : PO X lo (liftP z tl)) (hh : PO X hi (liftP z th)) (hs : PO X (some sx) (liftP z ts)) : JX X z (.Subscript e (.Slice lo hi (some sx) p2) pos) (dSl3 t tl th ts) :=
  PE.imp (pe_sl3 he hl hh hs) fun σ H Q ⟨δ, w, F, He, P, R, q, k⟩ => by
    refine ⟨δ, w, F, He, _, R, q, fun d w1 q1 v H1 F1 He1 wd1 st1 r1 => ?_⟩
    refine ⟨δ, w1, F1, He1, _, R.step wd1 st1, q1, fun o w2 q2 H2 F2 He2 wd2 st2 => ?_⟩
    refine ⟨δ, w2, F2, He2, _, (R.step wd1 st1).step wd2 st2, q2, fun o' w3 q3 H3 F3 He3 wd3 st3 => ?_⟩
    refine ⟨δ, w3, F3, He3, _, ((R.step wd1 st1).step wd2 st2).step wd3 st3, q3, fun o'' w4 q4 H4 F4 He4 wd4 st4 => ?_⟩
    have st := st1.trans (st2.trans (st3.trans st4))
    rw [← hK]
    exact sem_sl3 wd4 (r1.step (st2.trans (st3.trans st4))) q4 fun b d' p v H' F' He' wd s' rr => k b d' w4 p v H' F' He' wd (st.trans s') (rr.base st)
end
end Lv

namespace Lv
open PySem PySem.Spec L2

/-! ### told data: f writes an α as data, == is its own equality -/
structure Codec {α : Type} (f : α → D) (n : Nat) : Prop where
  pl : ∀ a, (f a).pl = true
  dep : ∀ a, (f a).py.depth ≤ n
  eq : ∀ a b, PyData.eqv (f a).py (f b).py = true ↔ a = b
theorem Codec.int : Codec D.int 0 := ⟨fun _ => rfl, fun _ => Nat.le_refl _, fun a b => by simp [D.py, PyData.eqv]⟩
theorem Codec.str : Codec D.str 0 := ⟨fun _ => rfl, fun _ => Nat.le_refl _, fun a b => by simp [D.py, PyData.eqv]⟩
theorem Codec.bl : Codec D.bl 0 := ⟨fun _ => rfl, fun _ => Nat.le_refl _, fun a b => by simp [D.py, PyData.eqv]⟩
section
variable {α β : Type} {f : α → D} {n : Nat}
theorem Codec.plAll (c : Codec f n) : ∀ as : List α, Lv.plAll (as.map f) = true
  | [] => rfl
  | a :: as => by rw [List.map_cons, Lv.plAll, c.pl, c.plAll as]; rfl
theorem Codec.depAll (c : Codec f n) : ∀ as : List α, PyData.depthAll (pyAll (as.map f)) ≤ n
  | [] => Nat.zero_le _
  | a :: as => by rw [List.map_cons, pyAll, PyData.depthAll]; exact Nat.max_le.mpr ⟨c.dep a, c.depAll as⟩
theorem Codec.eqAll (c : Codec f n) : ∀ as bs : List α, PyData.eqvAll (pyAll (as.map f)) (pyAll (bs.map f)) = true ↔ as = bs
  | [], [] => by simp [pyAll, PyData.eqvAll]
  | [], _ :: _ => by simp [pyAll, PyData.eqvAll]
  | _ :: _, [] => by simp [pyAll, PyData.eqvAll]
  | a :: as, b :: bs => by simp [pyAll, PyData.eqvAll, c.eq a b, c.eqAll as bs]
theorem Codec.lst (c : Codec f n) : Codec (fun as : List α => .lst (as.map f)) (n + 1) := ⟨fun as => c.plAll as, fun as => Nat.succ_le_succ (c.depAll as), fun as bs => by simpa [D.py, PyData.eqv] using c.eqAll as bs⟩
theorem Codec.tup (c : Codec f n) : Codec (fun as : List α => .tup (as.map f)) (n + 1) := ⟨fun as => c.plAll as, fun as => Nat.succ_le_succ (c.depAll as), fun as bs => by simpa [D.py, PyData.eqv] using c.eqAll as bs⟩
theorem Codec.up (c : Codec f n) {m : Nat} (h : n ≤ m) : Codec f m := ⟨c.pl, fun a => Nat.le_trans (c.dep a) h, c.eq⟩
theorem Codec.pair (c : Codec f n) {g : β → D} (d : Codec g n) : Codec (fun p : α × β => .tup [f p.1, g p.2]) (n + 1) :=
  ⟨fun p => by simp [D.pl, Lv.plAll, c.pl, d.pl], fun p => Nat.succ_le_succ (by simp only [pyAll, PyData.depthAll]; have := c.dep p.1; have := d.dep p.2; omega), fun p q => by simp [D.py, pyAll, PyData.eqv, PyData.eqvAll, c.eq, d.eq, Prod.ext_iff]⟩
theorem Codec.sEq [DecidableEq α] (c : Codec f n) (h : n ≤ 64) (a b : α) (P : Bool → D → Prop) : Lv.sEq (f a) (f b) P = P false (.bl (decide (a = b))) := by
  have e : (f a).eqv (f b) = decide (a = b) := by
    rw [Bool.eq_iff_iff, decide_eq_true_iff]
    exact c.eq a b
  unfold Lv.sEq
  rw [e]
  have := c.dep a
  simp [c.pl]
  intro _
  omega
theorem Codec.sNe [DecidableEq α] (c : Codec f n) (h : n ≤ 64) (a b : α) (P : Bool → D → Prop) : Lv.sNe (f a) (f b) P = P false (.bl (!decide (a = b))) := by
  have e : (f a).eqv (f b) = decide (a = b) := by
    rw [Bool.eq_iff_iff, decide_eq_true_iff]
    exact c.eq a b
  unfold Lv.sNe
  rw [e]
  have := c.dep a
  simp [c.pl]
  intro _
  omega
end
section
variable {α : Type} {f : α → D} {n : Nat}
theorem Codec.inD [DecidableEq α] (c : Codec f n) (a : α) : ∀ as : List α, Lv.inD (f a) (as.map f) = decide (a ∈ as)
  | [] => rfl
  | b :: as => by
    have ih := c.inD a as
    unfold Lv.inD at ih ⊢
    rw [List.map_cons, List.any_cons, ih]
    have e : (f b).eqv (f a) = decide (b = a) := by
      rw [Bool.eq_iff_iff, decide_eq_true_iff]
      exact c.eq b a
    rw [e]
    by_cases h : a = b
    · subst h; simp
    · have h' : ¬ b = a := fun e => h e.symm
      simp [h, h']
theorem Codec.sInL [DecidableEq α] (c : Codec f n) (h : n ≤ 64) (neg : Bool) (a : α) (as : List α) (P : Bool → D → Prop) : sIn neg (f a) (.lst (as.map f)) P = P false (.bl (if neg then !decide (a ∈ as) else decide (a ∈ as))) := by
  unfold sIn
  have := c.dep a
  simp only [c.inD, c.pl, c.plAll, true_and]
  simp
  intro _
  omega
theorem Codec.sInT [DecidableEq α] (c : Codec f n) (h : n ≤ 64) (neg : Bool) (a : α) (as : List α) (P : Bool → D → Prop) : sIn neg (f a) (.tup (as.map f)) P = P false (.bl (if neg then !decide (a ∈ as) else decide (a ∈ as))) := by
  unfold sIn
  have := c.dep a
  simp only [c.inD, c.pl, c.plAll, true_and]
  simp
  intro _
  omega
end
/-- lists of words, words of words -/
def lwD (ws : List (List Int)) : D := .lst (ws.map wD)
def llD (ws : List (List Int)) : D := .lst (ws.map iD)
theorem Codec.w : Codec wD 1 := Codec.int.tup
theorem Codec.i : Codec iD 1 := Codec.int.lst
theorem Codec.lw : Codec lwD 2 := Codec.w.lst
theorem Codec.ll : Codec llD 2 := Codec.i.lst
theorem sEq_w (a b : List Int) (P : Bool → D → Prop) : sEq (wD a) (wD b) P = P false (.bl (decide (a = b))) := Codec.w.sEq (by decide) a b P
theorem sEq_i (a b : List Int) (P : Bool → D → Prop) : sEq (iD a) (iD b) P = P false (.bl (decide (a = b))) := Codec.i.sEq (by decide) a b P
theorem sEq_lw (a b : List (List Int)) (P : Bool → D → Prop) : sEq (lwD a) (lwD b) P = P false (.bl (decide (a = b))) := Codec.lw.sEq (by decide) a b P
theorem sEq_lw' (a b : List (List Int)) (P : Bool → D → Prop) : sEq (.lst (a.map wD)) (.lst (b.map wD)) P = P false (.bl (decide (a = b))) := Codec.lw.sEq (by decide) a b P
theorem sEq_lle (a b : List (List Int)) (P : Bool → D → Prop) : sEq (llD a) (llD b) P = P false (.bl (decide (a = b))) := Codec.ll.sEq (by decide) a b P
theorem sEq_lle' (a b : List (List Int)) (P : Bool → D → Prop) : sEq (.lst (a.map iD)) (.lst (b.map iD)) P = P false (.bl (decide (a = b))) := Codec.ll.sEq (by decide) a b P
theorem sNe_w (a b : List Int) (P : Bool → D → Prop) : sNe (wD a) (wD b) P = P false (.bl (!decide (a = b))) := Codec.w.sNe (by decide) a b P
theorem sNe_i (a b : List Int) (P : Bool → D → Prop) : sNe (iD a) (iD b) P = P false (.bl (!decide (a = b))) := Codec.i.sNe (by decide) a b P
theorem sNe_lle' (a b : List (List Int)) (P : Bool → D → Prop) : sNe (.lst (a.map iD)) (.lst (b.map iD)) P = P false (.bl (!decide (a = b))) := Codec.ll.sNe (by decide) a b P
theorem sNe_lw' (a b : List (List Int)) (P : Bool → D → Prop) : sNe (.lst (a.map wD)) (.lst (b.map wD)) P = P false (.bl (!decide (a = b))) := Codec.lw.sNe (by decide) a b P
theorem sEq_ss (a b : Str) (P : Bool → D → Prop) : sEq (.str a) (.str b) P = P false (.bl (decide (a = b))) := Codec.str.sEq (by decide) a b P
theorem sNe_ss (a b : Str) (P : Bool → D → Prop) : sNe (.str a) (.str b) P = P false (.bl (!decide (a = b))) := Codec.str.sNe (by decide) a b P
theorem sEq_bb (a b : Bool) (P : Bool → D → Prop) : sEq (.bl a) (.bl b) P = P false (.bl (decide (a = b))) := Codec.bl.sEq (by decide) a b P
theorem sNe_bb (a b : Bool) (P : Bool → D → Prop) : sNe (.bl a) (.bl b) P = P false (.bl (!decide (a = b))) := Codec.bl.sNe (by decide) a b P
theorem sIn_iw (neg : Bool) (a : Int) (as : List Int) (P : Bool → D → Prop) : sIn neg (.int a) (.tup (as.map D.int)) P = P false (.bl (if neg then !decide (a ∈ as) else decide (a ∈ as))) := Codec.int.sInT (by decide) neg a as P
theorem sIn_ii (neg : Bool) (a : Int) (as : List Int) (P : Bool → D → Prop) : sIn neg (.int a) (.lst (as.map D.int)) P = P false (.bl (if neg then !decide (a ∈ as) else decide (a ∈ as))) := Codec.int.sInL (by decide) neg a as P
theorem sIn_wl (neg : Bool) (a : List Int) (as : List (List Int)) (P : Bool → D → Prop) : sIn neg (wD a) (.lst (as.map wD)) P = P false (.bl (if neg then !decide (a ∈ as) else decide (a ∈ as))) := (Codec.w.sInL (by decide) neg a as P).trans (by congr)
theorem sIn_wl' (neg : Bool) (a : List Int) (as : List (List Int)) (P : Bool → D → Prop) : sIn neg (.tup (a.map D.int)) (.lst (as.map wD)) P = P false (.bl (if neg then !decide (a ∈ as) else decide (a ∈ as))) := (Codec.w.sInL (by decide) neg a as P).trans (by congr)
theorem atI_f {α : Type} (f : α → D) {ns : List α} {k : Int} {x : α} (h0 : 0 ≤ k) (h : ns[k.toNat]? = some x) : atI (ns.map f) k = some (f x) := by
  have hl := (List.getElem?_eq_some_iff.mp h).1
  rw [atI_nn h0 (by rw [List.length_map]; omega), List.getElem?_map, h]
  rfl
theorem atI_fk {α : Type} (f : α → D) {ns : List α} {k : Nat} (h : k < ns.length) : atI (ns.map f) (0 + (k : Int)) = some (f ns[k]) := atI_f f (by omega) (by rw [show (0 + (k : Int)).toNat = k by omega]; simp)
/-- a comprehension whose items are only known by a word R -/
theorem lc_any {W : Ext} {α β : Type} {i : Nat} {te : DX W} {δ : DSt} {w : W.Om} {Q : Bool → D → W.Om → Prop} (f : α → D) (g : β → D) (R : α → β → Prop) (xs : List α)
    (hs : ∀ x ∈ xs, ∀ P : Bool → D → W.Om → Prop, (∀ b y, R x y → P b (g y) w) → te (δ.set i (some (false, f x))) w P) :
    ∀ acc : List D, acc.length + xs.length ≤ sizeLine → (∀ ys : List β, ys.length = xs.length → (∀ y ∈ ys, ∃ x ∈ xs, R x y) → Q true (.lst (acc ++ ys.map g)) w) → dLcGo (gN i) dYes te δ (xs.map f) acc w Q := by
  induction xs with
  | nil =>
    intro acc _ q
    have := q [] rfl (fun _ h => nomatch h)
    rw [List.map_nil, List.append_nil] at this
    exact this
  | cons x xs ih =>
    intro acc hz q
    simp only [List.map_cons, dLcGo, gN, dYes, if_true]
    refine hs x List.mem_cons_self _ fun b y hy => ⟨by simp at hz; omega, ?_⟩
    refine ih (fun y hy => hs y (List.mem_cons_of_mem _ hy)) _ (by simp at hz ⊢; omega) fun ys hl hr => ?_
    have := q (y :: ys) (by simp [hl]) (fun y' h' => by
      rcases List.mem_cons.mp h' with e | e
      · subst e; exact ⟨x, List.mem_cons_self, hy⟩
      · obtain ⟨x', hx', r⟩ := hr y' e
        exact ⟨x', List.mem_cons_of_mem _ hx', r⟩)
    simpa using this
theorem if_join {p : Prop} [Decidable p] {a b : Prop} (h : p → a) (g : ¬p → b) : if p then a else b := by
  by_cases x : p
  · rw [if_pos x]; exact h x
  · rw [if_neg x]; exact g x
theorem cutD_nn {α : Type} (ns : List α) {i j : Int} (h : 0 ≤ i) (h2 : i ≤ j) (h3 : j ≤ ns.length) : cutD ns (some i) (some j) = (ns.drop i.toNat).take (j - i).toNat := by
  have e1 : HT.sIx ns.length 0 (some i) = i.toNat := by
    unfold HT.sIx
    simp only []
    rw [if_neg (by omega)]
    omega
  have e2 : HT.sIx ns.length ns.length (some j) = j.toNat := by
    unfold HT.sIx
    simp only []
    rw [if_neg (by omega)]
    omega
  unfold cutD
  rw [e1, e2]
  congr 1
  omega
theorem cutD_mid {α : Type} (a b c : List α) : cutD (a ++ b ++ c) (some (a.length : Int)) (some ((a.length : Int) + b.length)) = b := by
  rw [cutD_nn _ (by omega) (by omega) (by simp; omega), List.append_assoc]
  have e : ((a.length : Int) + b.length - a.length).toNat = b.length := by omega
  rw [e]
  simp
theorem cutD_upto {α : Type} (ns : List α) {j : Int} (h : 0 ≤ j) : cutD ns none (some j) = ns.take j.toNat := by
  have e2 : HT.sIx ns.length ns.length (some j) = min j.toNat ns.length := by
    unfold HT.sIx
    simp only []
    rw [if_neg (by omega)]
  have e3 : HT.sIx ns.length 0 none = 0 := rfl
  unfold cutD
  rw [e2, e3, List.drop_zero, Nat.sub_zero]
  by_cases x : j.toNat ≤ ns.length
  · rw [Nat.min_eq_left x]
  · rw [Nat.min_eq_right (by omega), List.take_of_length_le (Nat.le_refl _), List.take_of_length_le (by omega)]
end Lv

namespace Lv
open PySem PySem.Spec L2

/-! ### methods of texts and lists that give a value -/
def isS : D → Prop
  | .str _ => True
  | _ => False
def isL : D → Prop
  | .lst _ => True
  | .scr _ => True
  | _ => False
def isA : D → Prop
  | .tup _ => True
  | _ => False
def dM0 {W : Ext} (ty : D → Prop) (sem : D → (Bool → D → Prop) → Prop) (ta : DO W) : DX W := fun δ w Q => ta δ w fun d w1 => ty d ∧ sem d fun b d' => Q b d' w1
def dM1 {W : Ext} (ty : D → Prop) (sem : D → D → (Bool → D → Prop) → Prop) (ta tb : DO W) : DX W := fun δ w Q => ta δ w fun d w1 => ty d ∧ tb δ w1 fun e w2 => sem d e fun b d' => Q b d' w2
def TyOk (z : Ent) (T : String) (ty : D → Prop) : Prop := ∀ (F He H : Hp) (x : V) (d : D), Same F H → DT z.K F He H x d → ty d → tyV z.K T x H
theorem ty_str {z : Ent} : TyOk z "str" isS := fun F He H x d s r h => by
  cases d with
  | str y => cases r.str; exact rfl
  | _ => exact h.elim
theorem ty_list {z : Ent} : TyOk z "list" isL := fun F He H x d s r h => by
  cases d with
  | lst ds => obtain ⟨a, vs, rfl, ha, _⟩ := r.lst s; exact .inl ⟨rfl, vs, .of ha⟩
  | scr ns => obtain ⟨a, rfl, ha⟩ := r.scr s; exact .inl ⟨rfl, _, ha⟩
  | _ => exact h.elim
def SemM0 (z : Ent) (r : V → List V → Hp → VK → Prop) (sem : D → (Bool → D → Prop) → Prop) : Prop := Sem1 z (fun x H Q => r x [] H Q) sem
def SemM1 (z : Ent) (r : V → List V → Hp → VK → Prop) (sem : D → D → (Bool → D → Prop) → Prop) : Prop := Sem2 z (fun x y H Q => r x [y] H Q) sem
section
variable {X : Cx} {z : Ent} {pos : Pos}
theorem jx_m0 {T id : String} {name : Str} {r : V → List V → Hp → VK → Prop} {ty : D → Prop} {sem : D → (Bool → D → Prop) → Prop} {o : Expr} {to : DO z.W} {apos cpos : Pos} (pa : PlainAttrs T) (slot : Slot T name id) (hty : typeOf (.builtin id) = pure (.type "method_descriptor")) (hm : MtR X id r) (ht : TyOk z T ty) (hs : SemM0 z r sem) (hK : z.K = X.K) (ho : JO X z o to)
    (hbase : attributeBase o name X.env (eval o X.env) = eval o X.env := by rfl) (hline : (apos.endLine == cpos.line) = true := by rfl) : JX X z (.Call (.Attribute o name apos) [] [] cpos) (dM0 ty sem to) :=
  PE.imp (pe_bm0 pa slot hty hm ho hbase hline) fun σ H Q ⟨δ, w, F, He, P, R, q, k⟩ => by
    refine ⟨δ, w, F, He, _, R, q, fun d w1 q1 x H1 F1 He1 wd1 st1 r1 => ⟨?_, ?_⟩⟩
    · rw [← hK]; exact ht F1 He1 H1 x d wd1.sf r1 q1.1
    · exact hs w1 F1 He1 H1 x d _ Q wd1 r1 q1.2 fun b d' p v H' F' He' wd st rr => k b d' w1 p v H' F' He' wd (st1.trans st) (rr.base st1)
theorem jx_m1 {T id : String} {name : Str} {r : V → List V → Hp → VK → Prop} {ty : D → Prop} {sem : D → D → (Bool → D → Prop) → Prop} {o e : Expr} {to te : DO z.W} {apos cpos : Pos} (pa : PlainAttrs T) (slot : Slot T name id) (hty : typeOf (.builtin id) = pure (.type "method_descriptor")) (hm : MtR X id r) (ht : TyOk z T ty) (hs : SemM1 z r sem) (hK : z.K = X.K) (ho : JO X z o to) (he : JO X z e te)
    (hbase : attributeBase o name X.env (eval o X.env) = eval o X.env := by rfl)
    (hfew : ((backTo cpos (starEach [e] X.env)).all (fun x => !x.1) && (backToKw cpos (keywordEach [] X.env)).all (fun x => x.1.isSome)
      && decide ([e].length + ([] : List Keyword).length + (if ([] : List Keyword).isEmpty then 0 else 1) < 30)) = true := by rfl)
    (hline : (apos.endLine == cpos.line) = true := by rfl) (hs1 : starEach [e] X.env = [(false, eval e X.env)] := by rfl) (hplain : (backTo cpos (starEach ([] : List Expr) X.env)).any (·.1) = false := by rfl) : JX X z (.Call (.Attribute o name apos) [e] [] cpos) (dM1 ty sem to te) :=
  PE.imp (pe_bm pa slot hty hm ho (pa_cons he pa_nil hs1) hbase hfew hline hs1 hplain) fun σ H Q ⟨δ, w, F, He, P, R, q, k⟩ => by
    refine ⟨δ, w, F, He, _, R, q, fun d w1 q1 x H1 F1 He1 wd1 st1 r1 => ⟨?_, ?_⟩⟩
    · rw [← hK]; exact ht F1 He1 H1 x d wd1.sf r1 q1.1
    · refine ⟨δ, w1, F1, He1, _, R.step wd1 st1, q1.2, fun e w2 q2 y H2 F2 He2 wd2 st2 r2 => ?_⟩
      exact hs w2 F2 He2 H2 x y d e _ Q wd2 (r1.step st2) r2 q2 fun b d' p v H' F' He' wd st rr => k b d' w2 p v H' F' He' wd ((st1.trans st2).trans st) (rr.base (st1.trans st2))
def sUpper (d : D) (P : Bool → D → Prop) : Prop := match d with
  | .str x => x.length ≤ 5592405 ∧ P false (.str (Txt.upper x))
  | _ => False
def sLower (d : D) (P : Bool → D → Prop) : Prop := match d with
  | .str x => x.length ≤ 5592405 ∧ P false (.str (Txt.lower x))
  | _ => False
theorem sem_upper : SemM0 z (fun x xs H Q => ∃ a, x = .str a ∧ xs = [] ∧ a.length ≤ 5592405 ∧ Q (.str (Txt.upper a)) H) sUpper := fun w F He H x d P Q wd dx q k => by
  unfold sUpper at q
  split at q
  · exact ⟨_, dx.str, rfl, q.1, res_at wd (.str _) q.2 k⟩
  · exact q.elim
theorem sem_lower : SemM0 z (fun x xs H Q => ∃ a, x = .str a ∧ xs = [] ∧ a.length ≤ 5592405 ∧ Q (.str (Txt.lower a)) H) sLower := fun w F He H x d P Q wd dx q k => by
  unfold sLower at q
  split at q
  · exact ⟨_, dx.str, rfl, q.1, res_at wd (.str _) q.2 k⟩
  · exact q.elim
def sStrip1 (d e : D) (P : Bool → D → Prop) : Prop := match d, e with
  | .str a, .str b => a.length ≤ sizeLine ∧ P false (.str (Txt.stripChars a b))
  | _, _ => False
theorem sem_sstrip : SemM1 z (fun x xs H Q => ∃ a b, x = .str a ∧ xs = [.str b] ∧ a.length ≤ sizeLine ∧ Q (.str (Txt.stripChars a b)) H) sStrip1 := fun w F He H x y d e P Q wd dx dy q k => by
  unfold sStrip1 at q
  split at q
  · exact ⟨_, _, dx.str, by rw [dy.str], q.1, res_at wd (.str _) q.2 k⟩
  · exact q.elim
def sSfind (d e : D) (P : Bool → D → Prop) : Prop := match d, e with
  | .str a, .str b => P false (.int (Txt.find a b))
  | _, _ => False
theorem sem_sfind : SemM1 z (fun x xs H Q => ∃ a b, x = .str a ∧ xs = [.str b] ∧ Q (.int (Txt.find a b)) H) sSfind := fun w F He H x y d e P Q wd dx dy q k => by
  unfold sSfind at q
  split at q
  · exact ⟨_, _, dx.str, by rw [dy.str], res_at wd (.int _) q k⟩
  · exact q.elim
def sScount (d e : D) (P : Bool → D → Prop) : Prop := match d, e with
  | .str a, .str b => P false (.int (Txt.count a b))
  | _, _ => False
theorem sem_scount : SemM1 z (fun x xs H Q => ∃ a b, x = .str a ∧ xs = [.str b] ∧ Q (.int (Txt.count a b)) H) sScount := fun w F He H x y d e P Q wd dx dy q k => by
  unfold sScount at q
  split at q
  · exact ⟨_, _, dx.str, by rw [dy.str], res_at wd (.int _) q k⟩
  · exact q.elim
def sSindex (d e : D) (P : Bool → D → Prop) : Prop := match d, e with
  | .str a, .str b => ∃ i rest, Builtin.Str.occurrences a b 0 a.length 1 = i :: rest ∧ P false (.int (i : Nat))
  | _, _ => False
theorem sem_sindex : SemM1 z (fun x xs H Q => ∃ a b i rest, x = .str a ∧ xs = [.str b] ∧ Builtin.Str.occurrences a b 0 a.length 1 = i :: rest ∧ Q (.int (i : Nat)) H) sSindex := fun w F He H x y d e P Q wd dx dy q k => by
  unfold sSindex at q
  split at q
  · obtain ⟨i, rest, e1, q⟩ := q
    exact ⟨_, _, i, rest, dx.str, by rw [dy.str], e1, res_at wd (.int _) q k⟩
  · exact q.elim
theorem drs_strs {K : PySem.W.Frag} {F : Hp} : ∀ ys : List Str, DRs K F (ys.map V.str) (ys.map D.str)
  | [] => .nil
  | y :: ys => .cons (.str y) (drs_strs ys)
theorem of_strs {K : PySem.W.Frag} {F : Hp} : ∀ {ys : List Str} {vs : List V}, DRs K F vs (ys.map D.str) → vs = ys.map V.str
  | [], _, .nil => rfl
  | y :: ys, _, .cons h hs => by
    cases h
    rw [of_strs hs]
    rfl
def sSsplit (d e : D) (P : Bool → D → Prop) : Prop := match d, e with
  | .str a, .str b => (b.length == 0) = false ∧ a.length + 2 ≤ sizeLine ∧ P true (.lst ((Txt.split a b).map .str))
  | _, _ => False
theorem sem_ssplit : SemM1 z (fun x xs H Q => ∃ a b, x = .str a ∧ xs = [.str b] ∧ (b.length == 0) = false ∧ a.length + 2 ≤ sizeLine ∧ rNewStrs (Txt.split a b) H Q) sSsplit := fun w F He H x y d e P Q wd dx dy q k => by
  unfold sSsplit at q
  split at q
  · exact ⟨_, _, dx.str, by rw [dy.str], q.1, q.2.1, fun p hp => res_new wd hp (.lst (drs_strs _)) q.2.2 k⟩
  · exact q.elim
def sSjoin (d e : D) (P : Bool → D → Prop) : Prop := match d, e with
  | .str a, .lst ds => ∃ ys : List Str, ds = ys.map .str ∧ (ys.map (·.length)).sum + ys.length * a.length ≤ 16777216 ∧ P false (.str (Txt.join a ys))
  | .str a, .tup ds => ∃ ys : List Str, ds = ys.map .str ∧ (ys.map (·.length)).sum + ys.length * a.length ≤ 16777216 ∧ P false (.str (Txt.join a ys))
  | _, _ => False
theorem sem_sjoin : SemM1 z (fun x xs H Q => ∃ a p, ∃ ys : List Str, x = .str a ∧ xs = [.ref p] ∧ (SqL z.K H p (ys.map V.str) ∨ SqT z.K H p (ys.map V.str)) ∧
    (ys.map (·.length)).sum + ys.length * a.length ≤ 16777216 ∧ Q (.str (Txt.join a ys)) H) sSjoin := fun w F He H x y d e P Q wd dx dy q k => by
  unfold sSjoin at q
  split at q
  · obtain ⟨ys, rfl, h, q⟩ := q
    obtain ⟨a, vs, rfl, ha, r⟩ := dy.lst wd.sf
    cases of_strs r
    exact ⟨_, a, ys, dx.str, rfl, .inl (.of ha), h, res_at wd (.str _) q k⟩
  · obtain ⟨ys, rfl, h, q⟩ := q
    obtain ⟨a, vs, rfl, ha, r⟩ := dy.tup wd.sf
    cases of_strs r
    exact ⟨_, a, ys, dx.str, rfl, .inr (.of ha), h, res_at wd (.str _) q k⟩
  · exact q.elim
end
end Lv

namespace Lv
open PySem PySem.Spec L2 SX

/-! ### texts by their code points -/
theorem cps_S (a : List Nat) : (S a).cps.toList = a := rfl
theorem len_S (a : List Nat) : (S a).length = a.length := S_len a
theorem cutS_to (a : List Nat) {i : Int} (h : 0 ≤ i) : cutS (S a) none (some i) = S (a.take i.toNat) := by rw [C8.cutS_slice, slice_to h]
theorem cutS_from (a : List Nat) {i : Int} (h : 0 ≤ i) : cutS (S a) (some i) none = S (a.drop i.toNat) := by rw [C8.cutS_slice, slice_from h]
theorem one_S (c : Nat) : (⟨#[c]⟩ : Str) = S [c] := rfl
theorem lit_small : Str.ofString "abcdefghijklmnopqrstuvwxyz" = S [97, 98, 99, 100, 101, 102, 103, 104, 105, 106, 107, 108, 109, 110, 111, 112, 113, 114, 115, 116, 117, 118, 119, 120, 121, 122] := by decide +kernel
theorem lit_large : Str.ofString "ABCDEFGHIJKLMNOPQRSTUVWXYZ" = S [65, 66, 67, 68, 69, 70, 71, 72, 73, 74, 75, 76, 77, 78, 79, 80, 81, 82, 83, 84, 85, 86, 87, 88, 89, 90] := by decide +kernel
theorem lit_hat : Str.ofString "^" = S [94] := by decide +kernel
theorem lit_one : Str.ofString "1" = S [49] := by decide +kernel
theorem lit_nil : Str.ofString "" = S [] := by decide +kernel
theorem occ_small {c : Nat} (h : 97 ≤ c) (h2 : c ≤ 122) : ∃ rest, Builtin.Str.occurrences (Str.ofString "abcdefghijklmnopqrstuvwxyz") (S [c]) 0 (Str.ofString "abcdefghijklmnopqrstuvwxyz").length 1 = (c - 97) :: rest := by
  have key : ∀ k : Fin 26, (Builtin.Str.occurrences (Str.ofString "abcdefghijklmnopqrstuvwxyz") (S [97 + k.1]) 0 (Str.ofString "abcdefghijklmnopqrstuvwxyz").length 1).head? = some k.1 := by decide +kernel
  have := key ⟨c - 97, by omega⟩
  rw [show 97 + (c - 97) = c by omega] at this
  cases e : Builtin.Str.occurrences (Str.ofString "abcdefghijklmnopqrstuvwxyz") (S [c]) 0 (Str.ofString "abcdefghijklmnopqrstuvwxyz").length 1 with
  | nil => rw [e] at this; cases this
  | cons i r => rw [e] at this; cases this; exact ⟨r, rfl⟩
theorem ix_large {c : Nat} (h : 97 ≤ c) (h2 : c ≤ 122) : atI (Str.ofString "ABCDEFGHIJKLMNOPQRSTUVWXYZ").cps.toList ((c - 97 : Nat) : Int) = some (c - 32) := by
  have key : ∀ k : Fin 26, atI (Str.ofString "ABCDEFGHIJKLMNOPQRSTUVWXYZ").cps.toList ((k.1 : Nat) : Int) = some (65 + k.1) := by decide +kernel
  have := key ⟨c - 97, by omega⟩
  rw [this]
  congr 1
  show 65 + (c - 97) = c - 32
  omega
theorem upper_one {c : Nat} (h : 97 ≤ c) (h2 : c ≤ 122) : Txt.upper (S [c]) = S [c - 32] := by
  rw [upper_S (by simp; omega)]
  have : PyProof.Rows.up1 c = c - 32 := by unfold PyProof.Rows.up1; rw [if_pos ⟨h, h2⟩]
  simp [this]
theorem str_num (n : Nat) : Str.ofString (toString ((n : Nat) : Int)) = S (TL.numL n) := num_S n
theorem join_nil : ∀ ys : List (List Nat), Txt.join (S []) (ys.map S) = S ys.flatten := fun ys => by
  rw [join_S]
  congr 2
  induction ys with
  | nil => rfl
  | cons y ys ih =>
    cases ys with
    | nil => simp [TL.joinL]
    | cons z zs =>
      show y ++ ([] ++ TL.joinL [] (z :: zs)) = _
      rw [ih]
      rfl
theorem sum_S : ∀ ys : List (List Nat), ((ys.map S).map (·.length)).sum = ys.flatten.length
  | [] => rfl
  | y :: ys => by
    have ih := sum_S ys
    rw [List.map_cons, List.map_cons, List.sum_cons, ih, S_len, List.flatten_cons, List.length_append]
theorem log2_sm {n : Nat} (h : n ≤ 1000000) : n.log2 < 1920 := by
  by_cases h0 : n = 0
  · subst h0; decide
  · have : n.log2 < 20 + 1 := (Nat.log2_lt h0).mpr (by omega)
    omega
end Lv

namespace Lv
open PySem PySem.Spec L2

/-! ### what is never come to; constants of the module -/
def dNever {W : Ext} : DS W := fun _ _ _ => False
section
variable {X : Cx} {z : Ent} {pos : Pos}
theorem js_no {st : Stmt} : JS X z st dNever := ⟨fun pins s σ H D I ⟨_, _, _, _, _, _, q, _⟩ => q.elim⟩
theorem jss_no {st : List Stmt} : JSs X z st dNever := ⟨fun pins s σ H D I ⟨_, _, _, _, _, _, q, _⟩ => q.elim⟩
theorem jx_gcI {x : Str} {i : Int} (h : ∃ u, X.mg x = some u ∧ RelV (.int i) u) (hg : Gl X x := by rfl) (hd : (x == ("__debug__" : Str)) = false := by decide) : JX X z (.Name x pos) (dC (.int i)) := jx_c (C8.pe_gc hg h hd) fun _ => .int i
theorem jx_gcS {x : Str} {i : Str} (h : ∃ u, X.mg x = some u ∧ RelV (.str i) u) (hg : Gl X x := by rfl) (hd : (x == ("__debug__" : Str)) = false := by decide) : JX X z (.Name x pos) (dC (.str i)) := jx_c (C8.pe_gc hg h hd) fun _ => .str i
end
/-! ### more of texts -/
open SX
theorem cutS_cut (a : List Nat) (lo hi : Option Int) : cutS (S a) lo hi = S (cutD a lo hi) := by
  unfold cutS cutD
  rw [S_len]
theorem in_oneS (neg : Bool) (a : List Nat) (c : Nat) (P : Bool → D → Prop) : sIn neg (.str (S [c])) (.str (S a)) P = P false (.bl (if neg then !decide (c ∈ a) else decide (c ∈ a))) := by
  unfold sIn
  simp only [in_one]
open Builtin Builtin.Str StrLaws in
theorem occ_full (s sub : Str) (hi : Nat) : ∀ (l : List Nat) (st : Array Nat × Nat), 1 ≤ st.fst.size → (forIn l st (occBody s sub hi 1)).run.fst = st.fst
  | [], st, _ => rfl
  | a :: l, st, h => by
    rw [List.forIn_cons]
    unfold occBody
    rw [if_neg (by omega)]
    exact occ_full s sub hi l (st.fst, st.snd) h
open Builtin Builtin.Str StrLaws in
theorem occ_skip (s sub : Str) (hi i : Nat) (post : List Nat) : ∀ (pre : List Nat) (free : Nat), free ≤ i → (∀ a ∈ pre, ¬ (a + sub.length ≤ hi ∧ subAt s sub a = true)) → (i + sub.length ≤ hi ∧ subAt s sub i = true) →
    (forIn (pre ++ i :: post) ((#[] : Array Nat), free) (occBody s sub hi 1)).run.fst = #[i]
  | [], free, hf, _, hi' => by
    rw [List.nil_append, List.forIn_cons]
    unfold occBody
    rw [if_pos ⟨⟨⟨by simp, hf⟩, hi'.1⟩, hi'.2⟩]
    exact occ_full s sub hi post _ (by simp)
  | a :: pre, free, hf, hp, hi' => by
    rw [List.cons_append, List.forIn_cons]
    unfold occBody
    have ha := hp a List.mem_cons_self
    rw [if_neg (fun h => ha ⟨h.1.2, h.2⟩)]
    exact occ_skip s sub hi i post pre free hf (fun b hb => hp b (List.mem_cons_of_mem _ hb)) hi'
open StrLaws in
theorem occ_first {a : List Nat} {c i : Nat} (h : a[i]? = some c) (hn : ∀ j, j < i → a[j]? ≠ some c) : Builtin.Str.occurrences (S a) (S [c]) 0 (S a).length 1 = [i] := by
  have hl := (List.getElem?_eq_some_iff.mp h).1
  rw [occ_eq]
  have e : List.range' 0 ((S a).length + 1 - 0) = List.range' 0 i ++ i :: List.range' (i + 1) (a.length - i) := by
    rw [S_len, show a.length + 1 - 0 = i + ((a.length - i) + 1) by omega, ← List.range'_append_1, Nat.zero_add, List.range'_succ]
  rw [e]
  have := occ_skip (S a) (S [c]) (S a).length i (List.range' (i + 1) (a.length - i)) (List.range' 0 i) 0 (by omega) (fun j hj hc => hn j (by simp [List.mem_range'] at hj; omega) ((subAt_one (S a) c j).mp hc)) ((subAt_one (S a) c i).mpr h)
  rw [this]
theorem nodup_first {a : List Nat} (hd : a.Nodup) {c i : Nat} (h : a[i]? = some c) : ∀ j, j < i → a[j]? ≠ some c := by
  intro j hj h2
  have hl := (List.getElem?_eq_some_iff.mp h).1
  obtain ⟨h1a, h1b⟩ := List.getElem?_eq_some_iff.mp h
  obtain ⟨h3a, h3b⟩ := List.getElem?_eq_some_iff.mp h2
  exact List.pairwise_iff_getElem.mp hd j i h3a h1a hj (h3b.trans h1b.symm)
theorem lower_one {c : Nat} (h : 97 ≤ c) (h2 : c ≤ 122) : Txt.lower (S [c - 32]) = S [c] := by
  rw [lower_S (by simp; omega)]
  have : PyProof.Rows.lo1 (c - 32) = c := by unfold PyProof.Rows.lo1; rw [if_pos (by omega)]; omega
  simp [this]
theorem lower_sm {c : Nat} (h : 97 ≤ c) (h2 : c ≤ 122) : Txt.lower (S [c]) = S [c] := by
  rw [lower_S (by simp; omega)]
  have : PyProof.Rows.lo1 c = c := by unfold PyProof.Rows.lo1; rw [if_neg (by omega)]
  simp [this]
theorem lit_open : Str.ofString "(" = S [40] := by decide +kernel
theorem lit_close : Str.ofString ")" = S [41] := by decide +kernel
theorem lit_minus : Str.ofString "-" = S [45] := by decide +kernel
theorem lit_zero : Str.ofString "0" = S [48] := by decide +kernel
theorem lit_digits : Str.ofString "0123456789" = S [48, 49, 50, 51, 52, 53, 54, 55, 56, 57] := by decide +kernel
theorem num_lead : ∀ k : Nat, k ≤ 999 → (TL.numL k)[0]? = some 48 → (TL.numL k).length = 1 := by
  have key : ∀ k : Fin 1000, (TL.numL k.1)[0]? = some 48 → (TL.numL k.1).length = 1 := by decide +kernel
  exact fun k h => key ⟨k, by omega⟩
theorem num_len3 {k : Nat} (h : k ≤ 999) : (TL.numL k).length ≤ 3 := TL.numL_len (by omega) (by omega)
theorem num_dig {k c : Nat} (h : c ∈ TL.numL k) : 48 ≤ c ∧ c ≤ 57 := by
  refine Classical.byContradiction fun hn => ?_
  exact TL.numL_free (n := k) (s := c) (by omega) h
theorem num_int {k : Nat} (h : k ≤ 999) : intText? (S (TL.numL k)) = some (k : Int) := by
  rw [← str_num]
  exact TL.int_num (by have := num_len3 h; omega)
theorem cutD_nat {α : Type} (ns : List α) (i j : Nat) : cutD ns (some (i : Int)) (some (j : Int)) = (ns.drop i).take (j - i) := by
  have e1 : HT.sIx ns.length 0 (some (i : Int)) = min i ns.length := by
    unfold HT.sIx
    simp only []
    rw [if_neg (by omega), Int.toNat_natCast]
  have e2 : HT.sIx ns.length ns.length (some (j : Int)) = min j ns.length := by
    unfold HT.sIx
    simp only []
    rw [if_neg (by omega), Int.toNat_natCast]
  unfold cutD
  rw [e1, e2]
  by_cases hi : i ≤ ns.length
  · rw [Nat.min_eq_left hi]
    by_cases hj : j ≤ ns.length
    · rw [Nat.min_eq_left hj]
    · rw [Nat.min_eq_right (by omega), List.take_of_length_le (by simp), List.take_of_length_le (by simp; omega)]
  · rw [List.drop_eq_nil_of_le (by omega), List.drop_eq_nil_of_le (by omega)]
    simp
theorem cutD_nat1 {α : Type} (ns : List α) (i : Nat) : cutD ns (some (i : Int)) (some ((i : Int) + 1)) = (ns.drop i).take 1 := by
  have := cutD_nat ns i (i + 1)
  rw [show ((i + 1 : Nat) : Int) = (i : Int) + 1 by omega] at this
  rw [this, show i + 1 - i = 1 by omega]
theorem sEq_nil {ds : List D} (h : plAll ds = true) (hne : ds ≠ []) (P : Bool → D → Prop) : sEq (.lst ds) (.lst []) P = P false (.bl false) := by
  unfold sEq
  have e : (D.lst ds).eqv (.lst []) = false := by
    cases ds with
    | nil => exact absurd rfl hne
    | cons d ds => simp [D.eqv, D.py, pyAll, PyData.eqv, PyData.eqvAll]
  rw [e]
  simp [D.pl, h, plAll, D.py, pyAll, PyData.depth, PyData.depthAll]
theorem sEq_nil' (P : Bool → D → Prop) : sEq (.lst []) (.lst []) P = P false (.bl true) := by
  unfold sEq
  simp [D.pl, plAll, D.py, pyAll, PyData.depth, PyData.depthAll, D.eqv, PyData.eqv, PyData.eqvAll]
theorem kitB_tl : kitB "tuple" "list" = some false := by decide +kernel
theorem kitB_lt : kitB "list" "tuple" = some false := by decide +kernel
theorem sIsi_tl (ds : List D) (P : Bool → D → Prop) : sIsi (.tup ds) (.ty "list") P = P false (.bl false) := by
  unfold sIsi; simp [tyD, kitB_tl]
theorem sIsi_lt (ds : List D) (P : Bool → D → Prop) : sIsi (.lst ds) (.ty "tuple") P = P false (.bl false) := by
  unfold sIsi; simp [tyD, kitB_lt]
end Lv

set_option maxHeartbeats 4000000
namespace Lv
open PySem PySem.Spec PyProof.Rows L2

/-! ### tuple * int, any -/
theorem tuple_mulS (l : Addr) (items : Array Value) (n : Nat) (dd : Option Addr) (sl : Array (Option Value)) (x : Int) (u : Tok) (c0 : (decide (x < -(2 ^ 63)) || decide (x ≥ 2 ^ 63)) = false) (c1 : (items.isEmpty || x == 1) = true) :
    Meets (Builtin.«tuple.__mul__» ⟨[.ref l, .int x u], []⟩) (fun _ R s => s.heap.get? l = some { cls := .type "tuple", dict := dd, data := .seq items n, slots := sl } ∧ R (.ok (.ret (Value.ref l))) s) :=
  .of_wp fun prog w A R s h => by
    obtain ⟨hp, g, d, tk, os⟩ := s
    obtain ⟨hl, h⟩ := h
    have f1 := AutoSeq1.idx_int
    wp_walk using wpAny_loadPart' hl
    repeat (first
      | (refine wpAny_ite_false (decide_eq_false (by rw [c0]; exact Bool.false_ne_true)) ?_; wp_walk using wpAny_loadPart' hl)
      | (refine wpAny_ite_true (decide_eq_true (by rw [c1])) ?_; wp_walk using wpAny_loadPart' hl))
    exact ⟨_, rfl, h⟩
theorem tuple_mul0 (l : Addr) (items : Array Value) (n : Nat) (dd : Option Addr) (sl : Array (Option Value)) (x : Int) (u : Tok) (c0 : (decide (x < -(2 ^ 63)) || decide (x ≥ 2 ^ 63)) = false) (c1 : (items.isEmpty || x == 1) = false) (c2 : (decide (x ≤ 0) || items.isEmpty) = true) :
    Meets (Builtin.«tuple.__mul__» ⟨[.ref l, .int x u], []⟩) (fun _ R s => s.heap.get? l = some { cls := .type "tuple", dict := dd, data := .seq items n, slots := sl } ∧
      R (.ok (.ret (Value.ref s.heap.objs.size))) { s with heap := s.heap.push { cls := Value.type "tuple", data := Data.seq #[] }, toks := s.toks }) :=
  .of_wp fun prog w A R s h => by
    obtain ⟨hp, g, d, tk, os⟩ := s
    obtain ⟨hl, h⟩ := h
    have f1 := AutoSeq1.idx_int
    wp_walk using wpAny_loadPart' hl
    repeat (first
      | (refine wpAny_ite_false (decide_eq_false (by rw [c0]; exact Bool.false_ne_true)) ?_; wp_walk using wpAny_loadPart' hl)
      | (refine wpAny_ite_false (decide_eq_false (by rw [c1]; exact Bool.false_ne_true)) ?_; wp_walk using wpAny_loadPart' hl)
      | (refine wpAny_ite_true (decide_eq_true (by rw [c2])) ?_; wp_walk using wpAny_loadPart' hl))
    exact ⟨_, rfl, h⟩
def rRepA (K : PySem.W.Frag) : R2 := fun x y H Q => ∃ l k xs, x = .ref l ∧ y = .int k ∧ SqT K H l xs ∧ -(2 ^ 63) ≤ k ∧ k < 2 ^ 63 ∧ xs.length * k.toNat ≤ 1000000 ∧ ((xs = [] ∨ k = 1) → Q (.ref l) H) ∧ (¬ (xs = [] ∨ k = 1) → ∀ p, H p = none → Q (.ref p) (upd H p (.tup (List.replicate k.toNat xs).flatten)))
theorem op_repA {X : Cx} : OpR X (binaryOp .Mult) (rRepA X.K) := by
  intro pins s σ H x y v u Q I rx ry h
  obtain ⟨l, k, xs, rfl, rfl, hT, h1, h2, hz, q1, q2⟩ := h
  cases rx
  obtain ⟨t, rfl⟩ := ry
  obtain ⟨its, r, ⟨⟨cls, dd, data, sl⟩, ho, hc, n, hd⟩, hs⟩ := I.tuple hT
  simp only at hc hd
  subst hc hd
  have hle : its.length = xs.length := r.length.symm
  have hsz0 : its.toArray.size = xs.length := by rw [List.size_toArray, hle]
  have hi : its.toArray.isEmpty = decide (xs = []) := by
    cases its with
    | nil =>
      have : xs = [] := List.eq_nil_of_length_eq_zero hle.symm
      simp [this]
    | cons a b =>
      have : xs ≠ [] := fun e => by rw [e] at hle; simp at hle
      simp [this]
  have c0 : (decide (k < -(2 ^ 63)) || decide (k ≥ 2 ^ 63)) = false := by
    rw [decide_eq_false (by omega), decide_eq_false (by omega)] <;> rfl
  by_cases hc : xs = [] ∨ k = 1
  · have c1 : (its.toArray.isEmpty || k == 1) = true := by
      rw [hi]
      rcases hc with h | h <;> simp [h]
    refine wpAny_binaryOp_repeat_ref (T := "tuple") (U := "int") (by decide) ⟨_, ho, rfl⟩ (fun s' => typeIs_int s' k t) noFill_tuple_mul F.fills_int_mul F.slot_int_rmul repeat_tuple F.slot_int_index.lookup
      (call_meets F.slot_int_rmul (typeIs_int s k t) F.entry_int_rmul (F.args_int_rmul_2 _ _) (int_rmul_tuple k t l its.toArray n dd sl)
        ⟨ho, rfl, ⟨_, ho, rfl⟩, call_meets F.slot_tuple_mul ⟨_, ho, rfl⟩ F.entry_tuple_mul (F.args_tuple_mul_2 _ _) (tuple_mulS l its.toArray n dd sl k t c0 c1) ⟨ho, ?_⟩⟩)
    exact ⟨.ref l, H, I, rfl, q1 hc⟩
  · have c1 : (its.toArray.isEmpty || k == 1) = false := by
      rw [hi]
      simp only [not_or] at hc
      simp [hc.1, hc.2]
    have hne : xs ≠ [] := fun e => hc (.inl e)
    have hpos : 0 < xs.length := List.length_pos_iff.mpr hne
    by_cases h0 : k ≤ 0
    · have c2 : (decide (k ≤ 0) || its.toArray.isEmpty) = true := by simp [h0]
      refine wpAny_binaryOp_repeat_ref (T := "tuple") (U := "int") (by decide) ⟨_, ho, rfl⟩ (fun s' => typeIs_int s' k t) noFill_tuple_mul F.fills_int_mul F.slot_int_rmul repeat_tuple F.slot_int_index.lookup
        (call_meets F.slot_int_rmul (typeIs_int s k t) F.entry_int_rmul (F.args_int_rmul_2 _ _) (int_rmul_tuple k t l its.toArray n dd sl)
          ⟨ho, rfl, ⟨_, ho, rfl⟩, call_meets F.slot_tuple_mul ⟨_, ho, rfl⟩ F.entry_tuple_mul (F.args_tuple_mul_2 _ _) (tuple_mul0 l its.toArray n dd sl k t c0 c1 c2) ⟨ho, ?_⟩⟩)
      have q := q2 hc
      rw [show k.toNat = 0 by omega] at q
      refine ⟨.ref s.heap.objs.size, _, I.laid (t' := s.toks) (o := .tup []) (fun b ob q => Heap.get?_push_of_some _ q) (Nat.le_refl _) ?_, rfl, q _ (I.hok.fresh (Nat.le_refl _))⟩
      exact ⟨Nat.zero_le _, [], .nil, IsTup.new _ _⟩
    · have hk : k.toNat ≤ 1000000 := by
        have : 1 * k.toNat ≤ xs.length * k.toNat := Nat.mul_le_mul_right _ hpos
        omega
      have hm : ((its.toArray.size : Nat) : Int) * k ≤ 1000000 := by
        rw [hsz0]
        have : ((xs.length * k.toNat : Nat) : Int) = (xs.length : Int) * k := by rw [Int.natCast_mul, Int.toNat_of_nonneg (by omega)]
        omega
      have flen : (List.replicate k.toNat its).flatten.length ≤ sizeLine := by
        rw [PyProof.Rows.lm_len_rep_flat, hle, sizeLine_eq, Nat.mul_comm]
        omega
      have c2 : (decide (k ≤ 0) || its.toArray.isEmpty) = false := by
        rw [hi]; simp [hne]; omega
      have c4 : Builtin.Tuple.tupleTooMany (((its.toArray.size : Nat) : Int) * k) = false := by
        unfold Builtin.Tuple.tupleTooMany
        rw [sizeLine_eq]
        exact decide_eq_false (by omega)
      refine wpAny_binaryOp_repeat_ref (T := "tuple") (U := "int") (by decide) ⟨_, ho, rfl⟩ (fun s' => typeIs_int s' k t) noFill_tuple_mul F.fills_int_mul F.slot_int_rmul repeat_tuple F.slot_int_index.lookup
        (call_meets F.slot_int_rmul (typeIs_int s k t) F.entry_int_rmul (F.args_int_rmul_2 _ _) (int_rmul_tuple k t l its.toArray n dd sl)
          ⟨ho, rfl, ⟨_, ho, rfl⟩, call_meets F.slot_tuple_mul ⟨_, ho, rfl⟩ F.entry_tuple_mul (F.args_tuple_mul_2 _ _) (tuple_mulW l its.toArray n dd sl k t c0 c1 c2 (by omega) c4 (by rw [size_rep, List.size_toArray]; exact flen)) ⟨ho, ?_⟩⟩)
      rw [size_rep]
      refine ⟨.ref s.heap.objs.size, _, I.laid (t' := s.toks) (o := .tup (List.replicate k.toNat xs).flatten) (fun b ob q => Heap.get?_push_of_some _ q) (Nat.le_refl _) ?_, rfl, q2 hc _ (I.hok.fresh (Nat.le_refl _))⟩
      exact ⟨by rw [PyProof.Rows.lm_len_rep_flat, Nat.mul_comm, sizeLine_eq]; omega, _, r.rep k.toNat, IsTup.new _ _⟩
section
variable {X : Cx} {z : Ent} {pos : Pos}
def sMulB (d e : D) (P : Bool → D → Prop) : Prop := match d, e with
  | .int i, .int j => MulC i j ∧ P false (.int (i * j))
  | .lst xs, .int k => (-(2 ^ 63) ≤ k ∧ k < 2 ^ 63) ∧ xs.length * k.toNat ≤ sizeLine ∧ P true (.lst (List.replicate k.toNat xs).flatten)
  | .tup xs, .int k => (-(2 ^ 63) ≤ k ∧ k < 2 ^ 63) ∧ xs.length * k.toNat ≤ 1000000 ∧ P false (.tup (List.replicate k.toNat xs).flatten)
  | _, _ => False
def rMulB (K : PySem.W.Frag) : R2 := fun x y H Q => rMulD x y H Q ∨ rRepA K x y H Q
theorem op_mulB : OpR X (binaryOp .Mult) (rMulB X.K) := op_mulA.or op_repA
theorem sem_mulB : Sem2 z (rMulB z.K) sMulB := fun w F He H x y d e P Q wd dx dy q k => by
  unfold sMulB at q
  split at q
  · exact .inl (.inl ⟨_, _, dx.int, dy.int, q.1, k _ _ q.2 _ H F He wd .refl (.int _)⟩)
  · obtain ⟨a, vs, rfl, ha, ra⟩ := dx.lst wd.sf
    exact .inl (.inr ⟨a, _, vs, rfl, dy.int, ha, q.1.1, q.1.2, by rw [ra.length]; exact q.2.1, fun p hp => res_new wd hp (.lst (ra.rep _)) q.2.2 k⟩)
  · next xs j =>
    obtain ⟨a, vs, e, ha, ra⟩ := dx.tup wd.sf
    refine .inr ⟨a, _, vs, e, dy.int, .of ha, q.1.1, q.1.2, by rw [ra.length]; exact q.2.1, fun hc => ?_, fun _ p hp => res_tup wd hp (ra.rep _) q.2.2 k⟩
    have e2 : (List.replicate j.toNat xs).flatten = xs := by
      rcases hc with h | h
      · subst h
        have : xs = [] := List.eq_nil_of_length_eq_zero ra.length.symm
        subst this
        simp
      · subst h
        simp
    have q' := q.2.2
    rw [e2] at q'
    rcases dx with dx | ⟨a', o, _, _, _, t⟩
    · rw [← e]; exact res_at wd dx q' k
    · cases t
  · exact q.elim
/-! ### list(range), tuple(range) -/
theorem rgV_D {K : PySem.W.Frag} {F : Hp} (a b : Int) : DRs K F (rgV a b) (rngD a (b - a).toNat) := by
  unfold rgV rngD
  generalize (List.range (b - a).toNat) = ks
  induction ks with
  | nil => exact .nil
  | cons k ks ih => exact .cons (.int _) ih
def sLR1 (d : D) (P : Bool → D → Prop) : Prop := match d with
  | .int j => RgOk 0 j ∧ P true (.lst (rngD 0 (j - 0).toNat))
  | _ => False
def sLR2 (d e : D) (P : Bool → D → Prop) : Prop := match d, e with
  | .int i, .int j => RgOk i j ∧ P true (.lst (rngD i (j - i).toNat))
  | _, _ => False
def sTR1 (d : D) (P : Bool → D → Prop) : Prop := match d with
  | .int j => RgOk 0 j ∧ P false (.tup (rngD 0 (j - 0).toNat))
  | _ => False
def sTR2 (d e : D) (P : Bool → D → Prop) : Prop := match d, e with
  | .int i, .int j => RgOk i j ∧ P false (.tup (rngD i (j - i).toNat))
  | _, _ => False
theorem jx_listRng1 {a : Expr} {ta : DO z.W} {p p2 pos2 : Pos} (hm : X.mg "list" = none) (hr : X.mg "range" = none) (ha : JO X z a ta) (hc : X.calm = true := by rfl) (hg : Gl X "list" := by rfl) (hg2 : Gl X "range" := by rfl) (na : starEach [a] X.env = (false, eval a X.env) :: starEach [] X.env := by rfl)
    (nb : starEach [Expr.Call (.Name "range" p2) [a] [] pos2] X.env = (false, eval (Expr.Call (.Name "range" p2) [a] [] pos2) X.env) :: starEach [] X.env := by rfl) : JX X z (.Call (.Name "list" p) [.Call (.Name "range" p2) [a] [] pos2] [] pos) (dUn sLR1 ta) :=
  PE.imp (pe_listRg hc hg hm (prg_1 hg2 hr ha na) nb) fun σ H Q ⟨δ, w, F, He, P, R, q, k⟩ => by
    refine ⟨δ, w, F, He, _, R, q, fun d w1 q1 x H1 F1 He1 wd1 st1 r1 => ?_⟩
    unfold sLR1 at q1
    split at q1
    · exact ⟨_, r1.int, q1.1, fun p hp => res_new wd1 hp (.lst (rgV_D _ _)) q1.2 fun b d' p v H' F' He' wd st rr => k b d' w1 p v H' F' He' wd (st1.trans st) (rr.base st1)⟩
    · exact q1.elim
theorem jx_tupleRng1 {a : Expr} {ta : DO z.W} {p p2 pos2 : Pos} (hm : X.mg "tuple" = none) (hr : X.mg "range" = none) (ha : JO X z a ta) (hc : X.calm = true := by rfl) (hg : Gl X "tuple" := by rfl) (hg2 : Gl X "range" := by rfl) (na : starEach [a] X.env = (false, eval a X.env) :: starEach [] X.env := by rfl)
    (nb : starEach [Expr.Call (.Name "range" p2) [a] [] pos2] X.env = (false, eval (Expr.Call (.Name "range" p2) [a] [] pos2) X.env) :: starEach [] X.env := by rfl) : JX X z (.Call (.Name "tuple" p) [.Call (.Name "range" p2) [a] [] pos2] [] pos) (dUn sTR1 ta) :=
  PE.imp (pe_tupRg hc hg hm (prg_1 hg2 hr ha na) nb) fun σ H Q ⟨δ, w, F, He, P, R, q, k⟩ => by
    refine ⟨δ, w, F, He, _, R, q, fun d w1 q1 x H1 F1 He1 wd1 st1 r1 => ?_⟩
    unfold sTR1 at q1
    split at q1
    · exact ⟨_, r1.int, q1.1, fun p hp => res_tup wd1 hp (rgV_D _ _) q1.2 fun b d' p v H' F' He' wd st rr => k b d' w1 p v H' F' He' wd (st1.trans st) (rr.base st1)⟩
    · exact q1.elim
theorem jx_listRng2 {a b : Expr} {ta tb : DO z.W} {p p2 pos2 : Pos} (hm : X.mg "list" = none) (hr : X.mg "range" = none) (ha : JO X z a ta) (hb : JO X z b tb) (hc : X.calm = true := by rfl) (hg : Gl X "list" := by rfl) (hg2 : Gl X "range" := by rfl) (na : starEach [a, b] X.env = (false, eval a X.env) :: starEach [b] X.env := by rfl)
    (nb1 : starEach [b] X.env = (false, eval b X.env) :: starEach [] X.env := by rfl) (hp : (backTo pos2 (starEach [b] X.env)).any (·.1) = false := by rfl)
    (nb : starEach [Expr.Call (.Name "range" p2) [a, b] [] pos2] X.env = (false, eval (Expr.Call (.Name "range" p2) [a, b] [] pos2) X.env) :: starEach [] X.env := by rfl) : JX X z (.Call (.Name "list" p) [.Call (.Name "range" p2) [a, b] [] pos2] [] pos) (dBin sLR2 ta tb) :=
  PE.imp (pe_listRg hc hg hm (prg_2 hg2 hr ha hb na nb1 hp) nb) fun σ H Q ⟨δ, w, F, He, P, R, q, k⟩ => by
    refine ⟨δ, w, F, He, _, R, q, fun d w1 q1 x H1 F1 He1 wd1 st1 r1 => ?_⟩
    refine ⟨δ, w1, F1, He1, _, R.step wd1 st1, q1, fun e w2 q2 y H2 F2 He2 wd2 st2 r2 => ?_⟩
    have r1' := r1.step st2
    unfold sLR2 at q2
    split at q2
    · exact ⟨_, _, r1'.int, r2.int, q2.1, fun p hp => res_new wd2 hp (.lst (rgV_D _ _)) q2.2 fun b d' p v H' F' He' wd st rr => k b d' w2 p v H' F' He' wd ((st1.trans st2).trans st) (rr.base (st1.trans st2))⟩
    · exact q2.elim
/-! ### is True -/
def sIsBl (d e : D) (P : Bool → D → Prop) : Prop := match d, e with
  | .bl a, .bl b => P false (.bl (decide (a = b)))
  | _, _ => False
theorem sem_isBl : Sem2 z rIsB sIsBl := fun w F He H x y d e P Q wd dx dy q k => by
  unfold sIsBl at q
  split at q
  · exact ⟨_, _, dx.bl, dy.bl, res_at wd (.bl _) q k⟩
  · exact q.elim
/-! ### xs.index(x) of a list -/
theorem pyAll_get (ds : List D) (j : Nat) : (pyAll ds)[j]? = (ds[j]?).map D.py := by
  induction ds generalizing j with
  | nil => rfl
  | cons d ds ih =>
    cases j with
    | zero => rfl
    | succ j => rw [pyAll, List.getElem?_cons_succ, List.getElem?_cons_succ, ih]
def sLindex (d e : D) (P : Bool → D → Prop) : Prop := match d with
  | .lst ds => (plAll ds = true ∧ e.pl = true ∧ SeqAt.shaped (.list (pyAll ds)) = true ∧ SeqAt.shaped e.py = true) ∧ ∃ (j : Nat) (u : D), ds[j]? = some u ∧ u.eqv e = true ∧ (∀ (m : Nat) (u' : D), m < j → ds[m]? = some u' → u'.eqv e = false) ∧ P false (.int (j : Nat))
  | _ => False
theorem sem_lindex : SemM1 z (rIndexD z.K) sLindex := fun w F He H x y d e P Q wd dx dy q k => by
  unfold sLindex at q
  split at q
  · next ds =>
    obtain ⟨⟨p1, p2, p3, p4⟩, j, u, h1, h2, h3, q⟩ := q
    have hl := dx.dp wd.sf (by simpa [D.pl] using p1)
    rw [D.py] at hl
    obtain ⟨a, vs, rfl, ha, ra⟩ := dx.lst wd.sf
    refine ⟨a, y, e.py, pyAll ds, j, u.py, rfl, rfl, hl, dy.dp wd.sf p2, p3, p4, by rw [pyAll_get, h1]; rfl, h2, fun m z' hm hz => ?_, res_at wd (.int _) q k⟩
    rw [pyAll_get] at hz
    cases e' : ds[m]? with
    | none => rw [e'] at hz; cases hz
    | some u' =>
      rw [e'] at hz
      cases hz
      exact h3 m u' hm e'
  · exact q.elim
end
/-- told data that list.index takes -/
structure CodecI {α : Type} (f : α → D) (n : Nat) : Prop extends Codec f n where
  can : ∀ a, (f a).py.canLay0 = true
theorem CodecI.int : CodecI D.int 0 := ⟨Codec.int, fun _ => rfl⟩
theorem CodecI.canAll {α : Type} {f : α → D} {n : Nat} (c : CodecI f n) : ∀ as : List α, PyData.canLayAll0 (pyAll (as.map f)) = true
  | [] => rfl
  | a :: as => by rw [List.map_cons, pyAll, PyData.canLayAll0, c.can, c.canAll as]; rfl
theorem CodecI.tup {α : Type} {f : α → D} {n : Nat} (c : CodecI f n) : CodecI (fun as : List α => .tup (as.map f)) (n + 1) := ⟨c.toCodec.tup, fun as => c.canAll as⟩
theorem CodecI.lst {α : Type} {f : α → D} {n : Nat} (c : CodecI f n) : CodecI (fun as : List α => .lst (as.map f)) (n + 1) := ⟨c.toCodec.lst, fun as => c.canAll as⟩
theorem CodecI.w : CodecI wD 1 := CodecI.int.tup
theorem CodecI.index {α : Type} {f : α → D} {n : Nat} (c : CodecI f n) (hn : n ≤ 60) {as : List α} {a : α} {j : Nat} (h : as[j]? = some a) (h2 : ∀ m, m < j → as[m]? ≠ some a) {P : Bool → D → Prop} (q : P false (.int (j : Nat))) : sLindex (.lst (as.map f)) (f a) P := by
  have d1 := c.toCodec.depAll as
  have d2 := c.toCodec.dep a
  refine ⟨⟨c.toCodec.plAll as, c.toCodec.pl a, ?_, ?_⟩, j, f a, by rw [List.getElem?_map, h]; rfl, (c.toCodec.eq a a).mpr rfl, fun m u' hm hu => ?_, q⟩
  · unfold SeqAt.shaped
    rw [Bool.and_eq_true]
    exact ⟨c.canAll as, decide_eq_true (show PyData.depthAll (pyAll (as.map f)) + 1 ≤ 64 by omega)⟩
  · unfold SeqAt.shaped
    rw [Bool.and_eq_true]
    exact ⟨c.can a, decide_eq_true (by omega)⟩
  · rw [List.getElem?_map] at hu
    cases e : as[m]? with
    | none => rw [e] at hu; cases hu
    | some b =>
      rw [e] at hu
      cases hu
      have hb : b ≠ a := fun z => h2 m hm (by rw [e, z])
      have : ¬ ((f b).eqv (f a) = true) := fun z => hb ((c.toCodec.eq b a).mp z)
      simpa using this
end Lv

namespace Lv
open PySem PySem.Spec L2

/-! ### zip of two lists, of two tuples -/
def zipD (xs ys : List D) : List D := List.zipWith (fun x y => .tup [x, y]) xs ys
theorem zipD_at (xs ys : List D) (i : Nat) {x y : D} (h : xs[i]? = some x) (h2 : ys[i]? = some y) : (zipD xs ys)[i]? = some (.tup [x, y]) := by
  unfold zipD
  rw [List.getElem?_zipWith, h, h2]
theorem itok_zip {K : PySem.W.Frag} {F : Hp} {a b : Addr} {us vs : List V} {xs ys : List D} (ha : F a = some (.lst us)) (ra : DRs K F us xs) (hb : F b = some (.lst vs)) (rb : DRs K F vs ys) : ItOk K (Itz K a b) F (zipD xs ys) where
  go := fun i H s h => by
    have h' : i < xs.length ∧ i < ys.length := by simp [zipD] at h; omega
    obtain ⟨u, hu, _⟩ := ra.get (List.getElem?_eq_getElem h'.1)
    obtain ⟨v, hv, _⟩ := rb.get (List.getElem?_eq_getElem h'.2)
    exact ⟨us, vs, u, v, .of (s _ _ ha), .of (s _ _ hb), hu, hv⟩
  stop := fun H s => ⟨us, vs, .of (s _ _ ha), .of (s _ _ hb), by have := ra.length; have := rb.length; simp [zipD]; omega⟩
  yld := fun i H x H' s h hy => by
    have h' : i < xs.length ∧ i < ys.length := by simp [zipD] at h; omega
    obtain ⟨T, u, v, rfl, hT, rfl, h1, h2⟩ := hy
    obtain ⟨d, hd, rd⟩ := ra.getV (h1 us (.of (s _ _ ha)))
    obtain ⟨e, he, re⟩ := rb.getV (h2 vs (.of (s _ _ hb)))
    exact .inr ⟨T, _, [d, e], rfl, hT, rfl, zipD_at xs ys i hd he, .cons rd (.cons re .nil)⟩
theorem itok_zipT {K : PySem.W.Frag} {F : Hp} {a b : Addr} {us vs : List V} {xs ys : List D} (ha : F a = some (.tup us)) (ra : DRs K F us xs) (hb : F b = some (.lst vs)) (rb : DRs K F vs ys) : True := trivial
def kZip {α : Type} (Q : List D → α → Prop) (w : α) : List D → Prop
  | [.lst xs, .lst ys] => Q (zipD xs ys) w
  | _ => False
def dZip {W : Ext} (ts : DA W) : DI W := fun δ w Q => ts δ w fun ds w1 => kZip Q w1 ds
section
variable {X : Cx} {z : Ent} {pos : Pos}
theorem ji_zip {e e2 : Expr} {ts : DA z.W} {p tpos : Pos} {elts : List Expr} {kk : Nat} (hK : z.K = X.K) (hm : X.mg "zip" = none) (ha : JA X z [e, e2] ts) (hg : Gl X "zip" := by rfl)
    (hs : starEach [e, e2] X.env = (false, eval e X.env) :: starEach [e2] X.env := by rfl) (hpl : (backTo pos (starEach [e2] X.env)).any (·.1) = false := by rfl) : PI X (.Tuple elts kk tpos) (.Call (.Name "zip" p) [e, e2] [] pos) (liftI z (dZip ts)) :=
  PI.imp (RZ.pi_zipA hg hm ha hs hpl) fun σ H R ⟨δ, w, F, He, P, Re, q, k⟩ => by
    refine ⟨δ, w, F, He, _, Re, q, fun ds w1 q1 vs H1 F1 He1 wd1 st1 r1 => ?_⟩
    rw [← hK]
    unfold kZip at q1
    split at q1
    · next xs ys =>
      cases r1 with
      | cons ra rb =>
        cases rb with
        | cons rb rc =>
          cases rc
          cases ra with
          | lst ea ra =>
            cases rb with
            | lst eb rb => exact ⟨_, _, _, _, rfl, .inl ⟨.of (wd1.sf _ _ ea), .of (wd1.sf _ _ eb), k _ _ q1 _ H1 F1 He1 wd1 st1 (itok_zip ea ra eb rb)⟩⟩
    · exact q1.elim
/-! ### {k: e} -/
def keyOf : D → Option Key
  | .int i => some (.inl i)
  | .str x => some (.inr x)
  | _ => none
theorem keyOf_rel {F He H : Hp} {v : V} {d : D} {k : Key} {K : PySem.W.Frag} (r : DT K F He H v d) (h : keyOf d = some k) : v = kV k := by
  cases d with
  | int i => cases h; exact r.int
  | str x => cases h; exact r.str
  | _ => cases h
def dDisp1 {W : Ext} (tk : DO W) (tv : DX W) : DX W := fun δ w Q => tk δ w fun kd w1 => tv δ w1 fun _ d w2 => ∃ k, keyOf kd = some k ∧ Q true (.dK [(k, d)]) w2
theorem jx_disp1 {ke ve : Expr} {tk : DO z.W} {tv : DX z.W} (hk : JO X z ke tk) (hv : JX X z ve tv) : JX X z (.Dict [some ke] [ve] pos) (dDisp1 tk tv) :=
  PE.imp (pe_disp (pps_cons hk hv pps_nil) rfl rfl (List.cons_ne_nil _ _) (by simp)) fun σ H Q ⟨δ, w, F, He, P, R, q, k⟩ => by
    intro p hp
    have hF := R.wd.fnone hp
    have hE := R.wd.henone hp
    have R1 := R.step (R.wd.alloc (o := .dK []) hp) (.alloc hp)
    refine ⟨δ, w, F, He, _, R1, q, fun kd w1 q1 x H1 F1 He1 wd1 st1 r1 => ?_⟩
    refine ⟨δ, w1, F1, He1, _, R1.step wd1 st1, q1, fun b d w2 q2 y H2 F2 He2 wd2 st2 r2 => ?_⟩
    obtain ⟨key, hkey, q2⟩ := q2
    obtain ⟨F3, st3, wd3, r3, s3⟩ := r2.thaw st2 wd2
    have n0 : (upd H p (.dK [])) p ≠ none := by rw [upd_same]; exact fun z => nomatch z
    have hF1 := st1.fresh n0 hF
    have hE1 := st1.freshE n0 hE
    have h1 := st1.keep p _ upd_same hE
    have n1 : H1 p ≠ none := by rw [h1]; exact fun z => nomatch z
    have hF3 := st3.fresh n1 hF1
    have hE3 := st3.freshE n1 hE1
    have h3 := st3.keep p _ h1 hE1
    have hx := keyOf_rel r1 hkey
    refine ⟨h3, [(key, y)], by rw [hx]; rfl, by simp, ?_⟩
    have st := ((Step.alloc (F := F) (He := He) (o := .dK []) hp).trans (st1.trans st3)).write (o := .dK (mergeK [] [(key, y)])) hp
    exact k true _ w2 q2 _ _ F3 He2 (wd3.write hF3 hE3) st ⟨p, _, rfl, upd_same, hF3, hE3, hp, .dK (.cons r3 .nil)⟩
end
end Lv

namespace Lv
open PySem PySem.Spec L2

/-! ### a world of lists that are named by their places: lists in lists that change -/
abbrev Mem := Addr → Option (List D)
abbrev memExt : Ext := ⟨Mem, fun K w F He => ∀ a, (w a = none ∧ He a = none) ∨ ∃ ds vs, w a = some ds ∧ He a = some (.lst vs) ∧ DRs K F vs ds, fun h s a => by
  rcases h a with h | ⟨ds, vs, h1, h2, h3⟩
  · exact .inl h
  · exact .inr ⟨ds, vs, h1, h2, h3.mono s⟩⟩
def updM (w : Mem) (a : Addr) (ds : List D) : Mem := fun b => if b = a then some ds else w b
theorem updM_same {w : Mem} {a : Addr} {ds : List D} : updM w a ds a = some ds := by simp [updM]
theorem updM_ne {w : Mem} {a b : Addr} {ds : List D} (h : b ≠ a) : updM w a ds b = w b := by simp [updM, h]
section
variable {K : PySem.W.Frag} {w : Mem} {F He H : Hp}
theorem Wd.at (x : Wd memExt K w F He H) {a : Addr} {ds : List D} (h : w a = some ds) : ∃ vs, H a = some (.lst vs) ∧ He a = some (.lst vs) ∧ DRs K F vs ds := by
  rcases x.ex a with ⟨h1, _⟩ | ⟨ds', vs, h1, h2, h3⟩
  · rw [h] at h1; cases h1
  · rw [h] at h1; cases h1
    exact ⟨vs, x.sh _ _ h2, h2, h3⟩
theorem Wd.none_of (x : Wd memExt K w F He H) {a : Addr} (h : He a = none) : w a = none := by
  rcases x.ex a with ⟨h1, _⟩ | ⟨ds', vs, h1, h2, h3⟩
  · exact h1
  · rw [h] at h2; cases h2
/-- a named list changes -/
theorem Wd.put (x : Wd memExt K w F He H) {a : Addr} {ds ds' : List D} {vs : List V} (h : w a = some ds) (r : DRs K F vs ds') : Wd memExt K (updM w a ds') F (upd He a (.lst vs)) (upd H a (.lst vs)) := by
  obtain ⟨us, h1, h2, h3⟩ := x.at h
  have hF := x.dj _ _ h2
  refine ⟨fun b u e => ?_, fun b u e => ?_, fun b u e => ?_, fun b => ?_⟩
  · rw [upd_ne (ne_of_none e hF)]; exact x.sf b u e
  · by_cases hb : b = a
    · subst hb; rw [upd_same] at e ⊢; exact e
    · rw [upd_ne hb] at e ⊢; exact x.sh b u e
  · by_cases hb : b = a
    · subst hb; exact hF
    · rw [upd_ne hb] at e; exact x.dj b u e
  · by_cases hb : b = a
    · subst hb; exact .inr ⟨ds', vs, updM_same, upd_same, r⟩
    · rcases x.ex b with ⟨g1, g2⟩ | ⟨d, v, g1, g2, g3⟩
      · exact .inl ⟨by rw [updM_ne hb]; exact g1, by rw [upd_ne hb]; exact g2⟩
      · exact .inr ⟨d, v, by rw [updM_ne hb]; exact g1, by rw [upd_ne hb]; exact g2, g3⟩
theorem Step.put {o o' : HO} {a : Addr} (h : He a = some o) (hH : H a = some o) : Step F He H F (upd He a o') (upd H a o') where
  fz := Same.refl _
  fzN := fun _ h => .inl h
  heN := fun b e => by
    by_cases hb : b = a
    · subst hb; exact .inl (by rw [h]; exact fun z => nomatch z)
    · rw [upd_ne hb] at e; exact .inl e
  keep := fun b u e n => by
    have hb : b ≠ a := fun z => by subst z; rw [h] at n; cases n
    rw [upd_ne hb]; exact e
  dom := fun b e => by
    by_cases hb : b = a
    · subst hb; rw [upd_same]; exact fun z => nomatch z
    · rw [upd_ne hb]; exact e
/-- an own list gets a name -/
theorem Wd.name (x : Wd memExt K w F He H) {a : Addr} {ds : List D} {vs : List V} (h : H a = some (.lst vs)) (n : F a = none) (m : He a = none) (r : DRs K F vs ds) : Wd memExt K (updM w a ds) F (upd He a (.lst vs)) H := by
  refine ⟨x.sf, fun b u e => ?_, fun b u e => ?_, fun b => ?_⟩
  · by_cases hb : b = a
    · subst hb; rw [upd_same] at e; rw [h]; exact e
    · rw [upd_ne hb] at e; exact x.sh b u e
  · by_cases hb : b = a
    · subst hb; exact n
    · rw [upd_ne hb] at e; exact x.dj b u e
  · by_cases hb : b = a
    · subst hb; exact .inr ⟨ds, vs, updM_same, upd_same, r⟩
    · rcases x.ex b with ⟨g1, g2⟩ | ⟨d, v, g1, g2, g3⟩
      · exact .inl ⟨by rw [updM_ne hb]; exact g1, by rw [upd_ne hb]; exact g2⟩
      · exact .inr ⟨d, v, by rw [updM_ne hb]; exact g1, by rw [upd_ne hb]; exact g2, g3⟩
theorem Step.name {F' He' H' Hb : Hp} {a : Addr} {o : HO} (s : Step F He Hb F' He' H') (h : Hb a = none) : Step F He Hb F' (upd He' a o) H' where
  fz := s.fz
  fzN := s.fzN
  heN := fun b e => by
    by_cases hb : b = a
    · subst hb; exact .inr h
    · rw [upd_ne hb] at e; exact s.heN b e
  keep := s.keep
  dom := s.dom
end
section
variable {z : Ent} {δ : DSt} {F He H : Hp} {σ : St}
/-- the slot's own list is named; the slot holds its name -/
theorem Rel.name (K : PySem.W.Frag) (F0 He0 H0 : Hp) {w : Mem} (R : Rel ⟨memExt, K, F0, He0, H0⟩ δ w F He σ H) {i : Nat} {ds : List D} (h : δ[i]? = some (some (true, .lst ds))) :
    ∃ (a : Addr) (He' : Hp), w a = none ∧ Rel ⟨memExt, K, F0, He0, H0⟩ (δ.set i (some (false, .ref a))) (updM w a ds) F He' σ H := by
  obtain ⟨u, hu, a, o, rfl, ho, n, m, f, q⟩ := R.sl i _ h
  cases q with
  | lst q =>
    rename_i vs
    refine ⟨a, upd He a (.lst vs), R.wd.none_of m, ⟨R.wd.name ho n m q, R.st.name f, by rw [List.length_set]; exact R.len, fun j s es => ?_, fun j k d1 d2 c e1 e2 a1 a2 => ?_⟩⟩
    · rcases get_set es with ⟨rfl, rfl⟩ | ⟨hj, e'⟩
      · exact ⟨_, hu, .ref a, rfl, .ref a⟩
      · obtain ⟨u', hu', q'⟩ := R.sl j s e'
        refine ⟨u', hu', ?_⟩
        match s, q' with
        | none, _ => exact True.intro
        | some (false, d), q' => exact q'
        | some (true, d), ⟨c, o', ec, hc, nc, mc, fc, rc⟩ =>
          have hne : c ≠ a := fun e => by
            subst e
            subst ec
            exact hj (R.inj i j _ _ c h e' hu hu')
          exact ⟨c, o', ec, hc, nc, by rw [upd_ne hne]; exact mc, fc, rc⟩
    · rcases get_set e1 with ⟨_, x⟩ | ⟨hj, e1'⟩
      · cases x
      · rcases get_set e2 with ⟨_, x⟩ | ⟨hk, e2'⟩
        · cases x
        · exact R.inj j k d1 d2 c e1' e2' a1 a2
end
/-- behind a statement: slot i's own list gets a name -/
def kName (E : DEnds memExt) (i : Nat) (δ : DSt) (w : Mem) : Prop := match δ[i]? with
  | some (some (true, .lst ds)) => ∀ a, w a = none → E.nx (δ.set i (some (false, .ref a))) (updM w a ds)
  | _ => False
def dName (i : Nat) (t : DS memExt) : DS memExt := fun E => t ⟨kName E i, E.rt, E.bk, E.ct⟩
section
variable {X : Cx} {K : PySem.W.Frag} {F0 He0 H0 : Hp}
theorem js_name {st : Stmt} {t : DS memExt} (i : Nat) (h : JS X ⟨memExt, K, F0, He0, H0⟩ st t) : JS X ⟨memExt, K, F0, He0, H0⟩ st (dName i t) := PS.imp h fun D σ H ⟨δ, w, F, He, E, R, q, c⟩ => by
  refine ⟨δ, w, F, He, _, R, q, ⟨fun δ' w' F' He' σ' H' q' R' s' => ?_, c.rt, c.bk, c.ct⟩⟩
  change kName E i δ' w' at q'
  unfold kName at q'
  split at q'
  · next ds e =>
    obtain ⟨a, He2, ha, R2⟩ := Rel.name K F0 He0 H0 R' e
    exact c.nx _ _ _ _ _ _ (q' a ha) R2 s'
  · exact q'.elim
theorem DT.refV {K : PySem.W.Frag} {F He H : Hp} {v : V} {a : Addr} (r : DT K F He H v (.ref a)) : v = .ref a := by
  rcases r with r | ⟨_, _, _, _, _, q⟩
  · cases r; rfl
  · cases q
/-! ### reading: a[i], len, for -/
def kIxW (w : Mem) (Q : Bool → D → Mem → Prop) : D → D → Prop
  | .ref a, .int i => ∃ ds x, w a = some ds ∧ atI ds i = some x ∧ Q false x w
  | d, e => sIx d e fun b x => Q b x w
def dIxW (ta tb : DO memExt) : DX memExt := fun δ w Q => ta δ w fun d w1 => tb δ w1 fun e w2 => kIxW w2 Q d e
theorem jx_ixW {a b : Expr} {ta tb : DO memExt} {pos : Pos} (hK : K = X.K) (hu : X.A.units + 1 < cLine) (ha : JO X ⟨memExt, K, F0, He0, H0⟩ a ta) (hb : JO X ⟨memExt, K, F0, He0, H0⟩ b tb) (hs : PlainIx b := by exact fun _ _ => rfl) : JX X ⟨memExt, K, F0, He0, H0⟩ (.Subscript a b pos) (dIxW ta tb) :=
  PE.imp (pe_ix (ix_all hu) ha hb hs) fun σ H Q ⟨δ, w, F, He, P, R, q, k⟩ => by
    refine ⟨δ, w, F, He, _, R, q, fun d w1 q1 x H1 F1 He1 wd1 st1 r1 => ?_⟩
    refine ⟨δ, w1, F1, He1, _, R.step wd1 st1, q1, fun e w2 q2 y H2 F2 He2 wd2 st2 r2 => ?_⟩
    have r1' := r1.step st2
    rw [← hK]
    have st := st1.trans st2
    unfold kIxW at q2
    split at q2
    · obtain ⟨ds, c, hw, hc, q2⟩ := q2
      obtain ⟨vs, h1, h2, rv⟩ := wd2.at hw
      obtain ⟨v, hv, rv⟩ := atI_rel rv hc
      exact .inl (.inl ⟨_, vs, _, v, r1'.refV, r2.int, .of h1, hv, k _ _ _ q2 v H2 F2 He2 wd2 st rv⟩)
    · exact sem_ix (z := ⟨memExt, K, F0, He0, H0⟩) w2 F2 He2 H2 x y d e _ Q wd2 r1' r2 q2 fun b d' p v H' F' He' wd s' rr => k b d' w2 p v H' F' He' wd (st.trans s') (rr.base st)
def kLenW (w : Mem) (Q : Bool → D → Mem → Prop) : D → Prop
  | .ref a => ∃ ds, w a = some ds ∧ Q false (.int ds.length) w
  | d => sLen d fun b x => Q b x w
def dLenW (ta : DO memExt) : DX memExt := fun δ w Q => ta δ w fun d w1 => kLenW w1 Q d
theorem jx_lenW {a : Expr} {ta : DO memExt} {p pos : Pos} (hK : K = X.K) (hg : Gl X "len") (hm : X.mg "len" = none) (ha : JO X ⟨memExt, K, F0, He0, H0⟩ a ta)
    (he : starEach [a] X.env = (false, eval a X.env) :: starEach [] X.env := by rfl) (hpl : (backTo pos (starEach [] X.env)).any (·.1) = false := by rfl) : JX X ⟨memExt, K, F0, He0, H0⟩ (.Call (.Name "len" p) [a] [] pos) (dLenW ta) :=
  PE.imp (pe_callB call_lenA hg hm bb_len (pa_cons ha pa_nil he) (by decide) (by decide) he hpl) fun σ H Q ⟨δ, w, F, He, P, R, q, k⟩ => by
    refine ⟨δ, w, F, He, _, R, q, fun d w1 q1 x H1 F1 He1 wd1 st1 r1 => ?_⟩
    show rLenD X.K [x] H1 Q
    rw [← hK]
    unfold kLenW at q1
    split at q1
    · obtain ⟨ds, hw, q1⟩ := q1
      obtain ⟨vs, h1, h2, rv⟩ := wd1.at hw
      have ex := r1.refV
      subst ex
      exact .inl ⟨_, vs.length, rfl, .inl ⟨_, .of h1, rfl⟩, by rw [rv.length]; exact k _ _ _ q1 _ H1 F1 He1 wd1 st1 (.int _)⟩
    · exact sem_len (z := ⟨memExt, K, F0, He0, H0⟩) w1 F1 He1 H1 x d _ Q wd1 r1 q1 fun b d' p v H' F' He' wd s' rr => k b d' w1 p v H' F' He' wd (st1.trans s') (rr.base st1)
/-! ### a value put into a named list: an own new list gets a name of its own (nm), or is frozen -/
def kNm (nm b : Bool) (v : D) (w : Mem) (Q : D → Mem → Prop) : Prop := if nm then (match b, v with
  | true, .lst vs => ∀ c, w c = none → Q (.ref c) (updM w c vs)
  | _, _ => False) else Q v w
theorem kNm_use {w : Mem} {F He H F1 He1 H1 : Hp} {nm b : Bool} {u : V} {v : D} {Q : D → Mem → Prop} (q : kNm nm b v w Q) (wd : Wd memExt K w F1 He1 H1) (st : Step F He H F1 He1 H1) (r : Res K F1 He1 H H1 b u v) :
    ∃ x w3 F2 He2, Q x w3 ∧ Wd memExt K w3 F2 He2 H1 ∧ Step F He H F2 He2 H1 ∧ DR K F2 u x ∧ Same F1 F2 := by
  unfold kNm at q
  cases nm with
  | false =>
    obtain ⟨F2, st2, wd2, r2, s2⟩ := r.thaw st wd
    exact ⟨v, w, F2, He1, q, wd2, st2, r2, s2⟩
  | true =>
    rw [if_pos rfl] at q
    split at q
    · obtain ⟨a, o, rfl, ho, n, m, f, rr⟩ := r
      cases rr with
      | lst rr => exact ⟨.ref a, _, F1, _, q a (wd.none_of m), wd.name ho n m rr, st.name f, .ref a, Same.refl _⟩
    · exact q.elim
def dAppW (nm : Bool) (tb : DO memExt) (t : DX memExt) : DS memExt := fun E δ w => tb δ w fun d w1 => ∃ a ds, d = .ref a ∧ w1 a = some ds ∧ t δ w1 fun b v w2 => kNm nm b v w2 fun x w3 => ∃ ds', w3 a = some ds' ∧ ds'.length < sizeLine ∧ E.nx δ (updM w3 a (ds' ++ [x]))
theorem js_appW (nm : Bool) {o e : Expr} {tb : DO memExt} {t : DX memExt} {apos cpos pos : Pos} (hK : K = X.K) (ho : JO X ⟨memExt, K, F0, He0, H0⟩ o tb) (he : JX X ⟨memExt, K, F0, He0, H0⟩ e t)
    (hbase : attributeBase o "append" X.env (eval o X.env) = eval o X.env := by rfl)
    (hfew : ((backTo cpos (starEach [e] X.env)).all (fun x => !x.1) && (backToKw cpos (keywordEach [] X.env)).all (fun x => x.1.isSome)
      && decide (([e] : List Expr).length + ([] : List Keyword).length + (if ([] : List Keyword).isEmpty then 0 else 1) < 30)) = true := by rfl)
    (hline : (apos.endLine == cpos.line) = true := by rfl) (hs : starEach [e] X.env = (false, eval e X.env) :: starEach [] X.env := by rfl) (hplain : (backTo cpos (starEach [] X.env)).any (·.1) = false := by rfl)
    (hsw : swapsWith (.Call (.Attribute o "append" apos) [e] [] cpos) none pos.line X.env = pure false := by rfl) : JS X ⟨memExt, K, F0, He0, H0⟩ (.Expr (.Call (.Attribute o "append" apos) [e] [] cpos) pos) (dAppW nm tb t) :=
  PS.imp (ps_expr (pe_bm PySem.F.plainAttrs_list PySem.F.slot_list_append PySem.F.type_list_append mt_append ho (pa_cons he pa_nil hs) hbase hfew hline hs hplain) hsw) fun D σ H ⟨δ, w, F, He, E, R, q, c⟩ => by
    refine ⟨δ, w, F, He, _, R, q, fun d w1 q1 x H1 F1 He1 wd1 st1 r1 => ?_⟩
    obtain ⟨a, ds, rfl, hw, q1⟩ := q1
    obtain ⟨vs, h1, h2, rv⟩ := wd1.at hw
    have hx := r1.refV
    subst hx
    refine ⟨.inl ⟨rfl, _, .of h1⟩, δ, w1, F1, He1, _, R.step wd1 st1, q1, fun b v w2 q2 u H2 F2 He2 wd2 st2 r2 => ?_⟩
    obtain ⟨y, w3, F3, He3, ⟨ds', hw3, hz, q3⟩, wd3, st3, r3, s3⟩ := kNm_use q2 wd2 st2 r2
    obtain ⟨vs', g1, g2, rv'⟩ := wd3.at hw3
    refine ⟨a, _, u, rfl, rfl, g1, by rw [rv'.length]; exact hz, ?_⟩
    have R3 := (R.step wd1 st1).step wd3 st3
    exact c.nx _ _ _ _ _ _ q3 (R3.step (wd3.put hw3 (rv'.append (.cons r3 .nil))) (.put g2 g1)) (st1.fz.trans st3.fz)
def dPutW (nm : Bool) (tb tk : DO memExt) (t : DX memExt) : DS memExt := fun E δ w => t δ w fun b v w1 => kNm nm b v w1 fun x w2 => tb δ w2 fun d w3 => tk δ w3 fun kd w4 => ∃ a ds j n, d = .ref a ∧ kd = .int j ∧ w4 a = some ds ∧ ixN ds.length j = some n ∧ E.nx δ (updM w4 a (ds.set n x))
theorem js_putW (nm : Bool) {o k e : Expr} {tb tk : DO memExt} {t : DX memExt} {spos pos : Pos} (hK : K = X.K) (ho : JO X ⟨memExt, K, F0, He0, H0⟩ o tb) (hk : JO X ⟨memExt, K, F0, He0, H0⟩ k tk) (he : JX X ⟨memExt, K, F0, He0, H0⟩ e t)
    (hs : swapsWithSole [.Subscript o k spos] e pos.line X.env = pure false := by rfl) (hw : swappedStores [.Subscript o k spos] e X.env = pure none := by rfl)
    (h1 : (assignEach [.Subscript o k spos] X.env).map (·.2) = [assign (.Subscript o k spos) X.env] := by rfl)
    (ha : ∀ v, assign (.Subscript o k spos) X.env v = (do
      let ov ← holding [v] (eval o X.env)
      let iv ← holding [v, ov] (eval k X.env)
      standAt spos
      holding [v, ov, iv] (setItem ov iv v)
      release [v, ov, iv] []) := by intro _; rfl) : JS X ⟨memExt, K, F0, He0, H0⟩ (.Assign [.Subscript o k spos] e pos) (dPutW nm tb tk t) :=
  PS.imp (ps_asg he (pg_sub ho hk set_list ha) hs hw h1) fun D σ H ⟨δ, w, F, He, E, R, q, c⟩ => by
    refine ⟨δ, w, F, He, _, R, q, fun b d w1 q1 v H1 F1 He1 wd1 st1 r1 => ?_⟩
    obtain ⟨y, w2, F2, He2, q2, wd2, st2, r2, s2⟩ := kNm_use q1 wd1 st1 r1
    have R2 := R.step wd2 st2
    refine ⟨δ, w2, F2, He2, _, R2, q2, fun od w3 q3 ov H3 F3 He3 wd3 st3 r3 => ?_⟩
    have R3 := R2.step wd3 st3
    refine ⟨δ, w3, F3, He3, _, R3, q3, fun kd w4 q4 kv H4 F4 He4 wd4 st4 r4 => ?_⟩
    have R4 := R3.step wd4 st4
    obtain ⟨a, ds, j, n, rfl, rfl, hwa, hn, q4⟩ := q4
    obtain ⟨vs, g1, g2, rv⟩ := wd4.at hwa
    have ry := (r2.mono st3.fz).mono st4.fz
    refine ⟨a, _, _, n, r3.refV, r4.int, g1, by rw [rv.length]; exact hn, ?_⟩
    exact c.nx _ _ _ _ _ _ q4 (R4.step (wd4.put hwa (rv.set ry n)) (.put g2 g1)) (st2.fz.trans (st3.fz.trans st4.fz))
/-! ### a comprehension whose items are new lists of their own -/
def dLcGoW (g : DG) (tt : DTs_ memExt) (te : DX memExt) (δ : DSt) : List D → List D → Mem → (Bool → D → Mem → Prop) → Prop
  | [], acc, w, Q => Q true (.lst acc) w
  | d :: ds, acc, w, Q => g d δ fun δ1 => tt δ1 w fun k w1 => if k = true then te δ1 w1 fun b e w2 => kNm true b e w2 fun x w3 => acc.length < sizeLine ∧ dLcGoW g tt te δ ds (acc ++ [x]) w3 Q else dLcGoW g tt te δ ds acc w1 Q
def dLcW (it : DI memExt) (g : DG) (tt : DTs_ memExt) (te : DX memExt) (vs : List Nat) : DX memExt := fun δ w Q => it δ w fun ds w1 => dLcGoW g tt te (wipeD δ vs) ds [] w1 Q
theorem lc_liftW {it : DI memExt} {G : TG} {g : DG} {tt : DTs_ memExt} {te : DX memExt} {vs : List Nat} (ok : GOkV ⟨memExt, K, F0, He0, H0⟩ vs G g) {σ : St} {H : Hp} {Q : VK} (h : liftX ⟨memExt, K, F0, He0, H0⟩ (dLcW it g tt te vs) σ H Q) : tLc (liftI ⟨memExt, K, F0, He0, H0⟩ it) G (liftT ⟨memExt, K, F0, He0, H0⟩ tt) (liftX ⟨memExt, K, F0, He0, H0⟩ te) vs σ H Q := by
  obtain ⟨δ, w, F, He, P, R, q, k⟩ := h
  refine ⟨δ, w, F, He, _, R, q, fun ds w1 q1 J H1 F1 He1 wd1 st1 io D hD => ?_⟩
  have R1 := (R.step wd1 st1).wipe vs
  have hF1 : F1 D = none := wd1.fnone hD
  have hE1 : He1 D = none := wd1.henone hD
  refine ⟨fun i m H => m = ds.length - i ∧ i ≤ ds.length ∧ ∃ w F He accV accD, Wd memExt K w F He H ∧ Step F1 He1 H1 F He H ∧ H D = some (.lst accV) ∧ F D = none ∧ He D = none ∧ DRs K F accV accD ∧ dLcGoW g tt te (wipeD δ vs) (ds.drop i) accD w P,
    ⟨ds.length, by simp, Nat.zero_le _, w1, F1, He1, [], [], wd1.alloc hD, .alloc hD, upd_same, hF1, hE1, .nil, q1⟩, ?_⟩
  rintro i m H2 ⟨rfl, hle, w2, F2, He2, accV, accD, wd2, st2, hD2, hF2, hE2, ra, q2⟩
  have sH : Same F1 H2 := st2.fz.trans wd2.sf
  by_cases hlt : i < ds.length
  · refine .inr ⟨io.go i H2 sH hlt, fun H' => ∃ w F He accV accD, Wd memExt K w F He H' ∧ Step F1 He1 H1 F He H' ∧ H' D = some (.lst accV) ∧ F D = none ∧ He D = none ∧ DRs K F accV accD ∧ dLcGoW g tt te (wipeD δ vs) (ds.drop (i + 1)) accD w P,
      fun H' h => ⟨ds.length - (i + 1), by omega, rfl, hlt, h⟩, fun x H3 y => ?_⟩
    rw [List.drop_eq_getElem_cons hlt] at q2
    -- the item is there: the heap is as it was, or one tuple more
    have go : ∀ F3, Wd memExt K w2 F3 He2 H3 → Step F2 He2 H2 F3 He2 H3 → DR K F3 x ds[i] → G x (L2.wipe σ vs) H3 fun σ2 H2 => L2.wipe σ2 vs = L2.wipe σ vs ∧ liftT ⟨memExt, K, F0, He0, H0⟩ tt σ2 H2 fun b H3 => if b = true then liftX ⟨memExt, K, F0, He0, H0⟩ te σ2 H3 fun y H4 => ∃ acc, H4 D = some (.lst acc) ∧ acc.length < sizeLine ∧
        (∃ w F He accV accD, Wd memExt K w F He (upd H4 D (.lst (acc ++ [y]))) ∧ Step F1 He1 H1 F He (upd H4 D (.lst (acc ++ [y]))) ∧ (upd H4 D (.lst (acc ++ [y]))) D = some (.lst accV) ∧ F D = none ∧ He D = none ∧ DRs K F accV accD ∧ dLcGoW g tt te (wipeD δ vs) (ds.drop (i + 1)) accD w P)
        else ∃ w F He accV accD, Wd memExt K w F He H3 ∧ Step F1 He1 H1 F He H3 ∧ H3 D = some (.lst accV) ∧ F D = none ∧ He D = none ∧ DRs K F accV accD ∧ dLcGoW g tt te (wipeD δ vs) (ds.drop (i + 1)) accD w P := by
      intro F3 wd3 st3 rx
      have nD2 : H2 D ≠ none := by rw [hD2]; exact fun z => nomatch z
      have hF3 := st3.fresh nD2 hF2
      have hD3 := st3.keep D _ hD2 hE2
      have nD3 : H3 D ≠ none := by rw [hD3]; exact fun z => nomatch z
      have st3' := st2.trans st3
      refine ok (wipeD δ vs) w2 F3 He2 H3 (L2.wipe σ vs) x ds[i] _ _ (R1.step wd3 st3') rx q2 fun δ4 σ4 q4 R4 e4 => ⟨e4.trans (wipe_wipe vs vs fun _ h => h), ?_⟩
      refine ⟨δ4, w2, F3, He2, _, R4, q4, fun b w5 q5 H5 F5 He5 wd5 st5 => ?_⟩
      have hF5 := st5.fresh nD3 hF3
      have hE5 := st5.freshE nD3 hE2
      have hD5 := st5.keep D _ hD3 hE2
      have nD5 : H5 D ≠ none := by rw [hD5]; exact fun z => nomatch z
      have st5' := st3'.trans st5
      have ra5 := (ra.mono st3.fz).mono st5.fz
      cases b with
      | false => exact ⟨w5, F5, He5, accV, accD, wd5, st5', hD5, hF5, hE5, ra5, q5⟩
      | true =>
        refine ⟨δ4, w5, F5, He5, _, R4.step wd5 st5, q5, fun bb e w6 q6 v H6 F6 He6 wd6 st6 r6 => ?_⟩
        obtain ⟨y7, w7, F7, He7, q7, wd7, st7, r7, s7⟩ := kNm_use q6 wd6 st6 r6
        have hF7 := st7.fresh nD5 hF5
        have hE7 := st7.freshE nD5 hE5
        refine ⟨accV, st7.keep D _ hD5 hE5, by rw [ra.length]; exact q7.1, w7, F7, He7, accV ++ [v], accD ++ [y7], wd7.write hF7 hE7, (st5'.trans st7).write hD, upd_same, hF7, hE7, (ra5.mono st7.fz).append (.cons r7 .nil), q7.2⟩
    rcases io.yld i H2 x H3 sH hlt y with ⟨rfl, d, hd, rd⟩ | ⟨T, us, es, rfl, hT, rfl, hd, rd⟩
    · rw [List.getElem?_eq_getElem hlt] at hd
      cases hd
      exact go F2 wd2 .refl (rd.mono st2.fz)
    · rw [List.getElem?_eq_getElem hlt] at hd
      have hd' := Option.some.inj hd
      have hF : F2 T = none := wd2.fnone hT
      have hE : He2 T = none := wd2.henone hT
      refine go (upd F2 T (.tup us)) ((wd2.alloc hT).freeze upd_same hF hE) ((Step.alloc hT).freeze hF hT) ?_
      rw [hd']
      exact .tup upd_same ((rd.mono st2.fz).mono (same_upd hF))
  · have e : i = ds.length := by omega
    subst e
    rw [List.drop_length] at q2
    refine .inl ⟨io.stop H2 sH, k _ _ _ q2 _ H2 F2 He2 wd2 (st1.trans st2) ⟨D, _, rfl, hD2, hF2, hE2, Classical.byContradiction fun q => st1.dom D q hD, .lst ra⟩⟩
theorem jx_lcW {pos : Pos} {elt tg iter : Expr} {ifs : List Expr} {scope : Scope} {own : List (Str × Nat)} {it : DI memExt} {G : TG} {g : DG} {tt : DTs_ memExt} {te : DX memExt} (hc : X.calm = true) (hN : X.N.Nodup) (hi : PI X tg iter (liftI ⟨memExt, K, F0, He0, H0⟩ it)) (ok : BlkOk X.N X.env.scope scope own) (gok : GOkV ⟨memExt, K, F0, He0, H0⟩ (own.map (·.2)) G g)
    (hg : ∀ (s : Shared) (H : Hp) (C : Addr) (cl : List (Str × Addr)) (fp : List Addr), PG (X.blk s H scope (compEnvC scope cl C X.env) fp) tg G) (ht : ∀ (s : Shared) (H : Hp) (C : Addr) (cl : List (Str × Addr)) (fp : List Addr), PTs (X.blk s H scope (compEnvC scope cl C X.env) fp) ifs (liftT ⟨memExt, K, F0, He0, H0⟩ tt))
    (he : ∀ (s : Shared) (H : Hp) (C : Addr) (cl : List (Str × Addr)) (fp : List Addr), JX (X.blk s H scope (compEnvC scope cl C X.env) fp) ⟨memExt, K, F0, He0, H0⟩ elt te) (hs : ∀ x, foldedSetIterable iter X.env x = pure x := by intro _; rfl) :
    JX X ⟨memExt, K, F0, He0, H0⟩ (.ListComp elt [⟨tg, iter, ifs, 0⟩] scope pos) (dLcW it g tt te (own.map (·.2))) := PE.imp (pe_lc hc hN hi ok hg ht he hs) fun _ _ _ h => lc_liftW gok h
end
/-! ### a named list of named lists becomes plain data -/
def delM (w : Mem) (as : List Addr) : Mem := fun b => if b ∈ as then none else w b
section
variable {K : PySem.W.Frag} {F0 He0 H0 : Hp} {δ : DSt} {F He H : Hp} {σ : St}
theorem drs_refs : ∀ {rows : List (Addr × List D)} {vs : List V}, DRs K F vs (rows.map fun r => D.ref r.1) → vs = rows.map fun r => V.ref r.1
  | [], _, .nil => rfl
  | r :: rows, _, .cons h hs => by
    cases h
    rw [drs_refs hs]
    rfl
theorem Rel.melt {w : Mem} (R : Rel ⟨memExt, K, F0, He0, H0⟩ δ w F He σ H) (h0 : ∀ b, He0 b = none) {i : Nat} {a : Addr} (hi : δ[i]? = some (some (false, .ref a))) {rows : List (Addr × List D)} (ha : w a = some (rows.map fun r => D.ref r.1)) (hr : ∀ r ∈ rows, w r.1 = some r.2) :
    ∃ F' He', Rel ⟨memExt, K, F0, He0, H0⟩ (δ.set i (some (false, .lst (rows.map fun r => D.lst r.2)))) (delM w (a :: rows.map (·.1))) F' He' σ H ∧ Same F F' := by
  have hin : ∀ b, b ∈ a :: rows.map (·.1) → ∃ ds vs, w b = some ds ∧ He b = some (.lst vs) ∧ H b = some (.lst vs) ∧ DRs K F vs ds := fun b hb => by
    have : ∃ ds, w b = some ds := by
      rcases List.mem_cons.mp hb with e | e
      · subst e; exact ⟨_, ha⟩
      · obtain ⟨r, hr', rfl⟩ := List.mem_map.mp e
        exact ⟨_, hr r hr'⟩
    obtain ⟨ds, h⟩ := this
    obtain ⟨vs, h1, h2, h3⟩ := R.wd.at h
    exact ⟨ds, vs, h, h2, h1, h3⟩
  let F' : Hp := fun b => if b ∈ a :: rows.map (·.1) then H b else F b
  let He' : Hp := fun b => if b ∈ a :: rows.map (·.1) then none else He b
  have sF : Same F F' := fun b u e => by
    by_cases hb : b ∈ a :: rows.map (·.1)
    · obtain ⟨_, _, _, h2, _, _⟩ := hin b hb
      rw [R.wd.dj _ _ h2] at e; cases e
    · show (if b ∈ a :: rows.map (·.1) then H b else F b) = some u
      rw [if_neg hb]; exact e
  have fIn : ∀ b, b ∈ a :: rows.map (·.1) → F' b = H b := fun b hb => if_pos hb
  have fOut : ∀ b, b ∉ a :: rows.map (·.1) → F' b = F b := fun b hb => if_neg hb
  have eIn : ∀ b, b ∈ a :: rows.map (·.1) → He' b = none := fun b hb => if_pos hb
  have eOut : ∀ b, b ∉ a :: rows.map (·.1) → He' b = He b := fun b hb => if_neg hb
  refine ⟨F', He', ⟨⟨fun b u e => ?_, fun b u e => ?_, fun b u e => ?_, fun b => ?_⟩, ⟨R.st.fz.trans sF, fun b e => ?_, fun b e => ?_, R.st.keep, R.st.dom⟩, by rw [List.length_set]; exact R.len, fun j s es => ?_, fun j k d1 d2 c e1 e2 a1 a2 => ?_⟩, sF⟩
  · by_cases hb : b ∈ a :: rows.map (·.1)
    · rw [fIn b hb] at e; exact e
    · rw [fOut b hb] at e; exact R.wd.sf b u e
  · by_cases hb : b ∈ a :: rows.map (·.1)
    · rw [eIn b hb] at e; cases e
    · rw [eOut b hb] at e; exact R.wd.sh b u e
  · by_cases hb : b ∈ a :: rows.map (·.1)
    · rw [eIn b hb] at e; cases e
    · rw [eOut b hb] at e; rw [fOut b hb]; exact R.wd.dj b u e
  · by_cases hb : b ∈ a :: rows.map (·.1)
    · exact .inl ⟨if_pos hb, eIn b hb⟩
    · rcases R.wd.ex b with ⟨g1, g2⟩ | ⟨d, v, g1, g2, g3⟩
      · exact .inl ⟨by unfold delM; rw [if_neg hb]; exact g1, by rw [eOut b hb]; exact g2⟩
      · exact .inr ⟨d, v, by unfold delM; rw [if_neg hb]; exact g1, by rw [eOut b hb]; exact g2, g3.mono sF⟩
  · by_cases hb : b ∈ a :: rows.map (·.1)
    · obtain ⟨_, _, _, h2, _, _⟩ := hin b hb
      rcases R.st.heN b (by rw [h2]; exact fun z => nomatch z) with h | h
      · exact absurd (h0 b) h
      · exact .inr h
    · rw [fOut b hb] at e; exact R.st.fzN b e
  · by_cases hb : b ∈ a :: rows.map (·.1)
    · exact absurd (eIn b hb) e
    · rw [eOut b hb] at e; exact R.st.heN b e
  · rcases get_set es with ⟨rfl, rfl⟩ | ⟨hj, e'⟩
    · obtain ⟨u, hu, x, rfl, rx⟩ := R.sl i _ hi
      cases rx
      refine ⟨_, hu, _, rfl, ?_⟩
      obtain ⟨vs, h1, h2, rv⟩ := R.wd.at ha
      have hvs := drs_refs rv
      subst hvs
      refine .lst (by rw [fIn a List.mem_cons_self]; exact h1) ?_
      have key : ∀ rs : List (Addr × List D), (∀ r ∈ rs, r ∈ rows) → DRs K F' (rs.map fun r => V.ref r.1) (rs.map fun r => D.lst r.2) := by
        intro rs
        induction rs with
        | nil => intro _; exact .nil
        | cons r rs ih =>
          intro hsub
          have hm := hsub r List.mem_cons_self
          obtain ⟨us, g1, g2, ru⟩ := R.wd.at (hr r hm)
          exact .cons (.lst (by rw [fIn r.1 (List.mem_cons_of_mem _ (List.mem_map.mpr ⟨r, hm, rfl⟩))]; exact g1) (ru.mono sF)) (ih fun r' h => hsub r' (List.mem_cons_of_mem _ h))
      exact key rows fun r h => h
    · obtain ⟨u, hu', q'⟩ := R.sl j s e'
      refine ⟨u, hu', ?_⟩
      match s, q' with
      | none, _ => exact True.intro
      | some (false, d), ⟨x, ex, rx⟩ => exact ⟨x, ex, rx.mono sF⟩
      | some (true, d), ⟨c, o', ec, hc, nc, mc, fc, rc⟩ =>
        have hne : c ∉ a :: rows.map (·.1) := fun hb => by
          obtain ⟨_, _, _, h2, _, _⟩ := hin c hb
          rw [mc] at h2; cases h2
        exact ⟨c, o', ec, hc, by rw [fOut c hne]; exact nc, by rw [eOut c hne]; exact mc, fc, rc.mono sF⟩
  · rcases get_set e1 with ⟨_, x⟩ | ⟨hj, e1'⟩
    · cases x
    · rcases get_set e2 with ⟨_, x⟩ | ⟨hk, e2'⟩
      · cases x
      · exact R.inj j k d1 d2 c e1' e2' a1 a2
end
/-- all names are forgotten -/
theorem Rel.forgetAll {K : PySem.W.Frag} {F0 He0 H0 : Hp} {δ : DSt} {F He H : Hp} {σ : St} {w : Mem} (R : Rel ⟨memExt, K, F0, He0, H0⟩ δ w F He σ H) : Rel ⟨memExt, K, F0, He0, H0⟩ δ (fun _ => none) F (fun _ => none) σ H := by
  refine ⟨⟨R.wd.sf, (fun b u e => nomatch e), (fun b u e => nomatch e), fun b => .inl ⟨rfl, rfl⟩⟩, ⟨R.st.fz, R.st.fzN, fun b e => absurd rfl e, R.st.keep, R.st.dom⟩, R.len, fun j s e => ?_, R.inj⟩
  obtain ⟨u, hu, q⟩ := R.sl j s e
  refine ⟨u, hu, ?_⟩
  match s, q with
  | none, _ => exact True.intro
  | some (false, d), q => exact q
  | some (true, d), ⟨c, o, ec, hc, nc, mc, fc, rc⟩ => exact ⟨c, o, ec, hc, nc, rfl, fc, rc⟩
def dMelt (i : Nat) (t : DS memExt) : DS memExt := fun E δ w => ∃ (a : Addr) (rows : List (Addr × List D)), δ[i]? = some (some (false, .ref a)) ∧ w a = some (rows.map fun r => D.ref r.1) ∧ (∀ r ∈ rows, w r.1 = some r.2) ∧ t E (δ.set i (some (false, .lst (rows.map fun r => D.lst r.2)))) (fun _ => none)
theorem js_melt {X : Cx} {K : PySem.W.Frag} {F0 He0 H0 : Hp} (he0 : ∀ b, He0 b = none) {st : Stmt} {t : DS memExt} (i : Nat) (h : JS X ⟨memExt, K, F0, He0, H0⟩ st t) : JS X ⟨memExt, K, F0, He0, H0⟩ st (dMelt i t) := PS.imp h fun D σ H ⟨δ, w, F, He, E, R, q, c⟩ => by
  obtain ⟨a, rows, h1, h2, h3, q⟩ := q
  obtain ⟨F', He', R', s'⟩ := R.melt he0 h1 h2 h3
  exact ⟨_, _, F', _, E, R'.forgetAll, q, c.mono s'⟩
theorem js_setLcW {X : Cx} {K : PySem.W.Frag} {F0 He0 H0 : Hp} {pos : Pos} {i : Nat} {y : Str} {py : Pos} {elt tg iter : Expr} {ifs : List Expr} {scope : Scope} {own : List (Str × Nat)} {it : DI memExt} {G : TG} {g : DG} {tt : DTs_ memExt} {te : DX memExt} {spos : Pos} (own' : Bool) (hc : X.calm = true) (hN : X.N.Nodup) (hy : X.N[i]? = some y) (hyl : X.env.scope.names.lookup y = some .local)
    (hsw : swapsWith (.ListComp elt [⟨tg, iter, ifs, 0⟩] scope pos) (some (.Name y py)) spos.line X.env = pure true) (hi : PI X tg iter (liftI ⟨memExt, K, F0, He0, H0⟩ it)) (ok : BlkOk X.N X.env.scope scope own) (gok : GOkV ⟨memExt, K, F0, He0, H0⟩ (own.map (·.2)) G g)
    (hg : ∀ (s : Shared) (H : Hp) (C : Addr) (cl : List (Str × Addr)) (fp : List Addr), PG (X.blk s H scope (compEnvC scope cl C X.env) fp) tg G) (ht : ∀ (s : Shared) (H : Hp) (C : Addr) (cl : List (Str × Addr)) (fp : List Addr), PTs (X.blk s H scope (compEnvC scope cl C X.env) fp) ifs (liftT ⟨memExt, K, F0, He0, H0⟩ tt))
    (he : ∀ (s : Shared) (H : Hp) (C : Addr) (cl : List (Str × Addr)) (fp : List Addr), JX (X.blk s H scope (compEnvC scope cl C X.env) fp) ⟨memExt, K, F0, He0, H0⟩ elt te) (hs : ∀ x, foldedSetIterable iter X.env x = pure x := by intro _; rfl) :
    JS X ⟨memExt, K, F0, He0, H0⟩ (.Assign [.Name y py] (.ListComp elt [⟨tg, iter, ifs, 0⟩] scope pos) spos) (dSet own' i (dLcW it g tt te (own.map (·.2)))) := PS.imp (ps_setLc hc hN hy hyl hsw hi ok hg ht he hs) fun D σ H h => by
  obtain ⟨δ, w, F, He, E, R, q, c⟩ := h
  refine lc_liftW gok ⟨δ, w, F, He, _, R, q, fun b d w1 q1 v H1 F1 He1 wd1 st1 r1 => ?_⟩
  cases own' with
  | true => rw [Bool.and_true] at q1; exact c.nx _ _ _ _ _ _ q1 (R.assign wd1 st1 r1) st1.fz
  | false =>
    rw [Bool.and_false] at q1
    obtain ⟨F2, st2, wd2, r2, _⟩ := r1.thaw st1 wd1
    exact c.nx _ _ _ _ _ _ q1 (R.assign (b := false) wd2 st2 r2) st2.fz
def noMem : Mem := fun _ => none
section
variable {P : Program} {w : World} {K : PySem.W.Frag} {mg : Str → Option Value} {base : Heap}
/-- a def that is called with no named lists about -/
theorem fn_okE {T : DSp memExt} {x qual : Str} {st : Stmt} {f : Addr} {fd : FuncData} {N ps : List Str} {k : Nat} (F : L2.Fun K x qual st f fd) (S : FnScope N ps (defScope st)) (hm : mg x = some (.ref f))
    (hbd : ∀ (kV doc pm : Value) (an : Option Addr) (cdv ct : Value) (us : List Value), us.length = ps.length → bindArgs (PySem.W.fnOf x qual (defArgs st) (defBody st) (defScope st) .none kV doc pm an cdv ct) ⟨us, []⟩ = pure (ps.zip us))
    (len : ∀ ds w P, T ds w P → ds.length = ps.length) (emp : ∀ ds w P, T ds w P → w = noMem)
    (h : ∃ tb : DS memExt, (∀ (cdv : Value) (A : Around) (outer : List Env) (s : Shared) (H F0 He0 : Hp) (he0 : ∀ b, He0 b = none) (E : XK), Room k (A.deeper (PyProof.Rows.envOfC qual (defScope st) s.heap.objs.size f cdv)) → JSs (cxOf CX0 P w K mg base N qual (defScope st) f cdv A outer s H E).nox ⟨memExt, K, F0, He0, H⟩ (defBody st) tb) ∧
      ∀ ds w P, T ds w P → tb { nx := fun _ w => P false .non w, rt := P } (startD N ds) w) : Fn P w K mg base memExt (k + 1) x T := by
  obtain ⟨tb, hb, hT⟩ := h
  refine ⟨f, fd, ps, F.ok S (fun vs H Q E h => ?_) (fun cdv A outer s H vs Q E hr h => ?_), hm, F.kp, F.binds hbd⟩
  · obtain ⟨ds, w, F, He, P, _, r, q, _⟩ := h
    rw [r.length]
    exact len _ _ _ q
  · obtain ⟨ds, w, F, He, P, wd, r, q, k⟩ := h
    have he0 : ∀ b, He b = none := fun b => by
      rcases wd.ex b with ⟨_, h⟩ | ⟨_, _, h1, _, _⟩
      · exact h
      · rw [emp _ _ _ q] at h1; cases h1
    refine ⟨_, hb cdv A outer s H F He he0 E hr, startD N ds, w, F, He, _, rel_start wd r, hT ds w P q, ?_⟩
    exact ⟨fun δ w' F' He' σ H' p R _ => k _ _ _ p .non H' F' He' R.wd R.st .non, fun b d w' p v H' F' He' wd' st' rr => k b d w' p v H' F' He' wd' st' rr, fun _ _ _ _ _ _ p => p.elim, fun _ _ _ _ _ _ p => p.elim⟩
end
theorem noMem_he {K : PySem.W.Frag} {F He H : Hp} (wd : Wd memExt K noMem F He H) (b : Addr) : He b = none := by
  rcases wd.ex b with ⟨_, h⟩ | ⟨_, _, h1, _, _⟩
  · exact h
  · cases h1
/-- a call that gives a plain thing back, no named list about -/
def dCallBE (T : DSp memExt) (t : DA memExt) : DX memExt := fun δ w Q => t δ w fun ds w1 => w1 = noMem ∧ T ds w1 fun b d w2 => (b = false ∧ d.scal = true ∧ w2 = w1) ∧ Q false d w2
theorem jx_callBE {X : Cx} {K : PySem.W.Frag} {F0 He0 H0 : Hp} {pos : Pos} {k : Nat} {T : DSp memExt} {t : DA memExt} {x : Str} {p : Pos} {e : Expr} {es : List Expr} (f : Fn X.prog X.w X.K X.mg X.base memExt k x T) (hK : K = X.K) (hr : Room k X.A) (ha : JB X ⟨memExt, K, F0, He0, H0⟩ (e :: es) t) (hg : Gl X x := by rfl)
    (hdb : (x == ("__debug__" : Str)) = false := by decide) (he : starEach (e :: es) X.env = (false, eval e X.env) :: starEach es X.env := by rfl) (hpl : (backTo pos (starEach es X.env)).any (·.1) = false := by rfl) : JX X ⟨memExt, K, F0, He0, H0⟩ (.Call (.Name x p) (e :: es) [] pos) (dCallBE T t) := by
  obtain ⟨fa, fd, ps, a, b, c, d⟩ := f.ex
  refine PE.imp (pe_call a hr hg b c d .nil pass0 ha hdb he hpl) fun σ H Q h => ?_
  obtain ⟨δ, w, F, He, P, R, q, k⟩ := h
  refine ⟨δ, w, F, He, _, R, q, fun ds w1 q1 vs H1 F1 He1 wd1 st1 r1 => ?_⟩
  obtain ⟨hw1, q1⟩ := q1
  subst hw1
  show toSp memExt X.K T (vs ++ []) H1 Q E0
  rw [List.append_nil, ← hK]
  obtain ⟨F2, s2, wd2, r2⟩ := thawB wd1 r1
  refine ⟨ds, noMem, F2, He1, _, wd2, r2, q1, fun b d w' p v H' F' He' wd st r => ?_⟩
  obtain ⟨⟨rfl, sc, rfl⟩, p⟩ := p
  have hE1 := noMem_he wd1
  have hE' := noMem_he wd
  have keep : Same H1 H' := fun b o e => st.keep b o e (hE1 b)
  have e2 : He' = He1 := by funext b; rw [hE1 b, hE' b]
  subst e2
  exact k false d _ p v H' F1 He' ⟨wd1.sf.trans keep, (fun b o e => by rw [hE1 b] at e; cases e), (fun b o e => by rw [hE1 b] at e; cases e), wd1.ex⟩
    (st1.trans ⟨Same.refl _, fun _ h => .inl h, fun _ h => .inl h, fun b o e _ => keep b o e, st.dom⟩) (dr_scal r sc)
theorem law_spM {K : PySem.W.Frag} {a : Addr} {ns : List Int} {H : Hp} {Q : VK} {E : XK} (hl : ns.length ≤ 63) (hS : SqL K H a (ns.map V.int)) (hQ : ∀ H', Q (.bl true) H') : toSp memExt K (lawT (W := memExt) noMem) [.ref a] H Q E := by
  refine ⟨[.scr ns], noMem, H, fun _ => none, fun b d _ => b = false ∧ d = .bl true, ⟨Same.refl _, (fun b o e => nomatch e), (fun b o e => nomatch e), fun _ => .inl ⟨rfl, rfl⟩⟩, .cons (.scr hS) .nil, ⟨ns, rfl, hl, rfl, fun _ => ⟨rfl, rfl⟩⟩, fun b d w' p v H' F' He' _ _ r => ?_⟩
  obtain ⟨rfl, rfl⟩ := p
  cases r
  exact hQ H'
end Lv

namespace Lv
open PySem PySem.Spec L2
section
variable {w : Mem} {Q : Bool → D → Mem → Prop}
theorem kIxW_lst (ds : List D) (e : D) : kIxW w Q (.lst ds) e = sIx (.lst ds) e fun b x => Q b x w := rfl
theorem kIxW_tup (ds : List D) (e : D) : kIxW w Q (.tup ds) e = sIx (.tup ds) e fun b x => Q b x w := rfl
theorem kIxW_scr (ds : List Int) (e : D) : kIxW w Q (.scr ds) e = sIx (.scr ds) e fun b x => Q b x w := rfl
theorem kIxW_str (x : Str) (e : D) : kIxW w Q (.str x) e = sIx (.str x) e fun b x => Q b x w := rfl
theorem kIxW_dK (kvs : List (Key × D)) (e : D) : kIxW w Q (.dK kvs) e = sIx (.dK kvs) e fun b x => Q b x w := rfl
theorem kIxW_dT (kvs : List (List Key × D)) (e : D) : kIxW w Q (.dT kvs) e = sIx (.dT kvs) e fun b x => Q b x w := rfl
theorem kLenW_lst (ds : List D) : kLenW w Q (.lst ds) = Q false (.int ds.length) w := rfl
theorem kLenW_tup (ds : List D) : kLenW w Q (.tup ds) = Q false (.int ds.length) w := rfl
theorem kLenW_scr (ds : List Int) : kLenW w Q (.scr ds) = Q false (.int ds.length) w := rfl
theorem kLenW_str (x : Str) : kLenW w Q (.str x) = (x.length ≤ sizeLine ∧ Q false (.int x.length) w) := rfl
theorem kNm_f (b : Bool) (v : D) (Q : D → Mem → Prop) : kNm false b v w Q = Q v w := rfl
theorem kNm_t (vs : List D) (Q : D → Mem → Prop) : kNm true true (.lst vs) w Q = ∀ c, w c = none → Q (.ref c) (updM w c vs) := rfl
/-- a comprehension of new lists: each gets a name -/
theorem lcW_map {α : Type} {i : Nat} {te : DX memExt} {δ : DSt} {Q : Bool → D → Mem → Prop} (f : α → D) (h : α → List D) :
    ∀ (xs : List α) (w : Mem) (acc : List D), (∀ x ∈ xs, ∀ (w : Mem) (P : Bool → D → Mem → Prop), P true (.lst (h x)) w → te (δ.set i (some (false, f x))) w P) → acc.length + xs.length ≤ sizeLine →
      (∀ (rows : List (Addr × List D)) (w' : Mem), rows.map (·.2) = xs.map h → (rows.map (·.1)).Nodup → (∀ r ∈ rows, w r.1 = none ∧ w' r.1 = some r.2) → (∀ b, b ∉ rows.map (·.1) → w' b = w b) → Q true (.lst (acc ++ rows.map fun r => D.ref r.1)) w') →
      dLcGoW (gN i) dYes te δ (xs.map f) acc w Q
  | [], w, acc, _, _, q => by
    have := q [] w rfl (by simp) (by simp) (fun _ _ => rfl)
    rw [List.map_nil, List.append_nil] at this
    exact this
  | x :: xs, w, acc, hs, hz, q => by
    simp only [List.map_cons, dLcGoW, gN, dYes, if_true]
    refine hs x List.mem_cons_self w _ ?_
    rw [kNm_t]
    intro c hc
    refine ⟨by simp at hz; omega, ?_⟩
    refine lcW_map f h xs (updM w c (h x)) (acc ++ [.ref c]) (fun y hy => hs y (List.mem_cons_of_mem _ hy)) (by simp at hz ⊢; omega) fun rows w' h1 h2 h3 h4 => ?_
    have hcn : c ∉ rows.map (·.1) := fun hm => by
      obtain ⟨r, hr, e⟩ := List.mem_map.mp hm
      have := (h3 r hr).1
      rw [e, updM_same] at this
      cases this
    have := q ((c, h x) :: rows) w' (by simp [h1]) (List.nodup_cons.mpr ⟨hcn, h2⟩) (fun r hr => by
      rcases List.mem_cons.mp hr with e | e
      · subst e
        exact ⟨hc, by rw [h4 c hcn, updM_same]⟩
      · obtain ⟨a, b⟩ := h3 r e
        have hne : r.1 ≠ c := fun z => hcn (z ▸ List.mem_map.mpr ⟨r, e, rfl⟩)
        exact ⟨by rw [updM_ne hne] at a; exact a, b⟩) (fun b hb => by
      simp only [List.map_cons, List.mem_cons, not_or] at hb
      rw [h4 b hb.2, updM_ne hb.1])
    simpa using this
end
end Lv

namespace My
open PySem PySem.Spec L2 Lv SX
abbrev W_ : Ext := memExt
def backOf (ws : List Int) : List Int := ws.reverse.map fun x => -x
theorem backOf_length (ws : List Int) : (backOf ws).length = ws.length := by simp [backOf]
/-! ### turns of points, as lists -/
theorem nodup_len {α : Type} [BEq α] [LawfulBEq α] : ∀ {l m : List α}, l.Nodup → (∀ x ∈ l, x ∈ m) → l.length ≤ m.length
  | [], _, _, _ => Nat.zero_le _
  | a :: l, m, h, hs => by
    have ha : a ∈ m := hs a List.mem_cons_self
    have h2 := List.nodup_cons.mp h
    have : l.length ≤ (m.erase a).length := nodup_len h2.2 fun x hx => by
      have hne : x ≠ a := fun e => h2.1 (e ▸ hx)
      exact (List.mem_erase_of_ne hne).mpr (hs x (List.mem_cons_of_mem _ hx))
    rw [List.length_erase_of_mem ha] at this
    have := List.length_pos_of_mem ha
    simp
    omega
theorem nodup_fst {α : Type} {a : List α} (hd : a.Nodup) {c : α} {i : Nat} (h : a[i]? = some c) : ∀ j, j < i → a[j]? ≠ some c := by
  intro j hj h2
  obtain ⟨h1a, h1b⟩ := List.getElem?_eq_some_iff.mp h
  obtain ⟨h3a, h3b⟩ := List.getElem?_eq_some_iff.mp h2
  exact List.pairwise_iff_getElem.mp hd j i h3a h1a hj (h3b.trans h1b.symm)
theorem nodup_same {α : Type} {a : List α} (hd : a.Nodup) {c : α} {i j : Nat} (h : a[i]? = some c) (h2 : a[j]? = some c) : i = j := by
  rcases Nat.lt_trichotomy i j with hlt | heq | hgt
  · exact absurd h (nodup_fst hd h2 i hlt)
  · exact heq
  · exact absurd h2 (nodup_fst hd h j hgt)
structure Pm (p : Nat) (t : List Nat) : Prop where
  len : t.length = p
  lt : ∀ x ∈ t, x < p
  nd : t.Nodup
def ap (t : List Nat) (x : Nat) : Nat := (t[x]?).getD 0
def app (t s : List Nat) : List Nat := s.map (ap t)
theorem ap_lt {p : Nat} {t : List Nat} (h : Pm p t) {x : Nat} (hx : x < p) : ap t x < p := by
  unfold ap
  rw [List.getElem?_eq_getElem (by rw [h.len]; exact hx)]
  exact h.lt _ (List.getElem_mem _)
theorem ap_get {p : Nat} {t : List Nat} (h : Pm p t) {x : Nat} (hx : x < p) : t[x]? = some (ap t x) := by
  unfold ap
  rw [List.getElem?_eq_getElem (by rw [h.len]; exact hx)]
  rfl
theorem ap_inj {p : Nat} {t : List Nat} (h : Pm p t) {x y : Nat} (hx : x < p) (hy : y < p) (e : ap t x = ap t y) : x = y := by
  have h1 := ap_get h hx
  have h2 := ap_get h hy
  rw [e] at h1
  rcases Nat.lt_trichotomy x y with hlt | heq | hgt
  · exact absurd h1 (nodup_first h.nd h2 x hlt)
  · exact heq
  · exact absurd h2 (nodup_first h.nd h1 y hgt)
theorem ap_sur {p : Nat} {t : List Nat} (h : Pm p t) {y : Nat} (hy : y < p) : ∃ x, x < p ∧ ap t x = y := by
  have hm : y ∈ t := Classical.byContradiction fun hn => by
    have := nodup_len (l := y :: t) (m := List.range p) (List.nodup_cons.mpr ⟨hn, h.nd⟩) (fun x hx => by
      rcases List.mem_cons.mp hx with e | e
      · subst e; exact List.mem_range.mpr hy
      · exact List.mem_range.mpr (h.lt x e))
    rw [List.length_range, List.length_cons, h.len] at this
    omega
  obtain ⟨x, hx, e⟩ := List.mem_iff_getElem.mp hm
  refine ⟨x, by rw [← h.len]; exact hx, ?_⟩
  unfold ap
  rw [List.getElem?_eq_getElem hx, e]
  rfl
theorem pm_of {p : Nat} {t : List Nat} (hl : t.length = p) (hlt : ∀ x, x < p → ap t x < p) (hinj : ∀ x y, x < p → y < p → ap t x = ap t y → x = y) : Pm p t := by
  have hg : ∀ i (hi : i < t.length), ap t i = t[i] := fun i hi => by unfold ap; rw [List.getElem?_eq_getElem hi]; rfl
  refine ⟨hl, fun x hx => ?_, List.pairwise_iff_getElem.mpr fun i j hi hj hij e => ?_⟩
  · obtain ⟨i, hi, e⟩ := List.mem_iff_getElem.mp hx
    rw [← e, ← hg i hi]
    exact hlt i (by omega)
  · have := hinj i j (by omega) (by omega) (by rw [hg i hi, hg j hj, e])
    omega
theorem pm_ext {p : Nat} {s t : List Nat} (hs : s.length = p) (ht : t.length = p) (h : ∀ x, x < p → ap s x = ap t x) : s = t := by
  refine List.ext_getElem (by omega) fun i h1 h2 => ?_
  have := h i (by omega)
  unfold ap at this
  rw [List.getElem?_eq_getElem h1, List.getElem?_eq_getElem h2] at this
  exact this
theorem ap_app {p : Nat} {s t : List Nat} (hs : s.length = p) {x : Nat} (hx : x < p) : ap (app t s) x = ap t (ap s x) := by
  unfold app ap
  rw [List.getElem?_map, List.getElem?_eq_getElem (by omega)]
  rfl
theorem app_len (t s : List Nat) : (app t s).length = s.length := by simp [app]
theorem pm_app {p : Nat} {s t : List Nat} (ht : Pm p t) (hs : Pm p s) : Pm p (app t s) := by
  refine pm_of (by rw [app_len, hs.len]) (fun x hx => ?_) (fun x y hx hy e => ?_)
  · rw [ap_app hs.len hx]; exact ap_lt ht (ap_lt hs hx)
  · rw [ap_app hs.len hx, ap_app hs.len hy] at e
    exact ap_inj hs hx hy (ap_inj ht (ap_lt hs hx) (ap_lt hs hy) e)
def idP (p : Nat) : List Nat := List.range p
theorem ap_id {p x : Nat} (hx : x < p) : ap (idP p) x = x := by
  unfold ap idP
  rw [List.getElem?_range hx]
  rfl
theorem pm_id (p : Nat) : Pm p (idP p) := ⟨by simp [idP], fun x hx => List.mem_range.mp hx, List.nodup_range⟩
theorem app_id {p : Nat} {t : List Nat} (ht : Pm p t) : app t (idP p) = t := pm_ext (by rw [app_len]; simp [idP]) ht.len fun x hx => by rw [ap_app (by simp [idP]) hx, ap_id hx]
theorem id_app {p : Nat} {s : List Nat} (hs : Pm p s) : app (idP p) s = s := pm_ext (by rw [app_len, hs.len]) hs.len fun x hx => by rw [ap_app hs.len hx, ap_id (ap_lt hs hx)]
theorem app_assoc {p : Nat} {r s t : List Nat} (hr : Pm p r) (hs : Pm p s) : app t (app s r) = app (app t s) r := pm_ext (by rw [app_len, app_len, hr.len]) (by rw [app_len, hr.len]) fun x hx => by
  rw [ap_app (by rw [app_len, hr.len]) hx, ap_app hr.len hx, ap_app hr.len hx, ap_app hs.len (ap_lt hr hx)]
/-- u undoes t -/
def Inv_ (p : Nat) (t u : List Nat) : Prop := u.length = p ∧ ∀ x, x < p → ap u (ap t x) = x
theorem inv_pm {p : Nat} {t u : List Nat} (ht : Pm p t) (h : Inv_ p t u) : Pm p u := by
  refine pm_of h.1 (fun y hy => ?_) (fun x y hx hy e => ?_)
  · obtain ⟨x, hx, rfl⟩ := ap_sur ht hy
    rw [h.2 x hx]; exact hx
  · obtain ⟨a, ha, rfl⟩ := ap_sur ht hx
    obtain ⟨b, hb, rfl⟩ := ap_sur ht hy
    rw [h.2 a ha, h.2 b hb] at e
    rw [e]
theorem inv_uniq {p : Nat} {t u v : List Nat} (ht : Pm p t) (h : Inv_ p t u) (g : Inv_ p t v) : u = v := pm_ext h.1 g.1 fun y hy => by
  obtain ⟨x, hx, rfl⟩ := ap_sur ht hy
  rw [h.2 x hx, g.2 x hx]
theorem inv_sym {p : Nat} {t u : List Nat} (ht : Pm p t) (h : Inv_ p t u) : Inv_ p u t := ⟨ht.len, fun y hy => by
  obtain ⟨x, hx, rfl⟩ := ap_sur ht hy
  rw [h.2 x hx]⟩
theorem inv_app {p : Nat} {t u s : List Nat} (ht : Pm p t) (h : Inv_ p t u) (hs : Pm p s) : app u (app t s) = s := pm_ext (by rw [app_len, app_len, hs.len]) hs.len fun x hx => by
  rw [ap_app (by rw [app_len, hs.len]) hx, ap_app hs.len hx, h.2 _ (ap_lt hs hx)]
/-- the one that undoes t -/
def invP (t : List Nat) : List Nat := (List.range t.length).map fun y => (t.idxOf? y).getD 0
theorem invP_inv {p : Nat} {t : List Nat} (ht : Pm p t) : Inv_ p t (invP t) := by
  refine ⟨by simp [invP, ht.len], fun x hx => ?_⟩
  have hy := ap_lt ht hx
  have hg := ap_get ht hx
  unfold invP
  rw [ap, List.getElem?_map, List.getElem?_range (by rw [ht.len]; exact hy)]
  have : t.idxOf? (ap t x) = some x := by
    rw [List.idxOf?, List.findIdx?_eq_some_iff_getElem]
    obtain ⟨h1, h2⟩ := List.getElem?_eq_some_iff.mp hg
    refine ⟨h1, by simp [h2], fun j hj => ?_⟩
    have := nodup_first ht.nd hg j hj
    rw [List.getElem?_eq_getElem (by omega)] at this
    simpa using fun e => this (by rw [e])
  show ((some _).map _ : Option Nat).getD 0 = x
  simp [this]
theorem pm_inv {p : Nat} {t : List Nat} (ht : Pm p t) : Pm p (invP t) := inv_pm ht (invP_inv ht)
/-- a step's turn, a word's -/
def tn (ts : List (List Nat)) (x : Int) : List Nat := if x < 0 then invP ((ts[x.natAbs - 1]?).getD []) else (ts[x.natAbs - 1]?).getD []
def thr (ts : List (List Nat)) (s : List Nat) (w : List Int) : List Nat := w.foldl (fun s x => app (tn ts x) s) s
structure Tns (p : Nat) (ts : List (List Nat)) : Prop where
  pm : ∀ t ∈ ts, Pm p t
def StT (n : Nat) (w : List Int) : Prop := ∀ x ∈ w, x ≠ 0 ∧ x.natAbs ≤ n
theorem tn_pm {p : Nat} {ts : List (List Nat)} (h : Tns p ts) {x : Int} (hx : x ≠ 0 ∧ x.natAbs ≤ ts.length) : Pm p (tn ts x) := by
  have hl : x.natAbs - 1 < ts.length := by omega
  have := h.pm _ (List.getElem_mem hl)
  unfold tn
  rw [List.getElem?_eq_getElem hl]
  split
  · exact pm_inv this
  · exact this
theorem thr_pm {p : Nat} {ts : List (List Nat)} (h : Tns p ts) : ∀ {w : List Int} {s : List Nat}, StT ts.length w → Pm p s → Pm p (thr ts s w)
  | [], _, _, hs => hs
  | x :: w, s, hw, hs => thr_pm h (w := w) (fun y hy => hw y (List.mem_cons_of_mem _ hy)) (pm_app (tn_pm h (hw x List.mem_cons_self)) hs)
theorem thr_app (ts : List (List Nat)) (s : List Nat) (a b : List Int) : thr ts s (a ++ b) = thr ts (thr ts s a) b := by simp [thr]
theorem thr_id {p : Nat} {ts : List (List Nat)} (h : Tns p ts) : ∀ {w : List Int} {s : List Nat}, StT ts.length w → Pm p s → thr ts s w = app (thr ts (idP p) w) s := by
  intro w
  have key : ∀ (w : List Int) (r s : List Nat), StT ts.length w → Pm p r → Pm p s → thr ts (app r s) w = app (thr ts r w) s := by
    intro w
    induction w with
    | nil => intro r s _ _ _; rfl
    | cons x w ih =>
      intro r s hw hr hs
      have hx := tn_pm h (hw x List.mem_cons_self)
      show thr ts (app (tn ts x) (app r s)) w = app (thr ts (app (tn ts x) r) w) s
      rw [app_assoc hs hr]
      exact ih _ _ (fun y hy => hw y (List.mem_cons_of_mem _ hy)) (pm_app hx hr) hs
  intro s hw hs
  have := key w (idP p) s hw (pm_id p) hs
  rwa [id_app hs] at this
theorem tn_neg {p : Nat} {ts : List (List Nat)} (h : Tns p ts) {x : Int} (hx : x ≠ 0 ∧ x.natAbs ≤ ts.length) : Inv_ p (tn ts x) (tn ts (-x)) := by
  have hl : x.natAbs - 1 < ts.length := by omega
  have ht := h.pm _ (List.getElem_mem hl)
  unfold tn
  rw [Int.natAbs_neg, List.getElem?_eq_getElem hl]
  by_cases hn : x < 0
  · rw [if_pos hn, if_neg (by omega)]
    exact inv_sym ht (invP_inv ht)
  · rw [if_neg hn, if_pos (by omega)]
    exact invP_inv ht
theorem thr_back {p : Nat} {ts : List (List Nat)} (h : Tns p ts) : ∀ {w : List Int} {s : List Nat}, StT ts.length w → Pm p s → thr ts (thr ts s w) (backOf w) = s
  | [], _, _, _ => rfl
  | x :: w, s, hw, hs => by
    have hx := hw x List.mem_cons_self
    have e : backOf (x :: w) = backOf w ++ [-x] := by simp [backOf]
    rw [e, thr_app]
    show thr ts (thr ts (thr ts (app (tn ts x) s) w) (backOf w)) [-x] = s
    rw [thr_back h (fun y hy => hw y (List.mem_cons_of_mem _ hy)) (pm_app (tn_pm h hx) hs)]
    exact inv_app (tn_pm h hx) (tn_neg h hx) hs
theorem st_back {n : Nat} {w : List Int} (h : StT n w) : StT n (backOf w) := fun x hx => by
  unfold backOf at hx
  obtain ⟨y, hy, rfl⟩ := List.mem_map.mp hx
  have := h y (List.mem_reverse.mp hy)
  exact ⟨by omega, by omega⟩
/-- a word's back is what undoes the word -/
theorem thr_inv {p : Nat} {ts : List (List Nat)} (h : Tns p ts) {w : List Int} (hw : StT ts.length w) : thr ts (idP p) (backOf w) = invP (thr ts (idP p) w) := by
  have hp := thr_pm h hw (pm_id p)
  refine inv_uniq hp ⟨(thr_pm h (st_back hw) (pm_id p)).len, fun x hx => ?_⟩ (invP_inv hp)
  have := thr_back h hw (pm_id p)
  rw [thr_id h (st_back hw) hp] at this
  have h2 := congrArg (fun l => ap l x) this
  rwa [ap_app hp.len hx, ap_id hx] at h2
/-! ### tables of turns -/
def nD (l : List Nat) : D := .tup (l.map fun n : Nat => D.int n)
def nL (l : List Nat) : D := .lst (l.map fun n : Nat => D.int n)
theorem codN : CodecI (fun n : Nat => D.int n) 0 := ⟨⟨fun _ => rfl, fun _ => Nat.le_refl _, fun a b => by simp [D.py, PyData.eqv]; omega⟩, fun _ => rfl⟩
theorem codnD : CodecI nD 1 := codN.tup
theorem codnL : CodecI nL 1 := codN.lst
theorem rng_id (p : Nat) : D.tup (rngD 0 ((p : Int) - 0).toNat) = nD (idP p) := by
  unfold nD idP rngD
  rw [show ((p : Int) - 0).toNat = p by omega]
  simp
theorem rng_idL (p : Nat) : D.lst (rngD 0 ((p : Int) - 0).toNat) = nL (idP p) := by
  unfold nL idP rngD
  rw [show ((p : Int) - 0).toNat = p by omega]
  simp
theorem atI_n {l : List Nat} {k : Nat} (h : k < l.length) : atI (l.map fun n : Nat => D.int n) (k : Int) = some (.int (ap l k)) := by
  refine atI_f (fun n : Nat => D.int n) (by omega) ?_
  rw [Int.toNat_natCast]
  unfold ap
  rw [List.getElem?_eq_getElem h]
  rfl
def tk (ts : List (List Nat)) (k : Nat) : List Nat := if k % 2 = 1 then invP ((ts[k / 2]?).getD []) else (ts[k / 2]?).getD []
def spot (x : Int) : Nat := if x < 0 then 2 * (x.natAbs - 1) + 1 else 2 * (x.natAbs - 1)
theorem tk_spot (ts : List (List Nat)) (x : Int) : tk ts (spot x) = tn ts x := by
  unfold tk spot tn
  split
  · rw [if_pos (by omega), show (2 * (x.natAbs - 1) + 1) / 2 = x.natAbs - 1 by omega]
  · rw [if_neg (by omega), show (2 * (x.natAbs - 1)) / 2 = x.natAbs - 1 by omega]
theorem tk_pm {p : Nat} {ts : List (List Nat)} (h : Tns p ts) {k : Nat} (hk : k < 2 * ts.length) : Pm p (tk ts k) := by
  have hl : k / 2 < ts.length := by omega
  have := h.pm _ (List.getElem_mem hl)
  unfold tk
  rw [List.getElem?_eq_getElem hl]
  split
  · exact pm_inv this
  · exact this
/-- a row of the table: where each sign leads from s -/
def RowOk (ts : List (List Nat)) (come : List (List Nat)) (s : List Nat) (n : Nat) (r : List Nat) : Prop := r.length = n ∧ ∀ k, k < n → come[ap r k]? = some (app (tk ts k) s)
theorem RowOk.more {ts come : List (List Nat)} {s : List Nat} {n : Nat} {r : List Nat} (h : RowOk ts come s n r) (e : List (List Nat)) : RowOk ts (come ++ e) s n r := ⟨h.1, fun k hk => by
  have := h.2 k hk
  rw [List.getElem?_append_left (List.getElem?_eq_some_iff.mp this).1]
  exact this⟩
theorem ap_snoc {r : List Nat} {j k : Nat} (hk : k < r.length) : ap (r ++ [j]) k = ap r k := by
  unfold ap
  rw [List.getElem?_append_left hk]
theorem ap_last (r : List Nat) (j : Nat) : ap (r ++ [j]) r.length = j := by
  unfold ap
  simp
structure Come (p : Nat) (come : List (List Nat)) : Prop where
  c0 : come[0]? = some (idP p)
  pm : ∀ s ∈ come, Pm p s
  nd : come.Nodup
structure Tbl (p : Nat) (ts come tab : List (List Nat)) : Prop extends Come p come where
  len : tab.length = come.length
  row : ∀ (i : Nat) (s : List Nat), come[i]? = some s → ∃ r : List Nat, tab[i]? = some r ∧ RowOk ts come s (2 * ts.length) r
/-- all lists of n points -/
def allL (p : Nat) : Nat → List (List Nat)
  | 0 => [[]]
  | n + 1 => (List.range p).flatMap fun x => (allL p n).map (x :: ·)
theorem allL_mem {p : Nat} : ∀ {n : Nat} {l : List Nat}, l.length = n → (∀ x ∈ l, x < p) → l ∈ allL p n
  | 0, l, h, _ => by
    have : l = [] := List.length_eq_zero_iff.mp h
    subst this
    simp [allL]
  | n + 1, x :: l, h, hx => by
    unfold allL
    rw [List.mem_flatMap]
    refine ⟨x, List.mem_range.mpr (hx x List.mem_cons_self), List.mem_map.mpr ⟨l, allL_mem (by simpa using h) fun y hy => hx y (List.mem_cons_of_mem _ hy), rfl⟩⟩
theorem all_len {p : Nat} (h : p ≤ 4) : (allL p p).length ≤ 256 := by
  have : p = 0 ∨ p = 1 ∨ p = 2 ∨ p = 3 ∨ p = 4 := by omega
  rcases this with e | e | e | e | e <;> subst e <;> decide +kernel
theorem come_len {p : Nat} (h : p ≤ 4) {come : List (List Nat)} (nd : come.Nodup) (pm : ∀ s ∈ come, Pm p s) : come.length ≤ 256 :=
  Nat.le_trans (nodup_len nd fun s hs => allL_mem (pm s hs).len (pm s hs).lt) (all_len h)

def rot (p c : Nat) : List Nat := (List.range p).map fun i => (i + c) % p
theorem ap_rot {p c x : Nat} (hx : x < p) : ap (rot p c) x = (x + c) % p := by
  unfold ap rot
  rw [List.getElem?_map, List.getElem?_range hx]
  rfl
theorem rot_get {p c i : Nat} (h : i < (rot p c).length) : (rot p c)[i] = (i + c) % p := by simp [rot]
theorem rot_len (p c : Nat) : (rot p c).length = p := by simp [rot]
theorem mod_cases {a p : Nat} (h : a < 2 * p) : (a < p ∧ a % p = a) ∨ (p ≤ a ∧ a % p = a - p) := by
  by_cases h2 : a < p
  · exact .inl ⟨h2, Nat.mod_eq_of_lt h2⟩
  · refine .inr ⟨by omega, ?_⟩
    rw [Nat.mod_eq_sub_mod (by omega), Nat.mod_eq_of_lt (by omega)]
theorem rot_pm {p c : Nat} (hc : c < p) : Pm p (rot p c) := pm_of (rot_len p c) (fun x hx => by rw [ap_rot hx]; exact Nat.mod_lt _ (by omega)) fun x y hx hy e => by
  rw [ap_rot hx, ap_rot hy] at e
  rcases mod_cases (a := x + c) (p := p) (by omega) with ⟨a, b⟩ | ⟨a, b⟩ <;> rcases mod_cases (a := y + c) (p := p) (by omega) with ⟨a', b'⟩ | ⟨a', b'⟩ <;> omega

/-! ### ways in a table -/
def stp (k : Nat) : Int := if k % 2 = 0 then ((k / 2 : Nat) : Int) + 1 else -(((k / 2 : Nat) : Int) + 1)
theorem stp_spot (k : Nat) : spot (stp k) = k := by
  unfold spot stp
  split
  · rw [if_neg (by omega)]; omega
  · rw [if_pos (by omega)]; omega
theorem stp_ok {k l : Nat} (h : k < 2 * l) : stp k ≠ 0 ∧ (stp k).natAbs ≤ l := by
  unfold stp
  split <;> omega
def stepsL (l : Nat) : List Int := (List.range (2 * l)).map stp
theorem stepsL_succ (l : Nat) : stepsL (l + 1) = stepsL l ++ [(l : Int) + 1, -((l : Int) + 1)] := by
  have e1 : stp (2 * l) = (l : Int) + 1 := by unfold stp; rw [if_pos (by omega)]; omega
  have e2 : stp (2 * l + 1) = -((l : Int) + 1) := by unfold stp; rw [if_neg (by omega)]; omega
  unfold stepsL
  rw [show 2 * (l + 1) = (2 * l + 1) + 1 by omega, List.range_succ, List.range_succ, List.map_append, List.map_append, List.append_assoc]
  simp only [List.map_cons, List.map_nil, e1, e2]
  rfl
theorem stepsL_len (l : Nat) : (stepsL l).length = 2 * l := by simp [stepsL]
def lead (tab : List (List Nat)) (r : Nat) (w : List Int) : Nat := w.foldl (fun r x => ap ((tab[r]?).getD []) (spot x)) r
theorem lead_snoc (tab : List (List Nat)) (r : Nat) (w : List Int) (x : Int) : lead tab r (w ++ [x]) = ap ((tab[lead tab r w]?).getD []) (spot x) := by simp [lead]
structure GT (n l : Nat) (tab : List (List Nat)) : Prop where
  len : tab.length = n
  n1 : 1 ≤ n
  nb : n ≤ 5000
  lb : l ≤ 500
  row : ∀ r ∈ tab, r.length = 2 * l ∧ ∀ x ∈ r, x < n
  reach : ∀ j, 0 < j → j < n → ∃ i k, i < j ∧ k < 2 * l ∧ ap ((tab[i]?).getD []) k = j
theorem row_ap (r : List Nat) : r = (List.range r.length).map (ap r) := by
  refine List.ext_getElem (by simp) fun i h1 h2 => ?_
  simp [ap, h1]
theorem GT.get {n l : Nat} {tab : List (List Nat)} (g : GT n l tab) {i : Nat} (h : i < n) : ∃ r, tab[i]? = some r ∧ (tab[i]?).getD [] = r ∧ r.length = 2 * l ∧ ∀ k, k < 2 * l → ap r k < n := by
  have hl : i < tab.length := by rw [g.len]; exact h
  have := g.row _ (List.getElem_mem hl)
  refine ⟨tab[i], List.getElem?_eq_getElem hl, by rw [List.getElem?_eq_getElem hl]; rfl, this.1, fun k hk => ?_⟩
  have hk' : k < tab[i].length := by rw [this.1]; exact hk
  unfold ap
  rw [List.getElem?_eq_getElem hk']
  exact this.2 _ (List.getElem_mem hk')
theorem lead_lt {n l : Nat} {tab : List (List Nat)} (g : GT n l tab) : ∀ {w : List Int} {r : Nat}, r < n → StT l w → lead tab r w < n
  | [], _, h, _ => h
  | x :: w, r, h, hw => by
    have hx := hw x List.mem_cons_self
    obtain ⟨q, _, e, _, hq⟩ := g.get h
    show lead tab (ap ((tab[r]?).getD []) (spot x)) w < n
    rw [e]
    exact lead_lt g (w := w) (hq _ (by unfold spot; split <;> omega)) fun y hy => hw y (List.mem_cons_of_mem _ hy)
abbrev Wy := List (Nat × List Int)
def wyD (L : Wy) : D := .dK (L.map fun q => (Sum.inl (q.1 : Int), wD q.2))
def wv (L : Wy) (r : Nat) : Option (List Int) := (L.find? fun q => decide (q.1 = r)).map (·.2)
theorem wv_val (L : Wy) (r : Nat) : valD (L.map fun q => ((Sum.inl (q.1 : Int) : Key), wD q.2)) (.inl (r : Int)) = (wv L r).map wD := by
  unfold valD wv
  induction L with
  | nil => rfl
  | cons q L ih =>
    rw [List.map_cons, List.find?_cons, List.find?_cons]
    by_cases h : q.1 = r
    · simp [h]
    · have : ¬ ((Sum.inl (q.1 : Int) : Key) = Sum.inl (r : Int)) := fun e => h (by have := Sum.inl.inj e; omega)
      simp only [h, this, decide_false]
      exact ih
theorem wv_mem {L : Wy} {r : Nat} {w : List Int} (h : wv L r = some w) : (r, w) ∈ L := by
  unfold wv at h
  cases e : L.find? fun q => decide (q.1 = r) with
  | none => rw [e] at h; cases h
  | some q =>
    rw [e] at h
    have h1 := List.find?_some e
    have h2 := List.mem_of_find?_eq_some e
    simp at h1
    cases h
    rw [← h1]
    exact h2
theorem wv_none {L : Wy} {r : Nat} : wv L r = none ↔ r ∉ L.map (·.1) := by
  unfold wv
  rw [Option.map_eq_none_iff, List.find?_eq_none]
  simp
  constructor
  · intro h x hx
    exact h r x hx rfl
  · intro h a b hab e
    subst e
    exact h b hab
theorem put_new {L : Wy} {r : Nat} (w : List Int) (h : wv L r = none) : putD (L.map fun q => ((Sum.inl (q.1 : Int) : Key), wD q.2)) (.inl (r : Int)) (wD w) = (L ++ [(r, w)]).map fun q => ((Sum.inl (q.1 : Int) : Key), wD q.2) := by
  have hn := wv_none.mp h
  unfold putD
  rw [if_neg]
  · simp
  · simp
    intro a b hab e
    have : a = r := by omega
    subst this
    exact hn (List.mem_map.mpr ⟨(a, b), hab, rfl⟩)
structure WyOk (n l : Nat) (tab : List (List Nat)) (L : Wy) : Prop where
  nd : (L.map (·.1)).Nodup
  c0 : L[0]? = some (0, [])
  ok : ∀ q ∈ L, q.1 < n ∧ lead tab 0 q.2 = q.1 ∧ StT l q.2 ∧ q.2.length < L.length
theorem WyOk.len {n l : Nat} {tab : List (List Nat)} {L : Wy} (h : WyOk n l tab L) : L.length ≤ n := by
  have := nodup_len (m := List.range n) h.nd fun x hx => by
    obtain ⟨q, hq, rfl⟩ := List.mem_map.mp hx
    exact List.mem_range.mpr (h.ok q hq).1
  simpa using this
/-- closed: every room there -/
theorem WyOk.full {n l : Nat} {tab : List (List Nat)} {L : Wy} (g : GT n l tab) (h : WyOk n l tab L) (hc : ∀ r ∈ L.map (·.1), ∀ k, k < 2 * l → ap ((tab[r]?).getD []) k ∈ L.map (·.1)) : ∀ r, r < n → r ∈ L.map (·.1) := by
  intro r
  induction r using Nat.strongRecOn with
  | _ r ih =>
    intro hr
    by_cases h0 : r = 0
    · subst h0
      exact List.mem_map.mpr ⟨(0, []), List.mem_of_getElem? h.c0, rfl⟩
    · obtain ⟨i, k, hi, hk, e⟩ := g.reach r (by omega) hr
      rw [← e]
      exact hc i (ih i hi (by omega)) k hk

def T_steps_of : DSp W_ := fun ds w P => ∃ l : Nat, ds = [.int l] ∧ l ≤ 500 ∧ P true (iD (stepsL l)) w
theorem len_steps_of (ds : List D) (w : W_.Om) (P : Bool → D → W_.Om → Prop) (h : T_steps_of ds w P) : ds.length = 1 := by first | (have h := h.1; subst h; rfl) | (obtain ⟨rfl, _⟩ := h; rfl) | (obtain ⟨_, rfl, _⟩ := h; rfl) | (obtain ⟨_, _, rfl, _⟩ := h; rfl) | (obtain ⟨_, _, _, rfl, _⟩ := h; rfl) | (obtain ⟨_, _, _, _, rfl, _⟩ := h; rfl) | (obtain ⟨_, _, _, _, _, rfl, _⟩ := h; rfl) | (obtain ⟨_, _, _, _, _, _, rfl, _⟩ := h; rfl) | (obtain ⟨_, _, _, _, _, _, _, rfl, _⟩ := h; rfl) | (obtain ⟨_, _, _, _, _, _, _, _, rfl, _⟩ := h; rfl) | (obtain ⟨_, _, _, _, _, _, _, _, _, rfl, _⟩ := h; rfl) | (obtain ⟨_, _, _, _, _, _, _, _, _, _, rfl, _⟩ := h; rfl) | (obtain ⟨_, _, _, _, _, _, _, _, _, _, _, rfl, _⟩ := h; rfl)
def b_steps_of : DS W_ := (dSeq (dSet true 1 (dLst dNil))
    (dSeq (dFor (dRng2 (oX (dC (.int 1))) (oX (dBin sAdd (dVarR 0) (oX (dC (.int 1)))))) (gN 2) (dSeq (dApp 1 (dVar 2))
    (dApp 1 (dUn sNeg (dVarR 2)))))
    (dRetV 1)))
theorem v_steps_of (ds : List D) (w : W_.Om) (P : Bool → D → W_.Om → Prop) (h : T_steps_of ds w P) : b_steps_of { nx := fun _ w => P false .non w, rt := P } (startD ["letters", "steps", "letter"] ds) w := by
  unfold b_steps_of
  obtain ⟨l, rfl, hl, q⟩ := h
  refine seq_i ?_
  try simp -implicitDefEqProofs only [dNext, dSet, dLst, dTup, dNil, dCons, dConsO, dFor, dRng1_u, dRng2_u, dIt_u, oX, dC, dBin, dUn, dVarR, dVar, dApp, dExt, dUpd0, dPut, dAug, dRet, dRetV, dRetN, dBreak, dCont, dIf, dB_u, dTru_u, dTNot, dTAnd, dTOr, dAndV_u, dOrV_u, dNotV_u, dIfX, dChain_u, dCall, dCallB, dSl, dNoP, dP_u, dLc, dDrop, dFrz, frzD, dAsg, dDicK, dDicT, gN, gT, gsC, gsN, kB.eq_1, kT.eq_1, kT.eq_2, kT.eq_3, kT.eq_4, kT.eq_5, kT.eq_6, kT.eq_7, kT.eq_8, kAnd.eq_1, kOr.eq_1, kNot.eq_1, kIt.eq_1, kIt.eq_2, kIt.eq_3, kIt.eq_4, kP.eq_1, kR1.eq_1, kR2.eq_1, sAdd.eq_1, sAdd.eq_2, sAdd.eq_3, sAdd.eq_4, sJ2.eq_1, sI2.eq_1, sPow, sLt.eq_1, sLt.eq_2, sLe, sGt, sGe, sMul.eq_1, sMul.eq_2, sMulB.eq_1, sMulB.eq_2, sMulB.eq_3, sLR1.eq_1, sLR2.eq_1, sTR1.eq_1, sTR2.eq_1, sIsBl.eq_1, dZip, kZip.eq_1, dDisp1, dIxW, dLenW, dName, dAppW, dPutW, dMelt, dCallBE, kIxW.eq_1, kLenW.eq_1, dLcW, kIxW_lst, kIxW_tup, kIxW_scr, kIxW_str, kIxW_dK, kIxW_dT, kLenW_lst, kLenW_tup, kLenW_scr, kLenW_str, kNm_f, kNm_t, kName, isL.eq_1, isL.eq_2, sNeg.eq_1, sLen.eq_1, sLen.eq_2, sLen.eq_3, sLen.eq_4, sLen.eq_5, sAbs.eq_1, sMax, sMin, sInt.eq_1, sInt.eq_2, sStr.eq_1, sList.eq_1, sList.eq_2, sList.eq_3, sTuple.eq_1, sTuple.eq_2, sTuple.eq_3, sIsN, sNotN, sIx.eq_1, sIx.eq_2, sIx.eq_3, sIx.eq_4, sIx.eq_5, sIx.eq_6, sIx.eq_7, sSl.eq_1, sSl.eq_2, sSl.eq_3, sSl.eq_4, sRev.eq_1, sRev.eq_2, sRev.eq_3, sAddI.eq_1, sAddI.eq_2, sPut.eq_1, sPut.eq_2, sPut.eq_3, sPut.eq_4, D.isNon, sEq_ii, sNe_ii, sEq_ww, sNe_ww, sEq_ll, sNe_ll, sIsi_ii, sIsi_ib, sIsi_ll, sIsi_tt, sIsi_ss, sEq_w, sEq_i, sEq_lw, sEq_lw', sEq_lle, sEq_lle', sNe_w, sNe_i, sNe_lle', sNe_lw', sEq_ss, sNe_ss, sEq_bb, sNe_bb, sIn_iw, sIn_ii, sIn_wl, sIn_wl', sSl3.eq_1, sSl3.eq_2, dSl3, isS.eq_1, isL.eq_1, isL.eq_2, isA.eq_1, dM0, dM1, sUpper.eq_1, sLower.eq_1, sStrip1.eq_1, sSfind.eq_1, sScount.eq_1, sSindex.eq_1, sSsplit.eq_1, sSjoin.eq_1, sSjoin.eq_2, fPop_snoc, fPop_snoc', startD, wipeD, List.map_cons, List.map_nil, List.length_cons, List.length_nil, List.length_map, List.cons_append, List.nil_append, List.replicate, List.set_cons_zero, List.set_cons_succ, List.set_nil, List.getElem?_cons_zero, List.getElem?_cons_succ, Bool.true_and, Bool.and_true, Bool.and_false, Bool.false_and, Bool.not_true, Bool.not_false, if_true, if_false, Bool.false_eq_true, reduceIte, and_true, true_and, decide_true, decide_false, not_true, Nat.zero_le, Nat.zero_add, Nat.reduceAdd, Nat.reduceSub, D.scal]
  refine seq_i ?_
  try simp -implicitDefEqProofs only [dNext, dSet, dLst, dTup, dNil, dCons, dConsO, dFor, dRng1_u, dRng2_u, dIt_u, oX, dC, dBin, dUn, dVarR, dVar, dApp, dExt, dUpd0, dPut, dAug, dRet, dRetV, dRetN, dBreak, dCont, dIf, dB_u, dTru_u, dTNot, dTAnd, dTOr, dAndV_u, dOrV_u, dNotV_u, dIfX, dChain_u, dCall, dCallB, dSl, dNoP, dP_u, dLc, dDrop, dFrz, frzD, dAsg, dDicK, dDicT, gN, gT, gsC, gsN, kB.eq_1, kT.eq_1, kT.eq_2, kT.eq_3, kT.eq_4, kT.eq_5, kT.eq_6, kT.eq_7, kT.eq_8, kAnd.eq_1, kOr.eq_1, kNot.eq_1, kIt.eq_1, kIt.eq_2, kIt.eq_3, kIt.eq_4, kP.eq_1, kR1.eq_1, kR2.eq_1, sAdd.eq_1, sAdd.eq_2, sAdd.eq_3, sAdd.eq_4, sJ2.eq_1, sI2.eq_1, sPow, sLt.eq_1, sLt.eq_2, sLe, sGt, sGe, sMul.eq_1, sMul.eq_2, sMulB.eq_1, sMulB.eq_2, sMulB.eq_3, sLR1.eq_1, sLR2.eq_1, sTR1.eq_1, sTR2.eq_1, sIsBl.eq_1, dZip, kZip.eq_1, dDisp1, dIxW, dLenW, dName, dAppW, dPutW, dMelt, dCallBE, kIxW.eq_1, kLenW.eq_1, dLcW, kIxW_lst, kIxW_tup, kIxW_scr, kIxW_str, kIxW_dK, kIxW_dT, kLenW_lst, kLenW_tup, kLenW_scr, kLenW_str, kNm_f, kNm_t, kName, isL.eq_1, isL.eq_2, sNeg.eq_1, sLen.eq_1, sLen.eq_2, sLen.eq_3, sLen.eq_4, sLen.eq_5, sAbs.eq_1, sMax, sMin, sInt.eq_1, sInt.eq_2, sStr.eq_1, sList.eq_1, sList.eq_2, sList.eq_3, sTuple.eq_1, sTuple.eq_2, sTuple.eq_3, sIsN, sNotN, sIx.eq_1, sIx.eq_2, sIx.eq_3, sIx.eq_4, sIx.eq_5, sIx.eq_6, sIx.eq_7, sSl.eq_1, sSl.eq_2, sSl.eq_3, sSl.eq_4, sRev.eq_1, sRev.eq_2, sRev.eq_3, sAddI.eq_1, sAddI.eq_2, sPut.eq_1, sPut.eq_2, sPut.eq_3, sPut.eq_4, D.isNon, sEq_ii, sNe_ii, sEq_ww, sNe_ww, sEq_ll, sNe_ll, sIsi_ii, sIsi_ib, sIsi_ll, sIsi_tt, sIsi_ss, sEq_w, sEq_i, sEq_lw, sEq_lw', sEq_lle, sEq_lle', sNe_w, sNe_i, sNe_lle', sNe_lw', sEq_ss, sNe_ss, sEq_bb, sNe_bb, sIn_iw, sIn_ii, sIn_wl, sIn_wl', sSl3.eq_1, sSl3.eq_2, dSl3, isS.eq_1, isL.eq_1, isL.eq_2, isA.eq_1, dM0, dM1, sUpper.eq_1, sLower.eq_1, sStrip1.eq_1, sSfind.eq_1, sScount.eq_1, sSindex.eq_1, sSsplit.eq_1, sSjoin.eq_1, sSjoin.eq_2, fPop_snoc, fPop_snoc', startD, wipeD, List.map_cons, List.map_nil, List.length_cons, List.length_nil, List.length_map, List.cons_append, List.nil_append, List.replicate, List.set_cons_zero, List.set_cons_succ, List.set_nil, List.getElem?_cons_zero, List.getElem?_cons_succ, Bool.true_and, Bool.and_true, Bool.and_false, Bool.false_and, Bool.not_true, Bool.not_false, if_true, if_false, Bool.false_eq_true, reduceIte, and_true, true_and, decide_true, decide_false, not_true, Nat.zero_le, Nat.zero_add, Nat.reduceAdd, Nat.reduceSub, D.scal]
  refine ⟨by omega, ?_⟩
  refine for_rng 1 _ (fun k δ w' => w' = w ∧ ∃ j, δ = [some (false, .int l), some (true, iD (stepsL k)), j]) ⟨rfl, none, rfl⟩ ?_ ?_
  · rintro k δ w' N C hk ⟨rfl, j, rfl⟩ hN hC
    have hl := stepsL_len k
    have hs := sizeLine_eq
    refine seq_i ?_
    try simp -implicitDefEqProofs only [dNext, dSet, dLst, dTup, dNil, dCons, dConsO, dFor, dRng1_u, dRng2_u, dIt_u, oX, dC, dBin, dUn, dVarR, dVar, dApp, dExt, dUpd0, dPut, dAug, dRet, dRetV, dRetN, dBreak, dCont, dIf, dB_u, dTru_u, dTNot, dTAnd, dTOr, dAndV_u, dOrV_u, dNotV_u, dIfX, dChain_u, dCall, dCallB, dSl, dNoP, dP_u, dLc, dDrop, dFrz, frzD, dAsg, dDicK, dDicT, gN, gT, gsC, gsN, kB.eq_1, kT.eq_1, kT.eq_2, kT.eq_3, kT.eq_4, kT.eq_5, kT.eq_6, kT.eq_7, kT.eq_8, kAnd.eq_1, kOr.eq_1, kNot.eq_1, kIt.eq_1, kIt.eq_2, kIt.eq_3, kIt.eq_4, kP.eq_1, kR1.eq_1, kR2.eq_1, sAdd.eq_1, sAdd.eq_2, sAdd.eq_3, sAdd.eq_4, sJ2.eq_1, sI2.eq_1, sPow, sLt.eq_1, sLt.eq_2, sLe, sGt, sGe, sMul.eq_1, sMul.eq_2, sMulB.eq_1, sMulB.eq_2, sMulB.eq_3, sLR1.eq_1, sLR2.eq_1, sTR1.eq_1, sTR2.eq_1, sIsBl.eq_1, dZip, kZip.eq_1, dDisp1, dIxW, dLenW, dName, dAppW, dPutW, dMelt, dCallBE, kIxW.eq_1, kLenW.eq_1, dLcW, kIxW_lst, kIxW_tup, kIxW_scr, kIxW_str, kIxW_dK, kIxW_dT, kLenW_lst, kLenW_tup, kLenW_scr, kLenW_str, kNm_f, kNm_t, kName, isL.eq_1, isL.eq_2, sNeg.eq_1, sLen.eq_1, sLen.eq_2, sLen.eq_3, sLen.eq_4, sLen.eq_5, sAbs.eq_1, sMax, sMin, sInt.eq_1, sInt.eq_2, sStr.eq_1, sList.eq_1, sList.eq_2, sList.eq_3, sTuple.eq_1, sTuple.eq_2, sTuple.eq_3, sIsN, sNotN, sIx.eq_1, sIx.eq_2, sIx.eq_3, sIx.eq_4, sIx.eq_5, sIx.eq_6, sIx.eq_7, sSl.eq_1, sSl.eq_2, sSl.eq_3, sSl.eq_4, sRev.eq_1, sRev.eq_2, sRev.eq_3, sAddI.eq_1, sAddI.eq_2, sPut.eq_1, sPut.eq_2, sPut.eq_3, sPut.eq_4, D.isNon, sEq_ii, sNe_ii, sEq_ww, sNe_ww, sEq_ll, sNe_ll, sIsi_ii, sIsi_ib, sIsi_ll, sIsi_tt, sIsi_ss, sEq_w, sEq_i, sEq_lw, sEq_lw', sEq_lle, sEq_lle', sNe_w, sNe_i, sNe_lle', sNe_lw', sEq_ss, sNe_ss, sEq_bb, sNe_bb, sIn_iw, sIn_ii, sIn_wl, sIn_wl', sSl3.eq_1, sSl3.eq_2, dSl3, isS.eq_1, isL.eq_1, isL.eq_2, isA.eq_1, dM0, dM1, sUpper.eq_1, sLower.eq_1, sStrip1.eq_1, sSfind.eq_1, sScount.eq_1, sSindex.eq_1, sSsplit.eq_1, sSjoin.eq_1, sSjoin.eq_2, fPop_snoc, fPop_snoc', startD, wipeD, List.map_cons, List.map_nil, List.length_cons, List.length_nil, List.length_map, List.cons_append, List.nil_append, List.replicate, List.set_cons_zero, List.set_cons_succ, List.set_nil, List.getElem?_cons_zero, List.getElem?_cons_succ, Bool.true_and, Bool.and_true, Bool.and_false, Bool.false_and, Bool.not_true, Bool.not_false, if_true, if_false, Bool.false_eq_true, reduceIte, and_true, true_and, decide_true, decide_false, not_true, Nat.zero_le, Nat.zero_add, Nat.reduceAdd, Nat.reduceSub, D.scal]
    try simp -implicitDefEqProofs only [iD, dNext, dSet, dLst, dTup, dNil, dCons, dConsO, dFor, dRng1_u, dRng2_u, dIt_u, oX, dC, dBin, dUn, dVarR, dVar, dApp, dExt, dUpd0, dPut, dAug, dRet, dRetV, dRetN, dBreak, dCont, dIf, dB_u, dTru_u, dTNot, dTAnd, dTOr, dAndV_u, dOrV_u, dNotV_u, dIfX, dChain_u, dCall, dCallB, dSl, dNoP, dP_u, dLc, dDrop, dFrz, frzD, dAsg, dDicK, dDicT, gN, gT, gsC, gsN, kB.eq_1, kT.eq_1, kT.eq_2, kT.eq_3, kT.eq_4, kT.eq_5, kT.eq_6, kT.eq_7, kT.eq_8, kAnd.eq_1, kOr.eq_1, kNot.eq_1, kIt.eq_1, kIt.eq_2, kIt.eq_3, kIt.eq_4, kP.eq_1, kR1.eq_1, kR2.eq_1, sAdd.eq_1, sAdd.eq_2, sAdd.eq_3, sAdd.eq_4, sJ2.eq_1, sI2.eq_1, sPow, sLt.eq_1, sLt.eq_2, sLe, sGt, sGe, sMul.eq_1, sMul.eq_2, sMulB.eq_1, sMulB.eq_2, sMulB.eq_3, sLR1.eq_1, sLR2.eq_1, sTR1.eq_1, sTR2.eq_1, sIsBl.eq_1, dZip, kZip.eq_1, dDisp1, dIxW, dLenW, dName, dAppW, dPutW, dMelt, dCallBE, kIxW.eq_1, kLenW.eq_1, dLcW, kIxW_lst, kIxW_tup, kIxW_scr, kIxW_str, kIxW_dK, kIxW_dT, kLenW_lst, kLenW_tup, kLenW_scr, kLenW_str, kNm_f, kNm_t, kName, isL.eq_1, isL.eq_2, sNeg.eq_1, sLen.eq_1, sLen.eq_2, sLen.eq_3, sLen.eq_4, sLen.eq_5, sAbs.eq_1, sMax, sMin, sInt.eq_1, sInt.eq_2, sStr.eq_1, sList.eq_1, sList.eq_2, sList.eq_3, sTuple.eq_1, sTuple.eq_2, sTuple.eq_3, sIsN, sNotN, sIx.eq_1, sIx.eq_2, sIx.eq_3, sIx.eq_4, sIx.eq_5, sIx.eq_6, sIx.eq_7, sSl.eq_1, sSl.eq_2, sSl.eq_3, sSl.eq_4, sRev.eq_1, sRev.eq_2, sRev.eq_3, sAddI.eq_1, sAddI.eq_2, sPut.eq_1, sPut.eq_2, sPut.eq_3, sPut.eq_4, D.isNon, sEq_ii, sNe_ii, sEq_ww, sNe_ww, sEq_ll, sNe_ll, sIsi_ii, sIsi_ib, sIsi_ll, sIsi_tt, sIsi_ss, sEq_w, sEq_i, sEq_lw, sEq_lw', sEq_lle, sEq_lle', sNe_w, sNe_i, sNe_lle', sNe_lw', sEq_ss, sNe_ss, sEq_bb, sNe_bb, sIn_iw, sIn_ii, sIn_wl, sIn_wl', sSl3.eq_1, sSl3.eq_2, dSl3, isS.eq_1, isL.eq_1, isL.eq_2, isA.eq_1, dM0, dM1, sUpper.eq_1, sLower.eq_1, sStrip1.eq_1, sSfind.eq_1, sScount.eq_1, sSindex.eq_1, sSsplit.eq_1, sSjoin.eq_1, sSjoin.eq_2, fPop_snoc, fPop_snoc', startD, wipeD, List.map_cons, List.map_nil, List.length_cons, List.length_nil, List.length_map, List.cons_append, List.nil_append, List.replicate, List.set_cons_zero, List.set_cons_succ, List.set_nil, List.getElem?_cons_zero, List.getElem?_cons_succ, Bool.true_and, Bool.and_true, Bool.and_false, Bool.false_and, Bool.not_true, Bool.not_false, if_true, if_false, Bool.false_eq_true, reduceIte, and_true, true_and, decide_true, decide_false, not_true, Nat.zero_le, Nat.zero_add, Nat.reduceAdd, Nat.reduceSub, D.scal, Option.some.injEq, exists_eq_left', exists_eq_left, exists_eq', D.int.injEq, D.lst.injEq, D.tup.injEq, D.scr.injEq, D.str.injEq, List.cons.injEq, and_self]
    refine ⟨by omega, by simp; omega, hN _ _ ⟨rfl, some (false, .int (1 + k)), ?_⟩⟩
    rw [stepsL_succ]
    simp [iD, Int.add_comm]
  · rintro δ w' ⟨rfl, j, rfl⟩
    try simp -implicitDefEqProofs only [dNext, dSet, dLst, dTup, dNil, dCons, dConsO, dFor, dRng1_u, dRng2_u, dIt_u, oX, dC, dBin, dUn, dVarR, dVar, dApp, dExt, dUpd0, dPut, dAug, dRet, dRetV, dRetN, dBreak, dCont, dIf, dB_u, dTru_u, dTNot, dTAnd, dTOr, dAndV_u, dOrV_u, dNotV_u, dIfX, dChain_u, dCall, dCallB, dSl, dNoP, dP_u, dLc, dDrop, dFrz, frzD, dAsg, dDicK, dDicT, gN, gT, gsC, gsN, kB.eq_1, kT.eq_1, kT.eq_2, kT.eq_3, kT.eq_4, kT.eq_5, kT.eq_6, kT.eq_7, kT.eq_8, kAnd.eq_1, kOr.eq_1, kNot.eq_1, kIt.eq_1, kIt.eq_2, kIt.eq_3, kIt.eq_4, kP.eq_1, kR1.eq_1, kR2.eq_1, sAdd.eq_1, sAdd.eq_2, sAdd.eq_3, sAdd.eq_4, sJ2.eq_1, sI2.eq_1, sPow, sLt.eq_1, sLt.eq_2, sLe, sGt, sGe, sMul.eq_1, sMul.eq_2, sMulB.eq_1, sMulB.eq_2, sMulB.eq_3, sLR1.eq_1, sLR2.eq_1, sTR1.eq_1, sTR2.eq_1, sIsBl.eq_1, dZip, kZip.eq_1, dDisp1, dIxW, dLenW, dName, dAppW, dPutW, dMelt, dCallBE, kIxW.eq_1, kLenW.eq_1, dLcW, kIxW_lst, kIxW_tup, kIxW_scr, kIxW_str, kIxW_dK, kIxW_dT, kLenW_lst, kLenW_tup, kLenW_scr, kLenW_str, kNm_f, kNm_t, kName, isL.eq_1, isL.eq_2, sNeg.eq_1, sLen.eq_1, sLen.eq_2, sLen.eq_3, sLen.eq_4, sLen.eq_5, sAbs.eq_1, sMax, sMin, sInt.eq_1, sInt.eq_2, sStr.eq_1, sList.eq_1, sList.eq_2, sList.eq_3, sTuple.eq_1, sTuple.eq_2, sTuple.eq_3, sIsN, sNotN, sIx.eq_1, sIx.eq_2, sIx.eq_3, sIx.eq_4, sIx.eq_5, sIx.eq_6, sIx.eq_7, sSl.eq_1, sSl.eq_2, sSl.eq_3, sSl.eq_4, sRev.eq_1, sRev.eq_2, sRev.eq_3, sAddI.eq_1, sAddI.eq_2, sPut.eq_1, sPut.eq_2, sPut.eq_3, sPut.eq_4, D.isNon, sEq_ii, sNe_ii, sEq_ww, sNe_ww, sEq_ll, sNe_ll, sIsi_ii, sIsi_ib, sIsi_ll, sIsi_tt, sIsi_ss, sEq_w, sEq_i, sEq_lw, sEq_lw', sEq_lle, sEq_lle', sNe_w, sNe_i, sNe_lle', sNe_lw', sEq_ss, sNe_ss, sEq_bb, sNe_bb, sIn_iw, sIn_ii, sIn_wl, sIn_wl', sSl3.eq_1, sSl3.eq_2, dSl3, isS.eq_1, isL.eq_1, isL.eq_2, isA.eq_1, dM0, dM1, sUpper.eq_1, sLower.eq_1, sStrip1.eq_1, sSfind.eq_1, sScount.eq_1, sSindex.eq_1, sSsplit.eq_1, sSjoin.eq_1, sSjoin.eq_2, fPop_snoc, fPop_snoc', startD, wipeD, List.map_cons, List.map_nil, List.length_cons, List.length_nil, List.length_map, List.cons_append, List.nil_append, List.replicate, List.set_cons_zero, List.set_cons_succ, List.set_nil, List.getElem?_cons_zero, List.getElem?_cons_succ, Bool.true_and, Bool.and_true, Bool.and_false, Bool.false_and, Bool.not_true, Bool.not_false, if_true, if_false, Bool.false_eq_true, reduceIte, and_true, true_and, decide_true, decide_false, not_true, Nat.zero_le, Nat.zero_add, Nat.reduceAdd, Nat.reduceSub, D.scal, Option.some.injEq, exists_eq_left', exists_eq_left, exists_eq', D.int.injEq, D.lst.injEq, D.tup.injEq, D.scr.injEq, D.str.injEq, List.cons.injEq, and_self]
    have e : ((l : Int) + 1 - 1).toNat = l := by omega
    rw [e]
    exact q
theorem zip_steps {l : Nat} {r : List Nat} (h : r.length = 2 * l) : zipD ((stepsL l).map D.int) (r.map fun n : Nat => D.int n) = (List.range (2 * l)).map fun k => .tup [.int (stp k), .int (ap r k)] := by
  conv => lhs; rw [row_ap r, h]
  unfold zipD stepsL
  rw [List.map_map, List.map_map, List.zipWith_map, List.zipWith_self]
  rfl

/-! ### the order of words: by length, then step by step -/
def lexN : List Nat → List Nat → Prop
  | x :: a, y :: b => x < y ∨ (x = y ∧ lexN a b)
  | _, _ => False
def sl (a b : List Nat) : Prop := a.length < b.length ∨ (a.length = b.length ∧ lexN a b)
theorem lexN_irr : ∀ a : List Nat, ¬ lexN a a
  | [], h => h
  | x :: a, h => by
    rcases h with h | h
    · omega
    · exact lexN_irr a h.2
theorem lexN_tr : ∀ {a b c : List Nat}, lexN a b → lexN b c → lexN a c
  | [], _, _, h, _ => h.elim
  | _ :: _, [], _, h, _ => h.elim
  | _ :: _, _ :: _, [], _, h => h.elim
  | x :: a, y :: b, z :: c, h, g => by
    rcases h with h | ⟨h, h'⟩ <;> rcases g with g | ⟨g, g'⟩
    · exact .inl (by omega)
    · exact .inl (by omega)
    · exact .inl (by omega)
    · exact .inr ⟨by omega, lexN_tr h' g'⟩
theorem lexN_tot : ∀ {a b : List Nat}, a.length = b.length → lexN a b ∨ a = b ∨ lexN b a
  | [], [], _ => .inr (.inl rfl)
  | [], _ :: _, h => by simp at h
  | _ :: _, [], h => by simp at h
  | x :: a, y :: b, h => by
    rcases Nat.lt_trichotomy x y with q | q | q
    · exact .inl (.inl q)
    · subst q
      rcases lexN_tot (a := a) (b := b) (by simpa using h) with g | g | g
      · exact .inl (.inr ⟨rfl, g⟩)
      · exact .inr (.inl (by rw [g]))
      · exact .inr (.inr (.inr ⟨rfl, g⟩))
    · exact .inr (.inr (.inl q))
theorem lexN_snoc : ∀ {a b : List Nat} (x y : Nat), a.length = b.length → lexN a b → lexN (a ++ [x]) (b ++ [y])
  | [], _, _, _, _, h => h.elim
  | _ :: _, [], _, _, _, h => h.elim
  | u :: a, v :: b, x, y, e, h => by
    rcases h with h | ⟨h, h'⟩
    · exact .inl h
    · exact .inr ⟨h, lexN_snoc x y (by simpa using e) h'⟩
theorem lexN_last : ∀ (a : List Nat) {x y : Nat}, x < y → lexN (a ++ [x]) (a ++ [y])
  | [], _, _, h => .inl h
  | _ :: a, _, _, h => .inr ⟨rfl, lexN_last a h⟩
theorem sl_irr (a : List Nat) : ¬ sl a a := fun h => by
  rcases h with h | h
  · omega
  · exact lexN_irr a h.2
theorem sl_tr {a b c : List Nat} (h : sl a b) (g : sl b c) : sl a c := by
  rcases h with h | ⟨h, h'⟩ <;> rcases g with g | ⟨g, g'⟩
  · exact .inl (by omega)
  · exact .inl (by omega)
  · exact .inl (by omega)
  · exact .inr ⟨by omega, lexN_tr h' g'⟩
theorem sl_tot (a b : List Nat) : sl a b ∨ a = b ∨ sl b a := by
  rcases Nat.lt_trichotomy a.length b.length with h | h | h
  · exact .inl (.inl h)
  · rcases lexN_tot h with g | g | g
    · exact .inl (.inr ⟨h, g⟩)
    · exact .inr (.inl g)
    · exact .inr (.inr (.inr ⟨h.symm, g⟩))
  · exact .inr (.inr (.inl h))
theorem sl_snoc {a b : List Nat} (x y : Nat) (h : sl a b) : sl (a ++ [x]) (b ++ [y]) := by
  rcases h with h | ⟨h, h'⟩
  · exact .inl (by simp; omega)
  · exact .inr ⟨by simp; omega, lexN_snoc x y h h'⟩
theorem sl_last (a : List Nat) {x y : Nat} (h : x < y) : sl (a ++ [x]) (a ++ [y]) := .inr ⟨by simp, lexN_last a h⟩
theorem sl_ext (a : List Nat) (x : Nat) : sl a (a ++ [x]) := .inl (by simp)
def sle (a b : List Nat) : Prop := sl a b ∨ a = b
theorem sle_tr {a b c : List Nat} (h : sle a b) (g : sle b c) : sle a c := by
  rcases h with h | h
  · rcases g with g | g
    · exact .inl (sl_tr h g)
    · exact .inl (g ▸ h)
  · exact h ▸ g
theorem sle_snoc {a b : List Nat} (x : Nat) (h : sle a b) : sle (a ++ [x]) (b ++ [x]) := by
  rcases h with h | h
  · exact .inl (sl_snoc x x h)
  · exact .inr (by rw [h])
theorem not_sl_of_sle {a b : List Nat} (h : sle a b) : ¬ sl b a := fun g => by
  rcases h with h | h
  · exact sl_irr _ (sl_tr h g)
  · exact sl_irr _ (h ▸ g)
def sp (w : List Int) : List Nat := w.map spot
theorem sp_snoc (w : List Int) (x : Int) : sp (w ++ [x]) = sp w ++ [spot x] := by simp [sp]
theorem spot_inj {x y : Int} (hx : x ≠ 0) (hy : y ≠ 0) (h : spot x = spot y) : x = y := by
  unfold spot at h
  split at h <;> split at h <;> omega
theorem sp_inj {l : Nat} : ∀ {u v : List Int}, StT l u → StT l v → sp u = sp v → u = v
  | [], [], _, _, _ => rfl
  | [], _ :: _, _, _, h => by simp [sp] at h
  | _ :: _, [], _, _, h => by simp [sp] at h
  | x :: u, y :: v, hu, hv, h => by
    simp [sp] at h
    have h1 := spot_inj (hu x List.mem_cons_self).1 (hv y List.mem_cons_self).1 h.1
    have h2 := sp_inj (u := u) (v := v) (fun z hz => hu z (List.mem_cons_of_mem _ hz)) (fun z hz => hv z (List.mem_cons_of_mem _ hz)) (by simpa [sp] using h.2)
    rw [h1, h2]
/-- the least ways of a table -/
structure LW (n l : Nat) (tab : List (List Nat)) (ws : List (List Int)) : Prop where
  len : ws.length = n
  ok : ∀ (r : Nat) (u : List Int), ws[r]? = some u → lead tab 0 u = r ∧ StT l u ∧ u.length ≤ n
  mn : ∀ (r : Nat) (u v : List Int), ws[r]? = some u → StT l v → lead tab 0 v = r → sle (sp u) (sp v)
theorem LW.uniq {n l : Nat} {tab : List (List Nat)} {ws us : List (List Int)} (h : LW n l tab ws) (g : LW n l tab us) : ws = us := by
  refine List.ext_getElem (by rw [h.len, g.len]) fun r h1 h2 => ?_
  have e1 := List.getElem?_eq_getElem h1
  have e2 := List.getElem?_eq_getElem h2
  obtain ⟨a1, a2, a3⟩ := h.ok r _ e1
  obtain ⟨b1, b2, b3⟩ := g.ok r _ e2
  have c1 := h.mn r _ _ e1 b2 b1
  have c2 := g.mn r _ _ e2 a2 a1
  refine sp_inj a2 b2 ?_
  rcases c1 with c | c
  · exact absurd c (not_sl_of_sle c2)
  · exact c
/-- L is in order, and before (u, k) -/
structure Bf (L : Wy) (u : List Nat) (k : Nat) : Prop where
  bf : ∀ q ∈ L, sl (sp q.2) (u ++ [k])
  srt : ∀ (i j : Nat) (p q : Nat × List Int), i < j → L[i]? = some p → L[j]? = some q → sl (sp p.2) (sp q.2)
theorem Bf.push {L : Wy} {u : List Int} {k r : Nat} (h : Bf L (sp u) k) : Bf (L ++ [(r, u ++ [stp k])]) (sp u) (k + 1) where
  bf := fun q hq => by
    rcases List.mem_append.mp hq with g | g
    · exact sl_tr (h.bf q g) (sl_last _ (by omega))
    · simp at g
      subst g
      rw [sp_snoc, stp_spot]
      exact sl_last _ (by omega)
  srt := fun i j p q hij hi hj => by
    have hjl := (List.getElem?_eq_some_iff.mp hj).1
    simp at hjl
    rw [List.getElem?_append_left (by omega)] at hi
    by_cases e : j < L.length
    · rw [List.getElem?_append_left e] at hj
      exact h.srt i j p q hij hi hj
    · rw [List.getElem?_append_right (by omega), show j - L.length = 0 by omega] at hj
      cases hj
      rw [sp_snoc, stp_spot]
      exact h.bf p (List.mem_of_getElem? hi)
theorem Bf.step {L : Wy} {u : List Nat} {k : Nat} (h : Bf L u k) : Bf L u (k + 1) := ⟨fun q hq => sl_tr (h.bf q hq) (sl_last _ (by omega)), h.srt⟩
theorem Bf.next {L : Wy} {u v : List Nat} {k : Nat} (h : Bf L u k) (hv : sl u v) : Bf L v 0 := ⟨fun q hq => sl_tr (h.bf q hq) (sl_snoc _ _ hv), h.srt⟩
/-- come to, and not behind (u, k) -/
def Nb (L : Wy) (r : Nat) (u : List Nat) (k : Nat) : Prop := ∃ q ∈ L, q.1 = r ∧ sle (sp q.2) (u ++ [k])
def T_least_ways : DSp W_ := fun ds w P => ∃ (n l : Nat) (tab : List (List Nat)), ds = [.lst (tab.map nL)] ∧ GT n l tab ∧ ∀ ws : List (List Int), LW n l tab ws → P true (lwD ws) w
theorem len_least_ways (ds : List D) (w : W_.Om) (P : Bool → D → W_.Om → Prop) (h : T_least_ways ds w P) : ds.length = 1 := by first | (have h := h.1; subst h; rfl) | (obtain ⟨rfl, _⟩ := h; rfl) | (obtain ⟨_, rfl, _⟩ := h; rfl) | (obtain ⟨_, _, rfl, _⟩ := h; rfl) | (obtain ⟨_, _, _, rfl, _⟩ := h; rfl) | (obtain ⟨_, _, _, _, rfl, _⟩ := h; rfl) | (obtain ⟨_, _, _, _, _, rfl, _⟩ := h; rfl) | (obtain ⟨_, _, _, _, _, _, rfl, _⟩ := h; rfl) | (obtain ⟨_, _, _, _, _, _, _, rfl, _⟩ := h; rfl) | (obtain ⟨_, _, _, _, _, _, _, _, rfl, _⟩ := h; rfl) | (obtain ⟨_, _, _, _, _, _, _, _, _, rfl, _⟩ := h; rfl) | (obtain ⟨_, _, _, _, _, _, _, _, _, _, rfl, _⟩ := h; rfl) | (obtain ⟨_, _, _, _, _, _, _, _, _, _, _, rfl, _⟩ := h; rfl)
def b_least_ways : DS W_ := (dSeq (dSet false 1 (dCall T_steps_of (dCons (dBin sFdiv (oX (dLenW (oX (dIxW (dVarR 0) (oX (dC (.int 0))))))) (oX (dC (.int 2)))) dNil)))
    (dSeq (dSet true 2 (dDisp1 (oX (dC (.int 0))) (dTup dNil)))
    (dSeq (dSet true 3 (dLst (dCons (dC (.int 0)) dNil)))
    (dSeq (dSet false 4 (dC (.int 0)))
    (dSeq (dWhile (dB (dBin sLt (dVarR 4) (oX (dLenW (dVarR 3))))) (dSeq (dSet false 5 (dIxW (dVarR 3) (dVarR 4)))
    (dSeq (dFor (dZip (dCons (dVar 1) (dCons (dIxW (dVarR 0) (dVarR 5)) dNil))) (gT 2 (gsC (gN 6) (gsC (gN 7) gsN))) (dIf (dB (dBin (sIn true) (dVarR 7) (dVarR 2))) (dSeq (dPut 2 (dVarR 7) (dBin sAdd (oX (dIxW (dVarR 2) (dVarR 5))) (oX (dTup (dCons (dVar 6) dNil)))))
    (dApp 3 (dVar 7))) dNext))
    (dAug 4 sAddI (oX (dC (.int 1)))))))
    (dRet (dLc (dRng1 (oX (dLenW (dVarR 0)))) (gN 5) dYes (dIxW (dVarR 2) (dVarR 5)) [5])))))))
theorem v_least_ways (ds : List D) (w : W_.Om) (P : Bool → D → W_.Om → Prop) (h : T_least_ways ds w P) : b_least_ways { nx := fun _ w => P false .non w, rt := P } (startD ["table", "steps", "ways", "come", "at", "room", "step", "other"] ds) w := by
  unfold b_least_ways
  obtain ⟨n, l, tab, rfl, g, q⟩ := h
  have hs := sizeLine_eq
  have hlb := g.lb
  have hnb := g.nb
  obtain ⟨r0, hr0, _, hr0l, _⟩ := g.get (i := 0) (by have := g.n1; omega)
  refine seq_i ?_
  try simp -implicitDefEqProofs only [dNext, dSet, dLst, dTup, dNil, dCons, dConsO, dFor, dRng1_u, dRng2_u, dIt_u, oX, dC, dBin, dUn, dVarR, dVar, dApp, dExt, dUpd0, dPut, dAug, dRet, dRetV, dRetN, dBreak, dCont, dIf, dB_u, dTru_u, dTNot, dTAnd, dTOr, dAndV_u, dOrV_u, dNotV_u, dIfX, dChain_u, dCall, dCallB, dSl, dNoP, dP_u, dLc, dDrop, dFrz, frzD, dAsg, dDicK, dDicT, gN, gT, gsC, gsN, kB.eq_1, kT.eq_1, kT.eq_2, kT.eq_3, kT.eq_4, kT.eq_5, kT.eq_6, kT.eq_7, kT.eq_8, kAnd.eq_1, kOr.eq_1, kNot.eq_1, kIt.eq_1, kIt.eq_2, kIt.eq_3, kIt.eq_4, kP.eq_1, kR1.eq_1, kR2.eq_1, sAdd.eq_1, sAdd.eq_2, sAdd.eq_3, sAdd.eq_4, sJ2.eq_1, sI2.eq_1, sPow, sLt.eq_1, sLt.eq_2, sLe, sGt, sGe, sMul.eq_1, sMul.eq_2, sMulB.eq_1, sMulB.eq_2, sMulB.eq_3, sLR1.eq_1, sLR2.eq_1, sTR1.eq_1, sTR2.eq_1, sIsBl.eq_1, dZip, kZip.eq_1, dDisp1, dIxW, dLenW, dName, dAppW, dPutW, dMelt, dCallBE, kIxW.eq_1, kLenW.eq_1, dLcW, kIxW_lst, kIxW_tup, kIxW_scr, kIxW_str, kIxW_dK, kIxW_dT, kLenW_lst, kLenW_tup, kLenW_scr, kLenW_str, kNm_f, kNm_t, kName, isL.eq_1, isL.eq_2, sNeg.eq_1, sLen.eq_1, sLen.eq_2, sLen.eq_3, sLen.eq_4, sLen.eq_5, sAbs.eq_1, sMax, sMin, sInt.eq_1, sInt.eq_2, sStr.eq_1, sList.eq_1, sList.eq_2, sList.eq_3, sTuple.eq_1, sTuple.eq_2, sTuple.eq_3, sIsN, sNotN, sIx.eq_1, sIx.eq_2, sIx.eq_3, sIx.eq_4, sIx.eq_5, sIx.eq_6, sIx.eq_7, sSl.eq_1, sSl.eq_2, sSl.eq_3, sSl.eq_4, sRev.eq_1, sRev.eq_2, sRev.eq_3, sAddI.eq_1, sAddI.eq_2, sPut.eq_1, sPut.eq_2, sPut.eq_3, sPut.eq_4, D.isNon, sEq_ii, sNe_ii, sEq_ww, sNe_ww, sEq_ll, sNe_ll, sIsi_ii, sIsi_ib, sIsi_ll, sIsi_tt, sIsi_ss, sEq_w, sEq_i, sEq_lw, sEq_lw', sEq_lle, sEq_lle', sNe_w, sNe_i, sNe_lle', sNe_lw', sEq_ss, sNe_ss, sEq_bb, sNe_bb, sIn_iw, sIn_ii, sIn_wl, sIn_wl', sSl3.eq_1, sSl3.eq_2, dSl3, isS.eq_1, isL.eq_1, isL.eq_2, isA.eq_1, dM0, dM1, sUpper.eq_1, sLower.eq_1, sStrip1.eq_1, sSfind.eq_1, sScount.eq_1, sSindex.eq_1, sSsplit.eq_1, sSjoin.eq_1, sSjoin.eq_2, fPop_snoc, fPop_snoc', startD, wipeD, List.map_cons, List.map_nil, List.length_cons, List.length_nil, List.length_map, List.cons_append, List.nil_append, List.replicate, List.set_cons_zero, List.set_cons_succ, List.set_nil, List.getElem?_cons_zero, List.getElem?_cons_succ, Bool.true_and, Bool.and_true, Bool.and_false, Bool.false_and, Bool.not_true, Bool.not_false, if_true, if_false, Bool.false_eq_true, reduceIte, and_true, true_and, decide_true, decide_false, not_true, Nat.zero_le, Nat.zero_add, Nat.reduceAdd, Nat.reduceSub, D.scal, Option.some.injEq, exists_eq_left', exists_eq_left, exists_eq', D.int.injEq, D.lst.injEq, D.tup.injEq, D.scr.injEq, D.str.injEq, List.cons.injEq, and_self]
  refine ⟨_, atI_f nL (k := 0) (by omega) hr0, ?_⟩
  try simp -implicitDefEqProofs only [nL, dNext, dSet, dLst, dTup, dNil, dCons, dConsO, dFor, dRng1_u, dRng2_u, dIt_u, oX, dC, dBin, dUn, dVarR, dVar, dApp, dExt, dUpd0, dPut, dAug, dRet, dRetV, dRetN, dBreak, dCont, dIf, dB_u, dTru_u, dTNot, dTAnd, dTOr, dAndV_u, dOrV_u, dNotV_u, dIfX, dChain_u, dCall, dCallB, dSl, dNoP, dP_u, dLc, dDrop, dFrz, frzD, dAsg, dDicK, dDicT, gN, gT, gsC, gsN, kB.eq_1, kT.eq_1, kT.eq_2, kT.eq_3, kT.eq_4, kT.eq_5, kT.eq_6, kT.eq_7, kT.eq_8, kAnd.eq_1, kOr.eq_1, kNot.eq_1, kIt.eq_1, kIt.eq_2, kIt.eq_3, kIt.eq_4, kP.eq_1, kR1.eq_1, kR2.eq_1, sAdd.eq_1, sAdd.eq_2, sAdd.eq_3, sAdd.eq_4, sJ2.eq_1, sI2.eq_1, sPow, sLt.eq_1, sLt.eq_2, sLe, sGt, sGe, sMul.eq_1, sMul.eq_2, sMulB.eq_1, sMulB.eq_2, sMulB.eq_3, sLR1.eq_1, sLR2.eq_1, sTR1.eq_1, sTR2.eq_1, sIsBl.eq_1, dZip, kZip.eq_1, dDisp1, dIxW, dLenW, dName, dAppW, dPutW, dMelt, dCallBE, kIxW.eq_1, kLenW.eq_1, dLcW, kIxW_lst, kIxW_tup, kIxW_scr, kIxW_str, kIxW_dK, kIxW_dT, kLenW_lst, kLenW_tup, kLenW_scr, kLenW_str, kNm_f, kNm_t, kName, isL.eq_1, isL.eq_2, sNeg.eq_1, sLen.eq_1, sLen.eq_2, sLen.eq_3, sLen.eq_4, sLen.eq_5, sAbs.eq_1, sMax, sMin, sInt.eq_1, sInt.eq_2, sStr.eq_1, sList.eq_1, sList.eq_2, sList.eq_3, sTuple.eq_1, sTuple.eq_2, sTuple.eq_3, sIsN, sNotN, sIx.eq_1, sIx.eq_2, sIx.eq_3, sIx.eq_4, sIx.eq_5, sIx.eq_6, sIx.eq_7, sSl.eq_1, sSl.eq_2, sSl.eq_3, sSl.eq_4, sRev.eq_1, sRev.eq_2, sRev.eq_3, sAddI.eq_1, sAddI.eq_2, sPut.eq_1, sPut.eq_2, sPut.eq_3, sPut.eq_4, D.isNon, sEq_ii, sNe_ii, sEq_ww, sNe_ww, sEq_ll, sNe_ll, sIsi_ii, sIsi_ib, sIsi_ll, sIsi_tt, sIsi_ss, sEq_w, sEq_i, sEq_lw, sEq_lw', sEq_lle, sEq_lle', sNe_w, sNe_i, sNe_lle', sNe_lw', sEq_ss, sNe_ss, sEq_bb, sNe_bb, sIn_iw, sIn_ii, sIn_wl, sIn_wl', sSl3.eq_1, sSl3.eq_2, dSl3, isS.eq_1, isL.eq_1, isL.eq_2, isA.eq_1, dM0, dM1, sUpper.eq_1, sLower.eq_1, sStrip1.eq_1, sSfind.eq_1, sScount.eq_1, sSindex.eq_1, sSsplit.eq_1, sSjoin.eq_1, sSjoin.eq_2, fPop_snoc, fPop_snoc', startD, wipeD, List.map_cons, List.map_nil, List.length_cons, List.length_nil, List.length_map, List.cons_append, List.nil_append, List.replicate, List.set_cons_zero, List.set_cons_succ, List.set_nil, List.getElem?_cons_zero, List.getElem?_cons_succ, Bool.true_and, Bool.and_true, Bool.and_false, Bool.false_and, Bool.not_true, Bool.not_false, if_true, if_false, Bool.false_eq_true, reduceIte, and_true, true_and, decide_true, decide_false, not_true, Nat.zero_le, Nat.zero_add, Nat.reduceAdd, Nat.reduceSub, D.scal, Option.some.injEq, exists_eq_left', exists_eq_left, exists_eq', D.int.injEq, D.lst.injEq, D.tup.injEq, D.scr.injEq, D.str.injEq, List.cons.injEq, and_self]
  have hdiv : ((r0.length : Nat) : Int) / 2 = (l : Int) := by omega
  rw [hdiv]
  refine ⟨divC (by omega) (by omega), l, rfl, hlb, ?_⟩
  refine seq_i ?_
  try simp -implicitDefEqProofs only [keyOf, dNext, dSet, dLst, dTup, dNil, dCons, dConsO, dFor, dRng1_u, dRng2_u, dIt_u, oX, dC, dBin, dUn, dVarR, dVar, dApp, dExt, dUpd0, dPut, dAug, dRet, dRetV, dRetN, dBreak, dCont, dIf, dB_u, dTru_u, dTNot, dTAnd, dTOr, dAndV_u, dOrV_u, dNotV_u, dIfX, dChain_u, dCall, dCallB, dSl, dNoP, dP_u, dLc, dDrop, dFrz, frzD, dAsg, dDicK, dDicT, gN, gT, gsC, gsN, kB.eq_1, kT.eq_1, kT.eq_2, kT.eq_3, kT.eq_4, kT.eq_5, kT.eq_6, kT.eq_7, kT.eq_8, kAnd.eq_1, kOr.eq_1, kNot.eq_1, kIt.eq_1, kIt.eq_2, kIt.eq_3, kIt.eq_4, kP.eq_1, kR1.eq_1, kR2.eq_1, sAdd.eq_1, sAdd.eq_2, sAdd.eq_3, sAdd.eq_4, sJ2.eq_1, sI2.eq_1, sPow, sLt.eq_1, sLt.eq_2, sLe, sGt, sGe, sMul.eq_1, sMul.eq_2, sMulB.eq_1, sMulB.eq_2, sMulB.eq_3, sLR1.eq_1, sLR2.eq_1, sTR1.eq_1, sTR2.eq_1, sIsBl.eq_1, dZip, kZip.eq_1, dDisp1, dIxW, dLenW, dName, dAppW, dPutW, dMelt, dCallBE, kIxW.eq_1, kLenW.eq_1, dLcW, kIxW_lst, kIxW_tup, kIxW_scr, kIxW_str, kIxW_dK, kIxW_dT, kLenW_lst, kLenW_tup, kLenW_scr, kLenW_str, kNm_f, kNm_t, kName, isL.eq_1, isL.eq_2, sNeg.eq_1, sLen.eq_1, sLen.eq_2, sLen.eq_3, sLen.eq_4, sLen.eq_5, sAbs.eq_1, sMax, sMin, sInt.eq_1, sInt.eq_2, sStr.eq_1, sList.eq_1, sList.eq_2, sList.eq_3, sTuple.eq_1, sTuple.eq_2, sTuple.eq_3, sIsN, sNotN, sIx.eq_1, sIx.eq_2, sIx.eq_3, sIx.eq_4, sIx.eq_5, sIx.eq_6, sIx.eq_7, sSl.eq_1, sSl.eq_2, sSl.eq_3, sSl.eq_4, sRev.eq_1, sRev.eq_2, sRev.eq_3, sAddI.eq_1, sAddI.eq_2, sPut.eq_1, sPut.eq_2, sPut.eq_3, sPut.eq_4, D.isNon, sEq_ii, sNe_ii, sEq_ww, sNe_ww, sEq_ll, sNe_ll, sIsi_ii, sIsi_ib, sIsi_ll, sIsi_tt, sIsi_ss, sEq_w, sEq_i, sEq_lw, sEq_lw', sEq_lle, sEq_lle', sNe_w, sNe_i, sNe_lle', sNe_lw', sEq_ss, sNe_ss, sEq_bb, sNe_bb, sIn_iw, sIn_ii, sIn_wl, sIn_wl', sSl3.eq_1, sSl3.eq_2, dSl3, isS.eq_1, isL.eq_1, isL.eq_2, isA.eq_1, dM0, dM1, sUpper.eq_1, sLower.eq_1, sStrip1.eq_1, sSfind.eq_1, sScount.eq_1, sSindex.eq_1, sSsplit.eq_1, sSjoin.eq_1, sSjoin.eq_2, fPop_snoc, fPop_snoc', startD, wipeD, List.map_cons, List.map_nil, List.length_cons, List.length_nil, List.length_map, List.cons_append, List.nil_append, List.replicate, List.set_cons_zero, List.set_cons_succ, List.set_nil, List.getElem?_cons_zero, List.getElem?_cons_succ, Bool.true_and, Bool.and_true, Bool.and_false, Bool.false_and, Bool.not_true, Bool.not_false, if_true, if_false, Bool.false_eq_true, reduceIte, and_true, true_and, decide_true, decide_false, not_true, Nat.zero_le, Nat.zero_add, Nat.reduceAdd, Nat.reduceSub, D.scal, Option.some.injEq, exists_eq_left', exists_eq_left, exists_eq', D.int.injEq, D.lst.injEq, D.tup.injEq, D.scr.injEq, D.str.injEq, List.cons.injEq, and_self]
  refine seq_i ?_
  try simp -implicitDefEqProofs only [dNext, dSet, dLst, dTup, dNil, dCons, dConsO, dFor, dRng1_u, dRng2_u, dIt_u, oX, dC, dBin, dUn, dVarR, dVar, dApp, dExt, dUpd0, dPut, dAug, dRet, dRetV, dRetN, dBreak, dCont, dIf, dB_u, dTru_u, dTNot, dTAnd, dTOr, dAndV_u, dOrV_u, dNotV_u, dIfX, dChain_u, dCall, dCallB, dSl, dNoP, dP_u, dLc, dDrop, dFrz, frzD, dAsg, dDicK, dDicT, gN, gT, gsC, gsN, kB.eq_1, kT.eq_1, kT.eq_2, kT.eq_3, kT.eq_4, kT.eq_5, kT.eq_6, kT.eq_7, kT.eq_8, kAnd.eq_1, kOr.eq_1, kNot.eq_1, kIt.eq_1, kIt.eq_2, kIt.eq_3, kIt.eq_4, kP.eq_1, kR1.eq_1, kR2.eq_1, sAdd.eq_1, sAdd.eq_2, sAdd.eq_3, sAdd.eq_4, sJ2.eq_1, sI2.eq_1, sPow, sLt.eq_1, sLt.eq_2, sLe, sGt, sGe, sMul.eq_1, sMul.eq_2, sMulB.eq_1, sMulB.eq_2, sMulB.eq_3, sLR1.eq_1, sLR2.eq_1, sTR1.eq_1, sTR2.eq_1, sIsBl.eq_1, dZip, kZip.eq_1, dDisp1, dIxW, dLenW, dName, dAppW, dPutW, dMelt, dCallBE, kIxW.eq_1, kLenW.eq_1, dLcW, kIxW_lst, kIxW_tup, kIxW_scr, kIxW_str, kIxW_dK, kIxW_dT, kLenW_lst, kLenW_tup, kLenW_scr, kLenW_str, kNm_f, kNm_t, kName, isL.eq_1, isL.eq_2, sNeg.eq_1, sLen.eq_1, sLen.eq_2, sLen.eq_3, sLen.eq_4, sLen.eq_5, sAbs.eq_1, sMax, sMin, sInt.eq_1, sInt.eq_2, sStr.eq_1, sList.eq_1, sList.eq_2, sList.eq_3, sTuple.eq_1, sTuple.eq_2, sTuple.eq_3, sIsN, sNotN, sIx.eq_1, sIx.eq_2, sIx.eq_3, sIx.eq_4, sIx.eq_5, sIx.eq_6, sIx.eq_7, sSl.eq_1, sSl.eq_2, sSl.eq_3, sSl.eq_4, sRev.eq_1, sRev.eq_2, sRev.eq_3, sAddI.eq_1, sAddI.eq_2, sPut.eq_1, sPut.eq_2, sPut.eq_3, sPut.eq_4, D.isNon, sEq_ii, sNe_ii, sEq_ww, sNe_ww, sEq_ll, sNe_ll, sIsi_ii, sIsi_ib, sIsi_ll, sIsi_tt, sIsi_ss, sEq_w, sEq_i, sEq_lw, sEq_lw', sEq_lle, sEq_lle', sNe_w, sNe_i, sNe_lle', sNe_lw', sEq_ss, sNe_ss, sEq_bb, sNe_bb, sIn_iw, sIn_ii, sIn_wl, sIn_wl', sSl3.eq_1, sSl3.eq_2, dSl3, isS.eq_1, isL.eq_1, isL.eq_2, isA.eq_1, dM0, dM1, sUpper.eq_1, sLower.eq_1, sStrip1.eq_1, sSfind.eq_1, sScount.eq_1, sSindex.eq_1, sSsplit.eq_1, sSjoin.eq_1, sSjoin.eq_2, fPop_snoc, fPop_snoc', startD, wipeD, List.map_cons, List.map_nil, List.length_cons, List.length_nil, List.length_map, List.cons_append, List.nil_append, List.replicate, List.set_cons_zero, List.set_cons_succ, List.set_nil, List.getElem?_cons_zero, List.getElem?_cons_succ, Bool.true_and, Bool.and_true, Bool.and_false, Bool.false_and, Bool.not_true, Bool.not_false, if_true, if_false, Bool.false_eq_true, reduceIte, and_true, true_and, decide_true, decide_false, not_true, Nat.zero_le, Nat.zero_add, Nat.reduceAdd, Nat.reduceSub, D.scal]
  refine ⟨by omega, ?_⟩
  refine seq_i ?_
  try simp -implicitDefEqProofs only [dNext, dSet, dLst, dTup, dNil, dCons, dConsO, dFor, dRng1_u, dRng2_u, dIt_u, oX, dC, dBin, dUn, dVarR, dVar, dApp, dExt, dUpd0, dPut, dAug, dRet, dRetV, dRetN, dBreak, dCont, dIf, dB_u, dTru_u, dTNot, dTAnd, dTOr, dAndV_u, dOrV_u, dNotV_u, dIfX, dChain_u, dCall, dCallB, dSl, dNoP, dP_u, dLc, dDrop, dFrz, frzD, dAsg, dDicK, dDicT, gN, gT, gsC, gsN, kB.eq_1, kT.eq_1, kT.eq_2, kT.eq_3, kT.eq_4, kT.eq_5, kT.eq_6, kT.eq_7, kT.eq_8, kAnd.eq_1, kOr.eq_1, kNot.eq_1, kIt.eq_1, kIt.eq_2, kIt.eq_3, kIt.eq_4, kP.eq_1, kR1.eq_1, kR2.eq_1, sAdd.eq_1, sAdd.eq_2, sAdd.eq_3, sAdd.eq_4, sJ2.eq_1, sI2.eq_1, sPow, sLt.eq_1, sLt.eq_2, sLe, sGt, sGe, sMul.eq_1, sMul.eq_2, sMulB.eq_1, sMulB.eq_2, sMulB.eq_3, sLR1.eq_1, sLR2.eq_1, sTR1.eq_1, sTR2.eq_1, sIsBl.eq_1, dZip, kZip.eq_1, dDisp1, dIxW, dLenW, dName, dAppW, dPutW, dMelt, dCallBE, kIxW.eq_1, kLenW.eq_1, dLcW, kIxW_lst, kIxW_tup, kIxW_scr, kIxW_str, kIxW_dK, kIxW_dT, kLenW_lst, kLenW_tup, kLenW_scr, kLenW_str, kNm_f, kNm_t, kName, isL.eq_1, isL.eq_2, sNeg.eq_1, sLen.eq_1, sLen.eq_2, sLen.eq_3, sLen.eq_4, sLen.eq_5, sAbs.eq_1, sMax, sMin, sInt.eq_1, sInt.eq_2, sStr.eq_1, sList.eq_1, sList.eq_2, sList.eq_3, sTuple.eq_1, sTuple.eq_2, sTuple.eq_3, sIsN, sNotN, sIx.eq_1, sIx.eq_2, sIx.eq_3, sIx.eq_4, sIx.eq_5, sIx.eq_6, sIx.eq_7, sSl.eq_1, sSl.eq_2, sSl.eq_3, sSl.eq_4, sRev.eq_1, sRev.eq_2, sRev.eq_3, sAddI.eq_1, sAddI.eq_2, sPut.eq_1, sPut.eq_2, sPut.eq_3, sPut.eq_4, D.isNon, sEq_ii, sNe_ii, sEq_ww, sNe_ww, sEq_ll, sNe_ll, sIsi_ii, sIsi_ib, sIsi_ll, sIsi_tt, sIsi_ss, sEq_w, sEq_i, sEq_lw, sEq_lw', sEq_lle, sEq_lle', sNe_w, sNe_i, sNe_lle', sNe_lw', sEq_ss, sNe_ss, sEq_bb, sNe_bb, sIn_iw, sIn_ii, sIn_wl, sIn_wl', sSl3.eq_1, sSl3.eq_2, dSl3, isS.eq_1, isL.eq_1, isL.eq_2, isA.eq_1, dM0, dM1, sUpper.eq_1, sLower.eq_1, sStrip1.eq_1, sSfind.eq_1, sScount.eq_1, sSindex.eq_1, sSsplit.eq_1, sSjoin.eq_1, sSjoin.eq_2, fPop_snoc, fPop_snoc', startD, wipeD, List.map_cons, List.map_nil, List.length_cons, List.length_nil, List.length_map, List.cons_append, List.nil_append, List.replicate, List.set_cons_zero, List.set_cons_succ, List.set_nil, List.getElem?_cons_zero, List.getElem?_cons_succ, Bool.true_and, Bool.and_true, Bool.and_false, Bool.false_and, Bool.not_true, Bool.not_false, if_true, if_false, Bool.false_eq_true, reduceIte, and_true, true_and, decide_true, decide_false, not_true, Nat.zero_le, Nat.zero_add, Nat.reduceAdd, Nat.reduceSub, D.scal]
  refine seq_cut (fun δ w' => w' = w ∧ ∃ L : Wy, WyOk n l tab L ∧ (∀ q ∈ L, ∀ k, k < 2 * l → Nb L (ap ((tab[q.1]?).getD []) k) (sp q.2) k) ∧ ∃ j3 j4 j5 j6 j7, δ = [some (false, .lst (tab.map nL)), some (false, iD (stepsL l)), some (true, wyD L), j3, j4, j5, j6, j7]) (fun N h => ?_) ?_
  · refine while_go (α := Nat) (fun a δ w' => w' = w ∧ ∃ L : Wy, WyOk n l tab L ∧ a ≤ L.length ∧ (∀ i q, i < a → L[i]? = some q → ∀ k, k < 2 * l → Nb L (ap ((tab[q.1]?).getD []) k) (sp q.2) k) ∧ ((∀ q, L[a]? = some q → Bf L (sp q.2) 0) ∧ ∀ (i j : Nat) (p q : Nat × List Int), i < j → L[i]? = some p → L[j]? = some q → sl (sp p.2) (sp q.2)) ∧ ∃ j5 j6 j7, δ = [some (false, .lst (tab.map nL)), some (false, iD (stepsL l)), some (true, wyD L), some (true, nL (L.map (·.1))), some (false, .int a), j5, j6, j7]) (fun a => n - a) ?_ 0 ⟨rfl, [(0, [])], ⟨by simp, rfl, fun q hq => by simp at hq; subst hq; exact ⟨by have := g.n1; omega, rfl, (fun x hx => nomatch hx), by simp⟩⟩, by simp, fun i q hi => by omega, ⟨fun q hq => ?_, fun i j p q hij hi hj => ?_⟩, none, none, none, rfl⟩
    rotate_left
    · cases hq
      refine ⟨fun q hq => ?_, fun i j p q hij hi hj => ?_⟩
      · simp at hq; subst hq; exact .inl (by simp [sp])
      · have := (List.getElem?_eq_some_iff.mp hj).1
        simp at this
        omega
    · have := (List.getElem?_eq_some_iff.mp hj).1
      simp at this
      omega
    rintro a δ w' ⟨rfl, L, ok, ha, hcl, ⟨hbf, hsr⟩, j5, j6, j7, rfl⟩ N2 hN2
    have hln := ok.len
    try simp -implicitDefEqProofs only [nL, dNext, dSet, dLst, dTup, dNil, dCons, dConsO, dFor, dRng1_u, dRng2_u, dIt_u, oX, dC, dBin, dUn, dVarR, dVar, dApp, dExt, dUpd0, dPut, dAug, dRet, dRetV, dRetN, dBreak, dCont, dIf, dB_u, dTru_u, dTNot, dTAnd, dTOr, dAndV_u, dOrV_u, dNotV_u, dIfX, dChain_u, dCall, dCallB, dSl, dNoP, dP_u, dLc, dDrop, dFrz, frzD, dAsg, dDicK, dDicT, gN, gT, gsC, gsN, kB.eq_1, kT.eq_1, kT.eq_2, kT.eq_3, kT.eq_4, kT.eq_5, kT.eq_6, kT.eq_7, kT.eq_8, kAnd.eq_1, kOr.eq_1, kNot.eq_1, kIt.eq_1, kIt.eq_2, kIt.eq_3, kIt.eq_4, kP.eq_1, kR1.eq_1, kR2.eq_1, sAdd.eq_1, sAdd.eq_2, sAdd.eq_3, sAdd.eq_4, sJ2.eq_1, sI2.eq_1, sPow, sLt.eq_1, sLt.eq_2, sLe, sGt, sGe, sMul.eq_1, sMul.eq_2, sMulB.eq_1, sMulB.eq_2, sMulB.eq_3, sLR1.eq_1, sLR2.eq_1, sTR1.eq_1, sTR2.eq_1, sIsBl.eq_1, dZip, kZip.eq_1, dDisp1, dIxW, dLenW, dName, dAppW, dPutW, dMelt, dCallBE, kIxW.eq_1, kLenW.eq_1, dLcW, kIxW_lst, kIxW_tup, kIxW_scr, kIxW_str, kIxW_dK, kIxW_dT, kLenW_lst, kLenW_tup, kLenW_scr, kLenW_str, kNm_f, kNm_t, kName, isL.eq_1, isL.eq_2, sNeg.eq_1, sLen.eq_1, sLen.eq_2, sLen.eq_3, sLen.eq_4, sLen.eq_5, sAbs.eq_1, sMax, sMin, sInt.eq_1, sInt.eq_2, sStr.eq_1, sList.eq_1, sList.eq_2, sList.eq_3, sTuple.eq_1, sTuple.eq_2, sTuple.eq_3, sIsN, sNotN, sIx.eq_1, sIx.eq_2, sIx.eq_3, sIx.eq_4, sIx.eq_5, sIx.eq_6, sIx.eq_7, sSl.eq_1, sSl.eq_2, sSl.eq_3, sSl.eq_4, sRev.eq_1, sRev.eq_2, sRev.eq_3, sAddI.eq_1, sAddI.eq_2, sPut.eq_1, sPut.eq_2, sPut.eq_3, sPut.eq_4, D.isNon, sEq_ii, sNe_ii, sEq_ww, sNe_ww, sEq_ll, sNe_ll, sIsi_ii, sIsi_ib, sIsi_ll, sIsi_tt, sIsi_ss, sEq_w, sEq_i, sEq_lw, sEq_lw', sEq_lle, sEq_lle', sNe_w, sNe_i, sNe_lle', sNe_lw', sEq_ss, sNe_ss, sEq_bb, sNe_bb, sIn_iw, sIn_ii, sIn_wl, sIn_wl', sSl3.eq_1, sSl3.eq_2, dSl3, isS.eq_1, isL.eq_1, isL.eq_2, isA.eq_1, dM0, dM1, sUpper.eq_1, sLower.eq_1, sStrip1.eq_1, sSfind.eq_1, sScount.eq_1, sSindex.eq_1, sSsplit.eq_1, sSjoin.eq_1, sSjoin.eq_2, fPop_snoc, fPop_snoc', startD, wipeD, List.map_cons, List.map_nil, List.length_cons, List.length_nil, List.length_map, List.cons_append, List.nil_append, List.replicate, List.set_cons_zero, List.set_cons_succ, List.set_nil, List.getElem?_cons_zero, List.getElem?_cons_succ, Bool.true_and, Bool.and_true, Bool.and_false, Bool.false_and, Bool.not_true, Bool.not_false, if_true, if_false, Bool.false_eq_true, reduceIte, and_true, true_and, decide_true, decide_false, not_true, Nat.zero_le, Nat.zero_add, Nat.reduceAdd, Nat.reduceSub, D.scal, Option.some.injEq, exists_eq_left', exists_eq_left, exists_eq', D.int.injEq, D.lst.injEq, D.tup.injEq, D.scr.injEq, D.str.injEq, List.cons.injEq, and_self]
    by_cases hlt : a < L.length
    · refine if_t (by simp; omega) ?_
      obtain ⟨⟨room, u⟩, hq⟩ : ∃ q, L[a]? = some q := ⟨L[a], List.getElem?_eq_getElem hlt⟩
      have hqm := List.mem_of_getElem? hq
      have hbf := hbf _ hq
      obtain ⟨hr1, hr2, hr3, hr4⟩ := ok.ok _ hqm
      dsimp only at hr1 hr2 hr3 hr4 hbf
      obtain ⟨row, ht, htd, hrl, hrlt⟩ := g.get hr1
      refine seq_i ?_
      try simp -implicitDefEqProofs only [dNext, dSet, dLst, dTup, dNil, dCons, dConsO, dFor, dRng1_u, dRng2_u, dIt_u, oX, dC, dBin, dUn, dVarR, dVar, dApp, dExt, dUpd0, dPut, dAug, dRet, dRetV, dRetN, dBreak, dCont, dIf, dB_u, dTru_u, dTNot, dTAnd, dTOr, dAndV_u, dOrV_u, dNotV_u, dIfX, dChain_u, dCall, dCallB, dSl, dNoP, dP_u, dLc, dDrop, dFrz, frzD, dAsg, dDicK, dDicT, gN, gT, gsC, gsN, kB.eq_1, kT.eq_1, kT.eq_2, kT.eq_3, kT.eq_4, kT.eq_5, kT.eq_6, kT.eq_7, kT.eq_8, kAnd.eq_1, kOr.eq_1, kNot.eq_1, kIt.eq_1, kIt.eq_2, kIt.eq_3, kIt.eq_4, kP.eq_1, kR1.eq_1, kR2.eq_1, sAdd.eq_1, sAdd.eq_2, sAdd.eq_3, sAdd.eq_4, sJ2.eq_1, sI2.eq_1, sPow, sLt.eq_1, sLt.eq_2, sLe, sGt, sGe, sMul.eq_1, sMul.eq_2, sMulB.eq_1, sMulB.eq_2, sMulB.eq_3, sLR1.eq_1, sLR2.eq_1, sTR1.eq_1, sTR2.eq_1, sIsBl.eq_1, dZip, kZip.eq_1, dDisp1, dIxW, dLenW, dName, dAppW, dPutW, dMelt, dCallBE, kIxW.eq_1, kLenW.eq_1, dLcW, kIxW_lst, kIxW_tup, kIxW_scr, kIxW_str, kIxW_dK, kIxW_dT, kLenW_lst, kLenW_tup, kLenW_scr, kLenW_str, kNm_f, kNm_t, kName, isL.eq_1, isL.eq_2, sNeg.eq_1, sLen.eq_1, sLen.eq_2, sLen.eq_3, sLen.eq_4, sLen.eq_5, sAbs.eq_1, sMax, sMin, sInt.eq_1, sInt.eq_2, sStr.eq_1, sList.eq_1, sList.eq_2, sList.eq_3, sTuple.eq_1, sTuple.eq_2, sTuple.eq_3, sIsN, sNotN, sIx.eq_1, sIx.eq_2, sIx.eq_3, sIx.eq_4, sIx.eq_5, sIx.eq_6, sIx.eq_7, sSl.eq_1, sSl.eq_2, sSl.eq_3, sSl.eq_4, sRev.eq_1, sRev.eq_2, sRev.eq_3, sAddI.eq_1, sAddI.eq_2, sPut.eq_1, sPut.eq_2, sPut.eq_3, sPut.eq_4, D.isNon, sEq_ii, sNe_ii, sEq_ww, sNe_ww, sEq_ll, sNe_ll, sIsi_ii, sIsi_ib, sIsi_ll, sIsi_tt, sIsi_ss, sEq_w, sEq_i, sEq_lw, sEq_lw', sEq_lle, sEq_lle', sNe_w, sNe_i, sNe_lle', sNe_lw', sEq_ss, sNe_ss, sEq_bb, sNe_bb, sIn_iw, sIn_ii, sIn_wl, sIn_wl', sSl3.eq_1, sSl3.eq_2, dSl3, isS.eq_1, isL.eq_1, isL.eq_2, isA.eq_1, dM0, dM1, sUpper.eq_1, sLower.eq_1, sStrip1.eq_1, sSfind.eq_1, sScount.eq_1, sSindex.eq_1, sSsplit.eq_1, sSjoin.eq_1, sSjoin.eq_2, fPop_snoc, fPop_snoc', startD, wipeD, List.map_cons, List.map_nil, List.length_cons, List.length_nil, List.length_map, List.cons_append, List.nil_append, List.replicate, List.set_cons_zero, List.set_cons_succ, List.set_nil, List.getElem?_cons_zero, List.getElem?_cons_succ, Bool.true_and, Bool.and_true, Bool.and_false, Bool.false_and, Bool.not_true, Bool.not_false, if_true, if_false, Bool.false_eq_true, reduceIte, and_true, true_and, decide_true, decide_false, not_true, Nat.zero_le, Nat.zero_add, Nat.reduceAdd, Nat.reduceSub, D.scal, Option.some.injEq, exists_eq_left', exists_eq_left, exists_eq', D.int.injEq, D.lst.injEq, D.tup.injEq, D.scr.injEq, D.str.injEq, List.cons.injEq, and_self]
      refine ⟨.int room, atI_f (fun n : Nat => D.int n) (by omega) (by rw [Int.toNat_natCast, List.getElem?_map, hq]; rfl), ?_⟩
      refine seq_cut (fun δ w2 => w2 = w' ∧ ∃ L2 : Wy, WyOk n l tab L2 ∧ (∃ e, L2 = L ++ e) ∧ (∀ k, k < 2 * l → Nb L2 (ap row k) (sp u) k) ∧ Bf L2 (sp u) (2 * l) ∧ ∃ j6 j7, δ = [some (false, .lst (tab.map nL)), some (false, iD (stepsL l)), some (true, wyD L2), some (true, nL (L2.map (·.1))), some (false, .int a), some (false, .int room), j6, j7]) (fun N3 h3 => ?_) ?_
      · try simp -implicitDefEqProofs only [iD, dNext, dSet, dLst, dTup, dNil, dCons, dConsO, dFor, dRng1_u, dRng2_u, dIt_u, oX, dC, dBin, dUn, dVarR, dVar, dApp, dExt, dUpd0, dPut, dAug, dRet, dRetV, dRetN, dBreak, dCont, dIf, dB_u, dTru_u, dTNot, dTAnd, dTOr, dAndV_u, dOrV_u, dNotV_u, dIfX, dChain_u, dCall, dCallB, dSl, dNoP, dP_u, dLc, dDrop, dFrz, frzD, dAsg, dDicK, dDicT, gN, gT, gsC, gsN, kB.eq_1, kT.eq_1, kT.eq_2, kT.eq_3, kT.eq_4, kT.eq_5, kT.eq_6, kT.eq_7, kT.eq_8, kAnd.eq_1, kOr.eq_1, kNot.eq_1, kIt.eq_1, kIt.eq_2, kIt.eq_3, kIt.eq_4, kP.eq_1, kR1.eq_1, kR2.eq_1, sAdd.eq_1, sAdd.eq_2, sAdd.eq_3, sAdd.eq_4, sJ2.eq_1, sI2.eq_1, sPow, sLt.eq_1, sLt.eq_2, sLe, sGt, sGe, sMul.eq_1, sMul.eq_2, sMulB.eq_1, sMulB.eq_2, sMulB.eq_3, sLR1.eq_1, sLR2.eq_1, sTR1.eq_1, sTR2.eq_1, sIsBl.eq_1, dZip, kZip.eq_1, dDisp1, dIxW, dLenW, dName, dAppW, dPutW, dMelt, dCallBE, kIxW.eq_1, kLenW.eq_1, dLcW, kIxW_lst, kIxW_tup, kIxW_scr, kIxW_str, kIxW_dK, kIxW_dT, kLenW_lst, kLenW_tup, kLenW_scr, kLenW_str, kNm_f, kNm_t, kName, isL.eq_1, isL.eq_2, sNeg.eq_1, sLen.eq_1, sLen.eq_2, sLen.eq_3, sLen.eq_4, sLen.eq_5, sAbs.eq_1, sMax, sMin, sInt.eq_1, sInt.eq_2, sStr.eq_1, sList.eq_1, sList.eq_2, sList.eq_3, sTuple.eq_1, sTuple.eq_2, sTuple.eq_3, sIsN, sNotN, sIx.eq_1, sIx.eq_2, sIx.eq_3, sIx.eq_4, sIx.eq_5, sIx.eq_6, sIx.eq_7, sSl.eq_1, sSl.eq_2, sSl.eq_3, sSl.eq_4, sRev.eq_1, sRev.eq_2, sRev.eq_3, sAddI.eq_1, sAddI.eq_2, sPut.eq_1, sPut.eq_2, sPut.eq_3, sPut.eq_4, D.isNon, sEq_ii, sNe_ii, sEq_ww, sNe_ww, sEq_ll, sNe_ll, sIsi_ii, sIsi_ib, sIsi_ll, sIsi_tt, sIsi_ss, sEq_w, sEq_i, sEq_lw, sEq_lw', sEq_lle, sEq_lle', sNe_w, sNe_i, sNe_lle', sNe_lw', sEq_ss, sNe_ss, sEq_bb, sNe_bb, sIn_iw, sIn_ii, sIn_wl, sIn_wl', sSl3.eq_1, sSl3.eq_2, dSl3, isS.eq_1, isL.eq_1, isL.eq_2, isA.eq_1, dM0, dM1, sUpper.eq_1, sLower.eq_1, sStrip1.eq_1, sSfind.eq_1, sScount.eq_1, sSindex.eq_1, sSsplit.eq_1, sSjoin.eq_1, sSjoin.eq_2, fPop_snoc, fPop_snoc', startD, wipeD, List.map_cons, List.map_nil, List.length_cons, List.length_nil, List.length_map, List.cons_append, List.nil_append, List.replicate, List.set_cons_zero, List.set_cons_succ, List.set_nil, List.getElem?_cons_zero, List.getElem?_cons_succ, Bool.true_and, Bool.and_true, Bool.and_false, Bool.false_and, Bool.not_true, Bool.not_false, if_true, if_false, Bool.false_eq_true, reduceIte, and_true, true_and, decide_true, decide_false, not_true, Nat.zero_le, Nat.zero_add, Nat.reduceAdd, Nat.reduceSub, D.scal, Option.some.injEq, exists_eq_left', exists_eq_left, exists_eq', D.int.injEq, D.lst.injEq, D.tup.injEq, D.scr.injEq, D.str.injEq, List.cons.injEq, and_self]
        refine ⟨_, atI_f nL (by omega) (by rw [Int.toNat_natCast]; exact ht), ?_⟩
        try simp -implicitDefEqProofs only [nL, dNext, dSet, dLst, dTup, dNil, dCons, dConsO, dFor, dRng1_u, dRng2_u, dIt_u, oX, dC, dBin, dUn, dVarR, dVar, dApp, dExt, dUpd0, dPut, dAug, dRet, dRetV, dRetN, dBreak, dCont, dIf, dB_u, dTru_u, dTNot, dTAnd, dTOr, dAndV_u, dOrV_u, dNotV_u, dIfX, dChain_u, dCall, dCallB, dSl, dNoP, dP_u, dLc, dDrop, dFrz, frzD, dAsg, dDicK, dDicT, gN, gT, gsC, gsN, kB.eq_1, kT.eq_1, kT.eq_2, kT.eq_3, kT.eq_4, kT.eq_5, kT.eq_6, kT.eq_7, kT.eq_8, kAnd.eq_1, kOr.eq_1, kNot.eq_1, kIt.eq_1, kIt.eq_2, kIt.eq_3, kIt.eq_4, kP.eq_1, kR1.eq_1, kR2.eq_1, sAdd.eq_1, sAdd.eq_2, sAdd.eq_3, sAdd.eq_4, sJ2.eq_1, sI2.eq_1, sPow, sLt.eq_1, sLt.eq_2, sLe, sGt, sGe, sMul.eq_1, sMul.eq_2, sMulB.eq_1, sMulB.eq_2, sMulB.eq_3, sLR1.eq_1, sLR2.eq_1, sTR1.eq_1, sTR2.eq_1, sIsBl.eq_1, dZip, kZip.eq_1, dDisp1, dIxW, dLenW, dName, dAppW, dPutW, dMelt, dCallBE, kIxW.eq_1, kLenW.eq_1, dLcW, kIxW_lst, kIxW_tup, kIxW_scr, kIxW_str, kIxW_dK, kIxW_dT, kLenW_lst, kLenW_tup, kLenW_scr, kLenW_str, kNm_f, kNm_t, kName, isL.eq_1, isL.eq_2, sNeg.eq_1, sLen.eq_1, sLen.eq_2, sLen.eq_3, sLen.eq_4, sLen.eq_5, sAbs.eq_1, sMax, sMin, sInt.eq_1, sInt.eq_2, sStr.eq_1, sList.eq_1, sList.eq_2, sList.eq_3, sTuple.eq_1, sTuple.eq_2, sTuple.eq_3, sIsN, sNotN, sIx.eq_1, sIx.eq_2, sIx.eq_3, sIx.eq_4, sIx.eq_5, sIx.eq_6, sIx.eq_7, sSl.eq_1, sSl.eq_2, sSl.eq_3, sSl.eq_4, sRev.eq_1, sRev.eq_2, sRev.eq_3, sAddI.eq_1, sAddI.eq_2, sPut.eq_1, sPut.eq_2, sPut.eq_3, sPut.eq_4, D.isNon, sEq_ii, sNe_ii, sEq_ww, sNe_ww, sEq_ll, sNe_ll, sIsi_ii, sIsi_ib, sIsi_ll, sIsi_tt, sIsi_ss, sEq_w, sEq_i, sEq_lw, sEq_lw', sEq_lle, sEq_lle', sNe_w, sNe_i, sNe_lle', sNe_lw', sEq_ss, sNe_ss, sEq_bb, sNe_bb, sIn_iw, sIn_ii, sIn_wl, sIn_wl', sSl3.eq_1, sSl3.eq_2, dSl3, isS.eq_1, isL.eq_1, isL.eq_2, isA.eq_1, dM0, dM1, sUpper.eq_1, sLower.eq_1, sStrip1.eq_1, sSfind.eq_1, sScount.eq_1, sSindex.eq_1, sSsplit.eq_1, sSjoin.eq_1, sSjoin.eq_2, fPop_snoc, fPop_snoc', startD, wipeD, List.map_cons, List.map_nil, List.length_cons, List.length_nil, List.length_map, List.cons_append, List.nil_append, List.replicate, List.set_cons_zero, List.set_cons_succ, List.set_nil, List.getElem?_cons_zero, List.getElem?_cons_succ, Bool.true_and, Bool.and_true, Bool.and_false, Bool.false_and, Bool.not_true, Bool.not_false, if_true, if_false, Bool.false_eq_true, reduceIte, and_true, true_and, decide_true, decide_false, not_true, Nat.zero_le, Nat.zero_add, Nat.reduceAdd, Nat.reduceSub, D.scal, Option.some.injEq, exists_eq_left', exists_eq_left, exists_eq', D.int.injEq, D.lst.injEq, D.tup.injEq, D.scr.injEq, D.str.injEq, List.cons.injEq, and_self]
        rw [zip_steps hrl]
        refine for_go (fun k : Nat => D.tup [.int (stp k), .int (ap row k)]) (fun pre δ w2 => w2 = w' ∧ ∃ L2 : Wy, WyOk n l tab L2 ∧ (∃ e, L2 = L ++ e) ∧ (∀ k, k ∈ pre → Nb L2 (ap row k) (sp u) k) ∧ Bf L2 (sp u) pre.length ∧ ∃ j6 j7, δ = [some (false, .lst (tab.map nL)), some (false, iD (stepsL l)), some (true, wyD L2), some (true, nL (L2.map (·.1))), some (false, .int a), some (false, .int room), j6, j7]) (List.range (2 * l)) ⟨rfl, L, ok, ⟨[], by simp⟩, (fun k hk => nomatch hk), hbf, j6, j7, rfl⟩ ?_ ?_
        · rintro pre k post δ w2 N C e ⟨rfl, L2, ok2, ⟨ex, he⟩, hall, hbf, j6, j7, rfl⟩ hN hC
          have hk : k < 2 * l := List.mem_range.mp (by rw [e]; simp)
          have hkp : pre.length = k := by
            have h1 : (List.range (2 * l))[pre.length]? = some k := by rw [e]; simp
            have h2 := (List.getElem?_eq_some_iff.mp h1).1
            rw [List.getElem?_range (by simpa using h2)] at h1
            exact Option.some.inj h1
          rw [hkp] at hbf
          have hln2 := ok2.len
          have hqm2 : (room, u) ∈ L2 := by rw [he]; exact List.mem_append_left _ hqm
          obtain ⟨_, _, _, hr4'⟩ := ok2.ok _ hqm2
          dsimp only at hr4'
          have hwr : wv L2 room = some u := by
            cases ew : wv L2 room with
            | none => exact absurd (List.mem_map.mpr ⟨(room, u), hqm2, rfl⟩) (wv_none.mp ew)
            | some v =>
              have hv := wv_mem ew
              obtain ⟨i1, h1⟩ := List.mem_iff_getElem?.mp hv
              obtain ⟨i2, h2⟩ := List.mem_iff_getElem?.mp hqm2
              have g1 : (L2.map (·.1))[i1]? = some room := by rw [List.getElem?_map, h1]; rfl
              have g2 : (L2.map (·.1))[i2]? = some room := by rw [List.getElem?_map, h2]; rfl
              have := nodup_same ok2.nd g1 g2
              subst this
              rw [h1] at h2
              cases h2
              rfl
          try simp -implicitDefEqProofs only [wyD, dNext, dSet, dLst, dTup, dNil, dCons, dConsO, dFor, dRng1_u, dRng2_u, dIt_u, oX, dC, dBin, dUn, dVarR, dVar, dApp, dExt, dUpd0, dPut, dAug, dRet, dRetV, dRetN, dBreak, dCont, dIf, dB_u, dTru_u, dTNot, dTAnd, dTOr, dAndV_u, dOrV_u, dNotV_u, dIfX, dChain_u, dCall, dCallB, dSl, dNoP, dP_u, dLc, dDrop, dFrz, frzD, dAsg, dDicK, dDicT, gN, gT, gsC, gsN, kB.eq_1, kT.eq_1, kT.eq_2, kT.eq_3, kT.eq_4, kT.eq_5, kT.eq_6, kT.eq_7, kT.eq_8, kAnd.eq_1, kOr.eq_1, kNot.eq_1, kIt.eq_1, kIt.eq_2, kIt.eq_3, kIt.eq_4, kP.eq_1, kR1.eq_1, kR2.eq_1, sAdd.eq_1, sAdd.eq_2, sAdd.eq_3, sAdd.eq_4, sJ2.eq_1, sI2.eq_1, sPow, sLt.eq_1, sLt.eq_2, sLe, sGt, sGe, sMul.eq_1, sMul.eq_2, sMulB.eq_1, sMulB.eq_2, sMulB.eq_3, sLR1.eq_1, sLR2.eq_1, sTR1.eq_1, sTR2.eq_1, sIsBl.eq_1, dZip, kZip.eq_1, dDisp1, dIxW, dLenW, dName, dAppW, dPutW, dMelt, dCallBE, kIxW.eq_1, kLenW.eq_1, dLcW, kIxW_lst, kIxW_tup, kIxW_scr, kIxW_str, kIxW_dK, kIxW_dT, kLenW_lst, kLenW_tup, kLenW_scr, kLenW_str, kNm_f, kNm_t, kName, isL.eq_1, isL.eq_2, sNeg.eq_1, sLen.eq_1, sLen.eq_2, sLen.eq_3, sLen.eq_4, sLen.eq_5, sAbs.eq_1, sMax, sMin, sInt.eq_1, sInt.eq_2, sStr.eq_1, sList.eq_1, sList.eq_2, sList.eq_3, sTuple.eq_1, sTuple.eq_2, sTuple.eq_3, sIsN, sNotN, sIx.eq_1, sIx.eq_2, sIx.eq_3, sIx.eq_4, sIx.eq_5, sIx.eq_6, sIx.eq_7, sSl.eq_1, sSl.eq_2, sSl.eq_3, sSl.eq_4, sRev.eq_1, sRev.eq_2, sRev.eq_3, sAddI.eq_1, sAddI.eq_2, sPut.eq_1, sPut.eq_2, sPut.eq_3, sPut.eq_4, D.isNon, sEq_ii, sNe_ii, sEq_ww, sNe_ww, sEq_ll, sNe_ll, sIsi_ii, sIsi_ib, sIsi_ll, sIsi_tt, sIsi_ss, sEq_w, sEq_i, sEq_lw, sEq_lw', sEq_lle, sEq_lle', sNe_w, sNe_i, sNe_lle', sNe_lw', sEq_ss, sNe_ss, sEq_bb, sNe_bb, sIn_iw, sIn_ii, sIn_wl, sIn_wl', sSl3.eq_1, sSl3.eq_2, dSl3, isS.eq_1, isL.eq_1, isL.eq_2, isA.eq_1, dM0, dM1, sUpper.eq_1, sLower.eq_1, sStrip1.eq_1, sSfind.eq_1, sScount.eq_1, sSindex.eq_1, sSsplit.eq_1, sSjoin.eq_1, sSjoin.eq_2, fPop_snoc, fPop_snoc', startD, wipeD, List.map_cons, List.map_nil, List.length_cons, List.length_nil, List.length_map, List.cons_append, List.nil_append, List.replicate, List.set_cons_zero, List.set_cons_succ, List.set_nil, List.getElem?_cons_zero, List.getElem?_cons_succ, Bool.true_and, Bool.and_true, Bool.and_false, Bool.false_and, Bool.not_true, Bool.not_false, if_true, if_false, Bool.false_eq_true, reduceIte, and_true, true_and, decide_true, decide_false, not_true, Nat.zero_le, Nat.zero_add, Nat.reduceAdd, Nat.reduceSub, D.scal, Option.some.injEq, exists_eq_left', exists_eq_left, exists_eq', D.int.injEq, D.lst.injEq, D.tup.injEq, D.scr.injEq, D.str.injEq, List.cons.injEq, and_self]
          rw [show sIn true (D.int (ap row k)) (D.dK (L2.map fun q => ((Sum.inl (q.1 : Int) : Key), wD q.2))) = fun P => P false (.bl (!(valD (L2.map fun q => ((Sum.inl (q.1 : Int) : Key), wD q.2)) (.inl (ap row k : Int))).isSome)) from rfl]
          try simp -implicitDefEqProofs only [wv_val, dNext, dSet, dLst, dTup, dNil, dCons, dConsO, dFor, dRng1_u, dRng2_u, dIt_u, oX, dC, dBin, dUn, dVarR, dVar, dApp, dExt, dUpd0, dPut, dAug, dRet, dRetV, dRetN, dBreak, dCont, dIf, dB_u, dTru_u, dTNot, dTAnd, dTOr, dAndV_u, dOrV_u, dNotV_u, dIfX, dChain_u, dCall, dCallB, dSl, dNoP, dP_u, dLc, dDrop, dFrz, frzD, dAsg, dDicK, dDicT, gN, gT, gsC, gsN, kB.eq_1, kT.eq_1, kT.eq_2, kT.eq_3, kT.eq_4, kT.eq_5, kT.eq_6, kT.eq_7, kT.eq_8, kAnd.eq_1, kOr.eq_1, kNot.eq_1, kIt.eq_1, kIt.eq_2, kIt.eq_3, kIt.eq_4, kP.eq_1, kR1.eq_1, kR2.eq_1, sAdd.eq_1, sAdd.eq_2, sAdd.eq_3, sAdd.eq_4, sJ2.eq_1, sI2.eq_1, sPow, sLt.eq_1, sLt.eq_2, sLe, sGt, sGe, sMul.eq_1, sMul.eq_2, sMulB.eq_1, sMulB.eq_2, sMulB.eq_3, sLR1.eq_1, sLR2.eq_1, sTR1.eq_1, sTR2.eq_1, sIsBl.eq_1, dZip, kZip.eq_1, dDisp1, dIxW, dLenW, dName, dAppW, dPutW, dMelt, dCallBE, kIxW.eq_1, kLenW.eq_1, dLcW, kIxW_lst, kIxW_tup, kIxW_scr, kIxW_str, kIxW_dK, kIxW_dT, kLenW_lst, kLenW_tup, kLenW_scr, kLenW_str, kNm_f, kNm_t, kName, isL.eq_1, isL.eq_2, sNeg.eq_1, sLen.eq_1, sLen.eq_2, sLen.eq_3, sLen.eq_4, sLen.eq_5, sAbs.eq_1, sMax, sMin, sInt.eq_1, sInt.eq_2, sStr.eq_1, sList.eq_1, sList.eq_2, sList.eq_3, sTuple.eq_1, sTuple.eq_2, sTuple.eq_3, sIsN, sNotN, sIx.eq_1, sIx.eq_2, sIx.eq_3, sIx.eq_4, sIx.eq_5, sIx.eq_6, sIx.eq_7, sSl.eq_1, sSl.eq_2, sSl.eq_3, sSl.eq_4, sRev.eq_1, sRev.eq_2, sRev.eq_3, sAddI.eq_1, sAddI.eq_2, sPut.eq_1, sPut.eq_2, sPut.eq_3, sPut.eq_4, D.isNon, sEq_ii, sNe_ii, sEq_ww, sNe_ww, sEq_ll, sNe_ll, sIsi_ii, sIsi_ib, sIsi_ll, sIsi_tt, sIsi_ss, sEq_w, sEq_i, sEq_lw, sEq_lw', sEq_lle, sEq_lle', sNe_w, sNe_i, sNe_lle', sNe_lw', sEq_ss, sNe_ss, sEq_bb, sNe_bb, sIn_iw, sIn_ii, sIn_wl, sIn_wl', sSl3.eq_1, sSl3.eq_2, dSl3, isS.eq_1, isL.eq_1, isL.eq_2, isA.eq_1, dM0, dM1, sUpper.eq_1, sLower.eq_1, sStrip1.eq_1, sSfind.eq_1, sScount.eq_1, sSindex.eq_1, sSsplit.eq_1, sSjoin.eq_1, sSjoin.eq_2, fPop_snoc, fPop_snoc', startD, wipeD, List.map_cons, List.map_nil, List.length_cons, List.length_nil, List.length_map, List.cons_append, List.nil_append, List.replicate, List.set_cons_zero, List.set_cons_succ, List.set_nil, List.getElem?_cons_zero, List.getElem?_cons_succ, Bool.true_and, Bool.and_true, Bool.and_false, Bool.false_and, Bool.not_true, Bool.not_false, if_true, if_false, Bool.false_eq_true, reduceIte, and_true, true_and, decide_true, decide_false, not_true, Nat.zero_le, Nat.zero_add, Nat.reduceAdd, Nat.reduceSub, D.scal, Option.some.injEq, exists_eq_left', exists_eq_left, exists_eq', D.int.injEq, D.lst.injEq, D.tup.injEq, D.scr.injEq, D.str.injEq, List.cons.injEq, and_self]
          by_cases hw : wv L2 (ap row k) = none
          · refine if_t (by simp [hw]) ⟨wD u, by rw [wv_val, hwr]; rfl, ?_⟩
            try simp -implicitDefEqProofs only [nL, dNext, dSet, dLst, dTup, dNil, dCons, dConsO, dFor, dRng1_u, dRng2_u, dIt_u, oX, dC, dBin, dUn, dVarR, dVar, dApp, dExt, dUpd0, dPut, dAug, dRet, dRetV, dRetN, dBreak, dCont, dIf, dB_u, dTru_u, dTNot, dTAnd, dTOr, dAndV_u, dOrV_u, dNotV_u, dIfX, dChain_u, dCall, dCallB, dSl, dNoP, dP_u, dLc, dDrop, dFrz, frzD, dAsg, dDicK, dDicT, gN, gT, gsC, gsN, kB.eq_1, kT.eq_1, kT.eq_2, kT.eq_3, kT.eq_4, kT.eq_5, kT.eq_6, kT.eq_7, kT.eq_8, kAnd.eq_1, kOr.eq_1, kNot.eq_1, kIt.eq_1, kIt.eq_2, kIt.eq_3, kIt.eq_4, kP.eq_1, kR1.eq_1, kR2.eq_1, sAdd.eq_1, sAdd.eq_2, sAdd.eq_3, sAdd.eq_4, sJ2.eq_1, sI2.eq_1, sPow, sLt.eq_1, sLt.eq_2, sLe, sGt, sGe, sMul.eq_1, sMul.eq_2, sMulB.eq_1, sMulB.eq_2, sMulB.eq_3, sLR1.eq_1, sLR2.eq_1, sTR1.eq_1, sTR2.eq_1, sIsBl.eq_1, dZip, kZip.eq_1, dDisp1, dIxW, dLenW, dName, dAppW, dPutW, dMelt, dCallBE, kIxW.eq_1, kLenW.eq_1, dLcW, kIxW_lst, kIxW_tup, kIxW_scr, kIxW_str, kIxW_dK, kIxW_dT, kLenW_lst, kLenW_tup, kLenW_scr, kLenW_str, kNm_f, kNm_t, kName, isL.eq_1, isL.eq_2, sNeg.eq_1, sLen.eq_1, sLen.eq_2, sLen.eq_3, sLen.eq_4, sLen.eq_5, sAbs.eq_1, sMax, sMin, sInt.eq_1, sInt.eq_2, sStr.eq_1, sList.eq_1, sList.eq_2, sList.eq_3, sTuple.eq_1, sTuple.eq_2, sTuple.eq_3, sIsN, sNotN, sIx.eq_1, sIx.eq_2, sIx.eq_3, sIx.eq_4, sIx.eq_5, sIx.eq_6, sIx.eq_7, sSl.eq_1, sSl.eq_2, sSl.eq_3, sSl.eq_4, sRev.eq_1, sRev.eq_2, sRev.eq_3, sAddI.eq_1, sAddI.eq_2, sPut.eq_1, sPut.eq_2, sPut.eq_3, sPut.eq_4, D.isNon, sEq_ii, sNe_ii, sEq_ww, sNe_ww, sEq_ll, sNe_ll, sIsi_ii, sIsi_ib, sIsi_ll, sIsi_tt, sIsi_ss, sEq_w, sEq_i, sEq_lw, sEq_lw', sEq_lle, sEq_lle', sNe_w, sNe_i, sNe_lle', sNe_lw', sEq_ss, sNe_ss, sEq_bb, sNe_bb, sIn_iw, sIn_ii, sIn_wl, sIn_wl', sSl3.eq_1, sSl3.eq_2, dSl3, isS.eq_1, isL.eq_1, isL.eq_2, isA.eq_1, dM0, dM1, sUpper.eq_1, sLower.eq_1, sStrip1.eq_1, sSfind.eq_1, sScount.eq_1, sSindex.eq_1, sSsplit.eq_1, sSjoin.eq_1, sSjoin.eq_2, fPop_snoc, fPop_snoc', startD, wipeD, List.map_cons, List.map_nil, List.length_cons, List.length_nil, List.length_map, List.cons_append, List.nil_append, List.replicate, List.set_cons_zero, List.set_cons_succ, List.set_nil, List.getElem?_cons_zero, List.getElem?_cons_succ, Bool.true_and, Bool.and_true, Bool.and_false, Bool.false_and, Bool.not_true, Bool.not_false, if_true, if_false, Bool.false_eq_true, reduceIte, and_true, true_and, decide_true, decide_false, not_true, Nat.zero_le, Nat.zero_add, Nat.reduceAdd, Nat.reduceSub, D.scal, Option.some.injEq, exists_eq_left', exists_eq_left, exists_eq', D.int.injEq, D.lst.injEq, D.tup.injEq, D.scr.injEq, D.str.injEq, List.cons.injEq, and_self]
            try simp -implicitDefEqProofs only [wD, dNext, dSet, dLst, dTup, dNil, dCons, dConsO, dFor, dRng1_u, dRng2_u, dIt_u, oX, dC, dBin, dUn, dVarR, dVar, dApp, dExt, dUpd0, dPut, dAug, dRet, dRetV, dRetN, dBreak, dCont, dIf, dB_u, dTru_u, dTNot, dTAnd, dTOr, dAndV_u, dOrV_u, dNotV_u, dIfX, dChain_u, dCall, dCallB, dSl, dNoP, dP_u, dLc, dDrop, dFrz, frzD, dAsg, dDicK, dDicT, gN, gT, gsC, gsN, kB.eq_1, kT.eq_1, kT.eq_2, kT.eq_3, kT.eq_4, kT.eq_5, kT.eq_6, kT.eq_7, kT.eq_8, kAnd.eq_1, kOr.eq_1, kNot.eq_1, kIt.eq_1, kIt.eq_2, kIt.eq_3, kIt.eq_4, kP.eq_1, kR1.eq_1, kR2.eq_1, sAdd.eq_1, sAdd.eq_2, sAdd.eq_3, sAdd.eq_4, sJ2.eq_1, sI2.eq_1, sPow, sLt.eq_1, sLt.eq_2, sLe, sGt, sGe, sMul.eq_1, sMul.eq_2, sMulB.eq_1, sMulB.eq_2, sMulB.eq_3, sLR1.eq_1, sLR2.eq_1, sTR1.eq_1, sTR2.eq_1, sIsBl.eq_1, dZip, kZip.eq_1, dDisp1, dIxW, dLenW, dName, dAppW, dPutW, dMelt, dCallBE, kIxW.eq_1, kLenW.eq_1, dLcW, kIxW_lst, kIxW_tup, kIxW_scr, kIxW_str, kIxW_dK, kIxW_dT, kLenW_lst, kLenW_tup, kLenW_scr, kLenW_str, kNm_f, kNm_t, kName, isL.eq_1, isL.eq_2, sNeg.eq_1, sLen.eq_1, sLen.eq_2, sLen.eq_3, sLen.eq_4, sLen.eq_5, sAbs.eq_1, sMax, sMin, sInt.eq_1, sInt.eq_2, sStr.eq_1, sList.eq_1, sList.eq_2, sList.eq_3, sTuple.eq_1, sTuple.eq_2, sTuple.eq_3, sIsN, sNotN, sIx.eq_1, sIx.eq_2, sIx.eq_3, sIx.eq_4, sIx.eq_5, sIx.eq_6, sIx.eq_7, sSl.eq_1, sSl.eq_2, sSl.eq_3, sSl.eq_4, sRev.eq_1, sRev.eq_2, sRev.eq_3, sAddI.eq_1, sAddI.eq_2, sPut.eq_1, sPut.eq_2, sPut.eq_3, sPut.eq_4, D.isNon, sEq_ii, sNe_ii, sEq_ww, sNe_ww, sEq_ll, sNe_ll, sIsi_ii, sIsi_ib, sIsi_ll, sIsi_tt, sIsi_ss, sEq_w, sEq_i, sEq_lw, sEq_lw', sEq_lle, sEq_lle', sNe_w, sNe_i, sNe_lle', sNe_lw', sEq_ss, sNe_ss, sEq_bb, sNe_bb, sIn_iw, sIn_ii, sIn_wl, sIn_wl', sSl3.eq_1, sSl3.eq_2, dSl3, isS.eq_1, isL.eq_1, isL.eq_2, isA.eq_1, dM0, dM1, sUpper.eq_1, sLower.eq_1, sStrip1.eq_1, sSfind.eq_1, sScount.eq_1, sSindex.eq_1, sSsplit.eq_1, sSjoin.eq_1, sSjoin.eq_2, fPop_snoc, fPop_snoc', startD, wipeD, List.map_cons, List.map_nil, List.length_cons, List.length_nil, List.length_map, List.cons_append, List.nil_append, List.replicate, List.set_cons_zero, List.set_cons_succ, List.set_nil, List.getElem?_cons_zero, List.getElem?_cons_succ, Bool.true_and, Bool.and_true, Bool.and_false, Bool.false_and, Bool.not_true, Bool.not_false, if_true, if_false, Bool.false_eq_true, reduceIte, and_true, true_and, decide_true, decide_false, not_true, Nat.zero_le, Nat.zero_add, Nat.reduceAdd, Nat.reduceSub, D.scal, Option.some.injEq, exists_eq_left', exists_eq_left, exists_eq', D.int.injEq, D.lst.injEq, D.tup.injEq, D.scr.injEq, D.str.injEq, List.cons.injEq, and_self]
            have eput : putD (L2.map fun q => ((Sum.inl (q.1 : Int) : Key), D.tup (q.2.map D.int))) (.inl (ap row k : Int)) (D.tup (u.map D.int ++ [D.int (stp k)])) = (L2 ++ [(ap row k, u ++ [stp k])]).map fun q => ((Sum.inl (q.1 : Int) : Key), wD q.2) := by
              have := put_new (u ++ [stp k]) hw
              simp only [wD, List.map_append, List.map_cons, List.map_nil] at this ⊢
              exact this
            rw [eput]
            have hnl : L2.length < n := by
              rcases Nat.lt_or_ge L2.length n with h | h
              · exact h
              · have hm : ap row k ∈ L2.map (·.1) := Classical.byContradiction fun hn => by
                  have := nodup_len (l := ap row k :: L2.map (·.1)) (m := List.range n) (List.nodup_cons.mpr ⟨hn, ok2.nd⟩) (fun x hx => by
                    rcases List.mem_cons.mp hx with e | e
                    · subst e; exact List.mem_range.mpr (hrlt k hk)
                    · obtain ⟨q, hq, rfl⟩ := List.mem_map.mp e
                      exact List.mem_range.mpr (ok2.ok q hq).1)
                  simp at this
                  omega
                exact absurd hm (wv_none.mp hw)
            refine ⟨by omega, by omega, by omega, by first | omega | (simp; omega) | (simp at *; omega), hN _ _ ⟨rfl, L2 ++ [(ap row k, u ++ [stp k])], ⟨?_, ?_, fun q hq => ?_⟩, ⟨ex ++ [(ap row k, u ++ [stp k])], by rw [he, List.append_assoc]⟩, fun k2 hk2 => ?_, by rw [List.length_append, hkp]; exact hbf.push, some (false, .int (stp k)), some (false, .int (ap row k)), by simp [wyD, nL]⟩⟩
            · rw [List.map_append, List.nodup_append]
              refine ⟨ok2.nd, by simp, fun x hx y hy => ?_⟩
              simp at hy
              subst hy
              exact fun e => wv_none.mp hw (e ▸ hx)
            · have h0 := ok2.c0
              rw [List.getElem?_append_left (List.getElem?_eq_some_iff.mp h0).1]
              exact h0
            · rw [List.length_append]
              rcases List.mem_append.mp hq with h | h
              · obtain ⟨a1, a2, a3, a4⟩ := ok2.ok q h
                exact ⟨a1, a2, a3, by simp; omega⟩
              · simp at h
                subst h
                refine ⟨hrlt k hk, ?_, fun x hx => ?_, by simp; omega⟩
                · rw [lead_snoc, hr2, htd, stp_spot]
                · rcases List.mem_append.mp hx with h | h
                  · exact hr3 x h
                  · simp at h; subst h; exact stp_ok hk
            · rcases List.mem_append.mp hk2 with h | h
              · obtain ⟨q, hq, g1, g2⟩ := hall k2 h
                exact ⟨q, List.mem_append_left _ hq, g1, g2⟩
              · simp at h
                subst h
                exact ⟨_, List.mem_append_right _ List.mem_cons_self, rfl, .inr (by rw [sp_snoc, stp_spot])⟩
          · refine if_f (by cases ew : wv L2 (ap row k) with | none => exact absurd ew hw | some v => simp) (hN _ _ ⟨rfl, L2, ok2, ⟨ex, he⟩, fun k2 hk2 => ?_, by rw [List.length_append, hkp]; exact hbf.step, some (false, .int (stp k)), some (false, .int (ap row k)), rfl⟩)
            rcases List.mem_append.mp hk2 with h | h
            · exact hall k2 h
            · simp at h
              subst h
              cases ew : wv L2 (ap row k2) with
              | none => exact absurd ew hw
              | some v => exact ⟨_, wv_mem ew, rfl, .inl (hbf.bf _ (wv_mem ew))⟩
        · rintro δ w2 ⟨rfl, L2, ok2, hex, hall, hbf, j6, j7, rfl⟩
          rw [List.length_range] at hbf
          exact h3 _ _ ⟨rfl, L2, ok2, hex, fun k hk => hall k (List.mem_range.mpr hk), hbf, j6, j7, rfl⟩
      rintro δ w2 ⟨rfl, L2, ok2, ⟨ex, he⟩, hall, hbf2, j6, j7, rfl⟩
      have hln2 := ok2.len
      try simp -implicitDefEqProofs only [dNext, dSet, dLst, dTup, dNil, dCons, dConsO, dFor, dRng1_u, dRng2_u, dIt_u, oX, dC, dBin, dUn, dVarR, dVar, dApp, dExt, dUpd0, dPut, dAug, dRet, dRetV, dRetN, dBreak, dCont, dIf, dB_u, dTru_u, dTNot, dTAnd, dTOr, dAndV_u, dOrV_u, dNotV_u, dIfX, dChain_u, dCall, dCallB, dSl, dNoP, dP_u, dLc, dDrop, dFrz, frzD, dAsg, dDicK, dDicT, gN, gT, gsC, gsN, kB.eq_1, kT.eq_1, kT.eq_2, kT.eq_3, kT.eq_4, kT.eq_5, kT.eq_6, kT.eq_7, kT.eq_8, kAnd.eq_1, kOr.eq_1, kNot.eq_1, kIt.eq_1, kIt.eq_2, kIt.eq_3, kIt.eq_4, kP.eq_1, kR1.eq_1, kR2.eq_1, sAdd.eq_1, sAdd.eq_2, sAdd.eq_3, sAdd.eq_4, sJ2.eq_1, sI2.eq_1, sPow, sLt.eq_1, sLt.eq_2, sLe, sGt, sGe, sMul.eq_1, sMul.eq_2, sMulB.eq_1, sMulB.eq_2, sMulB.eq_3, sLR1.eq_1, sLR2.eq_1, sTR1.eq_1, sTR2.eq_1, sIsBl.eq_1, dZip, kZip.eq_1, dDisp1, dIxW, dLenW, dName, dAppW, dPutW, dMelt, dCallBE, kIxW.eq_1, kLenW.eq_1, dLcW, kIxW_lst, kIxW_tup, kIxW_scr, kIxW_str, kIxW_dK, kIxW_dT, kLenW_lst, kLenW_tup, kLenW_scr, kLenW_str, kNm_f, kNm_t, kName, isL.eq_1, isL.eq_2, sNeg.eq_1, sLen.eq_1, sLen.eq_2, sLen.eq_3, sLen.eq_4, sLen.eq_5, sAbs.eq_1, sMax, sMin, sInt.eq_1, sInt.eq_2, sStr.eq_1, sList.eq_1, sList.eq_2, sList.eq_3, sTuple.eq_1, sTuple.eq_2, sTuple.eq_3, sIsN, sNotN, sIx.eq_1, sIx.eq_2, sIx.eq_3, sIx.eq_4, sIx.eq_5, sIx.eq_6, sIx.eq_7, sSl.eq_1, sSl.eq_2, sSl.eq_3, sSl.eq_4, sRev.eq_1, sRev.eq_2, sRev.eq_3, sAddI.eq_1, sAddI.eq_2, sPut.eq_1, sPut.eq_2, sPut.eq_3, sPut.eq_4, D.isNon, sEq_ii, sNe_ii, sEq_ww, sNe_ww, sEq_ll, sNe_ll, sIsi_ii, sIsi_ib, sIsi_ll, sIsi_tt, sIsi_ss, sEq_w, sEq_i, sEq_lw, sEq_lw', sEq_lle, sEq_lle', sNe_w, sNe_i, sNe_lle', sNe_lw', sEq_ss, sNe_ss, sEq_bb, sNe_bb, sIn_iw, sIn_ii, sIn_wl, sIn_wl', sSl3.eq_1, sSl3.eq_2, dSl3, isS.eq_1, isL.eq_1, isL.eq_2, isA.eq_1, dM0, dM1, sUpper.eq_1, sLower.eq_1, sStrip1.eq_1, sSfind.eq_1, sScount.eq_1, sSindex.eq_1, sSsplit.eq_1, sSjoin.eq_1, sSjoin.eq_2, fPop_snoc, fPop_snoc', startD, wipeD, List.map_cons, List.map_nil, List.length_cons, List.length_nil, List.length_map, List.cons_append, List.nil_append, List.replicate, List.set_cons_zero, List.set_cons_succ, List.set_nil, List.getElem?_cons_zero, List.getElem?_cons_succ, Bool.true_and, Bool.and_true, Bool.and_false, Bool.false_and, Bool.not_true, Bool.not_false, if_true, if_false, Bool.false_eq_true, reduceIte, and_true, true_and, decide_true, decide_false, not_true, Nat.zero_le, Nat.zero_add, Nat.reduceAdd, Nat.reduceSub, D.scal, Option.some.injEq, exists_eq_left', exists_eq_left, exists_eq', D.int.injEq, D.lst.injEq, D.tup.injEq, D.scr.injEq, D.str.injEq, List.cons.injEq, and_self]
      have hua : L2[a]? = some (room, u) := by rw [he, List.getElem?_append_left hlt]; exact hq
      refine hN2 (a + 1) _ _ ⟨rfl, L2, ok2, by rw [he, List.length_append]; omega, fun i q hi hq2 => ?_, ⟨fun q hq2 => hbf2.next (hbf2.srt a (a + 1) _ _ (by omega) hua hq2), hbf2.srt⟩, some (false, .int room), j6, j7, by simp⟩ (by omega)
      by_cases hia : i = a
      · subst hia
        rw [hua] at hq2
        cases hq2
        rw [htd]
        exact hall
      · rw [he, List.getElem?_append_left (by omega)] at hq2
        intro k hk
        obtain ⟨q3, g0, g1, g2⟩ := hcl i q (by omega) hq2 k hk
        exact ⟨q3, by rw [he]; exact List.mem_append_left _ g0, g1, g2⟩
    · refine if_f (by simp; omega) (h _ _ ⟨rfl, L, ok, fun q hq k hk => ?_, _, _, _, _, _, rfl⟩)
      obtain ⟨i, hi⟩ := List.mem_iff_getElem?.mp hq
      have := (List.getElem?_eq_some_iff.mp hi).1
      exact hcl i q (by omega) hi k hk
  rintro δ w' ⟨rfl, L, ok, hcl, j3, j4, j5, j6, j7, rfl⟩
  have hfull := ok.full g fun r hr k hk => by
    obtain ⟨q, hq, rfl⟩ := List.mem_map.mp hr
    obtain ⟨q2, g0, g1, _⟩ := hcl q hq k hk
    exact List.mem_map.mpr ⟨q2, g0, g1⟩
  have huq : ∀ (p q : Nat × List Int), p ∈ L → q ∈ L → p.1 = q.1 → p = q := fun p q hp hq e => by
    obtain ⟨i1, h1⟩ := List.mem_iff_getElem?.mp hp
    obtain ⟨i2, h2⟩ := List.mem_iff_getElem?.mp hq
    have g1 : (L.map (·.1))[i1]? = some p.1 := by rw [List.getElem?_map, h1]; rfl
    have g2 : (L.map (·.1))[i2]? = some p.1 := by rw [List.getElem?_map, h2, e]; rfl
    have := nodup_same ok.nd g1 g2
    subst this
    rw [h1] at h2
    exact Option.some.inj h2
  have hmin : ∀ (m : Nat) (v : List Int), v.length = m → StT l v → ∃ q ∈ L, q.1 = lead tab 0 v ∧ sle (sp q.2) (sp v) := by
    intro m
    induction m with
    | zero =>
      intro v hv _
      have : v = [] := List.eq_nil_of_length_eq_zero hv
      subst this
      exact ⟨(0, []), List.mem_of_getElem? ok.c0, rfl, .inr rfl⟩
    | succ m ih =>
      intro v hv hst
      obtain ⟨u, x, rfl⟩ : ∃ u x, v = u ++ [x] := ⟨v.dropLast, v.getLast (fun e => by rw [e] at hv; simp at hv), (List.dropLast_concat_getLast _).symm⟩
      obtain ⟨q, hq, e1, e2⟩ := ih u (by simpa using hv) fun y hy => hst y (List.mem_append_left _ hy)
      have hx := hst x (by simp)
      have hk : spot x < 2 * l := by unfold spot; split <;> omega
      obtain ⟨q2, hq2, g1, g2⟩ := hcl q hq (spot x) hk
      refine ⟨q2, hq2, by rw [g1, lead_snoc, e1], ?_⟩
      rw [sp_snoc]
      exact sle_tr g2 (sle_snoc _ e2)
  have htl := g.len
  try simp -implicitDefEqProofs only [htl, wyD, dNext, dSet, dLst, dTup, dNil, dCons, dConsO, dFor, dRng1_u, dRng2_u, dIt_u, oX, dC, dBin, dUn, dVarR, dVar, dApp, dExt, dUpd0, dPut, dAug, dRet, dRetV, dRetN, dBreak, dCont, dIf, dB_u, dTru_u, dTNot, dTAnd, dTOr, dAndV_u, dOrV_u, dNotV_u, dIfX, dChain_u, dCall, dCallB, dSl, dNoP, dP_u, dLc, dDrop, dFrz, frzD, dAsg, dDicK, dDicT, gN, gT, gsC, gsN, kB.eq_1, kT.eq_1, kT.eq_2, kT.eq_3, kT.eq_4, kT.eq_5, kT.eq_6, kT.eq_7, kT.eq_8, kAnd.eq_1, kOr.eq_1, kNot.eq_1, kIt.eq_1, kIt.eq_2, kIt.eq_3, kIt.eq_4, kP.eq_1, kR1.eq_1, kR2.eq_1, sAdd.eq_1, sAdd.eq_2, sAdd.eq_3, sAdd.eq_4, sJ2.eq_1, sI2.eq_1, sPow, sLt.eq_1, sLt.eq_2, sLe, sGt, sGe, sMul.eq_1, sMul.eq_2, sMulB.eq_1, sMulB.eq_2, sMulB.eq_3, sLR1.eq_1, sLR2.eq_1, sTR1.eq_1, sTR2.eq_1, sIsBl.eq_1, dZip, kZip.eq_1, dDisp1, dIxW, dLenW, dName, dAppW, dPutW, dMelt, dCallBE, kIxW.eq_1, kLenW.eq_1, dLcW, kIxW_lst, kIxW_tup, kIxW_scr, kIxW_str, kIxW_dK, kIxW_dT, kLenW_lst, kLenW_tup, kLenW_scr, kLenW_str, kNm_f, kNm_t, kName, isL.eq_1, isL.eq_2, sNeg.eq_1, sLen.eq_1, sLen.eq_2, sLen.eq_3, sLen.eq_4, sLen.eq_5, sAbs.eq_1, sMax, sMin, sInt.eq_1, sInt.eq_2, sStr.eq_1, sList.eq_1, sList.eq_2, sList.eq_3, sTuple.eq_1, sTuple.eq_2, sTuple.eq_3, sIsN, sNotN, sIx.eq_1, sIx.eq_2, sIx.eq_3, sIx.eq_4, sIx.eq_5, sIx.eq_6, sIx.eq_7, sSl.eq_1, sSl.eq_2, sSl.eq_3, sSl.eq_4, sRev.eq_1, sRev.eq_2, sRev.eq_3, sAddI.eq_1, sAddI.eq_2, sPut.eq_1, sPut.eq_2, sPut.eq_3, sPut.eq_4, D.isNon, sEq_ii, sNe_ii, sEq_ww, sNe_ww, sEq_ll, sNe_ll, sIsi_ii, sIsi_ib, sIsi_ll, sIsi_tt, sIsi_ss, sEq_w, sEq_i, sEq_lw, sEq_lw', sEq_lle, sEq_lle', sNe_w, sNe_i, sNe_lle', sNe_lw', sEq_ss, sNe_ss, sEq_bb, sNe_bb, sIn_iw, sIn_ii, sIn_wl, sIn_wl', sSl3.eq_1, sSl3.eq_2, dSl3, isS.eq_1, isL.eq_1, isL.eq_2, isA.eq_1, dM0, dM1, sUpper.eq_1, sLower.eq_1, sStrip1.eq_1, sSfind.eq_1, sScount.eq_1, sSindex.eq_1, sSsplit.eq_1, sSjoin.eq_1, sSjoin.eq_2, fPop_snoc, fPop_snoc', startD, wipeD, List.map_cons, List.map_nil, List.length_cons, List.length_nil, List.length_map, List.cons_append, List.nil_append, List.replicate, List.set_cons_zero, List.set_cons_succ, List.set_nil, List.getElem?_cons_zero, List.getElem?_cons_succ, Bool.true_and, Bool.and_true, Bool.and_false, Bool.false_and, Bool.not_true, Bool.not_false, if_true, if_false, Bool.false_eq_true, reduceIte, and_true, true_and, decide_true, decide_false, not_true, Nat.zero_le, Nat.zero_add, Nat.reduceAdd, Nat.reduceSub, D.scal, Option.some.injEq, exists_eq_left', exists_eq_left, exists_eq', D.int.injEq, D.lst.injEq, D.tup.injEq, D.scr.injEq, D.str.injEq, List.cons.injEq, and_self]
  unfold rngD
  refine ⟨⟨by omega, by omega⟩, ?_⟩
  rw [Int.toNat_natCast]
  refine lc_map (fun k : Nat => D.int (0 + (k : Nat))) (fun k : Nat => wD ((wv L k).getD [])) (List.range n) (fun r hr P hP => ?_) [] (by simp; omega) ?_
  · have hr' := List.mem_range.mp hr
    have hw : wv L r ≠ none := fun z => wv_none.mp z (hfull r hr')
    try simp -implicitDefEqProofs only [Int.zero_add, dNext, dSet, dLst, dTup, dNil, dCons, dConsO, dFor, dRng1_u, dRng2_u, dIt_u, oX, dC, dBin, dUn, dVarR, dVar, dApp, dExt, dUpd0, dPut, dAug, dRet, dRetV, dRetN, dBreak, dCont, dIf, dB_u, dTru_u, dTNot, dTAnd, dTOr, dAndV_u, dOrV_u, dNotV_u, dIfX, dChain_u, dCall, dCallB, dSl, dNoP, dP_u, dLc, dDrop, dFrz, frzD, dAsg, dDicK, dDicT, gN, gT, gsC, gsN, kB.eq_1, kT.eq_1, kT.eq_2, kT.eq_3, kT.eq_4, kT.eq_5, kT.eq_6, kT.eq_7, kT.eq_8, kAnd.eq_1, kOr.eq_1, kNot.eq_1, kIt.eq_1, kIt.eq_2, kIt.eq_3, kIt.eq_4, kP.eq_1, kR1.eq_1, kR2.eq_1, sAdd.eq_1, sAdd.eq_2, sAdd.eq_3, sAdd.eq_4, sJ2.eq_1, sI2.eq_1, sPow, sLt.eq_1, sLt.eq_2, sLe, sGt, sGe, sMul.eq_1, sMul.eq_2, sMulB.eq_1, sMulB.eq_2, sMulB.eq_3, sLR1.eq_1, sLR2.eq_1, sTR1.eq_1, sTR2.eq_1, sIsBl.eq_1, dZip, kZip.eq_1, dDisp1, dIxW, dLenW, dName, dAppW, dPutW, dMelt, dCallBE, kIxW.eq_1, kLenW.eq_1, dLcW, kIxW_lst, kIxW_tup, kIxW_scr, kIxW_str, kIxW_dK, kIxW_dT, kLenW_lst, kLenW_tup, kLenW_scr, kLenW_str, kNm_f, kNm_t, kName, isL.eq_1, isL.eq_2, sNeg.eq_1, sLen.eq_1, sLen.eq_2, sLen.eq_3, sLen.eq_4, sLen.eq_5, sAbs.eq_1, sMax, sMin, sInt.eq_1, sInt.eq_2, sStr.eq_1, sList.eq_1, sList.eq_2, sList.eq_3, sTuple.eq_1, sTuple.eq_2, sTuple.eq_3, sIsN, sNotN, sIx.eq_1, sIx.eq_2, sIx.eq_3, sIx.eq_4, sIx.eq_5, sIx.eq_6, sIx.eq_7, sSl.eq_1, sSl.eq_2, sSl.eq_3, sSl.eq_4, sRev.eq_1, sRev.eq_2, sRev.eq_3, sAddI.eq_1, sAddI.eq_2, sPut.eq_1, sPut.eq_2, sPut.eq_3, sPut.eq_4, D.isNon, sEq_ii, sNe_ii, sEq_ww, sNe_ww, sEq_ll, sNe_ll, sIsi_ii, sIsi_ib, sIsi_ll, sIsi_tt, sIsi_ss, sEq_w, sEq_i, sEq_lw, sEq_lw', sEq_lle, sEq_lle', sNe_w, sNe_i, sNe_lle', sNe_lw', sEq_ss, sNe_ss, sEq_bb, sNe_bb, sIn_iw, sIn_ii, sIn_wl, sIn_wl', sSl3.eq_1, sSl3.eq_2, dSl3, isS.eq_1, isL.eq_1, isL.eq_2, isA.eq_1, dM0, dM1, sUpper.eq_1, sLower.eq_1, sStrip1.eq_1, sSfind.eq_1, sScount.eq_1, sSindex.eq_1, sSsplit.eq_1, sSjoin.eq_1, sSjoin.eq_2, fPop_snoc, fPop_snoc', startD, wipeD, List.map_cons, List.map_nil, List.length_cons, List.length_nil, List.length_map, List.cons_append, List.nil_append, List.replicate, List.set_cons_zero, List.set_cons_succ, List.set_nil, List.getElem?_cons_zero, List.getElem?_cons_succ, Bool.true_and, Bool.and_true, Bool.and_false, Bool.false_and, Bool.not_true, Bool.not_false, if_true, if_false, Bool.false_eq_true, reduceIte, and_true, true_and, decide_true, decide_false, not_true, Nat.zero_le, Nat.zero_add, Nat.reduceAdd, Nat.reduceSub, D.scal, Option.some.injEq, exists_eq_left', exists_eq_left, exists_eq', D.int.injEq, D.lst.injEq, D.tup.injEq, D.scr.injEq, D.str.injEq, List.cons.injEq, and_self]
    refine ⟨wD ((wv L r).getD []), ?_, hP _⟩
    rw [wv_val]
    cases e : wv L r with
    | none => exact absurd e hw
    | some v => rfl
  · rw [List.nil_append]
    have key : ∀ (r : Nat) (u : List Int), ((List.range n).map fun k => (wv L k).getD [])[r]? = some u → (r, u) ∈ L := fun r u hu => by
      rw [List.getElem?_map] at hu
      have hr : r < n := by
        cases e : (List.range n)[r]? with
        | none => rw [e] at hu; cases hu
        | some v => have := (List.getElem?_eq_some_iff.mp e).1; simpa using this
      rw [List.getElem?_range hr] at hu
      have hw : wv L r ≠ none := fun z => wv_none.mp z (hfull r hr)
      cases e : wv L r with
      | none => exact absurd e hw
      | some v =>
        simp only [Option.map_some, e, Option.getD_some, Option.some.injEq] at hu
        subst hu
        exact wv_mem e
    have := q ((List.range n).map fun k => (wv L k).getD []) ⟨by simp, fun r u hu => by
      obtain ⟨_, a2, a3, a4⟩ := ok.ok _ (key r u hu)
      have := ok.len
      exact ⟨a2, a3, by dsimp only at a4; omega⟩, fun r u v hu hv hv2 => by
      obtain ⟨q, hq, e1, e2⟩ := hmin v.length v rfl hv
      have := huq q (r, u) hq (key r u hu) (by rw [e1, hv2])
      subst this
      exact e2⟩
    simp only [lwD, List.map_map, Function.comp_def] at this
    exact this

def T_Lat : DSp W_ := fun ds w P => ∃ (ns : List Int) (k : Int), ds = [.scr ns, .int k] ∧ 0 ≤ k ∧ k ≤ 1000 ∧ ∀ x : Int, P false (.int x) w
theorem len_Lat (ds : List D) (w : W_.Om) (P : Bool → D → W_.Om → Prop) (h : T_Lat ds w P) : ds.length = 2 := by first | (have h := h.1; subst h; rfl) | (obtain ⟨rfl, _⟩ := h; rfl) | (obtain ⟨_, rfl, _⟩ := h; rfl) | (obtain ⟨_, _, rfl, _⟩ := h; rfl) | (obtain ⟨_, _, _, rfl, _⟩ := h; rfl) | (obtain ⟨_, _, _, _, rfl, _⟩ := h; rfl) | (obtain ⟨_, _, _, _, _, rfl, _⟩ := h; rfl) | (obtain ⟨_, _, _, _, _, _, rfl, _⟩ := h; rfl) | (obtain ⟨_, _, _, _, _, _, _, rfl, _⟩ := h; rfl) | (obtain ⟨_, _, _, _, _, _, _, _, rfl, _⟩ := h; rfl) | (obtain ⟨_, _, _, _, _, _, _, _, _, rfl, _⟩ := h; rfl) | (obtain ⟨_, _, _, _, _, _, _, _, _, _, rfl, _⟩ := h; rfl) | (obtain ⟨_, _, _, _, _, _, _, _, _, _, _, rfl, _⟩ := h; rfl)
def b_Lat : DS W_ := (dSeq (dIf (dB (dBin sLt (dVarR 1) (oX (dLenW (dVarR 0))))) (dRet (dIxW (dVarR 0) (dVarR 1))) dNext)
    (dRet (dBin sAdd (oX (dBin sMulB (oX (dC (.int 11))) (dVarR 1))) (oX (dC (.int 4))))))
theorem v_Lat (ds : List D) (w : W_.Om) (P : Bool → D → W_.Om → Prop) (h : T_Lat ds w P) : b_Lat { nx := fun _ w => P false .non w, rt := P } (startD ["_law_script", "_law_k"] ds) w := by
  unfold b_Lat
  obtain ⟨ns, k, rfl, h0, h1, q⟩ := h
  refine seq_i ?_
  try simp -implicitDefEqProofs only [dNext, dSet, dLst, dTup, dNil, dCons, dConsO, dFor, dRng1_u, dRng2_u, dIt_u, oX, dC, dBin, dUn, dVarR, dVar, dApp, dExt, dUpd0, dPut, dAug, dRet, dRetV, dRetN, dBreak, dCont, dIf, dB_u, dTru_u, dTNot, dTAnd, dTOr, dAndV_u, dOrV_u, dNotV_u, dIfX, dChain_u, dCall, dCallB, dSl, dNoP, dP_u, dLc, dDrop, dFrz, frzD, dAsg, dDicK, dDicT, gN, gT, gsC, gsN, kB.eq_1, kT.eq_1, kT.eq_2, kT.eq_3, kT.eq_4, kT.eq_5, kT.eq_6, kT.eq_7, kT.eq_8, kAnd.eq_1, kOr.eq_1, kNot.eq_1, kIt.eq_1, kIt.eq_2, kIt.eq_3, kIt.eq_4, kP.eq_1, kR1.eq_1, kR2.eq_1, sAdd.eq_1, sAdd.eq_2, sAdd.eq_3, sAdd.eq_4, sJ2.eq_1, sI2.eq_1, sPow, sLt.eq_1, sLt.eq_2, sLe, sGt, sGe, sMul.eq_1, sMul.eq_2, sMulB.eq_1, sMulB.eq_2, sMulB.eq_3, sLR1.eq_1, sLR2.eq_1, sTR1.eq_1, sTR2.eq_1, sIsBl.eq_1, dZip, kZip.eq_1, dDisp1, dIxW, dLenW, dName, dAppW, dPutW, dMelt, dCallBE, kIxW.eq_1, kLenW.eq_1, dLcW, kIxW_lst, kIxW_tup, kIxW_scr, kIxW_str, kIxW_dK, kIxW_dT, kLenW_lst, kLenW_tup, kLenW_scr, kLenW_str, kNm_f, kNm_t, kName, isL.eq_1, isL.eq_2, sNeg.eq_1, sLen.eq_1, sLen.eq_2, sLen.eq_3, sLen.eq_4, sLen.eq_5, sAbs.eq_1, sMax, sMin, sInt.eq_1, sInt.eq_2, sStr.eq_1, sList.eq_1, sList.eq_2, sList.eq_3, sTuple.eq_1, sTuple.eq_2, sTuple.eq_3, sIsN, sNotN, sIx.eq_1, sIx.eq_2, sIx.eq_3, sIx.eq_4, sIx.eq_5, sIx.eq_6, sIx.eq_7, sSl.eq_1, sSl.eq_2, sSl.eq_3, sSl.eq_4, sRev.eq_1, sRev.eq_2, sRev.eq_3, sAddI.eq_1, sAddI.eq_2, sPut.eq_1, sPut.eq_2, sPut.eq_3, sPut.eq_4, D.isNon, sEq_ii, sNe_ii, sEq_ww, sNe_ww, sEq_ll, sNe_ll, sIsi_ii, sIsi_ib, sIsi_ll, sIsi_tt, sIsi_ss, sEq_w, sEq_i, sEq_lw, sEq_lw', sEq_lle, sEq_lle', sNe_w, sNe_i, sNe_lle', sNe_lw', sEq_ss, sNe_ss, sEq_bb, sNe_bb, sIn_iw, sIn_ii, sIn_wl, sIn_wl', sSl3.eq_1, sSl3.eq_2, dSl3, isS.eq_1, isL.eq_1, isL.eq_2, isA.eq_1, dM0, dM1, sUpper.eq_1, sLower.eq_1, sStrip1.eq_1, sSfind.eq_1, sScount.eq_1, sSindex.eq_1, sSsplit.eq_1, sSjoin.eq_1, sSjoin.eq_2, fPop_snoc, fPop_snoc', startD, wipeD, List.map_cons, List.map_nil, List.length_cons, List.length_nil, List.length_map, List.cons_append, List.nil_append, List.replicate, List.set_cons_zero, List.set_cons_succ, List.set_nil, List.getElem?_cons_zero, List.getElem?_cons_succ, Bool.true_and, Bool.and_true, Bool.and_false, Bool.false_and, Bool.not_true, Bool.not_false, if_true, if_false, Bool.false_eq_true, reduceIte, and_true, true_and, decide_true, decide_false, not_true, Nat.zero_le, Nat.zero_add, Nat.reduceAdd, Nat.reduceSub, D.scal]
  split
  · next hk =>
    simp at hk
    exact ⟨ns[k.toNat], by rw [atI_nn h0 hk]; simp, q _⟩
  · try simp -implicitDefEqProofs only [dNext, dSet, dLst, dTup, dNil, dCons, dConsO, dFor, dRng1_u, dRng2_u, dIt_u, oX, dC, dBin, dUn, dVarR, dVar, dApp, dExt, dUpd0, dPut, dAug, dRet, dRetV, dRetN, dBreak, dCont, dIf, dB_u, dTru_u, dTNot, dTAnd, dTOr, dAndV_u, dOrV_u, dNotV_u, dIfX, dChain_u, dCall, dCallB, dSl, dNoP, dP_u, dLc, dDrop, dFrz, frzD, dAsg, dDicK, dDicT, gN, gT, gsC, gsN, kB.eq_1, kT.eq_1, kT.eq_2, kT.eq_3, kT.eq_4, kT.eq_5, kT.eq_6, kT.eq_7, kT.eq_8, kAnd.eq_1, kOr.eq_1, kNot.eq_1, kIt.eq_1, kIt.eq_2, kIt.eq_3, kIt.eq_4, kP.eq_1, kR1.eq_1, kR2.eq_1, sAdd.eq_1, sAdd.eq_2, sAdd.eq_3, sAdd.eq_4, sJ2.eq_1, sI2.eq_1, sPow, sLt.eq_1, sLt.eq_2, sLe, sGt, sGe, sMul.eq_1, sMul.eq_2, sMulB.eq_1, sMulB.eq_2, sMulB.eq_3, sLR1.eq_1, sLR2.eq_1, sTR1.eq_1, sTR2.eq_1, sIsBl.eq_1, dZip, kZip.eq_1, dDisp1, dIxW, dLenW, dName, dAppW, dPutW, dMelt, dCallBE, kIxW.eq_1, kLenW.eq_1, dLcW, kIxW_lst, kIxW_tup, kIxW_scr, kIxW_str, kIxW_dK, kIxW_dT, kLenW_lst, kLenW_tup, kLenW_scr, kLenW_str, kNm_f, kNm_t, kName, isL.eq_1, isL.eq_2, sNeg.eq_1, sLen.eq_1, sLen.eq_2, sLen.eq_3, sLen.eq_4, sLen.eq_5, sAbs.eq_1, sMax, sMin, sInt.eq_1, sInt.eq_2, sStr.eq_1, sList.eq_1, sList.eq_2, sList.eq_3, sTuple.eq_1, sTuple.eq_2, sTuple.eq_3, sIsN, sNotN, sIx.eq_1, sIx.eq_2, sIx.eq_3, sIx.eq_4, sIx.eq_5, sIx.eq_6, sIx.eq_7, sSl.eq_1, sSl.eq_2, sSl.eq_3, sSl.eq_4, sRev.eq_1, sRev.eq_2, sRev.eq_3, sAddI.eq_1, sAddI.eq_2, sPut.eq_1, sPut.eq_2, sPut.eq_3, sPut.eq_4, D.isNon, sEq_ii, sNe_ii, sEq_ww, sNe_ww, sEq_ll, sNe_ll, sIsi_ii, sIsi_ib, sIsi_ll, sIsi_tt, sIsi_ss, sEq_w, sEq_i, sEq_lw, sEq_lw', sEq_lle, sEq_lle', sNe_w, sNe_i, sNe_lle', sNe_lw', sEq_ss, sNe_ss, sEq_bb, sNe_bb, sIn_iw, sIn_ii, sIn_wl, sIn_wl', sSl3.eq_1, sSl3.eq_2, dSl3, isS.eq_1, isL.eq_1, isL.eq_2, isA.eq_1, dM0, dM1, sUpper.eq_1, sLower.eq_1, sStrip1.eq_1, sSfind.eq_1, sScount.eq_1, sSindex.eq_1, sSsplit.eq_1, sSjoin.eq_1, sSjoin.eq_2, fPop_snoc, fPop_snoc', startD, wipeD, List.map_cons, List.map_nil, List.length_cons, List.length_nil, List.length_map, List.cons_append, List.nil_append, List.replicate, List.set_cons_zero, List.set_cons_succ, List.set_nil, List.getElem?_cons_zero, List.getElem?_cons_succ, Bool.true_and, Bool.and_true, Bool.and_false, Bool.false_and, Bool.not_true, Bool.not_false, if_true, if_false, Bool.false_eq_true, reduceIte, and_true, true_and, decide_true, decide_false, not_true, Nat.zero_le, Nat.zero_add, Nat.reduceAdd, Nat.reduceSub, D.scal, Option.some.injEq, exists_eq_left', exists_eq_left, exists_eq', D.int.injEq, D.lst.injEq, D.tup.injEq, D.scr.injEq, D.str.injEq, List.cons.injEq, and_self]
    exact ⟨mulC (by decide) (by decide), q _⟩
def T_Lmix : DSp W_ := fun ds w P => ∃ n p : Int, ds = [.int n, .int p] ∧ 0 ≤ p ∧ p ≤ 1000 ∧ ∀ x : Int, P false (.int x) w
theorem len_Lmix (ds : List D) (w : W_.Om) (P : Bool → D → W_.Om → Prop) (h : T_Lmix ds w P) : ds.length = 2 := by first | (have h := h.1; subst h; rfl) | (obtain ⟨rfl, _⟩ := h; rfl) | (obtain ⟨_, rfl, _⟩ := h; rfl) | (obtain ⟨_, _, rfl, _⟩ := h; rfl) | (obtain ⟨_, _, _, rfl, _⟩ := h; rfl) | (obtain ⟨_, _, _, _, rfl, _⟩ := h; rfl) | (obtain ⟨_, _, _, _, _, rfl, _⟩ := h; rfl) | (obtain ⟨_, _, _, _, _, _, rfl, _⟩ := h; rfl) | (obtain ⟨_, _, _, _, _, _, _, rfl, _⟩ := h; rfl) | (obtain ⟨_, _, _, _, _, _, _, _, rfl, _⟩ := h; rfl) | (obtain ⟨_, _, _, _, _, _, _, _, _, rfl, _⟩ := h; rfl) | (obtain ⟨_, _, _, _, _, _, _, _, _, _, rfl, _⟩ := h; rfl) | (obtain ⟨_, _, _, _, _, _, _, _, _, _, _, rfl, _⟩ := h; rfl)
def b_Lmix : DS W_ := (dSeq (dSet false 2 (dBin sMod (oX (dBin sMulB (oX (dBin sAdd (oX (dBin sAdd (oX (dBin sMod (dVarR 0) (oX (dC (.int 2147483629))))) (dVarR 1))) (oX (dC (.int 1))))) (oX (dBin sAdd (oX (dBin sMulB (oX (dBin sMulB (oX (dC (.int 8))) (dVarR 1))) (dVarR 1))) (oX (dC (.int 48271))))))) (oX (dC (.int 2147483647)))))
    (dRet (dBin sMod (oX (dBin sMulB (dVarR 2) (dVarR 2))) (oX (dC (.int 2147483587))))))
theorem v_Lmix (ds : List D) (w : W_.Om) (P : Bool → D → W_.Om → Prop) (h : T_Lmix ds w P) : b_Lmix { nx := fun _ w => P false .non w, rt := P } (startD ["_law_number", "_law_place", "_law_part"] ds) w := by
  unfold b_Lmix
  obtain ⟨n, p, rfl, h0, h1, q⟩ := h
  refine seq_i ?_
  try simp -implicitDefEqProofs only [dNext, dSet, dLst, dTup, dNil, dCons, dConsO, dFor, dRng1_u, dRng2_u, dIt_u, oX, dC, dBin, dUn, dVarR, dVar, dApp, dExt, dUpd0, dPut, dAug, dRet, dRetV, dRetN, dBreak, dCont, dIf, dB_u, dTru_u, dTNot, dTAnd, dTOr, dAndV_u, dOrV_u, dNotV_u, dIfX, dChain_u, dCall, dCallB, dSl, dNoP, dP_u, dLc, dDrop, dFrz, frzD, dAsg, dDicK, dDicT, gN, gT, gsC, gsN, kB.eq_1, kT.eq_1, kT.eq_2, kT.eq_3, kT.eq_4, kT.eq_5, kT.eq_6, kT.eq_7, kT.eq_8, kAnd.eq_1, kOr.eq_1, kNot.eq_1, kIt.eq_1, kIt.eq_2, kIt.eq_3, kIt.eq_4, kP.eq_1, kR1.eq_1, kR2.eq_1, sAdd.eq_1, sAdd.eq_2, sAdd.eq_3, sAdd.eq_4, sJ2.eq_1, sI2.eq_1, sPow, sLt.eq_1, sLt.eq_2, sLe, sGt, sGe, sMul.eq_1, sMul.eq_2, sMulB.eq_1, sMulB.eq_2, sMulB.eq_3, sLR1.eq_1, sLR2.eq_1, sTR1.eq_1, sTR2.eq_1, sIsBl.eq_1, dZip, kZip.eq_1, dDisp1, dIxW, dLenW, dName, dAppW, dPutW, dMelt, dCallBE, kIxW.eq_1, kLenW.eq_1, dLcW, kIxW_lst, kIxW_tup, kIxW_scr, kIxW_str, kIxW_dK, kIxW_dT, kLenW_lst, kLenW_tup, kLenW_scr, kLenW_str, kNm_f, kNm_t, kName, isL.eq_1, isL.eq_2, sNeg.eq_1, sLen.eq_1, sLen.eq_2, sLen.eq_3, sLen.eq_4, sLen.eq_5, sAbs.eq_1, sMax, sMin, sInt.eq_1, sInt.eq_2, sStr.eq_1, sList.eq_1, sList.eq_2, sList.eq_3, sTuple.eq_1, sTuple.eq_2, sTuple.eq_3, sIsN, sNotN, sIx.eq_1, sIx.eq_2, sIx.eq_3, sIx.eq_4, sIx.eq_5, sIx.eq_6, sIx.eq_7, sSl.eq_1, sSl.eq_2, sSl.eq_3, sSl.eq_4, sRev.eq_1, sRev.eq_2, sRev.eq_3, sAddI.eq_1, sAddI.eq_2, sPut.eq_1, sPut.eq_2, sPut.eq_3, sPut.eq_4, D.isNon, sEq_ii, sNe_ii, sEq_ww, sNe_ww, sEq_ll, sNe_ll, sIsi_ii, sIsi_ib, sIsi_ll, sIsi_tt, sIsi_ss, sEq_w, sEq_i, sEq_lw, sEq_lw', sEq_lle, sEq_lle', sNe_w, sNe_i, sNe_lle', sNe_lw', sEq_ss, sNe_ss, sEq_bb, sNe_bb, sIn_iw, sIn_ii, sIn_wl, sIn_wl', sSl3.eq_1, sSl3.eq_2, dSl3, isS.eq_1, isL.eq_1, isL.eq_2, isA.eq_1, dM0, dM1, sUpper.eq_1, sLower.eq_1, sStrip1.eq_1, sSfind.eq_1, sScount.eq_1, sSindex.eq_1, sSsplit.eq_1, sSjoin.eq_1, sSjoin.eq_2, fPop_snoc, fPop_snoc', startD, wipeD, List.map_cons, List.map_nil, List.length_cons, List.length_nil, List.length_map, List.cons_append, List.nil_append, List.replicate, List.set_cons_zero, List.set_cons_succ, List.set_nil, List.getElem?_cons_zero, List.getElem?_cons_succ, Bool.true_and, Bool.and_true, Bool.and_false, Bool.false_and, Bool.not_true, Bool.not_false, if_true, if_false, Bool.false_eq_true, reduceIte, and_true, true_and, decide_true, decide_false, not_true, Nat.zero_le, Nat.zero_add, Nat.reduceAdd, Nat.reduceSub, D.scal]
  refine ⟨by decide, mulC (by omega) (by omega), mulC (by omega) (by omega), mulC (by have := mod_bd n (j := 2147483629) (by omega); omega) (by have := mod_bd n (j := 2147483629) (by omega); omega), by omega, ?_⟩
  generalize hx : ((n % 2147483629 + p + 1) * (8 * p * p + 48271)) % 2147483647 = x
  have hb := mod_bd ((n % 2147483629 + p + 1) * (8 * p * p + 48271)) (j := 2147483647) (by omega)
  rw [hx] at hb
  try simp -implicitDefEqProofs only [dNext, dSet, dLst, dTup, dNil, dCons, dConsO, dFor, dRng1_u, dRng2_u, dIt_u, oX, dC, dBin, dUn, dVarR, dVar, dApp, dExt, dUpd0, dPut, dAug, dRet, dRetV, dRetN, dBreak, dCont, dIf, dB_u, dTru_u, dTNot, dTAnd, dTOr, dAndV_u, dOrV_u, dNotV_u, dIfX, dChain_u, dCall, dCallB, dSl, dNoP, dP_u, dLc, dDrop, dFrz, frzD, dAsg, dDicK, dDicT, gN, gT, gsC, gsN, kB.eq_1, kT.eq_1, kT.eq_2, kT.eq_3, kT.eq_4, kT.eq_5, kT.eq_6, kT.eq_7, kT.eq_8, kAnd.eq_1, kOr.eq_1, kNot.eq_1, kIt.eq_1, kIt.eq_2, kIt.eq_3, kIt.eq_4, kP.eq_1, kR1.eq_1, kR2.eq_1, sAdd.eq_1, sAdd.eq_2, sAdd.eq_3, sAdd.eq_4, sJ2.eq_1, sI2.eq_1, sPow, sLt.eq_1, sLt.eq_2, sLe, sGt, sGe, sMul.eq_1, sMul.eq_2, sMulB.eq_1, sMulB.eq_2, sMulB.eq_3, sLR1.eq_1, sLR2.eq_1, sTR1.eq_1, sTR2.eq_1, sIsBl.eq_1, dZip, kZip.eq_1, dDisp1, dIxW, dLenW, dName, dAppW, dPutW, dMelt, dCallBE, kIxW.eq_1, kLenW.eq_1, dLcW, kIxW_lst, kIxW_tup, kIxW_scr, kIxW_str, kIxW_dK, kIxW_dT, kLenW_lst, kLenW_tup, kLenW_scr, kLenW_str, kNm_f, kNm_t, kName, isL.eq_1, isL.eq_2, sNeg.eq_1, sLen.eq_1, sLen.eq_2, sLen.eq_3, sLen.eq_4, sLen.eq_5, sAbs.eq_1, sMax, sMin, sInt.eq_1, sInt.eq_2, sStr.eq_1, sList.eq_1, sList.eq_2, sList.eq_3, sTuple.eq_1, sTuple.eq_2, sTuple.eq_3, sIsN, sNotN, sIx.eq_1, sIx.eq_2, sIx.eq_3, sIx.eq_4, sIx.eq_5, sIx.eq_6, sIx.eq_7, sSl.eq_1, sSl.eq_2, sSl.eq_3, sSl.eq_4, sRev.eq_1, sRev.eq_2, sRev.eq_3, sAddI.eq_1, sAddI.eq_2, sPut.eq_1, sPut.eq_2, sPut.eq_3, sPut.eq_4, D.isNon, sEq_ii, sNe_ii, sEq_ww, sNe_ww, sEq_ll, sNe_ll, sIsi_ii, sIsi_ib, sIsi_ll, sIsi_tt, sIsi_ss, sEq_w, sEq_i, sEq_lw, sEq_lw', sEq_lle, sEq_lle', sNe_w, sNe_i, sNe_lle', sNe_lw', sEq_ss, sNe_ss, sEq_bb, sNe_bb, sIn_iw, sIn_ii, sIn_wl, sIn_wl', sSl3.eq_1, sSl3.eq_2, dSl3, isS.eq_1, isL.eq_1, isL.eq_2, isA.eq_1, dM0, dM1, sUpper.eq_1, sLower.eq_1, sStrip1.eq_1, sSfind.eq_1, sScount.eq_1, sSindex.eq_1, sSsplit.eq_1, sSjoin.eq_1, sSjoin.eq_2, fPop_snoc, fPop_snoc', startD, wipeD, List.map_cons, List.map_nil, List.length_cons, List.length_nil, List.length_map, List.cons_append, List.nil_append, List.replicate, List.set_cons_zero, List.set_cons_succ, List.set_nil, List.getElem?_cons_zero, List.getElem?_cons_succ, Bool.true_and, Bool.and_true, Bool.and_false, Bool.false_and, Bool.not_true, Bool.not_false, if_true, if_false, Bool.false_eq_true, reduceIte, and_true, true_and, decide_true, decide_false, not_true, Nat.zero_le, Nat.zero_add, Nat.reduceAdd, Nat.reduceSub, D.scal, Option.some.injEq, exists_eq_left', exists_eq_left, exists_eq', D.int.injEq, D.lst.injEq, D.tup.injEq, D.scr.injEq, D.str.injEq, List.cons.injEq, and_self]
  exact ⟨mulC (by omega) (by omega), by omega, q _⟩
theorem set_ap {l : List Nat} {i v x : Nat} (hi : i < l.length) : ap (l.set i v) x = if x = i then v else ap l x := by
  unfold ap
  rw [List.getElem?_set]
  by_cases h : i = x
  · subst h; simp [hi]
  · rw [if_neg h, if_neg (fun e => h e.symm)]
theorem nset (l : List Nat) (i v : Nat) : (l.map fun n : Nat => D.int n).set i (.int v) = (l.set i v).map fun n : Nat => D.int n := by rw [List.map_set]
theorem ixN_nat {n i : Nat} (h : i < n) : ixN n (i : Int) = some i := by
  unfold ixN
  rw [if_pos (by omega), if_pos (by omega), Int.toNat_natCast]
def iN (t : List Nat) : List D := t.map fun n : Nat => D.int n
/-- a: the name of a list of the lists cs, that hold ts -/
structure TW (w : Mem) (a : Addr) (cs : List Addr) (ts : List (List Nat)) : Prop where
  ha : w a = some (cs.map D.ref)
  len : cs.length = ts.length
  nd : cs.Nodup
  na : a ∉ cs
  row : ∀ (i : Nat) (c : Addr) (t : List Nat), cs[i]? = some c → ts[i]? = some t → w c = some (iN t)
theorem TW.put {w : Mem} {a : Addr} {cs : List Addr} {ts : List (List Nat)} (h : TW w a cs ts) {i : Nat} {c : Addr} (hc : cs[i]? = some c) (t : List Nat) : TW (updM w c (iN t)) a cs (ts.set i t) := by
  have hne : a ≠ c := fun e => h.na (e ▸ List.mem_of_getElem? hc)
  refine ⟨by rw [updM_ne hne]; exact h.ha, by rw [List.length_set]; exact h.len, h.nd, h.na, fun j d u hj hu => ?_⟩
  by_cases e : j = i
  · subst e
    rw [hc] at hj
    cases hj
    have hl := (List.getElem?_eq_some_iff.mp hc).1
    rw [List.getElem?_set_self (by rw [← h.len]; exact hl)] at hu
    cases hu
    exact updM_same
  · rw [List.getElem?_set_ne (fun z => e z.symm)] at hu
    have hd : d ≠ c := fun z => e (nodup_same h.nd (z ▸ hj) hc)
    rw [updM_ne hd]
    exact h.row j d u hj hu
theorem TW.new {w : Mem} {a : Addr} {cs : List Addr} {ts : List (List Nat)} (h : TW w a cs ts) {i : Nat} (hi : i < cs.length) {c : Addr} (hc : w c = none) (t : List Nat) : TW (updM (updM w c (iN t)) a ((cs.map D.ref).set i (.ref c))) a (cs.set i c) (ts.set i t) := by
  have hca : c ≠ a := fun e => by rw [e, h.ha] at hc; cases hc
  have hcc : c ∉ cs := fun hm => by
    obtain ⟨j, hj⟩ := List.mem_iff_getElem?.mp hm
    have hl := (List.getElem?_eq_some_iff.mp hj).1
    rw [h.row j c _ hj (List.getElem?_eq_getElem (by rw [← h.len]; exact hl))] at hc
    cases hc
  refine ⟨by rw [updM_same, List.map_set], by simp [h.len], ?_, fun hm => ?_, fun j d u hj hu => ?_⟩
  · refine List.pairwise_iff_getElem.mpr fun j k hj hk hjk e => ?_
    simp at hj hk
    rw [List.getElem_set, List.getElem_set] at e
    split at e <;> split at e
    · omega
    · exact hcc (e ▸ List.getElem_mem _)
    · exact hcc (e ▸ List.getElem_mem _)
    · exact List.pairwise_iff_getElem.mp h.nd j k hj hk hjk e
  · rcases List.mem_or_eq_of_mem_set hm with h' | h'
    · exact h.na h'
    · exact hca h'.symm
  · by_cases e : j = i
    · subst e
      rw [List.getElem?_set_self hi] at hj
      rw [List.getElem?_set_self (by rw [← h.len]; exact hi)] at hu
      cases hj; cases hu
      rw [updM_ne hca, updM_same]
    · rw [List.getElem?_set_ne (fun z => e z.symm)] at hj hu
      have hm := List.mem_of_getElem? hj
      have h1 : d ≠ a := fun z => h.na (z ▸ hm)
      have h2 : d ≠ c := fun z => hcc (z ▸ hm)
      rw [updM_ne h1, updM_ne h2]
      exact h.row j d u hj hu
theorem pm_swap {p u v : Nat} {t : List Nat} (ht : Pm p t) (hu : u < p) (hv : v < p) : Pm p ((t.set u (ap t v)).set v (ap t u)) := by
  have e : ∀ x, ap ((t.set u (ap t v)).set v (ap t u)) x = ap t (if x = v then u else if x = u then v else x) := by
    intro x
    rw [set_ap (by rw [List.length_set, ht.len]; exact hv), set_ap (by rw [ht.len]; exact hu)]
    split
    · rfl
    · split <;> rfl
  refine pm_of (by simp [ht.len]) (fun x hx => ?_) (fun x y hx hy h => ?_)
  · rw [e]
    refine ap_lt ht ?_
    split
    · exact hu
    · split
      · exact hv
      · exact hx
  · rw [e, e] at h
    have := ap_inj ht (by split <;> (try split) <;> omega) (by split <;> (try split) <;> omega) h
    split at this <;> split at this <;> (try split at this) <;> (try split at this) <;> omega
theorem TW.rows {w : Mem} {a : Addr} {cs : List Addr} {ts : List (List Nat)} (h : TW w a cs ts) : ∃ rows : List (Addr × List D), w a = some (rows.map fun r => D.ref r.1) ∧ (∀ r ∈ rows, w r.1 = some r.2) ∧ (rows.map fun r => D.lst r.2) = ts.map nL := by
  refine ⟨List.zipWith (fun c t => (c, iN t)) cs ts, ?_, fun r hr => ?_, ?_⟩
  · rw [h.ha]
    congr 1
    refine List.ext_getElem (by simp [h.len]) fun i h1 h2 => ?_
    simp
  · obtain ⟨i, hi⟩ := List.mem_iff_getElem?.mp hr
    rw [List.getElem?_zipWith] at hi
    cases e1 : cs[i]? with
    | none => rw [e1] at hi; simp at hi
    | some c =>
      cases e2 : ts[i]? with
      | none => rw [e1, e2] at hi; simp at hi
      | some t =>
        rw [e1, e2] at hi
        cases hi
        exact h.row i c t e1 e2
  · refine List.ext_getElem (by simp [h.len]) fun i h1 h2 => ?_
    simp [nL, iN]
def T_Lturns : DSp W_ := fun ds w P => ∃ (ns : List Int) (l p : Nat), ds = [.scr ns, .int l, .int p] ∧ w = noMem ∧ ns.length ≤ 63 ∧ 1 ≤ l ∧ l ≤ 40 ∧ 1 ≤ p ∧ p ≤ 300 ∧ ∀ ts : List (List Nat), ts.length = l → Tns p ts → P false (.lst (ts.map nL)) noMem
theorem emp_Lturns (ds : List D) (w : W_.Om) (P : Bool → D → W_.Om → Prop) (h : T_Lturns ds w P) : w = noMem := by obtain ⟨_, _, _, _, h, _⟩ := h; exact h
theorem len_Lturns (ds : List D) (w : W_.Om) (P : Bool → D → W_.Om → Prop) (h : T_Lturns ds w P) : ds.length = 3 := by first | (have h := h.1; subst h; rfl) | (obtain ⟨rfl, _⟩ := h; rfl) | (obtain ⟨_, rfl, _⟩ := h; rfl) | (obtain ⟨_, _, rfl, _⟩ := h; rfl) | (obtain ⟨_, _, _, rfl, _⟩ := h; rfl) | (obtain ⟨_, _, _, _, rfl, _⟩ := h; rfl) | (obtain ⟨_, _, _, _, _, rfl, _⟩ := h; rfl) | (obtain ⟨_, _, _, _, _, _, rfl, _⟩ := h; rfl) | (obtain ⟨_, _, _, _, _, _, _, rfl, _⟩ := h; rfl) | (obtain ⟨_, _, _, _, _, _, _, _, rfl, _⟩ := h; rfl) | (obtain ⟨_, _, _, _, _, _, _, _, _, rfl, _⟩ := h; rfl) | (obtain ⟨_, _, _, _, _, _, _, _, _, _, rfl, _⟩ := h; rfl) | (obtain ⟨_, _, _, _, _, _, _, _, _, _, _, rfl, _⟩ := h; rfl)
def b_Lturns : DS W_ := (dSeq (dName 3 (dSet true 3 (dLcW (dRng1 (dVarR 1)) (gN 10) dYes (dUn sLR1 (dVarR 2)) [10])))
    (dSeq (dIf (dB (dBin sGt (oX (dBin sMod (oX (dCall T_Lat (dCons (dVar 0) (dCons (dC (.int 1)) dNil)))) (oX (dC (.int 4))))) (oX (dC (.int 0))))) (dPutW true (dVarR 3) (oX (dC (.int 0))) (dBin sAdd (oX (dBin sLR2 (oX (dC (.int 1))) (dVarR 2))) (oX (dLst (dCons (dC (.int 0)) dNil))))) dNext)
    (dSeq (dFor (dIt (dSl (dVarR 0) (dP (oX (dC (.int 2)))) (dP (oX (dC (.int 202)))))) (gN 4) (dSeq (dSet false 5 (dCall T_Lmix (dCons (dVar 4) (dCons (dC (.int 1)) dNil))))
    (dSeq (dSet false 6 (dIxW (dVarR 3) (oX (dBin sMod (dVarR 5) (dVarR 1)))))
    (dSeq (dSet false 7 (dBin sMod (oX (dBin sFdiv (dVarR 5) (dVarR 1))) (dVarR 2)))
    (dSeq (dSet false 8 (dBin sMod (oX (dBin sFdiv (oX (dBin sFdiv (dVarR 5) (dVarR 1))) (dVarR 2))) (dVarR 2)))
    (dSeq (dSet false 9 (dIxW (dVarR 6) (dVarR 7)))
    (dSeq (dPutW false (dVarR 6) (dVarR 7) (dIxW (dVarR 6) (dVarR 8)))
    (dPutW false (dVarR 6) (dVarR 8) (dVar 9)))))))))
    (dMelt 3 (dRetV 3)))))
theorem v_Lturns (ds : List D) (w : W_.Om) (P : Bool → D → W_.Om → Prop) (h : T_Lturns ds w P) : b_Lturns { nx := fun _ w => P false .non w, rt := P } (startD ["_law_script", "_law_letters", "_law_points", "_law_turns_here", "_law_cell", "_law_number", "_law_row", "_law_one", "_law_two", "_law_kept", "_law_k"] ds) w := by
  unfold b_Lturns
  obtain ⟨ns, l, p, rfl, rfl, hn, hl1, hl40, hp1, hp300, q⟩ := h
  have hs := sizeLine_eq
  refine seq_i ?_
  try simp -implicitDefEqProofs only [dNext, dSet, dLst, dTup, dNil, dCons, dConsO, dFor, dRng1_u, dRng2_u, dIt_u, oX, dC, dBin, dUn, dVarR, dVar, dApp, dExt, dUpd0, dPut, dAug, dRet, dRetV, dRetN, dBreak, dCont, dIf, dB_u, dTru_u, dTNot, dTAnd, dTOr, dAndV_u, dOrV_u, dNotV_u, dIfX, dChain_u, dCall, dCallB, dSl, dNoP, dP_u, dLc, dDrop, dFrz, frzD, dAsg, dDicK, dDicT, gN, gT, gsC, gsN, kB.eq_1, kT.eq_1, kT.eq_2, kT.eq_3, kT.eq_4, kT.eq_5, kT.eq_6, kT.eq_7, kT.eq_8, kAnd.eq_1, kOr.eq_1, kNot.eq_1, kIt.eq_1, kIt.eq_2, kIt.eq_3, kIt.eq_4, kP.eq_1, kR1.eq_1, kR2.eq_1, sAdd.eq_1, sAdd.eq_2, sAdd.eq_3, sAdd.eq_4, sJ2.eq_1, sI2.eq_1, sPow, sLt.eq_1, sLt.eq_2, sLe, sGt, sGe, sMul.eq_1, sMul.eq_2, sMulB.eq_1, sMulB.eq_2, sMulB.eq_3, sLR1.eq_1, sLR2.eq_1, sTR1.eq_1, sTR2.eq_1, sIsBl.eq_1, dZip, kZip.eq_1, dDisp1, dIxW, dLenW, dName, dAppW, dPutW, dMelt, dCallBE, kIxW.eq_1, kLenW.eq_1, dLcW, kIxW_lst, kIxW_tup, kIxW_scr, kIxW_str, kIxW_dK, kIxW_dT, kLenW_lst, kLenW_tup, kLenW_scr, kLenW_str, kNm_f, kNm_t, kName, isL.eq_1, isL.eq_2, sNeg.eq_1, sLen.eq_1, sLen.eq_2, sLen.eq_3, sLen.eq_4, sLen.eq_5, sAbs.eq_1, sMax, sMin, sInt.eq_1, sInt.eq_2, sStr.eq_1, sList.eq_1, sList.eq_2, sList.eq_3, sTuple.eq_1, sTuple.eq_2, sTuple.eq_3, sIsN, sNotN, sIx.eq_1, sIx.eq_2, sIx.eq_3, sIx.eq_4, sIx.eq_5, sIx.eq_6, sIx.eq_7, sSl.eq_1, sSl.eq_2, sSl.eq_3, sSl.eq_4, sRev.eq_1, sRev.eq_2, sRev.eq_3, sAddI.eq_1, sAddI.eq_2, sPut.eq_1, sPut.eq_2, sPut.eq_3, sPut.eq_4, D.isNon, sEq_ii, sNe_ii, sEq_ww, sNe_ww, sEq_ll, sNe_ll, sIsi_ii, sIsi_ib, sIsi_ll, sIsi_tt, sIsi_ss, sEq_w, sEq_i, sEq_lw, sEq_lw', sEq_lle, sEq_lle', sNe_w, sNe_i, sNe_lle', sNe_lw', sEq_ss, sNe_ss, sEq_bb, sNe_bb, sIn_iw, sIn_ii, sIn_wl, sIn_wl', sSl3.eq_1, sSl3.eq_2, dSl3, isS.eq_1, isL.eq_1, isL.eq_2, isA.eq_1, dM0, dM1, sUpper.eq_1, sLower.eq_1, sStrip1.eq_1, sSfind.eq_1, sScount.eq_1, sSindex.eq_1, sSsplit.eq_1, sSjoin.eq_1, sSjoin.eq_2, fPop_snoc, fPop_snoc', startD, wipeD, List.map_cons, List.map_nil, List.length_cons, List.length_nil, List.length_map, List.cons_append, List.nil_append, List.replicate, List.set_cons_zero, List.set_cons_succ, List.set_nil, List.getElem?_cons_zero, List.getElem?_cons_succ, Bool.true_and, Bool.and_true, Bool.and_false, Bool.false_and, Bool.not_true, Bool.not_false, if_true, if_false, Bool.false_eq_true, reduceIte, and_true, true_and, decide_true, decide_false, not_true, Nat.zero_le, Nat.zero_add, Nat.reduceAdd, Nat.reduceSub, D.scal, Option.some.injEq, exists_eq_left', exists_eq_left, exists_eq', D.int.injEq, D.lst.injEq, D.tup.injEq, D.scr.injEq, D.str.injEq, List.cons.injEq, and_self]
  refine ⟨⟨by omega, by omega⟩, ?_⟩
  rw [Int.toNat_natCast]
  unfold rngD
  refine lcW_map (fun k : Nat => D.int (0 + (k : Nat))) (fun _ => iN (idP p)) (List.range l) noMem [] (fun k hk w P hP => ?_) (by simp; omega) fun rows w1 h1 h2 h3 h4 => ?_
  · try simp -implicitDefEqProofs only [dNext, dSet, dLst, dTup, dNil, dCons, dConsO, dFor, dRng1_u, dRng2_u, dIt_u, oX, dC, dBin, dUn, dVarR, dVar, dApp, dExt, dUpd0, dPut, dAug, dRet, dRetV, dRetN, dBreak, dCont, dIf, dB_u, dTru_u, dTNot, dTAnd, dTOr, dAndV_u, dOrV_u, dNotV_u, dIfX, dChain_u, dCall, dCallB, dSl, dNoP, dP_u, dLc, dDrop, dFrz, frzD, dAsg, dDicK, dDicT, gN, gT, gsC, gsN, kB.eq_1, kT.eq_1, kT.eq_2, kT.eq_3, kT.eq_4, kT.eq_5, kT.eq_6, kT.eq_7, kT.eq_8, kAnd.eq_1, kOr.eq_1, kNot.eq_1, kIt.eq_1, kIt.eq_2, kIt.eq_3, kIt.eq_4, kP.eq_1, kR1.eq_1, kR2.eq_1, sAdd.eq_1, sAdd.eq_2, sAdd.eq_3, sAdd.eq_4, sJ2.eq_1, sI2.eq_1, sPow, sLt.eq_1, sLt.eq_2, sLe, sGt, sGe, sMul.eq_1, sMul.eq_2, sMulB.eq_1, sMulB.eq_2, sMulB.eq_3, sLR1.eq_1, sLR2.eq_1, sTR1.eq_1, sTR2.eq_1, sIsBl.eq_1, dZip, kZip.eq_1, dDisp1, dIxW, dLenW, dName, dAppW, dPutW, dMelt, dCallBE, kIxW.eq_1, kLenW.eq_1, dLcW, kIxW_lst, kIxW_tup, kIxW_scr, kIxW_str, kIxW_dK, kIxW_dT, kLenW_lst, kLenW_tup, kLenW_scr, kLenW_str, kNm_f, kNm_t, kName, isL.eq_1, isL.eq_2, sNeg.eq_1, sLen.eq_1, sLen.eq_2, sLen.eq_3, sLen.eq_4, sLen.eq_5, sAbs.eq_1, sMax, sMin, sInt.eq_1, sInt.eq_2, sStr.eq_1, sList.eq_1, sList.eq_2, sList.eq_3, sTuple.eq_1, sTuple.eq_2, sTuple.eq_3, sIsN, sNotN, sIx.eq_1, sIx.eq_2, sIx.eq_3, sIx.eq_4, sIx.eq_5, sIx.eq_6, sIx.eq_7, sSl.eq_1, sSl.eq_2, sSl.eq_3, sSl.eq_4, sRev.eq_1, sRev.eq_2, sRev.eq_3, sAddI.eq_1, sAddI.eq_2, sPut.eq_1, sPut.eq_2, sPut.eq_3, sPut.eq_4, D.isNon, sEq_ii, sNe_ii, sEq_ww, sNe_ww, sEq_ll, sNe_ll, sIsi_ii, sIsi_ib, sIsi_ll, sIsi_tt, sIsi_ss, sEq_w, sEq_i, sEq_lw, sEq_lw', sEq_lle, sEq_lle', sNe_w, sNe_i, sNe_lle', sNe_lw', sEq_ss, sNe_ss, sEq_bb, sNe_bb, sIn_iw, sIn_ii, sIn_wl, sIn_wl', sSl3.eq_1, sSl3.eq_2, dSl3, isS.eq_1, isL.eq_1, isL.eq_2, isA.eq_1, dM0, dM1, sUpper.eq_1, sLower.eq_1, sStrip1.eq_1, sSfind.eq_1, sScount.eq_1, sSindex.eq_1, sSsplit.eq_1, sSjoin.eq_1, sSjoin.eq_2, fPop_snoc, fPop_snoc', startD, wipeD, List.map_cons, List.map_nil, List.length_cons, List.length_nil, List.length_map, List.cons_append, List.nil_append, List.replicate, List.set_cons_zero, List.set_cons_succ, List.set_nil, List.getElem?_cons_zero, List.getElem?_cons_succ, Bool.true_and, Bool.and_true, Bool.and_false, Bool.false_and, Bool.not_true, Bool.not_false, if_true, if_false, Bool.false_eq_true, reduceIte, and_true, true_and, decide_true, decide_false, not_true, Nat.zero_le, Nat.zero_add, Nat.reduceAdd, Nat.reduceSub, D.scal, Option.some.injEq, exists_eq_left', exists_eq_left, exists_eq', D.int.injEq, D.lst.injEq, D.tup.injEq, D.scr.injEq, D.str.injEq, List.cons.injEq, and_self]
    refine ⟨RgOk.of_le (by omega) (by omega) (by omega) (by omega), ?_⟩
    rw [rng_idL]
    exact hP
  rw [List.nil_append]
  try simp -implicitDefEqProofs only [dNext, dSet, dLst, dTup, dNil, dCons, dConsO, dFor, dRng1_u, dRng2_u, dIt_u, oX, dC, dBin, dUn, dVarR, dVar, dApp, dExt, dUpd0, dPut, dAug, dRet, dRetV, dRetN, dBreak, dCont, dIf, dB_u, dTru_u, dTNot, dTAnd, dTOr, dAndV_u, dOrV_u, dNotV_u, dIfX, dChain_u, dCall, dCallB, dSl, dNoP, dP_u, dLc, dDrop, dFrz, frzD, dAsg, dDicK, dDicT, gN, gT, gsC, gsN, kB.eq_1, kT.eq_1, kT.eq_2, kT.eq_3, kT.eq_4, kT.eq_5, kT.eq_6, kT.eq_7, kT.eq_8, kAnd.eq_1, kOr.eq_1, kNot.eq_1, kIt.eq_1, kIt.eq_2, kIt.eq_3, kIt.eq_4, kP.eq_1, kR1.eq_1, kR2.eq_1, sAdd.eq_1, sAdd.eq_2, sAdd.eq_3, sAdd.eq_4, sJ2.eq_1, sI2.eq_1, sPow, sLt.eq_1, sLt.eq_2, sLe, sGt, sGe, sMul.eq_1, sMul.eq_2, sMulB.eq_1, sMulB.eq_2, sMulB.eq_3, sLR1.eq_1, sLR2.eq_1, sTR1.eq_1, sTR2.eq_1, sIsBl.eq_1, dZip, kZip.eq_1, dDisp1, dIxW, dLenW, dName, dAppW, dPutW, dMelt, dCallBE, kIxW.eq_1, kLenW.eq_1, dLcW, kIxW_lst, kIxW_tup, kIxW_scr, kIxW_str, kIxW_dK, kIxW_dT, kLenW_lst, kLenW_tup, kLenW_scr, kLenW_str, kNm_f, kNm_t, kName, isL.eq_1, isL.eq_2, sNeg.eq_1, sLen.eq_1, sLen.eq_2, sLen.eq_3, sLen.eq_4, sLen.eq_5, sAbs.eq_1, sMax, sMin, sInt.eq_1, sInt.eq_2, sStr.eq_1, sList.eq_1, sList.eq_2, sList.eq_3, sTuple.eq_1, sTuple.eq_2, sTuple.eq_3, sIsN, sNotN, sIx.eq_1, sIx.eq_2, sIx.eq_3, sIx.eq_4, sIx.eq_5, sIx.eq_6, sIx.eq_7, sSl.eq_1, sSl.eq_2, sSl.eq_3, sSl.eq_4, sRev.eq_1, sRev.eq_2, sRev.eq_3, sAddI.eq_1, sAddI.eq_2, sPut.eq_1, sPut.eq_2, sPut.eq_3, sPut.eq_4, D.isNon, sEq_ii, sNe_ii, sEq_ww, sNe_ww, sEq_ll, sNe_ll, sIsi_ii, sIsi_ib, sIsi_ll, sIsi_tt, sIsi_ss, sEq_w, sEq_i, sEq_lw, sEq_lw', sEq_lle, sEq_lle', sNe_w, sNe_i, sNe_lle', sNe_lw', sEq_ss, sNe_ss, sEq_bb, sNe_bb, sIn_iw, sIn_ii, sIn_wl, sIn_wl', sSl3.eq_1, sSl3.eq_2, dSl3, isS.eq_1, isL.eq_1, isL.eq_2, isA.eq_1, dM0, dM1, sUpper.eq_1, sLower.eq_1, sStrip1.eq_1, sSfind.eq_1, sScount.eq_1, sSindex.eq_1, sSsplit.eq_1, sSjoin.eq_1, sSjoin.eq_2, fPop_snoc, fPop_snoc', startD, wipeD, List.map_cons, List.map_nil, List.length_cons, List.length_nil, List.length_map, List.cons_append, List.nil_append, List.replicate, List.set_cons_zero, List.set_cons_succ, List.set_nil, List.getElem?_cons_zero, List.getElem?_cons_succ, Bool.true_and, Bool.and_true, Bool.and_false, Bool.false_and, Bool.not_true, Bool.not_false, if_true, if_false, Bool.false_eq_true, reduceIte, and_true, true_and, decide_true, decide_false, not_true, Nat.zero_le, Nat.zero_add, Nat.reduceAdd, Nat.reduceSub, D.scal, Option.some.injEq, exists_eq_left', exists_eq_left, exists_eq', D.int.injEq, D.lst.injEq, D.tup.injEq, D.scr.injEq, D.str.injEq, List.cons.injEq, and_self]
  intro a ha
  have htw : TW (updM w1 a (rows.map fun r => D.ref r.1)) a (rows.map (·.1)) ((List.range l).map fun _ => idP p) := by
    have hna : a ∉ rows.map (·.1) := fun hm => by
      obtain ⟨r, hr, e⟩ := List.mem_map.mp hm
      rw [← e, (h3 r hr).2] at ha
      cases ha
    refine ⟨by rw [updM_same]; simp [Function.comp_def], ?_, h2, hna, fun i c t hc ht => ?_⟩
    · have := congrArg List.length h1
      simpa using this
    · rw [List.getElem?_map] at hc
      cases er : rows[i]? with
      | none => rw [er] at hc; cases hc
      | some r =>
        rw [er] at hc
        cases hc
        have hrm := List.mem_of_getElem? er
        have hne : r.1 ≠ a := fun e => hna (e ▸ List.mem_map.mpr ⟨r, hrm, rfl⟩)
        rw [updM_ne hne, (h3 r hrm).2]
        have e2 : (rows.map (·.2))[i]? = some r.2 := by rw [List.getElem?_map, er]; rfl
        rw [h1, List.getElem?_map] at e2
        rw [List.getElem?_map] at ht
        cases el : (List.range l)[i]? with
        | none => rw [el] at e2; cases e2
        | some k =>
          rw [el] at e2 ht
          cases ht
          exact e2.symm
  have hts0 : Tns p ((List.range l).map fun _ => idP p) := ⟨fun t ht => by obtain ⟨_, _, rfl⟩ := List.mem_map.mp ht; exact pm_id p⟩
  generalize hcs : rows.map (·.1) = cs at htw
  generalize hw2 : updM w1 a (rows.map fun r => D.ref r.1) = w2 at htw
  have hcl : cs.length = l := by have := htw.len; simpa using this
  generalize hts : (List.range l).map (fun _ => idP p) = ts at htw hts0
  have htl : ts.length = l := by rw [← htw.len]; exact hcl
  clear hcs hw2 hts h1 h2 h3 h4 ha
  refine seq_cut (fun δ w => ∃ cs ts, TW w a cs ts ∧ ts.length = l ∧ Tns p ts ∧ δ = [some (false, .scr ns), some (false, .int l), some (false, .int p), some (false, .ref a), none, none, none, none, none, none, none]) (fun N h => ?_) ?_
  · try simp -implicitDefEqProofs only [dNext, dSet, dLst, dTup, dNil, dCons, dConsO, dFor, dRng1_u, dRng2_u, dIt_u, oX, dC, dBin, dUn, dVarR, dVar, dApp, dExt, dUpd0, dPut, dAug, dRet, dRetV, dRetN, dBreak, dCont, dIf, dB_u, dTru_u, dTNot, dTAnd, dTOr, dAndV_u, dOrV_u, dNotV_u, dIfX, dChain_u, dCall, dCallB, dSl, dNoP, dP_u, dLc, dDrop, dFrz, frzD, dAsg, dDicK, dDicT, gN, gT, gsC, gsN, kB.eq_1, kT.eq_1, kT.eq_2, kT.eq_3, kT.eq_4, kT.eq_5, kT.eq_6, kT.eq_7, kT.eq_8, kAnd.eq_1, kOr.eq_1, kNot.eq_1, kIt.eq_1, kIt.eq_2, kIt.eq_3, kIt.eq_4, kP.eq_1, kR1.eq_1, kR2.eq_1, sAdd.eq_1, sAdd.eq_2, sAdd.eq_3, sAdd.eq_4, sJ2.eq_1, sI2.eq_1, sPow, sLt.eq_1, sLt.eq_2, sLe, sGt, sGe, sMul.eq_1, sMul.eq_2, sMulB.eq_1, sMulB.eq_2, sMulB.eq_3, sLR1.eq_1, sLR2.eq_1, sTR1.eq_1, sTR2.eq_1, sIsBl.eq_1, dZip, kZip.eq_1, dDisp1, dIxW, dLenW, dName, dAppW, dPutW, dMelt, dCallBE, kIxW.eq_1, kLenW.eq_1, dLcW, kIxW_lst, kIxW_tup, kIxW_scr, kIxW_str, kIxW_dK, kIxW_dT, kLenW_lst, kLenW_tup, kLenW_scr, kLenW_str, kNm_f, kNm_t, kName, isL.eq_1, isL.eq_2, sNeg.eq_1, sLen.eq_1, sLen.eq_2, sLen.eq_3, sLen.eq_4, sLen.eq_5, sAbs.eq_1, sMax, sMin, sInt.eq_1, sInt.eq_2, sStr.eq_1, sList.eq_1, sList.eq_2, sList.eq_3, sTuple.eq_1, sTuple.eq_2, sTuple.eq_3, sIsN, sNotN, sIx.eq_1, sIx.eq_2, sIx.eq_3, sIx.eq_4, sIx.eq_5, sIx.eq_6, sIx.eq_7, sSl.eq_1, sSl.eq_2, sSl.eq_3, sSl.eq_4, sRev.eq_1, sRev.eq_2, sRev.eq_3, sAddI.eq_1, sAddI.eq_2, sPut.eq_1, sPut.eq_2, sPut.eq_3, sPut.eq_4, D.isNon, sEq_ii, sNe_ii, sEq_ww, sNe_ww, sEq_ll, sNe_ll, sIsi_ii, sIsi_ib, sIsi_ll, sIsi_tt, sIsi_ss, sEq_w, sEq_i, sEq_lw, sEq_lw', sEq_lle, sEq_lle', sNe_w, sNe_i, sNe_lle', sNe_lw', sEq_ss, sNe_ss, sEq_bb, sNe_bb, sIn_iw, sIn_ii, sIn_wl, sIn_wl', sSl3.eq_1, sSl3.eq_2, dSl3, isS.eq_1, isL.eq_1, isL.eq_2, isA.eq_1, dM0, dM1, sUpper.eq_1, sLower.eq_1, sStrip1.eq_1, sSfind.eq_1, sScount.eq_1, sSindex.eq_1, sSsplit.eq_1, sSjoin.eq_1, sSjoin.eq_2, fPop_snoc, fPop_snoc', startD, wipeD, List.map_cons, List.map_nil, List.length_cons, List.length_nil, List.length_map, List.cons_append, List.nil_append, List.replicate, List.set_cons_zero, List.set_cons_succ, List.set_nil, List.getElem?_cons_zero, List.getElem?_cons_succ, Bool.true_and, Bool.and_true, Bool.and_false, Bool.false_and, Bool.not_true, Bool.not_false, if_true, if_false, Bool.false_eq_true, reduceIte, and_true, true_and, decide_true, decide_false, not_true, Nat.zero_le, Nat.zero_add, Nat.reduceAdd, Nat.reduceSub, D.scal, Option.some.injEq, exists_eq_left', exists_eq_left, exists_eq', D.int.injEq, D.lst.injEq, D.tup.injEq, D.scr.injEq, D.str.injEq, List.cons.injEq, and_self]
    refine ⟨ns, 1, rfl, by omega, by omega, fun x => ?_⟩
    try simp -implicitDefEqProofs only [dNext, dSet, dLst, dTup, dNil, dCons, dConsO, dFor, dRng1_u, dRng2_u, dIt_u, oX, dC, dBin, dUn, dVarR, dVar, dApp, dExt, dUpd0, dPut, dAug, dRet, dRetV, dRetN, dBreak, dCont, dIf, dB_u, dTru_u, dTNot, dTAnd, dTOr, dAndV_u, dOrV_u, dNotV_u, dIfX, dChain_u, dCall, dCallB, dSl, dNoP, dP_u, dLc, dDrop, dFrz, frzD, dAsg, dDicK, dDicT, gN, gT, gsC, gsN, kB.eq_1, kT.eq_1, kT.eq_2, kT.eq_3, kT.eq_4, kT.eq_5, kT.eq_6, kT.eq_7, kT.eq_8, kAnd.eq_1, kOr.eq_1, kNot.eq_1, kIt.eq_1, kIt.eq_2, kIt.eq_3, kIt.eq_4, kP.eq_1, kR1.eq_1, kR2.eq_1, sAdd.eq_1, sAdd.eq_2, sAdd.eq_3, sAdd.eq_4, sJ2.eq_1, sI2.eq_1, sPow, sLt.eq_1, sLt.eq_2, sLe, sGt, sGe, sMul.eq_1, sMul.eq_2, sMulB.eq_1, sMulB.eq_2, sMulB.eq_3, sLR1.eq_1, sLR2.eq_1, sTR1.eq_1, sTR2.eq_1, sIsBl.eq_1, dZip, kZip.eq_1, dDisp1, dIxW, dLenW, dName, dAppW, dPutW, dMelt, dCallBE, kIxW.eq_1, kLenW.eq_1, dLcW, kIxW_lst, kIxW_tup, kIxW_scr, kIxW_str, kIxW_dK, kIxW_dT, kLenW_lst, kLenW_tup, kLenW_scr, kLenW_str, kNm_f, kNm_t, kName, isL.eq_1, isL.eq_2, sNeg.eq_1, sLen.eq_1, sLen.eq_2, sLen.eq_3, sLen.eq_4, sLen.eq_5, sAbs.eq_1, sMax, sMin, sInt.eq_1, sInt.eq_2, sStr.eq_1, sList.eq_1, sList.eq_2, sList.eq_3, sTuple.eq_1, sTuple.eq_2, sTuple.eq_3, sIsN, sNotN, sIx.eq_1, sIx.eq_2, sIx.eq_3, sIx.eq_4, sIx.eq_5, sIx.eq_6, sIx.eq_7, sSl.eq_1, sSl.eq_2, sSl.eq_3, sSl.eq_4, sRev.eq_1, sRev.eq_2, sRev.eq_3, sAddI.eq_1, sAddI.eq_2, sPut.eq_1, sPut.eq_2, sPut.eq_3, sPut.eq_4, D.isNon, sEq_ii, sNe_ii, sEq_ww, sNe_ww, sEq_ll, sNe_ll, sIsi_ii, sIsi_ib, sIsi_ll, sIsi_tt, sIsi_ss, sEq_w, sEq_i, sEq_lw, sEq_lw', sEq_lle, sEq_lle', sNe_w, sNe_i, sNe_lle', sNe_lw', sEq_ss, sNe_ss, sEq_bb, sNe_bb, sIn_iw, sIn_ii, sIn_wl, sIn_wl', sSl3.eq_1, sSl3.eq_2, dSl3, isS.eq_1, isL.eq_1, isL.eq_2, isA.eq_1, dM0, dM1, sUpper.eq_1, sLower.eq_1, sStrip1.eq_1, sSfind.eq_1, sScount.eq_1, sSindex.eq_1, sSsplit.eq_1, sSjoin.eq_1, sSjoin.eq_2, fPop_snoc, fPop_snoc', startD, wipeD, List.map_cons, List.map_nil, List.length_cons, List.length_nil, List.length_map, List.cons_append, List.nil_append, List.replicate, List.set_cons_zero, List.set_cons_succ, List.set_nil, List.getElem?_cons_zero, List.getElem?_cons_succ, Bool.true_and, Bool.and_true, Bool.and_false, Bool.false_and, Bool.not_true, Bool.not_false, if_true, if_false, Bool.false_eq_true, reduceIte, and_true, true_and, decide_true, decide_false, not_true, Nat.zero_le, Nat.zero_add, Nat.reduceAdd, Nat.reduceSub, D.scal, Option.some.injEq, exists_eq_left', exists_eq_left, exists_eq', D.int.injEq, D.lst.injEq, D.tup.injEq, D.scr.injEq, D.str.injEq, List.cons.injEq, and_self]
    refine ⟨by omega, if_join (fun _ => ?_) (fun _ => h _ _ ⟨cs, ts, htw, htl, hts0, rfl⟩)⟩
    refine ⟨RgOk.of_le (by omega) (by omega) (by omega) (by omega), by omega, by rw [rngD_length]; omega, ?_⟩
    have e : rngD 1 ((p : Int) - 1).toNat ++ [D.int 0] = iN (rot p (1 % p)) := by
      unfold iN rngD
      refine List.ext_getElem (by simp [rot_len]; omega) fun i h1 h2 => ?_
      simp [rot_len] at h2
      by_cases hi : i < p - 1
      · have hr : (rot p (1 % p))[i]'(by rw [rot_len]; omega) = i + 1 := by
          rw [rot_get, Nat.mod_eq_of_lt (a := 1) (by omega), Nat.mod_eq_of_lt (a := i + 1) (by omega)]
        rw [List.getElem_append_left (by simp; omega)]
        simp only [List.getElem_map, List.getElem_range, hr]
        congr 1
        omega
      · have hie : i = p - 1 := by omega
        have hr : (rot p (1 % p))[i]'(by rw [rot_len]; omega) = 0 := by
          rw [rot_get]
          by_cases h1 : p = 1
          · subst h1; exact Nat.mod_one _
          · rw [Nat.mod_eq_of_lt (a := 1) (by omega), show i + 1 = p by omega, Nat.mod_self]
        rw [List.getElem_append_right (by simp; omega)]
        simp only [List.getElem_map, hr]
        simp
    rw [e]
    intro c hc
    have hca : a ≠ c := fun z => by rw [← z, htw.ha] at hc; cases hc
    have hnew := htw.new (i := 0) (by omega) hc (rot p (1 % p))
    refine ⟨a, _, 0, 0, rfl, rfl, by rw [updM_ne hca]; exact htw.ha, by rw [List.length_map]; exact ixN_nat (i := 0) (by omega), h _ _ ⟨_, _, hnew, by simp [htl], ⟨fun t ht => ?_⟩, rfl⟩⟩
    rcases List.mem_or_eq_of_mem_set ht with h' | h'
    · exact hts0.pm t h'
    · subst h'; exact rot_pm (Nat.mod_lt _ (by omega))
  clear htw hcl hts0 htl
  rintro δ w ⟨cs, ts, htw, htl, hts, rfl⟩
  have hc := cutD_le ns (some 2) (some 202)
  refine seq_i ?_
  try simp -implicitDefEqProofs only [dNext, dSet, dLst, dTup, dNil, dCons, dConsO, dFor, dRng1_u, dRng2_u, dIt_u, oX, dC, dBin, dUn, dVarR, dVar, dApp, dExt, dUpd0, dPut, dAug, dRet, dRetV, dRetN, dBreak, dCont, dIf, dB_u, dTru_u, dTNot, dTAnd, dTOr, dAndV_u, dOrV_u, dNotV_u, dIfX, dChain_u, dCall, dCallB, dSl, dNoP, dP_u, dLc, dDrop, dFrz, frzD, dAsg, dDicK, dDicT, gN, gT, gsC, gsN, kB.eq_1, kT.eq_1, kT.eq_2, kT.eq_3, kT.eq_4, kT.eq_5, kT.eq_6, kT.eq_7, kT.eq_8, kAnd.eq_1, kOr.eq_1, kNot.eq_1, kIt.eq_1, kIt.eq_2, kIt.eq_3, kIt.eq_4, kP.eq_1, kR1.eq_1, kR2.eq_1, sAdd.eq_1, sAdd.eq_2, sAdd.eq_3, sAdd.eq_4, sJ2.eq_1, sI2.eq_1, sPow, sLt.eq_1, sLt.eq_2, sLe, sGt, sGe, sMul.eq_1, sMul.eq_2, sMulB.eq_1, sMulB.eq_2, sMulB.eq_3, sLR1.eq_1, sLR2.eq_1, sTR1.eq_1, sTR2.eq_1, sIsBl.eq_1, dZip, kZip.eq_1, dDisp1, dIxW, dLenW, dName, dAppW, dPutW, dMelt, dCallBE, kIxW.eq_1, kLenW.eq_1, dLcW, kIxW_lst, kIxW_tup, kIxW_scr, kIxW_str, kIxW_dK, kIxW_dT, kLenW_lst, kLenW_tup, kLenW_scr, kLenW_str, kNm_f, kNm_t, kName, isL.eq_1, isL.eq_2, sNeg.eq_1, sLen.eq_1, sLen.eq_2, sLen.eq_3, sLen.eq_4, sLen.eq_5, sAbs.eq_1, sMax, sMin, sInt.eq_1, sInt.eq_2, sStr.eq_1, sList.eq_1, sList.eq_2, sList.eq_3, sTuple.eq_1, sTuple.eq_2, sTuple.eq_3, sIsN, sNotN, sIx.eq_1, sIx.eq_2, sIx.eq_3, sIx.eq_4, sIx.eq_5, sIx.eq_6, sIx.eq_7, sSl.eq_1, sSl.eq_2, sSl.eq_3, sSl.eq_4, sRev.eq_1, sRev.eq_2, sRev.eq_3, sAddI.eq_1, sAddI.eq_2, sPut.eq_1, sPut.eq_2, sPut.eq_3, sPut.eq_4, D.isNon, sEq_ii, sNe_ii, sEq_ww, sNe_ww, sEq_ll, sNe_ll, sIsi_ii, sIsi_ib, sIsi_ll, sIsi_tt, sIsi_ss, sEq_w, sEq_i, sEq_lw, sEq_lw', sEq_lle, sEq_lle', sNe_w, sNe_i, sNe_lle', sNe_lw', sEq_ss, sNe_ss, sEq_bb, sNe_bb, sIn_iw, sIn_ii, sIn_wl, sIn_wl', sSl3.eq_1, sSl3.eq_2, dSl3, isS.eq_1, isL.eq_1, isL.eq_2, isA.eq_1, dM0, dM1, sUpper.eq_1, sLower.eq_1, sStrip1.eq_1, sSfind.eq_1, sScount.eq_1, sSindex.eq_1, sSsplit.eq_1, sSjoin.eq_1, sSjoin.eq_2, fPop_snoc, fPop_snoc', startD, wipeD, List.map_cons, List.map_nil, List.length_cons, List.length_nil, List.length_map, List.cons_append, List.nil_append, List.replicate, List.set_cons_zero, List.set_cons_succ, List.set_nil, List.getElem?_cons_zero, List.getElem?_cons_succ, Bool.true_and, Bool.and_true, Bool.and_false, Bool.false_and, Bool.not_true, Bool.not_false, if_true, if_false, Bool.false_eq_true, reduceIte, and_true, true_and, decide_true, decide_false, not_true, Nat.zero_le, Nat.zero_add, Nat.reduceAdd, Nat.reduceSub, D.scal]
  refine for_go D.int (fun pre δ w => ∃ cs ts, TW w a cs ts ∧ ts.length = l ∧ Tns p ts ∧ ∃ j4 j5 j6 j7 j8 j9, δ = [some (false, .scr ns), some (false, .int l), some (false, .int p), some (false, .ref a), j4, j5, j6, j7, j8, j9, none]) _ ⟨cs, ts, htw, htl, hts, none, none, none, none, none, none, rfl⟩ ?_ ?_
  · rintro pre x post δ w N C e ⟨cs, ts, htw, htl, hts, j4, j5, j6, j7, j8, j9, rfl⟩ hN hC
    have hcl : cs.length = l := by rw [htw.len]; exact htl
    try simp -implicitDefEqProofs only [dNext, dSet, dLst, dTup, dNil, dCons, dConsO, dFor, dRng1_u, dRng2_u, dIt_u, oX, dC, dBin, dUn, dVarR, dVar, dApp, dExt, dUpd0, dPut, dAug, dRet, dRetV, dRetN, dBreak, dCont, dIf, dB_u, dTru_u, dTNot, dTAnd, dTOr, dAndV_u, dOrV_u, dNotV_u, dIfX, dChain_u, dCall, dCallB, dSl, dNoP, dP_u, dLc, dDrop, dFrz, frzD, dAsg, dDicK, dDicT, gN, gT, gsC, gsN, kB.eq_1, kT.eq_1, kT.eq_2, kT.eq_3, kT.eq_4, kT.eq_5, kT.eq_6, kT.eq_7, kT.eq_8, kAnd.eq_1, kOr.eq_1, kNot.eq_1, kIt.eq_1, kIt.eq_2, kIt.eq_3, kIt.eq_4, kP.eq_1, kR1.eq_1, kR2.eq_1, sAdd.eq_1, sAdd.eq_2, sAdd.eq_3, sAdd.eq_4, sJ2.eq_1, sI2.eq_1, sPow, sLt.eq_1, sLt.eq_2, sLe, sGt, sGe, sMul.eq_1, sMul.eq_2, sMulB.eq_1, sMulB.eq_2, sMulB.eq_3, sLR1.eq_1, sLR2.eq_1, sTR1.eq_1, sTR2.eq_1, sIsBl.eq_1, dZip, kZip.eq_1, dDisp1, dIxW, dLenW, dName, dAppW, dPutW, dMelt, dCallBE, kIxW.eq_1, kLenW.eq_1, dLcW, kIxW_lst, kIxW_tup, kIxW_scr, kIxW_str, kIxW_dK, kIxW_dT, kLenW_lst, kLenW_tup, kLenW_scr, kLenW_str, kNm_f, kNm_t, kName, isL.eq_1, isL.eq_2, sNeg.eq_1, sLen.eq_1, sLen.eq_2, sLen.eq_3, sLen.eq_4, sLen.eq_5, sAbs.eq_1, sMax, sMin, sInt.eq_1, sInt.eq_2, sStr.eq_1, sList.eq_1, sList.eq_2, sList.eq_3, sTuple.eq_1, sTuple.eq_2, sTuple.eq_3, sIsN, sNotN, sIx.eq_1, sIx.eq_2, sIx.eq_3, sIx.eq_4, sIx.eq_5, sIx.eq_6, sIx.eq_7, sSl.eq_1, sSl.eq_2, sSl.eq_3, sSl.eq_4, sRev.eq_1, sRev.eq_2, sRev.eq_3, sAddI.eq_1, sAddI.eq_2, sPut.eq_1, sPut.eq_2, sPut.eq_3, sPut.eq_4, D.isNon, sEq_ii, sNe_ii, sEq_ww, sNe_ww, sEq_ll, sNe_ll, sIsi_ii, sIsi_ib, sIsi_ll, sIsi_tt, sIsi_ss, sEq_w, sEq_i, sEq_lw, sEq_lw', sEq_lle, sEq_lle', sNe_w, sNe_i, sNe_lle', sNe_lw', sEq_ss, sNe_ss, sEq_bb, sNe_bb, sIn_iw, sIn_ii, sIn_wl, sIn_wl', sSl3.eq_1, sSl3.eq_2, dSl3, isS.eq_1, isL.eq_1, isL.eq_2, isA.eq_1, dM0, dM1, sUpper.eq_1, sLower.eq_1, sStrip1.eq_1, sSfind.eq_1, sScount.eq_1, sSindex.eq_1, sSsplit.eq_1, sSjoin.eq_1, sSjoin.eq_2, fPop_snoc, fPop_snoc', startD, wipeD, List.map_cons, List.map_nil, List.length_cons, List.length_nil, List.length_map, List.cons_append, List.nil_append, List.replicate, List.set_cons_zero, List.set_cons_succ, List.set_nil, List.getElem?_cons_zero, List.getElem?_cons_succ, Bool.true_and, Bool.and_true, Bool.and_false, Bool.false_and, Bool.not_true, Bool.not_false, if_true, if_false, Bool.false_eq_true, reduceIte, and_true, true_and, decide_true, decide_false, not_true, Nat.zero_le, Nat.zero_add, Nat.reduceAdd, Nat.reduceSub, D.scal, Option.some.injEq, exists_eq_left', exists_eq_left, exists_eq', D.int.injEq, D.lst.injEq, D.tup.injEq, D.scr.injEq, D.str.injEq, List.cons.injEq, and_self]
    refine seq_i ?_
    try simp -implicitDefEqProofs only [dNext, dSet, dLst, dTup, dNil, dCons, dConsO, dFor, dRng1_u, dRng2_u, dIt_u, oX, dC, dBin, dUn, dVarR, dVar, dApp, dExt, dUpd0, dPut, dAug, dRet, dRetV, dRetN, dBreak, dCont, dIf, dB_u, dTru_u, dTNot, dTAnd, dTOr, dAndV_u, dOrV_u, dNotV_u, dIfX, dChain_u, dCall, dCallB, dSl, dNoP, dP_u, dLc, dDrop, dFrz, frzD, dAsg, dDicK, dDicT, gN, gT, gsC, gsN, kB.eq_1, kT.eq_1, kT.eq_2, kT.eq_3, kT.eq_4, kT.eq_5, kT.eq_6, kT.eq_7, kT.eq_8, kAnd.eq_1, kOr.eq_1, kNot.eq_1, kIt.eq_1, kIt.eq_2, kIt.eq_3, kIt.eq_4, kP.eq_1, kR1.eq_1, kR2.eq_1, sAdd.eq_1, sAdd.eq_2, sAdd.eq_3, sAdd.eq_4, sJ2.eq_1, sI2.eq_1, sPow, sLt.eq_1, sLt.eq_2, sLe, sGt, sGe, sMul.eq_1, sMul.eq_2, sMulB.eq_1, sMulB.eq_2, sMulB.eq_3, sLR1.eq_1, sLR2.eq_1, sTR1.eq_1, sTR2.eq_1, sIsBl.eq_1, dZip, kZip.eq_1, dDisp1, dIxW, dLenW, dName, dAppW, dPutW, dMelt, dCallBE, kIxW.eq_1, kLenW.eq_1, dLcW, kIxW_lst, kIxW_tup, kIxW_scr, kIxW_str, kIxW_dK, kIxW_dT, kLenW_lst, kLenW_tup, kLenW_scr, kLenW_str, kNm_f, kNm_t, kName, isL.eq_1, isL.eq_2, sNeg.eq_1, sLen.eq_1, sLen.eq_2, sLen.eq_3, sLen.eq_4, sLen.eq_5, sAbs.eq_1, sMax, sMin, sInt.eq_1, sInt.eq_2, sStr.eq_1, sList.eq_1, sList.eq_2, sList.eq_3, sTuple.eq_1, sTuple.eq_2, sTuple.eq_3, sIsN, sNotN, sIx.eq_1, sIx.eq_2, sIx.eq_3, sIx.eq_4, sIx.eq_5, sIx.eq_6, sIx.eq_7, sSl.eq_1, sSl.eq_2, sSl.eq_3, sSl.eq_4, sRev.eq_1, sRev.eq_2, sRev.eq_3, sAddI.eq_1, sAddI.eq_2, sPut.eq_1, sPut.eq_2, sPut.eq_3, sPut.eq_4, D.isNon, sEq_ii, sNe_ii, sEq_ww, sNe_ww, sEq_ll, sNe_ll, sIsi_ii, sIsi_ib, sIsi_ll, sIsi_tt, sIsi_ss, sEq_w, sEq_i, sEq_lw, sEq_lw', sEq_lle, sEq_lle', sNe_w, sNe_i, sNe_lle', sNe_lw', sEq_ss, sNe_ss, sEq_bb, sNe_bb, sIn_iw, sIn_ii, sIn_wl, sIn_wl', sSl3.eq_1, sSl3.eq_2, dSl3, isS.eq_1, isL.eq_1, isL.eq_2, isA.eq_1, dM0, dM1, sUpper.eq_1, sLower.eq_1, sStrip1.eq_1, sSfind.eq_1, sScount.eq_1, sSindex.eq_1, sSsplit.eq_1, sSjoin.eq_1, sSjoin.eq_2, fPop_snoc, fPop_snoc', startD, wipeD, List.map_cons, List.map_nil, List.length_cons, List.length_nil, List.length_map, List.cons_append, List.nil_append, List.replicate, List.set_cons_zero, List.set_cons_succ, List.set_nil, List.getElem?_cons_zero, List.getElem?_cons_succ, Bool.true_and, Bool.and_true, Bool.and_false, Bool.false_and, Bool.not_true, Bool.not_false, if_true, if_false, Bool.false_eq_true, reduceIte, and_true, true_and, decide_true, decide_false, not_true, Nat.zero_le, Nat.zero_add, Nat.reduceAdd, Nat.reduceSub, D.scal, Option.some.injEq, exists_eq_left', exists_eq_left, exists_eq', D.int.injEq, D.lst.injEq, D.tup.injEq, D.scr.injEq, D.str.injEq, List.cons.injEq, and_self]
    refine ⟨x, 1, rfl, by omega, by omega, fun n => ?_⟩
    have b1 := mod_bd n (j := (l : Int)) (by omega)
    have b2 := mod_bd (n / l) (j := (p : Int)) (by omega)
    have b3 := mod_bd (n / l / p) (j := (p : Int)) (by omega)
    obtain ⟨i, hi⟩ : ∃ i : Nat, n % (l : Int) = i := ⟨(n % (l : Int)).toNat, by omega⟩
    obtain ⟨u, hu⟩ : ∃ i : Nat, n / (l : Int) % (p : Int) = i := ⟨(n / (l : Int) % (p : Int)).toNat, by omega⟩
    obtain ⟨v, hv⟩ : ∃ i : Nat, n / (l : Int) / (p : Int) % (p : Int) = i := ⟨(n / (l : Int) / (p : Int) % (p : Int)).toNat, by omega⟩
    have hil : i < cs.length := by omega
    have hup : u < p := by omega
    have hvp : v < p := by omega
    have hci : cs[i]? = some cs[i] := List.getElem?_eq_getElem hil
    have hti : ts[i]? = some (ts[i]'(by omega)) := List.getElem?_eq_getElem (by omega)
    generalize cs[i] = c at hci
    generalize ts[i]'(by omega) = t at hti
    have htp := hts.pm t (List.mem_of_getElem? hti)
    have hwc := htw.row i c t hci hti
    refine seq_i ?_
    try simp -implicitDefEqProofs only [hi, dNext, dSet, dLst, dTup, dNil, dCons, dConsO, dFor, dRng1_u, dRng2_u, dIt_u, oX, dC, dBin, dUn, dVarR, dVar, dApp, dExt, dUpd0, dPut, dAug, dRet, dRetV, dRetN, dBreak, dCont, dIf, dB_u, dTru_u, dTNot, dTAnd, dTOr, dAndV_u, dOrV_u, dNotV_u, dIfX, dChain_u, dCall, dCallB, dSl, dNoP, dP_u, dLc, dDrop, dFrz, frzD, dAsg, dDicK, dDicT, gN, gT, gsC, gsN, kB.eq_1, kT.eq_1, kT.eq_2, kT.eq_3, kT.eq_4, kT.eq_5, kT.eq_6, kT.eq_7, kT.eq_8, kAnd.eq_1, kOr.eq_1, kNot.eq_1, kIt.eq_1, kIt.eq_2, kIt.eq_3, kIt.eq_4, kP.eq_1, kR1.eq_1, kR2.eq_1, sAdd.eq_1, sAdd.eq_2, sAdd.eq_3, sAdd.eq_4, sJ2.eq_1, sI2.eq_1, sPow, sLt.eq_1, sLt.eq_2, sLe, sGt, sGe, sMul.eq_1, sMul.eq_2, sMulB.eq_1, sMulB.eq_2, sMulB.eq_3, sLR1.eq_1, sLR2.eq_1, sTR1.eq_1, sTR2.eq_1, sIsBl.eq_1, dZip, kZip.eq_1, dDisp1, dIxW, dLenW, dName, dAppW, dPutW, dMelt, dCallBE, kIxW.eq_1, kLenW.eq_1, dLcW, kIxW_lst, kIxW_tup, kIxW_scr, kIxW_str, kIxW_dK, kIxW_dT, kLenW_lst, kLenW_tup, kLenW_scr, kLenW_str, kNm_f, kNm_t, kName, isL.eq_1, isL.eq_2, sNeg.eq_1, sLen.eq_1, sLen.eq_2, sLen.eq_3, sLen.eq_4, sLen.eq_5, sAbs.eq_1, sMax, sMin, sInt.eq_1, sInt.eq_2, sStr.eq_1, sList.eq_1, sList.eq_2, sList.eq_3, sTuple.eq_1, sTuple.eq_2, sTuple.eq_3, sIsN, sNotN, sIx.eq_1, sIx.eq_2, sIx.eq_3, sIx.eq_4, sIx.eq_5, sIx.eq_6, sIx.eq_7, sSl.eq_1, sSl.eq_2, sSl.eq_3, sSl.eq_4, sRev.eq_1, sRev.eq_2, sRev.eq_3, sAddI.eq_1, sAddI.eq_2, sPut.eq_1, sPut.eq_2, sPut.eq_3, sPut.eq_4, D.isNon, sEq_ii, sNe_ii, sEq_ww, sNe_ww, sEq_ll, sNe_ll, sIsi_ii, sIsi_ib, sIsi_ll, sIsi_tt, sIsi_ss, sEq_w, sEq_i, sEq_lw, sEq_lw', sEq_lle, sEq_lle', sNe_w, sNe_i, sNe_lle', sNe_lw', sEq_ss, sNe_ss, sEq_bb, sNe_bb, sIn_iw, sIn_ii, sIn_wl, sIn_wl', sSl3.eq_1, sSl3.eq_2, dSl3, isS.eq_1, isL.eq_1, isL.eq_2, isA.eq_1, dM0, dM1, sUpper.eq_1, sLower.eq_1, sStrip1.eq_1, sSfind.eq_1, sScount.eq_1, sSindex.eq_1, sSsplit.eq_1, sSjoin.eq_1, sSjoin.eq_2, fPop_snoc, fPop_snoc', startD, wipeD, List.map_cons, List.map_nil, List.length_cons, List.length_nil, List.length_map, List.cons_append, List.nil_append, List.replicate, List.set_cons_zero, List.set_cons_succ, List.set_nil, List.getElem?_cons_zero, List.getElem?_cons_succ, Bool.true_and, Bool.and_true, Bool.and_false, Bool.false_and, Bool.not_true, Bool.not_false, if_true, if_false, Bool.false_eq_true, reduceIte, and_true, true_and, decide_true, decide_false, not_true, Nat.zero_le, Nat.zero_add, Nat.reduceAdd, Nat.reduceSub, D.scal, Option.some.injEq, exists_eq_left', exists_eq_left, exists_eq', D.int.injEq, D.lst.injEq, D.tup.injEq, D.scr.injEq, D.str.injEq, List.cons.injEq, and_self]
    refine ⟨by omega, _, .ref c, htw.ha, atI_f D.ref (by omega) (by rw [Int.toNat_natCast]; exact hci), ?_⟩
    refine seq_i ?_
    try simp -implicitDefEqProofs only [hu, dNext, dSet, dLst, dTup, dNil, dCons, dConsO, dFor, dRng1_u, dRng2_u, dIt_u, oX, dC, dBin, dUn, dVarR, dVar, dApp, dExt, dUpd0, dPut, dAug, dRet, dRetV, dRetN, dBreak, dCont, dIf, dB_u, dTru_u, dTNot, dTAnd, dTOr, dAndV_u, dOrV_u, dNotV_u, dIfX, dChain_u, dCall, dCallB, dSl, dNoP, dP_u, dLc, dDrop, dFrz, frzD, dAsg, dDicK, dDicT, gN, gT, gsC, gsN, kB.eq_1, kT.eq_1, kT.eq_2, kT.eq_3, kT.eq_4, kT.eq_5, kT.eq_6, kT.eq_7, kT.eq_8, kAnd.eq_1, kOr.eq_1, kNot.eq_1, kIt.eq_1, kIt.eq_2, kIt.eq_3, kIt.eq_4, kP.eq_1, kR1.eq_1, kR2.eq_1, sAdd.eq_1, sAdd.eq_2, sAdd.eq_3, sAdd.eq_4, sJ2.eq_1, sI2.eq_1, sPow, sLt.eq_1, sLt.eq_2, sLe, sGt, sGe, sMul.eq_1, sMul.eq_2, sMulB.eq_1, sMulB.eq_2, sMulB.eq_3, sLR1.eq_1, sLR2.eq_1, sTR1.eq_1, sTR2.eq_1, sIsBl.eq_1, dZip, kZip.eq_1, dDisp1, dIxW, dLenW, dName, dAppW, dPutW, dMelt, dCallBE, kIxW.eq_1, kLenW.eq_1, dLcW, kIxW_lst, kIxW_tup, kIxW_scr, kIxW_str, kIxW_dK, kIxW_dT, kLenW_lst, kLenW_tup, kLenW_scr, kLenW_str, kNm_f, kNm_t, kName, isL.eq_1, isL.eq_2, sNeg.eq_1, sLen.eq_1, sLen.eq_2, sLen.eq_3, sLen.eq_4, sLen.eq_5, sAbs.eq_1, sMax, sMin, sInt.eq_1, sInt.eq_2, sStr.eq_1, sList.eq_1, sList.eq_2, sList.eq_3, sTuple.eq_1, sTuple.eq_2, sTuple.eq_3, sIsN, sNotN, sIx.eq_1, sIx.eq_2, sIx.eq_3, sIx.eq_4, sIx.eq_5, sIx.eq_6, sIx.eq_7, sSl.eq_1, sSl.eq_2, sSl.eq_3, sSl.eq_4, sRev.eq_1, sRev.eq_2, sRev.eq_3, sAddI.eq_1, sAddI.eq_2, sPut.eq_1, sPut.eq_2, sPut.eq_3, sPut.eq_4, D.isNon, sEq_ii, sNe_ii, sEq_ww, sNe_ww, sEq_ll, sNe_ll, sIsi_ii, sIsi_ib, sIsi_ll, sIsi_tt, sIsi_ss, sEq_w, sEq_i, sEq_lw, sEq_lw', sEq_lle, sEq_lle', sNe_w, sNe_i, sNe_lle', sNe_lw', sEq_ss, sNe_ss, sEq_bb, sNe_bb, sIn_iw, sIn_ii, sIn_wl, sIn_wl', sSl3.eq_1, sSl3.eq_2, dSl3, isS.eq_1, isL.eq_1, isL.eq_2, isA.eq_1, dM0, dM1, sUpper.eq_1, sLower.eq_1, sStrip1.eq_1, sSfind.eq_1, sScount.eq_1, sSindex.eq_1, sSsplit.eq_1, sSjoin.eq_1, sSjoin.eq_2, fPop_snoc, fPop_snoc', startD, wipeD, List.map_cons, List.map_nil, List.length_cons, List.length_nil, List.length_map, List.cons_append, List.nil_append, List.replicate, List.set_cons_zero, List.set_cons_succ, List.set_nil, List.getElem?_cons_zero, List.getElem?_cons_succ, Bool.true_and, Bool.and_true, Bool.and_false, Bool.false_and, Bool.not_true, Bool.not_false, if_true, if_false, Bool.false_eq_true, reduceIte, and_true, true_and, decide_true, decide_false, not_true, Nat.zero_le, Nat.zero_add, Nat.reduceAdd, Nat.reduceSub, D.scal, Option.some.injEq, exists_eq_left', exists_eq_left, exists_eq', D.int.injEq, D.lst.injEq, D.tup.injEq, D.scr.injEq, D.str.injEq, List.cons.injEq, and_self]
    refine ⟨divC (by omega) (by omega), by omega, ?_⟩
    refine seq_i ?_
    try simp -implicitDefEqProofs only [hv, dNext, dSet, dLst, dTup, dNil, dCons, dConsO, dFor, dRng1_u, dRng2_u, dIt_u, oX, dC, dBin, dUn, dVarR, dVar, dApp, dExt, dUpd0, dPut, dAug, dRet, dRetV, dRetN, dBreak, dCont, dIf, dB_u, dTru_u, dTNot, dTAnd, dTOr, dAndV_u, dOrV_u, dNotV_u, dIfX, dChain_u, dCall, dCallB, dSl, dNoP, dP_u, dLc, dDrop, dFrz, frzD, dAsg, dDicK, dDicT, gN, gT, gsC, gsN, kB.eq_1, kT.eq_1, kT.eq_2, kT.eq_3, kT.eq_4, kT.eq_5, kT.eq_6, kT.eq_7, kT.eq_8, kAnd.eq_1, kOr.eq_1, kNot.eq_1, kIt.eq_1, kIt.eq_2, kIt.eq_3, kIt.eq_4, kP.eq_1, kR1.eq_1, kR2.eq_1, sAdd.eq_1, sAdd.eq_2, sAdd.eq_3, sAdd.eq_4, sJ2.eq_1, sI2.eq_1, sPow, sLt.eq_1, sLt.eq_2, sLe, sGt, sGe, sMul.eq_1, sMul.eq_2, sMulB.eq_1, sMulB.eq_2, sMulB.eq_3, sLR1.eq_1, sLR2.eq_1, sTR1.eq_1, sTR2.eq_1, sIsBl.eq_1, dZip, kZip.eq_1, dDisp1, dIxW, dLenW, dName, dAppW, dPutW, dMelt, dCallBE, kIxW.eq_1, kLenW.eq_1, dLcW, kIxW_lst, kIxW_tup, kIxW_scr, kIxW_str, kIxW_dK, kIxW_dT, kLenW_lst, kLenW_tup, kLenW_scr, kLenW_str, kNm_f, kNm_t, kName, isL.eq_1, isL.eq_2, sNeg.eq_1, sLen.eq_1, sLen.eq_2, sLen.eq_3, sLen.eq_4, sLen.eq_5, sAbs.eq_1, sMax, sMin, sInt.eq_1, sInt.eq_2, sStr.eq_1, sList.eq_1, sList.eq_2, sList.eq_3, sTuple.eq_1, sTuple.eq_2, sTuple.eq_3, sIsN, sNotN, sIx.eq_1, sIx.eq_2, sIx.eq_3, sIx.eq_4, sIx.eq_5, sIx.eq_6, sIx.eq_7, sSl.eq_1, sSl.eq_2, sSl.eq_3, sSl.eq_4, sRev.eq_1, sRev.eq_2, sRev.eq_3, sAddI.eq_1, sAddI.eq_2, sPut.eq_1, sPut.eq_2, sPut.eq_3, sPut.eq_4, D.isNon, sEq_ii, sNe_ii, sEq_ww, sNe_ww, sEq_ll, sNe_ll, sIsi_ii, sIsi_ib, sIsi_ll, sIsi_tt, sIsi_ss, sEq_w, sEq_i, sEq_lw, sEq_lw', sEq_lle, sEq_lle', sNe_w, sNe_i, sNe_lle', sNe_lw', sEq_ss, sNe_ss, sEq_bb, sNe_bb, sIn_iw, sIn_ii, sIn_wl, sIn_wl', sSl3.eq_1, sSl3.eq_2, dSl3, isS.eq_1, isL.eq_1, isL.eq_2, isA.eq_1, dM0, dM1, sUpper.eq_1, sLower.eq_1, sStrip1.eq_1, sSfind.eq_1, sScount.eq_1, sSindex.eq_1, sSsplit.eq_1, sSjoin.eq_1, sSjoin.eq_2, fPop_snoc, fPop_snoc', startD, wipeD, List.map_cons, List.map_nil, List.length_cons, List.length_nil, List.length_map, List.cons_append, List.nil_append, List.replicate, List.set_cons_zero, List.set_cons_succ, List.set_nil, List.getElem?_cons_zero, List.getElem?_cons_succ, Bool.true_and, Bool.and_true, Bool.and_false, Bool.false_and, Bool.not_true, Bool.not_false, if_true, if_false, Bool.false_eq_true, reduceIte, and_true, true_and, decide_true, decide_false, not_true, Nat.zero_le, Nat.zero_add, Nat.reduceAdd, Nat.reduceSub, D.scal, Option.some.injEq, exists_eq_left', exists_eq_left, exists_eq', D.int.injEq, D.lst.injEq, D.tup.injEq, D.scr.injEq, D.str.injEq, List.cons.injEq, and_self]
    refine ⟨divC (by omega) (by omega), divC (by omega) (by omega), by omega, ?_⟩
    have h1 : atI (iN t) (u : Int) = some (.int (ap t u)) := atI_n (by rw [htp.len]; exact hup)
    have h2 : atI (iN t) (v : Int) = some (.int (ap t v)) := atI_n (by rw [htp.len]; exact hvp)
    refine seq_i ?_
    try simp -implicitDefEqProofs only [dNext, dSet, dLst, dTup, dNil, dCons, dConsO, dFor, dRng1_u, dRng2_u, dIt_u, oX, dC, dBin, dUn, dVarR, dVar, dApp, dExt, dUpd0, dPut, dAug, dRet, dRetV, dRetN, dBreak, dCont, dIf, dB_u, dTru_u, dTNot, dTAnd, dTOr, dAndV_u, dOrV_u, dNotV_u, dIfX, dChain_u, dCall, dCallB, dSl, dNoP, dP_u, dLc, dDrop, dFrz, frzD, dAsg, dDicK, dDicT, gN, gT, gsC, gsN, kB.eq_1, kT.eq_1, kT.eq_2, kT.eq_3, kT.eq_4, kT.eq_5, kT.eq_6, kT.eq_7, kT.eq_8, kAnd.eq_1, kOr.eq_1, kNot.eq_1, kIt.eq_1, kIt.eq_2, kIt.eq_3, kIt.eq_4, kP.eq_1, kR1.eq_1, kR2.eq_1, sAdd.eq_1, sAdd.eq_2, sAdd.eq_3, sAdd.eq_4, sJ2.eq_1, sI2.eq_1, sPow, sLt.eq_1, sLt.eq_2, sLe, sGt, sGe, sMul.eq_1, sMul.eq_2, sMulB.eq_1, sMulB.eq_2, sMulB.eq_3, sLR1.eq_1, sLR2.eq_1, sTR1.eq_1, sTR2.eq_1, sIsBl.eq_1, dZip, kZip.eq_1, dDisp1, dIxW, dLenW, dName, dAppW, dPutW, dMelt, dCallBE, kIxW.eq_1, kLenW.eq_1, dLcW, kIxW_lst, kIxW_tup, kIxW_scr, kIxW_str, kIxW_dK, kIxW_dT, kLenW_lst, kLenW_tup, kLenW_scr, kLenW_str, kNm_f, kNm_t, kName, isL.eq_1, isL.eq_2, sNeg.eq_1, sLen.eq_1, sLen.eq_2, sLen.eq_3, sLen.eq_4, sLen.eq_5, sAbs.eq_1, sMax, sMin, sInt.eq_1, sInt.eq_2, sStr.eq_1, sList.eq_1, sList.eq_2, sList.eq_3, sTuple.eq_1, sTuple.eq_2, sTuple.eq_3, sIsN, sNotN, sIx.eq_1, sIx.eq_2, sIx.eq_3, sIx.eq_4, sIx.eq_5, sIx.eq_6, sIx.eq_7, sSl.eq_1, sSl.eq_2, sSl.eq_3, sSl.eq_4, sRev.eq_1, sRev.eq_2, sRev.eq_3, sAddI.eq_1, sAddI.eq_2, sPut.eq_1, sPut.eq_2, sPut.eq_3, sPut.eq_4, D.isNon, sEq_ii, sNe_ii, sEq_ww, sNe_ww, sEq_ll, sNe_ll, sIsi_ii, sIsi_ib, sIsi_ll, sIsi_tt, sIsi_ss, sEq_w, sEq_i, sEq_lw, sEq_lw', sEq_lle, sEq_lle', sNe_w, sNe_i, sNe_lle', sNe_lw', sEq_ss, sNe_ss, sEq_bb, sNe_bb, sIn_iw, sIn_ii, sIn_wl, sIn_wl', sSl3.eq_1, sSl3.eq_2, dSl3, isS.eq_1, isL.eq_1, isL.eq_2, isA.eq_1, dM0, dM1, sUpper.eq_1, sLower.eq_1, sStrip1.eq_1, sSfind.eq_1, sScount.eq_1, sSindex.eq_1, sSsplit.eq_1, sSjoin.eq_1, sSjoin.eq_2, fPop_snoc, fPop_snoc', startD, wipeD, List.map_cons, List.map_nil, List.length_cons, List.length_nil, List.length_map, List.cons_append, List.nil_append, List.replicate, List.set_cons_zero, List.set_cons_succ, List.set_nil, List.getElem?_cons_zero, List.getElem?_cons_succ, Bool.true_and, Bool.and_true, Bool.and_false, Bool.false_and, Bool.not_true, Bool.not_false, if_true, if_false, Bool.false_eq_true, reduceIte, and_true, true_and, decide_true, decide_false, not_true, Nat.zero_le, Nat.zero_add, Nat.reduceAdd, Nat.reduceSub, D.scal, Option.some.injEq, exists_eq_left', exists_eq_left, exists_eq', D.int.injEq, D.lst.injEq, D.tup.injEq, D.scr.injEq, D.str.injEq, List.cons.injEq, and_self]
    refine ⟨_, _, hwc, h1, ?_⟩
    refine seq_i ?_
    try simp -implicitDefEqProofs only [dNext, dSet, dLst, dTup, dNil, dCons, dConsO, dFor, dRng1_u, dRng2_u, dIt_u, oX, dC, dBin, dUn, dVarR, dVar, dApp, dExt, dUpd0, dPut, dAug, dRet, dRetV, dRetN, dBreak, dCont, dIf, dB_u, dTru_u, dTNot, dTAnd, dTOr, dAndV_u, dOrV_u, dNotV_u, dIfX, dChain_u, dCall, dCallB, dSl, dNoP, dP_u, dLc, dDrop, dFrz, frzD, dAsg, dDicK, dDicT, gN, gT, gsC, gsN, kB.eq_1, kT.eq_1, kT.eq_2, kT.eq_3, kT.eq_4, kT.eq_5, kT.eq_6, kT.eq_7, kT.eq_8, kAnd.eq_1, kOr.eq_1, kNot.eq_1, kIt.eq_1, kIt.eq_2, kIt.eq_3, kIt.eq_4, kP.eq_1, kR1.eq_1, kR2.eq_1, sAdd.eq_1, sAdd.eq_2, sAdd.eq_3, sAdd.eq_4, sJ2.eq_1, sI2.eq_1, sPow, sLt.eq_1, sLt.eq_2, sLe, sGt, sGe, sMul.eq_1, sMul.eq_2, sMulB.eq_1, sMulB.eq_2, sMulB.eq_3, sLR1.eq_1, sLR2.eq_1, sTR1.eq_1, sTR2.eq_1, sIsBl.eq_1, dZip, kZip.eq_1, dDisp1, dIxW, dLenW, dName, dAppW, dPutW, dMelt, dCallBE, kIxW.eq_1, kLenW.eq_1, dLcW, kIxW_lst, kIxW_tup, kIxW_scr, kIxW_str, kIxW_dK, kIxW_dT, kLenW_lst, kLenW_tup, kLenW_scr, kLenW_str, kNm_f, kNm_t, kName, isL.eq_1, isL.eq_2, sNeg.eq_1, sLen.eq_1, sLen.eq_2, sLen.eq_3, sLen.eq_4, sLen.eq_5, sAbs.eq_1, sMax, sMin, sInt.eq_1, sInt.eq_2, sStr.eq_1, sList.eq_1, sList.eq_2, sList.eq_3, sTuple.eq_1, sTuple.eq_2, sTuple.eq_3, sIsN, sNotN, sIx.eq_1, sIx.eq_2, sIx.eq_3, sIx.eq_4, sIx.eq_5, sIx.eq_6, sIx.eq_7, sSl.eq_1, sSl.eq_2, sSl.eq_3, sSl.eq_4, sRev.eq_1, sRev.eq_2, sRev.eq_3, sAddI.eq_1, sAddI.eq_2, sPut.eq_1, sPut.eq_2, sPut.eq_3, sPut.eq_4, D.isNon, sEq_ii, sNe_ii, sEq_ww, sNe_ww, sEq_ll, sNe_ll, sIsi_ii, sIsi_ib, sIsi_ll, sIsi_tt, sIsi_ss, sEq_w, sEq_i, sEq_lw, sEq_lw', sEq_lle, sEq_lle', sNe_w, sNe_i, sNe_lle', sNe_lw', sEq_ss, sNe_ss, sEq_bb, sNe_bb, sIn_iw, sIn_ii, sIn_wl, sIn_wl', sSl3.eq_1, sSl3.eq_2, dSl3, isS.eq_1, isL.eq_1, isL.eq_2, isA.eq_1, dM0, dM1, sUpper.eq_1, sLower.eq_1, sStrip1.eq_1, sSfind.eq_1, sScount.eq_1, sSindex.eq_1, sSsplit.eq_1, sSjoin.eq_1, sSjoin.eq_2, fPop_snoc, fPop_snoc', startD, wipeD, List.map_cons, List.map_nil, List.length_cons, List.length_nil, List.length_map, List.cons_append, List.nil_append, List.replicate, List.set_cons_zero, List.set_cons_succ, List.set_nil, List.getElem?_cons_zero, List.getElem?_cons_succ, Bool.true_and, Bool.and_true, Bool.and_false, Bool.false_and, Bool.not_true, Bool.not_false, if_true, if_false, Bool.false_eq_true, reduceIte, and_true, true_and, decide_true, decide_false, not_true, Nat.zero_le, Nat.zero_add, Nat.reduceAdd, Nat.reduceSub, D.scal, Option.some.injEq, exists_eq_left', exists_eq_left, exists_eq', D.int.injEq, D.lst.injEq, D.tup.injEq, D.scr.injEq, D.str.injEq, List.cons.injEq, and_self]
    refine ⟨_, _, hwc, h2, c, iN t, u, u, rfl, rfl, hwc, by unfold iN; rw [List.length_map, htp.len]; exact ixN_nat hup, ?_⟩
    have e1 : (iN t).set u (.int (ap t v)) = iN (t.set u (ap t v)) := nset _ _ _
    rw [e1]
    have htw2 := htw.put hci (t.set u (ap t v))
    refine ⟨c, iN (t.set u (ap t v)), v, v, rfl, rfl, updM_same, by unfold iN; rw [List.length_map, List.length_set, htp.len]; exact ixN_nat hvp, ?_⟩
    have e2 : (iN (t.set u (ap t v))).set v (.int (ap t u)) = iN ((t.set u (ap t v)).set v (ap t u)) := nset _ _ _
    rw [e2]
    have htw3 := htw2.put hci ((t.set u (ap t v)).set v (ap t u))
    refine hN _ _ ⟨_, _, htw3, by simp [htl], ⟨fun s hs => ?_⟩, _, _, _, _, _, _, rfl⟩
    rw [List.set_set] at hs
    rcases List.mem_or_eq_of_mem_set hs with h' | h'
    · exact hts.pm s h'
    · subst h'; exact pm_swap htp hup hvp
  · rintro δ w ⟨cs, ts, htw, htl, hts, j4, j5, j6, j7, j8, j9, rfl⟩
    obtain ⟨rows, r1, r2, r3⟩ := htw.rows
    try simp -implicitDefEqProofs only [dNext, dSet, dLst, dTup, dNil, dCons, dConsO, dFor, dRng1_u, dRng2_u, dIt_u, oX, dC, dBin, dUn, dVarR, dVar, dApp, dExt, dUpd0, dPut, dAug, dRet, dRetV, dRetN, dBreak, dCont, dIf, dB_u, dTru_u, dTNot, dTAnd, dTOr, dAndV_u, dOrV_u, dNotV_u, dIfX, dChain_u, dCall, dCallB, dSl, dNoP, dP_u, dLc, dDrop, dFrz, frzD, dAsg, dDicK, dDicT, gN, gT, gsC, gsN, kB.eq_1, kT.eq_1, kT.eq_2, kT.eq_3, kT.eq_4, kT.eq_5, kT.eq_6, kT.eq_7, kT.eq_8, kAnd.eq_1, kOr.eq_1, kNot.eq_1, kIt.eq_1, kIt.eq_2, kIt.eq_3, kIt.eq_4, kP.eq_1, kR1.eq_1, kR2.eq_1, sAdd.eq_1, sAdd.eq_2, sAdd.eq_3, sAdd.eq_4, sJ2.eq_1, sI2.eq_1, sPow, sLt.eq_1, sLt.eq_2, sLe, sGt, sGe, sMul.eq_1, sMul.eq_2, sMulB.eq_1, sMulB.eq_2, sMulB.eq_3, sLR1.eq_1, sLR2.eq_1, sTR1.eq_1, sTR2.eq_1, sIsBl.eq_1, dZip, kZip.eq_1, dDisp1, dIxW, dLenW, dName, dAppW, dPutW, dMelt, dCallBE, kIxW.eq_1, kLenW.eq_1, dLcW, kIxW_lst, kIxW_tup, kIxW_scr, kIxW_str, kIxW_dK, kIxW_dT, kLenW_lst, kLenW_tup, kLenW_scr, kLenW_str, kNm_f, kNm_t, kName, isL.eq_1, isL.eq_2, sNeg.eq_1, sLen.eq_1, sLen.eq_2, sLen.eq_3, sLen.eq_4, sLen.eq_5, sAbs.eq_1, sMax, sMin, sInt.eq_1, sInt.eq_2, sStr.eq_1, sList.eq_1, sList.eq_2, sList.eq_3, sTuple.eq_1, sTuple.eq_2, sTuple.eq_3, sIsN, sNotN, sIx.eq_1, sIx.eq_2, sIx.eq_3, sIx.eq_4, sIx.eq_5, sIx.eq_6, sIx.eq_7, sSl.eq_1, sSl.eq_2, sSl.eq_3, sSl.eq_4, sRev.eq_1, sRev.eq_2, sRev.eq_3, sAddI.eq_1, sAddI.eq_2, sPut.eq_1, sPut.eq_2, sPut.eq_3, sPut.eq_4, D.isNon, sEq_ii, sNe_ii, sEq_ww, sNe_ww, sEq_ll, sNe_ll, sIsi_ii, sIsi_ib, sIsi_ll, sIsi_tt, sIsi_ss, sEq_w, sEq_i, sEq_lw, sEq_lw', sEq_lle, sEq_lle', sNe_w, sNe_i, sNe_lle', sNe_lw', sEq_ss, sNe_ss, sEq_bb, sNe_bb, sIn_iw, sIn_ii, sIn_wl, sIn_wl', sSl3.eq_1, sSl3.eq_2, dSl3, isS.eq_1, isL.eq_1, isL.eq_2, isA.eq_1, dM0, dM1, sUpper.eq_1, sLower.eq_1, sStrip1.eq_1, sSfind.eq_1, sScount.eq_1, sSindex.eq_1, sSsplit.eq_1, sSjoin.eq_1, sSjoin.eq_2, fPop_snoc, fPop_snoc', startD, wipeD, List.map_cons, List.map_nil, List.length_cons, List.length_nil, List.length_map, List.cons_append, List.nil_append, List.replicate, List.set_cons_zero, List.set_cons_succ, List.set_nil, List.getElem?_cons_zero, List.getElem?_cons_succ, Bool.true_and, Bool.and_true, Bool.and_false, Bool.false_and, Bool.not_true, Bool.not_false, if_true, if_false, Bool.false_eq_true, reduceIte, and_true, true_and, decide_true, decide_false, not_true, Nat.zero_le, Nat.zero_add, Nat.reduceAdd, Nat.reduceSub, D.scal, Option.some.injEq, exists_eq_left', exists_eq_left, exists_eq', D.int.injEq, D.lst.injEq, D.tup.injEq, D.scr.injEq, D.str.injEq, List.cons.injEq, and_self]
    refine ⟨a, rows, rfl, r1, r2, ?_⟩
    try simp -implicitDefEqProofs only [r3, dNext, dSet, dLst, dTup, dNil, dCons, dConsO, dFor, dRng1_u, dRng2_u, dIt_u, oX, dC, dBin, dUn, dVarR, dVar, dApp, dExt, dUpd0, dPut, dAug, dRet, dRetV, dRetN, dBreak, dCont, dIf, dB_u, dTru_u, dTNot, dTAnd, dTOr, dAndV_u, dOrV_u, dNotV_u, dIfX, dChain_u, dCall, dCallB, dSl, dNoP, dP_u, dLc, dDrop, dFrz, frzD, dAsg, dDicK, dDicT, gN, gT, gsC, gsN, kB.eq_1, kT.eq_1, kT.eq_2, kT.eq_3, kT.eq_4, kT.eq_5, kT.eq_6, kT.eq_7, kT.eq_8, kAnd.eq_1, kOr.eq_1, kNot.eq_1, kIt.eq_1, kIt.eq_2, kIt.eq_3, kIt.eq_4, kP.eq_1, kR1.eq_1, kR2.eq_1, sAdd.eq_1, sAdd.eq_2, sAdd.eq_3, sAdd.eq_4, sJ2.eq_1, sI2.eq_1, sPow, sLt.eq_1, sLt.eq_2, sLe, sGt, sGe, sMul.eq_1, sMul.eq_2, sMulB.eq_1, sMulB.eq_2, sMulB.eq_3, sLR1.eq_1, sLR2.eq_1, sTR1.eq_1, sTR2.eq_1, sIsBl.eq_1, dZip, kZip.eq_1, dDisp1, dIxW, dLenW, dName, dAppW, dPutW, dMelt, dCallBE, kIxW.eq_1, kLenW.eq_1, dLcW, kIxW_lst, kIxW_tup, kIxW_scr, kIxW_str, kIxW_dK, kIxW_dT, kLenW_lst, kLenW_tup, kLenW_scr, kLenW_str, kNm_f, kNm_t, kName, isL.eq_1, isL.eq_2, sNeg.eq_1, sLen.eq_1, sLen.eq_2, sLen.eq_3, sLen.eq_4, sLen.eq_5, sAbs.eq_1, sMax, sMin, sInt.eq_1, sInt.eq_2, sStr.eq_1, sList.eq_1, sList.eq_2, sList.eq_3, sTuple.eq_1, sTuple.eq_2, sTuple.eq_3, sIsN, sNotN, sIx.eq_1, sIx.eq_2, sIx.eq_3, sIx.eq_4, sIx.eq_5, sIx.eq_6, sIx.eq_7, sSl.eq_1, sSl.eq_2, sSl.eq_3, sSl.eq_4, sRev.eq_1, sRev.eq_2, sRev.eq_3, sAddI.eq_1, sAddI.eq_2, sPut.eq_1, sPut.eq_2, sPut.eq_3, sPut.eq_4, D.isNon, sEq_ii, sNe_ii, sEq_ww, sNe_ww, sEq_ll, sNe_ll, sIsi_ii, sIsi_ib, sIsi_ll, sIsi_tt, sIsi_ss, sEq_w, sEq_i, sEq_lw, sEq_lw', sEq_lle, sEq_lle', sNe_w, sNe_i, sNe_lle', sNe_lw', sEq_ss, sNe_ss, sEq_bb, sNe_bb, sIn_iw, sIn_ii, sIn_wl, sIn_wl', sSl3.eq_1, sSl3.eq_2, dSl3, isS.eq_1, isL.eq_1, isL.eq_2, isA.eq_1, dM0, dM1, sUpper.eq_1, sLower.eq_1, sStrip1.eq_1, sSfind.eq_1, sScount.eq_1, sSindex.eq_1, sSsplit.eq_1, sSjoin.eq_1, sSjoin.eq_2, fPop_snoc, fPop_snoc', startD, wipeD, List.map_cons, List.map_nil, List.length_cons, List.length_nil, List.length_map, List.cons_append, List.nil_append, List.replicate, List.set_cons_zero, List.set_cons_succ, List.set_nil, List.getElem?_cons_zero, List.getElem?_cons_succ, Bool.true_and, Bool.and_true, Bool.and_false, Bool.false_and, Bool.not_true, Bool.not_false, if_true, if_false, Bool.false_eq_true, reduceIte, and_true, true_and, decide_true, decide_false, not_true, Nat.zero_le, Nat.zero_add, Nat.reduceAdd, Nat.reduceSub, D.scal, Option.some.injEq, exists_eq_left', exists_eq_left, exists_eq', D.int.injEq, D.lst.injEq, D.tup.injEq, D.scr.injEq, D.str.injEq, List.cons.injEq, and_self]
    exact q ts htl hts
theorem TW.push {w : Mem} {a : Addr} {cs : List Addr} {ts : List (List Nat)} (h : TW w a cs ts) {c : Addr} (hc : w c = none) (t : List Nat) : TW (updM (updM w c (iN t)) a (cs.map D.ref ++ [.ref c])) a (cs ++ [c]) (ts ++ [t]) := by
  have hca : c ≠ a := fun e => by rw [e, h.ha] at hc; cases hc
  have hcc : c ∉ cs := fun hm => by
    obtain ⟨j, hj⟩ := List.mem_iff_getElem?.mp hm
    have hl := (List.getElem?_eq_some_iff.mp hj).1
    rw [h.row j c _ hj (List.getElem?_eq_getElem (by rw [← h.len]; exact hl))] at hc
    cases hc
  refine ⟨by rw [updM_same]; simp, by simp [h.len], ?_, fun hm => ?_, fun j d u hj hu => ?_⟩
  · rw [List.nodup_append]
    refine ⟨h.nd, by simp, fun x hx y hy => ?_⟩
    simp at hy
    subst hy
    exact fun e => hcc (e ▸ hx)
  · rcases List.mem_append.mp hm with h' | h'
    · exact h.na h'
    · simp at h'; exact hca h'.symm
  · by_cases e : j < cs.length
    · rw [List.getElem?_append_left e] at hj
      rw [List.getElem?_append_left (by rw [← h.len]; exact e)] at hu
      have hm := List.mem_of_getElem? hj
      have h1 : d ≠ a := fun z => h.na (z ▸ hm)
      have h2 : d ≠ c := fun z => hcc (z ▸ hm)
      rw [updM_ne h1, updM_ne h2]
      exact h.row j d u hj hu
    · rw [List.getElem?_append_right (by omega)] at hj
      rw [List.getElem?_append_right (by rw [← h.len]; omega)] at hu
      have hj0 : j = cs.length := by
        have := (List.getElem?_eq_some_iff.mp hj).1
        simp at this
        omega
      subst hj0
      rw [h.len, Nat.sub_self] at hu
      rw [Nat.sub_self] at hj
      cases hj; cases hu
      rw [updM_ne hca, updM_same]
/-- a table of points: come tells the point of each room -/
structure Tp (p : Nat) (ts : List (List Nat)) (come : List Nat) (tab : List (List Nat)) : Prop where
  c0 : come[0]? = some 0
  lt : ∀ x ∈ come, x < p
  nd : come.Nodup
  len : tab.length = come.length
  row : ∀ (i x : Nat), come[i]? = some x → ∃ r : List Nat, tab[i]? = some r ∧ r.length = 2 * ts.length ∧ ∀ k, k < 2 * ts.length → come[ap r k]? = some (ap (tk ts k) x)
  reach : ∀ j, 0 < j → j < come.length → ∃ i k, i < j ∧ k < 2 * ts.length ∧ ap ((tab[i]?).getD []) k = j
/-- the numbers of the points, by the order they came -/
def nuL (come : List Nat) : List (Nat × Nat) := come.zipIdx
def nuD (come : List Nat) : List (Key × D) := (nuL come).map fun q => ((Sum.inl (q.1 : Int) : Key), D.int q.2)
theorem nu_snoc (come : List Nat) (x : Nat) : nuD (come ++ [x]) = nuD come ++ [(Sum.inl (x : Int), .int come.length)] := by
  unfold nuD nuL
  rw [List.zipIdx_append]
  simp
theorem nu_find : ∀ (come : List Nat) (k x : Nat), come.Nodup → ((come.zipIdx k).map fun q => ((Sum.inl (q.1 : Int) : Key), D.int (q.2 : Int))).find? (fun kv => decide (kv.1 = (Sum.inl (x : Int) : Key))) = (come.idxOf? x).map fun i => ((Sum.inl (x : Int) : Key), D.int ((k + i : Nat) : Int))
  | [], k, x, _ => rfl
  | y :: come, k, x, h => by
    rw [List.zipIdx_cons, List.map_cons, List.find?_cons]
    have h2 := List.nodup_cons.mp h
    by_cases e : y = x
    · subst e
      simp [List.idxOf?_cons]
    · have hne : ¬ ((Sum.inl (y : Int) : Key) = Sum.inl (x : Int)) := fun z => e (by have := Sum.inl.inj z; omega)
      have ih := nu_find come (k + 1) x h2.2
      simp only [hne, decide_false]
      rw [ih, List.idxOf?_cons]
      simp only [beq_iff_eq, e, if_false, Option.map_map]
      cases come.idxOf? x with
      | none => rfl
      | some i =>
        simp only [Option.map_some, Function.comp]
        congr 3
        omega
theorem nu_val {come : List Nat} (h : come.Nodup) (x : Nat) : valD (nuD come) (.inl (x : Int)) = (come.idxOf? x).map (fun i : Nat => D.int ((i : Nat) : Int)) := by
  unfold valD nuD nuL
  have := nu_find come 0 x h
  rw [this]
  cases come.idxOf? x with
  | none => rfl
  | some i => simp
theorem nu_put {come : List Nat} {x : Nat} (h : x ∉ come) : putD (nuD come) (.inl (x : Int)) (.int come.length) = nuD (come ++ [x]) := by
  rw [nu_snoc]
  unfold putD
  rw [if_neg]
  intro hany
  rw [List.any_eq_true] at hany
  obtain ⟨kv, hkv, e⟩ := hany
  unfold nuD nuL at hkv
  obtain ⟨q, hq, rfl⟩ := List.mem_map.mp hkv
  simp at e
  have : q.1 = x := by omega
  subst this
  exact h (List.fst_mem_of_mem_zipIdx hq)
theorem tk_sel {ts : List (List Nat)} {k : Nat} (hk : k < 2 * ts.length) : ∃ L : List (List Nat), atI [D.lst (ts.map nL), D.lst ((ts.map invP).map nL)] ((0 + (k : Int)) % 2) = some (.lst (L.map nL)) ∧ L[k / 2]? = some (tk ts k) := by
  have hl : k / 2 < ts.length := by omega
  unfold tk
  rw [List.getElem?_eq_getElem hl]
  by_cases h : k % 2 = 1
  · refine ⟨ts.map invP, ?_, by rw [if_pos h, List.getElem?_map, List.getElem?_eq_getElem hl]; rfl⟩
    rw [show (0 + (k : Int)) % 2 = 1 by omega]
    rfl
  · refine ⟨ts, ?_, by rw [if_neg h, List.getElem?_eq_getElem hl]; rfl⟩
    rw [show (0 + (k : Int)) % 2 = 0 by omega]
    rfl
def T_Ltable : DSp W_ := fun ds w P => ∃ (p : Nat) (ts : List (List Nat)), ds = [.lst (ts.map nL), .int p] ∧ w = noMem ∧ Tns p ts ∧ 1 ≤ ts.length ∧ ts.length ≤ 40 ∧ 1 ≤ p ∧ p ≤ 300 ∧ ∀ (come : List Nat) (tab : List (List Nat)), Tp p ts come tab → P false (.lst (tab.map nL)) noMem
theorem emp_Ltable (ds : List D) (w : W_.Om) (P : Bool → D → W_.Om → Prop) (h : T_Ltable ds w P) : w = noMem := by obtain ⟨_, _, _, h, _⟩ := h; exact h
theorem len_Ltable (ds : List D) (w : W_.Om) (P : Bool → D → W_.Om → Prop) (h : T_Ltable ds w P) : ds.length = 2 := by first | (have h := h.1; subst h; rfl) | (obtain ⟨rfl, _⟩ := h; rfl) | (obtain ⟨_, rfl, _⟩ := h; rfl) | (obtain ⟨_, _, rfl, _⟩ := h; rfl) | (obtain ⟨_, _, _, rfl, _⟩ := h; rfl) | (obtain ⟨_, _, _, _, rfl, _⟩ := h; rfl) | (obtain ⟨_, _, _, _, _, rfl, _⟩ := h; rfl) | (obtain ⟨_, _, _, _, _, _, rfl, _⟩ := h; rfl) | (obtain ⟨_, _, _, _, _, _, _, rfl, _⟩ := h; rfl) | (obtain ⟨_, _, _, _, _, _, _, _, rfl, _⟩ := h; rfl) | (obtain ⟨_, _, _, _, _, _, _, _, _, rfl, _⟩ := h; rfl) | (obtain ⟨_, _, _, _, _, _, _, _, _, _, rfl, _⟩ := h; rfl) | (obtain ⟨_, _, _, _, _, _, _, _, _, _, _, rfl, _⟩ := h; rfl)
def b_Ltable : DS W_ := (dSeq (dSet true 2 (dLst dNil))
    (dSeq (dFor (dIt (dVar 0)) (gN 3) (dSeq (dSet true 4 (dBin sMulB (oX (dLst (dCons (dC (.int 0)) dNil))) (dVarR 1)))
    (dSeq (dFor (dRng1 (dVarR 1)) (gN 5) (dPut 4 (oX (dIxW (dVarR 3) (dVarR 5))) (dVar 5)))
    (dFrz 4 (dApp 2 (dVar 4))))))
    (dSeq (dSet true 6 (dDisp1 (oX (dC (.int 0))) (dC (.int 0))))
    (dSeq (dSet true 7 (dLst (dCons (dC (.int 0)) dNil)))
    (dSeq (dName 8 (dSet true 8 (dLst dNil)))
    (dSeq (dWhile (dB (dBin sLt (oX (dLenW (dVarR 8))) (oX (dLenW (dVarR 7))))) (dSeq (dSet false 9 (dIxW (dVarR 7) (oX (dLenW (dVarR 8)))))
    (dSeq (dAppW true (dVarR 8) (dLst dNil))
    (dFor (dRng1 (oX (dBin sMulB (oX (dC (.int 2))) (oX (dLenW (dVarR 0)))))) (gN 5) (dSeq (dFrz 2 (dSet false 10 (dIxW (oX (dIxW (oX (dIxW (oX (dLst (dCons (dVar 0) (dCons (dVar 2) dNil)))) (oX (dBin sMod (dVarR 5) (oX (dC (.int 2))))))) (oX (dBin sFdiv (dVarR 5) (oX (dC (.int 2))))))) (dVarR 9))))
    (dSeq (dIf (dB (dBin (sIn true) (dVarR 10) (dVarR 6))) (dSeq (dPut 6 (dVarR 10) (dLenW (dVarR 7)))
    (dApp 7 (dVar 10))) dNext)
    (dAppW false (oX (dIxW (dVarR 8) (oX (dUn sNeg (oX (dC (.int 1))))))) (dIxW (dVarR 6) (dVarR 10)))))))))
    (dMelt 8 (dRetV 8))))))))
theorem v_Ltable (ds : List D) (w : W_.Om) (P : Bool → D → W_.Om → Prop) (h : T_Ltable ds w P) : b_Ltable { nx := fun _ w => P false .non w, rt := P } (startD ["_law_turns_here", "_law_points", "_law_backs", "_law_row", "_law_turned", "_law_k", "_law_numbers", "_law_come", "_law_table_here", "_law_point", "_law_other"] ds) w := by
  unfold b_Ltable
  obtain ⟨p, ts, rfl, rfl, tns, hl1, hl40, hp1, hp300, q⟩ := h
  have hs := sizeLine_eq
  refine seq_i ?_
  try simp -implicitDefEqProofs only [dNext, dSet, dLst, dTup, dNil, dCons, dConsO, dFor, dRng1_u, dRng2_u, dIt_u, oX, dC, dBin, dUn, dVarR, dVar, dApp, dExt, dUpd0, dPut, dAug, dRet, dRetV, dRetN, dBreak, dCont, dIf, dB_u, dTru_u, dTNot, dTAnd, dTOr, dAndV_u, dOrV_u, dNotV_u, dIfX, dChain_u, dCall, dCallB, dSl, dNoP, dP_u, dLc, dDrop, dFrz, frzD, dAsg, dDicK, dDicT, gN, gT, gsC, gsN, kB.eq_1, kT.eq_1, kT.eq_2, kT.eq_3, kT.eq_4, kT.eq_5, kT.eq_6, kT.eq_7, kT.eq_8, kAnd.eq_1, kOr.eq_1, kNot.eq_1, kIt.eq_1, kIt.eq_2, kIt.eq_3, kIt.eq_4, kP.eq_1, kR1.eq_1, kR2.eq_1, sAdd.eq_1, sAdd.eq_2, sAdd.eq_3, sAdd.eq_4, sJ2.eq_1, sI2.eq_1, sPow, sLt.eq_1, sLt.eq_2, sLe, sGt, sGe, sMul.eq_1, sMul.eq_2, sMulB.eq_1, sMulB.eq_2, sMulB.eq_3, sLR1.eq_1, sLR2.eq_1, sTR1.eq_1, sTR2.eq_1, sIsBl.eq_1, dZip, kZip.eq_1, dDisp1, dIxW, dLenW, dName, dAppW, dPutW, dMelt, dCallBE, kIxW.eq_1, kLenW.eq_1, dLcW, kIxW_lst, kIxW_tup, kIxW_scr, kIxW_str, kIxW_dK, kIxW_dT, kLenW_lst, kLenW_tup, kLenW_scr, kLenW_str, kNm_f, kNm_t, kName, isL.eq_1, isL.eq_2, sNeg.eq_1, sLen.eq_1, sLen.eq_2, sLen.eq_3, sLen.eq_4, sLen.eq_5, sAbs.eq_1, sMax, sMin, sInt.eq_1, sInt.eq_2, sStr.eq_1, sList.eq_1, sList.eq_2, sList.eq_3, sTuple.eq_1, sTuple.eq_2, sTuple.eq_3, sIsN, sNotN, sIx.eq_1, sIx.eq_2, sIx.eq_3, sIx.eq_4, sIx.eq_5, sIx.eq_6, sIx.eq_7, sSl.eq_1, sSl.eq_2, sSl.eq_3, sSl.eq_4, sRev.eq_1, sRev.eq_2, sRev.eq_3, sAddI.eq_1, sAddI.eq_2, sPut.eq_1, sPut.eq_2, sPut.eq_3, sPut.eq_4, D.isNon, sEq_ii, sNe_ii, sEq_ww, sNe_ww, sEq_ll, sNe_ll, sIsi_ii, sIsi_ib, sIsi_ll, sIsi_tt, sIsi_ss, sEq_w, sEq_i, sEq_lw, sEq_lw', sEq_lle, sEq_lle', sNe_w, sNe_i, sNe_lle', sNe_lw', sEq_ss, sNe_ss, sEq_bb, sNe_bb, sIn_iw, sIn_ii, sIn_wl, sIn_wl', sSl3.eq_1, sSl3.eq_2, dSl3, isS.eq_1, isL.eq_1, isL.eq_2, isA.eq_1, dM0, dM1, sUpper.eq_1, sLower.eq_1, sStrip1.eq_1, sSfind.eq_1, sScount.eq_1, sSindex.eq_1, sSsplit.eq_1, sSjoin.eq_1, sSjoin.eq_2, fPop_snoc, fPop_snoc', startD, wipeD, List.map_cons, List.map_nil, List.length_cons, List.length_nil, List.length_map, List.cons_append, List.nil_append, List.replicate, List.set_cons_zero, List.set_cons_succ, List.set_nil, List.getElem?_cons_zero, List.getElem?_cons_succ, Bool.true_and, Bool.and_true, Bool.and_false, Bool.false_and, Bool.not_true, Bool.not_false, if_true, if_false, Bool.false_eq_true, reduceIte, and_true, true_and, decide_true, decide_false, not_true, Nat.zero_le, Nat.zero_add, Nat.reduceAdd, Nat.reduceSub, D.scal]
  refine seq_cut (fun δ w => w = noMem ∧ ∃ j3 j4 j5, δ = [some (false, .lst (ts.map nL)), some (false, .int p), some (true, .lst ((ts.map invP).map nL)), j3, j4, j5, none, none, none, none, none]) (fun N h => ?_) ?_
  · try simp -implicitDefEqProofs only [dNext, dSet, dLst, dTup, dNil, dCons, dConsO, dFor, dRng1_u, dRng2_u, dIt_u, oX, dC, dBin, dUn, dVarR, dVar, dApp, dExt, dUpd0, dPut, dAug, dRet, dRetV, dRetN, dBreak, dCont, dIf, dB_u, dTru_u, dTNot, dTAnd, dTOr, dAndV_u, dOrV_u, dNotV_u, dIfX, dChain_u, dCall, dCallB, dSl, dNoP, dP_u, dLc, dDrop, dFrz, frzD, dAsg, dDicK, dDicT, gN, gT, gsC, gsN, kB.eq_1, kT.eq_1, kT.eq_2, kT.eq_3, kT.eq_4, kT.eq_5, kT.eq_6, kT.eq_7, kT.eq_8, kAnd.eq_1, kOr.eq_1, kNot.eq_1, kIt.eq_1, kIt.eq_2, kIt.eq_3, kIt.eq_4, kP.eq_1, kR1.eq_1, kR2.eq_1, sAdd.eq_1, sAdd.eq_2, sAdd.eq_3, sAdd.eq_4, sJ2.eq_1, sI2.eq_1, sPow, sLt.eq_1, sLt.eq_2, sLe, sGt, sGe, sMul.eq_1, sMul.eq_2, sMulB.eq_1, sMulB.eq_2, sMulB.eq_3, sLR1.eq_1, sLR2.eq_1, sTR1.eq_1, sTR2.eq_1, sIsBl.eq_1, dZip, kZip.eq_1, dDisp1, dIxW, dLenW, dName, dAppW, dPutW, dMelt, dCallBE, kIxW.eq_1, kLenW.eq_1, dLcW, kIxW_lst, kIxW_tup, kIxW_scr, kIxW_str, kIxW_dK, kIxW_dT, kLenW_lst, kLenW_tup, kLenW_scr, kLenW_str, kNm_f, kNm_t, kName, isL.eq_1, isL.eq_2, sNeg.eq_1, sLen.eq_1, sLen.eq_2, sLen.eq_3, sLen.eq_4, sLen.eq_5, sAbs.eq_1, sMax, sMin, sInt.eq_1, sInt.eq_2, sStr.eq_1, sList.eq_1, sList.eq_2, sList.eq_3, sTuple.eq_1, sTuple.eq_2, sTuple.eq_3, sIsN, sNotN, sIx.eq_1, sIx.eq_2, sIx.eq_3, sIx.eq_4, sIx.eq_5, sIx.eq_6, sIx.eq_7, sSl.eq_1, sSl.eq_2, sSl.eq_3, sSl.eq_4, sRev.eq_1, sRev.eq_2, sRev.eq_3, sAddI.eq_1, sAddI.eq_2, sPut.eq_1, sPut.eq_2, sPut.eq_3, sPut.eq_4, D.isNon, sEq_ii, sNe_ii, sEq_ww, sNe_ww, sEq_ll, sNe_ll, sIsi_ii, sIsi_ib, sIsi_ll, sIsi_tt, sIsi_ss, sEq_w, sEq_i, sEq_lw, sEq_lw', sEq_lle, sEq_lle', sNe_w, sNe_i, sNe_lle', sNe_lw', sEq_ss, sNe_ss, sEq_bb, sNe_bb, sIn_iw, sIn_ii, sIn_wl, sIn_wl', sSl3.eq_1, sSl3.eq_2, dSl3, isS.eq_1, isL.eq_1, isL.eq_2, isA.eq_1, dM0, dM1, sUpper.eq_1, sLower.eq_1, sStrip1.eq_1, sSfind.eq_1, sScount.eq_1, sSindex.eq_1, sSsplit.eq_1, sSjoin.eq_1, sSjoin.eq_2, fPop_snoc, fPop_snoc', startD, wipeD, List.map_cons, List.map_nil, List.length_cons, List.length_nil, List.length_map, List.cons_append, List.nil_append, List.replicate, List.set_cons_zero, List.set_cons_succ, List.set_nil, List.getElem?_cons_zero, List.getElem?_cons_succ, Bool.true_and, Bool.and_true, Bool.and_false, Bool.false_and, Bool.not_true, Bool.not_false, if_true, if_false, Bool.false_eq_true, reduceIte, and_true, true_and, decide_true, decide_false, not_true, Nat.zero_le, Nat.zero_add, Nat.reduceAdd, Nat.reduceSub, D.scal, Option.some.injEq, exists_eq_left', exists_eq_left, exists_eq', D.int.injEq, D.lst.injEq, D.tup.injEq, D.scr.injEq, D.str.injEq, List.cons.injEq, and_self]
    refine for_go nL (fun pre δ w => w = noMem ∧ ∃ j3 j4 j5, δ = [some (false, .lst (ts.map nL)), some (false, .int p), some (true, .lst ((pre.map invP).map nL)), j3, j4, j5, none, none, none, none, none]) _ ⟨rfl, none, none, none, rfl⟩ ?_ ?_
    · rintro pre t post δ w N C e ⟨rfl, j3, j4, j5, rfl⟩ hN hC
      have ht := tns.pm t (by rw [e]; simp)
      have hpl : pre.length ≤ ts.length := by rw [e]; simp
      try simp -implicitDefEqProofs only [dNext, dSet, dLst, dTup, dNil, dCons, dConsO, dFor, dRng1_u, dRng2_u, dIt_u, oX, dC, dBin, dUn, dVarR, dVar, dApp, dExt, dUpd0, dPut, dAug, dRet, dRetV, dRetN, dBreak, dCont, dIf, dB_u, dTru_u, dTNot, dTAnd, dTOr, dAndV_u, dOrV_u, dNotV_u, dIfX, dChain_u, dCall, dCallB, dSl, dNoP, dP_u, dLc, dDrop, dFrz, frzD, dAsg, dDicK, dDicT, gN, gT, gsC, gsN, kB.eq_1, kT.eq_1, kT.eq_2, kT.eq_3, kT.eq_4, kT.eq_5, kT.eq_6, kT.eq_7, kT.eq_8, kAnd.eq_1, kOr.eq_1, kNot.eq_1, kIt.eq_1, kIt.eq_2, kIt.eq_3, kIt.eq_4, kP.eq_1, kR1.eq_1, kR2.eq_1, sAdd.eq_1, sAdd.eq_2, sAdd.eq_3, sAdd.eq_4, sJ2.eq_1, sI2.eq_1, sPow, sLt.eq_1, sLt.eq_2, sLe, sGt, sGe, sMul.eq_1, sMul.eq_2, sMulB.eq_1, sMulB.eq_2, sMulB.eq_3, sLR1.eq_1, sLR2.eq_1, sTR1.eq_1, sTR2.eq_1, sIsBl.eq_1, dZip, kZip.eq_1, dDisp1, dIxW, dLenW, dName, dAppW, dPutW, dMelt, dCallBE, kIxW.eq_1, kLenW.eq_1, dLcW, kIxW_lst, kIxW_tup, kIxW_scr, kIxW_str, kIxW_dK, kIxW_dT, kLenW_lst, kLenW_tup, kLenW_scr, kLenW_str, kNm_f, kNm_t, kName, isL.eq_1, isL.eq_2, sNeg.eq_1, sLen.eq_1, sLen.eq_2, sLen.eq_3, sLen.eq_4, sLen.eq_5, sAbs.eq_1, sMax, sMin, sInt.eq_1, sInt.eq_2, sStr.eq_1, sList.eq_1, sList.eq_2, sList.eq_3, sTuple.eq_1, sTuple.eq_2, sTuple.eq_3, sIsN, sNotN, sIx.eq_1, sIx.eq_2, sIx.eq_3, sIx.eq_4, sIx.eq_5, sIx.eq_6, sIx.eq_7, sSl.eq_1, sSl.eq_2, sSl.eq_3, sSl.eq_4, sRev.eq_1, sRev.eq_2, sRev.eq_3, sAddI.eq_1, sAddI.eq_2, sPut.eq_1, sPut.eq_2, sPut.eq_3, sPut.eq_4, D.isNon, sEq_ii, sNe_ii, sEq_ww, sNe_ww, sEq_ll, sNe_ll, sIsi_ii, sIsi_ib, sIsi_ll, sIsi_tt, sIsi_ss, sEq_w, sEq_i, sEq_lw, sEq_lw', sEq_lle, sEq_lle', sNe_w, sNe_i, sNe_lle', sNe_lw', sEq_ss, sNe_ss, sEq_bb, sNe_bb, sIn_iw, sIn_ii, sIn_wl, sIn_wl', sSl3.eq_1, sSl3.eq_2, dSl3, isS.eq_1, isL.eq_1, isL.eq_2, isA.eq_1, dM0, dM1, sUpper.eq_1, sLower.eq_1, sStrip1.eq_1, sSfind.eq_1, sScount.eq_1, sSindex.eq_1, sSsplit.eq_1, sSjoin.eq_1, sSjoin.eq_2, fPop_snoc, fPop_snoc', startD, wipeD, List.map_cons, List.map_nil, List.length_cons, List.length_nil, List.length_map, List.cons_append, List.nil_append, List.replicate, List.set_cons_zero, List.set_cons_succ, List.set_nil, List.getElem?_cons_zero, List.getElem?_cons_succ, Bool.true_and, Bool.and_true, Bool.and_false, Bool.false_and, Bool.not_true, Bool.not_false, if_true, if_false, Bool.false_eq_true, reduceIte, and_true, true_and, decide_true, decide_false, not_true, Nat.zero_le, Nat.zero_add, Nat.reduceAdd, Nat.reduceSub, D.scal, Option.some.injEq, exists_eq_left', exists_eq_left, exists_eq', D.int.injEq, D.lst.injEq, D.tup.injEq, D.scr.injEq, D.str.injEq, List.cons.injEq, and_self]
      refine seq_i ?_
      try simp -implicitDefEqProofs only [dNext, dSet, dLst, dTup, dNil, dCons, dConsO, dFor, dRng1_u, dRng2_u, dIt_u, oX, dC, dBin, dUn, dVarR, dVar, dApp, dExt, dUpd0, dPut, dAug, dRet, dRetV, dRetN, dBreak, dCont, dIf, dB_u, dTru_u, dTNot, dTAnd, dTOr, dAndV_u, dOrV_u, dNotV_u, dIfX, dChain_u, dCall, dCallB, dSl, dNoP, dP_u, dLc, dDrop, dFrz, frzD, dAsg, dDicK, dDicT, gN, gT, gsC, gsN, kB.eq_1, kT.eq_1, kT.eq_2, kT.eq_3, kT.eq_4, kT.eq_5, kT.eq_6, kT.eq_7, kT.eq_8, kAnd.eq_1, kOr.eq_1, kNot.eq_1, kIt.eq_1, kIt.eq_2, kIt.eq_3, kIt.eq_4, kP.eq_1, kR1.eq_1, kR2.eq_1, sAdd.eq_1, sAdd.eq_2, sAdd.eq_3, sAdd.eq_4, sJ2.eq_1, sI2.eq_1, sPow, sLt.eq_1, sLt.eq_2, sLe, sGt, sGe, sMul.eq_1, sMul.eq_2, sMulB.eq_1, sMulB.eq_2, sMulB.eq_3, sLR1.eq_1, sLR2.eq_1, sTR1.eq_1, sTR2.eq_1, sIsBl.eq_1, dZip, kZip.eq_1, dDisp1, dIxW, dLenW, dName, dAppW, dPutW, dMelt, dCallBE, kIxW.eq_1, kLenW.eq_1, dLcW, kIxW_lst, kIxW_tup, kIxW_scr, kIxW_str, kIxW_dK, kIxW_dT, kLenW_lst, kLenW_tup, kLenW_scr, kLenW_str, kNm_f, kNm_t, kName, isL.eq_1, isL.eq_2, sNeg.eq_1, sLen.eq_1, sLen.eq_2, sLen.eq_3, sLen.eq_4, sLen.eq_5, sAbs.eq_1, sMax, sMin, sInt.eq_1, sInt.eq_2, sStr.eq_1, sList.eq_1, sList.eq_2, sList.eq_3, sTuple.eq_1, sTuple.eq_2, sTuple.eq_3, sIsN, sNotN, sIx.eq_1, sIx.eq_2, sIx.eq_3, sIx.eq_4, sIx.eq_5, sIx.eq_6, sIx.eq_7, sSl.eq_1, sSl.eq_2, sSl.eq_3, sSl.eq_4, sRev.eq_1, sRev.eq_2, sRev.eq_3, sAddI.eq_1, sAddI.eq_2, sPut.eq_1, sPut.eq_2, sPut.eq_3, sPut.eq_4, D.isNon, sEq_ii, sNe_ii, sEq_ww, sNe_ww, sEq_ll, sNe_ll, sIsi_ii, sIsi_ib, sIsi_ll, sIsi_tt, sIsi_ss, sEq_w, sEq_i, sEq_lw, sEq_lw', sEq_lle, sEq_lle', sNe_w, sNe_i, sNe_lle', sNe_lw', sEq_ss, sNe_ss, sEq_bb, sNe_bb, sIn_iw, sIn_ii, sIn_wl, sIn_wl', sSl3.eq_1, sSl3.eq_2, dSl3, isS.eq_1, isL.eq_1, isL.eq_2, isA.eq_1, dM0, dM1, sUpper.eq_1, sLower.eq_1, sStrip1.eq_1, sSfind.eq_1, sScount.eq_1, sSindex.eq_1, sSsplit.eq_1, sSjoin.eq_1, sSjoin.eq_2, fPop_snoc, fPop_snoc', startD, wipeD, List.map_cons, List.map_nil, List.length_cons, List.length_nil, List.length_map, List.cons_append, List.nil_append, List.replicate, List.set_cons_zero, List.set_cons_succ, List.set_nil, List.getElem?_cons_zero, List.getElem?_cons_succ, Bool.true_and, Bool.and_true, Bool.and_false, Bool.false_and, Bool.not_true, Bool.not_false, if_true, if_false, Bool.false_eq_true, reduceIte, and_true, true_and, decide_true, decide_false, not_true, Nat.zero_le, Nat.zero_add, Nat.reduceAdd, Nat.reduceSub, D.scal, Option.some.injEq, exists_eq_left', exists_eq_left, exists_eq', D.int.injEq, D.lst.injEq, D.tup.injEq, D.scr.injEq, D.str.injEq, List.cons.injEq, and_self]
      refine ⟨by omega, ⟨by omega, by omega⟩, by omega, ?_⟩
      rw [rep1, Int.toNat_natCast]
      refine seq_i ?_
      try simp -implicitDefEqProofs only [dNext, dSet, dLst, dTup, dNil, dCons, dConsO, dFor, dRng1_u, dRng2_u, dIt_u, oX, dC, dBin, dUn, dVarR, dVar, dApp, dExt, dUpd0, dPut, dAug, dRet, dRetV, dRetN, dBreak, dCont, dIf, dB_u, dTru_u, dTNot, dTAnd, dTOr, dAndV_u, dOrV_u, dNotV_u, dIfX, dChain_u, dCall, dCallB, dSl, dNoP, dP_u, dLc, dDrop, dFrz, frzD, dAsg, dDicK, dDicT, gN, gT, gsC, gsN, kB.eq_1, kT.eq_1, kT.eq_2, kT.eq_3, kT.eq_4, kT.eq_5, kT.eq_6, kT.eq_7, kT.eq_8, kAnd.eq_1, kOr.eq_1, kNot.eq_1, kIt.eq_1, kIt.eq_2, kIt.eq_3, kIt.eq_4, kP.eq_1, kR1.eq_1, kR2.eq_1, sAdd.eq_1, sAdd.eq_2, sAdd.eq_3, sAdd.eq_4, sJ2.eq_1, sI2.eq_1, sPow, sLt.eq_1, sLt.eq_2, sLe, sGt, sGe, sMul.eq_1, sMul.eq_2, sMulB.eq_1, sMulB.eq_2, sMulB.eq_3, sLR1.eq_1, sLR2.eq_1, sTR1.eq_1, sTR2.eq_1, sIsBl.eq_1, dZip, kZip.eq_1, dDisp1, dIxW, dLenW, dName, dAppW, dPutW, dMelt, dCallBE, kIxW.eq_1, kLenW.eq_1, dLcW, kIxW_lst, kIxW_tup, kIxW_scr, kIxW_str, kIxW_dK, kIxW_dT, kLenW_lst, kLenW_tup, kLenW_scr, kLenW_str, kNm_f, kNm_t, kName, isL.eq_1, isL.eq_2, sNeg.eq_1, sLen.eq_1, sLen.eq_2, sLen.eq_3, sLen.eq_4, sLen.eq_5, sAbs.eq_1, sMax, sMin, sInt.eq_1, sInt.eq_2, sStr.eq_1, sList.eq_1, sList.eq_2, sList.eq_3, sTuple.eq_1, sTuple.eq_2, sTuple.eq_3, sIsN, sNotN, sIx.eq_1, sIx.eq_2, sIx.eq_3, sIx.eq_4, sIx.eq_5, sIx.eq_6, sIx.eq_7, sSl.eq_1, sSl.eq_2, sSl.eq_3, sSl.eq_4, sRev.eq_1, sRev.eq_2, sRev.eq_3, sAddI.eq_1, sAddI.eq_2, sPut.eq_1, sPut.eq_2, sPut.eq_3, sPut.eq_4, D.isNon, sEq_ii, sNe_ii, sEq_ww, sNe_ww, sEq_ll, sNe_ll, sIsi_ii, sIsi_ib, sIsi_ll, sIsi_tt, sIsi_ss, sEq_w, sEq_i, sEq_lw, sEq_lw', sEq_lle, sEq_lle', sNe_w, sNe_i, sNe_lle', sNe_lw', sEq_ss, sNe_ss, sEq_bb, sNe_bb, sIn_iw, sIn_ii, sIn_wl, sIn_wl', sSl3.eq_1, sSl3.eq_2, dSl3, isS.eq_1, isL.eq_1, isL.eq_2, isA.eq_1, dM0, dM1, sUpper.eq_1, sLower.eq_1, sStrip1.eq_1, sSfind.eq_1, sScount.eq_1, sSindex.eq_1, sSsplit.eq_1, sSjoin.eq_1, sSjoin.eq_2, fPop_snoc, fPop_snoc', startD, wipeD, List.map_cons, List.map_nil, List.length_cons, List.length_nil, List.length_map, List.cons_append, List.nil_append, List.replicate, List.set_cons_zero, List.set_cons_succ, List.set_nil, List.getElem?_cons_zero, List.getElem?_cons_succ, Bool.true_and, Bool.and_true, Bool.and_false, Bool.false_and, Bool.not_true, Bool.not_false, if_true, if_false, Bool.false_eq_true, reduceIte, and_true, true_and, decide_true, decide_false, not_true, Nat.zero_le, Nat.zero_add, Nat.reduceAdd, Nat.reduceSub, D.scal, Option.some.injEq, exists_eq_left', exists_eq_left, exists_eq', D.int.injEq, D.lst.injEq, D.tup.injEq, D.scr.injEq, D.str.injEq, List.cons.injEq, and_self]
      refine ⟨⟨by omega, by omega⟩, ?_⟩
      refine for_rng 0 _ (fun k δ w' => w' = noMem ∧ ∃ (f : List Nat) (j : Option (Bool × D)), f.length = p ∧ (∀ x, x < k → ap f (ap t x) = x) ∧ δ = [some (false, .lst (ts.map nL)), some (false, .int p), some (true, .lst ((pre.map invP).map nL)), some (false, nL t), some (true, nL f), j, none, none, none, none, none]) ⟨rfl, List.replicate p 0, j5, by simp, fun x h => by omega, by simp [nL]⟩ ?_ ?_
      · rintro k δ w' N2 C2 hk ⟨rfl, f, j, hf, hall, rfl⟩ hN2 hC2
        have hk' : k < p := by omega
        have h1 : atI (t.map fun n : Nat => D.int n) (0 + (k : Int)) = some (.int (ap t k)) := by rw [Int.zero_add]; exact atI_n (by rw [ht.len]; exact hk')
        have hlt := ap_lt ht hk'
        try simp -implicitDefEqProofs only [nL, h1, dNext, dSet, dLst, dTup, dNil, dCons, dConsO, dFor, dRng1_u, dRng2_u, dIt_u, oX, dC, dBin, dUn, dVarR, dVar, dApp, dExt, dUpd0, dPut, dAug, dRet, dRetV, dRetN, dBreak, dCont, dIf, dB_u, dTru_u, dTNot, dTAnd, dTOr, dAndV_u, dOrV_u, dNotV_u, dIfX, dChain_u, dCall, dCallB, dSl, dNoP, dP_u, dLc, dDrop, dFrz, frzD, dAsg, dDicK, dDicT, gN, gT, gsC, gsN, kB.eq_1, kT.eq_1, kT.eq_2, kT.eq_3, kT.eq_4, kT.eq_5, kT.eq_6, kT.eq_7, kT.eq_8, kAnd.eq_1, kOr.eq_1, kNot.eq_1, kIt.eq_1, kIt.eq_2, kIt.eq_3, kIt.eq_4, kP.eq_1, kR1.eq_1, kR2.eq_1, sAdd.eq_1, sAdd.eq_2, sAdd.eq_3, sAdd.eq_4, sJ2.eq_1, sI2.eq_1, sPow, sLt.eq_1, sLt.eq_2, sLe, sGt, sGe, sMul.eq_1, sMul.eq_2, sMulB.eq_1, sMulB.eq_2, sMulB.eq_3, sLR1.eq_1, sLR2.eq_1, sTR1.eq_1, sTR2.eq_1, sIsBl.eq_1, dZip, kZip.eq_1, dDisp1, dIxW, dLenW, dName, dAppW, dPutW, dMelt, dCallBE, kIxW.eq_1, kLenW.eq_1, dLcW, kIxW_lst, kIxW_tup, kIxW_scr, kIxW_str, kIxW_dK, kIxW_dT, kLenW_lst, kLenW_tup, kLenW_scr, kLenW_str, kNm_f, kNm_t, kName, isL.eq_1, isL.eq_2, sNeg.eq_1, sLen.eq_1, sLen.eq_2, sLen.eq_3, sLen.eq_4, sLen.eq_5, sAbs.eq_1, sMax, sMin, sInt.eq_1, sInt.eq_2, sStr.eq_1, sList.eq_1, sList.eq_2, sList.eq_3, sTuple.eq_1, sTuple.eq_2, sTuple.eq_3, sIsN, sNotN, sIx.eq_1, sIx.eq_2, sIx.eq_3, sIx.eq_4, sIx.eq_5, sIx.eq_6, sIx.eq_7, sSl.eq_1, sSl.eq_2, sSl.eq_3, sSl.eq_4, sRev.eq_1, sRev.eq_2, sRev.eq_3, sAddI.eq_1, sAddI.eq_2, sPut.eq_1, sPut.eq_2, sPut.eq_3, sPut.eq_4, D.isNon, sEq_ii, sNe_ii, sEq_ww, sNe_ww, sEq_ll, sNe_ll, sIsi_ii, sIsi_ib, sIsi_ll, sIsi_tt, sIsi_ss, sEq_w, sEq_i, sEq_lw, sEq_lw', sEq_lle, sEq_lle', sNe_w, sNe_i, sNe_lle', sNe_lw', sEq_ss, sNe_ss, sEq_bb, sNe_bb, sIn_iw, sIn_ii, sIn_wl, sIn_wl', sSl3.eq_1, sSl3.eq_2, dSl3, isS.eq_1, isL.eq_1, isL.eq_2, isA.eq_1, dM0, dM1, sUpper.eq_1, sLower.eq_1, sStrip1.eq_1, sSfind.eq_1, sScount.eq_1, sSindex.eq_1, sSsplit.eq_1, sSjoin.eq_1, sSjoin.eq_2, fPop_snoc, fPop_snoc', startD, wipeD, List.map_cons, List.map_nil, List.length_cons, List.length_nil, List.length_map, List.cons_append, List.nil_append, List.replicate, List.set_cons_zero, List.set_cons_succ, List.set_nil, List.getElem?_cons_zero, List.getElem?_cons_succ, Bool.true_and, Bool.and_true, Bool.and_false, Bool.false_and, Bool.not_true, Bool.not_false, if_true, if_false, Bool.false_eq_true, reduceIte, and_true, true_and, decide_true, decide_false, not_true, Nat.zero_le, Nat.zero_add, Nat.reduceAdd, Nat.reduceSub, D.scal, Option.some.injEq, exists_eq_left', exists_eq_left, exists_eq', D.int.injEq, D.lst.injEq, D.tup.injEq, D.scr.injEq, D.str.injEq, List.cons.injEq, and_self]
        refine ⟨ap t k, by first | (rw [hf]; exact ixN_nat hlt) | (rw [List.length_map, hf]; exact ixN_nat hlt), ?_⟩
        rw [Int.zero_add, nset]
        refine hN2 _ _ ⟨rfl, f.set (ap t k) k, some (false, .int k), by simp [hf], fun x hx => ?_, by simp [nL]⟩
        rw [set_ap (by omega)]
        by_cases e : x = k
        · subst e; simp
        · rw [if_neg (fun z => e (ap_inj ht (by omega) hk' z))]
          exact hall x (by omega)
      · rintro δ w' ⟨rfl, f, j, hf, hall, rfl⟩
        have : f = invP t := inv_uniq ht ⟨hf, fun x hx => hall x (by omega)⟩ (invP_inv ht)
        subst this
        try simp -implicitDefEqProofs only [nL, dNext, dSet, dLst, dTup, dNil, dCons, dConsO, dFor, dRng1_u, dRng2_u, dIt_u, oX, dC, dBin, dUn, dVarR, dVar, dApp, dExt, dUpd0, dPut, dAug, dRet, dRetV, dRetN, dBreak, dCont, dIf, dB_u, dTru_u, dTNot, dTAnd, dTOr, dAndV_u, dOrV_u, dNotV_u, dIfX, dChain_u, dCall, dCallB, dSl, dNoP, dP_u, dLc, dDrop, dFrz, frzD, dAsg, dDicK, dDicT, gN, gT, gsC, gsN, kB.eq_1, kT.eq_1, kT.eq_2, kT.eq_3, kT.eq_4, kT.eq_5, kT.eq_6, kT.eq_7, kT.eq_8, kAnd.eq_1, kOr.eq_1, kNot.eq_1, kIt.eq_1, kIt.eq_2, kIt.eq_3, kIt.eq_4, kP.eq_1, kR1.eq_1, kR2.eq_1, sAdd.eq_1, sAdd.eq_2, sAdd.eq_3, sAdd.eq_4, sJ2.eq_1, sI2.eq_1, sPow, sLt.eq_1, sLt.eq_2, sLe, sGt, sGe, sMul.eq_1, sMul.eq_2, sMulB.eq_1, sMulB.eq_2, sMulB.eq_3, sLR1.eq_1, sLR2.eq_1, sTR1.eq_1, sTR2.eq_1, sIsBl.eq_1, dZip, kZip.eq_1, dDisp1, dIxW, dLenW, dName, dAppW, dPutW, dMelt, dCallBE, kIxW.eq_1, kLenW.eq_1, dLcW, kIxW_lst, kIxW_tup, kIxW_scr, kIxW_str, kIxW_dK, kIxW_dT, kLenW_lst, kLenW_tup, kLenW_scr, kLenW_str, kNm_f, kNm_t, kName, isL.eq_1, isL.eq_2, sNeg.eq_1, sLen.eq_1, sLen.eq_2, sLen.eq_3, sLen.eq_4, sLen.eq_5, sAbs.eq_1, sMax, sMin, sInt.eq_1, sInt.eq_2, sStr.eq_1, sList.eq_1, sList.eq_2, sList.eq_3, sTuple.eq_1, sTuple.eq_2, sTuple.eq_3, sIsN, sNotN, sIx.eq_1, sIx.eq_2, sIx.eq_3, sIx.eq_4, sIx.eq_5, sIx.eq_6, sIx.eq_7, sSl.eq_1, sSl.eq_2, sSl.eq_3, sSl.eq_4, sRev.eq_1, sRev.eq_2, sRev.eq_3, sAddI.eq_1, sAddI.eq_2, sPut.eq_1, sPut.eq_2, sPut.eq_3, sPut.eq_4, D.isNon, sEq_ii, sNe_ii, sEq_ww, sNe_ww, sEq_ll, sNe_ll, sIsi_ii, sIsi_ib, sIsi_ll, sIsi_tt, sIsi_ss, sEq_w, sEq_i, sEq_lw, sEq_lw', sEq_lle, sEq_lle', sNe_w, sNe_i, sNe_lle', sNe_lw', sEq_ss, sNe_ss, sEq_bb, sNe_bb, sIn_iw, sIn_ii, sIn_wl, sIn_wl', sSl3.eq_1, sSl3.eq_2, dSl3, isS.eq_1, isL.eq_1, isL.eq_2, isA.eq_1, dM0, dM1, sUpper.eq_1, sLower.eq_1, sStrip1.eq_1, sSfind.eq_1, sScount.eq_1, sSindex.eq_1, sSsplit.eq_1, sSjoin.eq_1, sSjoin.eq_2, fPop_snoc, fPop_snoc', startD, wipeD, List.map_cons, List.map_nil, List.length_cons, List.length_nil, List.length_map, List.cons_append, List.nil_append, List.replicate, List.set_cons_zero, List.set_cons_succ, List.set_nil, List.getElem?_cons_zero, List.getElem?_cons_succ, Bool.true_and, Bool.and_true, Bool.and_false, Bool.false_and, Bool.not_true, Bool.not_false, if_true, if_false, Bool.false_eq_true, reduceIte, and_true, true_and, decide_true, decide_false, not_true, Nat.zero_le, Nat.zero_add, Nat.reduceAdd, Nat.reduceSub, D.scal, Option.some.injEq, exists_eq_left', exists_eq_left, exists_eq', D.int.injEq, D.lst.injEq, D.tup.injEq, D.scr.injEq, D.str.injEq, List.cons.injEq, and_self]
        refine ⟨by first | omega | (simp; omega) | (simp at *; omega), hN _ _ ⟨rfl, some (false, nL t), some (false, nL (invP t)), j, by simp [nL]⟩⟩
    · rintro δ w ⟨rfl, j3, j4, j5, rfl⟩
      exact h _ _ ⟨rfl, j3, j4, j5, rfl⟩
  rintro δ w ⟨rfl, j3, j4, j5, rfl⟩
  refine seq_i ?_
  try simp -implicitDefEqProofs only [keyOf, dNext, dSet, dLst, dTup, dNil, dCons, dConsO, dFor, dRng1_u, dRng2_u, dIt_u, oX, dC, dBin, dUn, dVarR, dVar, dApp, dExt, dUpd0, dPut, dAug, dRet, dRetV, dRetN, dBreak, dCont, dIf, dB_u, dTru_u, dTNot, dTAnd, dTOr, dAndV_u, dOrV_u, dNotV_u, dIfX, dChain_u, dCall, dCallB, dSl, dNoP, dP_u, dLc, dDrop, dFrz, frzD, dAsg, dDicK, dDicT, gN, gT, gsC, gsN, kB.eq_1, kT.eq_1, kT.eq_2, kT.eq_3, kT.eq_4, kT.eq_5, kT.eq_6, kT.eq_7, kT.eq_8, kAnd.eq_1, kOr.eq_1, kNot.eq_1, kIt.eq_1, kIt.eq_2, kIt.eq_3, kIt.eq_4, kP.eq_1, kR1.eq_1, kR2.eq_1, sAdd.eq_1, sAdd.eq_2, sAdd.eq_3, sAdd.eq_4, sJ2.eq_1, sI2.eq_1, sPow, sLt.eq_1, sLt.eq_2, sLe, sGt, sGe, sMul.eq_1, sMul.eq_2, sMulB.eq_1, sMulB.eq_2, sMulB.eq_3, sLR1.eq_1, sLR2.eq_1, sTR1.eq_1, sTR2.eq_1, sIsBl.eq_1, dZip, kZip.eq_1, dDisp1, dIxW, dLenW, dName, dAppW, dPutW, dMelt, dCallBE, kIxW.eq_1, kLenW.eq_1, dLcW, kIxW_lst, kIxW_tup, kIxW_scr, kIxW_str, kIxW_dK, kIxW_dT, kLenW_lst, kLenW_tup, kLenW_scr, kLenW_str, kNm_f, kNm_t, kName, isL.eq_1, isL.eq_2, sNeg.eq_1, sLen.eq_1, sLen.eq_2, sLen.eq_3, sLen.eq_4, sLen.eq_5, sAbs.eq_1, sMax, sMin, sInt.eq_1, sInt.eq_2, sStr.eq_1, sList.eq_1, sList.eq_2, sList.eq_3, sTuple.eq_1, sTuple.eq_2, sTuple.eq_3, sIsN, sNotN, sIx.eq_1, sIx.eq_2, sIx.eq_3, sIx.eq_4, sIx.eq_5, sIx.eq_6, sIx.eq_7, sSl.eq_1, sSl.eq_2, sSl.eq_3, sSl.eq_4, sRev.eq_1, sRev.eq_2, sRev.eq_3, sAddI.eq_1, sAddI.eq_2, sPut.eq_1, sPut.eq_2, sPut.eq_3, sPut.eq_4, D.isNon, sEq_ii, sNe_ii, sEq_ww, sNe_ww, sEq_ll, sNe_ll, sIsi_ii, sIsi_ib, sIsi_ll, sIsi_tt, sIsi_ss, sEq_w, sEq_i, sEq_lw, sEq_lw', sEq_lle, sEq_lle', sNe_w, sNe_i, sNe_lle', sNe_lw', sEq_ss, sNe_ss, sEq_bb, sNe_bb, sIn_iw, sIn_ii, sIn_wl, sIn_wl', sSl3.eq_1, sSl3.eq_2, dSl3, isS.eq_1, isL.eq_1, isL.eq_2, isA.eq_1, dM0, dM1, sUpper.eq_1, sLower.eq_1, sStrip1.eq_1, sSfind.eq_1, sScount.eq_1, sSindex.eq_1, sSsplit.eq_1, sSjoin.eq_1, sSjoin.eq_2, fPop_snoc, fPop_snoc', startD, wipeD, List.map_cons, List.map_nil, List.length_cons, List.length_nil, List.length_map, List.cons_append, List.nil_append, List.replicate, List.set_cons_zero, List.set_cons_succ, List.set_nil, List.getElem?_cons_zero, List.getElem?_cons_succ, Bool.true_and, Bool.and_true, Bool.and_false, Bool.false_and, Bool.not_true, Bool.not_false, if_true, if_false, Bool.false_eq_true, reduceIte, and_true, true_and, decide_true, decide_false, not_true, Nat.zero_le, Nat.zero_add, Nat.reduceAdd, Nat.reduceSub, D.scal, Option.some.injEq, exists_eq_left', exists_eq_left, exists_eq', D.int.injEq, D.lst.injEq, D.tup.injEq, D.scr.injEq, D.str.injEq, List.cons.injEq, and_self]
  refine seq_i ?_
  try simp -implicitDefEqProofs only [dNext, dSet, dLst, dTup, dNil, dCons, dConsO, dFor, dRng1_u, dRng2_u, dIt_u, oX, dC, dBin, dUn, dVarR, dVar, dApp, dExt, dUpd0, dPut, dAug, dRet, dRetV, dRetN, dBreak, dCont, dIf, dB_u, dTru_u, dTNot, dTAnd, dTOr, dAndV_u, dOrV_u, dNotV_u, dIfX, dChain_u, dCall, dCallB, dSl, dNoP, dP_u, dLc, dDrop, dFrz, frzD, dAsg, dDicK, dDicT, gN, gT, gsC, gsN, kB.eq_1, kT.eq_1, kT.eq_2, kT.eq_3, kT.eq_4, kT.eq_5, kT.eq_6, kT.eq_7, kT.eq_8, kAnd.eq_1, kOr.eq_1, kNot.eq_1, kIt.eq_1, kIt.eq_2, kIt.eq_3, kIt.eq_4, kP.eq_1, kR1.eq_1, kR2.eq_1, sAdd.eq_1, sAdd.eq_2, sAdd.eq_3, sAdd.eq_4, sJ2.eq_1, sI2.eq_1, sPow, sLt.eq_1, sLt.eq_2, sLe, sGt, sGe, sMul.eq_1, sMul.eq_2, sMulB.eq_1, sMulB.eq_2, sMulB.eq_3, sLR1.eq_1, sLR2.eq_1, sTR1.eq_1, sTR2.eq_1, sIsBl.eq_1, dZip, kZip.eq_1, dDisp1, dIxW, dLenW, dName, dAppW, dPutW, dMelt, dCallBE, kIxW.eq_1, kLenW.eq_1, dLcW, kIxW_lst, kIxW_tup, kIxW_scr, kIxW_str, kIxW_dK, kIxW_dT, kLenW_lst, kLenW_tup, kLenW_scr, kLenW_str, kNm_f, kNm_t, kName, isL.eq_1, isL.eq_2, sNeg.eq_1, sLen.eq_1, sLen.eq_2, sLen.eq_3, sLen.eq_4, sLen.eq_5, sAbs.eq_1, sMax, sMin, sInt.eq_1, sInt.eq_2, sStr.eq_1, sList.eq_1, sList.eq_2, sList.eq_3, sTuple.eq_1, sTuple.eq_2, sTuple.eq_3, sIsN, sNotN, sIx.eq_1, sIx.eq_2, sIx.eq_3, sIx.eq_4, sIx.eq_5, sIx.eq_6, sIx.eq_7, sSl.eq_1, sSl.eq_2, sSl.eq_3, sSl.eq_4, sRev.eq_1, sRev.eq_2, sRev.eq_3, sAddI.eq_1, sAddI.eq_2, sPut.eq_1, sPut.eq_2, sPut.eq_3, sPut.eq_4, D.isNon, sEq_ii, sNe_ii, sEq_ww, sNe_ww, sEq_ll, sNe_ll, sIsi_ii, sIsi_ib, sIsi_ll, sIsi_tt, sIsi_ss, sEq_w, sEq_i, sEq_lw, sEq_lw', sEq_lle, sEq_lle', sNe_w, sNe_i, sNe_lle', sNe_lw', sEq_ss, sNe_ss, sEq_bb, sNe_bb, sIn_iw, sIn_ii, sIn_wl, sIn_wl', sSl3.eq_1, sSl3.eq_2, dSl3, isS.eq_1, isL.eq_1, isL.eq_2, isA.eq_1, dM0, dM1, sUpper.eq_1, sLower.eq_1, sStrip1.eq_1, sSfind.eq_1, sScount.eq_1, sSindex.eq_1, sSsplit.eq_1, sSjoin.eq_1, sSjoin.eq_2, fPop_snoc, fPop_snoc', startD, wipeD, List.map_cons, List.map_nil, List.length_cons, List.length_nil, List.length_map, List.cons_append, List.nil_append, List.replicate, List.set_cons_zero, List.set_cons_succ, List.set_nil, List.getElem?_cons_zero, List.getElem?_cons_succ, Bool.true_and, Bool.and_true, Bool.and_false, Bool.false_and, Bool.not_true, Bool.not_false, if_true, if_false, Bool.false_eq_true, reduceIte, and_true, true_and, decide_true, decide_false, not_true, Nat.zero_le, Nat.zero_add, Nat.reduceAdd, Nat.reduceSub, D.scal, Option.some.injEq, exists_eq_left', exists_eq_left, exists_eq', D.int.injEq, D.lst.injEq, D.tup.injEq, D.scr.injEq, D.str.injEq, List.cons.injEq, and_self]
  refine ⟨by omega, ?_⟩
  refine seq_i ?_
  try simp -implicitDefEqProofs only [dNext, dSet, dLst, dTup, dNil, dCons, dConsO, dFor, dRng1_u, dRng2_u, dIt_u, oX, dC, dBin, dUn, dVarR, dVar, dApp, dExt, dUpd0, dPut, dAug, dRet, dRetV, dRetN, dBreak, dCont, dIf, dB_u, dTru_u, dTNot, dTAnd, dTOr, dAndV_u, dOrV_u, dNotV_u, dIfX, dChain_u, dCall, dCallB, dSl, dNoP, dP_u, dLc, dDrop, dFrz, frzD, dAsg, dDicK, dDicT, gN, gT, gsC, gsN, kB.eq_1, kT.eq_1, kT.eq_2, kT.eq_3, kT.eq_4, kT.eq_5, kT.eq_6, kT.eq_7, kT.eq_8, kAnd.eq_1, kOr.eq_1, kNot.eq_1, kIt.eq_1, kIt.eq_2, kIt.eq_3, kIt.eq_4, kP.eq_1, kR1.eq_1, kR2.eq_1, sAdd.eq_1, sAdd.eq_2, sAdd.eq_3, sAdd.eq_4, sJ2.eq_1, sI2.eq_1, sPow, sLt.eq_1, sLt.eq_2, sLe, sGt, sGe, sMul.eq_1, sMul.eq_2, sMulB.eq_1, sMulB.eq_2, sMulB.eq_3, sLR1.eq_1, sLR2.eq_1, sTR1.eq_1, sTR2.eq_1, sIsBl.eq_1, dZip, kZip.eq_1, dDisp1, dIxW, dLenW, dName, dAppW, dPutW, dMelt, dCallBE, kIxW.eq_1, kLenW.eq_1, dLcW, kIxW_lst, kIxW_tup, kIxW_scr, kIxW_str, kIxW_dK, kIxW_dT, kLenW_lst, kLenW_tup, kLenW_scr, kLenW_str, kNm_f, kNm_t, kName, isL.eq_1, isL.eq_2, sNeg.eq_1, sLen.eq_1, sLen.eq_2, sLen.eq_3, sLen.eq_4, sLen.eq_5, sAbs.eq_1, sMax, sMin, sInt.eq_1, sInt.eq_2, sStr.eq_1, sList.eq_1, sList.eq_2, sList.eq_3, sTuple.eq_1, sTuple.eq_2, sTuple.eq_3, sIsN, sNotN, sIx.eq_1, sIx.eq_2, sIx.eq_3, sIx.eq_4, sIx.eq_5, sIx.eq_6, sIx.eq_7, sSl.eq_1, sSl.eq_2, sSl.eq_3, sSl.eq_4, sRev.eq_1, sRev.eq_2, sRev.eq_3, sAddI.eq_1, sAddI.eq_2, sPut.eq_1, sPut.eq_2, sPut.eq_3, sPut.eq_4, D.isNon, sEq_ii, sNe_ii, sEq_ww, sNe_ww, sEq_ll, sNe_ll, sIsi_ii, sIsi_ib, sIsi_ll, sIsi_tt, sIsi_ss, sEq_w, sEq_i, sEq_lw, sEq_lw', sEq_lle, sEq_lle', sNe_w, sNe_i, sNe_lle', sNe_lw', sEq_ss, sNe_ss, sEq_bb, sNe_bb, sIn_iw, sIn_ii, sIn_wl, sIn_wl', sSl3.eq_1, sSl3.eq_2, dSl3, isS.eq_1, isL.eq_1, isL.eq_2, isA.eq_1, dM0, dM1, sUpper.eq_1, sLower.eq_1, sStrip1.eq_1, sSfind.eq_1, sScount.eq_1, sSindex.eq_1, sSsplit.eq_1, sSjoin.eq_1, sSjoin.eq_2, fPop_snoc, fPop_snoc', startD, wipeD, List.map_cons, List.map_nil, List.length_cons, List.length_nil, List.length_map, List.cons_append, List.nil_append, List.replicate, List.set_cons_zero, List.set_cons_succ, List.set_nil, List.getElem?_cons_zero, List.getElem?_cons_succ, Bool.true_and, Bool.and_true, Bool.and_false, Bool.false_and, Bool.not_true, Bool.not_false, if_true, if_false, Bool.false_eq_true, reduceIte, and_true, true_and, decide_true, decide_false, not_true, Nat.zero_le, Nat.zero_add, Nat.reduceAdd, Nat.reduceSub, D.scal, Option.some.injEq, exists_eq_left', exists_eq_left, exists_eq', D.int.injEq, D.lst.injEq, D.tup.injEq, D.scr.injEq, D.str.injEq, List.cons.injEq, and_self]
  intro a ha
  refine seq_cut (fun δ w => ∃ cs come tab, TW w a cs tab ∧ Tp p ts come tab ∧ ∃ b2 j3 j4 j5 j6 j7 j9 j10, δ = [some (false, .lst (ts.map nL)), some (false, .int p), some (b2, .lst ((ts.map invP).map nL)), j3, j4, j5, j6, j7, some (false, .ref a), j9, j10]) (fun N h => ?_) ?_
  · refine while_go (α := Nat) (fun i δ w => ∃ (cs : List Addr) (come : List Nat) (tab : List (List Nat)), TW w a cs tab ∧ tab.length = i ∧ i ≤ come.length ∧ come[0]? = some 0 ∧ (∀ x ∈ come, x < p) ∧ come.Nodup ∧ (∀ (i : Nat) (r : List Nat), tab[i]? = some r → ∃ x, come[i]? = some x ∧ r.length = 2 * ts.length ∧ ∀ k, k < 2 * ts.length → come[ap r k]? = some (ap (tk ts k) x)) ∧ (∀ j, 0 < j → j < come.length → ∃ i k, i < j ∧ i < tab.length ∧ k < 2 * ts.length ∧ ap ((tab[i]?).getD []) k = j) ∧ ∃ b2 j3 j4 j5 j9 j10, δ = [some (false, .lst (ts.map nL)), some (false, .int p), some (b2, .lst ((ts.map invP).map nL)), j3, j4, j5, some (true, .dK (nuD come)), some (true, nL come), some (false, .ref a), j9, j10]) (fun i => p - i) ?_ 0 ⟨[], [0], [], ⟨updM_same, rfl, by simp, by simp, fun i c t hc => by simp at hc⟩, rfl, by simp, rfl, fun x hx => by simp at hx; omega, by simp, fun i r hr => by simp at hr, fun j h0 h1 => by simp at h1; omega, true, j3, j4, j5, none, none, rfl⟩
    rintro i δ w ⟨cs, come, tab, tw, hi, hic, hc0, hlt, hnd, hrows, hR, b2, j3, j4, j5, j9, j10, rfl⟩ N2 hN2
    have hcl : come.length ≤ p := by
      have := nodup_len (m := List.range p) hnd fun x hx => List.mem_range.mpr (hlt x hx)
      simpa using this
    try simp -implicitDefEqProofs only [nL, dNext, dSet, dLst, dTup, dNil, dCons, dConsO, dFor, dRng1_u, dRng2_u, dIt_u, oX, dC, dBin, dUn, dVarR, dVar, dApp, dExt, dUpd0, dPut, dAug, dRet, dRetV, dRetN, dBreak, dCont, dIf, dB_u, dTru_u, dTNot, dTAnd, dTOr, dAndV_u, dOrV_u, dNotV_u, dIfX, dChain_u, dCall, dCallB, dSl, dNoP, dP_u, dLc, dDrop, dFrz, frzD, dAsg, dDicK, dDicT, gN, gT, gsC, gsN, kB.eq_1, kT.eq_1, kT.eq_2, kT.eq_3, kT.eq_4, kT.eq_5, kT.eq_6, kT.eq_7, kT.eq_8, kAnd.eq_1, kOr.eq_1, kNot.eq_1, kIt.eq_1, kIt.eq_2, kIt.eq_3, kIt.eq_4, kP.eq_1, kR1.eq_1, kR2.eq_1, sAdd.eq_1, sAdd.eq_2, sAdd.eq_3, sAdd.eq_4, sJ2.eq_1, sI2.eq_1, sPow, sLt.eq_1, sLt.eq_2, sLe, sGt, sGe, sMul.eq_1, sMul.eq_2, sMulB.eq_1, sMulB.eq_2, sMulB.eq_3, sLR1.eq_1, sLR2.eq_1, sTR1.eq_1, sTR2.eq_1, sIsBl.eq_1, dZip, kZip.eq_1, dDisp1, dIxW, dLenW, dName, dAppW, dPutW, dMelt, dCallBE, kIxW.eq_1, kLenW.eq_1, dLcW, kIxW_lst, kIxW_tup, kIxW_scr, kIxW_str, kIxW_dK, kIxW_dT, kLenW_lst, kLenW_tup, kLenW_scr, kLenW_str, kNm_f, kNm_t, kName, isL.eq_1, isL.eq_2, sNeg.eq_1, sLen.eq_1, sLen.eq_2, sLen.eq_3, sLen.eq_4, sLen.eq_5, sAbs.eq_1, sMax, sMin, sInt.eq_1, sInt.eq_2, sStr.eq_1, sList.eq_1, sList.eq_2, sList.eq_3, sTuple.eq_1, sTuple.eq_2, sTuple.eq_3, sIsN, sNotN, sIx.eq_1, sIx.eq_2, sIx.eq_3, sIx.eq_4, sIx.eq_5, sIx.eq_6, sIx.eq_7, sSl.eq_1, sSl.eq_2, sSl.eq_3, sSl.eq_4, sRev.eq_1, sRev.eq_2, sRev.eq_3, sAddI.eq_1, sAddI.eq_2, sPut.eq_1, sPut.eq_2, sPut.eq_3, sPut.eq_4, D.isNon, sEq_ii, sNe_ii, sEq_ww, sNe_ww, sEq_ll, sNe_ll, sIsi_ii, sIsi_ib, sIsi_ll, sIsi_tt, sIsi_ss, sEq_w, sEq_i, sEq_lw, sEq_lw', sEq_lle, sEq_lle', sNe_w, sNe_i, sNe_lle', sNe_lw', sEq_ss, sNe_ss, sEq_bb, sNe_bb, sIn_iw, sIn_ii, sIn_wl, sIn_wl', sSl3.eq_1, sSl3.eq_2, dSl3, isS.eq_1, isL.eq_1, isL.eq_2, isA.eq_1, dM0, dM1, sUpper.eq_1, sLower.eq_1, sStrip1.eq_1, sSfind.eq_1, sScount.eq_1, sSindex.eq_1, sSsplit.eq_1, sSjoin.eq_1, sSjoin.eq_2, fPop_snoc, fPop_snoc', startD, wipeD, List.map_cons, List.map_nil, List.length_cons, List.length_nil, List.length_map, List.cons_append, List.nil_append, List.replicate, List.set_cons_zero, List.set_cons_succ, List.set_nil, List.getElem?_cons_zero, List.getElem?_cons_succ, Bool.true_and, Bool.and_true, Bool.and_false, Bool.false_and, Bool.not_true, Bool.not_false, if_true, if_false, Bool.false_eq_true, reduceIte, and_true, true_and, decide_true, decide_false, not_true, Nat.zero_le, Nat.zero_add, Nat.reduceAdd, Nat.reduceSub, D.scal, Option.some.injEq, exists_eq_left', exists_eq_left, exists_eq', D.int.injEq, D.lst.injEq, D.tup.injEq, D.scr.injEq, D.str.injEq, List.cons.injEq, and_self]
    refine ⟨_, tw.ha, ?_⟩
    rw [List.length_map, tw.len, hi]
    by_cases hlt2 : i < come.length
    · refine if_t (by simp; omega) ?_
      obtain ⟨pt, hpt⟩ : ∃ x, come[i]? = some x := ⟨come[i], List.getElem?_eq_getElem hlt2⟩
      have hptp := hlt pt (List.mem_of_getElem? hpt)
      refine seq_i ?_
      try simp -implicitDefEqProofs only [dNext, dSet, dLst, dTup, dNil, dCons, dConsO, dFor, dRng1_u, dRng2_u, dIt_u, oX, dC, dBin, dUn, dVarR, dVar, dApp, dExt, dUpd0, dPut, dAug, dRet, dRetV, dRetN, dBreak, dCont, dIf, dB_u, dTru_u, dTNot, dTAnd, dTOr, dAndV_u, dOrV_u, dNotV_u, dIfX, dChain_u, dCall, dCallB, dSl, dNoP, dP_u, dLc, dDrop, dFrz, frzD, dAsg, dDicK, dDicT, gN, gT, gsC, gsN, kB.eq_1, kT.eq_1, kT.eq_2, kT.eq_3, kT.eq_4, kT.eq_5, kT.eq_6, kT.eq_7, kT.eq_8, kAnd.eq_1, kOr.eq_1, kNot.eq_1, kIt.eq_1, kIt.eq_2, kIt.eq_3, kIt.eq_4, kP.eq_1, kR1.eq_1, kR2.eq_1, sAdd.eq_1, sAdd.eq_2, sAdd.eq_3, sAdd.eq_4, sJ2.eq_1, sI2.eq_1, sPow, sLt.eq_1, sLt.eq_2, sLe, sGt, sGe, sMul.eq_1, sMul.eq_2, sMulB.eq_1, sMulB.eq_2, sMulB.eq_3, sLR1.eq_1, sLR2.eq_1, sTR1.eq_1, sTR2.eq_1, sIsBl.eq_1, dZip, kZip.eq_1, dDisp1, dIxW, dLenW, dName, dAppW, dPutW, dMelt, dCallBE, kIxW.eq_1, kLenW.eq_1, dLcW, kIxW_lst, kIxW_tup, kIxW_scr, kIxW_str, kIxW_dK, kIxW_dT, kLenW_lst, kLenW_tup, kLenW_scr, kLenW_str, kNm_f, kNm_t, kName, isL.eq_1, isL.eq_2, sNeg.eq_1, sLen.eq_1, sLen.eq_2, sLen.eq_3, sLen.eq_4, sLen.eq_5, sAbs.eq_1, sMax, sMin, sInt.eq_1, sInt.eq_2, sStr.eq_1, sList.eq_1, sList.eq_2, sList.eq_3, sTuple.eq_1, sTuple.eq_2, sTuple.eq_3, sIsN, sNotN, sIx.eq_1, sIx.eq_2, sIx.eq_3, sIx.eq_4, sIx.eq_5, sIx.eq_6, sIx.eq_7, sSl.eq_1, sSl.eq_2, sSl.eq_3, sSl.eq_4, sRev.eq_1, sRev.eq_2, sRev.eq_3, sAddI.eq_1, sAddI.eq_2, sPut.eq_1, sPut.eq_2, sPut.eq_3, sPut.eq_4, D.isNon, sEq_ii, sNe_ii, sEq_ww, sNe_ww, sEq_ll, sNe_ll, sIsi_ii, sIsi_ib, sIsi_ll, sIsi_tt, sIsi_ss, sEq_w, sEq_i, sEq_lw, sEq_lw', sEq_lle, sEq_lle', sNe_w, sNe_i, sNe_lle', sNe_lw', sEq_ss, sNe_ss, sEq_bb, sNe_bb, sIn_iw, sIn_ii, sIn_wl, sIn_wl', sSl3.eq_1, sSl3.eq_2, dSl3, isS.eq_1, isL.eq_1, isL.eq_2, isA.eq_1, dM0, dM1, sUpper.eq_1, sLower.eq_1, sStrip1.eq_1, sSfind.eq_1, sScount.eq_1, sSindex.eq_1, sSsplit.eq_1, sSjoin.eq_1, sSjoin.eq_2, fPop_snoc, fPop_snoc', startD, wipeD, List.map_cons, List.map_nil, List.length_cons, List.length_nil, List.length_map, List.cons_append, List.nil_append, List.replicate, List.set_cons_zero, List.set_cons_succ, List.set_nil, List.getElem?_cons_zero, List.getElem?_cons_succ, Bool.true_and, Bool.and_true, Bool.and_false, Bool.false_and, Bool.not_true, Bool.not_false, if_true, if_false, Bool.false_eq_true, reduceIte, and_true, true_and, decide_true, decide_false, not_true, Nat.zero_le, Nat.zero_add, Nat.reduceAdd, Nat.reduceSub, D.scal, Option.some.injEq, exists_eq_left', exists_eq_left, exists_eq', D.int.injEq, D.lst.injEq, D.tup.injEq, D.scr.injEq, D.str.injEq, List.cons.injEq, and_self]
      refine ⟨_, tw.ha, ?_⟩
      rw [List.length_map, tw.len, hi]
      refine ⟨.int pt, atI_f (fun n : Nat => D.int n) (by omega) (by rw [Int.toNat_natCast]; exact hpt), ?_⟩
      refine seq_i ?_
      try simp -implicitDefEqProofs only [dNext, dSet, dLst, dTup, dNil, dCons, dConsO, dFor, dRng1_u, dRng2_u, dIt_u, oX, dC, dBin, dUn, dVarR, dVar, dApp, dExt, dUpd0, dPut, dAug, dRet, dRetV, dRetN, dBreak, dCont, dIf, dB_u, dTru_u, dTNot, dTAnd, dTOr, dAndV_u, dOrV_u, dNotV_u, dIfX, dChain_u, dCall, dCallB, dSl, dNoP, dP_u, dLc, dDrop, dFrz, frzD, dAsg, dDicK, dDicT, gN, gT, gsC, gsN, kB.eq_1, kT.eq_1, kT.eq_2, kT.eq_3, kT.eq_4, kT.eq_5, kT.eq_6, kT.eq_7, kT.eq_8, kAnd.eq_1, kOr.eq_1, kNot.eq_1, kIt.eq_1, kIt.eq_2, kIt.eq_3, kIt.eq_4, kP.eq_1, kR1.eq_1, kR2.eq_1, sAdd.eq_1, sAdd.eq_2, sAdd.eq_3, sAdd.eq_4, sJ2.eq_1, sI2.eq_1, sPow, sLt.eq_1, sLt.eq_2, sLe, sGt, sGe, sMul.eq_1, sMul.eq_2, sMulB.eq_1, sMulB.eq_2, sMulB.eq_3, sLR1.eq_1, sLR2.eq_1, sTR1.eq_1, sTR2.eq_1, sIsBl.eq_1, dZip, kZip.eq_1, dDisp1, dIxW, dLenW, dName, dAppW, dPutW, dMelt, dCallBE, kIxW.eq_1, kLenW.eq_1, dLcW, kIxW_lst, kIxW_tup, kIxW_scr, kIxW_str, kIxW_dK, kIxW_dT, kLenW_lst, kLenW_tup, kLenW_scr, kLenW_str, kNm_f, kNm_t, kName, isL.eq_1, isL.eq_2, sNeg.eq_1, sLen.eq_1, sLen.eq_2, sLen.eq_3, sLen.eq_4, sLen.eq_5, sAbs.eq_1, sMax, sMin, sInt.eq_1, sInt.eq_2, sStr.eq_1, sList.eq_1, sList.eq_2, sList.eq_3, sTuple.eq_1, sTuple.eq_2, sTuple.eq_3, sIsN, sNotN, sIx.eq_1, sIx.eq_2, sIx.eq_3, sIx.eq_4, sIx.eq_5, sIx.eq_6, sIx.eq_7, sSl.eq_1, sSl.eq_2, sSl.eq_3, sSl.eq_4, sRev.eq_1, sRev.eq_2, sRev.eq_3, sAddI.eq_1, sAddI.eq_2, sPut.eq_1, sPut.eq_2, sPut.eq_3, sPut.eq_4, D.isNon, sEq_ii, sNe_ii, sEq_ww, sNe_ww, sEq_ll, sNe_ll, sIsi_ii, sIsi_ib, sIsi_ll, sIsi_tt, sIsi_ss, sEq_w, sEq_i, sEq_lw, sEq_lw', sEq_lle, sEq_lle', sNe_w, sNe_i, sNe_lle', sNe_lw', sEq_ss, sNe_ss, sEq_bb, sNe_bb, sIn_iw, sIn_ii, sIn_wl, sIn_wl', sSl3.eq_1, sSl3.eq_2, dSl3, isS.eq_1, isL.eq_1, isL.eq_2, isA.eq_1, dM0, dM1, sUpper.eq_1, sLower.eq_1, sStrip1.eq_1, sSfind.eq_1, sScount.eq_1, sSindex.eq_1, sSsplit.eq_1, sSjoin.eq_1, sSjoin.eq_2, fPop_snoc, fPop_snoc', startD, wipeD, List.map_cons, List.map_nil, List.length_cons, List.length_nil, List.length_map, List.cons_append, List.nil_append, List.replicate, List.set_cons_zero, List.set_cons_succ, List.set_nil, List.getElem?_cons_zero, List.getElem?_cons_succ, Bool.true_and, Bool.and_true, Bool.and_false, Bool.false_and, Bool.not_true, Bool.not_false, if_true, if_false, Bool.false_eq_true, reduceIte, and_true, true_and, decide_true, decide_false, not_true, Nat.zero_le, Nat.zero_add, Nat.reduceAdd, Nat.reduceSub, D.scal, Option.some.injEq, exists_eq_left', exists_eq_left, exists_eq', D.int.injEq, D.lst.injEq, D.tup.injEq, D.scr.injEq, D.str.injEq, List.cons.injEq, and_self]
      refine ⟨a, _, rfl, tw.ha, fun c hc => ?_⟩
      have hca : a ≠ c := fun z => by rw [← z, tw.ha] at hc; cases hc
      refine ⟨_, by rw [updM_ne hca]; exact tw.ha, by rw [List.length_map, tw.len]; omega, mulC (by decide) (by decide), ⟨by omega, by omega⟩, ?_⟩
      have tw2 := tw.push hc []
      have hcsl : cs.length = i := by rw [tw.len]; exact hi
      refine for_rng 0 _ (fun k δ w => ∃ (come : List Nat) (r : List Nat), TW w a (cs ++ [c]) (tab ++ [r]) ∧ i < come.length ∧ come[0]? = some 0 ∧ (∀ x ∈ come, x < p) ∧ come.Nodup ∧ come[i]? = some pt ∧ (∀ (i : Nat) (r : List Nat), tab[i]? = some r → ∃ x, come[i]? = some x ∧ r.length = 2 * ts.length ∧ ∀ k, k < 2 * ts.length → come[ap r k]? = some (ap (tk ts k) x)) ∧ (r.length = k ∧ ∀ k2, k2 < k → come[ap r k2]? = some (ap (tk ts k2) pt)) ∧ (∀ j, 0 < j → j < come.length → (∃ i k, i < j ∧ i < tab.length ∧ k < 2 * ts.length ∧ ap ((tab[i]?).getD []) k = j) ∨ ∃ k2, k2 < k ∧ i < j ∧ ap r k2 = j) ∧ ∃ b2 j3 j4 j5 j10, δ = [some (false, .lst (ts.map nL)), some (false, .int p), some (b2, .lst ((ts.map invP).map nL)), j3, j4, j5, some (true, .dK (nuD come)), some (true, nL come), some (false, .ref a), some (false, .int pt), j10]) ⟨come, [], tw2, hlt2, hc0, hlt, hnd, hpt, hrows, ⟨rfl, fun k h => by omega⟩, fun j h0 h1 => .inl (hR j h0 h1), b2, j3, j4, j5, j10, rfl⟩ ?_ ?_
      · rintro k δ w N3 C3 hk ⟨come, r, tw, hlt2, hc0, hlt, hnd, hpt, hrows, hr, hR, b2, j3, j4, j5, j10, rfl⟩ hN3 hC3
        have hk' : k < 2 * ts.length := by omega
        obtain ⟨L, hL1, hL2⟩ := tk_sel hk'
        have htp := tk_pm tns hk'
        have hotp := ap_lt htp hptp
        have hcl : come.length ≤ p := by
          have := nodup_len (m := List.range p) hnd fun x hx => List.mem_range.mpr (hlt x hx)
          simpa using this
        refine seq_i ?_
        try simp -implicitDefEqProofs only [dNext, dSet, dLst, dTup, dNil, dCons, dConsO, dFor, dRng1_u, dRng2_u, dIt_u, oX, dC, dBin, dUn, dVarR, dVar, dApp, dExt, dUpd0, dPut, dAug, dRet, dRetV, dRetN, dBreak, dCont, dIf, dB_u, dTru_u, dTNot, dTAnd, dTOr, dAndV_u, dOrV_u, dNotV_u, dIfX, dChain_u, dCall, dCallB, dSl, dNoP, dP_u, dLc, dDrop, dFrz, frzD, dAsg, dDicK, dDicT, gN, gT, gsC, gsN, kB.eq_1, kT.eq_1, kT.eq_2, kT.eq_3, kT.eq_4, kT.eq_5, kT.eq_6, kT.eq_7, kT.eq_8, kAnd.eq_1, kOr.eq_1, kNot.eq_1, kIt.eq_1, kIt.eq_2, kIt.eq_3, kIt.eq_4, kP.eq_1, kR1.eq_1, kR2.eq_1, sAdd.eq_1, sAdd.eq_2, sAdd.eq_3, sAdd.eq_4, sJ2.eq_1, sI2.eq_1, sPow, sLt.eq_1, sLt.eq_2, sLe, sGt, sGe, sMul.eq_1, sMul.eq_2, sMulB.eq_1, sMulB.eq_2, sMulB.eq_3, sLR1.eq_1, sLR2.eq_1, sTR1.eq_1, sTR2.eq_1, sIsBl.eq_1, dZip, kZip.eq_1, dDisp1, dIxW, dLenW, dName, dAppW, dPutW, dMelt, dCallBE, kIxW.eq_1, kLenW.eq_1, dLcW, kIxW_lst, kIxW_tup, kIxW_scr, kIxW_str, kIxW_dK, kIxW_dT, kLenW_lst, kLenW_tup, kLenW_scr, kLenW_str, kNm_f, kNm_t, kName, isL.eq_1, isL.eq_2, sNeg.eq_1, sLen.eq_1, sLen.eq_2, sLen.eq_3, sLen.eq_4, sLen.eq_5, sAbs.eq_1, sMax, sMin, sInt.eq_1, sInt.eq_2, sStr.eq_1, sList.eq_1, sList.eq_2, sList.eq_3, sTuple.eq_1, sTuple.eq_2, sTuple.eq_3, sIsN, sNotN, sIx.eq_1, sIx.eq_2, sIx.eq_3, sIx.eq_4, sIx.eq_5, sIx.eq_6, sIx.eq_7, sSl.eq_1, sSl.eq_2, sSl.eq_3, sSl.eq_4, sRev.eq_1, sRev.eq_2, sRev.eq_3, sAddI.eq_1, sAddI.eq_2, sPut.eq_1, sPut.eq_2, sPut.eq_3, sPut.eq_4, D.isNon, sEq_ii, sNe_ii, sEq_ww, sNe_ww, sEq_ll, sNe_ll, sIsi_ii, sIsi_ib, sIsi_ll, sIsi_tt, sIsi_ss, sEq_w, sEq_i, sEq_lw, sEq_lw', sEq_lle, sEq_lle', sNe_w, sNe_i, sNe_lle', sNe_lw', sEq_ss, sNe_ss, sEq_bb, sNe_bb, sIn_iw, sIn_ii, sIn_wl, sIn_wl', sSl3.eq_1, sSl3.eq_2, dSl3, isS.eq_1, isL.eq_1, isL.eq_2, isA.eq_1, dM0, dM1, sUpper.eq_1, sLower.eq_1, sStrip1.eq_1, sSfind.eq_1, sScount.eq_1, sSindex.eq_1, sSsplit.eq_1, sSjoin.eq_1, sSjoin.eq_2, fPop_snoc, fPop_snoc', startD, wipeD, List.map_cons, List.map_nil, List.length_cons, List.length_nil, List.length_map, List.cons_append, List.nil_append, List.replicate, List.set_cons_zero, List.set_cons_succ, List.set_nil, List.getElem?_cons_zero, List.getElem?_cons_succ, Bool.true_and, Bool.and_true, Bool.and_false, Bool.false_and, Bool.not_true, Bool.not_false, if_true, if_false, Bool.false_eq_true, reduceIte, and_true, true_and, decide_true, decide_false, not_true, Nat.zero_le, Nat.zero_add, Nat.reduceAdd, Nat.reduceSub, D.scal, Option.some.injEq, exists_eq_left', exists_eq_left, exists_eq', D.int.injEq, D.lst.injEq, D.tup.injEq, D.scr.injEq, D.str.injEq, List.cons.injEq, and_self]
        have hdv : (0 + (k : Int)) / 2 = ((k / 2 : Nat) : Int) := by omega
        refine ⟨by omega, by omega, _, hL1, divC (by decide) (by decide), ?_⟩
        rw [hdv]
        try simp -implicitDefEqProofs only [dNext, dSet, dLst, dTup, dNil, dCons, dConsO, dFor, dRng1_u, dRng2_u, dIt_u, oX, dC, dBin, dUn, dVarR, dVar, dApp, dExt, dUpd0, dPut, dAug, dRet, dRetV, dRetN, dBreak, dCont, dIf, dB_u, dTru_u, dTNot, dTAnd, dTOr, dAndV_u, dOrV_u, dNotV_u, dIfX, dChain_u, dCall, dCallB, dSl, dNoP, dP_u, dLc, dDrop, dFrz, frzD, dAsg, dDicK, dDicT, gN, gT, gsC, gsN, kB.eq_1, kT.eq_1, kT.eq_2, kT.eq_3, kT.eq_4, kT.eq_5, kT.eq_6, kT.eq_7, kT.eq_8, kAnd.eq_1, kOr.eq_1, kNot.eq_1, kIt.eq_1, kIt.eq_2, kIt.eq_3, kIt.eq_4, kP.eq_1, kR1.eq_1, kR2.eq_1, sAdd.eq_1, sAdd.eq_2, sAdd.eq_3, sAdd.eq_4, sJ2.eq_1, sI2.eq_1, sPow, sLt.eq_1, sLt.eq_2, sLe, sGt, sGe, sMul.eq_1, sMul.eq_2, sMulB.eq_1, sMulB.eq_2, sMulB.eq_3, sLR1.eq_1, sLR2.eq_1, sTR1.eq_1, sTR2.eq_1, sIsBl.eq_1, dZip, kZip.eq_1, dDisp1, dIxW, dLenW, dName, dAppW, dPutW, dMelt, dCallBE, kIxW.eq_1, kLenW.eq_1, dLcW, kIxW_lst, kIxW_tup, kIxW_scr, kIxW_str, kIxW_dK, kIxW_dT, kLenW_lst, kLenW_tup, kLenW_scr, kLenW_str, kNm_f, kNm_t, kName, isL.eq_1, isL.eq_2, sNeg.eq_1, sLen.eq_1, sLen.eq_2, sLen.eq_3, sLen.eq_4, sLen.eq_5, sAbs.eq_1, sMax, sMin, sInt.eq_1, sInt.eq_2, sStr.eq_1, sList.eq_1, sList.eq_2, sList.eq_3, sTuple.eq_1, sTuple.eq_2, sTuple.eq_3, sIsN, sNotN, sIx.eq_1, sIx.eq_2, sIx.eq_3, sIx.eq_4, sIx.eq_5, sIx.eq_6, sIx.eq_7, sSl.eq_1, sSl.eq_2, sSl.eq_3, sSl.eq_4, sRev.eq_1, sRev.eq_2, sRev.eq_3, sAddI.eq_1, sAddI.eq_2, sPut.eq_1, sPut.eq_2, sPut.eq_3, sPut.eq_4, D.isNon, sEq_ii, sNe_ii, sEq_ww, sNe_ww, sEq_ll, sNe_ll, sIsi_ii, sIsi_ib, sIsi_ll, sIsi_tt, sIsi_ss, sEq_w, sEq_i, sEq_lw, sEq_lw', sEq_lle, sEq_lle', sNe_w, sNe_i, sNe_lle', sNe_lw', sEq_ss, sNe_ss, sEq_bb, sNe_bb, sIn_iw, sIn_ii, sIn_wl, sIn_wl', sSl3.eq_1, sSl3.eq_2, dSl3, isS.eq_1, isL.eq_1, isL.eq_2, isA.eq_1, dM0, dM1, sUpper.eq_1, sLower.eq_1, sStrip1.eq_1, sSfind.eq_1, sScount.eq_1, sSindex.eq_1, sSsplit.eq_1, sSjoin.eq_1, sSjoin.eq_2, fPop_snoc, fPop_snoc', startD, wipeD, List.map_cons, List.map_nil, List.length_cons, List.length_nil, List.length_map, List.cons_append, List.nil_append, List.replicate, List.set_cons_zero, List.set_cons_succ, List.set_nil, List.getElem?_cons_zero, List.getElem?_cons_succ, Bool.true_and, Bool.and_true, Bool.and_false, Bool.false_and, Bool.not_true, Bool.not_false, if_true, if_false, Bool.false_eq_true, reduceIte, and_true, true_and, decide_true, decide_false, not_true, Nat.zero_le, Nat.zero_add, Nat.reduceAdd, Nat.reduceSub, D.scal, Option.some.injEq, exists_eq_left', exists_eq_left, exists_eq', D.int.injEq, D.lst.injEq, D.tup.injEq, D.scr.injEq, D.str.injEq, List.cons.injEq, and_self]
        refine ⟨nL (tk ts k), atI_f nL (by omega) (by rw [Int.toNat_natCast]; exact hL2), ?_⟩
        try simp -implicitDefEqProofs only [nL, dNext, dSet, dLst, dTup, dNil, dCons, dConsO, dFor, dRng1_u, dRng2_u, dIt_u, oX, dC, dBin, dUn, dVarR, dVar, dApp, dExt, dUpd0, dPut, dAug, dRet, dRetV, dRetN, dBreak, dCont, dIf, dB_u, dTru_u, dTNot, dTAnd, dTOr, dAndV_u, dOrV_u, dNotV_u, dIfX, dChain_u, dCall, dCallB, dSl, dNoP, dP_u, dLc, dDrop, dFrz, frzD, dAsg, dDicK, dDicT, gN, gT, gsC, gsN, kB.eq_1, kT.eq_1, kT.eq_2, kT.eq_3, kT.eq_4, kT.eq_5, kT.eq_6, kT.eq_7, kT.eq_8, kAnd.eq_1, kOr.eq_1, kNot.eq_1, kIt.eq_1, kIt.eq_2, kIt.eq_3, kIt.eq_4, kP.eq_1, kR1.eq_1, kR2.eq_1, sAdd.eq_1, sAdd.eq_2, sAdd.eq_3, sAdd.eq_4, sJ2.eq_1, sI2.eq_1, sPow, sLt.eq_1, sLt.eq_2, sLe, sGt, sGe, sMul.eq_1, sMul.eq_2, sMulB.eq_1, sMulB.eq_2, sMulB.eq_3, sLR1.eq_1, sLR2.eq_1, sTR1.eq_1, sTR2.eq_1, sIsBl.eq_1, dZip, kZip.eq_1, dDisp1, dIxW, dLenW, dName, dAppW, dPutW, dMelt, dCallBE, kIxW.eq_1, kLenW.eq_1, dLcW, kIxW_lst, kIxW_tup, kIxW_scr, kIxW_str, kIxW_dK, kIxW_dT, kLenW_lst, kLenW_tup, kLenW_scr, kLenW_str, kNm_f, kNm_t, kName, isL.eq_1, isL.eq_2, sNeg.eq_1, sLen.eq_1, sLen.eq_2, sLen.eq_3, sLen.eq_4, sLen.eq_5, sAbs.eq_1, sMax, sMin, sInt.eq_1, sInt.eq_2, sStr.eq_1, sList.eq_1, sList.eq_2, sList.eq_3, sTuple.eq_1, sTuple.eq_2, sTuple.eq_3, sIsN, sNotN, sIx.eq_1, sIx.eq_2, sIx.eq_3, sIx.eq_4, sIx.eq_5, sIx.eq_6, sIx.eq_7, sSl.eq_1, sSl.eq_2, sSl.eq_3, sSl.eq_4, sRev.eq_1, sRev.eq_2, sRev.eq_3, sAddI.eq_1, sAddI.eq_2, sPut.eq_1, sPut.eq_2, sPut.eq_3, sPut.eq_4, D.isNon, sEq_ii, sNe_ii, sEq_ww, sNe_ww, sEq_ll, sNe_ll, sIsi_ii, sIsi_ib, sIsi_ll, sIsi_tt, sIsi_ss, sEq_w, sEq_i, sEq_lw, sEq_lw', sEq_lle, sEq_lle', sNe_w, sNe_i, sNe_lle', sNe_lw', sEq_ss, sNe_ss, sEq_bb, sNe_bb, sIn_iw, sIn_ii, sIn_wl, sIn_wl', sSl3.eq_1, sSl3.eq_2, dSl3, isS.eq_1, isL.eq_1, isL.eq_2, isA.eq_1, dM0, dM1, sUpper.eq_1, sLower.eq_1, sStrip1.eq_1, sSfind.eq_1, sScount.eq_1, sSindex.eq_1, sSsplit.eq_1, sSjoin.eq_1, sSjoin.eq_2, fPop_snoc, fPop_snoc', startD, wipeD, List.map_cons, List.map_nil, List.length_cons, List.length_nil, List.length_map, List.cons_append, List.nil_append, List.replicate, List.set_cons_zero, List.set_cons_succ, List.set_nil, List.getElem?_cons_zero, List.getElem?_cons_succ, Bool.true_and, Bool.and_true, Bool.and_false, Bool.false_and, Bool.not_true, Bool.not_false, if_true, if_false, Bool.false_eq_true, reduceIte, and_true, true_and, decide_true, decide_false, not_true, Nat.zero_le, Nat.zero_add, Nat.reduceAdd, Nat.reduceSub, D.scal, Option.some.injEq, exists_eq_left', exists_eq_left, exists_eq', D.int.injEq, D.lst.injEq, D.tup.injEq, D.scr.injEq, D.str.injEq, List.cons.injEq, and_self]
        refine ⟨_, atI_n (by rw [htp.len]; exact hptp), ?_⟩
        generalize hot : ap (tk ts k) pt = ot at *
        refine seq_cut (fun δ w2 => w2 = w ∧ ∃ come2 : List Nat, (∃ e, come2 = come ++ e) ∧ come2.Nodup ∧ (∀ x ∈ come2, x < p) ∧ (∀ j, come.length ≤ j → j < come2.length → come2[j]? = some ot) ∧ ot ∈ come2 ∧ δ = [some (false, .lst (ts.map nL)), some (false, .int p), some (false, .lst ((ts.map invP).map nL)), j3, j4, some (false, .int (0 + (k : Nat))), some (true, .dK (nuD come2)), some (true, nL come2), some (false, .ref a), some (false, .int pt), some (false, .int ot)]) (fun N h => ?_) ?_
        · try simp -implicitDefEqProofs only [nL, dNext, dSet, dLst, dTup, dNil, dCons, dConsO, dFor, dRng1_u, dRng2_u, dIt_u, oX, dC, dBin, dUn, dVarR, dVar, dApp, dExt, dUpd0, dPut, dAug, dRet, dRetV, dRetN, dBreak, dCont, dIf, dB_u, dTru_u, dTNot, dTAnd, dTOr, dAndV_u, dOrV_u, dNotV_u, dIfX, dChain_u, dCall, dCallB, dSl, dNoP, dP_u, dLc, dDrop, dFrz, frzD, dAsg, dDicK, dDicT, gN, gT, gsC, gsN, kB.eq_1, kT.eq_1, kT.eq_2, kT.eq_3, kT.eq_4, kT.eq_5, kT.eq_6, kT.eq_7, kT.eq_8, kAnd.eq_1, kOr.eq_1, kNot.eq_1, kIt.eq_1, kIt.eq_2, kIt.eq_3, kIt.eq_4, kP.eq_1, kR1.eq_1, kR2.eq_1, sAdd.eq_1, sAdd.eq_2, sAdd.eq_3, sAdd.eq_4, sJ2.eq_1, sI2.eq_1, sPow, sLt.eq_1, sLt.eq_2, sLe, sGt, sGe, sMul.eq_1, sMul.eq_2, sMulB.eq_1, sMulB.eq_2, sMulB.eq_3, sLR1.eq_1, sLR2.eq_1, sTR1.eq_1, sTR2.eq_1, sIsBl.eq_1, dZip, kZip.eq_1, dDisp1, dIxW, dLenW, dName, dAppW, dPutW, dMelt, dCallBE, kIxW.eq_1, kLenW.eq_1, dLcW, kIxW_lst, kIxW_tup, kIxW_scr, kIxW_str, kIxW_dK, kIxW_dT, kLenW_lst, kLenW_tup, kLenW_scr, kLenW_str, kNm_f, kNm_t, kName, isL.eq_1, isL.eq_2, sNeg.eq_1, sLen.eq_1, sLen.eq_2, sLen.eq_3, sLen.eq_4, sLen.eq_5, sAbs.eq_1, sMax, sMin, sInt.eq_1, sInt.eq_2, sStr.eq_1, sList.eq_1, sList.eq_2, sList.eq_3, sTuple.eq_1, sTuple.eq_2, sTuple.eq_3, sIsN, sNotN, sIx.eq_1, sIx.eq_2, sIx.eq_3, sIx.eq_4, sIx.eq_5, sIx.eq_6, sIx.eq_7, sSl.eq_1, sSl.eq_2, sSl.eq_3, sSl.eq_4, sRev.eq_1, sRev.eq_2, sRev.eq_3, sAddI.eq_1, sAddI.eq_2, sPut.eq_1, sPut.eq_2, sPut.eq_3, sPut.eq_4, D.isNon, sEq_ii, sNe_ii, sEq_ww, sNe_ww, sEq_ll, sNe_ll, sIsi_ii, sIsi_ib, sIsi_ll, sIsi_tt, sIsi_ss, sEq_w, sEq_i, sEq_lw, sEq_lw', sEq_lle, sEq_lle', sNe_w, sNe_i, sNe_lle', sNe_lw', sEq_ss, sNe_ss, sEq_bb, sNe_bb, sIn_iw, sIn_ii, sIn_wl, sIn_wl', sSl3.eq_1, sSl3.eq_2, dSl3, isS.eq_1, isL.eq_1, isL.eq_2, isA.eq_1, dM0, dM1, sUpper.eq_1, sLower.eq_1, sStrip1.eq_1, sSfind.eq_1, sScount.eq_1, sSindex.eq_1, sSsplit.eq_1, sSjoin.eq_1, sSjoin.eq_2, fPop_snoc, fPop_snoc', startD, wipeD, List.map_cons, List.map_nil, List.length_cons, List.length_nil, List.length_map, List.cons_append, List.nil_append, List.replicate, List.set_cons_zero, List.set_cons_succ, List.set_nil, List.getElem?_cons_zero, List.getElem?_cons_succ, Bool.true_and, Bool.and_true, Bool.and_false, Bool.false_and, Bool.not_true, Bool.not_false, if_true, if_false, Bool.false_eq_true, reduceIte, and_true, true_and, decide_true, decide_false, not_true, Nat.zero_le, Nat.zero_add, Nat.reduceAdd, Nat.reduceSub, D.scal, Option.some.injEq, exists_eq_left', exists_eq_left, exists_eq', D.int.injEq, D.lst.injEq, D.tup.injEq, D.scr.injEq, D.str.injEq, List.cons.injEq, and_self]
          rw [show sIn true (D.int ot) (D.dK (nuD come)) = fun P => P false (.bl (!(valD (nuD come) (.inl (ot : Int))).isSome)) from rfl]
          try simp -implicitDefEqProofs only [nu_val hnd, dNext, dSet, dLst, dTup, dNil, dCons, dConsO, dFor, dRng1_u, dRng2_u, dIt_u, oX, dC, dBin, dUn, dVarR, dVar, dApp, dExt, dUpd0, dPut, dAug, dRet, dRetV, dRetN, dBreak, dCont, dIf, dB_u, dTru_u, dTNot, dTAnd, dTOr, dAndV_u, dOrV_u, dNotV_u, dIfX, dChain_u, dCall, dCallB, dSl, dNoP, dP_u, dLc, dDrop, dFrz, frzD, dAsg, dDicK, dDicT, gN, gT, gsC, gsN, kB.eq_1, kT.eq_1, kT.eq_2, kT.eq_3, kT.eq_4, kT.eq_5, kT.eq_6, kT.eq_7, kT.eq_8, kAnd.eq_1, kOr.eq_1, kNot.eq_1, kIt.eq_1, kIt.eq_2, kIt.eq_3, kIt.eq_4, kP.eq_1, kR1.eq_1, kR2.eq_1, sAdd.eq_1, sAdd.eq_2, sAdd.eq_3, sAdd.eq_4, sJ2.eq_1, sI2.eq_1, sPow, sLt.eq_1, sLt.eq_2, sLe, sGt, sGe, sMul.eq_1, sMul.eq_2, sMulB.eq_1, sMulB.eq_2, sMulB.eq_3, sLR1.eq_1, sLR2.eq_1, sTR1.eq_1, sTR2.eq_1, sIsBl.eq_1, dZip, kZip.eq_1, dDisp1, dIxW, dLenW, dName, dAppW, dPutW, dMelt, dCallBE, kIxW.eq_1, kLenW.eq_1, dLcW, kIxW_lst, kIxW_tup, kIxW_scr, kIxW_str, kIxW_dK, kIxW_dT, kLenW_lst, kLenW_tup, kLenW_scr, kLenW_str, kNm_f, kNm_t, kName, isL.eq_1, isL.eq_2, sNeg.eq_1, sLen.eq_1, sLen.eq_2, sLen.eq_3, sLen.eq_4, sLen.eq_5, sAbs.eq_1, sMax, sMin, sInt.eq_1, sInt.eq_2, sStr.eq_1, sList.eq_1, sList.eq_2, sList.eq_3, sTuple.eq_1, sTuple.eq_2, sTuple.eq_3, sIsN, sNotN, sIx.eq_1, sIx.eq_2, sIx.eq_3, sIx.eq_4, sIx.eq_5, sIx.eq_6, sIx.eq_7, sSl.eq_1, sSl.eq_2, sSl.eq_3, sSl.eq_4, sRev.eq_1, sRev.eq_2, sRev.eq_3, sAddI.eq_1, sAddI.eq_2, sPut.eq_1, sPut.eq_2, sPut.eq_3, sPut.eq_4, D.isNon, sEq_ii, sNe_ii, sEq_ww, sNe_ww, sEq_ll, sNe_ll, sIsi_ii, sIsi_ib, sIsi_ll, sIsi_tt, sIsi_ss, sEq_w, sEq_i, sEq_lw, sEq_lw', sEq_lle, sEq_lle', sNe_w, sNe_i, sNe_lle', sNe_lw', sEq_ss, sNe_ss, sEq_bb, sNe_bb, sIn_iw, sIn_ii, sIn_wl, sIn_wl', sSl3.eq_1, sSl3.eq_2, dSl3, isS.eq_1, isL.eq_1, isL.eq_2, isA.eq_1, dM0, dM1, sUpper.eq_1, sLower.eq_1, sStrip1.eq_1, sSfind.eq_1, sScount.eq_1, sSindex.eq_1, sSsplit.eq_1, sSjoin.eq_1, sSjoin.eq_2, fPop_snoc, fPop_snoc', startD, wipeD, List.map_cons, List.map_nil, List.length_cons, List.length_nil, List.length_map, List.cons_append, List.nil_append, List.replicate, List.set_cons_zero, List.set_cons_succ, List.set_nil, List.getElem?_cons_zero, List.getElem?_cons_succ, Bool.true_and, Bool.and_true, Bool.and_false, Bool.false_and, Bool.not_true, Bool.not_false, if_true, if_false, Bool.false_eq_true, reduceIte, and_true, true_and, decide_true, decide_false, not_true, Nat.zero_le, Nat.zero_add, Nat.reduceAdd, Nat.reduceSub, D.scal, Option.some.injEq, exists_eq_left', exists_eq_left, exists_eq', D.int.injEq, D.lst.injEq, D.tup.injEq, D.scr.injEq, D.str.injEq, List.cons.injEq, and_self]
          by_cases hm : ot ∈ come
          · refine if_f ?_ (h _ _ ⟨rfl, come, ⟨[], by simp⟩, hnd, hlt, fun j h1 h2 => by omega, hm, rfl⟩)
            cases e : come.idxOf? ot with
            | none => rw [List.idxOf?_eq_none_iff] at e; exact absurd hm e
            | some v => simp
          · have e : come.idxOf? ot = none := List.idxOf?_eq_none_iff.mpr hm
            refine if_t (by rw [e]; rfl) ?_
            refine seq_i ?_
            try simp -implicitDefEqProofs only [dNext, dSet, dLst, dTup, dNil, dCons, dConsO, dFor, dRng1_u, dRng2_u, dIt_u, oX, dC, dBin, dUn, dVarR, dVar, dApp, dExt, dUpd0, dPut, dAug, dRet, dRetV, dRetN, dBreak, dCont, dIf, dB_u, dTru_u, dTNot, dTAnd, dTOr, dAndV_u, dOrV_u, dNotV_u, dIfX, dChain_u, dCall, dCallB, dSl, dNoP, dP_u, dLc, dDrop, dFrz, frzD, dAsg, dDicK, dDicT, gN, gT, gsC, gsN, kB.eq_1, kT.eq_1, kT.eq_2, kT.eq_3, kT.eq_4, kT.eq_5, kT.eq_6, kT.eq_7, kT.eq_8, kAnd.eq_1, kOr.eq_1, kNot.eq_1, kIt.eq_1, kIt.eq_2, kIt.eq_3, kIt.eq_4, kP.eq_1, kR1.eq_1, kR2.eq_1, sAdd.eq_1, sAdd.eq_2, sAdd.eq_3, sAdd.eq_4, sJ2.eq_1, sI2.eq_1, sPow, sLt.eq_1, sLt.eq_2, sLe, sGt, sGe, sMul.eq_1, sMul.eq_2, sMulB.eq_1, sMulB.eq_2, sMulB.eq_3, sLR1.eq_1, sLR2.eq_1, sTR1.eq_1, sTR2.eq_1, sIsBl.eq_1, dZip, kZip.eq_1, dDisp1, dIxW, dLenW, dName, dAppW, dPutW, dMelt, dCallBE, kIxW.eq_1, kLenW.eq_1, dLcW, kIxW_lst, kIxW_tup, kIxW_scr, kIxW_str, kIxW_dK, kIxW_dT, kLenW_lst, kLenW_tup, kLenW_scr, kLenW_str, kNm_f, kNm_t, kName, isL.eq_1, isL.eq_2, sNeg.eq_1, sLen.eq_1, sLen.eq_2, sLen.eq_3, sLen.eq_4, sLen.eq_5, sAbs.eq_1, sMax, sMin, sInt.eq_1, sInt.eq_2, sStr.eq_1, sList.eq_1, sList.eq_2, sList.eq_3, sTuple.eq_1, sTuple.eq_2, sTuple.eq_3, sIsN, sNotN, sIx.eq_1, sIx.eq_2, sIx.eq_3, sIx.eq_4, sIx.eq_5, sIx.eq_6, sIx.eq_7, sSl.eq_1, sSl.eq_2, sSl.eq_3, sSl.eq_4, sRev.eq_1, sRev.eq_2, sRev.eq_3, sAddI.eq_1, sAddI.eq_2, sPut.eq_1, sPut.eq_2, sPut.eq_3, sPut.eq_4, D.isNon, sEq_ii, sNe_ii, sEq_ww, sNe_ww, sEq_ll, sNe_ll, sIsi_ii, sIsi_ib, sIsi_ll, sIsi_tt, sIsi_ss, sEq_w, sEq_i, sEq_lw, sEq_lw', sEq_lle, sEq_lle', sNe_w, sNe_i, sNe_lle', sNe_lw', sEq_ss, sNe_ss, sEq_bb, sNe_bb, sIn_iw, sIn_ii, sIn_wl, sIn_wl', sSl3.eq_1, sSl3.eq_2, dSl3, isS.eq_1, isL.eq_1, isL.eq_2, isA.eq_1, dM0, dM1, sUpper.eq_1, sLower.eq_1, sStrip1.eq_1, sSfind.eq_1, sScount.eq_1, sSindex.eq_1, sSsplit.eq_1, sSjoin.eq_1, sSjoin.eq_2, fPop_snoc, fPop_snoc', startD, wipeD, List.map_cons, List.map_nil, List.length_cons, List.length_nil, List.length_map, List.cons_append, List.nil_append, List.replicate, List.set_cons_zero, List.set_cons_succ, List.set_nil, List.getElem?_cons_zero, List.getElem?_cons_succ, Bool.true_and, Bool.and_true, Bool.and_false, Bool.false_and, Bool.not_true, Bool.not_false, if_true, if_false, Bool.false_eq_true, reduceIte, and_true, true_and, decide_true, decide_false, not_true, Nat.zero_le, Nat.zero_add, Nat.reduceAdd, Nat.reduceSub, D.scal, Option.some.injEq, exists_eq_left', exists_eq_left, exists_eq', D.int.injEq, D.lst.injEq, D.tup.injEq, D.scr.injEq, D.str.injEq, List.cons.injEq, and_self]
            rw [nu_put hm]
            refine ⟨by unfold nuD nuL; rw [List.length_map, List.length_zipIdx]; omega, by omega, h _ _ ⟨rfl, come ++ [ot], ⟨_, rfl⟩, ?_, fun x hx => ?_, fun j h1 h2 => ?_, by simp, by simp [nL]⟩⟩
            · rw [List.nodup_append]
              refine ⟨hnd, by simp, fun x hx y hy => ?_⟩
              simp at hy
              subst hy
              exact fun e => hm (e ▸ hx)
            · rcases List.mem_append.mp hx with h' | h'
              · exact hlt x h'
              · simp at h'; subst h'; exact hotp
            · simp at h2
              rw [List.getElem?_append_right h1, show j - come.length = 0 by omega]
              rfl
        rintro δ w2 ⟨rfl, come2, ⟨e, he⟩, hnd2, hlt3, hnew, hm, rfl⟩
        obtain ⟨j, hj⟩ := List.mem_iff_getElem?.mp hm
        have hidx : come2.idxOf? ot = some j := by
          obtain ⟨g1, g2⟩ := List.getElem?_eq_some_iff.mp hj
          rw [List.idxOf?, List.findIdx?_eq_some_iff_getElem]
          refine ⟨g1, by simp [g2], fun m hmj => ?_⟩
          have := nodup_fst hnd2 hj m hmj
          rw [List.getElem?_eq_getElem (by omega)] at this
          simpa using fun e => this (by rw [e])
        have hv : valD (nuD come2) (.inl (ot : Int)) = some (.int (j : Int)) := by rw [nu_val hnd2, hidx]; rfl
        have hcc : (cs ++ [c])[cs.length]? = some c := by simp
        have htt : (tab ++ [r])[cs.length]? = some r := by rw [hcsl, ← hi]; simp
        have hwc := tw.row _ _ _ hcc htt
        have hcl2 : come2.length ≤ p := by
          have := nodup_len (m := List.range p) hnd2 fun x hx => List.mem_range.mpr (hlt3 x hx)
          simpa using this
        have hlast : atI ((cs ++ [c]).map D.ref) (-1) = some (.ref c) := by rw [List.map_append]; exact atI_lastD _ _
        have hrl := hr.1
        try simp -implicitDefEqProofs only [dNext, dSet, dLst, dTup, dNil, dCons, dConsO, dFor, dRng1_u, dRng2_u, dIt_u, oX, dC, dBin, dUn, dVarR, dVar, dApp, dExt, dUpd0, dPut, dAug, dRet, dRetV, dRetN, dBreak, dCont, dIf, dB_u, dTru_u, dTNot, dTAnd, dTOr, dAndV_u, dOrV_u, dNotV_u, dIfX, dChain_u, dCall, dCallB, dSl, dNoP, dP_u, dLc, dDrop, dFrz, frzD, dAsg, dDicK, dDicT, gN, gT, gsC, gsN, kB.eq_1, kT.eq_1, kT.eq_2, kT.eq_3, kT.eq_4, kT.eq_5, kT.eq_6, kT.eq_7, kT.eq_8, kAnd.eq_1, kOr.eq_1, kNot.eq_1, kIt.eq_1, kIt.eq_2, kIt.eq_3, kIt.eq_4, kP.eq_1, kR1.eq_1, kR2.eq_1, sAdd.eq_1, sAdd.eq_2, sAdd.eq_3, sAdd.eq_4, sJ2.eq_1, sI2.eq_1, sPow, sLt.eq_1, sLt.eq_2, sLe, sGt, sGe, sMul.eq_1, sMul.eq_2, sMulB.eq_1, sMulB.eq_2, sMulB.eq_3, sLR1.eq_1, sLR2.eq_1, sTR1.eq_1, sTR2.eq_1, sIsBl.eq_1, dZip, kZip.eq_1, dDisp1, dIxW, dLenW, dName, dAppW, dPutW, dMelt, dCallBE, kIxW.eq_1, kLenW.eq_1, dLcW, kIxW_lst, kIxW_tup, kIxW_scr, kIxW_str, kIxW_dK, kIxW_dT, kLenW_lst, kLenW_tup, kLenW_scr, kLenW_str, kNm_f, kNm_t, kName, isL.eq_1, isL.eq_2, sNeg.eq_1, sLen.eq_1, sLen.eq_2, sLen.eq_3, sLen.eq_4, sLen.eq_5, sAbs.eq_1, sMax, sMin, sInt.eq_1, sInt.eq_2, sStr.eq_1, sList.eq_1, sList.eq_2, sList.eq_3, sTuple.eq_1, sTuple.eq_2, sTuple.eq_3, sIsN, sNotN, sIx.eq_1, sIx.eq_2, sIx.eq_3, sIx.eq_4, sIx.eq_5, sIx.eq_6, sIx.eq_7, sSl.eq_1, sSl.eq_2, sSl.eq_3, sSl.eq_4, sRev.eq_1, sRev.eq_2, sRev.eq_3, sAddI.eq_1, sAddI.eq_2, sPut.eq_1, sPut.eq_2, sPut.eq_3, sPut.eq_4, D.isNon, sEq_ii, sNe_ii, sEq_ww, sNe_ww, sEq_ll, sNe_ll, sIsi_ii, sIsi_ib, sIsi_ll, sIsi_tt, sIsi_ss, sEq_w, sEq_i, sEq_lw, sEq_lw', sEq_lle, sEq_lle', sNe_w, sNe_i, sNe_lle', sNe_lw', sEq_ss, sNe_ss, sEq_bb, sNe_bb, sIn_iw, sIn_ii, sIn_wl, sIn_wl', sSl3.eq_1, sSl3.eq_2, dSl3, isS.eq_1, isL.eq_1, isL.eq_2, isA.eq_1, dM0, dM1, sUpper.eq_1, sLower.eq_1, sStrip1.eq_1, sSfind.eq_1, sScount.eq_1, sSindex.eq_1, sSsplit.eq_1, sSjoin.eq_1, sSjoin.eq_2, fPop_snoc, fPop_snoc', startD, wipeD, List.map_cons, List.map_nil, List.length_cons, List.length_nil, List.length_map, List.cons_append, List.nil_append, List.replicate, List.set_cons_zero, List.set_cons_succ, List.set_nil, List.getElem?_cons_zero, List.getElem?_cons_succ, Bool.true_and, Bool.and_true, Bool.and_false, Bool.false_and, Bool.not_true, Bool.not_false, if_true, if_false, Bool.false_eq_true, reduceIte, and_true, true_and, decide_true, decide_false, not_true, Nat.zero_le, Nat.zero_add, Nat.reduceAdd, Nat.reduceSub, D.scal, Option.some.injEq, exists_eq_left', exists_eq_left, exists_eq', D.int.injEq, D.lst.injEq, D.tup.injEq, D.scr.injEq, D.str.injEq, List.cons.injEq, and_self]
        refine ⟨_, _, tw.ha, hlast, c, _, rfl, hwc, _, hv, _, hwc, by unfold iN; rw [List.length_map]; omega, ?_⟩
        have tw3 := tw.put hcc (r ++ [j])
        have e1 : iN r ++ [D.int j] = iN (r ++ [j]) := by simp [iN]
        rw [e1]
        have e2 : (tab ++ [r]).set cs.length (r ++ [j]) = tab ++ [r ++ [j]] := by rw [hcsl, ← hi]; simp
        rw [e2] at tw3
        refine hN3 _ _ ⟨come2, r ++ [j], tw3, by rw [he, List.length_append]; omega, by rw [he, List.getElem?_append_left (by omega)]; exact hc0, hlt3, hnd2, by rw [he, List.getElem?_append_left hlt2]; exact hpt, fun i2 r2 hr2 => ?_, ⟨by simp [hrl], fun k2 hk2 => ?_⟩, fun j2 h0 h1 => ?_, false, j3, j4, some (false, .int (0 + (k : Nat))), some (false, .int ot), rfl⟩
        · obtain ⟨x2, g1, g2, g3⟩ := hrows i2 r2 hr2
          refine ⟨x2, by rw [he, List.getElem?_append_left (List.getElem?_eq_some_iff.mp g1).1]; exact g1, g2, fun k3 hk3 => ?_⟩
          have := g3 k3 hk3
          rw [he, List.getElem?_append_left (List.getElem?_eq_some_iff.mp this).1]
          exact this
        · by_cases hk3 : k2 < k
          · rw [ap_snoc (by omega)]
            have := hr.2 k2 hk3
            rw [he, List.getElem?_append_left (List.getElem?_eq_some_iff.mp this).1]
            exact this
          · have : k2 = k := by omega
            subst this
            rw [← hrl, ap_last, hrl, hot]
            exact hj
        · by_cases hj2 : j2 < come.length
          · rcases hR j2 h0 hj2 with h | ⟨k2, g1, g2, g3⟩
            · exact .inl h
            · exact .inr ⟨k2, by omega, g2, by rw [ap_snoc (by omega)]; exact g3⟩
          · have := nodup_same hnd2 (hnew j2 (by omega) h1) hj
            subst this
            exact .inr ⟨k, by omega, by omega, by rw [← hrl, ap_last]⟩
      · rintro δ w ⟨come, r, tw, hlt2, hc0, hlt, hnd, hpt, hrows, hr, hR, b2, j3, j4, j5, j10, rfl⟩
        refine hN2 (i + 1) _ _ ⟨cs ++ [c], come, tab ++ [r], tw, by simp [hi], hlt2, hc0, hlt, hnd, fun i2 r2 hr2 => ?_, fun j h0 h1 => ?_, b2, j3, _, j5, some (false, .int pt), j10, rfl⟩ (by omega)
        · by_cases h2 : i2 < tab.length
          · rw [List.getElem?_append_left h2] at hr2
            exact hrows i2 r2 hr2
          · rw [List.getElem?_append_right (by omega)] at hr2
            have : i2 = i := by
              have := (List.getElem?_eq_some_iff.mp hr2).1
              simp at this
              omega
            subst this
            rw [hi, Nat.sub_self] at hr2
            cases hr2
            exact ⟨pt, hpt, by have := hr.1; omega, fun k hk => hr.2 k (by omega)⟩
        · rcases hR j h0 h1 with ⟨i2, k2, g1, g2, g3, g4⟩ | ⟨k2, g1, g2, g3⟩
          · exact ⟨i2, k2, g1, by rw [List.length_append]; omega, g3, by rw [List.getElem?_append_left g2]; exact g4⟩
          · refine ⟨i, k2, g2, by rw [List.length_append]; simp; omega, by omega, ?_⟩
            rw [List.getElem?_append_right (by omega), hi, Nat.sub_self]
            exact g3
    · refine if_f (by simp; omega) (h _ _ ⟨cs, come, tab, tw, ⟨hc0, hlt, hnd, by omega, fun i2 x hx => ?_, fun j h0 h1 => ?_⟩, b2, j3, j4, j5, _, _, j9, j10, rfl⟩)
      · have hl := (List.getElem?_eq_some_iff.mp hx).1
        have hl2 : i2 < tab.length := by omega
        obtain ⟨x2, g1, g2, g3⟩ := hrows i2 _ (List.getElem?_eq_getElem hl2)
        rw [hx] at g1
        cases g1
        exact ⟨_, List.getElem?_eq_getElem hl2, g2, g3⟩
      · obtain ⟨i2, k2, g1, _, g3, g4⟩ := hR j h0 h1
        exact ⟨i2, k2, g1, g3, g4⟩
  rintro δ w ⟨cs, come, tab, tw, tp, b2, j3, j4, j5, j6, j7, j9, j10, rfl⟩
  obtain ⟨rows, r1, r2, r3⟩ := tw.rows
  try simp -implicitDefEqProofs only [dNext, dSet, dLst, dTup, dNil, dCons, dConsO, dFor, dRng1_u, dRng2_u, dIt_u, oX, dC, dBin, dUn, dVarR, dVar, dApp, dExt, dUpd0, dPut, dAug, dRet, dRetV, dRetN, dBreak, dCont, dIf, dB_u, dTru_u, dTNot, dTAnd, dTOr, dAndV_u, dOrV_u, dNotV_u, dIfX, dChain_u, dCall, dCallB, dSl, dNoP, dP_u, dLc, dDrop, dFrz, frzD, dAsg, dDicK, dDicT, gN, gT, gsC, gsN, kB.eq_1, kT.eq_1, kT.eq_2, kT.eq_3, kT.eq_4, kT.eq_5, kT.eq_6, kT.eq_7, kT.eq_8, kAnd.eq_1, kOr.eq_1, kNot.eq_1, kIt.eq_1, kIt.eq_2, kIt.eq_3, kIt.eq_4, kP.eq_1, kR1.eq_1, kR2.eq_1, sAdd.eq_1, sAdd.eq_2, sAdd.eq_3, sAdd.eq_4, sJ2.eq_1, sI2.eq_1, sPow, sLt.eq_1, sLt.eq_2, sLe, sGt, sGe, sMul.eq_1, sMul.eq_2, sMulB.eq_1, sMulB.eq_2, sMulB.eq_3, sLR1.eq_1, sLR2.eq_1, sTR1.eq_1, sTR2.eq_1, sIsBl.eq_1, dZip, kZip.eq_1, dDisp1, dIxW, dLenW, dName, dAppW, dPutW, dMelt, dCallBE, kIxW.eq_1, kLenW.eq_1, dLcW, kIxW_lst, kIxW_tup, kIxW_scr, kIxW_str, kIxW_dK, kIxW_dT, kLenW_lst, kLenW_tup, kLenW_scr, kLenW_str, kNm_f, kNm_t, kName, isL.eq_1, isL.eq_2, sNeg.eq_1, sLen.eq_1, sLen.eq_2, sLen.eq_3, sLen.eq_4, sLen.eq_5, sAbs.eq_1, sMax, sMin, sInt.eq_1, sInt.eq_2, sStr.eq_1, sList.eq_1, sList.eq_2, sList.eq_3, sTuple.eq_1, sTuple.eq_2, sTuple.eq_3, sIsN, sNotN, sIx.eq_1, sIx.eq_2, sIx.eq_3, sIx.eq_4, sIx.eq_5, sIx.eq_6, sIx.eq_7, sSl.eq_1, sSl.eq_2, sSl.eq_3, sSl.eq_4, sRev.eq_1, sRev.eq_2, sRev.eq_3, sAddI.eq_1, sAddI.eq_2, sPut.eq_1, sPut.eq_2, sPut.eq_3, sPut.eq_4, D.isNon, sEq_ii, sNe_ii, sEq_ww, sNe_ww, sEq_ll, sNe_ll, sIsi_ii, sIsi_ib, sIsi_ll, sIsi_tt, sIsi_ss, sEq_w, sEq_i, sEq_lw, sEq_lw', sEq_lle, sEq_lle', sNe_w, sNe_i, sNe_lle', sNe_lw', sEq_ss, sNe_ss, sEq_bb, sNe_bb, sIn_iw, sIn_ii, sIn_wl, sIn_wl', sSl3.eq_1, sSl3.eq_2, dSl3, isS.eq_1, isL.eq_1, isL.eq_2, isA.eq_1, dM0, dM1, sUpper.eq_1, sLower.eq_1, sStrip1.eq_1, sSfind.eq_1, sScount.eq_1, sSindex.eq_1, sSsplit.eq_1, sSjoin.eq_1, sSjoin.eq_2, fPop_snoc, fPop_snoc', startD, wipeD, List.map_cons, List.map_nil, List.length_cons, List.length_nil, List.length_map, List.cons_append, List.nil_append, List.replicate, List.set_cons_zero, List.set_cons_succ, List.set_nil, List.getElem?_cons_zero, List.getElem?_cons_succ, Bool.true_and, Bool.and_true, Bool.and_false, Bool.false_and, Bool.not_true, Bool.not_false, if_true, if_false, Bool.false_eq_true, reduceIte, and_true, true_and, decide_true, decide_false, not_true, Nat.zero_le, Nat.zero_add, Nat.reduceAdd, Nat.reduceSub, D.scal, Option.some.injEq, exists_eq_left', exists_eq_left, exists_eq', D.int.injEq, D.lst.injEq, D.tup.injEq, D.scr.injEq, D.str.injEq, List.cons.injEq, and_self]
  refine ⟨a, rows, rfl, r1, r2, ?_⟩
  try simp -implicitDefEqProofs only [r3, dNext, dSet, dLst, dTup, dNil, dCons, dConsO, dFor, dRng1_u, dRng2_u, dIt_u, oX, dC, dBin, dUn, dVarR, dVar, dApp, dExt, dUpd0, dPut, dAug, dRet, dRetV, dRetN, dBreak, dCont, dIf, dB_u, dTru_u, dTNot, dTAnd, dTOr, dAndV_u, dOrV_u, dNotV_u, dIfX, dChain_u, dCall, dCallB, dSl, dNoP, dP_u, dLc, dDrop, dFrz, frzD, dAsg, dDicK, dDicT, gN, gT, gsC, gsN, kB.eq_1, kT.eq_1, kT.eq_2, kT.eq_3, kT.eq_4, kT.eq_5, kT.eq_6, kT.eq_7, kT.eq_8, kAnd.eq_1, kOr.eq_1, kNot.eq_1, kIt.eq_1, kIt.eq_2, kIt.eq_3, kIt.eq_4, kP.eq_1, kR1.eq_1, kR2.eq_1, sAdd.eq_1, sAdd.eq_2, sAdd.eq_3, sAdd.eq_4, sJ2.eq_1, sI2.eq_1, sPow, sLt.eq_1, sLt.eq_2, sLe, sGt, sGe, sMul.eq_1, sMul.eq_2, sMulB.eq_1, sMulB.eq_2, sMulB.eq_3, sLR1.eq_1, sLR2.eq_1, sTR1.eq_1, sTR2.eq_1, sIsBl.eq_1, dZip, kZip.eq_1, dDisp1, dIxW, dLenW, dName, dAppW, dPutW, dMelt, dCallBE, kIxW.eq_1, kLenW.eq_1, dLcW, kIxW_lst, kIxW_tup, kIxW_scr, kIxW_str, kIxW_dK, kIxW_dT, kLenW_lst, kLenW_tup, kLenW_scr, kLenW_str, kNm_f, kNm_t, kName, isL.eq_1, isL.eq_2, sNeg.eq_1, sLen.eq_1, sLen.eq_2, sLen.eq_3, sLen.eq_4, sLen.eq_5, sAbs.eq_1, sMax, sMin, sInt.eq_1, sInt.eq_2, sStr.eq_1, sList.eq_1, sList.eq_2, sList.eq_3, sTuple.eq_1, sTuple.eq_2, sTuple.eq_3, sIsN, sNotN, sIx.eq_1, sIx.eq_2, sIx.eq_3, sIx.eq_4, sIx.eq_5, sIx.eq_6, sIx.eq_7, sSl.eq_1, sSl.eq_2, sSl.eq_3, sSl.eq_4, sRev.eq_1, sRev.eq_2, sRev.eq_3, sAddI.eq_1, sAddI.eq_2, sPut.eq_1, sPut.eq_2, sPut.eq_3, sPut.eq_4, D.isNon, sEq_ii, sNe_ii, sEq_ww, sNe_ww, sEq_ll, sNe_ll, sIsi_ii, sIsi_ib, sIsi_ll, sIsi_tt, sIsi_ss, sEq_w, sEq_i, sEq_lw, sEq_lw', sEq_lle, sEq_lle', sNe_w, sNe_i, sNe_lle', sNe_lw', sEq_ss, sNe_ss, sEq_bb, sNe_bb, sIn_iw, sIn_ii, sIn_wl, sIn_wl', sSl3.eq_1, sSl3.eq_2, dSl3, isS.eq_1, isL.eq_1, isL.eq_2, isA.eq_1, dM0, dM1, sUpper.eq_1, sLower.eq_1, sStrip1.eq_1, sSfind.eq_1, sScount.eq_1, sSindex.eq_1, sSsplit.eq_1, sSjoin.eq_1, sSjoin.eq_2, fPop_snoc, fPop_snoc', startD, wipeD, List.map_cons, List.map_nil, List.length_cons, List.length_nil, List.length_map, List.cons_append, List.nil_append, List.replicate, List.set_cons_zero, List.set_cons_succ, List.set_nil, List.getElem?_cons_zero, List.getElem?_cons_succ, Bool.true_and, Bool.and_true, Bool.and_false, Bool.false_and, Bool.not_true, Bool.not_false, if_true, if_false, Bool.false_eq_true, reduceIte, and_true, true_and, decide_true, decide_false, not_true, Nat.zero_le, Nat.zero_add, Nat.reduceAdd, Nat.reduceSub, D.scal, Option.some.injEq, exists_eq_left', exists_eq_left, exists_eq', D.int.injEq, D.lst.injEq, D.tup.injEq, D.scr.injEq, D.str.injEq, List.cons.injEq, and_self]
  exact q come tab tp

theorem tp_gt {p : Nat} {ts : List (List Nat)} {come : List Nat} {tab : List (List Nat)} (tp : Tp p ts come tab) (hp : p ≤ 300) (hl : ts.length ≤ 40) : GT come.length ts.length tab := by
  have h0 := (List.getElem?_eq_some_iff.mp tp.c0).1
  have hcl : come.length ≤ p := by
    have := nodup_len (m := List.range p) tp.nd fun x hx => List.mem_range.mpr (tp.lt x hx)
    simpa using this
  refine ⟨tp.len, by omega, by omega, by omega, fun r hr => ?_, tp.reach⟩
  obtain ⟨i, hi⟩ := List.mem_iff_getElem?.mp hr
  have hil := (List.getElem?_eq_some_iff.mp hi).1
  have hil2 : i < come.length := by rw [← tp.len]; exact hil
  obtain ⟨r', hr', h1, h2⟩ := tp.row i _ (List.getElem?_eq_getElem hil2)
  rw [hi] at hr'
  cases hr'
  refine ⟨h1, fun x hx => ?_⟩
  obtain ⟨k, hk, e⟩ := List.mem_iff_getElem.mp hx
  have := h2 k (by rw [← h1]; exact hk)
  have e2 : ap r k = x := by unfold ap; rw [List.getElem?_eq_getElem hk, e]; rfl
  rw [e2] at this
  exact (List.getElem?_eq_some_iff.mp this).1
theorem tp_lead {p : Nat} {ts : List (List Nat)} {come : List Nat} {tab : List (List Nat)} (tp : Tp p ts come tab) (tns : Tns p ts) : ∀ {w : List Int} {i x : Nat}, come[i]? = some x → StT ts.length w → come[lead tab i w]? = some (w.foldl (fun x s => ap (tn ts s) x) x)
  | [], _, _, h, _ => h
  | s :: w, i, x, h, hw => by
    have hs := hw s List.mem_cons_self
    obtain ⟨r, hr, _, ok⟩ := tp.row i x h
    have := ok (spot s) (by unfold spot; split <;> omega)
    rw [tk_spot] at this
    show come[lead tab (ap ((tab[i]?).getD []) (spot s)) w]? = some (w.foldl (fun x s => ap (tn ts s) x) (ap (tn ts s) x))
    rw [hr]
    exact tp_lead tp tns (w := w) this fun y hy => hw y (List.mem_cons_of_mem _ hy)
theorem fold_back {p : Nat} {ts : List (List Nat)} (tns : Tns p ts) : ∀ {w : List Int} {x : Nat}, x < p → StT ts.length w → (w ++ backOf w).foldl (fun x s => ap (tn ts s) x) x = x
  | [], _, _, _ => rfl
  | s :: w, x, hx, hw => by
    have hs := hw s List.mem_cons_self
    have e : s :: w ++ backOf (s :: w) = s :: ((w ++ backOf w) ++ [-s]) := by simp [backOf]
    rw [e, List.foldl_cons, List.foldl_append, fold_back tns (ap_lt (tn_pm tns hs) hx) fun y hy => hw y (List.mem_cons_of_mem _ hy)]
    exact (tn_neg tns hs).2 x hx
theorem lead_back {p : Nat} {ts : List (List Nat)} {come : List Nat} {tab : List (List Nat)} (tp : Tp p ts come tab) (tns : Tns p ts) {w : List Int} (hw : StT ts.length w) {i : Nat} (hi : i < come.length) : lead tab i (w ++ backOf w) = i := by
  have hx := List.getElem?_eq_getElem hi
  have hst : StT ts.length (w ++ backOf w) := fun y hy => by
    rcases List.mem_append.mp hy with h | h
    · exact hw y h
    · exact st_back hw y h
  have := tp_lead tp tns hx hst
  rw [fold_back tns (tp.lt _ (List.getElem_mem hi)) hw] at this
  exact nodup_same tp.nd this hx
theorem sEq_tab (a b : List (List Nat)) (P : Bool → D → Prop) : sEq (.lst (a.map nL)) (.lst (b.map nL)) P = P false (.bl (decide (a = b))) := codnL.lst.toCodec.sEq (by decide) a b P
theorem sNe_tab (a b : List (List Nat)) (P : Bool → D → Prop) : sNe (.lst (a.map nL)) (.lst (b.map nL)) P = P false (.bl (!decide (a = b))) := codnL.lst.toCodec.sNe (by decide) a b P

def T_Ldrawn : DSp W_ := fun ds w P => ∃ ns : List Int, ds = [.scr ns] ∧ w = noMem ∧ ns.length ≤ 63 ∧ ∀ (p : Nat) (ts : List (List Nat)) (come : List Nat) (tab : List (List Nat)), Tns p ts → 1 ≤ ts.length → ts.length ≤ 40 → p ≤ 120 → Tp p ts come tab → P false (.lst (tab.map nL)) noMem
theorem len_Ldrawn (ds : List D) (w : W_.Om) (P : Bool → D → W_.Om → Prop) (h : T_Ldrawn ds w P) : ds.length = 1 := by first | (have h := h.1; subst h; rfl) | (obtain ⟨rfl, _⟩ := h; rfl) | (obtain ⟨_, rfl, _⟩ := h; rfl) | (obtain ⟨_, _, rfl, _⟩ := h; rfl) | (obtain ⟨_, _, _, rfl, _⟩ := h; rfl) | (obtain ⟨_, _, _, _, rfl, _⟩ := h; rfl) | (obtain ⟨_, _, _, _, _, rfl, _⟩ := h; rfl) | (obtain ⟨_, _, _, _, _, _, rfl, _⟩ := h; rfl) | (obtain ⟨_, _, _, _, _, _, _, rfl, _⟩ := h; rfl) | (obtain ⟨_, _, _, _, _, _, _, _, rfl, _⟩ := h; rfl) | (obtain ⟨_, _, _, _, _, _, _, _, _, rfl, _⟩ := h; rfl) | (obtain ⟨_, _, _, _, _, _, _, _, _, _, rfl, _⟩ := h; rfl) | (obtain ⟨_, _, _, _, _, _, _, _, _, _, _, rfl, _⟩ := h; rfl)
def b_Ldrawn : DS W_ := (dSeq (dSet false 1 (dCall T_Lmix (dCons (dCall T_Lat (dCons (dVar 0) (dCons (dC (.int 0)) dNil))) (dCons (dC (.int 0)) dNil))))
    (dSeq (dSet false 2 (dBin sAdd (oX (dC (.int 1))) (oX (dBin sMod (oX (dBin sFdiv (dVarR 1) (oX (dC (.int 192))))) (oX (dC (.int 12)))))))
    (dSeq (dSet false 3 (dBin sAdd (oX (dC (.int 1))) (oX (dBin sMod (oX (dBin sFdiv (dVarR 1) (oX (dC (.int 4))))) (oX (dC (.int 3)))))))
    (dSeq (dIf (dB (dBin sEq (oX (dBin sMod (oX (dBin sFdiv (dVarR 1) (oX (dC (.int 12))))) (oX (dC (.int 16))))) (oX (dC (.int 0))))) (dSet false 2 (dBin sAdd (oX (dC (.int 1))) (oX (dBin sMod (oX (dBin sFdiv (dVarR 1) (oX (dC (.int 192))))) (oX (dC (.int 120))))))) dNext)
    (dSeq (dIf (dB (dBin sEq (oX (dBin sMod (oX (dBin sFdiv (dVarR 1) (oX (dC (.int 12))))) (oX (dC (.int 16))))) (oX (dC (.int 1))))) (dSet false 2 (dBin sAdd (oX (dC (.int 1))) (oX (dBin sMod (oX (dBin sFdiv (dVarR 1) (oX (dC (.int 192))))) (oX (dC (.int 60))))))) dNext)
    (dSeq (dIf (dB (dBin sEq (oX (dBin sMod (oX (dBin sFdiv (dVarR 1) (oX (dC (.int 12))))) (oX (dC (.int 16))))) (oX (dC (.int 2))))) (dSet false 3 (dBin sAdd (oX (dC (.int 1))) (oX (dBin sMod (oX (dBin sFdiv (dVarR 1) (oX (dC (.int 192))))) (oX (dC (.int 40))))))) dNext)
    (dRet (dCall T_Ltable (dCons (dCall T_Lturns (dCons (dVar 0) (dCons (dVar 3) (dCons (dVar 2) dNil)))) (dCons (dVar 2) dNil))))))))))
theorem v_Ldrawn (ds : List D) (w : W_.Om) (P : Bool → D → W_.Om → Prop) (h : T_Ldrawn ds w P) : b_Ldrawn { nx := fun _ w => P false .non w, rt := P } (startD ["_law_script", "_law_number", "_law_points", "_law_letters"] ds) w := by
  unfold b_Ldrawn
  obtain ⟨ns, rfl, rfl, hn, q⟩ := h
  refine seq_i ?_
  try simp -implicitDefEqProofs only [dNext, dSet, dLst, dTup, dNil, dCons, dConsO, dFor, dRng1_u, dRng2_u, dIt_u, oX, dC, dBin, dUn, dVarR, dVar, dApp, dExt, dUpd0, dPut, dAug, dRet, dRetV, dRetN, dBreak, dCont, dIf, dB_u, dTru_u, dTNot, dTAnd, dTOr, dAndV_u, dOrV_u, dNotV_u, dIfX, dChain_u, dCall, dCallB, dSl, dNoP, dP_u, dLc, dDrop, dFrz, frzD, dAsg, dDicK, dDicT, gN, gT, gsC, gsN, kB.eq_1, kT.eq_1, kT.eq_2, kT.eq_3, kT.eq_4, kT.eq_5, kT.eq_6, kT.eq_7, kT.eq_8, kAnd.eq_1, kOr.eq_1, kNot.eq_1, kIt.eq_1, kIt.eq_2, kIt.eq_3, kIt.eq_4, kP.eq_1, kR1.eq_1, kR2.eq_1, sAdd.eq_1, sAdd.eq_2, sAdd.eq_3, sAdd.eq_4, sJ2.eq_1, sI2.eq_1, sPow, sLt.eq_1, sLt.eq_2, sLe, sGt, sGe, sMul.eq_1, sMul.eq_2, sMulB.eq_1, sMulB.eq_2, sMulB.eq_3, sLR1.eq_1, sLR2.eq_1, sTR1.eq_1, sTR2.eq_1, sIsBl.eq_1, dZip, kZip.eq_1, dDisp1, dIxW, dLenW, dName, dAppW, dPutW, dMelt, dCallBE, kIxW.eq_1, kLenW.eq_1, dLcW, kIxW_lst, kIxW_tup, kIxW_scr, kIxW_str, kIxW_dK, kIxW_dT, kLenW_lst, kLenW_tup, kLenW_scr, kLenW_str, kNm_f, kNm_t, kName, isL.eq_1, isL.eq_2, sNeg.eq_1, sLen.eq_1, sLen.eq_2, sLen.eq_3, sLen.eq_4, sLen.eq_5, sAbs.eq_1, sMax, sMin, sInt.eq_1, sInt.eq_2, sStr.eq_1, sList.eq_1, sList.eq_2, sList.eq_3, sTuple.eq_1, sTuple.eq_2, sTuple.eq_3, sIsN, sNotN, sIx.eq_1, sIx.eq_2, sIx.eq_3, sIx.eq_4, sIx.eq_5, sIx.eq_6, sIx.eq_7, sSl.eq_1, sSl.eq_2, sSl.eq_3, sSl.eq_4, sRev.eq_1, sRev.eq_2, sRev.eq_3, sAddI.eq_1, sAddI.eq_2, sPut.eq_1, sPut.eq_2, sPut.eq_3, sPut.eq_4, D.isNon, sEq_ii, sNe_ii, sEq_ww, sNe_ww, sEq_ll, sNe_ll, sIsi_ii, sIsi_ib, sIsi_ll, sIsi_tt, sIsi_ss, sEq_w, sEq_i, sEq_lw, sEq_lw', sEq_lle, sEq_lle', sNe_w, sNe_i, sNe_lle', sNe_lw', sEq_ss, sNe_ss, sEq_bb, sNe_bb, sIn_iw, sIn_ii, sIn_wl, sIn_wl', sSl3.eq_1, sSl3.eq_2, dSl3, isS.eq_1, isL.eq_1, isL.eq_2, isA.eq_1, dM0, dM1, sUpper.eq_1, sLower.eq_1, sStrip1.eq_1, sSfind.eq_1, sScount.eq_1, sSindex.eq_1, sSsplit.eq_1, sSjoin.eq_1, sSjoin.eq_2, fPop_snoc, fPop_snoc', startD, wipeD, List.map_cons, List.map_nil, List.length_cons, List.length_nil, List.length_map, List.cons_append, List.nil_append, List.replicate, List.set_cons_zero, List.set_cons_succ, List.set_nil, List.getElem?_cons_zero, List.getElem?_cons_succ, Bool.true_and, Bool.and_true, Bool.and_false, Bool.false_and, Bool.not_true, Bool.not_false, if_true, if_false, Bool.false_eq_true, reduceIte, and_true, true_and, decide_true, decide_false, not_true, Nat.zero_le, Nat.zero_add, Nat.reduceAdd, Nat.reduceSub, D.scal]
  refine ⟨ns, 0, rfl, by omega, by omega, fun x => ?_⟩
  refine ⟨x, 0, rfl, by omega, by omega, fun n => ?_⟩
  refine seq_i ?_
  try simp -implicitDefEqProofs only [dNext, dSet, dLst, dTup, dNil, dCons, dConsO, dFor, dRng1_u, dRng2_u, dIt_u, oX, dC, dBin, dUn, dVarR, dVar, dApp, dExt, dUpd0, dPut, dAug, dRet, dRetV, dRetN, dBreak, dCont, dIf, dB_u, dTru_u, dTNot, dTAnd, dTOr, dAndV_u, dOrV_u, dNotV_u, dIfX, dChain_u, dCall, dCallB, dSl, dNoP, dP_u, dLc, dDrop, dFrz, frzD, dAsg, dDicK, dDicT, gN, gT, gsC, gsN, kB.eq_1, kT.eq_1, kT.eq_2, kT.eq_3, kT.eq_4, kT.eq_5, kT.eq_6, kT.eq_7, kT.eq_8, kAnd.eq_1, kOr.eq_1, kNot.eq_1, kIt.eq_1, kIt.eq_2, kIt.eq_3, kIt.eq_4, kP.eq_1, kR1.eq_1, kR2.eq_1, sAdd.eq_1, sAdd.eq_2, sAdd.eq_3, sAdd.eq_4, sJ2.eq_1, sI2.eq_1, sPow, sLt.eq_1, sLt.eq_2, sLe, sGt, sGe, sMul.eq_1, sMul.eq_2, sMulB.eq_1, sMulB.eq_2, sMulB.eq_3, sLR1.eq_1, sLR2.eq_1, sTR1.eq_1, sTR2.eq_1, sIsBl.eq_1, dZip, kZip.eq_1, dDisp1, dIxW, dLenW, dName, dAppW, dPutW, dMelt, dCallBE, kIxW.eq_1, kLenW.eq_1, dLcW, kIxW_lst, kIxW_tup, kIxW_scr, kIxW_str, kIxW_dK, kIxW_dT, kLenW_lst, kLenW_tup, kLenW_scr, kLenW_str, kNm_f, kNm_t, kName, isL.eq_1, isL.eq_2, sNeg.eq_1, sLen.eq_1, sLen.eq_2, sLen.eq_3, sLen.eq_4, sLen.eq_5, sAbs.eq_1, sMax, sMin, sInt.eq_1, sInt.eq_2, sStr.eq_1, sList.eq_1, sList.eq_2, sList.eq_3, sTuple.eq_1, sTuple.eq_2, sTuple.eq_3, sIsN, sNotN, sIx.eq_1, sIx.eq_2, sIx.eq_3, sIx.eq_4, sIx.eq_5, sIx.eq_6, sIx.eq_7, sSl.eq_1, sSl.eq_2, sSl.eq_3, sSl.eq_4, sRev.eq_1, sRev.eq_2, sRev.eq_3, sAddI.eq_1, sAddI.eq_2, sPut.eq_1, sPut.eq_2, sPut.eq_3, sPut.eq_4, D.isNon, sEq_ii, sNe_ii, sEq_ww, sNe_ww, sEq_ll, sNe_ll, sIsi_ii, sIsi_ib, sIsi_ll, sIsi_tt, sIsi_ss, sEq_w, sEq_i, sEq_lw, sEq_lw', sEq_lle, sEq_lle', sNe_w, sNe_i, sNe_lle', sNe_lw', sEq_ss, sNe_ss, sEq_bb, sNe_bb, sIn_iw, sIn_ii, sIn_wl, sIn_wl', sSl3.eq_1, sSl3.eq_2, dSl3, isS.eq_1, isL.eq_1, isL.eq_2, isA.eq_1, dM0, dM1, sUpper.eq_1, sLower.eq_1, sStrip1.eq_1, sSfind.eq_1, sScount.eq_1, sSindex.eq_1, sSsplit.eq_1, sSjoin.eq_1, sSjoin.eq_2, fPop_snoc, fPop_snoc', startD, wipeD, List.map_cons, List.map_nil, List.length_cons, List.length_nil, List.length_map, List.cons_append, List.nil_append, List.replicate, List.set_cons_zero, List.set_cons_succ, List.set_nil, List.getElem?_cons_zero, List.getElem?_cons_succ, Bool.true_and, Bool.and_true, Bool.and_false, Bool.false_and, Bool.not_true, Bool.not_false, if_true, if_false, Bool.false_eq_true, reduceIte, and_true, true_and, decide_true, decide_false, not_true, Nat.zero_le, Nat.zero_add, Nat.reduceAdd, Nat.reduceSub, D.scal]
  have b1 := mod_bd (n / 192) (j := 12) (by omega)
  have b2 := mod_bd (n / 4) (j := 3) (by omega)
  have b3 := mod_bd (n / 192) (j := 120) (by omega)
  have b4 := mod_bd (n / 192) (j := 60) (by omega)
  have b5 := mod_bd (n / 192) (j := 40) (by omega)
  refine ⟨divC (by omega) (by omega), by omega, ?_⟩
  refine seq_i ?_
  try simp -implicitDefEqProofs only [dNext, dSet, dLst, dTup, dNil, dCons, dConsO, dFor, dRng1_u, dRng2_u, dIt_u, oX, dC, dBin, dUn, dVarR, dVar, dApp, dExt, dUpd0, dPut, dAug, dRet, dRetV, dRetN, dBreak, dCont, dIf, dB_u, dTru_u, dTNot, dTAnd, dTOr, dAndV_u, dOrV_u, dNotV_u, dIfX, dChain_u, dCall, dCallB, dSl, dNoP, dP_u, dLc, dDrop, dFrz, frzD, dAsg, dDicK, dDicT, gN, gT, gsC, gsN, kB.eq_1, kT.eq_1, kT.eq_2, kT.eq_3, kT.eq_4, kT.eq_5, kT.eq_6, kT.eq_7, kT.eq_8, kAnd.eq_1, kOr.eq_1, kNot.eq_1, kIt.eq_1, kIt.eq_2, kIt.eq_3, kIt.eq_4, kP.eq_1, kR1.eq_1, kR2.eq_1, sAdd.eq_1, sAdd.eq_2, sAdd.eq_3, sAdd.eq_4, sJ2.eq_1, sI2.eq_1, sPow, sLt.eq_1, sLt.eq_2, sLe, sGt, sGe, sMul.eq_1, sMul.eq_2, sMulB.eq_1, sMulB.eq_2, sMulB.eq_3, sLR1.eq_1, sLR2.eq_1, sTR1.eq_1, sTR2.eq_1, sIsBl.eq_1, dZip, kZip.eq_1, dDisp1, dIxW, dLenW, dName, dAppW, dPutW, dMelt, dCallBE, kIxW.eq_1, kLenW.eq_1, dLcW, kIxW_lst, kIxW_tup, kIxW_scr, kIxW_str, kIxW_dK, kIxW_dT, kLenW_lst, kLenW_tup, kLenW_scr, kLenW_str, kNm_f, kNm_t, kName, isL.eq_1, isL.eq_2, sNeg.eq_1, sLen.eq_1, sLen.eq_2, sLen.eq_3, sLen.eq_4, sLen.eq_5, sAbs.eq_1, sMax, sMin, sInt.eq_1, sInt.eq_2, sStr.eq_1, sList.eq_1, sList.eq_2, sList.eq_3, sTuple.eq_1, sTuple.eq_2, sTuple.eq_3, sIsN, sNotN, sIx.eq_1, sIx.eq_2, sIx.eq_3, sIx.eq_4, sIx.eq_5, sIx.eq_6, sIx.eq_7, sSl.eq_1, sSl.eq_2, sSl.eq_3, sSl.eq_4, sRev.eq_1, sRev.eq_2, sRev.eq_3, sAddI.eq_1, sAddI.eq_2, sPut.eq_1, sPut.eq_2, sPut.eq_3, sPut.eq_4, D.isNon, sEq_ii, sNe_ii, sEq_ww, sNe_ww, sEq_ll, sNe_ll, sIsi_ii, sIsi_ib, sIsi_ll, sIsi_tt, sIsi_ss, sEq_w, sEq_i, sEq_lw, sEq_lw', sEq_lle, sEq_lle', sNe_w, sNe_i, sNe_lle', sNe_lw', sEq_ss, sNe_ss, sEq_bb, sNe_bb, sIn_iw, sIn_ii, sIn_wl, sIn_wl', sSl3.eq_1, sSl3.eq_2, dSl3, isS.eq_1, isL.eq_1, isL.eq_2, isA.eq_1, dM0, dM1, sUpper.eq_1, sLower.eq_1, sStrip1.eq_1, sSfind.eq_1, sScount.eq_1, sSindex.eq_1, sSsplit.eq_1, sSjoin.eq_1, sSjoin.eq_2, fPop_snoc, fPop_snoc', startD, wipeD, List.map_cons, List.map_nil, List.length_cons, List.length_nil, List.length_map, List.cons_append, List.nil_append, List.replicate, List.set_cons_zero, List.set_cons_succ, List.set_nil, List.getElem?_cons_zero, List.getElem?_cons_succ, Bool.true_and, Bool.and_true, Bool.and_false, Bool.false_and, Bool.not_true, Bool.not_false, if_true, if_false, Bool.false_eq_true, reduceIte, and_true, true_and, decide_true, decide_false, not_true, Nat.zero_le, Nat.zero_add, Nat.reduceAdd, Nat.reduceSub, D.scal]
  refine ⟨divC (by omega) (by omega), by omega, ?_⟩
  refine seq_cut (fun δ w => w = noMem ∧ ∃ p l : Nat, 1 ≤ p ∧ p ≤ 120 ∧ 1 ≤ l ∧ l ≤ 40 ∧ δ = [some (false, .scr ns), some (false, .int n), some (false, .int p), some (false, .int l)]) (fun N h => ?_) ?_
  · try simp -implicitDefEqProofs only [dNext, dSet, dLst, dTup, dNil, dCons, dConsO, dFor, dRng1_u, dRng2_u, dIt_u, oX, dC, dBin, dUn, dVarR, dVar, dApp, dExt, dUpd0, dPut, dAug, dRet, dRetV, dRetN, dBreak, dCont, dIf, dB_u, dTru_u, dTNot, dTAnd, dTOr, dAndV_u, dOrV_u, dNotV_u, dIfX, dChain_u, dCall, dCallB, dSl, dNoP, dP_u, dLc, dDrop, dFrz, frzD, dAsg, dDicK, dDicT, gN, gT, gsC, gsN, kB.eq_1, kT.eq_1, kT.eq_2, kT.eq_3, kT.eq_4, kT.eq_5, kT.eq_6, kT.eq_7, kT.eq_8, kAnd.eq_1, kOr.eq_1, kNot.eq_1, kIt.eq_1, kIt.eq_2, kIt.eq_3, kIt.eq_4, kP.eq_1, kR1.eq_1, kR2.eq_1, sAdd.eq_1, sAdd.eq_2, sAdd.eq_3, sAdd.eq_4, sJ2.eq_1, sI2.eq_1, sPow, sLt.eq_1, sLt.eq_2, sLe, sGt, sGe, sMul.eq_1, sMul.eq_2, sMulB.eq_1, sMulB.eq_2, sMulB.eq_3, sLR1.eq_1, sLR2.eq_1, sTR1.eq_1, sTR2.eq_1, sIsBl.eq_1, dZip, kZip.eq_1, dDisp1, dIxW, dLenW, dName, dAppW, dPutW, dMelt, dCallBE, kIxW.eq_1, kLenW.eq_1, dLcW, kIxW_lst, kIxW_tup, kIxW_scr, kIxW_str, kIxW_dK, kIxW_dT, kLenW_lst, kLenW_tup, kLenW_scr, kLenW_str, kNm_f, kNm_t, kName, isL.eq_1, isL.eq_2, sNeg.eq_1, sLen.eq_1, sLen.eq_2, sLen.eq_3, sLen.eq_4, sLen.eq_5, sAbs.eq_1, sMax, sMin, sInt.eq_1, sInt.eq_2, sStr.eq_1, sList.eq_1, sList.eq_2, sList.eq_3, sTuple.eq_1, sTuple.eq_2, sTuple.eq_3, sIsN, sNotN, sIx.eq_1, sIx.eq_2, sIx.eq_3, sIx.eq_4, sIx.eq_5, sIx.eq_6, sIx.eq_7, sSl.eq_1, sSl.eq_2, sSl.eq_3, sSl.eq_4, sRev.eq_1, sRev.eq_2, sRev.eq_3, sAddI.eq_1, sAddI.eq_2, sPut.eq_1, sPut.eq_2, sPut.eq_3, sPut.eq_4, D.isNon, sEq_ii, sNe_ii, sEq_ww, sNe_ww, sEq_ll, sNe_ll, sIsi_ii, sIsi_ib, sIsi_ll, sIsi_tt, sIsi_ss, sEq_w, sEq_i, sEq_lw, sEq_lw', sEq_lle, sEq_lle', sNe_w, sNe_i, sNe_lle', sNe_lw', sEq_ss, sNe_ss, sEq_bb, sNe_bb, sIn_iw, sIn_ii, sIn_wl, sIn_wl', sSl3.eq_1, sSl3.eq_2, dSl3, isS.eq_1, isL.eq_1, isL.eq_2, isA.eq_1, dM0, dM1, sUpper.eq_1, sLower.eq_1, sStrip1.eq_1, sSfind.eq_1, sScount.eq_1, sSindex.eq_1, sSsplit.eq_1, sSjoin.eq_1, sSjoin.eq_2, fPop_snoc, fPop_snoc', startD, wipeD, List.map_cons, List.map_nil, List.length_cons, List.length_nil, List.length_map, List.cons_append, List.nil_append, List.replicate, List.set_cons_zero, List.set_cons_succ, List.set_nil, List.getElem?_cons_zero, List.getElem?_cons_succ, Bool.true_and, Bool.and_true, Bool.and_false, Bool.false_and, Bool.not_true, Bool.not_false, if_true, if_false, Bool.false_eq_true, reduceIte, and_true, true_and, decide_true, decide_false, not_true, Nat.zero_le, Nat.zero_add, Nat.reduceAdd, Nat.reduceSub, D.scal, Option.some.injEq, exists_eq_left', exists_eq_left, exists_eq', D.int.injEq, D.lst.injEq, D.tup.injEq, D.scr.injEq, D.str.injEq, List.cons.injEq, and_self]
    refine ⟨divC (by omega) (by omega), by omega, if_join (fun _ => ?_) (fun _ => ?_)⟩
    · exact ⟨divC (by omega) (by omega), by omega, h _ _ ⟨rfl, (1 + n / 192 % 120).toNat, (1 + n / 4 % 3).toNat, by omega, by omega, by omega, by omega, by rw [Int.toNat_of_nonneg (by omega), Int.toNat_of_nonneg (by omega)]⟩⟩
    · exact h _ _ ⟨rfl, (1 + n / 192 % 12).toNat, (1 + n / 4 % 3).toNat, by omega, by omega, by omega, by omega, by rw [Int.toNat_of_nonneg (by omega), Int.toNat_of_nonneg (by omega)]⟩
  rintro δ w ⟨rfl, p, l, hp1, hp2, hl1, hl2, rfl⟩
  refine seq_cut (fun δ w => w = noMem ∧ ∃ p l : Nat, 1 ≤ p ∧ p ≤ 120 ∧ 1 ≤ l ∧ l ≤ 40 ∧ δ = [some (false, .scr ns), some (false, .int n), some (false, .int p), some (false, .int l)]) (fun N h => ?_) ?_
  · try simp -implicitDefEqProofs only [dNext, dSet, dLst, dTup, dNil, dCons, dConsO, dFor, dRng1_u, dRng2_u, dIt_u, oX, dC, dBin, dUn, dVarR, dVar, dApp, dExt, dUpd0, dPut, dAug, dRet, dRetV, dRetN, dBreak, dCont, dIf, dB_u, dTru_u, dTNot, dTAnd, dTOr, dAndV_u, dOrV_u, dNotV_u, dIfX, dChain_u, dCall, dCallB, dSl, dNoP, dP_u, dLc, dDrop, dFrz, frzD, dAsg, dDicK, dDicT, gN, gT, gsC, gsN, kB.eq_1, kT.eq_1, kT.eq_2, kT.eq_3, kT.eq_4, kT.eq_5, kT.eq_6, kT.eq_7, kT.eq_8, kAnd.eq_1, kOr.eq_1, kNot.eq_1, kIt.eq_1, kIt.eq_2, kIt.eq_3, kIt.eq_4, kP.eq_1, kR1.eq_1, kR2.eq_1, sAdd.eq_1, sAdd.eq_2, sAdd.eq_3, sAdd.eq_4, sJ2.eq_1, sI2.eq_1, sPow, sLt.eq_1, sLt.eq_2, sLe, sGt, sGe, sMul.eq_1, sMul.eq_2, sMulB.eq_1, sMulB.eq_2, sMulB.eq_3, sLR1.eq_1, sLR2.eq_1, sTR1.eq_1, sTR2.eq_1, sIsBl.eq_1, dZip, kZip.eq_1, dDisp1, dIxW, dLenW, dName, dAppW, dPutW, dMelt, dCallBE, kIxW.eq_1, kLenW.eq_1, dLcW, kIxW_lst, kIxW_tup, kIxW_scr, kIxW_str, kIxW_dK, kIxW_dT, kLenW_lst, kLenW_tup, kLenW_scr, kLenW_str, kNm_f, kNm_t, kName, isL.eq_1, isL.eq_2, sNeg.eq_1, sLen.eq_1, sLen.eq_2, sLen.eq_3, sLen.eq_4, sLen.eq_5, sAbs.eq_1, sMax, sMin, sInt.eq_1, sInt.eq_2, sStr.eq_1, sList.eq_1, sList.eq_2, sList.eq_3, sTuple.eq_1, sTuple.eq_2, sTuple.eq_3, sIsN, sNotN, sIx.eq_1, sIx.eq_2, sIx.eq_3, sIx.eq_4, sIx.eq_5, sIx.eq_6, sIx.eq_7, sSl.eq_1, sSl.eq_2, sSl.eq_3, sSl.eq_4, sRev.eq_1, sRev.eq_2, sRev.eq_3, sAddI.eq_1, sAddI.eq_2, sPut.eq_1, sPut.eq_2, sPut.eq_3, sPut.eq_4, D.isNon, sEq_ii, sNe_ii, sEq_ww, sNe_ww, sEq_ll, sNe_ll, sIsi_ii, sIsi_ib, sIsi_ll, sIsi_tt, sIsi_ss, sEq_w, sEq_i, sEq_lw, sEq_lw', sEq_lle, sEq_lle', sNe_w, sNe_i, sNe_lle', sNe_lw', sEq_ss, sNe_ss, sEq_bb, sNe_bb, sIn_iw, sIn_ii, sIn_wl, sIn_wl', sSl3.eq_1, sSl3.eq_2, dSl3, isS.eq_1, isL.eq_1, isL.eq_2, isA.eq_1, dM0, dM1, sUpper.eq_1, sLower.eq_1, sStrip1.eq_1, sSfind.eq_1, sScount.eq_1, sSindex.eq_1, sSsplit.eq_1, sSjoin.eq_1, sSjoin.eq_2, fPop_snoc, fPop_snoc', startD, wipeD, List.map_cons, List.map_nil, List.length_cons, List.length_nil, List.length_map, List.cons_append, List.nil_append, List.replicate, List.set_cons_zero, List.set_cons_succ, List.set_nil, List.getElem?_cons_zero, List.getElem?_cons_succ, Bool.true_and, Bool.and_true, Bool.and_false, Bool.false_and, Bool.not_true, Bool.not_false, if_true, if_false, Bool.false_eq_true, reduceIte, and_true, true_and, decide_true, decide_false, not_true, Nat.zero_le, Nat.zero_add, Nat.reduceAdd, Nat.reduceSub, D.scal, Option.some.injEq, exists_eq_left', exists_eq_left, exists_eq', D.int.injEq, D.lst.injEq, D.tup.injEq, D.scr.injEq, D.str.injEq, List.cons.injEq, and_self]
    refine ⟨divC (by omega) (by omega), by omega, if_join (fun _ => ?_) (fun _ => h _ _ ⟨rfl, p, l, hp1, hp2, hl1, hl2, rfl⟩)⟩
    exact ⟨divC (by omega) (by omega), by omega, h _ _ ⟨rfl, (1 + n / 192 % 60).toNat, l, by omega, by omega, by omega, by omega, by rw [Int.toNat_of_nonneg (by omega)]⟩⟩
  clear hp1 hp2 hl1 hl2
  rintro δ w ⟨rfl, p, l, hp1, hp2, hl1, hl2, rfl⟩
  refine seq_cut (fun δ w => w = noMem ∧ ∃ p l : Nat, 1 ≤ p ∧ p ≤ 120 ∧ 1 ≤ l ∧ l ≤ 40 ∧ δ = [some (false, .scr ns), some (false, .int n), some (false, .int p), some (false, .int l)]) (fun N h => ?_) ?_
  · try simp -implicitDefEqProofs only [dNext, dSet, dLst, dTup, dNil, dCons, dConsO, dFor, dRng1_u, dRng2_u, dIt_u, oX, dC, dBin, dUn, dVarR, dVar, dApp, dExt, dUpd0, dPut, dAug, dRet, dRetV, dRetN, dBreak, dCont, dIf, dB_u, dTru_u, dTNot, dTAnd, dTOr, dAndV_u, dOrV_u, dNotV_u, dIfX, dChain_u, dCall, dCallB, dSl, dNoP, dP_u, dLc, dDrop, dFrz, frzD, dAsg, dDicK, dDicT, gN, gT, gsC, gsN, kB.eq_1, kT.eq_1, kT.eq_2, kT.eq_3, kT.eq_4, kT.eq_5, kT.eq_6, kT.eq_7, kT.eq_8, kAnd.eq_1, kOr.eq_1, kNot.eq_1, kIt.eq_1, kIt.eq_2, kIt.eq_3, kIt.eq_4, kP.eq_1, kR1.eq_1, kR2.eq_1, sAdd.eq_1, sAdd.eq_2, sAdd.eq_3, sAdd.eq_4, sJ2.eq_1, sI2.eq_1, sPow, sLt.eq_1, sLt.eq_2, sLe, sGt, sGe, sMul.eq_1, sMul.eq_2, sMulB.eq_1, sMulB.eq_2, sMulB.eq_3, sLR1.eq_1, sLR2.eq_1, sTR1.eq_1, sTR2.eq_1, sIsBl.eq_1, dZip, kZip.eq_1, dDisp1, dIxW, dLenW, dName, dAppW, dPutW, dMelt, dCallBE, kIxW.eq_1, kLenW.eq_1, dLcW, kIxW_lst, kIxW_tup, kIxW_scr, kIxW_str, kIxW_dK, kIxW_dT, kLenW_lst, kLenW_tup, kLenW_scr, kLenW_str, kNm_f, kNm_t, kName, isL.eq_1, isL.eq_2, sNeg.eq_1, sLen.eq_1, sLen.eq_2, sLen.eq_3, sLen.eq_4, sLen.eq_5, sAbs.eq_1, sMax, sMin, sInt.eq_1, sInt.eq_2, sStr.eq_1, sList.eq_1, sList.eq_2, sList.eq_3, sTuple.eq_1, sTuple.eq_2, sTuple.eq_3, sIsN, sNotN, sIx.eq_1, sIx.eq_2, sIx.eq_3, sIx.eq_4, sIx.eq_5, sIx.eq_6, sIx.eq_7, sSl.eq_1, sSl.eq_2, sSl.eq_3, sSl.eq_4, sRev.eq_1, sRev.eq_2, sRev.eq_3, sAddI.eq_1, sAddI.eq_2, sPut.eq_1, sPut.eq_2, sPut.eq_3, sPut.eq_4, D.isNon, sEq_ii, sNe_ii, sEq_ww, sNe_ww, sEq_ll, sNe_ll, sIsi_ii, sIsi_ib, sIsi_ll, sIsi_tt, sIsi_ss, sEq_w, sEq_i, sEq_lw, sEq_lw', sEq_lle, sEq_lle', sNe_w, sNe_i, sNe_lle', sNe_lw', sEq_ss, sNe_ss, sEq_bb, sNe_bb, sIn_iw, sIn_ii, sIn_wl, sIn_wl', sSl3.eq_1, sSl3.eq_2, dSl3, isS.eq_1, isL.eq_1, isL.eq_2, isA.eq_1, dM0, dM1, sUpper.eq_1, sLower.eq_1, sStrip1.eq_1, sSfind.eq_1, sScount.eq_1, sSindex.eq_1, sSsplit.eq_1, sSjoin.eq_1, sSjoin.eq_2, fPop_snoc, fPop_snoc', startD, wipeD, List.map_cons, List.map_nil, List.length_cons, List.length_nil, List.length_map, List.cons_append, List.nil_append, List.replicate, List.set_cons_zero, List.set_cons_succ, List.set_nil, List.getElem?_cons_zero, List.getElem?_cons_succ, Bool.true_and, Bool.and_true, Bool.and_false, Bool.false_and, Bool.not_true, Bool.not_false, if_true, if_false, Bool.false_eq_true, reduceIte, and_true, true_and, decide_true, decide_false, not_true, Nat.zero_le, Nat.zero_add, Nat.reduceAdd, Nat.reduceSub, D.scal, Option.some.injEq, exists_eq_left', exists_eq_left, exists_eq', D.int.injEq, D.lst.injEq, D.tup.injEq, D.scr.injEq, D.str.injEq, List.cons.injEq, and_self]
    refine ⟨divC (by omega) (by omega), by omega, if_join (fun _ => ?_) (fun _ => h _ _ ⟨rfl, p, l, hp1, hp2, hl1, hl2, rfl⟩)⟩
    exact ⟨divC (by omega) (by omega), by omega, h _ _ ⟨rfl, p, (1 + n / 192 % 40).toNat, by omega, by omega, by omega, by omega, by rw [Int.toNat_of_nonneg (by omega)]⟩⟩
  clear hp1 hp2 hl1 hl2
  rintro δ w ⟨rfl, p, l, hp1, hp2, hl1, hl2, rfl⟩
  try simp -implicitDefEqProofs only [dNext, dSet, dLst, dTup, dNil, dCons, dConsO, dFor, dRng1_u, dRng2_u, dIt_u, oX, dC, dBin, dUn, dVarR, dVar, dApp, dExt, dUpd0, dPut, dAug, dRet, dRetV, dRetN, dBreak, dCont, dIf, dB_u, dTru_u, dTNot, dTAnd, dTOr, dAndV_u, dOrV_u, dNotV_u, dIfX, dChain_u, dCall, dCallB, dSl, dNoP, dP_u, dLc, dDrop, dFrz, frzD, dAsg, dDicK, dDicT, gN, gT, gsC, gsN, kB.eq_1, kT.eq_1, kT.eq_2, kT.eq_3, kT.eq_4, kT.eq_5, kT.eq_6, kT.eq_7, kT.eq_8, kAnd.eq_1, kOr.eq_1, kNot.eq_1, kIt.eq_1, kIt.eq_2, kIt.eq_3, kIt.eq_4, kP.eq_1, kR1.eq_1, kR2.eq_1, sAdd.eq_1, sAdd.eq_2, sAdd.eq_3, sAdd.eq_4, sJ2.eq_1, sI2.eq_1, sPow, sLt.eq_1, sLt.eq_2, sLe, sGt, sGe, sMul.eq_1, sMul.eq_2, sMulB.eq_1, sMulB.eq_2, sMulB.eq_3, sLR1.eq_1, sLR2.eq_1, sTR1.eq_1, sTR2.eq_1, sIsBl.eq_1, dZip, kZip.eq_1, dDisp1, dIxW, dLenW, dName, dAppW, dPutW, dMelt, dCallBE, kIxW.eq_1, kLenW.eq_1, dLcW, kIxW_lst, kIxW_tup, kIxW_scr, kIxW_str, kIxW_dK, kIxW_dT, kLenW_lst, kLenW_tup, kLenW_scr, kLenW_str, kNm_f, kNm_t, kName, isL.eq_1, isL.eq_2, sNeg.eq_1, sLen.eq_1, sLen.eq_2, sLen.eq_3, sLen.eq_4, sLen.eq_5, sAbs.eq_1, sMax, sMin, sInt.eq_1, sInt.eq_2, sStr.eq_1, sList.eq_1, sList.eq_2, sList.eq_3, sTuple.eq_1, sTuple.eq_2, sTuple.eq_3, sIsN, sNotN, sIx.eq_1, sIx.eq_2, sIx.eq_3, sIx.eq_4, sIx.eq_5, sIx.eq_6, sIx.eq_7, sSl.eq_1, sSl.eq_2, sSl.eq_3, sSl.eq_4, sRev.eq_1, sRev.eq_2, sRev.eq_3, sAddI.eq_1, sAddI.eq_2, sPut.eq_1, sPut.eq_2, sPut.eq_3, sPut.eq_4, D.isNon, sEq_ii, sNe_ii, sEq_ww, sNe_ww, sEq_ll, sNe_ll, sIsi_ii, sIsi_ib, sIsi_ll, sIsi_tt, sIsi_ss, sEq_w, sEq_i, sEq_lw, sEq_lw', sEq_lle, sEq_lle', sNe_w, sNe_i, sNe_lle', sNe_lw', sEq_ss, sNe_ss, sEq_bb, sNe_bb, sIn_iw, sIn_ii, sIn_wl, sIn_wl', sSl3.eq_1, sSl3.eq_2, dSl3, isS.eq_1, isL.eq_1, isL.eq_2, isA.eq_1, dM0, dM1, sUpper.eq_1, sLower.eq_1, sStrip1.eq_1, sSfind.eq_1, sScount.eq_1, sSindex.eq_1, sSsplit.eq_1, sSjoin.eq_1, sSjoin.eq_2, fPop_snoc, fPop_snoc', startD, wipeD, List.map_cons, List.map_nil, List.length_cons, List.length_nil, List.length_map, List.cons_append, List.nil_append, List.replicate, List.set_cons_zero, List.set_cons_succ, List.set_nil, List.getElem?_cons_zero, List.getElem?_cons_succ, Bool.true_and, Bool.and_true, Bool.and_false, Bool.false_and, Bool.not_true, Bool.not_false, if_true, if_false, Bool.false_eq_true, reduceIte, and_true, true_and, decide_true, decide_false, not_true, Nat.zero_le, Nat.zero_add, Nat.reduceAdd, Nat.reduceSub, D.scal, Option.some.injEq, exists_eq_left', exists_eq_left, exists_eq', D.int.injEq, D.lst.injEq, D.tup.injEq, D.scr.injEq, D.str.injEq, List.cons.injEq, and_self]
  refine ⟨ns, l, p, rfl, rfl, hn, hl1, hl2, hp1, by omega, fun ts htl tns => ?_⟩
  exact ⟨p, ts, rfl, rfl, tns, by omega, by omega, hp1, by omega, fun come tab tp => q p ts come tab tns (by omega) (by omega) hp2 tp⟩

def T_Lwhole : DSp W_ := fun ds w P => ∃ i : Int, ds = [.int i] ∧ P false (.bl true) w
theorem len_Lwhole (ds : List D) (w : W_.Om) (P : Bool → D → W_.Om → Prop) (h : T_Lwhole ds w P) : ds.length = 1 := by first | (have h := h.1; subst h; rfl) | (obtain ⟨rfl, _⟩ := h; rfl) | (obtain ⟨_, rfl, _⟩ := h; rfl) | (obtain ⟨_, _, rfl, _⟩ := h; rfl) | (obtain ⟨_, _, _, rfl, _⟩ := h; rfl) | (obtain ⟨_, _, _, _, rfl, _⟩ := h; rfl) | (obtain ⟨_, _, _, _, _, rfl, _⟩ := h; rfl) | (obtain ⟨_, _, _, _, _, _, rfl, _⟩ := h; rfl) | (obtain ⟨_, _, _, _, _, _, _, rfl, _⟩ := h; rfl) | (obtain ⟨_, _, _, _, _, _, _, _, rfl, _⟩ := h; rfl) | (obtain ⟨_, _, _, _, _, _, _, _, _, rfl, _⟩ := h; rfl) | (obtain ⟨_, _, _, _, _, _, _, _, _, _, rfl, _⟩ := h; rfl) | (obtain ⟨_, _, _, _, _, _, _, _, _, _, _, rfl, _⟩ := h; rfl)
def b_Lwhole : DS W_ := (dRet (dAndV (dBin sIsi (dVarR 0) (oX (dC (.ty "int")))) (dNotV (dBin sIsi (dVarR 0) (oX (dC (.ty "bool")))))))
theorem v_Lwhole (ds : List D) (w : W_.Om) (P : Bool → D → W_.Om → Prop) (h : T_Lwhole ds w P) : b_Lwhole { nx := fun _ w => P false .non w, rt := P } (startD ["_law_found"] ds) w := by
  unfold b_Lwhole
  obtain ⟨i, rfl, q⟩ := h
  simp only [dNext, dSet, dLst, dTup, dNil, dCons, dConsO, dFor, dRng1_u, dRng2_u, dIt_u, oX, dC, dBin, dUn, dVarR, dVar, dApp, dExt, dUpd0, dPut, dAug, dRet, dRetV, dRetN, dBreak, dCont, dIf, dB_u, dTru_u, dTNot, dTAnd, dTOr, dAndV_u, dOrV_u, dNotV_u, dIfX, dChain_u, dCall, dCallB, dSl, dNoP, dP_u, dLc, dDrop, dFrz, frzD, dAsg, dDicK, dDicT, gN, gT, gsC, gsN, kB.eq_1, kT.eq_1, kT.eq_2, kT.eq_3, kT.eq_4, kT.eq_5, kT.eq_6, kT.eq_7, kT.eq_8, kAnd.eq_1, kOr.eq_1, kNot.eq_1, kIt.eq_1, kIt.eq_2, kIt.eq_3, kIt.eq_4, kP.eq_1, kR1.eq_1, kR2.eq_1, sAdd.eq_1, sAdd.eq_2, sAdd.eq_3, sAdd.eq_4, sJ2.eq_1, sI2.eq_1, sPow, sLt.eq_1, sLt.eq_2, sLe, sGt, sGe, sMul.eq_1, sMul.eq_2, sMulB.eq_1, sMulB.eq_2, sMulB.eq_3, sLR1.eq_1, sLR2.eq_1, sTR1.eq_1, sTR2.eq_1, sIsBl.eq_1, dZip, kZip.eq_1, dDisp1, dIxW, dLenW, dName, dAppW, dPutW, dMelt, dCallBE, kIxW.eq_1, kLenW.eq_1, dLcW, kIxW_lst, kIxW_tup, kIxW_scr, kIxW_str, kIxW_dK, kIxW_dT, kLenW_lst, kLenW_tup, kLenW_scr, kLenW_str, kNm_f, kNm_t, kName, isL.eq_1, isL.eq_2, sNeg.eq_1, sLen.eq_1, sLen.eq_2, sLen.eq_3, sLen.eq_4, sLen.eq_5, sAbs.eq_1, sMax, sMin, sInt.eq_1, sInt.eq_2, sStr.eq_1, sList.eq_1, sList.eq_2, sList.eq_3, sTuple.eq_1, sTuple.eq_2, sTuple.eq_3, sIsN, sNotN, sIx.eq_1, sIx.eq_2, sIx.eq_3, sIx.eq_4, sIx.eq_5, sIx.eq_6, sIx.eq_7, sSl.eq_1, sSl.eq_2, sSl.eq_3, sSl.eq_4, sRev.eq_1, sRev.eq_2, sRev.eq_3, sAddI.eq_1, sAddI.eq_2, sPut.eq_1, sPut.eq_2, sPut.eq_3, sPut.eq_4, D.isNon, sEq_ii, sNe_ii, sEq_ww, sNe_ww, sEq_ll, sNe_ll, sIsi_ii, sIsi_ib, sIsi_ll, sIsi_tt, sIsi_ss, sEq_w, sEq_i, sEq_lw, sEq_lw', sEq_lle, sEq_lle', sNe_w, sNe_i, sNe_lle', sNe_lw', sEq_ss, sNe_ss, sEq_bb, sNe_bb, sIn_iw, sIn_ii, sIn_wl, sIn_wl', sSl3.eq_1, sSl3.eq_2, dSl3, isS.eq_1, isL.eq_1, isL.eq_2, isA.eq_1, dM0, dM1, sUpper.eq_1, sLower.eq_1, sStrip1.eq_1, sSfind.eq_1, sScount.eq_1, sSindex.eq_1, sSsplit.eq_1, sSjoin.eq_1, sSjoin.eq_2, fPop_snoc, fPop_snoc', startD, wipeD, List.map_cons, List.map_nil, List.length_cons, List.length_nil, List.length_map, List.cons_append, List.nil_append, List.replicate, List.set_cons_zero, List.set_cons_succ, List.set_nil, List.getElem?_cons_zero, List.getElem?_cons_succ, Bool.true_and, Bool.and_true, Bool.and_false, Bool.false_and, Bool.not_true, Bool.not_false, if_true, if_false, Bool.false_eq_true, reduceIte, and_true, true_and, decide_true, decide_false, not_true, Nat.zero_le, Nat.zero_add, Nat.reduceAdd, Nat.reduceSub, D.scal]
  exact q

theorem sp_int {x : Int} (h : x ≠ 0) : 2 * (if x < 0 then -x else x) - 2 + (if decide (x < 0) = true then 1 else 0) = (spot x : Int) := by
  unfold spot
  by_cases h : x < 0
  · simp only [h, if_true, decide_true]; omega
  · simp only [h, if_false, decide_false]; simp; omega
def T_Lspot : DSp W_ := fun ds w P => ∃ x : Int, ds = [.int x] ∧ x ≠ 0 ∧ x.natAbs ≤ 1000 ∧ P false (.int (spot x)) w
theorem len_Lspot (ds : List D) (w : W_.Om) (P : Bool → D → W_.Om → Prop) (h : T_Lspot ds w P) : ds.length = 1 := by first | (have h := h.1; subst h; rfl) | (obtain ⟨rfl, _⟩ := h; rfl) | (obtain ⟨_, rfl, _⟩ := h; rfl) | (obtain ⟨_, _, rfl, _⟩ := h; rfl) | (obtain ⟨_, _, _, rfl, _⟩ := h; rfl) | (obtain ⟨_, _, _, _, rfl, _⟩ := h; rfl) | (obtain ⟨_, _, _, _, _, rfl, _⟩ := h; rfl) | (obtain ⟨_, _, _, _, _, _, rfl, _⟩ := h; rfl) | (obtain ⟨_, _, _, _, _, _, _, rfl, _⟩ := h; rfl) | (obtain ⟨_, _, _, _, _, _, _, _, rfl, _⟩ := h; rfl) | (obtain ⟨_, _, _, _, _, _, _, _, _, rfl, _⟩ := h; rfl) | (obtain ⟨_, _, _, _, _, _, _, _, _, _, rfl, _⟩ := h; rfl) | (obtain ⟨_, _, _, _, _, _, _, _, _, _, _, rfl, _⟩ := h; rfl)
def b_Lspot : DS W_ := (dRet (dBin sAdd (oX (dBin sSub (oX (dBin sMulB (oX (dC (.int 2))) (oX (dUn sAbs (dVarR 0))))) (oX (dC (.int 2))))) (oX (dUn sInt (oX (dBin sLt (dVarR 0) (oX (dC (.int 0)))))))))
theorem v_Lspot (ds : List D) (w : W_.Om) (P : Bool → D → W_.Om → Prop) (h : T_Lspot ds w P) : b_Lspot { nx := fun _ w => P false .non w, rt := P } (startD ["_law_step"] ds) w := by
  unfold b_Lspot
  obtain ⟨x, rfl, h0, h1, q⟩ := h
  try simp -implicitDefEqProofs only [sInt.eq_2, dNext, dSet, dLst, dTup, dNil, dCons, dConsO, dFor, dRng1_u, dRng2_u, dIt_u, oX, dC, dBin, dUn, dVarR, dVar, dApp, dExt, dUpd0, dPut, dAug, dRet, dRetV, dRetN, dBreak, dCont, dIf, dB_u, dTru_u, dTNot, dTAnd, dTOr, dAndV_u, dOrV_u, dNotV_u, dIfX, dChain_u, dCall, dCallB, dSl, dNoP, dP_u, dLc, dDrop, dFrz, frzD, dAsg, dDicK, dDicT, gN, gT, gsC, gsN, kB.eq_1, kT.eq_1, kT.eq_2, kT.eq_3, kT.eq_4, kT.eq_5, kT.eq_6, kT.eq_7, kT.eq_8, kAnd.eq_1, kOr.eq_1, kNot.eq_1, kIt.eq_1, kIt.eq_2, kIt.eq_3, kIt.eq_4, kP.eq_1, kR1.eq_1, kR2.eq_1, sAdd.eq_1, sAdd.eq_2, sAdd.eq_3, sAdd.eq_4, sJ2.eq_1, sI2.eq_1, sPow, sLt.eq_1, sLt.eq_2, sLe, sGt, sGe, sMul.eq_1, sMul.eq_2, sMulB.eq_1, sMulB.eq_2, sMulB.eq_3, sLR1.eq_1, sLR2.eq_1, sTR1.eq_1, sTR2.eq_1, sIsBl.eq_1, dZip, kZip.eq_1, dDisp1, dIxW, dLenW, dName, dAppW, dPutW, dMelt, dCallBE, kIxW.eq_1, kLenW.eq_1, dLcW, kIxW_lst, kIxW_tup, kIxW_scr, kIxW_str, kIxW_dK, kIxW_dT, kLenW_lst, kLenW_tup, kLenW_scr, kLenW_str, kNm_f, kNm_t, kName, isL.eq_1, isL.eq_2, sNeg.eq_1, sLen.eq_1, sLen.eq_2, sLen.eq_3, sLen.eq_4, sLen.eq_5, sAbs.eq_1, sMax, sMin, sInt.eq_1, sInt.eq_2, sStr.eq_1, sList.eq_1, sList.eq_2, sList.eq_3, sTuple.eq_1, sTuple.eq_2, sTuple.eq_3, sIsN, sNotN, sIx.eq_1, sIx.eq_2, sIx.eq_3, sIx.eq_4, sIx.eq_5, sIx.eq_6, sIx.eq_7, sSl.eq_1, sSl.eq_2, sSl.eq_3, sSl.eq_4, sRev.eq_1, sRev.eq_2, sRev.eq_3, sAddI.eq_1, sAddI.eq_2, sPut.eq_1, sPut.eq_2, sPut.eq_3, sPut.eq_4, D.isNon, sEq_ii, sNe_ii, sEq_ww, sNe_ww, sEq_ll, sNe_ll, sIsi_ii, sIsi_ib, sIsi_ll, sIsi_tt, sIsi_ss, sEq_w, sEq_i, sEq_lw, sEq_lw', sEq_lle, sEq_lle', sNe_w, sNe_i, sNe_lle', sNe_lw', sEq_ss, sNe_ss, sEq_bb, sNe_bb, sIn_iw, sIn_ii, sIn_wl, sIn_wl', sSl3.eq_1, sSl3.eq_2, dSl3, isS.eq_1, isL.eq_1, isL.eq_2, isA.eq_1, dM0, dM1, sUpper.eq_1, sLower.eq_1, sStrip1.eq_1, sSfind.eq_1, sScount.eq_1, sSindex.eq_1, sSsplit.eq_1, sSjoin.eq_1, sSjoin.eq_2, fPop_snoc, fPop_snoc', startD, wipeD, List.map_cons, List.map_nil, List.length_cons, List.length_nil, List.length_map, List.cons_append, List.nil_append, List.replicate, List.set_cons_zero, List.set_cons_succ, List.set_nil, List.getElem?_cons_zero, List.getElem?_cons_succ, Bool.true_and, Bool.and_true, Bool.and_false, Bool.false_and, Bool.not_true, Bool.not_false, if_true, if_false, Bool.false_eq_true, reduceIte, and_true, true_and, decide_true, decide_false, not_true, Nat.zero_le, Nat.zero_add, Nat.reduceAdd, Nat.reduceSub, D.scal, Option.some.injEq, exists_eq_left', exists_eq_left, exists_eq', D.int.injEq, D.lst.injEq, D.tup.injEq, D.scr.injEq, D.str.injEq, List.cons.injEq, and_self]
  refine ⟨mulC (by decide) (by decide), ?_⟩
  rw [sp_int h0]
  exact q
def T_Lleads : DSp W_ := fun ds w P => ∃ (n l : Nat) (tab : List (List Nat)) (u : List Int) (r : Nat), ds = [.lst (tab.map nL), wD u, .int r] ∧ GT n l tab ∧ StT l u ∧ lead tab 0 u = r ∧ P false (.bl true) w
theorem len_Lleads (ds : List D) (w : W_.Om) (P : Bool → D → W_.Om → Prop) (h : T_Lleads ds w P) : ds.length = 3 := by first | (have h := h.1; subst h; rfl) | (obtain ⟨rfl, _⟩ := h; rfl) | (obtain ⟨_, rfl, _⟩ := h; rfl) | (obtain ⟨_, _, rfl, _⟩ := h; rfl) | (obtain ⟨_, _, _, rfl, _⟩ := h; rfl) | (obtain ⟨_, _, _, _, rfl, _⟩ := h; rfl) | (obtain ⟨_, _, _, _, _, rfl, _⟩ := h; rfl) | (obtain ⟨_, _, _, _, _, _, rfl, _⟩ := h; rfl) | (obtain ⟨_, _, _, _, _, _, _, rfl, _⟩ := h; rfl) | (obtain ⟨_, _, _, _, _, _, _, _, rfl, _⟩ := h; rfl) | (obtain ⟨_, _, _, _, _, _, _, _, _, rfl, _⟩ := h; rfl) | (obtain ⟨_, _, _, _, _, _, _, _, _, _, rfl, _⟩ := h; rfl) | (obtain ⟨_, _, _, _, _, _, _, _, _, _, _, rfl, _⟩ := h; rfl)
def b_Lleads : DS W_ := (dSeq (dIf (dTNot (dTru (oX (dBin sIsi (dVarR 1) (oX (dC (.ty "tuple"))))))) (dRet (dC (.bl false))) dNext)
    (dSeq (dSet false 3 (dC (.int 0)))
    (dSeq (dFor (dIt (dVar 1)) (gN 4) (dSeq (dIf (dTOr (dTNot (dTru (oX (dCall T_Lwhole (dCons (dVar 4) dNil))))) (dTOr (dB (dBin sEq (dVarR 4) (oX (dC (.int 0))))) (dB (dBin sGe (oX (dCall T_Lspot (dCons (dVar 4) dNil))) (oX (dLenW (oX (dIxW (dVarR 0) (oX (dC (.int 0))))))))))) (dRet (dC (.bl false))) dNext)
    (dSet false 3 (dIxW (oX (dIxW (dVarR 0) (dVarR 3))) (oX (dCall T_Lspot (dCons (dVar 4) dNil)))))))
    (dRet (dBin sEq (dVarR 3) (dVarR 2))))))
theorem v_Lleads (ds : List D) (w : W_.Om) (P : Bool → D → W_.Om → Prop) (h : T_Lleads ds w P) : b_Lleads { nx := fun _ w => P false .non w, rt := P } (startD ["_law_table_here", "_law_way", "_law_room", "_law_at_here", "_law_step"] ds) w := by
  unfold b_Lleads
  obtain ⟨n, l, tab, u, r, rfl, g, hst, hle, q⟩ := h
  have hlb := g.lb
  obtain ⟨r0, hr0, _, hr0l, _⟩ := g.get (i := 0) (by have := g.n1; omega)
  refine seq_i ?_
  try simp -implicitDefEqProofs only [wD, not_true, dNext, dSet, dLst, dTup, dNil, dCons, dConsO, dFor, dRng1_u, dRng2_u, dIt_u, oX, dC, dBin, dUn, dVarR, dVar, dApp, dExt, dUpd0, dPut, dAug, dRet, dRetV, dRetN, dBreak, dCont, dIf, dB_u, dTru_u, dTNot, dTAnd, dTOr, dAndV_u, dOrV_u, dNotV_u, dIfX, dChain_u, dCall, dCallB, dSl, dNoP, dP_u, dLc, dDrop, dFrz, frzD, dAsg, dDicK, dDicT, gN, gT, gsC, gsN, kB.eq_1, kT.eq_1, kT.eq_2, kT.eq_3, kT.eq_4, kT.eq_5, kT.eq_6, kT.eq_7, kT.eq_8, kAnd.eq_1, kOr.eq_1, kNot.eq_1, kIt.eq_1, kIt.eq_2, kIt.eq_3, kIt.eq_4, kP.eq_1, kR1.eq_1, kR2.eq_1, sAdd.eq_1, sAdd.eq_2, sAdd.eq_3, sAdd.eq_4, sJ2.eq_1, sI2.eq_1, sPow, sLt.eq_1, sLt.eq_2, sLe, sGt, sGe, sMul.eq_1, sMul.eq_2, sMulB.eq_1, sMulB.eq_2, sMulB.eq_3, sLR1.eq_1, sLR2.eq_1, sTR1.eq_1, sTR2.eq_1, sIsBl.eq_1, dZip, kZip.eq_1, dDisp1, dIxW, dLenW, dName, dAppW, dPutW, dMelt, dCallBE, kIxW.eq_1, kLenW.eq_1, dLcW, kIxW_lst, kIxW_tup, kIxW_scr, kIxW_str, kIxW_dK, kIxW_dT, kLenW_lst, kLenW_tup, kLenW_scr, kLenW_str, kNm_f, kNm_t, kName, isL.eq_1, isL.eq_2, sNeg.eq_1, sLen.eq_1, sLen.eq_2, sLen.eq_3, sLen.eq_4, sLen.eq_5, sAbs.eq_1, sMax, sMin, sInt.eq_1, sInt.eq_2, sStr.eq_1, sList.eq_1, sList.eq_2, sList.eq_3, sTuple.eq_1, sTuple.eq_2, sTuple.eq_3, sIsN, sNotN, sIx.eq_1, sIx.eq_2, sIx.eq_3, sIx.eq_4, sIx.eq_5, sIx.eq_6, sIx.eq_7, sSl.eq_1, sSl.eq_2, sSl.eq_3, sSl.eq_4, sRev.eq_1, sRev.eq_2, sRev.eq_3, sAddI.eq_1, sAddI.eq_2, sPut.eq_1, sPut.eq_2, sPut.eq_3, sPut.eq_4, D.isNon, sEq_ii, sNe_ii, sEq_ww, sNe_ww, sEq_ll, sNe_ll, sIsi_ii, sIsi_ib, sIsi_ll, sIsi_tt, sIsi_ss, sEq_w, sEq_i, sEq_lw, sEq_lw', sEq_lle, sEq_lle', sNe_w, sNe_i, sNe_lle', sNe_lw', sEq_ss, sNe_ss, sEq_bb, sNe_bb, sIn_iw, sIn_ii, sIn_wl, sIn_wl', sSl3.eq_1, sSl3.eq_2, dSl3, isS.eq_1, isL.eq_1, isL.eq_2, isA.eq_1, dM0, dM1, sUpper.eq_1, sLower.eq_1, sStrip1.eq_1, sSfind.eq_1, sScount.eq_1, sSindex.eq_1, sSsplit.eq_1, sSjoin.eq_1, sSjoin.eq_2, fPop_snoc, fPop_snoc', startD, wipeD, List.map_cons, List.map_nil, List.length_cons, List.length_nil, List.length_map, List.cons_append, List.nil_append, List.replicate, List.set_cons_zero, List.set_cons_succ, List.set_nil, List.getElem?_cons_zero, List.getElem?_cons_succ, Bool.true_and, Bool.and_true, Bool.and_false, Bool.false_and, Bool.not_true, Bool.not_false, if_true, if_false, Bool.false_eq_true, reduceIte, and_true, true_and, decide_true, decide_false, not_true, Nat.zero_le, Nat.zero_add, Nat.reduceAdd, Nat.reduceSub, D.scal, Option.some.injEq, exists_eq_left', exists_eq_left, exists_eq', D.int.injEq, D.lst.injEq, D.tup.injEq, D.scr.injEq, D.str.injEq, List.cons.injEq, and_self]
  refine seq_i ?_
  try simp -implicitDefEqProofs only [dNext, dSet, dLst, dTup, dNil, dCons, dConsO, dFor, dRng1_u, dRng2_u, dIt_u, oX, dC, dBin, dUn, dVarR, dVar, dApp, dExt, dUpd0, dPut, dAug, dRet, dRetV, dRetN, dBreak, dCont, dIf, dB_u, dTru_u, dTNot, dTAnd, dTOr, dAndV_u, dOrV_u, dNotV_u, dIfX, dChain_u, dCall, dCallB, dSl, dNoP, dP_u, dLc, dDrop, dFrz, frzD, dAsg, dDicK, dDicT, gN, gT, gsC, gsN, kB.eq_1, kT.eq_1, kT.eq_2, kT.eq_3, kT.eq_4, kT.eq_5, kT.eq_6, kT.eq_7, kT.eq_8, kAnd.eq_1, kOr.eq_1, kNot.eq_1, kIt.eq_1, kIt.eq_2, kIt.eq_3, kIt.eq_4, kP.eq_1, kR1.eq_1, kR2.eq_1, sAdd.eq_1, sAdd.eq_2, sAdd.eq_3, sAdd.eq_4, sJ2.eq_1, sI2.eq_1, sPow, sLt.eq_1, sLt.eq_2, sLe, sGt, sGe, sMul.eq_1, sMul.eq_2, sMulB.eq_1, sMulB.eq_2, sMulB.eq_3, sLR1.eq_1, sLR2.eq_1, sTR1.eq_1, sTR2.eq_1, sIsBl.eq_1, dZip, kZip.eq_1, dDisp1, dIxW, dLenW, dName, dAppW, dPutW, dMelt, dCallBE, kIxW.eq_1, kLenW.eq_1, dLcW, kIxW_lst, kIxW_tup, kIxW_scr, kIxW_str, kIxW_dK, kIxW_dT, kLenW_lst, kLenW_tup, kLenW_scr, kLenW_str, kNm_f, kNm_t, kName, isL.eq_1, isL.eq_2, sNeg.eq_1, sLen.eq_1, sLen.eq_2, sLen.eq_3, sLen.eq_4, sLen.eq_5, sAbs.eq_1, sMax, sMin, sInt.eq_1, sInt.eq_2, sStr.eq_1, sList.eq_1, sList.eq_2, sList.eq_3, sTuple.eq_1, sTuple.eq_2, sTuple.eq_3, sIsN, sNotN, sIx.eq_1, sIx.eq_2, sIx.eq_3, sIx.eq_4, sIx.eq_5, sIx.eq_6, sIx.eq_7, sSl.eq_1, sSl.eq_2, sSl.eq_3, sSl.eq_4, sRev.eq_1, sRev.eq_2, sRev.eq_3, sAddI.eq_1, sAddI.eq_2, sPut.eq_1, sPut.eq_2, sPut.eq_3, sPut.eq_4, D.isNon, sEq_ii, sNe_ii, sEq_ww, sNe_ww, sEq_ll, sNe_ll, sIsi_ii, sIsi_ib, sIsi_ll, sIsi_tt, sIsi_ss, sEq_w, sEq_i, sEq_lw, sEq_lw', sEq_lle, sEq_lle', sNe_w, sNe_i, sNe_lle', sNe_lw', sEq_ss, sNe_ss, sEq_bb, sNe_bb, sIn_iw, sIn_ii, sIn_wl, sIn_wl', sSl3.eq_1, sSl3.eq_2, dSl3, isS.eq_1, isL.eq_1, isL.eq_2, isA.eq_1, dM0, dM1, sUpper.eq_1, sLower.eq_1, sStrip1.eq_1, sSfind.eq_1, sScount.eq_1, sSindex.eq_1, sSsplit.eq_1, sSjoin.eq_1, sSjoin.eq_2, fPop_snoc, fPop_snoc', startD, wipeD, List.map_cons, List.map_nil, List.length_cons, List.length_nil, List.length_map, List.cons_append, List.nil_append, List.replicate, List.set_cons_zero, List.set_cons_succ, List.set_nil, List.getElem?_cons_zero, List.getElem?_cons_succ, Bool.true_and, Bool.and_true, Bool.and_false, Bool.false_and, Bool.not_true, Bool.not_false, if_true, if_false, Bool.false_eq_true, reduceIte, and_true, true_and, decide_true, decide_false, not_true, Nat.zero_le, Nat.zero_add, Nat.reduceAdd, Nat.reduceSub, D.scal]
  refine seq_cut (fun δ w' => w' = w ∧ ∃ j, δ = [some (false, .lst (tab.map nL)), some (false, wD u), some (false, .int r), some (false, .int r), j]) (fun N h => ?_) ?_
  · try simp -implicitDefEqProofs only [wD, dNext, dSet, dLst, dTup, dNil, dCons, dConsO, dFor, dRng1_u, dRng2_u, dIt_u, oX, dC, dBin, dUn, dVarR, dVar, dApp, dExt, dUpd0, dPut, dAug, dRet, dRetV, dRetN, dBreak, dCont, dIf, dB_u, dTru_u, dTNot, dTAnd, dTOr, dAndV_u, dOrV_u, dNotV_u, dIfX, dChain_u, dCall, dCallB, dSl, dNoP, dP_u, dLc, dDrop, dFrz, frzD, dAsg, dDicK, dDicT, gN, gT, gsC, gsN, kB.eq_1, kT.eq_1, kT.eq_2, kT.eq_3, kT.eq_4, kT.eq_5, kT.eq_6, kT.eq_7, kT.eq_8, kAnd.eq_1, kOr.eq_1, kNot.eq_1, kIt.eq_1, kIt.eq_2, kIt.eq_3, kIt.eq_4, kP.eq_1, kR1.eq_1, kR2.eq_1, sAdd.eq_1, sAdd.eq_2, sAdd.eq_3, sAdd.eq_4, sJ2.eq_1, sI2.eq_1, sPow, sLt.eq_1, sLt.eq_2, sLe, sGt, sGe, sMul.eq_1, sMul.eq_2, sMulB.eq_1, sMulB.eq_2, sMulB.eq_3, sLR1.eq_1, sLR2.eq_1, sTR1.eq_1, sTR2.eq_1, sIsBl.eq_1, dZip, kZip.eq_1, dDisp1, dIxW, dLenW, dName, dAppW, dPutW, dMelt, dCallBE, kIxW.eq_1, kLenW.eq_1, dLcW, kIxW_lst, kIxW_tup, kIxW_scr, kIxW_str, kIxW_dK, kIxW_dT, kLenW_lst, kLenW_tup, kLenW_scr, kLenW_str, kNm_f, kNm_t, kName, isL.eq_1, isL.eq_2, sNeg.eq_1, sLen.eq_1, sLen.eq_2, sLen.eq_3, sLen.eq_4, sLen.eq_5, sAbs.eq_1, sMax, sMin, sInt.eq_1, sInt.eq_2, sStr.eq_1, sList.eq_1, sList.eq_2, sList.eq_3, sTuple.eq_1, sTuple.eq_2, sTuple.eq_3, sIsN, sNotN, sIx.eq_1, sIx.eq_2, sIx.eq_3, sIx.eq_4, sIx.eq_5, sIx.eq_6, sIx.eq_7, sSl.eq_1, sSl.eq_2, sSl.eq_3, sSl.eq_4, sRev.eq_1, sRev.eq_2, sRev.eq_3, sAddI.eq_1, sAddI.eq_2, sPut.eq_1, sPut.eq_2, sPut.eq_3, sPut.eq_4, D.isNon, sEq_ii, sNe_ii, sEq_ww, sNe_ww, sEq_ll, sNe_ll, sIsi_ii, sIsi_ib, sIsi_ll, sIsi_tt, sIsi_ss, sEq_w, sEq_i, sEq_lw, sEq_lw', sEq_lle, sEq_lle', sNe_w, sNe_i, sNe_lle', sNe_lw', sEq_ss, sNe_ss, sEq_bb, sNe_bb, sIn_iw, sIn_ii, sIn_wl, sIn_wl', sSl3.eq_1, sSl3.eq_2, dSl3, isS.eq_1, isL.eq_1, isL.eq_2, isA.eq_1, dM0, dM1, sUpper.eq_1, sLower.eq_1, sStrip1.eq_1, sSfind.eq_1, sScount.eq_1, sSindex.eq_1, sSsplit.eq_1, sSjoin.eq_1, sSjoin.eq_2, fPop_snoc, fPop_snoc', startD, wipeD, List.map_cons, List.map_nil, List.length_cons, List.length_nil, List.length_map, List.cons_append, List.nil_append, List.replicate, List.set_cons_zero, List.set_cons_succ, List.set_nil, List.getElem?_cons_zero, List.getElem?_cons_succ, Bool.true_and, Bool.and_true, Bool.and_false, Bool.false_and, Bool.not_true, Bool.not_false, if_true, if_false, Bool.false_eq_true, reduceIte, and_true, true_and, decide_true, decide_false, not_true, Nat.zero_le, Nat.zero_add, Nat.reduceAdd, Nat.reduceSub, D.scal, Option.some.injEq, exists_eq_left', exists_eq_left, exists_eq', D.int.injEq, D.lst.injEq, D.tup.injEq, D.scr.injEq, D.str.injEq, List.cons.injEq, and_self]
    refine for_go D.int (fun pre δ w' => w' = w ∧ ∃ j, δ = [some (false, .lst (tab.map nL)), some (false, wD u), some (false, .int r), some (false, .int (lead tab 0 pre)), j]) _ ⟨rfl, none, by simp [lead, wD]⟩ ?_ ?_
    · rintro pre x post δ w' N C e ⟨rfl, j, rfl⟩ hN hC
      have hx := hst x (by rw [e]; simp)
      have hpre : StT l pre := fun y hy => hst y (by rw [e]; simp [hy])
      have hk : spot x < 2 * l := by unfold spot; split <;> omega
      have hlt := lead_lt g (r := 0) (by have := g.n1; omega) hpre
      rw [lead_snoc] at hN
      generalize lead tab 0 pre = i at *
      obtain ⟨row, ht, htd, hrl, _⟩ := g.get hlt
      rw [htd] at hN
      refine seq_cut (fun δ w2 => w2 = w' ∧ δ = [some (false, .lst (tab.map nL)), some (false, wD u), some (false, .int r), some (false, .int i), some (false, .int x)]) (fun N h => ?_) ?_
      · try simp -implicitDefEqProofs only [T_Lwhole, not_true, dNext, dSet, dLst, dTup, dNil, dCons, dConsO, dFor, dRng1_u, dRng2_u, dIt_u, oX, dC, dBin, dUn, dVarR, dVar, dApp, dExt, dUpd0, dPut, dAug, dRet, dRetV, dRetN, dBreak, dCont, dIf, dB_u, dTru_u, dTNot, dTAnd, dTOr, dAndV_u, dOrV_u, dNotV_u, dIfX, dChain_u, dCall, dCallB, dSl, dNoP, dP_u, dLc, dDrop, dFrz, frzD, dAsg, dDicK, dDicT, gN, gT, gsC, gsN, kB.eq_1, kT.eq_1, kT.eq_2, kT.eq_3, kT.eq_4, kT.eq_5, kT.eq_6, kT.eq_7, kT.eq_8, kAnd.eq_1, kOr.eq_1, kNot.eq_1, kIt.eq_1, kIt.eq_2, kIt.eq_3, kIt.eq_4, kP.eq_1, kR1.eq_1, kR2.eq_1, sAdd.eq_1, sAdd.eq_2, sAdd.eq_3, sAdd.eq_4, sJ2.eq_1, sI2.eq_1, sPow, sLt.eq_1, sLt.eq_2, sLe, sGt, sGe, sMul.eq_1, sMul.eq_2, sMulB.eq_1, sMulB.eq_2, sMulB.eq_3, sLR1.eq_1, sLR2.eq_1, sTR1.eq_1, sTR2.eq_1, sIsBl.eq_1, dZip, kZip.eq_1, dDisp1, dIxW, dLenW, dName, dAppW, dPutW, dMelt, dCallBE, kIxW.eq_1, kLenW.eq_1, dLcW, kIxW_lst, kIxW_tup, kIxW_scr, kIxW_str, kIxW_dK, kIxW_dT, kLenW_lst, kLenW_tup, kLenW_scr, kLenW_str, kNm_f, kNm_t, kName, isL.eq_1, isL.eq_2, sNeg.eq_1, sLen.eq_1, sLen.eq_2, sLen.eq_3, sLen.eq_4, sLen.eq_5, sAbs.eq_1, sMax, sMin, sInt.eq_1, sInt.eq_2, sStr.eq_1, sList.eq_1, sList.eq_2, sList.eq_3, sTuple.eq_1, sTuple.eq_2, sTuple.eq_3, sIsN, sNotN, sIx.eq_1, sIx.eq_2, sIx.eq_3, sIx.eq_4, sIx.eq_5, sIx.eq_6, sIx.eq_7, sSl.eq_1, sSl.eq_2, sSl.eq_3, sSl.eq_4, sRev.eq_1, sRev.eq_2, sRev.eq_3, sAddI.eq_1, sAddI.eq_2, sPut.eq_1, sPut.eq_2, sPut.eq_3, sPut.eq_4, D.isNon, sEq_ii, sNe_ii, sEq_ww, sNe_ww, sEq_ll, sNe_ll, sIsi_ii, sIsi_ib, sIsi_ll, sIsi_tt, sIsi_ss, sEq_w, sEq_i, sEq_lw, sEq_lw', sEq_lle, sEq_lle', sNe_w, sNe_i, sNe_lle', sNe_lw', sEq_ss, sNe_ss, sEq_bb, sNe_bb, sIn_iw, sIn_ii, sIn_wl, sIn_wl', sSl3.eq_1, sSl3.eq_2, dSl3, isS.eq_1, isL.eq_1, isL.eq_2, isA.eq_1, dM0, dM1, sUpper.eq_1, sLower.eq_1, sStrip1.eq_1, sSfind.eq_1, sScount.eq_1, sSindex.eq_1, sSsplit.eq_1, sSjoin.eq_1, sSjoin.eq_2, fPop_snoc, fPop_snoc', startD, wipeD, List.map_cons, List.map_nil, List.length_cons, List.length_nil, List.length_map, List.cons_append, List.nil_append, List.replicate, List.set_cons_zero, List.set_cons_succ, List.set_nil, List.getElem?_cons_zero, List.getElem?_cons_succ, Bool.true_and, Bool.and_true, Bool.and_false, Bool.false_and, Bool.not_true, Bool.not_false, if_true, if_false, Bool.false_eq_true, reduceIte, and_true, true_and, decide_true, decide_false, not_true, Nat.zero_le, Nat.zero_add, Nat.reduceAdd, Nat.reduceSub, D.scal, Option.some.injEq, exists_eq_left', exists_eq_left, exists_eq', D.int.injEq, D.lst.injEq, D.tup.injEq, D.scr.injEq, D.str.injEq, List.cons.injEq, and_self]
        refine if_f (by simp; exact hx.1) ?_
        refine ⟨x, rfl, hx.1, by omega, nL r0, atI_f nL (k := 0) (by omega) hr0, ?_⟩
        try simp -implicitDefEqProofs only [nL, dNext, dSet, dLst, dTup, dNil, dCons, dConsO, dFor, dRng1_u, dRng2_u, dIt_u, oX, dC, dBin, dUn, dVarR, dVar, dApp, dExt, dUpd0, dPut, dAug, dRet, dRetV, dRetN, dBreak, dCont, dIf, dB_u, dTru_u, dTNot, dTAnd, dTOr, dAndV_u, dOrV_u, dNotV_u, dIfX, dChain_u, dCall, dCallB, dSl, dNoP, dP_u, dLc, dDrop, dFrz, frzD, dAsg, dDicK, dDicT, gN, gT, gsC, gsN, kB.eq_1, kT.eq_1, kT.eq_2, kT.eq_3, kT.eq_4, kT.eq_5, kT.eq_6, kT.eq_7, kT.eq_8, kAnd.eq_1, kOr.eq_1, kNot.eq_1, kIt.eq_1, kIt.eq_2, kIt.eq_3, kIt.eq_4, kP.eq_1, kR1.eq_1, kR2.eq_1, sAdd.eq_1, sAdd.eq_2, sAdd.eq_3, sAdd.eq_4, sJ2.eq_1, sI2.eq_1, sPow, sLt.eq_1, sLt.eq_2, sLe, sGt, sGe, sMul.eq_1, sMul.eq_2, sMulB.eq_1, sMulB.eq_2, sMulB.eq_3, sLR1.eq_1, sLR2.eq_1, sTR1.eq_1, sTR2.eq_1, sIsBl.eq_1, dZip, kZip.eq_1, dDisp1, dIxW, dLenW, dName, dAppW, dPutW, dMelt, dCallBE, kIxW.eq_1, kLenW.eq_1, dLcW, kIxW_lst, kIxW_tup, kIxW_scr, kIxW_str, kIxW_dK, kIxW_dT, kLenW_lst, kLenW_tup, kLenW_scr, kLenW_str, kNm_f, kNm_t, kName, isL.eq_1, isL.eq_2, sNeg.eq_1, sLen.eq_1, sLen.eq_2, sLen.eq_3, sLen.eq_4, sLen.eq_5, sAbs.eq_1, sMax, sMin, sInt.eq_1, sInt.eq_2, sStr.eq_1, sList.eq_1, sList.eq_2, sList.eq_3, sTuple.eq_1, sTuple.eq_2, sTuple.eq_3, sIsN, sNotN, sIx.eq_1, sIx.eq_2, sIx.eq_3, sIx.eq_4, sIx.eq_5, sIx.eq_6, sIx.eq_7, sSl.eq_1, sSl.eq_2, sSl.eq_3, sSl.eq_4, sRev.eq_1, sRev.eq_2, sRev.eq_3, sAddI.eq_1, sAddI.eq_2, sPut.eq_1, sPut.eq_2, sPut.eq_3, sPut.eq_4, D.isNon, sEq_ii, sNe_ii, sEq_ww, sNe_ww, sEq_ll, sNe_ll, sIsi_ii, sIsi_ib, sIsi_ll, sIsi_tt, sIsi_ss, sEq_w, sEq_i, sEq_lw, sEq_lw', sEq_lle, sEq_lle', sNe_w, sNe_i, sNe_lle', sNe_lw', sEq_ss, sNe_ss, sEq_bb, sNe_bb, sIn_iw, sIn_ii, sIn_wl, sIn_wl', sSl3.eq_1, sSl3.eq_2, dSl3, isS.eq_1, isL.eq_1, isL.eq_2, isA.eq_1, dM0, dM1, sUpper.eq_1, sLower.eq_1, sStrip1.eq_1, sSfind.eq_1, sScount.eq_1, sSindex.eq_1, sSsplit.eq_1, sSjoin.eq_1, sSjoin.eq_2, fPop_snoc, fPop_snoc', startD, wipeD, List.map_cons, List.map_nil, List.length_cons, List.length_nil, List.length_map, List.cons_append, List.nil_append, List.replicate, List.set_cons_zero, List.set_cons_succ, List.set_nil, List.getElem?_cons_zero, List.getElem?_cons_succ, Bool.true_and, Bool.and_true, Bool.and_false, Bool.false_and, Bool.not_true, Bool.not_false, if_true, if_false, Bool.false_eq_true, reduceIte, and_true, true_and, decide_true, decide_false, not_true, Nat.zero_le, Nat.zero_add, Nat.reduceAdd, Nat.reduceSub, D.scal, Option.some.injEq, exists_eq_left', exists_eq_left, exists_eq', D.int.injEq, D.lst.injEq, D.tup.injEq, D.scr.injEq, D.str.injEq, List.cons.injEq, and_self]
        exact if_f (by simp; omega) (h _ _ ⟨rfl, rfl⟩)
      rintro δ w2 ⟨rfl, rfl⟩
      try simp -implicitDefEqProofs only [dNext, dSet, dLst, dTup, dNil, dCons, dConsO, dFor, dRng1_u, dRng2_u, dIt_u, oX, dC, dBin, dUn, dVarR, dVar, dApp, dExt, dUpd0, dPut, dAug, dRet, dRetV, dRetN, dBreak, dCont, dIf, dB_u, dTru_u, dTNot, dTAnd, dTOr, dAndV_u, dOrV_u, dNotV_u, dIfX, dChain_u, dCall, dCallB, dSl, dNoP, dP_u, dLc, dDrop, dFrz, frzD, dAsg, dDicK, dDicT, gN, gT, gsC, gsN, kB.eq_1, kT.eq_1, kT.eq_2, kT.eq_3, kT.eq_4, kT.eq_5, kT.eq_6, kT.eq_7, kT.eq_8, kAnd.eq_1, kOr.eq_1, kNot.eq_1, kIt.eq_1, kIt.eq_2, kIt.eq_3, kIt.eq_4, kP.eq_1, kR1.eq_1, kR2.eq_1, sAdd.eq_1, sAdd.eq_2, sAdd.eq_3, sAdd.eq_4, sJ2.eq_1, sI2.eq_1, sPow, sLt.eq_1, sLt.eq_2, sLe, sGt, sGe, sMul.eq_1, sMul.eq_2, sMulB.eq_1, sMulB.eq_2, sMulB.eq_3, sLR1.eq_1, sLR2.eq_1, sTR1.eq_1, sTR2.eq_1, sIsBl.eq_1, dZip, kZip.eq_1, dDisp1, dIxW, dLenW, dName, dAppW, dPutW, dMelt, dCallBE, kIxW.eq_1, kLenW.eq_1, dLcW, kIxW_lst, kIxW_tup, kIxW_scr, kIxW_str, kIxW_dK, kIxW_dT, kLenW_lst, kLenW_tup, kLenW_scr, kLenW_str, kNm_f, kNm_t, kName, isL.eq_1, isL.eq_2, sNeg.eq_1, sLen.eq_1, sLen.eq_2, sLen.eq_3, sLen.eq_4, sLen.eq_5, sAbs.eq_1, sMax, sMin, sInt.eq_1, sInt.eq_2, sStr.eq_1, sList.eq_1, sList.eq_2, sList.eq_3, sTuple.eq_1, sTuple.eq_2, sTuple.eq_3, sIsN, sNotN, sIx.eq_1, sIx.eq_2, sIx.eq_3, sIx.eq_4, sIx.eq_5, sIx.eq_6, sIx.eq_7, sSl.eq_1, sSl.eq_2, sSl.eq_3, sSl.eq_4, sRev.eq_1, sRev.eq_2, sRev.eq_3, sAddI.eq_1, sAddI.eq_2, sPut.eq_1, sPut.eq_2, sPut.eq_3, sPut.eq_4, D.isNon, sEq_ii, sNe_ii, sEq_ww, sNe_ww, sEq_ll, sNe_ll, sIsi_ii, sIsi_ib, sIsi_ll, sIsi_tt, sIsi_ss, sEq_w, sEq_i, sEq_lw, sEq_lw', sEq_lle, sEq_lle', sNe_w, sNe_i, sNe_lle', sNe_lw', sEq_ss, sNe_ss, sEq_bb, sNe_bb, sIn_iw, sIn_ii, sIn_wl, sIn_wl', sSl3.eq_1, sSl3.eq_2, dSl3, isS.eq_1, isL.eq_1, isL.eq_2, isA.eq_1, dM0, dM1, sUpper.eq_1, sLower.eq_1, sStrip1.eq_1, sSfind.eq_1, sScount.eq_1, sSindex.eq_1, sSsplit.eq_1, sSjoin.eq_1, sSjoin.eq_2, fPop_snoc, fPop_snoc', startD, wipeD, List.map_cons, List.map_nil, List.length_cons, List.length_nil, List.length_map, List.cons_append, List.nil_append, List.replicate, List.set_cons_zero, List.set_cons_succ, List.set_nil, List.getElem?_cons_zero, List.getElem?_cons_succ, Bool.true_and, Bool.and_true, Bool.and_false, Bool.false_and, Bool.not_true, Bool.not_false, if_true, if_false, Bool.false_eq_true, reduceIte, and_true, true_and, decide_true, decide_false, not_true, Nat.zero_le, Nat.zero_add, Nat.reduceAdd, Nat.reduceSub, D.scal, Option.some.injEq, exists_eq_left', exists_eq_left, exists_eq', D.int.injEq, D.lst.injEq, D.tup.injEq, D.scr.injEq, D.str.injEq, List.cons.injEq, and_self]
      refine ⟨nL row, atI_f nL (by omega) (by rw [Int.toNat_natCast]; exact ht), x, rfl, hx.1, by omega, ?_⟩
      try simp -implicitDefEqProofs only [nL, dNext, dSet, dLst, dTup, dNil, dCons, dConsO, dFor, dRng1_u, dRng2_u, dIt_u, oX, dC, dBin, dUn, dVarR, dVar, dApp, dExt, dUpd0, dPut, dAug, dRet, dRetV, dRetN, dBreak, dCont, dIf, dB_u, dTru_u, dTNot, dTAnd, dTOr, dAndV_u, dOrV_u, dNotV_u, dIfX, dChain_u, dCall, dCallB, dSl, dNoP, dP_u, dLc, dDrop, dFrz, frzD, dAsg, dDicK, dDicT, gN, gT, gsC, gsN, kB.eq_1, kT.eq_1, kT.eq_2, kT.eq_3, kT.eq_4, kT.eq_5, kT.eq_6, kT.eq_7, kT.eq_8, kAnd.eq_1, kOr.eq_1, kNot.eq_1, kIt.eq_1, kIt.eq_2, kIt.eq_3, kIt.eq_4, kP.eq_1, kR1.eq_1, kR2.eq_1, sAdd.eq_1, sAdd.eq_2, sAdd.eq_3, sAdd.eq_4, sJ2.eq_1, sI2.eq_1, sPow, sLt.eq_1, sLt.eq_2, sLe, sGt, sGe, sMul.eq_1, sMul.eq_2, sMulB.eq_1, sMulB.eq_2, sMulB.eq_3, sLR1.eq_1, sLR2.eq_1, sTR1.eq_1, sTR2.eq_1, sIsBl.eq_1, dZip, kZip.eq_1, dDisp1, dIxW, dLenW, dName, dAppW, dPutW, dMelt, dCallBE, kIxW.eq_1, kLenW.eq_1, dLcW, kIxW_lst, kIxW_tup, kIxW_scr, kIxW_str, kIxW_dK, kIxW_dT, kLenW_lst, kLenW_tup, kLenW_scr, kLenW_str, kNm_f, kNm_t, kName, isL.eq_1, isL.eq_2, sNeg.eq_1, sLen.eq_1, sLen.eq_2, sLen.eq_3, sLen.eq_4, sLen.eq_5, sAbs.eq_1, sMax, sMin, sInt.eq_1, sInt.eq_2, sStr.eq_1, sList.eq_1, sList.eq_2, sList.eq_3, sTuple.eq_1, sTuple.eq_2, sTuple.eq_3, sIsN, sNotN, sIx.eq_1, sIx.eq_2, sIx.eq_3, sIx.eq_4, sIx.eq_5, sIx.eq_6, sIx.eq_7, sSl.eq_1, sSl.eq_2, sSl.eq_3, sSl.eq_4, sRev.eq_1, sRev.eq_2, sRev.eq_3, sAddI.eq_1, sAddI.eq_2, sPut.eq_1, sPut.eq_2, sPut.eq_3, sPut.eq_4, D.isNon, sEq_ii, sNe_ii, sEq_ww, sNe_ww, sEq_ll, sNe_ll, sIsi_ii, sIsi_ib, sIsi_ll, sIsi_tt, sIsi_ss, sEq_w, sEq_i, sEq_lw, sEq_lw', sEq_lle, sEq_lle', sNe_w, sNe_i, sNe_lle', sNe_lw', sEq_ss, sNe_ss, sEq_bb, sNe_bb, sIn_iw, sIn_ii, sIn_wl, sIn_wl', sSl3.eq_1, sSl3.eq_2, dSl3, isS.eq_1, isL.eq_1, isL.eq_2, isA.eq_1, dM0, dM1, sUpper.eq_1, sLower.eq_1, sStrip1.eq_1, sSfind.eq_1, sScount.eq_1, sSindex.eq_1, sSsplit.eq_1, sSjoin.eq_1, sSjoin.eq_2, fPop_snoc, fPop_snoc', startD, wipeD, List.map_cons, List.map_nil, List.length_cons, List.length_nil, List.length_map, List.cons_append, List.nil_append, List.replicate, List.set_cons_zero, List.set_cons_succ, List.set_nil, List.getElem?_cons_zero, List.getElem?_cons_succ, Bool.true_and, Bool.and_true, Bool.and_false, Bool.false_and, Bool.not_true, Bool.not_false, if_true, if_false, Bool.false_eq_true, reduceIte, and_true, true_and, decide_true, decide_false, not_true, Nat.zero_le, Nat.zero_add, Nat.reduceAdd, Nat.reduceSub, D.scal, Option.some.injEq, exists_eq_left', exists_eq_left, exists_eq', D.int.injEq, D.lst.injEq, D.tup.injEq, D.scr.injEq, D.str.injEq, List.cons.injEq, and_self]
      exact ⟨_, atI_n (by rw [hrl]; exact hk), hN _ _ ⟨rfl, _, rfl⟩⟩
    · rintro δ w' ⟨rfl, j, rfl⟩
      rw [hle]
      exact h _ _ ⟨rfl, j, rfl⟩
  rintro δ w' ⟨rfl, j, rfl⟩
  try simp -implicitDefEqProofs only [dNext, dSet, dLst, dTup, dNil, dCons, dConsO, dFor, dRng1_u, dRng2_u, dIt_u, oX, dC, dBin, dUn, dVarR, dVar, dApp, dExt, dUpd0, dPut, dAug, dRet, dRetV, dRetN, dBreak, dCont, dIf, dB_u, dTru_u, dTNot, dTAnd, dTOr, dAndV_u, dOrV_u, dNotV_u, dIfX, dChain_u, dCall, dCallB, dSl, dNoP, dP_u, dLc, dDrop, dFrz, frzD, dAsg, dDicK, dDicT, gN, gT, gsC, gsN, kB.eq_1, kT.eq_1, kT.eq_2, kT.eq_3, kT.eq_4, kT.eq_5, kT.eq_6, kT.eq_7, kT.eq_8, kAnd.eq_1, kOr.eq_1, kNot.eq_1, kIt.eq_1, kIt.eq_2, kIt.eq_3, kIt.eq_4, kP.eq_1, kR1.eq_1, kR2.eq_1, sAdd.eq_1, sAdd.eq_2, sAdd.eq_3, sAdd.eq_4, sJ2.eq_1, sI2.eq_1, sPow, sLt.eq_1, sLt.eq_2, sLe, sGt, sGe, sMul.eq_1, sMul.eq_2, sMulB.eq_1, sMulB.eq_2, sMulB.eq_3, sLR1.eq_1, sLR2.eq_1, sTR1.eq_1, sTR2.eq_1, sIsBl.eq_1, dZip, kZip.eq_1, dDisp1, dIxW, dLenW, dName, dAppW, dPutW, dMelt, dCallBE, kIxW.eq_1, kLenW.eq_1, dLcW, kIxW_lst, kIxW_tup, kIxW_scr, kIxW_str, kIxW_dK, kIxW_dT, kLenW_lst, kLenW_tup, kLenW_scr, kLenW_str, kNm_f, kNm_t, kName, isL.eq_1, isL.eq_2, sNeg.eq_1, sLen.eq_1, sLen.eq_2, sLen.eq_3, sLen.eq_4, sLen.eq_5, sAbs.eq_1, sMax, sMin, sInt.eq_1, sInt.eq_2, sStr.eq_1, sList.eq_1, sList.eq_2, sList.eq_3, sTuple.eq_1, sTuple.eq_2, sTuple.eq_3, sIsN, sNotN, sIx.eq_1, sIx.eq_2, sIx.eq_3, sIx.eq_4, sIx.eq_5, sIx.eq_6, sIx.eq_7, sSl.eq_1, sSl.eq_2, sSl.eq_3, sSl.eq_4, sRev.eq_1, sRev.eq_2, sRev.eq_3, sAddI.eq_1, sAddI.eq_2, sPut.eq_1, sPut.eq_2, sPut.eq_3, sPut.eq_4, D.isNon, sEq_ii, sNe_ii, sEq_ww, sNe_ww, sEq_ll, sNe_ll, sIsi_ii, sIsi_ib, sIsi_ll, sIsi_tt, sIsi_ss, sEq_w, sEq_i, sEq_lw, sEq_lw', sEq_lle, sEq_lle', sNe_w, sNe_i, sNe_lle', sNe_lw', sEq_ss, sNe_ss, sEq_bb, sNe_bb, sIn_iw, sIn_ii, sIn_wl, sIn_wl', sSl3.eq_1, sSl3.eq_2, dSl3, isS.eq_1, isL.eq_1, isL.eq_2, isA.eq_1, dM0, dM1, sUpper.eq_1, sLower.eq_1, sStrip1.eq_1, sSfind.eq_1, sScount.eq_1, sSindex.eq_1, sSsplit.eq_1, sSjoin.eq_1, sSjoin.eq_2, fPop_snoc, fPop_snoc', startD, wipeD, List.map_cons, List.map_nil, List.length_cons, List.length_nil, List.length_map, List.cons_append, List.nil_append, List.replicate, List.set_cons_zero, List.set_cons_succ, List.set_nil, List.getElem?_cons_zero, List.getElem?_cons_succ, Bool.true_and, Bool.and_true, Bool.and_false, Bool.false_and, Bool.not_true, Bool.not_false, if_true, if_false, Bool.false_eq_true, reduceIte, and_true, true_and, decide_true, decide_false, not_true, Nat.zero_le, Nat.zero_add, Nat.reduceAdd, Nat.reduceSub, D.scal, Option.some.injEq, exists_eq_left', exists_eq_left, exists_eq', D.int.injEq, D.lst.injEq, D.tup.injEq, D.scr.injEq, D.str.injEq, List.cons.injEq, and_self]
  exact q
theorem lexN_at : ∀ {a b : List Nat} (k : Nat) {x y : Nat}, (∀ j, j < k → a[j]? = b[j]?) → a[k]? = some x → b[k]? = some y → x ≠ y → (lexN a b ↔ x < y)
  | [], _, k, _, _, _, h, _, _ => by simp at h
  | _ :: _, [], k, _, _, _, _, h, _ => by simp at h
  | u :: a, v :: b, 0, x, y, _, h, g, hne => by
    simp at h g
    subst h g
    exact ⟨fun h => h.elim id fun h => absurd h.1 hne, fun h => .inl h⟩
  | u :: a, v :: b, k + 1, x, y, hj, h, g, hne => by
    have h0 := hj 0 (by omega)
    simp at h0
    subst h0
    have ih := lexN_at (a := a) (b := b) k (fun j hj' => by have := hj (j + 1) (by omega); simpa using this) (by simpa using h) (by simpa using g) hne
    exact ⟨fun h => h.elim (fun h => by omega) fun h => ih.mp h.2, fun h => .inr ⟨rfl, ih.mpr h⟩⟩
def T_Lahead : DSp W_ := fun ds w P => ∃ (l : Nat) (u v : List Int), ds = [wD u, wD v] ∧ StT l u ∧ StT l v ∧ l ≤ 500 ∧ u.length ≤ 6000 ∧ P false (.bl (@decide (sl (sp u) (sp v)) (Classical.propDecidable _))) w
theorem len_Lahead (ds : List D) (w : W_.Om) (P : Bool → D → W_.Om → Prop) (h : T_Lahead ds w P) : ds.length = 2 := by first | (have h := h.1; subst h; rfl) | (obtain ⟨rfl, _⟩ := h; rfl) | (obtain ⟨_, rfl, _⟩ := h; rfl) | (obtain ⟨_, _, rfl, _⟩ := h; rfl) | (obtain ⟨_, _, _, rfl, _⟩ := h; rfl) | (obtain ⟨_, _, _, _, rfl, _⟩ := h; rfl) | (obtain ⟨_, _, _, _, _, rfl, _⟩ := h; rfl) | (obtain ⟨_, _, _, _, _, _, rfl, _⟩ := h; rfl) | (obtain ⟨_, _, _, _, _, _, _, rfl, _⟩ := h; rfl) | (obtain ⟨_, _, _, _, _, _, _, _, rfl, _⟩ := h; rfl) | (obtain ⟨_, _, _, _, _, _, _, _, _, rfl, _⟩ := h; rfl) | (obtain ⟨_, _, _, _, _, _, _, _, _, _, rfl, _⟩ := h; rfl) | (obtain ⟨_, _, _, _, _, _, _, _, _, _, _, rfl, _⟩ := h; rfl)
def b_Lahead : DS W_ := (dSeq (dIf (dB (dBin sNe (oX (dLenW (dVarR 0))) (oX (dLenW (dVarR 1))))) (dRet (dBin sLt (oX (dLenW (dVarR 0))) (oX (dLenW (dVarR 1))))) dNext)
    (dSeq (dFor (dRng1 (oX (dLenW (dVarR 0)))) (gN 2) (dIf (dB (dBin sNe (oX (dIxW (dVarR 0) (dVarR 2))) (oX (dIxW (dVarR 1) (dVarR 2))))) (dRet (dBin sLt (oX (dCall T_Lspot (dCons (dIxW (dVarR 0) (dVarR 2)) dNil))) (oX (dCall T_Lspot (dCons (dIxW (dVarR 1) (dVarR 2)) dNil))))) dNext))
    (dRet (dC (.bl false)))))
theorem v_Lahead (ds : List D) (w : W_.Om) (P : Bool → D → W_.Om → Prop) (h : T_Lahead ds w P) : b_Lahead { nx := fun _ w => P false .non w, rt := P } (startD ["_law_one", "_law_other", "_law_k"] ds) w := by
  unfold b_Lahead
  obtain ⟨l, u, v, rfl, hu, hv, hl, hul, q⟩ := h
  refine seq_cut (fun δ w' => w' = w ∧ u.length = v.length ∧ δ = [some (false, wD u), some (false, wD v), none]) (fun N h => ?_) ?_
  · try simp -implicitDefEqProofs only [wD, dNext, dSet, dLst, dTup, dNil, dCons, dConsO, dFor, dRng1_u, dRng2_u, dIt_u, oX, dC, dBin, dUn, dVarR, dVar, dApp, dExt, dUpd0, dPut, dAug, dRet, dRetV, dRetN, dBreak, dCont, dIf, dB_u, dTru_u, dTNot, dTAnd, dTOr, dAndV_u, dOrV_u, dNotV_u, dIfX, dChain_u, dCall, dCallB, dSl, dNoP, dP_u, dLc, dDrop, dFrz, frzD, dAsg, dDicK, dDicT, gN, gT, gsC, gsN, kB.eq_1, kT.eq_1, kT.eq_2, kT.eq_3, kT.eq_4, kT.eq_5, kT.eq_6, kT.eq_7, kT.eq_8, kAnd.eq_1, kOr.eq_1, kNot.eq_1, kIt.eq_1, kIt.eq_2, kIt.eq_3, kIt.eq_4, kP.eq_1, kR1.eq_1, kR2.eq_1, sAdd.eq_1, sAdd.eq_2, sAdd.eq_3, sAdd.eq_4, sJ2.eq_1, sI2.eq_1, sPow, sLt.eq_1, sLt.eq_2, sLe, sGt, sGe, sMul.eq_1, sMul.eq_2, sMulB.eq_1, sMulB.eq_2, sMulB.eq_3, sLR1.eq_1, sLR2.eq_1, sTR1.eq_1, sTR2.eq_1, sIsBl.eq_1, dZip, kZip.eq_1, dDisp1, dIxW, dLenW, dName, dAppW, dPutW, dMelt, dCallBE, kIxW.eq_1, kLenW.eq_1, dLcW, kIxW_lst, kIxW_tup, kIxW_scr, kIxW_str, kIxW_dK, kIxW_dT, kLenW_lst, kLenW_tup, kLenW_scr, kLenW_str, kNm_f, kNm_t, kName, isL.eq_1, isL.eq_2, sNeg.eq_1, sLen.eq_1, sLen.eq_2, sLen.eq_3, sLen.eq_4, sLen.eq_5, sAbs.eq_1, sMax, sMin, sInt.eq_1, sInt.eq_2, sStr.eq_1, sList.eq_1, sList.eq_2, sList.eq_3, sTuple.eq_1, sTuple.eq_2, sTuple.eq_3, sIsN, sNotN, sIx.eq_1, sIx.eq_2, sIx.eq_3, sIx.eq_4, sIx.eq_5, sIx.eq_6, sIx.eq_7, sSl.eq_1, sSl.eq_2, sSl.eq_3, sSl.eq_4, sRev.eq_1, sRev.eq_2, sRev.eq_3, sAddI.eq_1, sAddI.eq_2, sPut.eq_1, sPut.eq_2, sPut.eq_3, sPut.eq_4, D.isNon, sEq_ii, sNe_ii, sEq_ww, sNe_ww, sEq_ll, sNe_ll, sIsi_ii, sIsi_ib, sIsi_ll, sIsi_tt, sIsi_ss, sEq_w, sEq_i, sEq_lw, sEq_lw', sEq_lle, sEq_lle', sNe_w, sNe_i, sNe_lle', sNe_lw', sEq_ss, sNe_ss, sEq_bb, sNe_bb, sIn_iw, sIn_ii, sIn_wl, sIn_wl', sSl3.eq_1, sSl3.eq_2, dSl3, isS.eq_1, isL.eq_1, isL.eq_2, isA.eq_1, dM0, dM1, sUpper.eq_1, sLower.eq_1, sStrip1.eq_1, sSfind.eq_1, sScount.eq_1, sSindex.eq_1, sSsplit.eq_1, sSjoin.eq_1, sSjoin.eq_2, fPop_snoc, fPop_snoc', startD, wipeD, List.map_cons, List.map_nil, List.length_cons, List.length_nil, List.length_map, List.cons_append, List.nil_append, List.replicate, List.set_cons_zero, List.set_cons_succ, List.set_nil, List.getElem?_cons_zero, List.getElem?_cons_succ, Bool.true_and, Bool.and_true, Bool.and_false, Bool.false_and, Bool.not_true, Bool.not_false, if_true, if_false, Bool.false_eq_true, reduceIte, and_true, true_and, decide_true, decide_false, not_true, Nat.zero_le, Nat.zero_add, Nat.reduceAdd, Nat.reduceSub, D.scal, Option.some.injEq, exists_eq_left', exists_eq_left, exists_eq', D.int.injEq, D.lst.injEq, D.tup.injEq, D.scr.injEq, D.str.injEq, List.cons.injEq, and_self]
    refine if_join (fun h1 => ?_) (fun h1 => h _ _ ⟨rfl, by simp at h1; omega, rfl⟩)
    have e : @decide (sl (sp u) (sp v)) (Classical.propDecidable _) = decide ((u.length : Int) < (v.length : Int)) := by
      rw [decide_eq_decide]
      unfold sl
      have e1 : (sp u).length = u.length := by simp [sp]
      have e2 : (sp v).length = v.length := by simp [sp]
      rw [e1, e2]
      simp at h1
      omega
    rw [e] at q
    exact q
  rintro δ w' ⟨rfl, he, rfl⟩
  have e1 : (sp u).length = u.length := by simp [sp]
  have e2 : (sp v).length = v.length := by simp [sp]
  refine seq_i ?_
  try simp -implicitDefEqProofs only [wD, dNext, dSet, dLst, dTup, dNil, dCons, dConsO, dFor, dRng1_u, dRng2_u, dIt_u, oX, dC, dBin, dUn, dVarR, dVar, dApp, dExt, dUpd0, dPut, dAug, dRet, dRetV, dRetN, dBreak, dCont, dIf, dB_u, dTru_u, dTNot, dTAnd, dTOr, dAndV_u, dOrV_u, dNotV_u, dIfX, dChain_u, dCall, dCallB, dSl, dNoP, dP_u, dLc, dDrop, dFrz, frzD, dAsg, dDicK, dDicT, gN, gT, gsC, gsN, kB.eq_1, kT.eq_1, kT.eq_2, kT.eq_3, kT.eq_4, kT.eq_5, kT.eq_6, kT.eq_7, kT.eq_8, kAnd.eq_1, kOr.eq_1, kNot.eq_1, kIt.eq_1, kIt.eq_2, kIt.eq_3, kIt.eq_4, kP.eq_1, kR1.eq_1, kR2.eq_1, sAdd.eq_1, sAdd.eq_2, sAdd.eq_3, sAdd.eq_4, sJ2.eq_1, sI2.eq_1, sPow, sLt.eq_1, sLt.eq_2, sLe, sGt, sGe, sMul.eq_1, sMul.eq_2, sMulB.eq_1, sMulB.eq_2, sMulB.eq_3, sLR1.eq_1, sLR2.eq_1, sTR1.eq_1, sTR2.eq_1, sIsBl.eq_1, dZip, kZip.eq_1, dDisp1, dIxW, dLenW, dName, dAppW, dPutW, dMelt, dCallBE, kIxW.eq_1, kLenW.eq_1, dLcW, kIxW_lst, kIxW_tup, kIxW_scr, kIxW_str, kIxW_dK, kIxW_dT, kLenW_lst, kLenW_tup, kLenW_scr, kLenW_str, kNm_f, kNm_t, kName, isL.eq_1, isL.eq_2, sNeg.eq_1, sLen.eq_1, sLen.eq_2, sLen.eq_3, sLen.eq_4, sLen.eq_5, sAbs.eq_1, sMax, sMin, sInt.eq_1, sInt.eq_2, sStr.eq_1, sList.eq_1, sList.eq_2, sList.eq_3, sTuple.eq_1, sTuple.eq_2, sTuple.eq_3, sIsN, sNotN, sIx.eq_1, sIx.eq_2, sIx.eq_3, sIx.eq_4, sIx.eq_5, sIx.eq_6, sIx.eq_7, sSl.eq_1, sSl.eq_2, sSl.eq_3, sSl.eq_4, sRev.eq_1, sRev.eq_2, sRev.eq_3, sAddI.eq_1, sAddI.eq_2, sPut.eq_1, sPut.eq_2, sPut.eq_3, sPut.eq_4, D.isNon, sEq_ii, sNe_ii, sEq_ww, sNe_ww, sEq_ll, sNe_ll, sIsi_ii, sIsi_ib, sIsi_ll, sIsi_tt, sIsi_ss, sEq_w, sEq_i, sEq_lw, sEq_lw', sEq_lle, sEq_lle', sNe_w, sNe_i, sNe_lle', sNe_lw', sEq_ss, sNe_ss, sEq_bb, sNe_bb, sIn_iw, sIn_ii, sIn_wl, sIn_wl', sSl3.eq_1, sSl3.eq_2, dSl3, isS.eq_1, isL.eq_1, isL.eq_2, isA.eq_1, dM0, dM1, sUpper.eq_1, sLower.eq_1, sStrip1.eq_1, sSfind.eq_1, sScount.eq_1, sSindex.eq_1, sSsplit.eq_1, sSjoin.eq_1, sSjoin.eq_2, fPop_snoc, fPop_snoc', startD, wipeD, List.map_cons, List.map_nil, List.length_cons, List.length_nil, List.length_map, List.cons_append, List.nil_append, List.replicate, List.set_cons_zero, List.set_cons_succ, List.set_nil, List.getElem?_cons_zero, List.getElem?_cons_succ, Bool.true_and, Bool.and_true, Bool.and_false, Bool.false_and, Bool.not_true, Bool.not_false, if_true, if_false, Bool.false_eq_true, reduceIte, and_true, true_and, decide_true, decide_false, not_true, Nat.zero_le, Nat.zero_add, Nat.reduceAdd, Nat.reduceSub, D.scal, Option.some.injEq, exists_eq_left', exists_eq_left, exists_eq', D.int.injEq, D.lst.injEq, D.tup.injEq, D.scr.injEq, D.str.injEq, List.cons.injEq, and_self]
  refine ⟨⟨by omega, by omega⟩, ?_⟩
  rw [Int.toNat_natCast]
  refine for_rng 0 _ (fun k δ w2 => w2 = w' ∧ (∀ j, j < k → u[j]? = v[j]?) ∧ ∃ j, δ = [some (false, wD u), some (false, wD v), j]) ⟨rfl, fun j h => by omega, none, rfl⟩ ?_ ?_
  · rintro k δ w2 N C hk ⟨rfl, hall, j, rfl⟩ hN hC
    have hx := List.getElem?_eq_getElem hk
    have hy := List.getElem?_eq_getElem (l := v) (by omega : k < v.length)
    have hxs := hu _ (List.getElem_mem hk)
    have hys := hv _ (List.getElem_mem (by omega : k < v.length))
    generalize u[k] = x at *
    generalize v[k]'(by omega) = y at *
    have a1 : atI (u.map D.int) (0 + (k : Int)) = some (.int x) := atI_ints (by omega) (by rw [show (0 + (k : Int)).toNat = k by omega]; exact hx)
    have a2 : atI (v.map D.int) (0 + (k : Int)) = some (.int y) := atI_ints (by omega) (by rw [show (0 + (k : Int)).toNat = k by omega]; exact hy)
    try simp -implicitDefEqProofs only [wD, dNext, dSet, dLst, dTup, dNil, dCons, dConsO, dFor, dRng1_u, dRng2_u, dIt_u, oX, dC, dBin, dUn, dVarR, dVar, dApp, dExt, dUpd0, dPut, dAug, dRet, dRetV, dRetN, dBreak, dCont, dIf, dB_u, dTru_u, dTNot, dTAnd, dTOr, dAndV_u, dOrV_u, dNotV_u, dIfX, dChain_u, dCall, dCallB, dSl, dNoP, dP_u, dLc, dDrop, dFrz, frzD, dAsg, dDicK, dDicT, gN, gT, gsC, gsN, kB.eq_1, kT.eq_1, kT.eq_2, kT.eq_3, kT.eq_4, kT.eq_5, kT.eq_6, kT.eq_7, kT.eq_8, kAnd.eq_1, kOr.eq_1, kNot.eq_1, kIt.eq_1, kIt.eq_2, kIt.eq_3, kIt.eq_4, kP.eq_1, kR1.eq_1, kR2.eq_1, sAdd.eq_1, sAdd.eq_2, sAdd.eq_3, sAdd.eq_4, sJ2.eq_1, sI2.eq_1, sPow, sLt.eq_1, sLt.eq_2, sLe, sGt, sGe, sMul.eq_1, sMul.eq_2, sMulB.eq_1, sMulB.eq_2, sMulB.eq_3, sLR1.eq_1, sLR2.eq_1, sTR1.eq_1, sTR2.eq_1, sIsBl.eq_1, dZip, kZip.eq_1, dDisp1, dIxW, dLenW, dName, dAppW, dPutW, dMelt, dCallBE, kIxW.eq_1, kLenW.eq_1, dLcW, kIxW_lst, kIxW_tup, kIxW_scr, kIxW_str, kIxW_dK, kIxW_dT, kLenW_lst, kLenW_tup, kLenW_scr, kLenW_str, kNm_f, kNm_t, kName, isL.eq_1, isL.eq_2, sNeg.eq_1, sLen.eq_1, sLen.eq_2, sLen.eq_3, sLen.eq_4, sLen.eq_5, sAbs.eq_1, sMax, sMin, sInt.eq_1, sInt.eq_2, sStr.eq_1, sList.eq_1, sList.eq_2, sList.eq_3, sTuple.eq_1, sTuple.eq_2, sTuple.eq_3, sIsN, sNotN, sIx.eq_1, sIx.eq_2, sIx.eq_3, sIx.eq_4, sIx.eq_5, sIx.eq_6, sIx.eq_7, sSl.eq_1, sSl.eq_2, sSl.eq_3, sSl.eq_4, sRev.eq_1, sRev.eq_2, sRev.eq_3, sAddI.eq_1, sAddI.eq_2, sPut.eq_1, sPut.eq_2, sPut.eq_3, sPut.eq_4, D.isNon, sEq_ii, sNe_ii, sEq_ww, sNe_ww, sEq_ll, sNe_ll, sIsi_ii, sIsi_ib, sIsi_ll, sIsi_tt, sIsi_ss, sEq_w, sEq_i, sEq_lw, sEq_lw', sEq_lle, sEq_lle', sNe_w, sNe_i, sNe_lle', sNe_lw', sEq_ss, sNe_ss, sEq_bb, sNe_bb, sIn_iw, sIn_ii, sIn_wl, sIn_wl', sSl3.eq_1, sSl3.eq_2, dSl3, isS.eq_1, isL.eq_1, isL.eq_2, isA.eq_1, dM0, dM1, sUpper.eq_1, sLower.eq_1, sStrip1.eq_1, sSfind.eq_1, sScount.eq_1, sSindex.eq_1, sSsplit.eq_1, sSjoin.eq_1, sSjoin.eq_2, fPop_snoc, fPop_snoc', startD, wipeD, List.map_cons, List.map_nil, List.length_cons, List.length_nil, List.length_map, List.cons_append, List.nil_append, List.replicate, List.set_cons_zero, List.set_cons_succ, List.set_nil, List.getElem?_cons_zero, List.getElem?_cons_succ, Bool.true_and, Bool.and_true, Bool.and_false, Bool.false_and, Bool.not_true, Bool.not_false, if_true, if_false, Bool.false_eq_true, reduceIte, and_true, true_and, decide_true, decide_false, not_true, Nat.zero_le, Nat.zero_add, Nat.reduceAdd, Nat.reduceSub, D.scal, Option.some.injEq, exists_eq_left', exists_eq_left, exists_eq', D.int.injEq, D.lst.injEq, D.tup.injEq, D.scr.injEq, D.str.injEq, List.cons.injEq, and_self]
    refine ⟨_, a1, _, a2, ?_⟩
    try simp -implicitDefEqProofs only [sNe_ii, dNext, dSet, dLst, dTup, dNil, dCons, dConsO, dFor, dRng1_u, dRng2_u, dIt_u, oX, dC, dBin, dUn, dVarR, dVar, dApp, dExt, dUpd0, dPut, dAug, dRet, dRetV, dRetN, dBreak, dCont, dIf, dB_u, dTru_u, dTNot, dTAnd, dTOr, dAndV_u, dOrV_u, dNotV_u, dIfX, dChain_u, dCall, dCallB, dSl, dNoP, dP_u, dLc, dDrop, dFrz, frzD, dAsg, dDicK, dDicT, gN, gT, gsC, gsN, kB.eq_1, kT.eq_1, kT.eq_2, kT.eq_3, kT.eq_4, kT.eq_5, kT.eq_6, kT.eq_7, kT.eq_8, kAnd.eq_1, kOr.eq_1, kNot.eq_1, kIt.eq_1, kIt.eq_2, kIt.eq_3, kIt.eq_4, kP.eq_1, kR1.eq_1, kR2.eq_1, sAdd.eq_1, sAdd.eq_2, sAdd.eq_3, sAdd.eq_4, sJ2.eq_1, sI2.eq_1, sPow, sLt.eq_1, sLt.eq_2, sLe, sGt, sGe, sMul.eq_1, sMul.eq_2, sMulB.eq_1, sMulB.eq_2, sMulB.eq_3, sLR1.eq_1, sLR2.eq_1, sTR1.eq_1, sTR2.eq_1, sIsBl.eq_1, dZip, kZip.eq_1, dDisp1, dIxW, dLenW, dName, dAppW, dPutW, dMelt, dCallBE, kIxW.eq_1, kLenW.eq_1, dLcW, kIxW_lst, kIxW_tup, kIxW_scr, kIxW_str, kIxW_dK, kIxW_dT, kLenW_lst, kLenW_tup, kLenW_scr, kLenW_str, kNm_f, kNm_t, kName, isL.eq_1, isL.eq_2, sNeg.eq_1, sLen.eq_1, sLen.eq_2, sLen.eq_3, sLen.eq_4, sLen.eq_5, sAbs.eq_1, sMax, sMin, sInt.eq_1, sInt.eq_2, sStr.eq_1, sList.eq_1, sList.eq_2, sList.eq_3, sTuple.eq_1, sTuple.eq_2, sTuple.eq_3, sIsN, sNotN, sIx.eq_1, sIx.eq_2, sIx.eq_3, sIx.eq_4, sIx.eq_5, sIx.eq_6, sIx.eq_7, sSl.eq_1, sSl.eq_2, sSl.eq_3, sSl.eq_4, sRev.eq_1, sRev.eq_2, sRev.eq_3, sAddI.eq_1, sAddI.eq_2, sPut.eq_1, sPut.eq_2, sPut.eq_3, sPut.eq_4, D.isNon, sEq_ii, sNe_ii, sEq_ww, sNe_ww, sEq_ll, sNe_ll, sIsi_ii, sIsi_ib, sIsi_ll, sIsi_tt, sIsi_ss, sEq_w, sEq_i, sEq_lw, sEq_lw', sEq_lle, sEq_lle', sNe_w, sNe_i, sNe_lle', sNe_lw', sEq_ss, sNe_ss, sEq_bb, sNe_bb, sIn_iw, sIn_ii, sIn_wl, sIn_wl', sSl3.eq_1, sSl3.eq_2, dSl3, isS.eq_1, isL.eq_1, isL.eq_2, isA.eq_1, dM0, dM1, sUpper.eq_1, sLower.eq_1, sStrip1.eq_1, sSfind.eq_1, sScount.eq_1, sSindex.eq_1, sSsplit.eq_1, sSjoin.eq_1, sSjoin.eq_2, fPop_snoc, fPop_snoc', startD, wipeD, List.map_cons, List.map_nil, List.length_cons, List.length_nil, List.length_map, List.cons_append, List.nil_append, List.replicate, List.set_cons_zero, List.set_cons_succ, List.set_nil, List.getElem?_cons_zero, List.getElem?_cons_succ, Bool.true_and, Bool.and_true, Bool.and_false, Bool.false_and, Bool.not_true, Bool.not_false, if_true, if_false, Bool.false_eq_true, reduceIte, and_true, true_and, decide_true, decide_false, not_true, Nat.zero_le, Nat.zero_add, Nat.reduceAdd, Nat.reduceSub, D.scal, Option.some.injEq, exists_eq_left', exists_eq_left, exists_eq', D.int.injEq, D.lst.injEq, D.tup.injEq, D.scr.injEq, D.str.injEq, List.cons.injEq, and_self]
    refine if_join (fun h1 => ?_) (fun h1 => hN _ _ ⟨rfl, fun j hj => ?_, _, rfl⟩)
    · refine ⟨_, a1, x, rfl, hxs.1, by omega, _, a2, y, rfl, hys.1, by omega, ?_⟩
      have hne : spot x ≠ spot y := fun e => by simp at h1; exact h1 (spot_inj hxs.1 hys.1 e)
      have e : @decide (sl (sp u) (sp v)) (Classical.propDecidable _) = decide ((spot x : Int) < (spot y : Int)) := by
        rw [decide_eq_decide]
        have := lexN_at (a := sp u) (b := sp v) k (fun j hj => by simp [sp, hall j hj]) (by simp [sp, hx]) (by simp [sp, hy]) hne
        unfold sl
        rw [e1, e2, this]
        omega
      rw [e] at q
      try simp -implicitDefEqProofs only [dNext, dSet, dLst, dTup, dNil, dCons, dConsO, dFor, dRng1_u, dRng2_u, dIt_u, oX, dC, dBin, dUn, dVarR, dVar, dApp, dExt, dUpd0, dPut, dAug, dRet, dRetV, dRetN, dBreak, dCont, dIf, dB_u, dTru_u, dTNot, dTAnd, dTOr, dAndV_u, dOrV_u, dNotV_u, dIfX, dChain_u, dCall, dCallB, dSl, dNoP, dP_u, dLc, dDrop, dFrz, frzD, dAsg, dDicK, dDicT, gN, gT, gsC, gsN, kB.eq_1, kT.eq_1, kT.eq_2, kT.eq_3, kT.eq_4, kT.eq_5, kT.eq_6, kT.eq_7, kT.eq_8, kAnd.eq_1, kOr.eq_1, kNot.eq_1, kIt.eq_1, kIt.eq_2, kIt.eq_3, kIt.eq_4, kP.eq_1, kR1.eq_1, kR2.eq_1, sAdd.eq_1, sAdd.eq_2, sAdd.eq_3, sAdd.eq_4, sJ2.eq_1, sI2.eq_1, sPow, sLt.eq_1, sLt.eq_2, sLe, sGt, sGe, sMul.eq_1, sMul.eq_2, sMulB.eq_1, sMulB.eq_2, sMulB.eq_3, sLR1.eq_1, sLR2.eq_1, sTR1.eq_1, sTR2.eq_1, sIsBl.eq_1, dZip, kZip.eq_1, dDisp1, dIxW, dLenW, dName, dAppW, dPutW, dMelt, dCallBE, kIxW.eq_1, kLenW.eq_1, dLcW, kIxW_lst, kIxW_tup, kIxW_scr, kIxW_str, kIxW_dK, kIxW_dT, kLenW_lst, kLenW_tup, kLenW_scr, kLenW_str, kNm_f, kNm_t, kName, isL.eq_1, isL.eq_2, sNeg.eq_1, sLen.eq_1, sLen.eq_2, sLen.eq_3, sLen.eq_4, sLen.eq_5, sAbs.eq_1, sMax, sMin, sInt.eq_1, sInt.eq_2, sStr.eq_1, sList.eq_1, sList.eq_2, sList.eq_3, sTuple.eq_1, sTuple.eq_2, sTuple.eq_3, sIsN, sNotN, sIx.eq_1, sIx.eq_2, sIx.eq_3, sIx.eq_4, sIx.eq_5, sIx.eq_6, sIx.eq_7, sSl.eq_1, sSl.eq_2, sSl.eq_3, sSl.eq_4, sRev.eq_1, sRev.eq_2, sRev.eq_3, sAddI.eq_1, sAddI.eq_2, sPut.eq_1, sPut.eq_2, sPut.eq_3, sPut.eq_4, D.isNon, sEq_ii, sNe_ii, sEq_ww, sNe_ww, sEq_ll, sNe_ll, sIsi_ii, sIsi_ib, sIsi_ll, sIsi_tt, sIsi_ss, sEq_w, sEq_i, sEq_lw, sEq_lw', sEq_lle, sEq_lle', sNe_w, sNe_i, sNe_lle', sNe_lw', sEq_ss, sNe_ss, sEq_bb, sNe_bb, sIn_iw, sIn_ii, sIn_wl, sIn_wl', sSl3.eq_1, sSl3.eq_2, dSl3, isS.eq_1, isL.eq_1, isL.eq_2, isA.eq_1, dM0, dM1, sUpper.eq_1, sLower.eq_1, sStrip1.eq_1, sSfind.eq_1, sScount.eq_1, sSindex.eq_1, sSsplit.eq_1, sSjoin.eq_1, sSjoin.eq_2, fPop_snoc, fPop_snoc', startD, wipeD, List.map_cons, List.map_nil, List.length_cons, List.length_nil, List.length_map, List.cons_append, List.nil_append, List.replicate, List.set_cons_zero, List.set_cons_succ, List.set_nil, List.getElem?_cons_zero, List.getElem?_cons_succ, Bool.true_and, Bool.and_true, Bool.and_false, Bool.false_and, Bool.not_true, Bool.not_false, if_true, if_false, Bool.false_eq_true, reduceIte, and_true, true_and, decide_true, decide_false, not_true, Nat.zero_le, Nat.zero_add, Nat.reduceAdd, Nat.reduceSub, D.scal, Option.some.injEq, exists_eq_left', exists_eq_left, exists_eq', D.int.injEq, D.lst.injEq, D.tup.injEq, D.scr.injEq, D.str.injEq, List.cons.injEq, and_self]
      exact q
    · by_cases e : j = k
      · subst e
        simp at h1
        rw [hx, hy, h1]
      · exact hall j (by omega)
  · rintro δ w2 ⟨rfl, hall, j, rfl⟩
    have huv : u = v := by
      refine List.ext_getElem? fun j => ?_
      by_cases hj : j < u.length
      · exact hall j hj
      · rw [List.getElem?_eq_none (by omega), List.getElem?_eq_none (by omega)]
    subst huv
    have e : @decide (sl (sp u) (sp u)) (Classical.propDecidable _) = false := @decide_eq_false _ (Classical.propDecidable _) (sl_irr _)
    rw [e] at q
    try simp -implicitDefEqProofs only [dNext, dSet, dLst, dTup, dNil, dCons, dConsO, dFor, dRng1_u, dRng2_u, dIt_u, oX, dC, dBin, dUn, dVarR, dVar, dApp, dExt, dUpd0, dPut, dAug, dRet, dRetV, dRetN, dBreak, dCont, dIf, dB_u, dTru_u, dTNot, dTAnd, dTOr, dAndV_u, dOrV_u, dNotV_u, dIfX, dChain_u, dCall, dCallB, dSl, dNoP, dP_u, dLc, dDrop, dFrz, frzD, dAsg, dDicK, dDicT, gN, gT, gsC, gsN, kB.eq_1, kT.eq_1, kT.eq_2, kT.eq_3, kT.eq_4, kT.eq_5, kT.eq_6, kT.eq_7, kT.eq_8, kAnd.eq_1, kOr.eq_1, kNot.eq_1, kIt.eq_1, kIt.eq_2, kIt.eq_3, kIt.eq_4, kP.eq_1, kR1.eq_1, kR2.eq_1, sAdd.eq_1, sAdd.eq_2, sAdd.eq_3, sAdd.eq_4, sJ2.eq_1, sI2.eq_1, sPow, sLt.eq_1, sLt.eq_2, sLe, sGt, sGe, sMul.eq_1, sMul.eq_2, sMulB.eq_1, sMulB.eq_2, sMulB.eq_3, sLR1.eq_1, sLR2.eq_1, sTR1.eq_1, sTR2.eq_1, sIsBl.eq_1, dZip, kZip.eq_1, dDisp1, dIxW, dLenW, dName, dAppW, dPutW, dMelt, dCallBE, kIxW.eq_1, kLenW.eq_1, dLcW, kIxW_lst, kIxW_tup, kIxW_scr, kIxW_str, kIxW_dK, kIxW_dT, kLenW_lst, kLenW_tup, kLenW_scr, kLenW_str, kNm_f, kNm_t, kName, isL.eq_1, isL.eq_2, sNeg.eq_1, sLen.eq_1, sLen.eq_2, sLen.eq_3, sLen.eq_4, sLen.eq_5, sAbs.eq_1, sMax, sMin, sInt.eq_1, sInt.eq_2, sStr.eq_1, sList.eq_1, sList.eq_2, sList.eq_3, sTuple.eq_1, sTuple.eq_2, sTuple.eq_3, sIsN, sNotN, sIx.eq_1, sIx.eq_2, sIx.eq_3, sIx.eq_4, sIx.eq_5, sIx.eq_6, sIx.eq_7, sSl.eq_1, sSl.eq_2, sSl.eq_3, sSl.eq_4, sRev.eq_1, sRev.eq_2, sRev.eq_3, sAddI.eq_1, sAddI.eq_2, sPut.eq_1, sPut.eq_2, sPut.eq_3, sPut.eq_4, D.isNon, sEq_ii, sNe_ii, sEq_ww, sNe_ww, sEq_ll, sNe_ll, sIsi_ii, sIsi_ib, sIsi_ll, sIsi_tt, sIsi_ss, sEq_w, sEq_i, sEq_lw, sEq_lw', sEq_lle, sEq_lle', sNe_w, sNe_i, sNe_lle', sNe_lw', sEq_ss, sNe_ss, sEq_bb, sNe_bb, sIn_iw, sIn_ii, sIn_wl, sIn_wl', sSl3.eq_1, sSl3.eq_2, dSl3, isS.eq_1, isL.eq_1, isL.eq_2, isA.eq_1, dM0, dM1, sUpper.eq_1, sLower.eq_1, sStrip1.eq_1, sSfind.eq_1, sScount.eq_1, sSindex.eq_1, sSsplit.eq_1, sSjoin.eq_1, sSjoin.eq_2, fPop_snoc, fPop_snoc', startD, wipeD, List.map_cons, List.map_nil, List.length_cons, List.length_nil, List.length_map, List.cons_append, List.nil_append, List.replicate, List.set_cons_zero, List.set_cons_succ, List.set_nil, List.getElem?_cons_zero, List.getElem?_cons_succ, Bool.true_and, Bool.and_true, Bool.and_false, Bool.false_and, Bool.not_true, Bool.not_false, if_true, if_false, Bool.false_eq_true, reduceIte, and_true, true_and, decide_true, decide_false, not_true, Nat.zero_le, Nat.zero_add, Nat.reduceAdd, Nat.reduceSub, D.scal, Option.some.injEq, exists_eq_left', exists_eq_left, exists_eq', D.int.injEq, D.lst.injEq, D.tup.injEq, D.scr.injEq, D.str.injEq, List.cons.injEq, and_self]
    exact q
def T_Lleast : DSp W_ := fun ds w P => ∃ (n l : Nat) (tab : List (List Nat)) (ws : List (List Int)), ds = [.lst (tab.map nL), lwD ws] ∧ GT n l tab ∧ LW n l tab ws ∧ P false (.bl true) w
theorem len_Lleast (ds : List D) (w : W_.Om) (P : Bool → D → W_.Om → Prop) (h : T_Lleast ds w P) : ds.length = 2 := by first | (have h := h.1; subst h; rfl) | (obtain ⟨rfl, _⟩ := h; rfl) | (obtain ⟨_, rfl, _⟩ := h; rfl) | (obtain ⟨_, _, rfl, _⟩ := h; rfl) | (obtain ⟨_, _, _, rfl, _⟩ := h; rfl) | (obtain ⟨_, _, _, _, rfl, _⟩ := h; rfl) | (obtain ⟨_, _, _, _, _, rfl, _⟩ := h; rfl) | (obtain ⟨_, _, _, _, _, _, rfl, _⟩ := h; rfl) | (obtain ⟨_, _, _, _, _, _, _, rfl, _⟩ := h; rfl) | (obtain ⟨_, _, _, _, _, _, _, _, rfl, _⟩ := h; rfl) | (obtain ⟨_, _, _, _, _, _, _, _, _, rfl, _⟩ := h; rfl) | (obtain ⟨_, _, _, _, _, _, _, _, _, _, rfl, _⟩ := h; rfl) | (obtain ⟨_, _, _, _, _, _, _, _, _, _, _, rfl, _⟩ := h; rfl)
def b_Lleast : DS W_ := (dSeq (dFor (dRng1 (oX (dLenW (dVarR 0)))) (gN 2) (dFor (dRng1 (oX (dLenW (oX (dIxW (dVarR 0) (oX (dC (.int 0)))))))) (gN 3) (dSeq (dSet false 4 (dBin sAdd (oX (dC (.int 1))) (oX (dBin sFdiv (dVarR 3) (oX (dC (.int 2)))))))
    (dSeq (dIf (dB (dBin sEq (oX (dBin sMod (dVarR 3) (oX (dC (.int 2))))) (oX (dC (.int 1))))) (dSet false 4 (dBin sSub (oX (dC (.int 0))) (dVarR 4))) dNext)
    (dIf (dTru (oX (dCall T_Lahead (dCons (dBin sAdd (oX (dIxW (dVarR 1) (dVarR 2))) (oX (dTup (dCons (dVar 4) dNil)))) (dCons (dIxW (dVarR 1) (oX (dIxW (oX (dIxW (dVarR 0) (dVarR 2))) (dVarR 3)))) dNil))))) (dRet (dC (.bl false))) dNext)))))
    (dRet (dC (.bl true))))
theorem v_Lleast (ds : List D) (w : W_.Om) (P : Bool → D → W_.Om → Prop) (h : T_Lleast ds w P) : b_Lleast { nx := fun _ w => P false .non w, rt := P } (startD ["_law_table_here", "_law_ways", "_law_room", "_law_k", "_law_step"] ds) w := by
  unfold b_Lleast
  obtain ⟨n, l, tab, ws, rfl, g, lw, q⟩ := h
  have hs := sizeLine_eq
  have htl := g.len
  have hnb := g.nb
  have hlb := g.lb
  obtain ⟨r0, hr0, _, hr0l, _⟩ := g.get (i := 0) (by have := g.n1; omega)
  refine seq_i ?_
  try simp -implicitDefEqProofs only [htl, dNext, dSet, dLst, dTup, dNil, dCons, dConsO, dFor, dRng1_u, dRng2_u, dIt_u, oX, dC, dBin, dUn, dVarR, dVar, dApp, dExt, dUpd0, dPut, dAug, dRet, dRetV, dRetN, dBreak, dCont, dIf, dB_u, dTru_u, dTNot, dTAnd, dTOr, dAndV_u, dOrV_u, dNotV_u, dIfX, dChain_u, dCall, dCallB, dSl, dNoP, dP_u, dLc, dDrop, dFrz, frzD, dAsg, dDicK, dDicT, gN, gT, gsC, gsN, kB.eq_1, kT.eq_1, kT.eq_2, kT.eq_3, kT.eq_4, kT.eq_5, kT.eq_6, kT.eq_7, kT.eq_8, kAnd.eq_1, kOr.eq_1, kNot.eq_1, kIt.eq_1, kIt.eq_2, kIt.eq_3, kIt.eq_4, kP.eq_1, kR1.eq_1, kR2.eq_1, sAdd.eq_1, sAdd.eq_2, sAdd.eq_3, sAdd.eq_4, sJ2.eq_1, sI2.eq_1, sPow, sLt.eq_1, sLt.eq_2, sLe, sGt, sGe, sMul.eq_1, sMul.eq_2, sMulB.eq_1, sMulB.eq_2, sMulB.eq_3, sLR1.eq_1, sLR2.eq_1, sTR1.eq_1, sTR2.eq_1, sIsBl.eq_1, dZip, kZip.eq_1, dDisp1, dIxW, dLenW, dName, dAppW, dPutW, dMelt, dCallBE, kIxW.eq_1, kLenW.eq_1, dLcW, kIxW_lst, kIxW_tup, kIxW_scr, kIxW_str, kIxW_dK, kIxW_dT, kLenW_lst, kLenW_tup, kLenW_scr, kLenW_str, kNm_f, kNm_t, kName, isL.eq_1, isL.eq_2, sNeg.eq_1, sLen.eq_1, sLen.eq_2, sLen.eq_3, sLen.eq_4, sLen.eq_5, sAbs.eq_1, sMax, sMin, sInt.eq_1, sInt.eq_2, sStr.eq_1, sList.eq_1, sList.eq_2, sList.eq_3, sTuple.eq_1, sTuple.eq_2, sTuple.eq_3, sIsN, sNotN, sIx.eq_1, sIx.eq_2, sIx.eq_3, sIx.eq_4, sIx.eq_5, sIx.eq_6, sIx.eq_7, sSl.eq_1, sSl.eq_2, sSl.eq_3, sSl.eq_4, sRev.eq_1, sRev.eq_2, sRev.eq_3, sAddI.eq_1, sAddI.eq_2, sPut.eq_1, sPut.eq_2, sPut.eq_3, sPut.eq_4, D.isNon, sEq_ii, sNe_ii, sEq_ww, sNe_ww, sEq_ll, sNe_ll, sIsi_ii, sIsi_ib, sIsi_ll, sIsi_tt, sIsi_ss, sEq_w, sEq_i, sEq_lw, sEq_lw', sEq_lle, sEq_lle', sNe_w, sNe_i, sNe_lle', sNe_lw', sEq_ss, sNe_ss, sEq_bb, sNe_bb, sIn_iw, sIn_ii, sIn_wl, sIn_wl', sSl3.eq_1, sSl3.eq_2, dSl3, isS.eq_1, isL.eq_1, isL.eq_2, isA.eq_1, dM0, dM1, sUpper.eq_1, sLower.eq_1, sStrip1.eq_1, sSfind.eq_1, sScount.eq_1, sSindex.eq_1, sSsplit.eq_1, sSjoin.eq_1, sSjoin.eq_2, fPop_snoc, fPop_snoc', startD, wipeD, List.map_cons, List.map_nil, List.length_cons, List.length_nil, List.length_map, List.cons_append, List.nil_append, List.replicate, List.set_cons_zero, List.set_cons_succ, List.set_nil, List.getElem?_cons_zero, List.getElem?_cons_succ, Bool.true_and, Bool.and_true, Bool.and_false, Bool.false_and, Bool.not_true, Bool.not_false, if_true, if_false, Bool.false_eq_true, reduceIte, and_true, true_and, decide_true, decide_false, not_true, Nat.zero_le, Nat.zero_add, Nat.reduceAdd, Nat.reduceSub, D.scal, Option.some.injEq, exists_eq_left', exists_eq_left, exists_eq', D.int.injEq, D.lst.injEq, D.tup.injEq, D.scr.injEq, D.str.injEq, List.cons.injEq, and_self]
  refine ⟨⟨by omega, by omega⟩, ?_⟩
  rw [Int.toNat_natCast]
  refine for_rng 0 _ (fun k δ w' => w' = w ∧ ∃ j1 j2 j3, δ = [some (false, .lst (tab.map nL)), some (false, lwD ws), j1, j2, j3]) ⟨rfl, none, none, none, rfl⟩ ?_ ?_
  · rintro r δ w' N C hr ⟨rfl, j1, j2, j3, rfl⟩ hN hC
    obtain ⟨row, ht, htd, hrl, hrlt⟩ := g.get hr
    have hu := List.getElem?_eq_getElem (l := ws) (by rw [lw.len]; exact hr : r < ws.length)
    generalize ws[r]'(by rw [lw.len]; exact hr) = u at hu
    obtain ⟨u1, u2, u3⟩ := lw.ok r u hu
    have hl0 : l ≤ 500 := hlb
    try simp -implicitDefEqProofs only [Int.zero_add, dNext, dSet, dLst, dTup, dNil, dCons, dConsO, dFor, dRng1_u, dRng2_u, dIt_u, oX, dC, dBin, dUn, dVarR, dVar, dApp, dExt, dUpd0, dPut, dAug, dRet, dRetV, dRetN, dBreak, dCont, dIf, dB_u, dTru_u, dTNot, dTAnd, dTOr, dAndV_u, dOrV_u, dNotV_u, dIfX, dChain_u, dCall, dCallB, dSl, dNoP, dP_u, dLc, dDrop, dFrz, frzD, dAsg, dDicK, dDicT, gN, gT, gsC, gsN, kB.eq_1, kT.eq_1, kT.eq_2, kT.eq_3, kT.eq_4, kT.eq_5, kT.eq_6, kT.eq_7, kT.eq_8, kAnd.eq_1, kOr.eq_1, kNot.eq_1, kIt.eq_1, kIt.eq_2, kIt.eq_3, kIt.eq_4, kP.eq_1, kR1.eq_1, kR2.eq_1, sAdd.eq_1, sAdd.eq_2, sAdd.eq_3, sAdd.eq_4, sJ2.eq_1, sI2.eq_1, sPow, sLt.eq_1, sLt.eq_2, sLe, sGt, sGe, sMul.eq_1, sMul.eq_2, sMulB.eq_1, sMulB.eq_2, sMulB.eq_3, sLR1.eq_1, sLR2.eq_1, sTR1.eq_1, sTR2.eq_1, sIsBl.eq_1, dZip, kZip.eq_1, dDisp1, dIxW, dLenW, dName, dAppW, dPutW, dMelt, dCallBE, kIxW.eq_1, kLenW.eq_1, dLcW, kIxW_lst, kIxW_tup, kIxW_scr, kIxW_str, kIxW_dK, kIxW_dT, kLenW_lst, kLenW_tup, kLenW_scr, kLenW_str, kNm_f, kNm_t, kName, isL.eq_1, isL.eq_2, sNeg.eq_1, sLen.eq_1, sLen.eq_2, sLen.eq_3, sLen.eq_4, sLen.eq_5, sAbs.eq_1, sMax, sMin, sInt.eq_1, sInt.eq_2, sStr.eq_1, sList.eq_1, sList.eq_2, sList.eq_3, sTuple.eq_1, sTuple.eq_2, sTuple.eq_3, sIsN, sNotN, sIx.eq_1, sIx.eq_2, sIx.eq_3, sIx.eq_4, sIx.eq_5, sIx.eq_6, sIx.eq_7, sSl.eq_1, sSl.eq_2, sSl.eq_3, sSl.eq_4, sRev.eq_1, sRev.eq_2, sRev.eq_3, sAddI.eq_1, sAddI.eq_2, sPut.eq_1, sPut.eq_2, sPut.eq_3, sPut.eq_4, D.isNon, sEq_ii, sNe_ii, sEq_ww, sNe_ww, sEq_ll, sNe_ll, sIsi_ii, sIsi_ib, sIsi_ll, sIsi_tt, sIsi_ss, sEq_w, sEq_i, sEq_lw, sEq_lw', sEq_lle, sEq_lle', sNe_w, sNe_i, sNe_lle', sNe_lw', sEq_ss, sNe_ss, sEq_bb, sNe_bb, sIn_iw, sIn_ii, sIn_wl, sIn_wl', sSl3.eq_1, sSl3.eq_2, dSl3, isS.eq_1, isL.eq_1, isL.eq_2, isA.eq_1, dM0, dM1, sUpper.eq_1, sLower.eq_1, sStrip1.eq_1, sSfind.eq_1, sScount.eq_1, sSindex.eq_1, sSsplit.eq_1, sSjoin.eq_1, sSjoin.eq_2, fPop_snoc, fPop_snoc', startD, wipeD, List.map_cons, List.map_nil, List.length_cons, List.length_nil, List.length_map, List.cons_append, List.nil_append, List.replicate, List.set_cons_zero, List.set_cons_succ, List.set_nil, List.getElem?_cons_zero, List.getElem?_cons_succ, Bool.true_and, Bool.and_true, Bool.and_false, Bool.false_and, Bool.not_true, Bool.not_false, if_true, if_false, Bool.false_eq_true, reduceIte, and_true, true_and, decide_true, decide_false, not_true, Nat.zero_le, Nat.zero_add, Nat.reduceAdd, Nat.reduceSub, D.scal, Option.some.injEq, exists_eq_left', exists_eq_left, exists_eq', D.int.injEq, D.lst.injEq, D.tup.injEq, D.scr.injEq, D.str.injEq, List.cons.injEq, and_self]
    refine ⟨nL r0, atI_f nL (k := 0) (by omega) hr0, ?_⟩
    try simp -implicitDefEqProofs only [nL, hr0l, dNext, dSet, dLst, dTup, dNil, dCons, dConsO, dFor, dRng1_u, dRng2_u, dIt_u, oX, dC, dBin, dUn, dVarR, dVar, dApp, dExt, dUpd0, dPut, dAug, dRet, dRetV, dRetN, dBreak, dCont, dIf, dB_u, dTru_u, dTNot, dTAnd, dTOr, dAndV_u, dOrV_u, dNotV_u, dIfX, dChain_u, dCall, dCallB, dSl, dNoP, dP_u, dLc, dDrop, dFrz, frzD, dAsg, dDicK, dDicT, gN, gT, gsC, gsN, kB.eq_1, kT.eq_1, kT.eq_2, kT.eq_3, kT.eq_4, kT.eq_5, kT.eq_6, kT.eq_7, kT.eq_8, kAnd.eq_1, kOr.eq_1, kNot.eq_1, kIt.eq_1, kIt.eq_2, kIt.eq_3, kIt.eq_4, kP.eq_1, kR1.eq_1, kR2.eq_1, sAdd.eq_1, sAdd.eq_2, sAdd.eq_3, sAdd.eq_4, sJ2.eq_1, sI2.eq_1, sPow, sLt.eq_1, sLt.eq_2, sLe, sGt, sGe, sMul.eq_1, sMul.eq_2, sMulB.eq_1, sMulB.eq_2, sMulB.eq_3, sLR1.eq_1, sLR2.eq_1, sTR1.eq_1, sTR2.eq_1, sIsBl.eq_1, dZip, kZip.eq_1, dDisp1, dIxW, dLenW, dName, dAppW, dPutW, dMelt, dCallBE, kIxW.eq_1, kLenW.eq_1, dLcW, kIxW_lst, kIxW_tup, kIxW_scr, kIxW_str, kIxW_dK, kIxW_dT, kLenW_lst, kLenW_tup, kLenW_scr, kLenW_str, kNm_f, kNm_t, kName, isL.eq_1, isL.eq_2, sNeg.eq_1, sLen.eq_1, sLen.eq_2, sLen.eq_3, sLen.eq_4, sLen.eq_5, sAbs.eq_1, sMax, sMin, sInt.eq_1, sInt.eq_2, sStr.eq_1, sList.eq_1, sList.eq_2, sList.eq_3, sTuple.eq_1, sTuple.eq_2, sTuple.eq_3, sIsN, sNotN, sIx.eq_1, sIx.eq_2, sIx.eq_3, sIx.eq_4, sIx.eq_5, sIx.eq_6, sIx.eq_7, sSl.eq_1, sSl.eq_2, sSl.eq_3, sSl.eq_4, sRev.eq_1, sRev.eq_2, sRev.eq_3, sAddI.eq_1, sAddI.eq_2, sPut.eq_1, sPut.eq_2, sPut.eq_3, sPut.eq_4, D.isNon, sEq_ii, sNe_ii, sEq_ww, sNe_ww, sEq_ll, sNe_ll, sIsi_ii, sIsi_ib, sIsi_ll, sIsi_tt, sIsi_ss, sEq_w, sEq_i, sEq_lw, sEq_lw', sEq_lle, sEq_lle', sNe_w, sNe_i, sNe_lle', sNe_lw', sEq_ss, sNe_ss, sEq_bb, sNe_bb, sIn_iw, sIn_ii, sIn_wl, sIn_wl', sSl3.eq_1, sSl3.eq_2, dSl3, isS.eq_1, isL.eq_1, isL.eq_2, isA.eq_1, dM0, dM1, sUpper.eq_1, sLower.eq_1, sStrip1.eq_1, sSfind.eq_1, sScount.eq_1, sSindex.eq_1, sSsplit.eq_1, sSjoin.eq_1, sSjoin.eq_2, fPop_snoc, fPop_snoc', startD, wipeD, List.map_cons, List.map_nil, List.length_cons, List.length_nil, List.length_map, List.cons_append, List.nil_append, List.replicate, List.set_cons_zero, List.set_cons_succ, List.set_nil, List.getElem?_cons_zero, List.getElem?_cons_succ, Bool.true_and, Bool.and_true, Bool.and_false, Bool.false_and, Bool.not_true, Bool.not_false, if_true, if_false, Bool.false_eq_true, reduceIte, and_true, true_and, decide_true, decide_false, not_true, Nat.zero_le, Nat.zero_add, Nat.reduceAdd, Nat.reduceSub, D.scal, Option.some.injEq, exists_eq_left', exists_eq_left, exists_eq', D.int.injEq, D.lst.injEq, D.tup.injEq, D.scr.injEq, D.str.injEq, List.cons.injEq, and_self]
    refine ⟨⟨by omega, by omega⟩, ?_⟩
    rw [Int.toNat_natCast]
    refine for_rng 0 _ (fun k δ w2 => w2 = w' ∧ ∃ j2 j3, δ = [some (false, .lst (tab.map nL)), some (false, lwD ws), some (false, .int r), j2, j3]) ⟨rfl, j2, j3, by simp [lwD]⟩ ?_ ?_
    · rintro k δ w2 N2 C2 hk ⟨rfl, j2, j3, rfl⟩ hN2 hC2
      have hv := List.getElem?_eq_getElem (l := ws) (by rw [lw.len]; exact hrlt k hk : ap row k < ws.length)
      generalize ws[ap row k]'(by rw [lw.len]; exact hrlt k hk) = v at hv
      obtain ⟨v1, v2, v3⟩ := lw.ok _ v hv
      refine seq_i ?_
      try simp -implicitDefEqProofs only [Int.zero_add, dNext, dSet, dLst, dTup, dNil, dCons, dConsO, dFor, dRng1_u, dRng2_u, dIt_u, oX, dC, dBin, dUn, dVarR, dVar, dApp, dExt, dUpd0, dPut, dAug, dRet, dRetV, dRetN, dBreak, dCont, dIf, dB_u, dTru_u, dTNot, dTAnd, dTOr, dAndV_u, dOrV_u, dNotV_u, dIfX, dChain_u, dCall, dCallB, dSl, dNoP, dP_u, dLc, dDrop, dFrz, frzD, dAsg, dDicK, dDicT, gN, gT, gsC, gsN, kB.eq_1, kT.eq_1, kT.eq_2, kT.eq_3, kT.eq_4, kT.eq_5, kT.eq_6, kT.eq_7, kT.eq_8, kAnd.eq_1, kOr.eq_1, kNot.eq_1, kIt.eq_1, kIt.eq_2, kIt.eq_3, kIt.eq_4, kP.eq_1, kR1.eq_1, kR2.eq_1, sAdd.eq_1, sAdd.eq_2, sAdd.eq_3, sAdd.eq_4, sJ2.eq_1, sI2.eq_1, sPow, sLt.eq_1, sLt.eq_2, sLe, sGt, sGe, sMul.eq_1, sMul.eq_2, sMulB.eq_1, sMulB.eq_2, sMulB.eq_3, sLR1.eq_1, sLR2.eq_1, sTR1.eq_1, sTR2.eq_1, sIsBl.eq_1, dZip, kZip.eq_1, dDisp1, dIxW, dLenW, dName, dAppW, dPutW, dMelt, dCallBE, kIxW.eq_1, kLenW.eq_1, dLcW, kIxW_lst, kIxW_tup, kIxW_scr, kIxW_str, kIxW_dK, kIxW_dT, kLenW_lst, kLenW_tup, kLenW_scr, kLenW_str, kNm_f, kNm_t, kName, isL.eq_1, isL.eq_2, sNeg.eq_1, sLen.eq_1, sLen.eq_2, sLen.eq_3, sLen.eq_4, sLen.eq_5, sAbs.eq_1, sMax, sMin, sInt.eq_1, sInt.eq_2, sStr.eq_1, sList.eq_1, sList.eq_2, sList.eq_3, sTuple.eq_1, sTuple.eq_2, sTuple.eq_3, sIsN, sNotN, sIx.eq_1, sIx.eq_2, sIx.eq_3, sIx.eq_4, sIx.eq_5, sIx.eq_6, sIx.eq_7, sSl.eq_1, sSl.eq_2, sSl.eq_3, sSl.eq_4, sRev.eq_1, sRev.eq_2, sRev.eq_3, sAddI.eq_1, sAddI.eq_2, sPut.eq_1, sPut.eq_2, sPut.eq_3, sPut.eq_4, D.isNon, sEq_ii, sNe_ii, sEq_ww, sNe_ww, sEq_ll, sNe_ll, sIsi_ii, sIsi_ib, sIsi_ll, sIsi_tt, sIsi_ss, sEq_w, sEq_i, sEq_lw, sEq_lw', sEq_lle, sEq_lle', sNe_w, sNe_i, sNe_lle', sNe_lw', sEq_ss, sNe_ss, sEq_bb, sNe_bb, sIn_iw, sIn_ii, sIn_wl, sIn_wl', sSl3.eq_1, sSl3.eq_2, dSl3, isS.eq_1, isL.eq_1, isL.eq_2, isA.eq_1, dM0, dM1, sUpper.eq_1, sLower.eq_1, sStrip1.eq_1, sSfind.eq_1, sScount.eq_1, sSindex.eq_1, sSsplit.eq_1, sSjoin.eq_1, sSjoin.eq_2, fPop_snoc, fPop_snoc', startD, wipeD, List.map_cons, List.map_nil, List.length_cons, List.length_nil, List.length_map, List.cons_append, List.nil_append, List.replicate, List.set_cons_zero, List.set_cons_succ, List.set_nil, List.getElem?_cons_zero, List.getElem?_cons_succ, Bool.true_and, Bool.and_true, Bool.and_false, Bool.false_and, Bool.not_true, Bool.not_false, if_true, if_false, Bool.false_eq_true, reduceIte, and_true, true_and, decide_true, decide_false, not_true, Nat.zero_le, Nat.zero_add, Nat.reduceAdd, Nat.reduceSub, D.scal, Option.some.injEq, exists_eq_left', exists_eq_left, exists_eq', D.int.injEq, D.lst.injEq, D.tup.injEq, D.scr.injEq, D.str.injEq, List.cons.injEq, and_self]
      refine ⟨divC (by omega) (by omega), ?_⟩
      refine seq_cut (fun δ w => w = w2 ∧ δ = [some (false, .lst (tab.map nL)), some (false, lwD ws), some (false, .int r), some (false, .int k), some (false, .int (stp k))]) (fun N h => ?_) ?_
      · try simp -implicitDefEqProofs only [dNext, dSet, dLst, dTup, dNil, dCons, dConsO, dFor, dRng1_u, dRng2_u, dIt_u, oX, dC, dBin, dUn, dVarR, dVar, dApp, dExt, dUpd0, dPut, dAug, dRet, dRetV, dRetN, dBreak, dCont, dIf, dB_u, dTru_u, dTNot, dTAnd, dTOr, dAndV_u, dOrV_u, dNotV_u, dIfX, dChain_u, dCall, dCallB, dSl, dNoP, dP_u, dLc, dDrop, dFrz, frzD, dAsg, dDicK, dDicT, gN, gT, gsC, gsN, kB.eq_1, kT.eq_1, kT.eq_2, kT.eq_3, kT.eq_4, kT.eq_5, kT.eq_6, kT.eq_7, kT.eq_8, kAnd.eq_1, kOr.eq_1, kNot.eq_1, kIt.eq_1, kIt.eq_2, kIt.eq_3, kIt.eq_4, kP.eq_1, kR1.eq_1, kR2.eq_1, sAdd.eq_1, sAdd.eq_2, sAdd.eq_3, sAdd.eq_4, sJ2.eq_1, sI2.eq_1, sPow, sLt.eq_1, sLt.eq_2, sLe, sGt, sGe, sMul.eq_1, sMul.eq_2, sMulB.eq_1, sMulB.eq_2, sMulB.eq_3, sLR1.eq_1, sLR2.eq_1, sTR1.eq_1, sTR2.eq_1, sIsBl.eq_1, dZip, kZip.eq_1, dDisp1, dIxW, dLenW, dName, dAppW, dPutW, dMelt, dCallBE, kIxW.eq_1, kLenW.eq_1, dLcW, kIxW_lst, kIxW_tup, kIxW_scr, kIxW_str, kIxW_dK, kIxW_dT, kLenW_lst, kLenW_tup, kLenW_scr, kLenW_str, kNm_f, kNm_t, kName, isL.eq_1, isL.eq_2, sNeg.eq_1, sLen.eq_1, sLen.eq_2, sLen.eq_3, sLen.eq_4, sLen.eq_5, sAbs.eq_1, sMax, sMin, sInt.eq_1, sInt.eq_2, sStr.eq_1, sList.eq_1, sList.eq_2, sList.eq_3, sTuple.eq_1, sTuple.eq_2, sTuple.eq_3, sIsN, sNotN, sIx.eq_1, sIx.eq_2, sIx.eq_3, sIx.eq_4, sIx.eq_5, sIx.eq_6, sIx.eq_7, sSl.eq_1, sSl.eq_2, sSl.eq_3, sSl.eq_4, sRev.eq_1, sRev.eq_2, sRev.eq_3, sAddI.eq_1, sAddI.eq_2, sPut.eq_1, sPut.eq_2, sPut.eq_3, sPut.eq_4, D.isNon, sEq_ii, sNe_ii, sEq_ww, sNe_ww, sEq_ll, sNe_ll, sIsi_ii, sIsi_ib, sIsi_ll, sIsi_tt, sIsi_ss, sEq_w, sEq_i, sEq_lw, sEq_lw', sEq_lle, sEq_lle', sNe_w, sNe_i, sNe_lle', sNe_lw', sEq_ss, sNe_ss, sEq_bb, sNe_bb, sIn_iw, sIn_ii, sIn_wl, sIn_wl', sSl3.eq_1, sSl3.eq_2, dSl3, isS.eq_1, isL.eq_1, isL.eq_2, isA.eq_1, dM0, dM1, sUpper.eq_1, sLower.eq_1, sStrip1.eq_1, sSfind.eq_1, sScount.eq_1, sSindex.eq_1, sSsplit.eq_1, sSjoin.eq_1, sSjoin.eq_2, fPop_snoc, fPop_snoc', startD, wipeD, List.map_cons, List.map_nil, List.length_cons, List.length_nil, List.length_map, List.cons_append, List.nil_append, List.replicate, List.set_cons_zero, List.set_cons_succ, List.set_nil, List.getElem?_cons_zero, List.getElem?_cons_succ, Bool.true_and, Bool.and_true, Bool.and_false, Bool.false_and, Bool.not_true, Bool.not_false, if_true, if_false, Bool.false_eq_true, reduceIte, and_true, true_and, decide_true, decide_false, not_true, Nat.zero_le, Nat.zero_add, Nat.reduceAdd, Nat.reduceSub, D.scal, Option.some.injEq, exists_eq_left', exists_eq_left, exists_eq', D.int.injEq, D.lst.injEq, D.tup.injEq, D.scr.injEq, D.str.injEq, List.cons.injEq, and_self]
        refine ⟨by omega, if_join (fun h1 => ?_) (fun h1 => ?_)⟩
        · have := h _ _ ⟨rfl, rfl⟩
          unfold stp at this
          simp at h1
          rw [if_neg (by omega)] at this
          rw [show (0 : Int) - (1 + (k : Int) / 2) = -(((k / 2 : Nat) : Int) + 1) by omega]
          exact this
        · have := h _ _ ⟨rfl, rfl⟩
          unfold stp at this
          simp at h1
          rw [if_pos (by omega)] at this
          rw [show 1 + (k : Int) / 2 = ((k / 2 : Nat) : Int) + 1 by omega]
          exact this
      rintro δ w ⟨rfl, rfl⟩
      try simp -implicitDefEqProofs only [lwD, dNext, dSet, dLst, dTup, dNil, dCons, dConsO, dFor, dRng1_u, dRng2_u, dIt_u, oX, dC, dBin, dUn, dVarR, dVar, dApp, dExt, dUpd0, dPut, dAug, dRet, dRetV, dRetN, dBreak, dCont, dIf, dB_u, dTru_u, dTNot, dTAnd, dTOr, dAndV_u, dOrV_u, dNotV_u, dIfX, dChain_u, dCall, dCallB, dSl, dNoP, dP_u, dLc, dDrop, dFrz, frzD, dAsg, dDicK, dDicT, gN, gT, gsC, gsN, kB.eq_1, kT.eq_1, kT.eq_2, kT.eq_3, kT.eq_4, kT.eq_5, kT.eq_6, kT.eq_7, kT.eq_8, kAnd.eq_1, kOr.eq_1, kNot.eq_1, kIt.eq_1, kIt.eq_2, kIt.eq_3, kIt.eq_4, kP.eq_1, kR1.eq_1, kR2.eq_1, sAdd.eq_1, sAdd.eq_2, sAdd.eq_3, sAdd.eq_4, sJ2.eq_1, sI2.eq_1, sPow, sLt.eq_1, sLt.eq_2, sLe, sGt, sGe, sMul.eq_1, sMul.eq_2, sMulB.eq_1, sMulB.eq_2, sMulB.eq_3, sLR1.eq_1, sLR2.eq_1, sTR1.eq_1, sTR2.eq_1, sIsBl.eq_1, dZip, kZip.eq_1, dDisp1, dIxW, dLenW, dName, dAppW, dPutW, dMelt, dCallBE, kIxW.eq_1, kLenW.eq_1, dLcW, kIxW_lst, kIxW_tup, kIxW_scr, kIxW_str, kIxW_dK, kIxW_dT, kLenW_lst, kLenW_tup, kLenW_scr, kLenW_str, kNm_f, kNm_t, kName, isL.eq_1, isL.eq_2, sNeg.eq_1, sLen.eq_1, sLen.eq_2, sLen.eq_3, sLen.eq_4, sLen.eq_5, sAbs.eq_1, sMax, sMin, sInt.eq_1, sInt.eq_2, sStr.eq_1, sList.eq_1, sList.eq_2, sList.eq_3, sTuple.eq_1, sTuple.eq_2, sTuple.eq_3, sIsN, sNotN, sIx.eq_1, sIx.eq_2, sIx.eq_3, sIx.eq_4, sIx.eq_5, sIx.eq_6, sIx.eq_7, sSl.eq_1, sSl.eq_2, sSl.eq_3, sSl.eq_4, sRev.eq_1, sRev.eq_2, sRev.eq_3, sAddI.eq_1, sAddI.eq_2, sPut.eq_1, sPut.eq_2, sPut.eq_3, sPut.eq_4, D.isNon, sEq_ii, sNe_ii, sEq_ww, sNe_ww, sEq_ll, sNe_ll, sIsi_ii, sIsi_ib, sIsi_ll, sIsi_tt, sIsi_ss, sEq_w, sEq_i, sEq_lw, sEq_lw', sEq_lle, sEq_lle', sNe_w, sNe_i, sNe_lle', sNe_lw', sEq_ss, sNe_ss, sEq_bb, sNe_bb, sIn_iw, sIn_ii, sIn_wl, sIn_wl', sSl3.eq_1, sSl3.eq_2, dSl3, isS.eq_1, isL.eq_1, isL.eq_2, isA.eq_1, dM0, dM1, sUpper.eq_1, sLower.eq_1, sStrip1.eq_1, sSfind.eq_1, sScount.eq_1, sSindex.eq_1, sSsplit.eq_1, sSjoin.eq_1, sSjoin.eq_2, fPop_snoc, fPop_snoc', startD, wipeD, List.map_cons, List.map_nil, List.length_cons, List.length_nil, List.length_map, List.cons_append, List.nil_append, List.replicate, List.set_cons_zero, List.set_cons_succ, List.set_nil, List.getElem?_cons_zero, List.getElem?_cons_succ, Bool.true_and, Bool.and_true, Bool.and_false, Bool.false_and, Bool.not_true, Bool.not_false, if_true, if_false, Bool.false_eq_true, reduceIte, and_true, true_and, decide_true, decide_false, not_true, Nat.zero_le, Nat.zero_add, Nat.reduceAdd, Nat.reduceSub, D.scal, Option.some.injEq, exists_eq_left', exists_eq_left, exists_eq', D.int.injEq, D.lst.injEq, D.tup.injEq, D.scr.injEq, D.str.injEq, List.cons.injEq, and_self]
      refine ⟨wD u, atI_f wD (by omega) (by rw [Int.toNat_natCast]; exact hu), ?_⟩
      try simp -implicitDefEqProofs only [wD, dNext, dSet, dLst, dTup, dNil, dCons, dConsO, dFor, dRng1_u, dRng2_u, dIt_u, oX, dC, dBin, dUn, dVarR, dVar, dApp, dExt, dUpd0, dPut, dAug, dRet, dRetV, dRetN, dBreak, dCont, dIf, dB_u, dTru_u, dTNot, dTAnd, dTOr, dAndV_u, dOrV_u, dNotV_u, dIfX, dChain_u, dCall, dCallB, dSl, dNoP, dP_u, dLc, dDrop, dFrz, frzD, dAsg, dDicK, dDicT, gN, gT, gsC, gsN, kB.eq_1, kT.eq_1, kT.eq_2, kT.eq_3, kT.eq_4, kT.eq_5, kT.eq_6, kT.eq_7, kT.eq_8, kAnd.eq_1, kOr.eq_1, kNot.eq_1, kIt.eq_1, kIt.eq_2, kIt.eq_3, kIt.eq_4, kP.eq_1, kR1.eq_1, kR2.eq_1, sAdd.eq_1, sAdd.eq_2, sAdd.eq_3, sAdd.eq_4, sJ2.eq_1, sI2.eq_1, sPow, sLt.eq_1, sLt.eq_2, sLe, sGt, sGe, sMul.eq_1, sMul.eq_2, sMulB.eq_1, sMulB.eq_2, sMulB.eq_3, sLR1.eq_1, sLR2.eq_1, sTR1.eq_1, sTR2.eq_1, sIsBl.eq_1, dZip, kZip.eq_1, dDisp1, dIxW, dLenW, dName, dAppW, dPutW, dMelt, dCallBE, kIxW.eq_1, kLenW.eq_1, dLcW, kIxW_lst, kIxW_tup, kIxW_scr, kIxW_str, kIxW_dK, kIxW_dT, kLenW_lst, kLenW_tup, kLenW_scr, kLenW_str, kNm_f, kNm_t, kName, isL.eq_1, isL.eq_2, sNeg.eq_1, sLen.eq_1, sLen.eq_2, sLen.eq_3, sLen.eq_4, sLen.eq_5, sAbs.eq_1, sMax, sMin, sInt.eq_1, sInt.eq_2, sStr.eq_1, sList.eq_1, sList.eq_2, sList.eq_3, sTuple.eq_1, sTuple.eq_2, sTuple.eq_3, sIsN, sNotN, sIx.eq_1, sIx.eq_2, sIx.eq_3, sIx.eq_4, sIx.eq_5, sIx.eq_6, sIx.eq_7, sSl.eq_1, sSl.eq_2, sSl.eq_3, sSl.eq_4, sRev.eq_1, sRev.eq_2, sRev.eq_3, sAddI.eq_1, sAddI.eq_2, sPut.eq_1, sPut.eq_2, sPut.eq_3, sPut.eq_4, D.isNon, sEq_ii, sNe_ii, sEq_ww, sNe_ww, sEq_ll, sNe_ll, sIsi_ii, sIsi_ib, sIsi_ll, sIsi_tt, sIsi_ss, sEq_w, sEq_i, sEq_lw, sEq_lw', sEq_lle, sEq_lle', sNe_w, sNe_i, sNe_lle', sNe_lw', sEq_ss, sNe_ss, sEq_bb, sNe_bb, sIn_iw, sIn_ii, sIn_wl, sIn_wl', sSl3.eq_1, sSl3.eq_2, dSl3, isS.eq_1, isL.eq_1, isL.eq_2, isA.eq_1, dM0, dM1, sUpper.eq_1, sLower.eq_1, sStrip1.eq_1, sSfind.eq_1, sScount.eq_1, sSindex.eq_1, sSsplit.eq_1, sSjoin.eq_1, sSjoin.eq_2, fPop_snoc, fPop_snoc', startD, wipeD, List.map_cons, List.map_nil, List.length_cons, List.length_nil, List.length_map, List.cons_append, List.nil_append, List.replicate, List.set_cons_zero, List.set_cons_succ, List.set_nil, List.getElem?_cons_zero, List.getElem?_cons_succ, Bool.true_and, Bool.and_true, Bool.and_false, Bool.false_and, Bool.not_true, Bool.not_false, if_true, if_false, Bool.false_eq_true, reduceIte, and_true, true_and, decide_true, decide_false, not_true, Nat.zero_le, Nat.zero_add, Nat.reduceAdd, Nat.reduceSub, D.scal, Option.some.injEq, exists_eq_left', exists_eq_left, exists_eq', D.int.injEq, D.lst.injEq, D.tup.injEq, D.scr.injEq, D.str.injEq, List.cons.injEq, and_self]
      refine ⟨by omega, by omega, nL row, atI_f nL (by omega) (by rw [Int.toNat_natCast]; exact ht), ?_⟩
      try simp -implicitDefEqProofs only [nL, dNext, dSet, dLst, dTup, dNil, dCons, dConsO, dFor, dRng1_u, dRng2_u, dIt_u, oX, dC, dBin, dUn, dVarR, dVar, dApp, dExt, dUpd0, dPut, dAug, dRet, dRetV, dRetN, dBreak, dCont, dIf, dB_u, dTru_u, dTNot, dTAnd, dTOr, dAndV_u, dOrV_u, dNotV_u, dIfX, dChain_u, dCall, dCallB, dSl, dNoP, dP_u, dLc, dDrop, dFrz, frzD, dAsg, dDicK, dDicT, gN, gT, gsC, gsN, kB.eq_1, kT.eq_1, kT.eq_2, kT.eq_3, kT.eq_4, kT.eq_5, kT.eq_6, kT.eq_7, kT.eq_8, kAnd.eq_1, kOr.eq_1, kNot.eq_1, kIt.eq_1, kIt.eq_2, kIt.eq_3, kIt.eq_4, kP.eq_1, kR1.eq_1, kR2.eq_1, sAdd.eq_1, sAdd.eq_2, sAdd.eq_3, sAdd.eq_4, sJ2.eq_1, sI2.eq_1, sPow, sLt.eq_1, sLt.eq_2, sLe, sGt, sGe, sMul.eq_1, sMul.eq_2, sMulB.eq_1, sMulB.eq_2, sMulB.eq_3, sLR1.eq_1, sLR2.eq_1, sTR1.eq_1, sTR2.eq_1, sIsBl.eq_1, dZip, kZip.eq_1, dDisp1, dIxW, dLenW, dName, dAppW, dPutW, dMelt, dCallBE, kIxW.eq_1, kLenW.eq_1, dLcW, kIxW_lst, kIxW_tup, kIxW_scr, kIxW_str, kIxW_dK, kIxW_dT, kLenW_lst, kLenW_tup, kLenW_scr, kLenW_str, kNm_f, kNm_t, kName, isL.eq_1, isL.eq_2, sNeg.eq_1, sLen.eq_1, sLen.eq_2, sLen.eq_3, sLen.eq_4, sLen.eq_5, sAbs.eq_1, sMax, sMin, sInt.eq_1, sInt.eq_2, sStr.eq_1, sList.eq_1, sList.eq_2, sList.eq_3, sTuple.eq_1, sTuple.eq_2, sTuple.eq_3, sIsN, sNotN, sIx.eq_1, sIx.eq_2, sIx.eq_3, sIx.eq_4, sIx.eq_5, sIx.eq_6, sIx.eq_7, sSl.eq_1, sSl.eq_2, sSl.eq_3, sSl.eq_4, sRev.eq_1, sRev.eq_2, sRev.eq_3, sAddI.eq_1, sAddI.eq_2, sPut.eq_1, sPut.eq_2, sPut.eq_3, sPut.eq_4, D.isNon, sEq_ii, sNe_ii, sEq_ww, sNe_ww, sEq_ll, sNe_ll, sIsi_ii, sIsi_ib, sIsi_ll, sIsi_tt, sIsi_ss, sEq_w, sEq_i, sEq_lw, sEq_lw', sEq_lle, sEq_lle', sNe_w, sNe_i, sNe_lle', sNe_lw', sEq_ss, sNe_ss, sEq_bb, sNe_bb, sIn_iw, sIn_ii, sIn_wl, sIn_wl', sSl3.eq_1, sSl3.eq_2, dSl3, isS.eq_1, isL.eq_1, isL.eq_2, isA.eq_1, dM0, dM1, sUpper.eq_1, sLower.eq_1, sStrip1.eq_1, sSfind.eq_1, sScount.eq_1, sSindex.eq_1, sSsplit.eq_1, sSjoin.eq_1, sSjoin.eq_2, fPop_snoc, fPop_snoc', startD, wipeD, List.map_cons, List.map_nil, List.length_cons, List.length_nil, List.length_map, List.cons_append, List.nil_append, List.replicate, List.set_cons_zero, List.set_cons_succ, List.set_nil, List.getElem?_cons_zero, List.getElem?_cons_succ, Bool.true_and, Bool.and_true, Bool.and_false, Bool.false_and, Bool.not_true, Bool.not_false, if_true, if_false, Bool.false_eq_true, reduceIte, and_true, true_and, decide_true, decide_false, not_true, Nat.zero_le, Nat.zero_add, Nat.reduceAdd, Nat.reduceSub, D.scal, Option.some.injEq, exists_eq_left', exists_eq_left, exists_eq', D.int.injEq, D.lst.injEq, D.tup.injEq, D.scr.injEq, D.str.injEq, List.cons.injEq, and_self]
      refine ⟨_, atI_n (by rw [hrl]; exact hk), wD v, atI_f wD (by omega) (by rw [Int.toNat_natCast]; exact hv), ?_⟩
      have hst : StT l (u ++ [stp k]) := fun x hx => by
        rcases List.mem_append.mp hx with h | h
        · exact u2 x h
        · simp at h; subst h; exact stp_ok hk
      refine ⟨l, u ++ [stp k], v, by simp [wD], hst, v2, hlb, by simp; omega, ?_⟩
      have hn : ¬ sl (sp (u ++ [stp k])) (sp v) := not_sl_of_sle (lw.mn _ v _ hv hst (by rw [lead_snoc, u1, htd, stp_spot]))
      try simp -implicitDefEqProofs only [dNext, dSet, dLst, dTup, dNil, dCons, dConsO, dFor, dRng1_u, dRng2_u, dIt_u, oX, dC, dBin, dUn, dVarR, dVar, dApp, dExt, dUpd0, dPut, dAug, dRet, dRetV, dRetN, dBreak, dCont, dIf, dB_u, dTru_u, dTNot, dTAnd, dTOr, dAndV_u, dOrV_u, dNotV_u, dIfX, dChain_u, dCall, dCallB, dSl, dNoP, dP_u, dLc, dDrop, dFrz, frzD, dAsg, dDicK, dDicT, gN, gT, gsC, gsN, kB.eq_1, kT.eq_1, kT.eq_2, kT.eq_3, kT.eq_4, kT.eq_5, kT.eq_6, kT.eq_7, kT.eq_8, kAnd.eq_1, kOr.eq_1, kNot.eq_1, kIt.eq_1, kIt.eq_2, kIt.eq_3, kIt.eq_4, kP.eq_1, kR1.eq_1, kR2.eq_1, sAdd.eq_1, sAdd.eq_2, sAdd.eq_3, sAdd.eq_4, sJ2.eq_1, sI2.eq_1, sPow, sLt.eq_1, sLt.eq_2, sLe, sGt, sGe, sMul.eq_1, sMul.eq_2, sMulB.eq_1, sMulB.eq_2, sMulB.eq_3, sLR1.eq_1, sLR2.eq_1, sTR1.eq_1, sTR2.eq_1, sIsBl.eq_1, dZip, kZip.eq_1, dDisp1, dIxW, dLenW, dName, dAppW, dPutW, dMelt, dCallBE, kIxW.eq_1, kLenW.eq_1, dLcW, kIxW_lst, kIxW_tup, kIxW_scr, kIxW_str, kIxW_dK, kIxW_dT, kLenW_lst, kLenW_tup, kLenW_scr, kLenW_str, kNm_f, kNm_t, kName, isL.eq_1, isL.eq_2, sNeg.eq_1, sLen.eq_1, sLen.eq_2, sLen.eq_3, sLen.eq_4, sLen.eq_5, sAbs.eq_1, sMax, sMin, sInt.eq_1, sInt.eq_2, sStr.eq_1, sList.eq_1, sList.eq_2, sList.eq_3, sTuple.eq_1, sTuple.eq_2, sTuple.eq_3, sIsN, sNotN, sIx.eq_1, sIx.eq_2, sIx.eq_3, sIx.eq_4, sIx.eq_5, sIx.eq_6, sIx.eq_7, sSl.eq_1, sSl.eq_2, sSl.eq_3, sSl.eq_4, sRev.eq_1, sRev.eq_2, sRev.eq_3, sAddI.eq_1, sAddI.eq_2, sPut.eq_1, sPut.eq_2, sPut.eq_3, sPut.eq_4, D.isNon, sEq_ii, sNe_ii, sEq_ww, sNe_ww, sEq_ll, sNe_ll, sIsi_ii, sIsi_ib, sIsi_ll, sIsi_tt, sIsi_ss, sEq_w, sEq_i, sEq_lw, sEq_lw', sEq_lle, sEq_lle', sNe_w, sNe_i, sNe_lle', sNe_lw', sEq_ss, sNe_ss, sEq_bb, sNe_bb, sIn_iw, sIn_ii, sIn_wl, sIn_wl', sSl3.eq_1, sSl3.eq_2, dSl3, isS.eq_1, isL.eq_1, isL.eq_2, isA.eq_1, dM0, dM1, sUpper.eq_1, sLower.eq_1, sStrip1.eq_1, sSfind.eq_1, sScount.eq_1, sSindex.eq_1, sSsplit.eq_1, sSjoin.eq_1, sSjoin.eq_2, fPop_snoc, fPop_snoc', startD, wipeD, List.map_cons, List.map_nil, List.length_cons, List.length_nil, List.length_map, List.cons_append, List.nil_append, List.replicate, List.set_cons_zero, List.set_cons_succ, List.set_nil, List.getElem?_cons_zero, List.getElem?_cons_succ, Bool.true_and, Bool.and_true, Bool.and_false, Bool.false_and, Bool.not_true, Bool.not_false, if_true, if_false, Bool.false_eq_true, reduceIte, and_true, true_and, decide_true, decide_false, not_true, Nat.zero_le, Nat.zero_add, Nat.reduceAdd, Nat.reduceSub, D.scal, Option.some.injEq, exists_eq_left', exists_eq_left, exists_eq', D.int.injEq, D.lst.injEq, D.tup.injEq, D.scr.injEq, D.str.injEq, List.cons.injEq, and_self]
      refine if_f (by simpa using hn) (hN2 _ _ ⟨rfl, some (false, .int k), some (false, .int (stp k)), by simp [lwD]⟩)
    · rintro δ w2 ⟨rfl, j2, j3, rfl⟩
      exact hN _ _ ⟨rfl, _, _, _, rfl⟩
  · rintro δ w' ⟨rfl, j1, j2, j3, rfl⟩
    try simp -implicitDefEqProofs only [dNext, dSet, dLst, dTup, dNil, dCons, dConsO, dFor, dRng1_u, dRng2_u, dIt_u, oX, dC, dBin, dUn, dVarR, dVar, dApp, dExt, dUpd0, dPut, dAug, dRet, dRetV, dRetN, dBreak, dCont, dIf, dB_u, dTru_u, dTNot, dTAnd, dTOr, dAndV_u, dOrV_u, dNotV_u, dIfX, dChain_u, dCall, dCallB, dSl, dNoP, dP_u, dLc, dDrop, dFrz, frzD, dAsg, dDicK, dDicT, gN, gT, gsC, gsN, kB.eq_1, kT.eq_1, kT.eq_2, kT.eq_3, kT.eq_4, kT.eq_5, kT.eq_6, kT.eq_7, kT.eq_8, kAnd.eq_1, kOr.eq_1, kNot.eq_1, kIt.eq_1, kIt.eq_2, kIt.eq_3, kIt.eq_4, kP.eq_1, kR1.eq_1, kR2.eq_1, sAdd.eq_1, sAdd.eq_2, sAdd.eq_3, sAdd.eq_4, sJ2.eq_1, sI2.eq_1, sPow, sLt.eq_1, sLt.eq_2, sLe, sGt, sGe, sMul.eq_1, sMul.eq_2, sMulB.eq_1, sMulB.eq_2, sMulB.eq_3, sLR1.eq_1, sLR2.eq_1, sTR1.eq_1, sTR2.eq_1, sIsBl.eq_1, dZip, kZip.eq_1, dDisp1, dIxW, dLenW, dName, dAppW, dPutW, dMelt, dCallBE, kIxW.eq_1, kLenW.eq_1, dLcW, kIxW_lst, kIxW_tup, kIxW_scr, kIxW_str, kIxW_dK, kIxW_dT, kLenW_lst, kLenW_tup, kLenW_scr, kLenW_str, kNm_f, kNm_t, kName, isL.eq_1, isL.eq_2, sNeg.eq_1, sLen.eq_1, sLen.eq_2, sLen.eq_3, sLen.eq_4, sLen.eq_5, sAbs.eq_1, sMax, sMin, sInt.eq_1, sInt.eq_2, sStr.eq_1, sList.eq_1, sList.eq_2, sList.eq_3, sTuple.eq_1, sTuple.eq_2, sTuple.eq_3, sIsN, sNotN, sIx.eq_1, sIx.eq_2, sIx.eq_3, sIx.eq_4, sIx.eq_5, sIx.eq_6, sIx.eq_7, sSl.eq_1, sSl.eq_2, sSl.eq_3, sSl.eq_4, sRev.eq_1, sRev.eq_2, sRev.eq_3, sAddI.eq_1, sAddI.eq_2, sPut.eq_1, sPut.eq_2, sPut.eq_3, sPut.eq_4, D.isNon, sEq_ii, sNe_ii, sEq_ww, sNe_ww, sEq_ll, sNe_ll, sIsi_ii, sIsi_ib, sIsi_ll, sIsi_tt, sIsi_ss, sEq_w, sEq_i, sEq_lw, sEq_lw', sEq_lle, sEq_lle', sNe_w, sNe_i, sNe_lle', sNe_lw', sEq_ss, sNe_ss, sEq_bb, sNe_bb, sIn_iw, sIn_ii, sIn_wl, sIn_wl', sSl3.eq_1, sSl3.eq_2, dSl3, isS.eq_1, isL.eq_1, isL.eq_2, isA.eq_1, dM0, dM1, sUpper.eq_1, sLower.eq_1, sStrip1.eq_1, sSfind.eq_1, sScount.eq_1, sSindex.eq_1, sSsplit.eq_1, sSjoin.eq_1, sSjoin.eq_2, fPop_snoc, fPop_snoc', startD, wipeD, List.map_cons, List.map_nil, List.length_cons, List.length_nil, List.length_map, List.cons_append, List.nil_append, List.replicate, List.set_cons_zero, List.set_cons_succ, List.set_nil, List.getElem?_cons_zero, List.getElem?_cons_succ, Bool.true_and, Bool.and_true, Bool.and_false, Bool.false_and, Bool.not_true, Bool.not_false, if_true, if_false, Bool.false_eq_true, reduceIte, and_true, true_and, decide_true, decide_false, not_true, Nat.zero_le, Nat.zero_add, Nat.reduceAdd, Nat.reduceSub, D.scal, Option.some.injEq, exists_eq_left', exists_eq_left, exists_eq', D.int.injEq, D.lst.injEq, D.tup.injEq, D.scr.injEq, D.str.injEq, List.cons.injEq, and_self]
    exact q
def T_law : DSp W_ := fun ds w P => lawT (W := W_) noMem ds w P
theorem len_law (ds : List D) (w : W_.Om) (P : Bool → D → W_.Om → Prop) (h : T_law ds w P) : ds.length = 1 := by first | (have h := h.1; subst h; rfl) | (obtain ⟨rfl, _⟩ := h; rfl) | (obtain ⟨_, rfl, _⟩ := h; rfl) | (obtain ⟨_, _, rfl, _⟩ := h; rfl) | (obtain ⟨_, _, _, rfl, _⟩ := h; rfl) | (obtain ⟨_, _, _, _, rfl, _⟩ := h; rfl) | (obtain ⟨_, _, _, _, _, rfl, _⟩ := h; rfl) | (obtain ⟨_, _, _, _, _, _, rfl, _⟩ := h; rfl) | (obtain ⟨_, _, _, _, _, _, _, rfl, _⟩ := h; rfl) | (obtain ⟨_, _, _, _, _, _, _, _, rfl, _⟩ := h; rfl) | (obtain ⟨_, _, _, _, _, _, _, _, _, rfl, _⟩ := h; rfl) | (obtain ⟨_, _, _, _, _, _, _, _, _, _, rfl, _⟩ := h; rfl) | (obtain ⟨_, _, _, _, _, _, _, _, _, _, _, rfl, _⟩ := h; rfl)
def b_law : DS W_ := (dSeq (dSet false 1 (dCall T_Ldrawn (dCons (dVar 0) dNil)))
    (dSeq (dSet false 2 (dLc (dIt (dVar 1)) (gN 6) dYes (dUn sList (dVarR 6)) [6]))
    (dSeq (dSet true 3 (dCall T_least_ways (dCons (dVar 2) dNil)))
    (dSeq (dIf (dTOr (dTNot (dTru (oX (dBin sIsi (dVarR 3) (oX (dC (.ty "list"))))))) (dTOr (dB (dBin sNe (oX (dLenW (dVarR 3))) (oX (dLenW (dVarR 1))))) (dB (dBin sNe (oX (dIxW (dVarR 3) (oX (dC (.int 0))))) (oX (dTup dNil)))))) (dRet (dC (.bl false))) dNext)
    (dSeq (dFor (dRng1 (oX (dLenW (dVarR 1)))) (gN 4) (dIf (dTNot (dTru (oX (dCall T_Lleads (dCons (dVar 1) (dCons (dIxW (dVarR 3) (dVarR 4)) (dCons (dVar 4) dNil))))))) (dRet (dC (.bl false))) dNext))
    (dSeq (dIf (dTOr (dTNot (dTru (oX (dCallBE T_Lleast (dConsO (dVarR 1) (dConsO (dVarR 3) dNil)))))) (dB (dBin sNe (dVarR 2) (dVarR 1)))) (dRet (dC (.bl false))) dNext)
    (dSeq (dSet false 5 (dUn sList (dVarR 3)))
    (dSeq (dUpd0 3 fun ds => some ds.reverse)
    (dSeq (dApp 3 (dTup dNil))
    (dRet (dAndV (dBin sEq (oX (dCall T_least_ways (dCons (dVar 2) dNil))) (dVarR 5)) (dBin sEq (dVarR 2) (dVarR 1)))))))))))))
theorem v_law (ds : List D) (w : W_.Om) (P : Bool → D → W_.Om → Prop) (h : T_law ds w P) : b_law { nx := fun _ w => P false .non w, rt := P } (startD ["_law_script", "_law_table_here", "_law_handed", "_law_told", "_law_room", "_law_kept", "_law_row"] ds) w := by
  unfold b_law
  obtain ⟨ns, rfl, hn, rfl, q⟩ := h
  have hs := sizeLine_eq
  refine seq_i ?_
  try simp -implicitDefEqProofs only [dNext, dSet, dLst, dTup, dNil, dCons, dConsO, dFor, dRng1_u, dRng2_u, dIt_u, oX, dC, dBin, dUn, dVarR, dVar, dApp, dExt, dUpd0, dPut, dAug, dRet, dRetV, dRetN, dBreak, dCont, dIf, dB_u, dTru_u, dTNot, dTAnd, dTOr, dAndV_u, dOrV_u, dNotV_u, dIfX, dChain_u, dCall, dCallB, dSl, dNoP, dP_u, dLc, dDrop, dFrz, frzD, dAsg, dDicK, dDicT, gN, gT, gsC, gsN, kB.eq_1, kT.eq_1, kT.eq_2, kT.eq_3, kT.eq_4, kT.eq_5, kT.eq_6, kT.eq_7, kT.eq_8, kAnd.eq_1, kOr.eq_1, kNot.eq_1, kIt.eq_1, kIt.eq_2, kIt.eq_3, kIt.eq_4, kP.eq_1, kR1.eq_1, kR2.eq_1, sAdd.eq_1, sAdd.eq_2, sAdd.eq_3, sAdd.eq_4, sJ2.eq_1, sI2.eq_1, sPow, sLt.eq_1, sLt.eq_2, sLe, sGt, sGe, sMul.eq_1, sMul.eq_2, sMulB.eq_1, sMulB.eq_2, sMulB.eq_3, sLR1.eq_1, sLR2.eq_1, sTR1.eq_1, sTR2.eq_1, sIsBl.eq_1, dZip, kZip.eq_1, dDisp1, dIxW, dLenW, dName, dAppW, dPutW, dMelt, dCallBE, kIxW.eq_1, kLenW.eq_1, dLcW, kIxW_lst, kIxW_tup, kIxW_scr, kIxW_str, kIxW_dK, kIxW_dT, kLenW_lst, kLenW_tup, kLenW_scr, kLenW_str, kNm_f, kNm_t, kName, isL.eq_1, isL.eq_2, sNeg.eq_1, sLen.eq_1, sLen.eq_2, sLen.eq_3, sLen.eq_4, sLen.eq_5, sAbs.eq_1, sMax, sMin, sInt.eq_1, sInt.eq_2, sStr.eq_1, sList.eq_1, sList.eq_2, sList.eq_3, sTuple.eq_1, sTuple.eq_2, sTuple.eq_3, sIsN, sNotN, sIx.eq_1, sIx.eq_2, sIx.eq_3, sIx.eq_4, sIx.eq_5, sIx.eq_6, sIx.eq_7, sSl.eq_1, sSl.eq_2, sSl.eq_3, sSl.eq_4, sRev.eq_1, sRev.eq_2, sRev.eq_3, sAddI.eq_1, sAddI.eq_2, sPut.eq_1, sPut.eq_2, sPut.eq_3, sPut.eq_4, D.isNon, sEq_ii, sNe_ii, sEq_ww, sNe_ww, sEq_ll, sNe_ll, sIsi_ii, sIsi_ib, sIsi_ll, sIsi_tt, sIsi_ss, sEq_w, sEq_i, sEq_lw, sEq_lw', sEq_lle, sEq_lle', sNe_w, sNe_i, sNe_lle', sNe_lw', sEq_ss, sNe_ss, sEq_bb, sNe_bb, sIn_iw, sIn_ii, sIn_wl, sIn_wl', sSl3.eq_1, sSl3.eq_2, dSl3, isS.eq_1, isL.eq_1, isL.eq_2, isA.eq_1, dM0, dM1, sUpper.eq_1, sLower.eq_1, sStrip1.eq_1, sSfind.eq_1, sScount.eq_1, sSindex.eq_1, sSsplit.eq_1, sSjoin.eq_1, sSjoin.eq_2, fPop_snoc, fPop_snoc', startD, wipeD, List.map_cons, List.map_nil, List.length_cons, List.length_nil, List.length_map, List.cons_append, List.nil_append, List.replicate, List.set_cons_zero, List.set_cons_succ, List.set_nil, List.getElem?_cons_zero, List.getElem?_cons_succ, Bool.true_and, Bool.and_true, Bool.and_false, Bool.false_and, Bool.not_true, Bool.not_false, if_true, if_false, Bool.false_eq_true, reduceIte, and_true, true_and, decide_true, decide_false, not_true, Nat.zero_le, Nat.zero_add, Nat.reduceAdd, Nat.reduceSub, D.scal]
  refine ⟨ns, rfl, rfl, hn, fun p ts come tab tns hl1 hl40 hp tp => ?_⟩
  have g := tp_gt tp (by omega) hl40
  have htl := tp.len
  have hnb := g.nb
  have hn1 := g.n1
  refine seq_i ?_
  try simp -implicitDefEqProofs only [dNext, dSet, dLst, dTup, dNil, dCons, dConsO, dFor, dRng1_u, dRng2_u, dIt_u, oX, dC, dBin, dUn, dVarR, dVar, dApp, dExt, dUpd0, dPut, dAug, dRet, dRetV, dRetN, dBreak, dCont, dIf, dB_u, dTru_u, dTNot, dTAnd, dTOr, dAndV_u, dOrV_u, dNotV_u, dIfX, dChain_u, dCall, dCallB, dSl, dNoP, dP_u, dLc, dDrop, dFrz, frzD, dAsg, dDicK, dDicT, gN, gT, gsC, gsN, kB.eq_1, kT.eq_1, kT.eq_2, kT.eq_3, kT.eq_4, kT.eq_5, kT.eq_6, kT.eq_7, kT.eq_8, kAnd.eq_1, kOr.eq_1, kNot.eq_1, kIt.eq_1, kIt.eq_2, kIt.eq_3, kIt.eq_4, kP.eq_1, kR1.eq_1, kR2.eq_1, sAdd.eq_1, sAdd.eq_2, sAdd.eq_3, sAdd.eq_4, sJ2.eq_1, sI2.eq_1, sPow, sLt.eq_1, sLt.eq_2, sLe, sGt, sGe, sMul.eq_1, sMul.eq_2, sMulB.eq_1, sMulB.eq_2, sMulB.eq_3, sLR1.eq_1, sLR2.eq_1, sTR1.eq_1, sTR2.eq_1, sIsBl.eq_1, dZip, kZip.eq_1, dDisp1, dIxW, dLenW, dName, dAppW, dPutW, dMelt, dCallBE, kIxW.eq_1, kLenW.eq_1, dLcW, kIxW_lst, kIxW_tup, kIxW_scr, kIxW_str, kIxW_dK, kIxW_dT, kLenW_lst, kLenW_tup, kLenW_scr, kLenW_str, kNm_f, kNm_t, kName, isL.eq_1, isL.eq_2, sNeg.eq_1, sLen.eq_1, sLen.eq_2, sLen.eq_3, sLen.eq_4, sLen.eq_5, sAbs.eq_1, sMax, sMin, sInt.eq_1, sInt.eq_2, sStr.eq_1, sList.eq_1, sList.eq_2, sList.eq_3, sTuple.eq_1, sTuple.eq_2, sTuple.eq_3, sIsN, sNotN, sIx.eq_1, sIx.eq_2, sIx.eq_3, sIx.eq_4, sIx.eq_5, sIx.eq_6, sIx.eq_7, sSl.eq_1, sSl.eq_2, sSl.eq_3, sSl.eq_4, sRev.eq_1, sRev.eq_2, sRev.eq_3, sAddI.eq_1, sAddI.eq_2, sPut.eq_1, sPut.eq_2, sPut.eq_3, sPut.eq_4, D.isNon, sEq_ii, sNe_ii, sEq_ww, sNe_ww, sEq_ll, sNe_ll, sIsi_ii, sIsi_ib, sIsi_ll, sIsi_tt, sIsi_ss, sEq_w, sEq_i, sEq_lw, sEq_lw', sEq_lle, sEq_lle', sNe_w, sNe_i, sNe_lle', sNe_lw', sEq_ss, sNe_ss, sEq_bb, sNe_bb, sIn_iw, sIn_ii, sIn_wl, sIn_wl', sSl3.eq_1, sSl3.eq_2, dSl3, isS.eq_1, isL.eq_1, isL.eq_2, isA.eq_1, dM0, dM1, sUpper.eq_1, sLower.eq_1, sStrip1.eq_1, sSfind.eq_1, sScount.eq_1, sSindex.eq_1, sSsplit.eq_1, sSjoin.eq_1, sSjoin.eq_2, fPop_snoc, fPop_snoc', startD, wipeD, List.map_cons, List.map_nil, List.length_cons, List.length_nil, List.length_map, List.cons_append, List.nil_append, List.replicate, List.set_cons_zero, List.set_cons_succ, List.set_nil, List.getElem?_cons_zero, List.getElem?_cons_succ, Bool.true_and, Bool.and_true, Bool.and_false, Bool.false_and, Bool.not_true, Bool.not_false, if_true, if_false, Bool.false_eq_true, reduceIte, and_true, true_and, decide_true, decide_false, not_true, Nat.zero_le, Nat.zero_add, Nat.reduceAdd, Nat.reduceSub, D.scal, Option.some.injEq, exists_eq_left', exists_eq_left, exists_eq', D.int.injEq, D.lst.injEq, D.tup.injEq, D.scr.injEq, D.str.injEq, List.cons.injEq, and_self]
  refine lc_map nL nL tab (fun r hr P hP => ?_) [] (by rw [htl]; simp; omega) ?_
  · try simp -implicitDefEqProofs only [nL, dNext, dSet, dLst, dTup, dNil, dCons, dConsO, dFor, dRng1_u, dRng2_u, dIt_u, oX, dC, dBin, dUn, dVarR, dVar, dApp, dExt, dUpd0, dPut, dAug, dRet, dRetV, dRetN, dBreak, dCont, dIf, dB_u, dTru_u, dTNot, dTAnd, dTOr, dAndV_u, dOrV_u, dNotV_u, dIfX, dChain_u, dCall, dCallB, dSl, dNoP, dP_u, dLc, dDrop, dFrz, frzD, dAsg, dDicK, dDicT, gN, gT, gsC, gsN, kB.eq_1, kT.eq_1, kT.eq_2, kT.eq_3, kT.eq_4, kT.eq_5, kT.eq_6, kT.eq_7, kT.eq_8, kAnd.eq_1, kOr.eq_1, kNot.eq_1, kIt.eq_1, kIt.eq_2, kIt.eq_3, kIt.eq_4, kP.eq_1, kR1.eq_1, kR2.eq_1, sAdd.eq_1, sAdd.eq_2, sAdd.eq_3, sAdd.eq_4, sJ2.eq_1, sI2.eq_1, sPow, sLt.eq_1, sLt.eq_2, sLe, sGt, sGe, sMul.eq_1, sMul.eq_2, sMulB.eq_1, sMulB.eq_2, sMulB.eq_3, sLR1.eq_1, sLR2.eq_1, sTR1.eq_1, sTR2.eq_1, sIsBl.eq_1, dZip, kZip.eq_1, dDisp1, dIxW, dLenW, dName, dAppW, dPutW, dMelt, dCallBE, kIxW.eq_1, kLenW.eq_1, dLcW, kIxW_lst, kIxW_tup, kIxW_scr, kIxW_str, kIxW_dK, kIxW_dT, kLenW_lst, kLenW_tup, kLenW_scr, kLenW_str, kNm_f, kNm_t, kName, isL.eq_1, isL.eq_2, sNeg.eq_1, sLen.eq_1, sLen.eq_2, sLen.eq_3, sLen.eq_4, sLen.eq_5, sAbs.eq_1, sMax, sMin, sInt.eq_1, sInt.eq_2, sStr.eq_1, sList.eq_1, sList.eq_2, sList.eq_3, sTuple.eq_1, sTuple.eq_2, sTuple.eq_3, sIsN, sNotN, sIx.eq_1, sIx.eq_2, sIx.eq_3, sIx.eq_4, sIx.eq_5, sIx.eq_6, sIx.eq_7, sSl.eq_1, sSl.eq_2, sSl.eq_3, sSl.eq_4, sRev.eq_1, sRev.eq_2, sRev.eq_3, sAddI.eq_1, sAddI.eq_2, sPut.eq_1, sPut.eq_2, sPut.eq_3, sPut.eq_4, D.isNon, sEq_ii, sNe_ii, sEq_ww, sNe_ww, sEq_ll, sNe_ll, sIsi_ii, sIsi_ib, sIsi_ll, sIsi_tt, sIsi_ss, sEq_w, sEq_i, sEq_lw, sEq_lw', sEq_lle, sEq_lle', sNe_w, sNe_i, sNe_lle', sNe_lw', sEq_ss, sNe_ss, sEq_bb, sNe_bb, sIn_iw, sIn_ii, sIn_wl, sIn_wl', sSl3.eq_1, sSl3.eq_2, dSl3, isS.eq_1, isL.eq_1, isL.eq_2, isA.eq_1, dM0, dM1, sUpper.eq_1, sLower.eq_1, sStrip1.eq_1, sSfind.eq_1, sScount.eq_1, sSindex.eq_1, sSsplit.eq_1, sSjoin.eq_1, sSjoin.eq_2, fPop_snoc, fPop_snoc', startD, wipeD, List.map_cons, List.map_nil, List.length_cons, List.length_nil, List.length_map, List.cons_append, List.nil_append, List.replicate, List.set_cons_zero, List.set_cons_succ, List.set_nil, List.getElem?_cons_zero, List.getElem?_cons_succ, Bool.true_and, Bool.and_true, Bool.and_false, Bool.false_and, Bool.not_true, Bool.not_false, if_true, if_false, Bool.false_eq_true, reduceIte, and_true, true_and, decide_true, decide_false, not_true, Nat.zero_le, Nat.zero_add, Nat.reduceAdd, Nat.reduceSub, D.scal, Option.some.injEq, exists_eq_left', exists_eq_left, exists_eq', D.int.injEq, D.lst.injEq, D.tup.injEq, D.scr.injEq, D.str.injEq, List.cons.injEq, and_self]
    exact hP _
  rw [List.nil_append]
  try simp -implicitDefEqProofs only [dNext, dSet, dLst, dTup, dNil, dCons, dConsO, dFor, dRng1_u, dRng2_u, dIt_u, oX, dC, dBin, dUn, dVarR, dVar, dApp, dExt, dUpd0, dPut, dAug, dRet, dRetV, dRetN, dBreak, dCont, dIf, dB_u, dTru_u, dTNot, dTAnd, dTOr, dAndV_u, dOrV_u, dNotV_u, dIfX, dChain_u, dCall, dCallB, dSl, dNoP, dP_u, dLc, dDrop, dFrz, frzD, dAsg, dDicK, dDicT, gN, gT, gsC, gsN, kB.eq_1, kT.eq_1, kT.eq_2, kT.eq_3, kT.eq_4, kT.eq_5, kT.eq_6, kT.eq_7, kT.eq_8, kAnd.eq_1, kOr.eq_1, kNot.eq_1, kIt.eq_1, kIt.eq_2, kIt.eq_3, kIt.eq_4, kP.eq_1, kR1.eq_1, kR2.eq_1, sAdd.eq_1, sAdd.eq_2, sAdd.eq_3, sAdd.eq_4, sJ2.eq_1, sI2.eq_1, sPow, sLt.eq_1, sLt.eq_2, sLe, sGt, sGe, sMul.eq_1, sMul.eq_2, sMulB.eq_1, sMulB.eq_2, sMulB.eq_3, sLR1.eq_1, sLR2.eq_1, sTR1.eq_1, sTR2.eq_1, sIsBl.eq_1, dZip, kZip.eq_1, dDisp1, dIxW, dLenW, dName, dAppW, dPutW, dMelt, dCallBE, kIxW.eq_1, kLenW.eq_1, dLcW, kIxW_lst, kIxW_tup, kIxW_scr, kIxW_str, kIxW_dK, kIxW_dT, kLenW_lst, kLenW_tup, kLenW_scr, kLenW_str, kNm_f, kNm_t, kName, isL.eq_1, isL.eq_2, sNeg.eq_1, sLen.eq_1, sLen.eq_2, sLen.eq_3, sLen.eq_4, sLen.eq_5, sAbs.eq_1, sMax, sMin, sInt.eq_1, sInt.eq_2, sStr.eq_1, sList.eq_1, sList.eq_2, sList.eq_3, sTuple.eq_1, sTuple.eq_2, sTuple.eq_3, sIsN, sNotN, sIx.eq_1, sIx.eq_2, sIx.eq_3, sIx.eq_4, sIx.eq_5, sIx.eq_6, sIx.eq_7, sSl.eq_1, sSl.eq_2, sSl.eq_3, sSl.eq_4, sRev.eq_1, sRev.eq_2, sRev.eq_3, sAddI.eq_1, sAddI.eq_2, sPut.eq_1, sPut.eq_2, sPut.eq_3, sPut.eq_4, D.isNon, sEq_ii, sNe_ii, sEq_ww, sNe_ww, sEq_ll, sNe_ll, sIsi_ii, sIsi_ib, sIsi_ll, sIsi_tt, sIsi_ss, sEq_w, sEq_i, sEq_lw, sEq_lw', sEq_lle, sEq_lle', sNe_w, sNe_i, sNe_lle', sNe_lw', sEq_ss, sNe_ss, sEq_bb, sNe_bb, sIn_iw, sIn_ii, sIn_wl, sIn_wl', sSl3.eq_1, sSl3.eq_2, dSl3, isS.eq_1, isL.eq_1, isL.eq_2, isA.eq_1, dM0, dM1, sUpper.eq_1, sLower.eq_1, sStrip1.eq_1, sSfind.eq_1, sScount.eq_1, sSindex.eq_1, sSsplit.eq_1, sSjoin.eq_1, sSjoin.eq_2, fPop_snoc, fPop_snoc', startD, wipeD, List.map_cons, List.map_nil, List.length_cons, List.length_nil, List.length_map, List.cons_append, List.nil_append, List.replicate, List.set_cons_zero, List.set_cons_succ, List.set_nil, List.getElem?_cons_zero, List.getElem?_cons_succ, Bool.true_and, Bool.and_true, Bool.and_false, Bool.false_and, Bool.not_true, Bool.not_false, if_true, if_false, Bool.false_eq_true, reduceIte, and_true, true_and, decide_true, decide_false, not_true, Nat.zero_le, Nat.zero_add, Nat.reduceAdd, Nat.reduceSub, D.scal, Option.some.injEq, exists_eq_left', exists_eq_left, exists_eq', D.int.injEq, D.lst.injEq, D.tup.injEq, D.scr.injEq, D.str.injEq, List.cons.injEq, and_self]
  refine seq_i ?_
  try simp -implicitDefEqProofs only [dNext, dSet, dLst, dTup, dNil, dCons, dConsO, dFor, dRng1_u, dRng2_u, dIt_u, oX, dC, dBin, dUn, dVarR, dVar, dApp, dExt, dUpd0, dPut, dAug, dRet, dRetV, dRetN, dBreak, dCont, dIf, dB_u, dTru_u, dTNot, dTAnd, dTOr, dAndV_u, dOrV_u, dNotV_u, dIfX, dChain_u, dCall, dCallB, dSl, dNoP, dP_u, dLc, dDrop, dFrz, frzD, dAsg, dDicK, dDicT, gN, gT, gsC, gsN, kB.eq_1, kT.eq_1, kT.eq_2, kT.eq_3, kT.eq_4, kT.eq_5, kT.eq_6, kT.eq_7, kT.eq_8, kAnd.eq_1, kOr.eq_1, kNot.eq_1, kIt.eq_1, kIt.eq_2, kIt.eq_3, kIt.eq_4, kP.eq_1, kR1.eq_1, kR2.eq_1, sAdd.eq_1, sAdd.eq_2, sAdd.eq_3, sAdd.eq_4, sJ2.eq_1, sI2.eq_1, sPow, sLt.eq_1, sLt.eq_2, sLe, sGt, sGe, sMul.eq_1, sMul.eq_2, sMulB.eq_1, sMulB.eq_2, sMulB.eq_3, sLR1.eq_1, sLR2.eq_1, sTR1.eq_1, sTR2.eq_1, sIsBl.eq_1, dZip, kZip.eq_1, dDisp1, dIxW, dLenW, dName, dAppW, dPutW, dMelt, dCallBE, kIxW.eq_1, kLenW.eq_1, dLcW, kIxW_lst, kIxW_tup, kIxW_scr, kIxW_str, kIxW_dK, kIxW_dT, kLenW_lst, kLenW_tup, kLenW_scr, kLenW_str, kNm_f, kNm_t, kName, isL.eq_1, isL.eq_2, sNeg.eq_1, sLen.eq_1, sLen.eq_2, sLen.eq_3, sLen.eq_4, sLen.eq_5, sAbs.eq_1, sMax, sMin, sInt.eq_1, sInt.eq_2, sStr.eq_1, sList.eq_1, sList.eq_2, sList.eq_3, sTuple.eq_1, sTuple.eq_2, sTuple.eq_3, sIsN, sNotN, sIx.eq_1, sIx.eq_2, sIx.eq_3, sIx.eq_4, sIx.eq_5, sIx.eq_6, sIx.eq_7, sSl.eq_1, sSl.eq_2, sSl.eq_3, sSl.eq_4, sRev.eq_1, sRev.eq_2, sRev.eq_3, sAddI.eq_1, sAddI.eq_2, sPut.eq_1, sPut.eq_2, sPut.eq_3, sPut.eq_4, D.isNon, sEq_ii, sNe_ii, sEq_ww, sNe_ww, sEq_ll, sNe_ll, sIsi_ii, sIsi_ib, sIsi_ll, sIsi_tt, sIsi_ss, sEq_w, sEq_i, sEq_lw, sEq_lw', sEq_lle, sEq_lle', sNe_w, sNe_i, sNe_lle', sNe_lw', sEq_ss, sNe_ss, sEq_bb, sNe_bb, sIn_iw, sIn_ii, sIn_wl, sIn_wl', sSl3.eq_1, sSl3.eq_2, dSl3, isS.eq_1, isL.eq_1, isL.eq_2, isA.eq_1, dM0, dM1, sUpper.eq_1, sLower.eq_1, sStrip1.eq_1, sSfind.eq_1, sScount.eq_1, sSindex.eq_1, sSsplit.eq_1, sSjoin.eq_1, sSjoin.eq_2, fPop_snoc, fPop_snoc', startD, wipeD, List.map_cons, List.map_nil, List.length_cons, List.length_nil, List.length_map, List.cons_append, List.nil_append, List.replicate, List.set_cons_zero, List.set_cons_succ, List.set_nil, List.getElem?_cons_zero, List.getElem?_cons_succ, Bool.true_and, Bool.and_true, Bool.and_false, Bool.false_and, Bool.not_true, Bool.not_false, if_true, if_false, Bool.false_eq_true, reduceIte, and_true, true_and, decide_true, decide_false, not_true, Nat.zero_le, Nat.zero_add, Nat.reduceAdd, Nat.reduceSub, D.scal, Option.some.injEq, exists_eq_left', exists_eq_left, exists_eq', D.int.injEq, D.lst.injEq, D.tup.injEq, D.scr.injEq, D.str.injEq, List.cons.injEq, and_self]
  refine ⟨come.length, ts.length, tab, rfl, g, fun ws lw => ?_⟩
  have hwl := lw.len
  have h0 : ws[0]? = some [] := by
    have hu := List.getElem?_eq_getElem (l := ws) (by omega : 0 < ws.length)
    generalize ws[0]'(by omega) = u at hu
    have := lw.mn 0 u [] hu (fun x hx => nomatch hx) rfl
    have e : u = [] := by
      rcases this with h | h
      · rcases h with h | h
        · simp [sp] at h
        · cases u with
          | nil => rfl
          | cons x u => exact absurd h.1 (by simp [sp])
      · cases u with
        | nil => rfl
        | cons x u => simp [sp] at h
    rw [e] at hu
    exact hu
  refine seq_cut (fun δ w' => w' = noMem ∧ δ = [some (false, .scr ns), some (false, .lst (tab.map nL)), some (false, .lst (tab.map nL)), some (true, lwD ws), none, none, none]) (fun N h => ?_) ?_
  · try simp -implicitDefEqProofs only [lwD, not_true, dNext, dSet, dLst, dTup, dNil, dCons, dConsO, dFor, dRng1_u, dRng2_u, dIt_u, oX, dC, dBin, dUn, dVarR, dVar, dApp, dExt, dUpd0, dPut, dAug, dRet, dRetV, dRetN, dBreak, dCont, dIf, dB_u, dTru_u, dTNot, dTAnd, dTOr, dAndV_u, dOrV_u, dNotV_u, dIfX, dChain_u, dCall, dCallB, dSl, dNoP, dP_u, dLc, dDrop, dFrz, frzD, dAsg, dDicK, dDicT, gN, gT, gsC, gsN, kB.eq_1, kT.eq_1, kT.eq_2, kT.eq_3, kT.eq_4, kT.eq_5, kT.eq_6, kT.eq_7, kT.eq_8, kAnd.eq_1, kOr.eq_1, kNot.eq_1, kIt.eq_1, kIt.eq_2, kIt.eq_3, kIt.eq_4, kP.eq_1, kR1.eq_1, kR2.eq_1, sAdd.eq_1, sAdd.eq_2, sAdd.eq_3, sAdd.eq_4, sJ2.eq_1, sI2.eq_1, sPow, sLt.eq_1, sLt.eq_2, sLe, sGt, sGe, sMul.eq_1, sMul.eq_2, sMulB.eq_1, sMulB.eq_2, sMulB.eq_3, sLR1.eq_1, sLR2.eq_1, sTR1.eq_1, sTR2.eq_1, sIsBl.eq_1, dZip, kZip.eq_1, dDisp1, dIxW, dLenW, dName, dAppW, dPutW, dMelt, dCallBE, kIxW.eq_1, kLenW.eq_1, dLcW, kIxW_lst, kIxW_tup, kIxW_scr, kIxW_str, kIxW_dK, kIxW_dT, kLenW_lst, kLenW_tup, kLenW_scr, kLenW_str, kNm_f, kNm_t, kName, isL.eq_1, isL.eq_2, sNeg.eq_1, sLen.eq_1, sLen.eq_2, sLen.eq_3, sLen.eq_4, sLen.eq_5, sAbs.eq_1, sMax, sMin, sInt.eq_1, sInt.eq_2, sStr.eq_1, sList.eq_1, sList.eq_2, sList.eq_3, sTuple.eq_1, sTuple.eq_2, sTuple.eq_3, sIsN, sNotN, sIx.eq_1, sIx.eq_2, sIx.eq_3, sIx.eq_4, sIx.eq_5, sIx.eq_6, sIx.eq_7, sSl.eq_1, sSl.eq_2, sSl.eq_3, sSl.eq_4, sRev.eq_1, sRev.eq_2, sRev.eq_3, sAddI.eq_1, sAddI.eq_2, sPut.eq_1, sPut.eq_2, sPut.eq_3, sPut.eq_4, D.isNon, sEq_ii, sNe_ii, sEq_ww, sNe_ww, sEq_ll, sNe_ll, sIsi_ii, sIsi_ib, sIsi_ll, sIsi_tt, sIsi_ss, sEq_w, sEq_i, sEq_lw, sEq_lw', sEq_lle, sEq_lle', sNe_w, sNe_i, sNe_lle', sNe_lw', sEq_ss, sNe_ss, sEq_bb, sNe_bb, sIn_iw, sIn_ii, sIn_wl, sIn_wl', sSl3.eq_1, sSl3.eq_2, dSl3, isS.eq_1, isL.eq_1, isL.eq_2, isA.eq_1, dM0, dM1, sUpper.eq_1, sLower.eq_1, sStrip1.eq_1, sSfind.eq_1, sScount.eq_1, sSindex.eq_1, sSsplit.eq_1, sSjoin.eq_1, sSjoin.eq_2, fPop_snoc, fPop_snoc', startD, wipeD, List.map_cons, List.map_nil, List.length_cons, List.length_nil, List.length_map, List.cons_append, List.nil_append, List.replicate, List.set_cons_zero, List.set_cons_succ, List.set_nil, List.getElem?_cons_zero, List.getElem?_cons_succ, Bool.true_and, Bool.and_true, Bool.and_false, Bool.false_and, Bool.not_true, Bool.not_false, if_true, if_false, Bool.false_eq_true, reduceIte, and_true, true_and, decide_true, decide_false, not_true, Nat.zero_le, Nat.zero_add, Nat.reduceAdd, Nat.reduceSub, D.scal, Option.some.injEq, exists_eq_left', exists_eq_left, exists_eq', D.int.injEq, D.lst.injEq, D.tup.injEq, D.scr.injEq, D.str.injEq, List.cons.injEq, and_self]
    refine if_f (by simp; omega) ⟨wD [], atI_f wD (k := 0) (by omega) h0, ?_⟩
    have e : sNe (wD []) (.tup []) = fun P => P false (.bl false) := by
      funext P
      have := sNe_w [] [] P
      simpa [wD] using this
    rw [e]
    try simp -implicitDefEqProofs only [dNext, dSet, dLst, dTup, dNil, dCons, dConsO, dFor, dRng1_u, dRng2_u, dIt_u, oX, dC, dBin, dUn, dVarR, dVar, dApp, dExt, dUpd0, dPut, dAug, dRet, dRetV, dRetN, dBreak, dCont, dIf, dB_u, dTru_u, dTNot, dTAnd, dTOr, dAndV_u, dOrV_u, dNotV_u, dIfX, dChain_u, dCall, dCallB, dSl, dNoP, dP_u, dLc, dDrop, dFrz, frzD, dAsg, dDicK, dDicT, gN, gT, gsC, gsN, kB.eq_1, kT.eq_1, kT.eq_2, kT.eq_3, kT.eq_4, kT.eq_5, kT.eq_6, kT.eq_7, kT.eq_8, kAnd.eq_1, kOr.eq_1, kNot.eq_1, kIt.eq_1, kIt.eq_2, kIt.eq_3, kIt.eq_4, kP.eq_1, kR1.eq_1, kR2.eq_1, sAdd.eq_1, sAdd.eq_2, sAdd.eq_3, sAdd.eq_4, sJ2.eq_1, sI2.eq_1, sPow, sLt.eq_1, sLt.eq_2, sLe, sGt, sGe, sMul.eq_1, sMul.eq_2, sMulB.eq_1, sMulB.eq_2, sMulB.eq_3, sLR1.eq_1, sLR2.eq_1, sTR1.eq_1, sTR2.eq_1, sIsBl.eq_1, dZip, kZip.eq_1, dDisp1, dIxW, dLenW, dName, dAppW, dPutW, dMelt, dCallBE, kIxW.eq_1, kLenW.eq_1, dLcW, kIxW_lst, kIxW_tup, kIxW_scr, kIxW_str, kIxW_dK, kIxW_dT, kLenW_lst, kLenW_tup, kLenW_scr, kLenW_str, kNm_f, kNm_t, kName, isL.eq_1, isL.eq_2, sNeg.eq_1, sLen.eq_1, sLen.eq_2, sLen.eq_3, sLen.eq_4, sLen.eq_5, sAbs.eq_1, sMax, sMin, sInt.eq_1, sInt.eq_2, sStr.eq_1, sList.eq_1, sList.eq_2, sList.eq_3, sTuple.eq_1, sTuple.eq_2, sTuple.eq_3, sIsN, sNotN, sIx.eq_1, sIx.eq_2, sIx.eq_3, sIx.eq_4, sIx.eq_5, sIx.eq_6, sIx.eq_7, sSl.eq_1, sSl.eq_2, sSl.eq_3, sSl.eq_4, sRev.eq_1, sRev.eq_2, sRev.eq_3, sAddI.eq_1, sAddI.eq_2, sPut.eq_1, sPut.eq_2, sPut.eq_3, sPut.eq_4, D.isNon, sEq_ii, sNe_ii, sEq_ww, sNe_ww, sEq_ll, sNe_ll, sIsi_ii, sIsi_ib, sIsi_ll, sIsi_tt, sIsi_ss, sEq_w, sEq_i, sEq_lw, sEq_lw', sEq_lle, sEq_lle', sNe_w, sNe_i, sNe_lle', sNe_lw', sEq_ss, sNe_ss, sEq_bb, sNe_bb, sIn_iw, sIn_ii, sIn_wl, sIn_wl', sSl3.eq_1, sSl3.eq_2, dSl3, isS.eq_1, isL.eq_1, isL.eq_2, isA.eq_1, dM0, dM1, sUpper.eq_1, sLower.eq_1, sStrip1.eq_1, sSfind.eq_1, sScount.eq_1, sSindex.eq_1, sSsplit.eq_1, sSjoin.eq_1, sSjoin.eq_2, fPop_snoc, fPop_snoc', startD, wipeD, List.map_cons, List.map_nil, List.length_cons, List.length_nil, List.length_map, List.cons_append, List.nil_append, List.replicate, List.set_cons_zero, List.set_cons_succ, List.set_nil, List.getElem?_cons_zero, List.getElem?_cons_succ, Bool.true_and, Bool.and_true, Bool.and_false, Bool.false_and, Bool.not_true, Bool.not_false, if_true, if_false, Bool.false_eq_true, reduceIte, and_true, true_and, decide_true, decide_false, not_true, Nat.zero_le, Nat.zero_add, Nat.reduceAdd, Nat.reduceSub, D.scal, Option.some.injEq, exists_eq_left', exists_eq_left, exists_eq', D.int.injEq, D.lst.injEq, D.tup.injEq, D.scr.injEq, D.str.injEq, List.cons.injEq, and_self]
    exact h _ _ ⟨rfl, rfl⟩
  rintro δ w' ⟨rfl, rfl⟩
  refine seq_cut (fun δ w' => w' = noMem ∧ ∃ j4 j5 j6, δ = [some (false, .scr ns), some (false, .lst (tab.map nL)), some (false, .lst (tab.map nL)), some (true, lwD ws), j4, j5, j6]) (fun N h => ?_) ?_
  · try simp -implicitDefEqProofs only [htl, dNext, dSet, dLst, dTup, dNil, dCons, dConsO, dFor, dRng1_u, dRng2_u, dIt_u, oX, dC, dBin, dUn, dVarR, dVar, dApp, dExt, dUpd0, dPut, dAug, dRet, dRetV, dRetN, dBreak, dCont, dIf, dB_u, dTru_u, dTNot, dTAnd, dTOr, dAndV_u, dOrV_u, dNotV_u, dIfX, dChain_u, dCall, dCallB, dSl, dNoP, dP_u, dLc, dDrop, dFrz, frzD, dAsg, dDicK, dDicT, gN, gT, gsC, gsN, kB.eq_1, kT.eq_1, kT.eq_2, kT.eq_3, kT.eq_4, kT.eq_5, kT.eq_6, kT.eq_7, kT.eq_8, kAnd.eq_1, kOr.eq_1, kNot.eq_1, kIt.eq_1, kIt.eq_2, kIt.eq_3, kIt.eq_4, kP.eq_1, kR1.eq_1, kR2.eq_1, sAdd.eq_1, sAdd.eq_2, sAdd.eq_3, sAdd.eq_4, sJ2.eq_1, sI2.eq_1, sPow, sLt.eq_1, sLt.eq_2, sLe, sGt, sGe, sMul.eq_1, sMul.eq_2, sMulB.eq_1, sMulB.eq_2, sMulB.eq_3, sLR1.eq_1, sLR2.eq_1, sTR1.eq_1, sTR2.eq_1, sIsBl.eq_1, dZip, kZip.eq_1, dDisp1, dIxW, dLenW, dName, dAppW, dPutW, dMelt, dCallBE, kIxW.eq_1, kLenW.eq_1, dLcW, kIxW_lst, kIxW_tup, kIxW_scr, kIxW_str, kIxW_dK, kIxW_dT, kLenW_lst, kLenW_tup, kLenW_scr, kLenW_str, kNm_f, kNm_t, kName, isL.eq_1, isL.eq_2, sNeg.eq_1, sLen.eq_1, sLen.eq_2, sLen.eq_3, sLen.eq_4, sLen.eq_5, sAbs.eq_1, sMax, sMin, sInt.eq_1, sInt.eq_2, sStr.eq_1, sList.eq_1, sList.eq_2, sList.eq_3, sTuple.eq_1, sTuple.eq_2, sTuple.eq_3, sIsN, sNotN, sIx.eq_1, sIx.eq_2, sIx.eq_3, sIx.eq_4, sIx.eq_5, sIx.eq_6, sIx.eq_7, sSl.eq_1, sSl.eq_2, sSl.eq_3, sSl.eq_4, sRev.eq_1, sRev.eq_2, sRev.eq_3, sAddI.eq_1, sAddI.eq_2, sPut.eq_1, sPut.eq_2, sPut.eq_3, sPut.eq_4, D.isNon, sEq_ii, sNe_ii, sEq_ww, sNe_ww, sEq_ll, sNe_ll, sIsi_ii, sIsi_ib, sIsi_ll, sIsi_tt, sIsi_ss, sEq_w, sEq_i, sEq_lw, sEq_lw', sEq_lle, sEq_lle', sNe_w, sNe_i, sNe_lle', sNe_lw', sEq_ss, sNe_ss, sEq_bb, sNe_bb, sIn_iw, sIn_ii, sIn_wl, sIn_wl', sSl3.eq_1, sSl3.eq_2, dSl3, isS.eq_1, isL.eq_1, isL.eq_2, isA.eq_1, dM0, dM1, sUpper.eq_1, sLower.eq_1, sStrip1.eq_1, sSfind.eq_1, sScount.eq_1, sSindex.eq_1, sSsplit.eq_1, sSjoin.eq_1, sSjoin.eq_2, fPop_snoc, fPop_snoc', startD, wipeD, List.map_cons, List.map_nil, List.length_cons, List.length_nil, List.length_map, List.cons_append, List.nil_append, List.replicate, List.set_cons_zero, List.set_cons_succ, List.set_nil, List.getElem?_cons_zero, List.getElem?_cons_succ, Bool.true_and, Bool.and_true, Bool.and_false, Bool.false_and, Bool.not_true, Bool.not_false, if_true, if_false, Bool.false_eq_true, reduceIte, and_true, true_and, decide_true, decide_false, not_true, Nat.zero_le, Nat.zero_add, Nat.reduceAdd, Nat.reduceSub, D.scal, Option.some.injEq, exists_eq_left', exists_eq_left, exists_eq', D.int.injEq, D.lst.injEq, D.tup.injEq, D.scr.injEq, D.str.injEq, List.cons.injEq, and_self]
    refine ⟨⟨by omega, by omega⟩, ?_⟩
    rw [Int.toNat_natCast]
    refine for_rng 0 _ (fun k δ w' => w' = noMem ∧ ∃ j4 j5 j6, δ = [some (false, .scr ns), some (false, .lst (tab.map nL)), some (false, .lst (tab.map nL)), some (true, lwD ws), j4, j5, j6]) ⟨rfl, none, none, none, rfl⟩ ?_ ?_
    · rintro r δ w' N C hr ⟨rfl, j4, j5, j6, rfl⟩ hN hC
      have hu := List.getElem?_eq_getElem (l := ws) (by omega : r < ws.length)
      generalize ws[r]'(by omega) = u at hu
      obtain ⟨u1, u2, u3⟩ := lw.ok r u hu
      try simp -implicitDefEqProofs only [lwD, Int.zero_add, dNext, dSet, dLst, dTup, dNil, dCons, dConsO, dFor, dRng1_u, dRng2_u, dIt_u, oX, dC, dBin, dUn, dVarR, dVar, dApp, dExt, dUpd0, dPut, dAug, dRet, dRetV, dRetN, dBreak, dCont, dIf, dB_u, dTru_u, dTNot, dTAnd, dTOr, dAndV_u, dOrV_u, dNotV_u, dIfX, dChain_u, dCall, dCallB, dSl, dNoP, dP_u, dLc, dDrop, dFrz, frzD, dAsg, dDicK, dDicT, gN, gT, gsC, gsN, kB.eq_1, kT.eq_1, kT.eq_2, kT.eq_3, kT.eq_4, kT.eq_5, kT.eq_6, kT.eq_7, kT.eq_8, kAnd.eq_1, kOr.eq_1, kNot.eq_1, kIt.eq_1, kIt.eq_2, kIt.eq_3, kIt.eq_4, kP.eq_1, kR1.eq_1, kR2.eq_1, sAdd.eq_1, sAdd.eq_2, sAdd.eq_3, sAdd.eq_4, sJ2.eq_1, sI2.eq_1, sPow, sLt.eq_1, sLt.eq_2, sLe, sGt, sGe, sMul.eq_1, sMul.eq_2, sMulB.eq_1, sMulB.eq_2, sMulB.eq_3, sLR1.eq_1, sLR2.eq_1, sTR1.eq_1, sTR2.eq_1, sIsBl.eq_1, dZip, kZip.eq_1, dDisp1, dIxW, dLenW, dName, dAppW, dPutW, dMelt, dCallBE, kIxW.eq_1, kLenW.eq_1, dLcW, kIxW_lst, kIxW_tup, kIxW_scr, kIxW_str, kIxW_dK, kIxW_dT, kLenW_lst, kLenW_tup, kLenW_scr, kLenW_str, kNm_f, kNm_t, kName, isL.eq_1, isL.eq_2, sNeg.eq_1, sLen.eq_1, sLen.eq_2, sLen.eq_3, sLen.eq_4, sLen.eq_5, sAbs.eq_1, sMax, sMin, sInt.eq_1, sInt.eq_2, sStr.eq_1, sList.eq_1, sList.eq_2, sList.eq_3, sTuple.eq_1, sTuple.eq_2, sTuple.eq_3, sIsN, sNotN, sIx.eq_1, sIx.eq_2, sIx.eq_3, sIx.eq_4, sIx.eq_5, sIx.eq_6, sIx.eq_7, sSl.eq_1, sSl.eq_2, sSl.eq_3, sSl.eq_4, sRev.eq_1, sRev.eq_2, sRev.eq_3, sAddI.eq_1, sAddI.eq_2, sPut.eq_1, sPut.eq_2, sPut.eq_3, sPut.eq_4, D.isNon, sEq_ii, sNe_ii, sEq_ww, sNe_ww, sEq_ll, sNe_ll, sIsi_ii, sIsi_ib, sIsi_ll, sIsi_tt, sIsi_ss, sEq_w, sEq_i, sEq_lw, sEq_lw', sEq_lle, sEq_lle', sNe_w, sNe_i, sNe_lle', sNe_lw', sEq_ss, sNe_ss, sEq_bb, sNe_bb, sIn_iw, sIn_ii, sIn_wl, sIn_wl', sSl3.eq_1, sSl3.eq_2, dSl3, isS.eq_1, isL.eq_1, isL.eq_2, isA.eq_1, dM0, dM1, sUpper.eq_1, sLower.eq_1, sStrip1.eq_1, sSfind.eq_1, sScount.eq_1, sSindex.eq_1, sSsplit.eq_1, sSjoin.eq_1, sSjoin.eq_2, fPop_snoc, fPop_snoc', startD, wipeD, List.map_cons, List.map_nil, List.length_cons, List.length_nil, List.length_map, List.cons_append, List.nil_append, List.replicate, List.set_cons_zero, List.set_cons_succ, List.set_nil, List.getElem?_cons_zero, List.getElem?_cons_succ, Bool.true_and, Bool.and_true, Bool.and_false, Bool.false_and, Bool.not_true, Bool.not_false, if_true, if_false, Bool.false_eq_true, reduceIte, and_true, true_and, decide_true, decide_false, not_true, Nat.zero_le, Nat.zero_add, Nat.reduceAdd, Nat.reduceSub, D.scal, Option.some.injEq, exists_eq_left', exists_eq_left, exists_eq', D.int.injEq, D.lst.injEq, D.tup.injEq, D.scr.injEq, D.str.injEq, List.cons.injEq, and_self]
      refine ⟨wD u, atI_f wD (by omega) (by rw [Int.toNat_natCast]; exact hu), come.length, ts.length, tab, u, r, rfl, g, u2, u1, ?_⟩
      try simp -implicitDefEqProofs only [not_true, dNext, dSet, dLst, dTup, dNil, dCons, dConsO, dFor, dRng1_u, dRng2_u, dIt_u, oX, dC, dBin, dUn, dVarR, dVar, dApp, dExt, dUpd0, dPut, dAug, dRet, dRetV, dRetN, dBreak, dCont, dIf, dB_u, dTru_u, dTNot, dTAnd, dTOr, dAndV_u, dOrV_u, dNotV_u, dIfX, dChain_u, dCall, dCallB, dSl, dNoP, dP_u, dLc, dDrop, dFrz, frzD, dAsg, dDicK, dDicT, gN, gT, gsC, gsN, kB.eq_1, kT.eq_1, kT.eq_2, kT.eq_3, kT.eq_4, kT.eq_5, kT.eq_6, kT.eq_7, kT.eq_8, kAnd.eq_1, kOr.eq_1, kNot.eq_1, kIt.eq_1, kIt.eq_2, kIt.eq_3, kIt.eq_4, kP.eq_1, kR1.eq_1, kR2.eq_1, sAdd.eq_1, sAdd.eq_2, sAdd.eq_3, sAdd.eq_4, sJ2.eq_1, sI2.eq_1, sPow, sLt.eq_1, sLt.eq_2, sLe, sGt, sGe, sMul.eq_1, sMul.eq_2, sMulB.eq_1, sMulB.eq_2, sMulB.eq_3, sLR1.eq_1, sLR2.eq_1, sTR1.eq_1, sTR2.eq_1, sIsBl.eq_1, dZip, kZip.eq_1, dDisp1, dIxW, dLenW, dName, dAppW, dPutW, dMelt, dCallBE, kIxW.eq_1, kLenW.eq_1, dLcW, kIxW_lst, kIxW_tup, kIxW_scr, kIxW_str, kIxW_dK, kIxW_dT, kLenW_lst, kLenW_tup, kLenW_scr, kLenW_str, kNm_f, kNm_t, kName, isL.eq_1, isL.eq_2, sNeg.eq_1, sLen.eq_1, sLen.eq_2, sLen.eq_3, sLen.eq_4, sLen.eq_5, sAbs.eq_1, sMax, sMin, sInt.eq_1, sInt.eq_2, sStr.eq_1, sList.eq_1, sList.eq_2, sList.eq_3, sTuple.eq_1, sTuple.eq_2, sTuple.eq_3, sIsN, sNotN, sIx.eq_1, sIx.eq_2, sIx.eq_3, sIx.eq_4, sIx.eq_5, sIx.eq_6, sIx.eq_7, sSl.eq_1, sSl.eq_2, sSl.eq_3, sSl.eq_4, sRev.eq_1, sRev.eq_2, sRev.eq_3, sAddI.eq_1, sAddI.eq_2, sPut.eq_1, sPut.eq_2, sPut.eq_3, sPut.eq_4, D.isNon, sEq_ii, sNe_ii, sEq_ww, sNe_ww, sEq_ll, sNe_ll, sIsi_ii, sIsi_ib, sIsi_ll, sIsi_tt, sIsi_ss, sEq_w, sEq_i, sEq_lw, sEq_lw', sEq_lle, sEq_lle', sNe_w, sNe_i, sNe_lle', sNe_lw', sEq_ss, sNe_ss, sEq_bb, sNe_bb, sIn_iw, sIn_ii, sIn_wl, sIn_wl', sSl3.eq_1, sSl3.eq_2, dSl3, isS.eq_1, isL.eq_1, isL.eq_2, isA.eq_1, dM0, dM1, sUpper.eq_1, sLower.eq_1, sStrip1.eq_1, sSfind.eq_1, sScount.eq_1, sSindex.eq_1, sSsplit.eq_1, sSjoin.eq_1, sSjoin.eq_2, fPop_snoc, fPop_snoc', startD, wipeD, List.map_cons, List.map_nil, List.length_cons, List.length_nil, List.length_map, List.cons_append, List.nil_append, List.replicate, List.set_cons_zero, List.set_cons_succ, List.set_nil, List.getElem?_cons_zero, List.getElem?_cons_succ, Bool.true_and, Bool.and_true, Bool.and_false, Bool.false_and, Bool.not_true, Bool.not_false, if_true, if_false, Bool.false_eq_true, reduceIte, and_true, true_and, decide_true, decide_false, not_true, Nat.zero_le, Nat.zero_add, Nat.reduceAdd, Nat.reduceSub, D.scal, Option.some.injEq, exists_eq_left', exists_eq_left, exists_eq', D.int.injEq, D.lst.injEq, D.tup.injEq, D.scr.injEq, D.str.injEq, List.cons.injEq, and_self]
      exact hN _ _ ⟨rfl, some (false, .int r), j5, j6, by simp [lwD]⟩
    · rintro δ w' ⟨rfl, j4, j5, j6, rfl⟩
      exact h _ _ ⟨rfl, _, _, _, rfl⟩
  rintro δ w' ⟨rfl, j4, j5, j6, rfl⟩
  refine seq_cut (fun δ w' => w' = noMem ∧ ∃ j4 j5 j6, δ = [some (false, .scr ns), some (false, .lst (tab.map nL)), some (false, .lst (tab.map nL)), some (true, lwD ws), j4, j5, j6]) (fun N h => ?_) ?_
  · try simp -implicitDefEqProofs only [dNext, dSet, dLst, dTup, dNil, dCons, dConsO, dFor, dRng1_u, dRng2_u, dIt_u, oX, dC, dBin, dUn, dVarR, dVar, dApp, dExt, dUpd0, dPut, dAug, dRet, dRetV, dRetN, dBreak, dCont, dIf, dB_u, dTru_u, dTNot, dTAnd, dTOr, dAndV_u, dOrV_u, dNotV_u, dIfX, dChain_u, dCall, dCallB, dSl, dNoP, dP_u, dLc, dDrop, dFrz, frzD, dAsg, dDicK, dDicT, gN, gT, gsC, gsN, kB.eq_1, kT.eq_1, kT.eq_2, kT.eq_3, kT.eq_4, kT.eq_5, kT.eq_6, kT.eq_7, kT.eq_8, kAnd.eq_1, kOr.eq_1, kNot.eq_1, kIt.eq_1, kIt.eq_2, kIt.eq_3, kIt.eq_4, kP.eq_1, kR1.eq_1, kR2.eq_1, sAdd.eq_1, sAdd.eq_2, sAdd.eq_3, sAdd.eq_4, sJ2.eq_1, sI2.eq_1, sPow, sLt.eq_1, sLt.eq_2, sLe, sGt, sGe, sMul.eq_1, sMul.eq_2, sMulB.eq_1, sMulB.eq_2, sMulB.eq_3, sLR1.eq_1, sLR2.eq_1, sTR1.eq_1, sTR2.eq_1, sIsBl.eq_1, dZip, kZip.eq_1, dDisp1, dIxW, dLenW, dName, dAppW, dPutW, dMelt, dCallBE, kIxW.eq_1, kLenW.eq_1, dLcW, kIxW_lst, kIxW_tup, kIxW_scr, kIxW_str, kIxW_dK, kIxW_dT, kLenW_lst, kLenW_tup, kLenW_scr, kLenW_str, kNm_f, kNm_t, kName, isL.eq_1, isL.eq_2, sNeg.eq_1, sLen.eq_1, sLen.eq_2, sLen.eq_3, sLen.eq_4, sLen.eq_5, sAbs.eq_1, sMax, sMin, sInt.eq_1, sInt.eq_2, sStr.eq_1, sList.eq_1, sList.eq_2, sList.eq_3, sTuple.eq_1, sTuple.eq_2, sTuple.eq_3, sIsN, sNotN, sIx.eq_1, sIx.eq_2, sIx.eq_3, sIx.eq_4, sIx.eq_5, sIx.eq_6, sIx.eq_7, sSl.eq_1, sSl.eq_2, sSl.eq_3, sSl.eq_4, sRev.eq_1, sRev.eq_2, sRev.eq_3, sAddI.eq_1, sAddI.eq_2, sPut.eq_1, sPut.eq_2, sPut.eq_3, sPut.eq_4, D.isNon, sEq_ii, sNe_ii, sEq_ww, sNe_ww, sEq_ll, sNe_ll, sIsi_ii, sIsi_ib, sIsi_ll, sIsi_tt, sIsi_ss, sEq_w, sEq_i, sEq_lw, sEq_lw', sEq_lle, sEq_lle', sNe_w, sNe_i, sNe_lle', sNe_lw', sEq_ss, sNe_ss, sEq_bb, sNe_bb, sIn_iw, sIn_ii, sIn_wl, sIn_wl', sSl3.eq_1, sSl3.eq_2, dSl3, isS.eq_1, isL.eq_1, isL.eq_2, isA.eq_1, dM0, dM1, sUpper.eq_1, sLower.eq_1, sStrip1.eq_1, sSfind.eq_1, sScount.eq_1, sSindex.eq_1, sSsplit.eq_1, sSjoin.eq_1, sSjoin.eq_2, fPop_snoc, fPop_snoc', startD, wipeD, List.map_cons, List.map_nil, List.length_cons, List.length_nil, List.length_map, List.cons_append, List.nil_append, List.replicate, List.set_cons_zero, List.set_cons_succ, List.set_nil, List.getElem?_cons_zero, List.getElem?_cons_succ, Bool.true_and, Bool.and_true, Bool.and_false, Bool.false_and, Bool.not_true, Bool.not_false, if_true, if_false, Bool.false_eq_true, reduceIte, and_true, true_and, decide_true, decide_false, not_true, Nat.zero_le, Nat.zero_add, Nat.reduceAdd, Nat.reduceSub, D.scal, Option.some.injEq, exists_eq_left', exists_eq_left, exists_eq', D.int.injEq, D.lst.injEq, D.tup.injEq, D.scr.injEq, D.str.injEq, List.cons.injEq, and_self]
    refine ⟨come.length, ts.length, tab, ws, rfl, g, lw, ⟨rfl, rfl, rfl⟩, ?_⟩
    try simp -implicitDefEqProofs only [sNe_tab, not_true, dNext, dSet, dLst, dTup, dNil, dCons, dConsO, dFor, dRng1_u, dRng2_u, dIt_u, oX, dC, dBin, dUn, dVarR, dVar, dApp, dExt, dUpd0, dPut, dAug, dRet, dRetV, dRetN, dBreak, dCont, dIf, dB_u, dTru_u, dTNot, dTAnd, dTOr, dAndV_u, dOrV_u, dNotV_u, dIfX, dChain_u, dCall, dCallB, dSl, dNoP, dP_u, dLc, dDrop, dFrz, frzD, dAsg, dDicK, dDicT, gN, gT, gsC, gsN, kB.eq_1, kT.eq_1, kT.eq_2, kT.eq_3, kT.eq_4, kT.eq_5, kT.eq_6, kT.eq_7, kT.eq_8, kAnd.eq_1, kOr.eq_1, kNot.eq_1, kIt.eq_1, kIt.eq_2, kIt.eq_3, kIt.eq_4, kP.eq_1, kR1.eq_1, kR2.eq_1, sAdd.eq_1, sAdd.eq_2, sAdd.eq_3, sAdd.eq_4, sJ2.eq_1, sI2.eq_1, sPow, sLt.eq_1, sLt.eq_2, sLe, sGt, sGe, sMul.eq_1, sMul.eq_2, sMulB.eq_1, sMulB.eq_2, sMulB.eq_3, sLR1.eq_1, sLR2.eq_1, sTR1.eq_1, sTR2.eq_1, sIsBl.eq_1, dZip, kZip.eq_1, dDisp1, dIxW, dLenW, dName, dAppW, dPutW, dMelt, dCallBE, kIxW.eq_1, kLenW.eq_1, dLcW, kIxW_lst, kIxW_tup, kIxW_scr, kIxW_str, kIxW_dK, kIxW_dT, kLenW_lst, kLenW_tup, kLenW_scr, kLenW_str, kNm_f, kNm_t, kName, isL.eq_1, isL.eq_2, sNeg.eq_1, sLen.eq_1, sLen.eq_2, sLen.eq_3, sLen.eq_4, sLen.eq_5, sAbs.eq_1, sMax, sMin, sInt.eq_1, sInt.eq_2, sStr.eq_1, sList.eq_1, sList.eq_2, sList.eq_3, sTuple.eq_1, sTuple.eq_2, sTuple.eq_3, sIsN, sNotN, sIx.eq_1, sIx.eq_2, sIx.eq_3, sIx.eq_4, sIx.eq_5, sIx.eq_6, sIx.eq_7, sSl.eq_1, sSl.eq_2, sSl.eq_3, sSl.eq_4, sRev.eq_1, sRev.eq_2, sRev.eq_3, sAddI.eq_1, sAddI.eq_2, sPut.eq_1, sPut.eq_2, sPut.eq_3, sPut.eq_4, D.isNon, sEq_ii, sNe_ii, sEq_ww, sNe_ww, sEq_ll, sNe_ll, sIsi_ii, sIsi_ib, sIsi_ll, sIsi_tt, sIsi_ss, sEq_w, sEq_i, sEq_lw, sEq_lw', sEq_lle, sEq_lle', sNe_w, sNe_i, sNe_lle', sNe_lw', sEq_ss, sNe_ss, sEq_bb, sNe_bb, sIn_iw, sIn_ii, sIn_wl, sIn_wl', sSl3.eq_1, sSl3.eq_2, dSl3, isS.eq_1, isL.eq_1, isL.eq_2, isA.eq_1, dM0, dM1, sUpper.eq_1, sLower.eq_1, sStrip1.eq_1, sSfind.eq_1, sScount.eq_1, sSindex.eq_1, sSsplit.eq_1, sSjoin.eq_1, sSjoin.eq_2, fPop_snoc, fPop_snoc', startD, wipeD, List.map_cons, List.map_nil, List.length_cons, List.length_nil, List.length_map, List.cons_append, List.nil_append, List.replicate, List.set_cons_zero, List.set_cons_succ, List.set_nil, List.getElem?_cons_zero, List.getElem?_cons_succ, Bool.true_and, Bool.and_true, Bool.and_false, Bool.false_and, Bool.not_true, Bool.not_false, if_true, if_false, Bool.false_eq_true, reduceIte, and_true, true_and, decide_true, decide_false, not_true, Nat.zero_le, Nat.zero_add, Nat.reduceAdd, Nat.reduceSub, D.scal, Option.some.injEq, exists_eq_left', exists_eq_left, exists_eq', D.int.injEq, D.lst.injEq, D.tup.injEq, D.scr.injEq, D.str.injEq, List.cons.injEq, and_self]
    exact h _ _ ⟨rfl, _, _, _, rfl⟩
  rintro δ w' ⟨rfl, j4, j5, j6, rfl⟩
  refine seq_i ?_
  try simp -implicitDefEqProofs only [lwD, dNext, dSet, dLst, dTup, dNil, dCons, dConsO, dFor, dRng1_u, dRng2_u, dIt_u, oX, dC, dBin, dUn, dVarR, dVar, dApp, dExt, dUpd0, dPut, dAug, dRet, dRetV, dRetN, dBreak, dCont, dIf, dB_u, dTru_u, dTNot, dTAnd, dTOr, dAndV_u, dOrV_u, dNotV_u, dIfX, dChain_u, dCall, dCallB, dSl, dNoP, dP_u, dLc, dDrop, dFrz, frzD, dAsg, dDicK, dDicT, gN, gT, gsC, gsN, kB.eq_1, kT.eq_1, kT.eq_2, kT.eq_3, kT.eq_4, kT.eq_5, kT.eq_6, kT.eq_7, kT.eq_8, kAnd.eq_1, kOr.eq_1, kNot.eq_1, kIt.eq_1, kIt.eq_2, kIt.eq_3, kIt.eq_4, kP.eq_1, kR1.eq_1, kR2.eq_1, sAdd.eq_1, sAdd.eq_2, sAdd.eq_3, sAdd.eq_4, sJ2.eq_1, sI2.eq_1, sPow, sLt.eq_1, sLt.eq_2, sLe, sGt, sGe, sMul.eq_1, sMul.eq_2, sMulB.eq_1, sMulB.eq_2, sMulB.eq_3, sLR1.eq_1, sLR2.eq_1, sTR1.eq_1, sTR2.eq_1, sIsBl.eq_1, dZip, kZip.eq_1, dDisp1, dIxW, dLenW, dName, dAppW, dPutW, dMelt, dCallBE, kIxW.eq_1, kLenW.eq_1, dLcW, kIxW_lst, kIxW_tup, kIxW_scr, kIxW_str, kIxW_dK, kIxW_dT, kLenW_lst, kLenW_tup, kLenW_scr, kLenW_str, kNm_f, kNm_t, kName, isL.eq_1, isL.eq_2, sNeg.eq_1, sLen.eq_1, sLen.eq_2, sLen.eq_3, sLen.eq_4, sLen.eq_5, sAbs.eq_1, sMax, sMin, sInt.eq_1, sInt.eq_2, sStr.eq_1, sList.eq_1, sList.eq_2, sList.eq_3, sTuple.eq_1, sTuple.eq_2, sTuple.eq_3, sIsN, sNotN, sIx.eq_1, sIx.eq_2, sIx.eq_3, sIx.eq_4, sIx.eq_5, sIx.eq_6, sIx.eq_7, sSl.eq_1, sSl.eq_2, sSl.eq_3, sSl.eq_4, sRev.eq_1, sRev.eq_2, sRev.eq_3, sAddI.eq_1, sAddI.eq_2, sPut.eq_1, sPut.eq_2, sPut.eq_3, sPut.eq_4, D.isNon, sEq_ii, sNe_ii, sEq_ww, sNe_ww, sEq_ll, sNe_ll, sIsi_ii, sIsi_ib, sIsi_ll, sIsi_tt, sIsi_ss, sEq_w, sEq_i, sEq_lw, sEq_lw', sEq_lle, sEq_lle', sNe_w, sNe_i, sNe_lle', sNe_lw', sEq_ss, sNe_ss, sEq_bb, sNe_bb, sIn_iw, sIn_ii, sIn_wl, sIn_wl', sSl3.eq_1, sSl3.eq_2, dSl3, isS.eq_1, isL.eq_1, isL.eq_2, isA.eq_1, dM0, dM1, sUpper.eq_1, sLower.eq_1, sStrip1.eq_1, sSfind.eq_1, sScount.eq_1, sSindex.eq_1, sSsplit.eq_1, sSjoin.eq_1, sSjoin.eq_2, fPop_snoc, fPop_snoc', startD, wipeD, List.map_cons, List.map_nil, List.length_cons, List.length_nil, List.length_map, List.cons_append, List.nil_append, List.replicate, List.set_cons_zero, List.set_cons_succ, List.set_nil, List.getElem?_cons_zero, List.getElem?_cons_succ, Bool.true_and, Bool.and_true, Bool.and_false, Bool.false_and, Bool.not_true, Bool.not_false, if_true, if_false, Bool.false_eq_true, reduceIte, and_true, true_and, decide_true, decide_false, not_true, Nat.zero_le, Nat.zero_add, Nat.reduceAdd, Nat.reduceSub, D.scal, Option.some.injEq, exists_eq_left', exists_eq_left, exists_eq', D.int.injEq, D.lst.injEq, D.tup.injEq, D.scr.injEq, D.str.injEq, List.cons.injEq, and_self]
  refine seq_i ?_
  try simp -implicitDefEqProofs only [dNext, dSet, dLst, dTup, dNil, dCons, dConsO, dFor, dRng1_u, dRng2_u, dIt_u, oX, dC, dBin, dUn, dVarR, dVar, dApp, dExt, dUpd0, dPut, dAug, dRet, dRetV, dRetN, dBreak, dCont, dIf, dB_u, dTru_u, dTNot, dTAnd, dTOr, dAndV_u, dOrV_u, dNotV_u, dIfX, dChain_u, dCall, dCallB, dSl, dNoP, dP_u, dLc, dDrop, dFrz, frzD, dAsg, dDicK, dDicT, gN, gT, gsC, gsN, kB.eq_1, kT.eq_1, kT.eq_2, kT.eq_3, kT.eq_4, kT.eq_5, kT.eq_6, kT.eq_7, kT.eq_8, kAnd.eq_1, kOr.eq_1, kNot.eq_1, kIt.eq_1, kIt.eq_2, kIt.eq_3, kIt.eq_4, kP.eq_1, kR1.eq_1, kR2.eq_1, sAdd.eq_1, sAdd.eq_2, sAdd.eq_3, sAdd.eq_4, sJ2.eq_1, sI2.eq_1, sPow, sLt.eq_1, sLt.eq_2, sLe, sGt, sGe, sMul.eq_1, sMul.eq_2, sMulB.eq_1, sMulB.eq_2, sMulB.eq_3, sLR1.eq_1, sLR2.eq_1, sTR1.eq_1, sTR2.eq_1, sIsBl.eq_1, dZip, kZip.eq_1, dDisp1, dIxW, dLenW, dName, dAppW, dPutW, dMelt, dCallBE, kIxW.eq_1, kLenW.eq_1, dLcW, kIxW_lst, kIxW_tup, kIxW_scr, kIxW_str, kIxW_dK, kIxW_dT, kLenW_lst, kLenW_tup, kLenW_scr, kLenW_str, kNm_f, kNm_t, kName, isL.eq_1, isL.eq_2, sNeg.eq_1, sLen.eq_1, sLen.eq_2, sLen.eq_3, sLen.eq_4, sLen.eq_5, sAbs.eq_1, sMax, sMin, sInt.eq_1, sInt.eq_2, sStr.eq_1, sList.eq_1, sList.eq_2, sList.eq_3, sTuple.eq_1, sTuple.eq_2, sTuple.eq_3, sIsN, sNotN, sIx.eq_1, sIx.eq_2, sIx.eq_3, sIx.eq_4, sIx.eq_5, sIx.eq_6, sIx.eq_7, sSl.eq_1, sSl.eq_2, sSl.eq_3, sSl.eq_4, sRev.eq_1, sRev.eq_2, sRev.eq_3, sAddI.eq_1, sAddI.eq_2, sPut.eq_1, sPut.eq_2, sPut.eq_3, sPut.eq_4, D.isNon, sEq_ii, sNe_ii, sEq_ww, sNe_ww, sEq_ll, sNe_ll, sIsi_ii, sIsi_ib, sIsi_ll, sIsi_tt, sIsi_ss, sEq_w, sEq_i, sEq_lw, sEq_lw', sEq_lle, sEq_lle', sNe_w, sNe_i, sNe_lle', sNe_lw', sEq_ss, sNe_ss, sEq_bb, sNe_bb, sIn_iw, sIn_ii, sIn_wl, sIn_wl', sSl3.eq_1, sSl3.eq_2, dSl3, isS.eq_1, isL.eq_1, isL.eq_2, isA.eq_1, dM0, dM1, sUpper.eq_1, sLower.eq_1, sStrip1.eq_1, sSfind.eq_1, sScount.eq_1, sSindex.eq_1, sSsplit.eq_1, sSjoin.eq_1, sSjoin.eq_2, fPop_snoc, fPop_snoc', startD, wipeD, List.map_cons, List.map_nil, List.length_cons, List.length_nil, List.length_map, List.cons_append, List.nil_append, List.replicate, List.set_cons_zero, List.set_cons_succ, List.set_nil, List.getElem?_cons_zero, List.getElem?_cons_succ, Bool.true_and, Bool.and_true, Bool.and_false, Bool.false_and, Bool.not_true, Bool.not_false, if_true, if_false, Bool.false_eq_true, reduceIte, and_true, true_and, decide_true, decide_false, not_true, Nat.zero_le, Nat.zero_add, Nat.reduceAdd, Nat.reduceSub, D.scal, Option.some.injEq, exists_eq_left', exists_eq_left, exists_eq', D.int.injEq, D.lst.injEq, D.tup.injEq, D.scr.injEq, D.str.injEq, List.cons.injEq, and_self]
  refine seq_i ?_
  try simp -implicitDefEqProofs only [dNext, dSet, dLst, dTup, dNil, dCons, dConsO, dFor, dRng1_u, dRng2_u, dIt_u, oX, dC, dBin, dUn, dVarR, dVar, dApp, dExt, dUpd0, dPut, dAug, dRet, dRetV, dRetN, dBreak, dCont, dIf, dB_u, dTru_u, dTNot, dTAnd, dTOr, dAndV_u, dOrV_u, dNotV_u, dIfX, dChain_u, dCall, dCallB, dSl, dNoP, dP_u, dLc, dDrop, dFrz, frzD, dAsg, dDicK, dDicT, gN, gT, gsC, gsN, kB.eq_1, kT.eq_1, kT.eq_2, kT.eq_3, kT.eq_4, kT.eq_5, kT.eq_6, kT.eq_7, kT.eq_8, kAnd.eq_1, kOr.eq_1, kNot.eq_1, kIt.eq_1, kIt.eq_2, kIt.eq_3, kIt.eq_4, kP.eq_1, kR1.eq_1, kR2.eq_1, sAdd.eq_1, sAdd.eq_2, sAdd.eq_3, sAdd.eq_4, sJ2.eq_1, sI2.eq_1, sPow, sLt.eq_1, sLt.eq_2, sLe, sGt, sGe, sMul.eq_1, sMul.eq_2, sMulB.eq_1, sMulB.eq_2, sMulB.eq_3, sLR1.eq_1, sLR2.eq_1, sTR1.eq_1, sTR2.eq_1, sIsBl.eq_1, dZip, kZip.eq_1, dDisp1, dIxW, dLenW, dName, dAppW, dPutW, dMelt, dCallBE, kIxW.eq_1, kLenW.eq_1, dLcW, kIxW_lst, kIxW_tup, kIxW_scr, kIxW_str, kIxW_dK, kIxW_dT, kLenW_lst, kLenW_tup, kLenW_scr, kLenW_str, kNm_f, kNm_t, kName, isL.eq_1, isL.eq_2, sNeg.eq_1, sLen.eq_1, sLen.eq_2, sLen.eq_3, sLen.eq_4, sLen.eq_5, sAbs.eq_1, sMax, sMin, sInt.eq_1, sInt.eq_2, sStr.eq_1, sList.eq_1, sList.eq_2, sList.eq_3, sTuple.eq_1, sTuple.eq_2, sTuple.eq_3, sIsN, sNotN, sIx.eq_1, sIx.eq_2, sIx.eq_3, sIx.eq_4, sIx.eq_5, sIx.eq_6, sIx.eq_7, sSl.eq_1, sSl.eq_2, sSl.eq_3, sSl.eq_4, sRev.eq_1, sRev.eq_2, sRev.eq_3, sAddI.eq_1, sAddI.eq_2, sPut.eq_1, sPut.eq_2, sPut.eq_3, sPut.eq_4, D.isNon, sEq_ii, sNe_ii, sEq_ww, sNe_ww, sEq_ll, sNe_ll, sIsi_ii, sIsi_ib, sIsi_ll, sIsi_tt, sIsi_ss, sEq_w, sEq_i, sEq_lw, sEq_lw', sEq_lle, sEq_lle', sNe_w, sNe_i, sNe_lle', sNe_lw', sEq_ss, sNe_ss, sEq_bb, sNe_bb, sIn_iw, sIn_ii, sIn_wl, sIn_wl', sSl3.eq_1, sSl3.eq_2, dSl3, isS.eq_1, isL.eq_1, isL.eq_2, isA.eq_1, dM0, dM1, sUpper.eq_1, sLower.eq_1, sStrip1.eq_1, sSfind.eq_1, sScount.eq_1, sSindex.eq_1, sSsplit.eq_1, sSjoin.eq_1, sSjoin.eq_2, fPop_snoc, fPop_snoc', startD, wipeD, List.map_cons, List.map_nil, List.length_cons, List.length_nil, List.length_map, List.cons_append, List.nil_append, List.replicate, List.set_cons_zero, List.set_cons_succ, List.set_nil, List.getElem?_cons_zero, List.getElem?_cons_succ, Bool.true_and, Bool.and_true, Bool.and_false, Bool.false_and, Bool.not_true, Bool.not_false, if_true, if_false, Bool.false_eq_true, reduceIte, and_true, true_and, decide_true, decide_false, not_true, Nat.zero_le, Nat.zero_add, Nat.reduceAdd, Nat.reduceSub, D.scal, Option.some.injEq, exists_eq_left', exists_eq_left, exists_eq', D.int.injEq, D.lst.injEq, D.tup.injEq, D.scr.injEq, D.str.injEq, List.cons.injEq, and_self]
  refine ⟨by first | omega | (simp; omega) | (simp at *; omega), ?_⟩
  try simp -implicitDefEqProofs only [dNext, dSet, dLst, dTup, dNil, dCons, dConsO, dFor, dRng1_u, dRng2_u, dIt_u, oX, dC, dBin, dUn, dVarR, dVar, dApp, dExt, dUpd0, dPut, dAug, dRet, dRetV, dRetN, dBreak, dCont, dIf, dB_u, dTru_u, dTNot, dTAnd, dTOr, dAndV_u, dOrV_u, dNotV_u, dIfX, dChain_u, dCall, dCallB, dSl, dNoP, dP_u, dLc, dDrop, dFrz, frzD, dAsg, dDicK, dDicT, gN, gT, gsC, gsN, kB.eq_1, kT.eq_1, kT.eq_2, kT.eq_3, kT.eq_4, kT.eq_5, kT.eq_6, kT.eq_7, kT.eq_8, kAnd.eq_1, kOr.eq_1, kNot.eq_1, kIt.eq_1, kIt.eq_2, kIt.eq_3, kIt.eq_4, kP.eq_1, kR1.eq_1, kR2.eq_1, sAdd.eq_1, sAdd.eq_2, sAdd.eq_3, sAdd.eq_4, sJ2.eq_1, sI2.eq_1, sPow, sLt.eq_1, sLt.eq_2, sLe, sGt, sGe, sMul.eq_1, sMul.eq_2, sMulB.eq_1, sMulB.eq_2, sMulB.eq_3, sLR1.eq_1, sLR2.eq_1, sTR1.eq_1, sTR2.eq_1, sIsBl.eq_1, dZip, kZip.eq_1, dDisp1, dIxW, dLenW, dName, dAppW, dPutW, dMelt, dCallBE, kIxW.eq_1, kLenW.eq_1, dLcW, kIxW_lst, kIxW_tup, kIxW_scr, kIxW_str, kIxW_dK, kIxW_dT, kLenW_lst, kLenW_tup, kLenW_scr, kLenW_str, kNm_f, kNm_t, kName, isL.eq_1, isL.eq_2, sNeg.eq_1, sLen.eq_1, sLen.eq_2, sLen.eq_3, sLen.eq_4, sLen.eq_5, sAbs.eq_1, sMax, sMin, sInt.eq_1, sInt.eq_2, sStr.eq_1, sList.eq_1, sList.eq_2, sList.eq_3, sTuple.eq_1, sTuple.eq_2, sTuple.eq_3, sIsN, sNotN, sIx.eq_1, sIx.eq_2, sIx.eq_3, sIx.eq_4, sIx.eq_5, sIx.eq_6, sIx.eq_7, sSl.eq_1, sSl.eq_2, sSl.eq_3, sSl.eq_4, sRev.eq_1, sRev.eq_2, sRev.eq_3, sAddI.eq_1, sAddI.eq_2, sPut.eq_1, sPut.eq_2, sPut.eq_3, sPut.eq_4, D.isNon, sEq_ii, sNe_ii, sEq_ww, sNe_ww, sEq_ll, sNe_ll, sIsi_ii, sIsi_ib, sIsi_ll, sIsi_tt, sIsi_ss, sEq_w, sEq_i, sEq_lw, sEq_lw', sEq_lle, sEq_lle', sNe_w, sNe_i, sNe_lle', sNe_lw', sEq_ss, sNe_ss, sEq_bb, sNe_bb, sIn_iw, sIn_ii, sIn_wl, sIn_wl', sSl3.eq_1, sSl3.eq_2, dSl3, isS.eq_1, isL.eq_1, isL.eq_2, isA.eq_1, dM0, dM1, sUpper.eq_1, sLower.eq_1, sStrip1.eq_1, sSfind.eq_1, sScount.eq_1, sSindex.eq_1, sSsplit.eq_1, sSjoin.eq_1, sSjoin.eq_2, fPop_snoc, fPop_snoc', startD, wipeD, List.map_cons, List.map_nil, List.length_cons, List.length_nil, List.length_map, List.cons_append, List.nil_append, List.replicate, List.set_cons_zero, List.set_cons_succ, List.set_nil, List.getElem?_cons_zero, List.getElem?_cons_succ, Bool.true_and, Bool.and_true, Bool.and_false, Bool.false_and, Bool.not_true, Bool.not_false, if_true, if_false, Bool.false_eq_true, reduceIte, and_true, true_and, decide_true, decide_false, not_true, Nat.zero_le, Nat.zero_add, Nat.reduceAdd, Nat.reduceSub, D.scal, Option.some.injEq, exists_eq_left', exists_eq_left, exists_eq', D.int.injEq, D.lst.injEq, D.tup.injEq, D.scr.injEq, D.str.injEq, List.cons.injEq, and_self]
  refine ⟨come.length, ts.length, tab, rfl, g, fun us lu => ?_⟩
  have := lw.uniq lu
  subst this
  have e := sEq_lw' ws ws
  try simp -implicitDefEqProofs only [lwD, sEq_tab, dNext, dSet, dLst, dTup, dNil, dCons, dConsO, dFor, dRng1_u, dRng2_u, dIt_u, oX, dC, dBin, dUn, dVarR, dVar, dApp, dExt, dUpd0, dPut, dAug, dRet, dRetV, dRetN, dBreak, dCont, dIf, dB_u, dTru_u, dTNot, dTAnd, dTOr, dAndV_u, dOrV_u, dNotV_u, dIfX, dChain_u, dCall, dCallB, dSl, dNoP, dP_u, dLc, dDrop, dFrz, frzD, dAsg, dDicK, dDicT, gN, gT, gsC, gsN, kB.eq_1, kT.eq_1, kT.eq_2, kT.eq_3, kT.eq_4, kT.eq_5, kT.eq_6, kT.eq_7, kT.eq_8, kAnd.eq_1, kOr.eq_1, kNot.eq_1, kIt.eq_1, kIt.eq_2, kIt.eq_3, kIt.eq_4, kP.eq_1, kR1.eq_1, kR2.eq_1, sAdd.eq_1, sAdd.eq_2, sAdd.eq_3, sAdd.eq_4, sJ2.eq_1, sI2.eq_1, sPow, sLt.eq_1, sLt.eq_2, sLe, sGt, sGe, sMul.eq_1, sMul.eq_2, sMulB.eq_1, sMulB.eq_2, sMulB.eq_3, sLR1.eq_1, sLR2.eq_1, sTR1.eq_1, sTR2.eq_1, sIsBl.eq_1, dZip, kZip.eq_1, dDisp1, dIxW, dLenW, dName, dAppW, dPutW, dMelt, dCallBE, kIxW.eq_1, kLenW.eq_1, dLcW, kIxW_lst, kIxW_tup, kIxW_scr, kIxW_str, kIxW_dK, kIxW_dT, kLenW_lst, kLenW_tup, kLenW_scr, kLenW_str, kNm_f, kNm_t, kName, isL.eq_1, isL.eq_2, sNeg.eq_1, sLen.eq_1, sLen.eq_2, sLen.eq_3, sLen.eq_4, sLen.eq_5, sAbs.eq_1, sMax, sMin, sInt.eq_1, sInt.eq_2, sStr.eq_1, sList.eq_1, sList.eq_2, sList.eq_3, sTuple.eq_1, sTuple.eq_2, sTuple.eq_3, sIsN, sNotN, sIx.eq_1, sIx.eq_2, sIx.eq_3, sIx.eq_4, sIx.eq_5, sIx.eq_6, sIx.eq_7, sSl.eq_1, sSl.eq_2, sSl.eq_3, sSl.eq_4, sRev.eq_1, sRev.eq_2, sRev.eq_3, sAddI.eq_1, sAddI.eq_2, sPut.eq_1, sPut.eq_2, sPut.eq_3, sPut.eq_4, D.isNon, sEq_ii, sNe_ii, sEq_ww, sNe_ww, sEq_ll, sNe_ll, sIsi_ii, sIsi_ib, sIsi_ll, sIsi_tt, sIsi_ss, sEq_w, sEq_i, sEq_lw, sEq_lw', sEq_lle, sEq_lle', sNe_w, sNe_i, sNe_lle', sNe_lw', sEq_ss, sNe_ss, sEq_bb, sNe_bb, sIn_iw, sIn_ii, sIn_wl, sIn_wl', sSl3.eq_1, sSl3.eq_2, dSl3, isS.eq_1, isL.eq_1, isL.eq_2, isA.eq_1, dM0, dM1, sUpper.eq_1, sLower.eq_1, sStrip1.eq_1, sSfind.eq_1, sScount.eq_1, sSindex.eq_1, sSsplit.eq_1, sSjoin.eq_1, sSjoin.eq_2, fPop_snoc, fPop_snoc', startD, wipeD, List.map_cons, List.map_nil, List.length_cons, List.length_nil, List.length_map, List.cons_append, List.nil_append, List.replicate, List.set_cons_zero, List.set_cons_succ, List.set_nil, List.getElem?_cons_zero, List.getElem?_cons_succ, Bool.true_and, Bool.and_true, Bool.and_false, Bool.false_and, Bool.not_true, Bool.not_false, if_true, if_false, Bool.false_eq_true, reduceIte, and_true, true_and, decide_true, decide_false, not_true, Nat.zero_le, Nat.zero_add, Nat.reduceAdd, Nat.reduceSub, D.scal, Option.some.injEq, exists_eq_left', exists_eq_left, exists_eq', D.int.injEq, D.lst.injEq, D.tup.injEq, D.scr.injEq, D.str.injEq, List.cons.injEq, and_self]
  exact q _

/-! ### the defs by their places, and that they do so -/
def top (i : Nat) : Stmt := PySem.Challenge.pw_cosetyard_k53_least_ways.main.body.getD i (.Pass ⟨0, 0, 0, 0⟩)
structure Bs (mg : Str → Option Value) : Prop where
  abs_ : mg "abs" = none
  bool_ : mg "bool" = none
  int_ : mg "int" = none
  isinstance_ : mg "isinstance" = none
  len_ : mg "len" = none
  list_ : mg "list" = none
  range_ : mg "range" = none
  tuple_ : mg "tuple" = none
  zip_ : mg "zip" = none
abbrev s_steps_of : Stmt := top 1
theorem sc_steps_of : FnScope ["letters", "steps", "letter"] ["letters"] (defScope s_steps_of) := ⟨rfl, rfl, rfl, by decide +kernel, rfl, by decide +kernel, by decide +kernel⟩
abbrev s_least_ways : Stmt := top 3
theorem sc_least_ways : FnScope ["table", "steps", "ways", "come", "at", "room", "step", "other"] ["table"] (defScope s_least_ways) := ⟨rfl, rfl, rfl, by decide +kernel, rfl, by decide +kernel, by decide +kernel⟩
abbrev s_Lwhole : Stmt := top 5
theorem sc_Lwhole : FnScope ["_law_found"] ["_law_found"] (defScope s_Lwhole) := ⟨rfl, rfl, rfl, by decide +kernel, rfl, by decide +kernel, by decide +kernel⟩
abbrev s_Lat : Stmt := top 6
theorem sc_Lat : FnScope ["_law_script", "_law_k"] ["_law_script", "_law_k"] (defScope s_Lat) := ⟨rfl, rfl, rfl, by decide +kernel, rfl, by decide +kernel, by decide +kernel⟩
abbrev s_Lmix : Stmt := top 7
theorem sc_Lmix : FnScope ["_law_number", "_law_place", "_law_part"] ["_law_number", "_law_place"] (defScope s_Lmix) := ⟨rfl, rfl, rfl, by decide +kernel, rfl, by decide +kernel, by decide +kernel⟩
abbrev s_Lturns : Stmt := top 8
theorem sc_Lturns : FnScope ["_law_script", "_law_letters", "_law_points", "_law_turns_here", "_law_cell", "_law_number", "_law_row", "_law_one", "_law_two", "_law_kept", "_law_k"] ["_law_script", "_law_letters", "_law_points"] (defScope s_Lturns) := ⟨rfl, rfl, rfl, by decide +kernel, rfl, by decide +kernel, by decide +kernel⟩
abbrev s_Ltable : Stmt := top 9
theorem sc_Ltable : FnScope ["_law_turns_here", "_law_points", "_law_backs", "_law_row", "_law_turned", "_law_k", "_law_numbers", "_law_come", "_law_table_here", "_law_point", "_law_other"] ["_law_turns_here", "_law_points"] (defScope s_Ltable) := ⟨rfl, rfl, rfl, by decide +kernel, rfl, by decide +kernel, by decide +kernel⟩
abbrev s_Ldrawn : Stmt := top 10
theorem sc_Ldrawn : FnScope ["_law_script", "_law_number", "_law_points", "_law_letters"] ["_law_script"] (defScope s_Ldrawn) := ⟨rfl, rfl, rfl, by decide +kernel, rfl, by decide +kernel, by decide +kernel⟩
abbrev s_Lspot : Stmt := top 11
theorem sc_Lspot : FnScope ["_law_step"] ["_law_step"] (defScope s_Lspot) := ⟨rfl, rfl, rfl, by decide +kernel, rfl, by decide +kernel, by decide +kernel⟩
abbrev s_Lleads : Stmt := top 12
theorem sc_Lleads : FnScope ["_law_table_here", "_law_way", "_law_room", "_law_at_here", "_law_step"] ["_law_table_here", "_law_way", "_law_room"] (defScope s_Lleads) := ⟨rfl, rfl, rfl, by decide +kernel, rfl, by decide +kernel, by decide +kernel⟩
abbrev s_Lahead : Stmt := top 13
theorem sc_Lahead : FnScope ["_law_one", "_law_other", "_law_k"] ["_law_one", "_law_other"] (defScope s_Lahead) := ⟨rfl, rfl, rfl, by decide +kernel, rfl, by decide +kernel, by decide +kernel⟩
abbrev s_Lleast : Stmt := top 14
theorem sc_Lleast : FnScope ["_law_table_here", "_law_ways", "_law_room", "_law_k", "_law_step"] ["_law_table_here", "_law_ways"] (defScope s_Lleast) := ⟨rfl, rfl, rfl, by decide +kernel, rfl, by decide +kernel, by decide +kernel⟩
abbrev s_law : Stmt := top 15
theorem sc_law : FnScope ["_law_script", "_law_table_here", "_law_handed", "_law_told", "_law_room", "_law_kept", "_law_row"] ["_law_script"] (defScope s_law) := ⟨rfl, rfl, rfl, by decide +kernel, rfl, by decide +kernel, by decide +kernel⟩
section
variable {P : Program} {w : World} {K : PySem.W.Frag} {mg : Str → Option Value} {base : Heap}
theorem d_steps_of {f : Addr} {fd : FuncData} (F : TopFn K mg "steps_of" "steps_of" s_steps_of f fd) (B : Bs mg) : Fn P w K mg base W_ 1 "steps_of" T_steps_of :=
  fn_ok F.fn sc_steps_of F.at_ (fun _ _ _ _ _ _ us hl => match us, hl with | [_], _ => rfl) (fun ds w P h => len_steps_of ds w P h) ⟨b_steps_of, fun cdv A outer s H F0 He0 E hr => (jss_cons (js_set (i := 1) true sc_steps_of.nd (jx_lst ja_nil)) (jss_cons (js_for PassesOwn.never rfl (ji_rng2 B.range_ (jo_of jx_int) (jo_of (jx_op op_addD sem_add (jo_var (pv 0)) (jo_of jx_int)))) (pg_name (i := 2) sc_steps_of.nd rfl (by first | exact Or.inl rfl | exact Or.inr rfl)) (gok_name 2) (jss_cons (js_app rfl (pv 1) (jx_var (pv 2))) (jss_one (js_app rfl (pv 1) (jx_un un_neg sem_neg (jo_var (pv 2))))))) (jss_one (js_retV (pv 1))))), fun ds w P h => v_steps_of ds w P h⟩
theorem d_least_ways {f : Addr} {fd : FuncData} (F : TopFn K mg "least_ways" "least_ways" s_least_ways f fd) (B : Bs mg) (h_steps_of : Fn P w K mg base W_ 1 "steps_of" T_steps_of) : Fn P w K mg base W_ 2 "least_ways" T_least_ways :=
  fn_ok F.fn sc_least_ways F.at_ (fun _ _ _ _ _ _ us hl => match us, hl with | [_], _ => rfl) (fun ds w P h => len_least_ways ds w P h) ⟨b_least_ways, fun cdv A outer s H F0 He0 E hr => (jss_cons (js_set (i := 1) false sc_least_ways.nd (jx_call h_steps_of rfl (hr.mono (by decide)) (ja_cons (jx_op op_fdivW sem_fdiv (jo_of (jx_lenW rfl (by rfl) B.len_ (jo_of (jx_ixW rfl (hu1 hr) (jo_var (pv 0)) (jo_of jx_int))))) (jo_of jx_int)) ja_nil))) (jss_cons (js_set (i := 2) true sc_least_ways.nd (jx_disp1 (jo_of jx_int) (jx_tup ja_nil))) (jss_cons (js_set (i := 3) true sc_least_ways.nd (jx_lst (ja_cons jx_int ja_nil))) (jss_cons (js_set (i := 4) false sc_least_ways.nd jx_int) (jss_cons (js_while PassesOwn.never (jt_cmp (op_ltD (hu0 hr)) sem_lt (jo_var (pv 4)) (jo_of (jx_lenW rfl (by rfl) B.len_ (jo_var (pv 3)))) (by rfl)) (jss_cons (js_set (i := 5) false sc_least_ways.nd (jx_ixW rfl (hu1 hr) (jo_var (pv 3)) (jo_var (pv 4)))) (jss_cons (js_for PassesOwn.never rfl (ji_zip rfl B.zip_ (ja_cons (jx_var (pv 1)) (ja_cons (jx_ixW rfl (hu1 hr) (jo_var (pv 0)) (jo_var (pv 5))) ja_nil))) (pg_tup rfl (pgs_cons (pg_name (i := 6) sc_least_ways.nd rfl (by first | exact Or.inl rfl | exact Or.inr rfl)) (pgs_cons (pg_name (i := 7) sc_least_ways.nd rfl (by first | exact Or.inl rfl | exact Or.inr rfl)) pgs_nil))) (gok_tup (gsok_cons (gok_name 6) (gsok_cons (gok_name 7) gsok_nil))) (jss_one (js_if (jt_cmp (op_notInA (hu65 hr)) (sem_in true) (jo_var (pv 7)) (jo_var (pv 2)) (by rfl)) (jss_cons (js_put rfl (hu1 hr) (pv 2) (jo_var (pv 7)) (jx_op op_addD sem_add (jo_of (jx_ixW rfl (hu1 hr) (jo_var (pv 2)) (jo_var (pv 5)))) (jo_of (jx_tup (ja_cons (jx_var (pv 6)) ja_nil))))) (jss_one (js_app rfl (pv 3) (jx_var (pv 7))))) jss_nil))) (jss_one (js_aug (i := 4) iop_addI sem_addI sc_least_ways.nd (jo_of jx_int)))))) (jss_one (js_ret (jx_lc rfl sc_least_ways.nd (ji_rng1 B.range_ (jo_of (jx_lenW rfl (by rfl) B.len_ (jo_var (pv 0))))) (blkOk_by (own := [("room", 5)]) rfl) (gokv_name 5 (by decide)) (fun _ _ _ _ _ => (pg_name (i := 5) sc_least_ways.nd rfl (by first | exact Or.inl rfl | exact Or.inr rfl))) (fun _ _ _ _ _ => jts_nil) (fun _ _ _ _ _ => (jx_ixW rfl (hu1 hr) (jo_var (pv 2)) (jo_var (pv 5)))))))))))), fun ds w P h => v_least_ways ds w P h⟩
theorem d_Lwhole {f : Addr} {fd : FuncData} (F : TopFn K mg "_law_whole" "_law_whole" s_Lwhole f fd) (B : Bs mg) : Fn P w K mg base W_ 1 "_law_whole" T_Lwhole :=
  fn_ok F.fn sc_Lwhole F.at_ (fun _ _ _ _ _ _ us hl => match us, hl with | [_], _ => rfl) (fun ds w P h => len_Lwhole ds w P h) ⟨b_Lwhole, fun cdv A outer s H F0 He0 E hr => (jss_one (js_ret (jx_and (jx_b2 call_isi sem_isi (by rfl) B.isinstance_ bb_isinstance (jo_var (pv 0)) (jo_of (jx_ty (by rfl) B.int_ bt_int))) (jx_one (jx_not (jx_b2 call_isi sem_isi (by rfl) B.isinstance_ bb_isinstance (jo_var (pv 0)) (jo_of (jx_ty (by rfl) B.bool_ bt_bool)))))))), fun ds w P h => v_Lwhole ds w P h⟩
theorem d_Lat {f : Addr} {fd : FuncData} (F : TopFn K mg "_law_at" "_law_at" s_Lat f fd) (B : Bs mg) : Fn P w K mg base W_ 1 "_law_at" T_Lat :=
  fn_ok F.fn sc_Lat F.at_ (fun _ _ _ _ _ _ us hl => match us, hl with | [_, _], _ => rfl) (fun ds w P h => len_Lat ds w P h) ⟨b_Lat, fun cdv A outer s H F0 He0 E hr => (jss_cons (js_if (jt_cmp (op_ltD (hu0 hr)) sem_lt (jo_var (pv 1)) (jo_of (jx_lenW rfl (by rfl) B.len_ (jo_var (pv 0)))) (by rfl)) (jss_one (js_ret (jx_ixW rfl (hu1 hr) (jo_var (pv 0)) (jo_var (pv 1))))) jss_nil) (jss_one (js_ret (jx_op op_addD sem_add (jo_of (jx_op op_mulB sem_mulB (jo_of jx_int) (jo_var (pv 1)))) (jo_of jx_int))))), fun ds w P h => v_Lat ds w P h⟩
theorem d_Lmix {f : Addr} {fd : FuncData} (F : TopFn K mg "_law_mix" "_law_mix" s_Lmix f fd) (B : Bs mg) : Fn P w K mg base W_ 1 "_law_mix" T_Lmix :=
  fn_ok F.fn sc_Lmix F.at_ (fun _ _ _ _ _ _ us hl => match us, hl with | [_, _], _ => rfl) (fun ds w P h => len_Lmix ds w P h) ⟨b_Lmix, fun cdv A outer s H F0 He0 E hr => (jss_cons (js_set (i := 2) false sc_Lmix.nd (jx_op op_mod sem_mod (jo_of (jx_op op_mulB sem_mulB (jo_of (jx_op op_addD sem_add (jo_of (jx_op op_addD sem_add (jo_of (jx_op op_mod sem_mod (jo_var (pv 0)) (jo_of jx_int))) (jo_var (pv 1)))) (jo_of jx_int))) (jo_of (jx_op op_addD sem_add (jo_of (jx_op op_mulB sem_mulB (jo_of (jx_op op_mulB sem_mulB (jo_of jx_int) (jo_var (pv 1)))) (jo_var (pv 1)))) (jo_of jx_int))))) (jo_of jx_int))) (jss_one (js_ret (jx_op op_mod sem_mod (jo_of (jx_op op_mulB sem_mulB (jo_var (pv 2)) (jo_var (pv 2)))) (jo_of jx_int))))), fun ds w P h => v_Lmix ds w P h⟩
theorem d_Lturns {f : Addr} {fd : FuncData} (F : TopFn K mg "_law_turns" "_law_turns" s_Lturns f fd) (B : Bs mg) (h_Lat : Fn P w K mg base W_ 1 "_law_at" T_Lat) (h_Lmix : Fn P w K mg base W_ 1 "_law_mix" T_Lmix) : Fn P w K mg base W_ 2 "_law_turns" T_Lturns :=
  fn_okE F.fn sc_Lturns F.at_ (fun _ _ _ _ _ _ us hl => match us, hl with | [_, _, _], _ => rfl) (fun ds w P h => len_Lturns ds w P h) (fun ds w P h => emp_Lturns ds w P h) ⟨b_Lturns, fun cdv A outer s H F0 He0 he0 E hr => (jss_cons (js_name 3 (js_setLcW (i := 3) true rfl sc_Lturns.nd rfl rfl (sw_true rfl rfl rfl (by decide +kernel)) (ji_rng1 B.range_ (jo_var (pv 1))) (blkOk_by (own := [("_law_k", 10)]) rfl) (gokv_name 10 (by decide)) (fun _ _ _ _ _ => (pg_name (i := 10) sc_Lturns.nd rfl (by first | exact Or.inl rfl | exact Or.inr rfl))) (fun _ _ _ _ _ => jts_nil) (fun _ _ _ _ _ => (jx_listRng1 B.list_ B.range_ (jo_var (pv 2)))))) (jss_cons (js_if (jt_cmp op_gt sem_gt (jo_of (jx_op op_mod sem_mod (jo_of (jx_call h_Lat rfl (hr.mono (by decide)) (ja_cons (jx_var (pv 0)) (ja_cons jx_int ja_nil)))) (jo_of jx_int))) (jo_of jx_int) (by rfl)) (jss_one (js_putW true rfl (jo_var (pv 3)) (jo_of jx_int) (jx_op op_addD sem_add (jo_of (jx_listRng2 B.list_ B.range_ (jo_of jx_int) (jo_var (pv 2)))) (jo_of (jx_lst (ja_cons jx_int ja_nil)))))) jss_nil) (jss_cons (js_for PassesOwn.never rfl (ji_any rfl (jx_sl rfl (jo_var (pv 0)) (jp_some (jo_of jx_int)) (jp_some (jo_of jx_int)))) (pg_name (i := 4) sc_Lturns.nd rfl (by first | exact Or.inl rfl | exact Or.inr rfl)) (gok_name 4) (jss_cons (js_set (i := 5) false sc_Lturns.nd (jx_call h_Lmix rfl (hr.mono (by decide)) (ja_cons (jx_var (pv 4)) (ja_cons jx_int ja_nil)))) (jss_cons (js_set (i := 6) false sc_Lturns.nd (jx_ixW rfl (hu1 hr) (jo_var (pv 3)) (jo_of (jx_op op_mod sem_mod (jo_var (pv 5)) (jo_var (pv 1)))))) (jss_cons (js_set (i := 7) false sc_Lturns.nd (jx_op op_mod sem_mod (jo_of (jx_op op_fdivW sem_fdiv (jo_var (pv 5)) (jo_var (pv 1)))) (jo_var (pv 2)))) (jss_cons (js_set (i := 8) false sc_Lturns.nd (jx_op op_mod sem_mod (jo_of (jx_op op_fdivW sem_fdiv (jo_of (jx_op op_fdivW sem_fdiv (jo_var (pv 5)) (jo_var (pv 1)))) (jo_var (pv 2)))) (jo_var (pv 2)))) (jss_cons (js_set (i := 9) false sc_Lturns.nd (jx_ixW rfl (hu1 hr) (jo_var (pv 6)) (jo_var (pv 7)))) (jss_cons (js_putW false rfl (jo_var (pv 6)) (jo_var (pv 7)) (jx_ixW rfl (hu1 hr) (jo_var (pv 6)) (jo_var (pv 8)))) (jss_one (js_putW false rfl (jo_var (pv 6)) (jo_var (pv 8)) (jx_var (pv 9))))))))))) (jss_one (js_melt he0 3 (js_retV (pv 3))))))), fun ds w P h => v_Lturns ds w P h⟩
theorem d_Ltable {f : Addr} {fd : FuncData} (F : TopFn K mg "_law_table" "_law_table" s_Ltable f fd) (B : Bs mg) : Fn P w K mg base W_ 1 "_law_table" T_Ltable :=
  fn_okE F.fn sc_Ltable F.at_ (fun _ _ _ _ _ _ us hl => match us, hl with | [_, _], _ => rfl) (fun ds w P h => len_Ltable ds w P h) (fun ds w P h => emp_Ltable ds w P h) ⟨b_Ltable, fun cdv A outer s H F0 He0 he0 E hr => (jss_cons (js_set (i := 2) true sc_Ltable.nd (jx_lst ja_nil)) (jss_cons (js_for PassesOwn.never rfl (ji_any rfl (jx_var (pv 0))) (pg_name (i := 3) sc_Ltable.nd rfl (by first | exact Or.inl rfl | exact Or.inr rfl)) (gok_name 3) (jss_cons (js_set (i := 4) true sc_Ltable.nd (jx_op op_mulB sem_mulB (jo_of (jx_lst (ja_cons jx_int ja_nil))) (jo_var (pv 1)))) (jss_cons (js_for PassesOwn.never rfl (ji_rng1 B.range_ (jo_var (pv 1))) (pg_name (i := 5) sc_Ltable.nd rfl (by first | exact Or.inl rfl | exact Or.inr rfl)) (gok_name 5) (jss_one (js_put rfl (hu1 hr) (pv 4) (jo_of (jx_ixW rfl (hu1 hr) (jo_var (pv 3)) (jo_var (pv 5)))) (jx_var (pv 5))))) (jss_one (js_frz 4 (js_app rfl (pv 2) (jx_var (pv 4)))))))) (jss_cons (js_set (i := 6) true sc_Ltable.nd (jx_disp1 (jo_of jx_int) jx_int)) (jss_cons (js_set (i := 7) true sc_Ltable.nd (jx_lst (ja_cons jx_int ja_nil))) (jss_cons (js_name 8 (js_set (i := 8) true sc_Ltable.nd (jx_lst ja_nil))) (jss_cons (js_while PassesOwn.never (jt_cmp (op_ltD (hu0 hr)) sem_lt (jo_of (jx_lenW rfl (by rfl) B.len_ (jo_var (pv 8)))) (jo_of (jx_lenW rfl (by rfl) B.len_ (jo_var (pv 7)))) (by rfl)) (jss_cons (js_set (i := 9) false sc_Ltable.nd (jx_ixW rfl (hu1 hr) (jo_var (pv 7)) (jo_of (jx_lenW rfl (by rfl) B.len_ (jo_var (pv 8)))))) (jss_cons (js_appW true rfl (jo_var (pv 8)) (jx_lst ja_nil)) (jss_one (js_for PassesOwn.never rfl (ji_rng1 B.range_ (jo_of (jx_op op_mulB sem_mulB (jo_of jx_int) (jo_of (jx_lenW rfl (by rfl) B.len_ (jo_var (pv 0))))))) (pg_name (i := 5) sc_Ltable.nd rfl (by first | exact Or.inl rfl | exact Or.inr rfl)) (gok_name 5) (jss_cons (js_frz 2 (js_set (i := 10) false sc_Ltable.nd (jx_ixW rfl (hu1 hr) (jo_of (jx_ixW rfl (hu1 hr) (jo_of (jx_ixW rfl (hu1 hr) (jo_of (jx_lst (ja_cons (jx_var (pv 0)) (ja_cons (jx_var (pv 2)) ja_nil)))) (jo_of (jx_op op_mod sem_mod (jo_var (pv 5)) (jo_of jx_int))))) (jo_of (jx_op op_fdivW sem_fdiv (jo_var (pv 5)) (jo_of jx_int))))) (jo_var (pv 9))))) (jss_cons (js_if (jt_cmp (op_notInA (hu65 hr)) (sem_in true) (jo_var (pv 10)) (jo_var (pv 6)) (by rfl)) (jss_cons (js_put rfl (hu1 hr) (pv 6) (jo_var (pv 10)) (jx_lenW rfl (by rfl) B.len_ (jo_var (pv 7)))) (jss_one (js_app rfl (pv 7) (jx_var (pv 10))))) jss_nil) (jss_one (js_appW false rfl (jo_of (jx_ixW rfl (hu1 hr) (jo_var (pv 8)) (jo_of (jx_un un_neg sem_neg (jo_of jx_int))))) (jx_ixW rfl (hu1 hr) (jo_var (pv 6)) (jo_var (pv 10)))))))))))) (jss_one (js_melt he0 8 (js_retV (pv 8)))))))))), fun ds w P h => v_Ltable ds w P h⟩
theorem d_Ldrawn {f : Addr} {fd : FuncData} (F : TopFn K mg "_law_drawn" "_law_drawn" s_Ldrawn f fd) (B : Bs mg) (h_Lat : Fn P w K mg base W_ 1 "_law_at" T_Lat) (h_Lmix : Fn P w K mg base W_ 1 "_law_mix" T_Lmix) (h_Ltable : Fn P w K mg base W_ 1 "_law_table" T_Ltable) (h_Lturns : Fn P w K mg base W_ 2 "_law_turns" T_Lturns) : Fn P w K mg base W_ 3 "_law_drawn" T_Ldrawn :=
  fn_ok F.fn sc_Ldrawn F.at_ (fun _ _ _ _ _ _ us hl => match us, hl with | [_], _ => rfl) (fun ds w P h => len_Ldrawn ds w P h) ⟨b_Ldrawn, fun cdv A outer s H F0 He0 E hr => (jss_cons (js_set (i := 1) false sc_Ldrawn.nd (jx_call h_Lmix rfl (hr.mono (by decide)) (ja_cons (jx_call h_Lat rfl (hr.mono (by decide)) (ja_cons (jx_var (pv 0)) (ja_cons jx_int ja_nil))) (ja_cons jx_int ja_nil)))) (jss_cons (js_set (i := 2) false sc_Ldrawn.nd (jx_op op_addD sem_add (jo_of jx_int) (jo_of (jx_op op_mod sem_mod (jo_of (jx_op op_fdivW sem_fdiv (jo_var (pv 1)) (jo_of jx_int))) (jo_of jx_int))))) (jss_cons (js_set (i := 3) false sc_Ldrawn.nd (jx_op op_addD sem_add (jo_of jx_int) (jo_of (jx_op op_mod sem_mod (jo_of (jx_op op_fdivW sem_fdiv (jo_var (pv 1)) (jo_of jx_int))) (jo_of jx_int))))) (jss_cons (js_if (jt_cmp (op_eqP (hu64 hr)) sem_eq (jo_of (jx_op op_mod sem_mod (jo_of (jx_op op_fdivW sem_fdiv (jo_var (pv 1)) (jo_of jx_int))) (jo_of jx_int))) (jo_of jx_int) (by rfl)) (jss_one (js_set (i := 2) false sc_Ldrawn.nd (jx_op op_addD sem_add (jo_of jx_int) (jo_of (jx_op op_mod sem_mod (jo_of (jx_op op_fdivW sem_fdiv (jo_var (pv 1)) (jo_of jx_int))) (jo_of jx_int)))))) jss_nil) (jss_cons (js_if (jt_cmp (op_eqP (hu64 hr)) sem_eq (jo_of (jx_op op_mod sem_mod (jo_of (jx_op op_fdivW sem_fdiv (jo_var (pv 1)) (jo_of jx_int))) (jo_of jx_int))) (jo_of jx_int) (by rfl)) (jss_one (js_set (i := 2) false sc_Ldrawn.nd (jx_op op_addD sem_add (jo_of jx_int) (jo_of (jx_op op_mod sem_mod (jo_of (jx_op op_fdivW sem_fdiv (jo_var (pv 1)) (jo_of jx_int))) (jo_of jx_int)))))) jss_nil) (jss_cons (js_if (jt_cmp (op_eqP (hu64 hr)) sem_eq (jo_of (jx_op op_mod sem_mod (jo_of (jx_op op_fdivW sem_fdiv (jo_var (pv 1)) (jo_of jx_int))) (jo_of jx_int))) (jo_of jx_int) (by rfl)) (jss_one (js_set (i := 3) false sc_Ldrawn.nd (jx_op op_addD sem_add (jo_of jx_int) (jo_of (jx_op op_mod sem_mod (jo_of (jx_op op_fdivW sem_fdiv (jo_var (pv 1)) (jo_of jx_int))) (jo_of jx_int)))))) jss_nil) (jss_one (js_ret (jx_call h_Ltable rfl (hr.mono (by decide)) (ja_cons (jx_call h_Lturns rfl (hr.mono (by decide)) (ja_cons (jx_var (pv 0)) (ja_cons (jx_var (pv 3)) (ja_cons (jx_var (pv 2)) ja_nil)))) (ja_cons (jx_var (pv 2)) ja_nil))))))))))), fun ds w P h => v_Ldrawn ds w P h⟩
theorem d_Lspot {f : Addr} {fd : FuncData} (F : TopFn K mg "_law_spot" "_law_spot" s_Lspot f fd) (B : Bs mg) : Fn P w K mg base W_ 1 "_law_spot" T_Lspot :=
  fn_ok F.fn sc_Lspot F.at_ (fun _ _ _ _ _ _ us hl => match us, hl with | [_], _ => rfl) (fun ds w P h => len_Lspot ds w P h) ⟨b_Lspot, fun cdv A outer s H F0 He0 E hr => (jss_one (js_ret (jx_op op_addD sem_add (jo_of (jx_op op_sub sem_sub (jo_of (jx_op op_mulB sem_mulB (jo_of jx_int) (jo_of (jx_b1 call_abs sem_abs (by rfl) B.abs_ bb_abs (jo_var (pv 0)))))) (jo_of jx_int))) (jo_of (jx_t1 call_intD sem_int (by rfl) B.int_ bt_int (jo_of (jx_cmp (op_ltD (hu0 hr)) sem_lt (jo_var (pv 0)) (jo_of jx_int) (by rfl)))))))), fun ds w P h => v_Lspot ds w P h⟩
theorem d_Lleads {f : Addr} {fd : FuncData} (F : TopFn K mg "_law_leads" "_law_leads" s_Lleads f fd) (B : Bs mg) (h_Lspot : Fn P w K mg base W_ 1 "_law_spot" T_Lspot) (h_Lwhole : Fn P w K mg base W_ 1 "_law_whole" T_Lwhole) : Fn P w K mg base W_ 2 "_law_leads" T_Lleads :=
  fn_ok F.fn sc_Lleads F.at_ (fun _ _ _ _ _ _ us hl => match us, hl with | [_, _, _], _ => rfl) (fun ds w P h => len_Lleads ds w P h) ⟨b_Lleads, fun cdv A outer s H F0 He0 E hr => (jss_cons (js_if (jt_not (jt_tru rfl (jo_of (jx_b2 call_isi sem_isi (by rfl) B.isinstance_ bb_isinstance (jo_var (pv 1)) (jo_of (jx_ty (by rfl) B.tuple_ bt_tuple)))))) (jss_one (js_ret jx_bl)) jss_nil) (jss_cons (js_set (i := 3) false sc_Lleads.nd jx_int) (jss_cons (js_for PassesOwn.never rfl (ji_any rfl (jx_var (pv 1))) (pg_name (i := 4) sc_Lleads.nd rfl (by first | exact Or.inl rfl | exact Or.inr rfl)) (gok_name 4) (jss_cons (js_if (jt_w (jw_or (jt_not (jt_tru rfl (jo_of (jx_call h_Lwhole rfl (hr.mono (by decide)) (ja_cons (jx_var (pv 4)) ja_nil))))) (jw_or (jt_cmp (op_eqP (hu64 hr)) sem_eq (jo_var (pv 4)) (jo_of jx_int) (by rfl)) (jw_or1 (jt_cmp op_ge sem_ge (jo_of (jx_call h_Lspot rfl (hr.mono (by decide)) (ja_cons (jx_var (pv 4)) ja_nil))) (jo_of (jx_lenW rfl (by rfl) B.len_ (jo_of (jx_ixW rfl (hu1 hr) (jo_var (pv 0)) (jo_of jx_int))))) (by rfl)))))) (jss_one (js_ret jx_bl)) jss_nil) (jss_one (js_set (i := 3) false sc_Lleads.nd (jx_ixW rfl (hu1 hr) (jo_of (jx_ixW rfl (hu1 hr) (jo_var (pv 0)) (jo_var (pv 3)))) (jo_of (jx_call h_Lspot rfl (hr.mono (by decide)) (ja_cons (jx_var (pv 4)) ja_nil)))))))) (jss_one (js_ret (jx_cmp (op_eqP (hu64 hr)) sem_eq (jo_var (pv 3)) (jo_var (pv 2)) (by rfl))))))), fun ds w P h => v_Lleads ds w P h⟩
theorem d_Lahead {f : Addr} {fd : FuncData} (F : TopFn K mg "_law_ahead" "_law_ahead" s_Lahead f fd) (B : Bs mg) (h_Lspot : Fn P w K mg base W_ 1 "_law_spot" T_Lspot) : Fn P w K mg base W_ 2 "_law_ahead" T_Lahead :=
  fn_ok F.fn sc_Lahead F.at_ (fun _ _ _ _ _ _ us hl => match us, hl with | [_, _], _ => rfl) (fun ds w P h => len_Lahead ds w P h) ⟨b_Lahead, fun cdv A outer s H F0 He0 E hr => (jss_cons (js_if (jt_cmp (op_neP (hu64 hr)) sem_ne (jo_of (jx_lenW rfl (by rfl) B.len_ (jo_var (pv 0)))) (jo_of (jx_lenW rfl (by rfl) B.len_ (jo_var (pv 1)))) (by rfl)) (jss_one (js_ret (jx_cmp (op_ltD (hu0 hr)) sem_lt (jo_of (jx_lenW rfl (by rfl) B.len_ (jo_var (pv 0)))) (jo_of (jx_lenW rfl (by rfl) B.len_ (jo_var (pv 1)))) (by rfl)))) jss_nil) (jss_cons (js_for PassesOwn.never rfl (ji_rng1 B.range_ (jo_of (jx_lenW rfl (by rfl) B.len_ (jo_var (pv 0))))) (pg_name (i := 2) sc_Lahead.nd rfl (by first | exact Or.inl rfl | exact Or.inr rfl)) (gok_name 2) (jss_one (js_if (jt_cmp (op_neP (hu64 hr)) sem_ne (jo_of (jx_ixW rfl (hu1 hr) (jo_var (pv 0)) (jo_var (pv 2)))) (jo_of (jx_ixW rfl (hu1 hr) (jo_var (pv 1)) (jo_var (pv 2)))) (by rfl)) (jss_one (js_ret (jx_cmp (op_ltD (hu0 hr)) sem_lt (jo_of (jx_call h_Lspot rfl (hr.mono (by decide)) (ja_cons (jx_ixW rfl (hu1 hr) (jo_var (pv 0)) (jo_var (pv 2))) ja_nil))) (jo_of (jx_call h_Lspot rfl (hr.mono (by decide)) (ja_cons (jx_ixW rfl (hu1 hr) (jo_var (pv 1)) (jo_var (pv 2))) ja_nil))) (by rfl)))) jss_nil))) (jss_one (js_ret jx_bl)))), fun ds w P h => v_Lahead ds w P h⟩
theorem d_Lleast {f : Addr} {fd : FuncData} (F : TopFn K mg "_law_least" "_law_least" s_Lleast f fd) (B : Bs mg) (h_Lahead : Fn P w K mg base W_ 2 "_law_ahead" T_Lahead) : Fn P w K mg base W_ 3 "_law_least" T_Lleast :=
  fn_ok F.fn sc_Lleast F.at_ (fun _ _ _ _ _ _ us hl => match us, hl with | [_, _], _ => rfl) (fun ds w P h => len_Lleast ds w P h) ⟨b_Lleast, fun cdv A outer s H F0 He0 E hr => (jss_cons (js_for PassesOwn.never rfl (ji_rng1 B.range_ (jo_of (jx_lenW rfl (by rfl) B.len_ (jo_var (pv 0))))) (pg_name (i := 2) sc_Lleast.nd rfl (by first | exact Or.inl rfl | exact Or.inr rfl)) (gok_name 2) (jss_one (js_for PassesOwn.never rfl (ji_rng1 B.range_ (jo_of (jx_lenW rfl (by rfl) B.len_ (jo_of (jx_ixW rfl (hu1 hr) (jo_var (pv 0)) (jo_of jx_int)))))) (pg_name (i := 3) sc_Lleast.nd rfl (by first | exact Or.inl rfl | exact Or.inr rfl)) (gok_name 3) (jss_cons (js_set (i := 4) false sc_Lleast.nd (jx_op op_addD sem_add (jo_of jx_int) (jo_of (jx_op op_fdivW sem_fdiv (jo_var (pv 3)) (jo_of jx_int))))) (jss_cons (js_if (jt_cmp (op_eqP (hu64 hr)) sem_eq (jo_of (jx_op op_mod sem_mod (jo_var (pv 3)) (jo_of jx_int))) (jo_of jx_int) (by rfl)) (jss_one (js_set (i := 4) false sc_Lleast.nd (jx_op op_sub sem_sub (jo_of jx_int) (jo_var (pv 4))))) jss_nil) (jss_one (js_if (jt_tru rfl (jo_of (jx_call h_Lahead rfl (hr.mono (by decide)) (ja_cons (jx_op op_addD sem_add (jo_of (jx_ixW rfl (hu1 hr) (jo_var (pv 1)) (jo_var (pv 2)))) (jo_of (jx_tup (ja_cons (jx_var (pv 4)) ja_nil)))) (ja_cons (jx_ixW rfl (hu1 hr) (jo_var (pv 1)) (jo_of (jx_ixW rfl (hu1 hr) (jo_of (jx_ixW rfl (hu1 hr) (jo_var (pv 0)) (jo_var (pv 2)))) (jo_var (pv 3))))) ja_nil))))) (jss_one (js_ret jx_bl)) jss_nil))))))) (jss_one (js_ret jx_bl))), fun ds w P h => v_Lleast ds w P h⟩
theorem d_law {f : Addr} {fd : FuncData} (F : TopFn K mg "law" "law" s_law f fd) (B : Bs mg) (h_Ldrawn : Fn P w K mg base W_ 3 "_law_drawn" T_Ldrawn) (h_Lleads : Fn P w K mg base W_ 2 "_law_leads" T_Lleads) (h_Lleast : Fn P w K mg base W_ 3 "_law_least" T_Lleast) (h_least_ways : Fn P w K mg base W_ 2 "least_ways" T_least_ways) : Fn P w K mg base W_ 4 "law" T_law :=
  fn_ok F.fn sc_law F.at_ (fun _ _ _ _ _ _ us hl => match us, hl with | [_], _ => rfl) (fun ds w P h => len_law ds w P h) ⟨b_law, fun cdv A outer s H F0 He0 E hr => (jss_cons (js_set (i := 1) false sc_law.nd (jx_call h_Ldrawn rfl (hr.mono (by decide)) (ja_cons (jx_var (pv 0)) ja_nil))) (jss_cons (js_setLc (i := 2) false rfl sc_law.nd rfl rfl (sw_true rfl rfl rfl (by decide +kernel)) (ji_any rfl (jx_var (pv 1))) (blkOk_by (own := [("_law_row", 6)]) rfl) (gokv_name 6 (by decide)) (fun _ _ _ _ _ => (pg_name (i := 6) sc_law.nd rfl (by first | exact Or.inl rfl | exact Or.inr rfl))) (fun _ _ _ _ _ => jts_nil) (fun _ _ _ _ _ => (jx_t1 call_list_of sem_list (by rfl) B.list_ bt_list (jo_var (pv 6))))) (jss_cons (js_set (i := 3) true sc_law.nd (jx_call h_least_ways rfl (hr.mono (by decide)) (ja_cons (jx_var (pv 2)) ja_nil))) (jss_cons (js_if (jt_w (jw_or (jt_not (jt_tru rfl (jo_of (jx_b2 call_isi sem_isi (by rfl) B.isinstance_ bb_isinstance (jo_var (pv 3)) (jo_of (jx_ty (by rfl) B.list_ bt_list)))))) (jw_or (jt_cmp (op_neP (hu64 hr)) sem_ne (jo_of (jx_lenW rfl (by rfl) B.len_ (jo_var (pv 3)))) (jo_of (jx_lenW rfl (by rfl) B.len_ (jo_var (pv 1)))) (by rfl)) (jw_or1 (jt_cmp (op_neP (hu64 hr)) sem_ne (jo_of (jx_ixW rfl (hu1 hr) (jo_var (pv 3)) (jo_of jx_int))) (jo_of (jx_tup ja_nil)) (by rfl)))))) (jss_one (js_ret jx_bl)) jss_nil) (jss_cons (js_for PassesOwn.never rfl (ji_rng1 B.range_ (jo_of (jx_lenW rfl (by rfl) B.len_ (jo_var (pv 1))))) (pg_name (i := 4) sc_law.nd rfl (by first | exact Or.inl rfl | exact Or.inr rfl)) (gok_name 4) (jss_one (js_if (jt_not (jt_tru rfl (jo_of (jx_call h_Lleads rfl (hr.mono (by decide)) (ja_cons (jx_var (pv 1)) (ja_cons (jx_ixW rfl (hu1 hr) (jo_var (pv 3)) (jo_var (pv 4))) (ja_cons (jx_var (pv 4)) ja_nil))))))) (jss_one (js_ret jx_bl)) jss_nil))) (jss_cons (js_if (jt_w (jw_or (jt_not (jt_tru rfl (jo_of (jx_callBE h_Lleast rfl (hr.mono (by decide)) (jb_cons (jo_var (pv 1)) (jb_cons (jo_var (pv 3)) jb_nil)))))) (jw_or1 (jt_cmp (op_neP (hu64 hr)) sem_ne (jo_var (pv 2)) (jo_var (pv 1)) (by rfl))))) (jss_one (js_ret jx_bl)) jss_nil) (jss_cons (js_set (i := 5) false sc_law.nd (jx_t1 call_list_of sem_list (by rfl) B.list_ bt_list (jo_var (pv 3)))) (jss_cons (js_reverse rfl (pv 3)) (jss_cons (js_app rfl (pv 3) (jx_tup ja_nil)) (jss_one (js_ret (jx_and (jx_cmp (op_eqP (hu64 hr)) sem_eq (jo_of (jx_call h_least_ways rfl (hr.mono (by decide)) (ja_cons (jx_var (pv 2)) ja_nil))) (jo_var (pv 5)) (by rfl)) (jx_one (jx_cmp (op_eqP (hu64 hr)) sem_eq (jo_var (pv 2)) (jo_var (pv 1)) (by rfl))))))))))))))), fun ds w P h => v_law ds w P h⟩
end
theorem dl_law {P : Program} {w : World} {K : PySem.W.Frag} {mg : Str → Option Value} {base : Heap} {f : Addr} {fd : FuncData} (F : TopFn K mg "law" "law" s_law f fd) (B : Bs mg) (h_Ldrawn : Fn P w K mg base W_ 3 "_law_drawn" T_Ldrawn) (h_Lleads : Fn P w K mg base W_ 2 "_law_leads" T_Lleads) (h_Lleast : Fn P w K mg base W_ 3 "_law_least" T_Lleast) (h_least_ways : Fn P w K mg base W_ 2 "least_ways" T_least_ways) : FnOk P w K mg base CX0 4 f fd ["_law_script"] (toSp W_ K T_law) :=
  fn_okF F.fn sc_law (fun ds w P h => len_law ds w P h) ⟨b_law, fun cdv A outer s H F0 He0 E hr => (jss_cons (js_set (i := 1) false sc_law.nd (jx_call h_Ldrawn rfl (hr.mono (by decide)) (ja_cons (jx_var (pv 0)) ja_nil))) (jss_cons (js_setLc (i := 2) false rfl sc_law.nd rfl rfl (sw_true rfl rfl rfl (by decide +kernel)) (ji_any rfl (jx_var (pv 1))) (blkOk_by (own := [("_law_row", 6)]) rfl) (gokv_name 6 (by decide)) (fun _ _ _ _ _ => (pg_name (i := 6) sc_law.nd rfl (by first | exact Or.inl rfl | exact Or.inr rfl))) (fun _ _ _ _ _ => jts_nil) (fun _ _ _ _ _ => (jx_t1 call_list_of sem_list (by rfl) B.list_ bt_list (jo_var (pv 6))))) (jss_cons (js_set (i := 3) true sc_law.nd (jx_call h_least_ways rfl (hr.mono (by decide)) (ja_cons (jx_var (pv 2)) ja_nil))) (jss_cons (js_if (jt_w (jw_or (jt_not (jt_tru rfl (jo_of (jx_b2 call_isi sem_isi (by rfl) B.isinstance_ bb_isinstance (jo_var (pv 3)) (jo_of (jx_ty (by rfl) B.list_ bt_list)))))) (jw_or (jt_cmp (op_neP (hu64 hr)) sem_ne (jo_of (jx_lenW rfl (by rfl) B.len_ (jo_var (pv 3)))) (jo_of (jx_lenW rfl (by rfl) B.len_ (jo_var (pv 1)))) (by rfl)) (jw_or1 (jt_cmp (op_neP (hu64 hr)) sem_ne (jo_of (jx_ixW rfl (hu1 hr) (jo_var (pv 3)) (jo_of jx_int))) (jo_of (jx_tup ja_nil)) (by rfl)))))) (jss_one (js_ret jx_bl)) jss_nil) (jss_cons (js_for PassesOwn.never rfl (ji_rng1 B.range_ (jo_of (jx_lenW rfl (by rfl) B.len_ (jo_var (pv 1))))) (pg_name (i := 4) sc_law.nd rfl (by first | exact Or.inl rfl | exact Or.inr rfl)) (gok_name 4) (jss_one (js_if (jt_not (jt_tru rfl (jo_of (jx_call h_Lleads rfl (hr.mono (by decide)) (ja_cons (jx_var (pv 1)) (ja_cons (jx_ixW rfl (hu1 hr) (jo_var (pv 3)) (jo_var (pv 4))) (ja_cons (jx_var (pv 4)) ja_nil))))))) (jss_one (js_ret jx_bl)) jss_nil))) (jss_cons (js_if (jt_w (jw_or (jt_not (jt_tru rfl (jo_of (jx_callBE h_Lleast rfl (hr.mono (by decide)) (jb_cons (jo_var (pv 1)) (jb_cons (jo_var (pv 3)) jb_nil)))))) (jw_or1 (jt_cmp (op_neP (hu64 hr)) sem_ne (jo_var (pv 2)) (jo_var (pv 1)) (by rfl))))) (jss_one (js_ret jx_bl)) jss_nil) (jss_cons (js_set (i := 5) false sc_law.nd (jx_t1 call_list_of sem_list (by rfl) B.list_ bt_list (jo_var (pv 3)))) (jss_cons (js_reverse rfl (pv 3)) (jss_cons (js_app rfl (pv 3) (jx_tup ja_nil)) (jss_one (js_ret (jx_and (jx_cmp (op_eqP (hu64 hr)) sem_eq (jo_of (jx_call h_least_ways rfl (hr.mono (by decide)) (ja_cons (jx_var (pv 2)) ja_nil))) (jo_var (pv 5)) (by rfl)) (jx_one (jx_cmp (op_eqP (hu64 hr)) sem_eq (jo_var (pv 2)) (jo_var (pv 1)) (by rfl))))))))))))))), fun ds w P h => v_law ds w P h⟩
/-! ### the head -/
theorem topfn {K : PySem.W.Frag} {h : Heap} {mg : Str → Option Value} {x : Str} {st : Stmt} {f : Addr} {oc : Value} {od an : Option Addr} {osl : Array (Option Value)} {kV dc pm cd ct : Value} (X : K.In h) (G : h.Ns mainGlobals mg)
    (a : PySem.W.nsIn K mainGlobals x = some (some (.ref f))) (l : K.lookup f = some ⟨oc, od, .func (PySem.W.fnOf x x (defArgs st) (defBody st) (defScope st) .none kV dc pm an cd ct), osl⟩) (c : PySem.W.codeIn K cd x = true) (k : PySem.W.keepIn K (.ref f) = true) :
    TopFn K mg x x st f (PySem.W.fnOf x x (defArgs st) (defBody st) (defScope st) .none kV dc pm an cd ct) := ⟨fun_mk l c k, PySem.W.mg_of X G a⟩
theorem all_mk {l : PySem.W.OpenLaw} {w : World} {K : PySem.W.Frag} {h : Heap} {mg : Str → Option Value} {fa : Addr}
    {f0 : Addr} {od0 an0 : Option Addr} {sl0 : Array (Option Value)} {oc0 kV0 dc0 pm0 cd0 ct0 : Value} {f1 : Addr} {od1 an1 : Option Addr} {sl1 : Array (Option Value)} {oc1 kV1 dc1 pm1 cd1 ct1 : Value} {f2 : Addr} {od2 an2 : Option Addr} {sl2 : Array (Option Value)} {oc2 kV2 dc2 pm2 cd2 ct2 : Value} {f3 : Addr} {od3 an3 : Option Addr} {sl3 : Array (Option Value)} {oc3 kV3 dc3 pm3 cd3 ct3 : Value} {f4 : Addr} {od4 an4 : Option Addr} {sl4 : Array (Option Value)} {oc4 kV4 dc4 pm4 cd4 ct4 : Value} {f5 : Addr} {od5 an5 : Option Addr} {sl5 : Array (Option Value)} {oc5 kV5 dc5 pm5 cd5 ct5 : Value} {f6 : Addr} {od6 an6 : Option Addr} {sl6 : Array (Option Value)} {oc6 kV6 dc6 pm6 cd6 ct6 : Value} {f7 : Addr} {od7 an7 : Option Addr} {sl7 : Array (Option Value)} {oc7 kV7 dc7 pm7 cd7 ct7 : Value} {f8 : Addr} {od8 an8 : Option Addr} {sl8 : Array (Option Value)} {oc8 kV8 dc8 pm8 cd8 ct8 : Value} {f9 : Addr} {od9 an9 : Option Addr} {sl9 : Array (Option Value)} {oc9 kV9 dc9 pm9 cd9 ct9 : Value} {f10 : Addr} {od10 an10 : Option Addr} {sl10 : Array (Option Value)} {oc10 kV10 dc10 pm10 cd10 ct10 : Value} {f11 : Addr} {od11 an11 : Option Addr} {sl11 : Array (Option Value)} {oc11 kV11 dc11 pm11 cd11 ct11 : Value} {f12 : Addr} {od12 an12 : Option Addr} {sl12 : Array (Option Value)} {oc12 kV12 dc12 pm12 cd12 ct12 : Value}
    (X : K.In h) (G : h.Ns mainGlobals mg) (hfa : mg "law" = some (.ref fa))
    (a0 : PySem.W.nsIn K mainGlobals "steps_of" = some (some (.ref f0))) (l0 : K.lookup f0 = some ⟨oc0, od0, .func (PySem.W.fnOf "steps_of" "steps_of" (defArgs s_steps_of) (defBody s_steps_of) (defScope s_steps_of) .none kV0 dc0 pm0 an0 cd0 ct0), sl0⟩) (c0 : PySem.W.codeIn K cd0 "steps_of" = true) (k0 : PySem.W.keepIn K (.ref f0) = true)
    (a1 : PySem.W.nsIn K mainGlobals "least_ways" = some (some (.ref f1))) (l1 : K.lookup f1 = some ⟨oc1, od1, .func (PySem.W.fnOf "least_ways" "least_ways" (defArgs s_least_ways) (defBody s_least_ways) (defScope s_least_ways) .none kV1 dc1 pm1 an1 cd1 ct1), sl1⟩) (c1 : PySem.W.codeIn K cd1 "least_ways" = true) (k1 : PySem.W.keepIn K (.ref f1) = true)
    (a2 : PySem.W.nsIn K mainGlobals "_law_whole" = some (some (.ref f2))) (l2 : K.lookup f2 = some ⟨oc2, od2, .func (PySem.W.fnOf "_law_whole" "_law_whole" (defArgs s_Lwhole) (defBody s_Lwhole) (defScope s_Lwhole) .none kV2 dc2 pm2 an2 cd2 ct2), sl2⟩) (c2 : PySem.W.codeIn K cd2 "_law_whole" = true) (k2 : PySem.W.keepIn K (.ref f2) = true)
    (a3 : PySem.W.nsIn K mainGlobals "_law_at" = some (some (.ref f3))) (l3 : K.lookup f3 = some ⟨oc3, od3, .func (PySem.W.fnOf "_law_at" "_law_at" (defArgs s_Lat) (defBody s_Lat) (defScope s_Lat) .none kV3 dc3 pm3 an3 cd3 ct3), sl3⟩) (c3 : PySem.W.codeIn K cd3 "_law_at" = true) (k3 : PySem.W.keepIn K (.ref f3) = true)
    (a4 : PySem.W.nsIn K mainGlobals "_law_mix" = some (some (.ref f4))) (l4 : K.lookup f4 = some ⟨oc4, od4, .func (PySem.W.fnOf "_law_mix" "_law_mix" (defArgs s_Lmix) (defBody s_Lmix) (defScope s_Lmix) .none kV4 dc4 pm4 an4 cd4 ct4), sl4⟩) (c4 : PySem.W.codeIn K cd4 "_law_mix" = true) (k4 : PySem.W.keepIn K (.ref f4) = true)
    (a5 : PySem.W.nsIn K mainGlobals "_law_turns" = some (some (.ref f5))) (l5 : K.lookup f5 = some ⟨oc5, od5, .func (PySem.W.fnOf "_law_turns" "_law_turns" (defArgs s_Lturns) (defBody s_Lturns) (defScope s_Lturns) .none kV5 dc5 pm5 an5 cd5 ct5), sl5⟩) (c5 : PySem.W.codeIn K cd5 "_law_turns" = true) (k5 : PySem.W.keepIn K (.ref f5) = true)
    (a6 : PySem.W.nsIn K mainGlobals "_law_table" = some (some (.ref f6))) (l6 : K.lookup f6 = some ⟨oc6, od6, .func (PySem.W.fnOf "_law_table" "_law_table" (defArgs s_Ltable) (defBody s_Ltable) (defScope s_Ltable) .none kV6 dc6 pm6 an6 cd6 ct6), sl6⟩) (c6 : PySem.W.codeIn K cd6 "_law_table" = true) (k6 : PySem.W.keepIn K (.ref f6) = true)
    (a7 : PySem.W.nsIn K mainGlobals "_law_drawn" = some (some (.ref f7))) (l7 : K.lookup f7 = some ⟨oc7, od7, .func (PySem.W.fnOf "_law_drawn" "_law_drawn" (defArgs s_Ldrawn) (defBody s_Ldrawn) (defScope s_Ldrawn) .none kV7 dc7 pm7 an7 cd7 ct7), sl7⟩) (c7 : PySem.W.codeIn K cd7 "_law_drawn" = true) (k7 : PySem.W.keepIn K (.ref f7) = true)
    (a8 : PySem.W.nsIn K mainGlobals "_law_spot" = some (some (.ref f8))) (l8 : K.lookup f8 = some ⟨oc8, od8, .func (PySem.W.fnOf "_law_spot" "_law_spot" (defArgs s_Lspot) (defBody s_Lspot) (defScope s_Lspot) .none kV8 dc8 pm8 an8 cd8 ct8), sl8⟩) (c8 : PySem.W.codeIn K cd8 "_law_spot" = true) (k8 : PySem.W.keepIn K (.ref f8) = true)
    (a9 : PySem.W.nsIn K mainGlobals "_law_leads" = some (some (.ref f9))) (l9 : K.lookup f9 = some ⟨oc9, od9, .func (PySem.W.fnOf "_law_leads" "_law_leads" (defArgs s_Lleads) (defBody s_Lleads) (defScope s_Lleads) .none kV9 dc9 pm9 an9 cd9 ct9), sl9⟩) (c9 : PySem.W.codeIn K cd9 "_law_leads" = true) (k9 : PySem.W.keepIn K (.ref f9) = true)
    (a10 : PySem.W.nsIn K mainGlobals "_law_ahead" = some (some (.ref f10))) (l10 : K.lookup f10 = some ⟨oc10, od10, .func (PySem.W.fnOf "_law_ahead" "_law_ahead" (defArgs s_Lahead) (defBody s_Lahead) (defScope s_Lahead) .none kV10 dc10 pm10 an10 cd10 ct10), sl10⟩) (c10 : PySem.W.codeIn K cd10 "_law_ahead" = true) (k10 : PySem.W.keepIn K (.ref f10) = true)
    (a11 : PySem.W.nsIn K mainGlobals "_law_least" = some (some (.ref f11))) (l11 : K.lookup f11 = some ⟨oc11, od11, .func (PySem.W.fnOf "_law_least" "_law_least" (defArgs s_Lleast) (defBody s_Lleast) (defScope s_Lleast) .none kV11 dc11 pm11 an11 cd11 ct11), sl11⟩) (c11 : PySem.W.codeIn K cd11 "_law_least" = true) (k11 : PySem.W.keepIn K (.ref f11) = true)
    (a12 : PySem.W.nsIn K mainGlobals "law" = some (some (.ref f12))) (l12 : K.lookup f12 = some ⟨oc12, od12, .func (PySem.W.fnOf "law" "law" (defArgs s_law) (defBody s_law) (defScope s_law) .none kV12 dc12 pm12 an12 cd12 ct12), sl12⟩) (c12 : PySem.W.codeIn K cd12 "law" = true) (k12 : PySem.W.keepIn K (.ref f12) = true)
    (z0 : PySem.W.nsIn K mainGlobals "abs" = some none)
    (z1 : PySem.W.nsIn K mainGlobals "bool" = some none)
    (z2 : PySem.W.nsIn K mainGlobals "int" = some none)
    (z3 : PySem.W.nsIn K mainGlobals "isinstance" = some none)
    (z4 : PySem.W.nsIn K mainGlobals "len" = some none)
    (z5 : PySem.W.nsIn K mainGlobals "list" = some none)
    (z6 : PySem.W.nsIn K mainGlobals "range" = some none)
    (z7 : PySem.W.nsIn K mainGlobals "tuple" = some none)
    (z8 : PySem.W.nsIn K mainGlobals "zip" = some none) :
    ∃ fd : FuncData, (∀ (s : Shared) (v : Value), BindsTo s fd ⟨[v], []⟩ [("_law_script", v)]) ∧ ∀ base : Heap, K.In base → base.Ns mainGlobals mg → FnOk l.prog w K mg base CX0 4 fa fd ["_law_script"] (toSp W_ K T_law) := by
  have e := hfa.symm.trans (PySem.W.mg_of X G a12)
  cases e
  have B : Bs mg := ⟨PySem.W.mg_none_of X G z0, PySem.W.mg_none_of X G z1, PySem.W.mg_none_of X G z2, PySem.W.mg_none_of X G z3, PySem.W.mg_none_of X G z4, PySem.W.mg_none_of X G z5, PySem.W.mg_none_of X G z6, PySem.W.mg_none_of X G z7, PySem.W.mg_none_of X G z8⟩
  have t0 := topfn (st := s_steps_of) X G a0 l0 c0 k0
  have t1 := topfn (st := s_least_ways) X G a1 l1 c1 k1
  have t2 := topfn (st := s_Lwhole) X G a2 l2 c2 k2
  have t3 := topfn (st := s_Lat) X G a3 l3 c3 k3
  have t4 := topfn (st := s_Lmix) X G a4 l4 c4 k4
  have t5 := topfn (st := s_Lturns) X G a5 l5 c5 k5
  have t6 := topfn (st := s_Ltable) X G a6 l6 c6 k6
  have t7 := topfn (st := s_Ldrawn) X G a7 l7 c7 k7
  have t8 := topfn (st := s_Lspot) X G a8 l8 c8 k8
  have t9 := topfn (st := s_Lleads) X G a9 l9 c9 k9
  have t10 := topfn (st := s_Lahead) X G a10 l10 c10 k10
  have t11 := topfn (st := s_Lleast) X G a11 l11 c11 k11
  have t12 := topfn (st := s_law) X G a12 l12 c12 k12
  refine ⟨PySem.W.fnOf "law" "law" (defArgs s_law) (defBody s_law) (defScope s_law) .none kV12 dc12 pm12 an12 cd12 ct12, fun s v => .of_eq rfl, fun base _ _ => ?_⟩
  have h_steps_of : Fn l.prog w K mg base W_ 1 "steps_of" T_steps_of := d_steps_of t0 B
  have h_Lwhole : Fn l.prog w K mg base W_ 1 "_law_whole" T_Lwhole := d_Lwhole t2 B
  have h_Lat : Fn l.prog w K mg base W_ 1 "_law_at" T_Lat := d_Lat t3 B
  have h_Lmix : Fn l.prog w K mg base W_ 1 "_law_mix" T_Lmix := d_Lmix t4 B
  have h_Ltable : Fn l.prog w K mg base W_ 1 "_law_table" T_Ltable := d_Ltable t6 B
  have h_Lspot : Fn l.prog w K mg base W_ 1 "_law_spot" T_Lspot := d_Lspot t8 B
  have h_least_ways : Fn l.prog w K mg base W_ 2 "least_ways" T_least_ways := d_least_ways t1 B h_steps_of
  have h_Lturns : Fn l.prog w K mg base W_ 2 "_law_turns" T_Lturns := d_Lturns t5 B h_Lat h_Lmix
  have h_Lleads : Fn l.prog w K mg base W_ 2 "_law_leads" T_Lleads := d_Lleads t9 B h_Lspot h_Lwhole
  have h_Lahead : Fn l.prog w K mg base W_ 2 "_law_ahead" T_Lahead := d_Lahead t10 B h_Lspot
  have h_Ldrawn : Fn l.prog w K mg base W_ 3 "_law_drawn" T_Ldrawn := d_Ldrawn t7 B h_Lat h_Lmix h_Ltable h_Lturns
  have h_Lleast : Fn l.prog w K mg base W_ 3 "_law_least" T_Lleast := d_Lleast t11 B h_Lahead
  exact dl_law t12 B h_Ldrawn h_Lleads h_Lleast h_least_ways
theorem walk {l : PySem.W.OpenLaw} {q : Program} {loose : List Str} {XP : (Str → Option Value) → Heap → Prop} {YP : World → Heap → Prop} {d : DefRec} {K : Params → PySem.W.Frag} (hn : l.most = some 63) (hdf : d.params.defaults = [])
    (hY : ∀ (w : World) (h : Heap), YP w h → (K w.params).In h)
    (F : ∀ (w : World) (mg : Str → Option Value) (fa : Addr) (h : Heap), (K w.params).In h → h.Ns mainGlobals mg → mg d.name = some (.ref fa) →
      ∃ fd : FuncData, (∀ (s : Shared) (u : Value), BindsTo s fd ⟨[u], []⟩ [("_law_script", u)]) ∧ ∀ base : Heap, (K w.params).In base → base.Ns mainGlobals mg → FnOk l.prog w (K w.params) mg base CX0 4 fa fd ["_law_script"] (toSp W_ (K w.params) T_law)) :
    PySem.W.WalkO q loose XP YP l.row.toRowW d [] (fun f vs => PySem.call f vs) :=
  L2.walk_of (n := 63) (k := 4) (x := "_law_script") (CX := fun _ => CX0) (sp := fun w => toSp W_ (K w.params) T_law) hn (by decide) hdf ⟨rfl, by decide, by decide⟩ hY F (fun _ _ a ns hl _ hS => law_spM hl hS fun _ => rfl) fun _ _ _ _ _ z => z
end My
open PySem PySem.W PyProof.Rows
set_option maxRecDepth 100000 in
set_option maxHeartbeats 0 in
theorem PySem.Challenge.cw_cosetyard_k53_least_ways_holds : PySem.Challenge.rw_cosetyard_k53_least_ways.Holds := by
  w_on; o_law; k_head; (case hw => w_witness2)
  k_fill
  refine My.walk (l := PySem.Challenge.rw_cosetyard_k53_least_ways) rfl rfl (fun w h Y => PySem.W.kIn_of Y) ?F
  case F =>
    intro w mg fa h KX G hmg
    refine' My.all_mk KX G hmg ?a0 ?l0 ?c0 ?k0 ?a1 ?l1 ?c1 ?k1 ?a2 ?l2 ?c2 ?k2 ?a3 ?l3 ?c3 ?k3 ?a4 ?l4 ?c4 ?k4 ?a5 ?l5 ?c5 ?k5 ?a6 ?l6 ?c6 ?k6 ?a7 ?l7 ?c7 ?k7 ?a8 ?l8 ?c8 ?k8 ?a9 ?l9 ?c9 ?k9 ?a10 ?l10 ?c10 ?k10 ?a11 ?l11 ?c11 ?k11 ?a12 ?l12 ?c12 ?k12 ?z0 ?z1 ?z2 ?z3 ?z4 ?z5 ?z6 ?z7 ?z8
    (case a0 => k_is)
    (case l0 => k_is)
    (case c0 => k_is)
    (case k0 => k_is)
    (case a1 => k_is)
    (case l1 => k_is)
    (case c1 => k_is)
    (case k1 => k_is)
    (case a2 => k_is)
    (case l2 => k_is)
    (case c2 => k_is)
    (case k2 => k_is)
    (case a3 => k_is)
    (case l3 => k_is)
    (case c3 => k_is)
    (case k3 => k_is)
    (case a4 => k_is)
    (case l4 => k_is)
    (case c4 => k_is)
    (case k4 => k_is)
    (case a5 => k_is)
    (case l5 => k_is)
    (case c5 => k_is)
    (case k5 => k_is)
    (case a6 => k_is)
    (case l6 => k_is)
    (case c6 => k_is)
    (case k6 => k_is)
    (case a7 => k_is)
    (case l7 => k_is)
    (case c7 => k_is)
    (case k7 => k_is)
    (case a8 => k_is)
    (case l8 => k_is)
    (case c8 => k_is)
    (case k8 => k_is)
    (case a9 => k_is)
    (case l9 => k_is)
    (case c9 => k_is)
    (case k9 => k_is)
    (case a10 => k_is)
    (case l10 => k_is)
    (case c10 => k_is)
    (case k10 => k_is)
    (case a11 => k_is)
    (case l11 => k_is)
    (case c11 => k_is)
    (case k11 => k_is)
    (case a12 => k_is)
    (case l12 => k_is)
    (case c12 => k_is)
    (case k12 => k_is)
    (case z0 => k_is)
    (case z1 => k_is)
    (case z2 => k_is)
    (case z3 => k_is)
    (case z4 => k_is)
    (case z5 => k_is)
    (case z6 => k_is)
    (case z7 => k_is)
    (case z8 => k_is)
