import PyProof.Rows.All
import Wide.All
import OpenK.AllK
import Wide.FinOn
import HandS.ForMost
import HandS.Lambda
import HandS.Nested
import HandS.TupLe
import HandS.Style
import HandS.SortOrd
import HandS.DictTup
import HandS.Conv
import HandS.Strs
import HandS.IsInst
import HandS.TupMul
import KE.DataMinMax
import KE.SortKeyHeap
import HandS.HeadWalk
import HandS.SortKw
import HandS.TupAny
import HandS.Small
import HandS.Zip0
import HandS.Zip
import HandS.MapObj
import KE.KDictZip
import KE.GoesEnumKw
import KE.KDictPairs
import HandS.SetBool
import KE.KIndexOf
import HandS.Defaults
import HandS.HeadHook2
import PySem.Challenge.RW_pairfolds_k64_whole_alone_and_together
import HandS.Head0
import HandS.Head1
import HandS.Head2
import HandS.HeadEnd
import HandS.HeadHook1
import HandS.HeadHook3
import HandS.HeadHook4
import HandS.EndTab
set_option Elab.async false
set_option linter.all false
set_option maxRecDepth 100000
set_option maxHeartbeats 4000000
/-! A layer over HandS: values stand for data (PyData); judgements over data alone. -/
namespace Pf
open PySem L2

/-! ### values and data -/
abbrev D := PyData
def keyD : Key → D
  | .inl i => .int i
  | .inr x => .str x
def keysD (k : List Key) : D := .tuple (k.map keyD)
mutual
inductive Rep (H : Hp) : V → D → Prop
  | non : Rep H .non .none
  | bl (b : Bool) : Rep H (.bl b) (.bool b)
  | int (i : Int) : Rep H (.int i) (.int i)
  | str (x : Str) : Rep H (.str x) (.str x)
  | tup {a : Addr} {xs : List V} {ds : List D} : H a = some (.tup xs) → Reps H xs ds → Rep H (.ref a) (.tuple ds)
  | lst {a : Addr} {xs : List V} {ds : List D} : H a = some (.lst xs) → Reps H xs ds → Rep H (.ref a) (.list ds)
  | dk {a : Addr} {kvs : List (Key × V)} {ds : List (D × D)} : H a = some (.dK kvs) → RepK H kvs ds → Rep H (.ref a) (.dict ds)
  | dt {a : Addr} {kvs : List (List Key × V)} {ds : List (D × D)} : H a = some (.dT kvs) → RepT H kvs ds → Rep H (.ref a) (.dict ((.none, .none) :: ds))
  | fz {a : Addr} {o : Obj} {ps : List Addr} {kvs : List (Str × Int)} : H a = some (.frz o (.tup (ps.map V.ref))) → o.dict = none → Paired (fun p kv => H p = some (.tup [.str kv.1, .int kv.2])) ps kvs → Rep H (.ref a) (.dict ((.bool true, .none) :: kvs.map fun p => (.str p.1, .int p.2)))
  | fs {a : Addr} {o : Obj} {ss : List Str} : H a = some (.frz o (.tup (ss.map V.str))) → o.dict = none → Rep H (.ref a) (.dict ((.bool false, .none) :: ss.map fun x => (.str x, .none)))
  | ptr (a : Addr) : Rep H (.ref a) (.dict [(.list [], .none), (.int (a : Nat), .none)])
inductive Reps (H : Hp) : List V → List D → Prop
  | nil : Reps H [] []
  | cons {v : V} {d : D} {vs : List V} {ds : List D} : Rep H v d → Reps H vs ds → Reps H (v :: vs) (d :: ds)
inductive RepK (H : Hp) : List (Key × V) → List (D × D) → Prop
  | nil : RepK H [] []
  | cons {k : Key} {v : V} {d : D} {vs : List (Key × V)} {ds : List (D × D)} : Rep H v d → RepK H vs ds → RepK H ((k, v) :: vs) ((keyD k, d) :: ds)
inductive RepT (H : Hp) : List (List Key × V) → List (D × D) → Prop
  | nil : RepT H [] []
  | cons {k : List Key} {v : V} {d : D} {vs : List (List Key × V)} {ds : List (D × D)} : Rep H v d → RepT H vs ds → RepT H ((k, v) :: vs) ((keysD k, d) :: ds)
end

/-- all of G stands in H -/
def Sub (G H : Hp) : Prop := ∀ a o, G a = some o → H a = some o
theorem Sub.refl (G : Hp) : Sub G G := fun _ _ h => h
theorem Sub.trans {G H I : Hp} (a : Sub G H) (b : Sub H I) : Sub G I := fun x o h => b x o (a x o h)
theorem Sub.free {G H : Hp} (s : Sub G H) {p : Addr} (h : H p = none) : G p = none := by
  cases q : G p with
  | none => rfl
  | some o => rw [s p o q] at h; cases h

mutual
theorem Rep.mono {H H' : Hp} (s : Sub H H') : ∀ {v : V} {d : D}, Rep H v d → Rep H' v d
  | _, _, .non => .non
  | _, _, .bl b => .bl b
  | _, _, .int i => .int i
  | _, _, .str x => .str x
  | _, _, .tup h r => .tup (s _ _ h) (Reps.mono s r)
  | _, _, .lst h r => .lst (s _ _ h) (Reps.mono s r)
  | _, _, .dk h r => .dk (s _ _ h) (RepK.mono s r)
  | _, _, .dt h r => .dt (s _ _ h) (RepT.mono s r)
  | _, _, .fz h n p => .fz (s _ _ h) n (Paired.mapP p fun _ _ q => s _ _ q)
  | _, _, .fs h n => .fs (s _ _ h) n
  | _, _, .ptr a => .ptr a
theorem Reps.mono {H H' : Hp} (s : Sub H H') : ∀ {vs : List V} {ds : List D}, Reps H vs ds → Reps H' vs ds
  | _, _, .nil => .nil
  | _, _, .cons h r => .cons (Rep.mono s h) (Reps.mono s r)
theorem RepK.mono {H H' : Hp} (s : Sub H H') : ∀ {vs : List (Key × V)} {ds : List (D × D)}, RepK H vs ds → RepK H' vs ds
  | _, _, .nil => .nil
  | _, _, .cons h r => .cons (Rep.mono s h) (RepK.mono s r)
theorem RepT.mono {H H' : Hp} (s : Sub H H') : ∀ {vs : List (List Key × V)} {ds : List (D × D)}, RepT H vs ds → RepT H' vs ds
  | _, _, .nil => .nil
  | _, _, .cons h r => .cons (Rep.mono s h) (RepT.mono s r)
end

theorem Reps.length {H : Hp} : ∀ {vs : List V} {ds : List D}, Reps H vs ds → vs.length = ds.length
  | _, _, .nil => rfl
  | _, _, .cons _ r => congrArg (· + 1) (Reps.length r)
theorem Reps.get {H : Hp} : ∀ {vs : List V} {ds : List D} {i : Nat} {d : D}, Reps H vs ds → ds[i]? = some d → ∃ v, vs[i]? = some v ∧ Rep H v d
  | _, _, _, _, .nil, e => by simp at e
  | _, _, 0, _, .cons h _, e => by simp at e; subst e; exact ⟨_, rfl, h⟩
  | _, _, i + 1, d, .cons _ r, e => by
    obtain ⟨v, h1, h2⟩ := Reps.get (i := i) (d := d) r (by simpa using e)
    exact ⟨v, by simpa using h1, h2⟩
theorem Reps.getv {H : Hp} : ∀ {vs : List V} {ds : List D} {i : Nat} {v : V}, Reps H vs ds → vs[i]? = some v → ∃ d, ds[i]? = some d ∧ Rep H v d
  | _, _, _, _, .nil, e => by simp at e
  | _, _, 0, _, .cons h _, e => by simp at e; subst e; exact ⟨_, rfl, h⟩
  | _, _, i + 1, v, .cons _ r, e => by
    obtain ⟨d, h1, h2⟩ := Reps.getv (i := i) (v := v) r (by simpa using e)
    exact ⟨d, by simpa using h1, h2⟩
theorem Reps.append {H : Hp} : ∀ {vs ws : List V} {ds es : List D}, Reps H vs ds → Reps H ws es → Reps H (vs ++ ws) (ds ++ es)
  | _, _, _, _, .nil, s => s
  | _, _, _, _, .cons h r, s => .cons h (Reps.append r s)
theorem Reps.snoc {H : Hp} {vs : List V} {ds : List D} {v : V} {d : D} (r : Reps H vs ds) (h : Rep H v d) : Reps H (vs ++ [v]) (ds ++ [d]) := r.append (.cons h .nil)
theorem Reps.drop {H : Hp} : ∀ {vs : List V} {ds : List D} (n : Nat), Reps H vs ds → Reps H (vs.drop n) (ds.drop n)
  | _, _, 0, r => r
  | _, _, _ + 1, .nil => .nil
  | _, _, n + 1, .cons _ t => Reps.drop n t
theorem Reps.take {H : Hp} : ∀ {vs : List V} {ds : List D} (n : Nat), Reps H vs ds → Reps H (vs.take n) (ds.take n)
  | _, _, 0, _ => .nil
  | _, _, _ + 1, .nil => .nil
  | _, _, n + 1, .cons h t => .cons h (Reps.take n t)
theorem Reps.set {H : Hp} {v : V} {d : D} (q : Rep H v d) : ∀ {vs : List V} {ds : List D} (n : Nat), Reps H vs ds → Reps H (vs.set n v) (ds.set n d)
  | _, _, _, .nil => .nil
  | _, _, 0, .cons _ t => .cons q t
  | _, _, n + 1, .cons h t => .cons h (Reps.set q n t)
theorem Reps.ints {H : Hp} : ∀ {vs : List V} {ns : List Int}, Reps H vs (ns.map .int) → vs = ns.map V.int
  | _, [], r => by cases r; rfl
  | _, n :: ns, r => by
    cases r with
    | cons h t => cases h; rw [Reps.ints t]; rfl
theorem Reps.strs {H : Hp} : ∀ {vs : List V} {ns : List Str}, Reps H vs (ns.map .str) → vs = ns.map V.str
  | _, [], r => by cases r; rfl
  | _, n :: ns, r => by
    cases r with
    | cons h t => cases h; rw [Reps.strs t]; rfl
theorem Reps.bls {H : Hp} : ∀ {vs : List V} {ns : List Bool}, Reps H vs (ns.map .bool) → vs = ns.map V.bl
  | _, [], r => by cases r; rfl
  | _, n :: ns, r => by
    cases r with
    | cons h t => cases h; rw [Reps.bls t]; rfl
theorem RepK.length {H : Hp} : ∀ {vs : List (Key × V)} {ds : List (D × D)}, RepK H vs ds → vs.length = ds.length
  | _, _, .nil => rfl
  | _, _, .cons _ r => congrArg (· + 1) (RepK.length r)
theorem RepT.length {H : Hp} : ∀ {vs : List (List Key × V)} {ds : List (D × D)}, RepT H vs ds → vs.length = ds.length
  | _, _, .nil => rfl
  | _, _, .cons _ r => congrArg (· + 1) (RepT.length r)

/-! ### from heap to heap -/
abbrev Tb := List (Addr × Str)
/-- all stays, but a table may grow -/
def Grow (H H' : Hp) : Prop := ∀ a o, H a = some o → H' a = some o ∨ ((∃ ps, o = .tbl ps) ∧ ∃ ps, H' a = some (.tbl ps))
theorem Grow.refl (H : Hp) : Grow H H := fun _ _ h => .inl h
theorem Grow.trans {H H' H2 : Hp} (a : Grow H H') (b : Grow H' H2) : Grow H H2 := fun x o h => by
  rcases a x o h with h1 | ⟨h1, ps, h2⟩
  · exact b x o h1
  · rcases b x _ h2 with h3 | ⟨_, h3⟩
    · exact .inr ⟨h1, ps, h3⟩
    · exact .inr ⟨h1, h3⟩
theorem Grow.of {H H' : Hp} (s : Sub H H') : Grow H H' := fun a o h => .inl (s a o h)
theorem Grow.free {H H' : Hp} (g : Grow H H') {a : Addr} (h : H' a = none) : H a = none := by
  cases q : H a with
  | none => rfl
  | some o => rcases g a o q with z | ⟨_, ps, z⟩ <;> rw [z] at h <;> cases h
theorem Grow.at_ {H H' : Hp} (g : Grow H H') {a : Addr} {o : HO} (h : H a = some o) (n : ∀ ps, o ≠ .tbl ps) : H' a = some o := by
  rcases g a o h with z | ⟨⟨ps, e⟩, _⟩
  · exact z
  · exact absurd e (n ps)
structure Wf (T : Tb) (G H : Hp) : Prop where
  s : Sub G H
  t : LamX.Tabs T H
  nt : ∀ a ps, G a ≠ some (.tbl ps)
/-- what the base may take: what is new, or a tuple -/
def NewOk (H : Hp) (a : Addr) : Prop := H a = none ∨ ∃ xs, H a = some (.tup xs)
theorem Grow.newOk {H H' : Hp} (g : Grow H H') {a : Addr} (h : NewOk H' a) : NewOk H a := by
  rcases h with h | ⟨xs, h⟩
  · exact .inl (g.free h)
  · cases q : H a with
    | none => exact .inl q
    | some o =>
      rcases g a o q with z | ⟨_, ps, z⟩
      · rw [h] at z; cases z; exact .inr ⟨xs, q⟩
      · rw [h] at z; cases z
/-- from H, of which G may be leant on, to H' and G' -/
structure Go (T : Tb) (G H G' H' : Hp) : Prop where
  g : Sub G G'
  h : Grow H H'
  w : Wf T G' H'
  n : ∀ a, G' a ≠ none → G a ≠ none ∨ NewOk H a
section
variable {T : Tb} {G H G' H' G2 H2 : Hp}
theorem Wf.go (x : Wf T G H) : Go T G H G H := ⟨Sub.refl G, Grow.refl H, x, fun _ h => .inl h⟩
theorem Go.trans (a : Go T G H G' H') (b : Go T G' H' G2 H2) : Go T G H G2 H2 := ⟨a.g.trans b.g, a.h.trans b.h, b.w, fun x h => by
  rcases b.n x h with z | z
  · exact a.n x z
  · exact .inr (a.h.newOk z)⟩
theorem Wf.grow (x : Wf T G H) (g : Grow H H') (t : LamX.Tabs T H') : Wf T G H' := ⟨fun a o h => g.at_ (x.s a o h) fun ps e => x.nt a ps (by rw [h, e]), t, x.nt⟩
/-- the base may be left where it is -/
theorem Go.back (a : Go T G H G' H') (x : Wf T G H) : Go T G H G H' := ⟨Sub.refl G, a.h, x.grow a.h a.w.t, fun _ h => .inl h⟩
/-- two parts of one heap -/
def un2 (G1 G2 : Hp) : Hp := fun a => match G1 a with
  | some o => some o
  | none => G2 a
theorem un2_l {G1 G2 : Hp} : Sub G1 (un2 G1 G2) := fun a o h => by unfold un2; rw [h]
theorem un2_r {G1 G2 H : Hp} (s1 : Sub G1 H) (s2 : Sub G2 H) : Sub G2 (un2 G1 G2) := fun a o h => by
  unfold un2
  cases q : G1 a with
  | none => exact h
  | some u => exact (s1 a u q).symm.trans (s2 a o h)
theorem un2_s {G1 G2 H : Hp} (s1 : Sub G1 H) (s2 : Sub G2 H) : Sub (un2 G1 G2) H := fun a o h => by
  unfold un2 at h
  cases q : G1 a with
  | none => rw [q] at h; exact s2 a o h
  | some u => rw [q] at h; rw [← h]; exact s1 a u q
/-- a step from a lesser base is one from a greater -/
theorem Go.lift {Gb : Hp} (a : Go T G H G' H') (s : Sub G Gb) (x : Wf T Gb H) : ∃ Gc, Sub G' Gc ∧ Go T Gb H Gc H' := by
  have x' := x.grow a.h a.w.t
  refine ⟨un2 Gb G', un2_r x'.s a.w.s, un2_l, a.h, ⟨un2_s x'.s a.w.s, a.w.t, fun b ps e => ?_⟩, fun b h => ?_⟩
  · unfold un2 at e
    cases q : Gb b with
    | none => rw [q] at e; exact a.w.nt b ps e
    | some u => rw [q] at e; cases e; exact x.nt b ps q
  · unfold un2 at h
    cases q : Gb b with
    | some u => exact .inl (by simp)
    | none =>
      rw [q] at h
      rcases a.n b h with z | z
      · cases q2 : G b with
        | none => exact absurd q2 z
        | some o => rw [s b o q2] at q; cases q
      · exact .inr z
/-- a new object -/
def NotT (o : HO) : Prop := ∀ ps, o ≠ .tbl ps
theorem tabs_new {p : Addr} {o : HO} (t : LamX.Tabs T H) (h : H p = none) : LamX.Tabs T (upd H p o) := t.ext fun b u e => by rw [upd_ne (ne_of_none e h)]; exact e
theorem sub_new {p : Addr} {o : HO} (h : H p = none) : Sub H (upd H p o) := fun b u e => by rw [upd_ne (ne_of_none e h)]; exact e
theorem Wf.new {p : Addr} {o : HO} (x : Wf T G H) (h : H p = none) (n : NotT o) : Go T G H (upd G p o) (upd H p o) := by
  have hg : G p = none := x.s.free h
  refine ⟨sub_new hg, Grow.of (sub_new h), ⟨fun a u e => ?_, tabs_new x.t h, fun a ps e => ?_⟩, fun a e => ?_⟩
  · by_cases q : a = p
    · subst q; rw [upd_same] at e ⊢; exact e
    · rw [upd_ne q] at e ⊢; exact x.s a u e
  · by_cases q : a = p
    · subst q; rw [upd_same] at e; cases e; exact n ps rfl
    · rw [upd_ne q] at e; exact x.nt a ps e
  · by_cases q : a = p
    · subst q; exact .inr (.inl h)
    · rw [upd_ne q] at e; exact .inl e
/-- a new object that the base does not take -/
theorem Wf.hid {p : Addr} {o : HO} (x : Wf T G H) (h : H p = none) : Go T G H G (upd H p o) := ⟨Sub.refl G, Grow.of (sub_new h), ⟨x.s.trans (sub_new h), tabs_new x.t h, x.nt⟩, fun _ e => .inl e⟩
/-- what may be changed -/
def Plain : HO → Prop
  | .lst _ => True
  | .dK _ => True
  | .dT _ => True
  | _ => False
theorem Plain.notT {o : HO} (h : Plain o) : NotT o := fun ps e => by subst e; exact h
theorem Plain.notCode {o : HO} (h : Plain o) (c : Addr) (q : Str) : o ≠ LamX.CodeO c q := fun e => by subst e; exact h
theorem tabs_set {p : Addr} {o u : HO} (t : LamX.Tabs T H) (h : H p = some u) (pl : Plain u) : LamX.Tabs T (upd H p o) := fun q hq => by
  obtain ⟨ps, h1, h2, h3⟩ := t q hq
  have n1 : q.1 ≠ p := fun e => by rw [e, h] at h1; cases h1; exact pl
  refine ⟨ps, by rw [upd_ne n1]; exact h1, h2, fun pos cv hc => ?_⟩
  obtain ⟨c, e1, e2⟩ := h3 pos cv hc
  have n2 : c ≠ p := fun e => by rw [e, h] at e2; cases e2; exact pl
  exact ⟨c, e1, by rw [upd_ne n2]; exact e2⟩
end

/-! ### environments -/
inductive Sl where
  | any
  | dat (d : D)
  | own (d : D)
abbrev En := List Sl
/-- an own object's content -/
def OwnAt (G : Hp) : HO → D → Prop
  | .lst xs, .list ds => Reps G xs ds
  | .dK kvs, .dict ds => RepK G kvs ds
  | .dT kvs, .dict ((.none, .none) :: ds) => RepT G kvs ds
  | _, _ => False
theorem OwnAt.cases {G : Hp} {o : HO} {d : D} (h : OwnAt G o d) : (∃ xs ds, o = .lst xs ∧ d = .list ds ∧ Reps G xs ds) ∨ (∃ kvs ds, o = .dK kvs ∧ d = .dict ds ∧ RepK G kvs ds) ∨ ∃ kvs ds, o = .dT kvs ∧ d = .dict ((.none, .none) :: ds) ∧ RepT G kvs ds := by
  unfold OwnAt at h
  split at h
  · exact .inl ⟨_, _, rfl, rfl, h⟩
  · exact .inr (.inl ⟨_, _, rfl, rfl, h⟩)
  · exact .inr (.inr ⟨_, _, rfl, rfl, h⟩)
  · exact h.elim
theorem OwnAt.mono {G G' : Hp} (s : Sub G G') {o : HO} {d : D} (h : OwnAt G o d) : OwnAt G' o d := by
  rcases h.cases with ⟨_, _, rfl, rfl, h⟩ | ⟨_, _, rfl, rfl, h⟩ | ⟨_, _, rfl, rfl, h⟩
  · exact Reps.mono s h
  · exact RepK.mono s h
  · exact RepT.mono s h
theorem OwnAt.plain {G : Hp} {o : HO} {d : D} (h : OwnAt G o d) : Plain o := by
  rcases h.cases with ⟨_, _, rfl, rfl, h⟩ | ⟨_, _, rfl, rfl, h⟩ | ⟨_, _, rfl, rfl, h⟩ <;> exact True.intro
theorem OwnAt.rep {G : Hp} {p : Addr} {o : HO} {d : D} (h : OwnAt G o d) (hp : G p = some o) : Rep G (.ref p) d := by
  rcases h.cases with ⟨_, _, rfl, rfl, h⟩ | ⟨_, _, rfl, rfl, h⟩ | ⟨_, _, rfl, rfl, h⟩
  · exact .lst hp h
  · exact .dk hp h
  · exact .dt hp h
def SlAt (H0 G H : Hp) (x : Option V) : Sl → Prop
  | .any => True
  | .dat d => ∃ v, x = some v ∧ Rep G v d
  | .own d => ∃ p o, x = some (.ref p) ∧ H0 p = none ∧ G p = none ∧ H p = some o ∧ OwnAt G o d
def look (σ : L2.St) (i : Nat) : Option V := match σ[i]? with
  | some (some v) => some v
  | _ => none
theorem look_some {σ : L2.St} {i : Nat} {v : V} (h : look σ i = some v) : σ[i]? = some (some v) := by
  unfold look at h
  split at h
  · rename_i e; cases h; exact e
  · cases h
theorem look_of {σ : L2.St} {i : Nat} {v : V} (h : σ[i]? = some (some v)) : look σ i = some v := by unfold look; rw [h]
structure Sta (T : Tb) (G0 H0 G H : Hp) (σ : L2.St) (ρ : En) : Prop where
  go : Go T G0 H0 G H
  len : σ.length = ρ.length
  sl : ∀ (i : Nat) (s : Sl), ρ[i]? = some s → SlAt H0 G H (look σ i) s
  one : ∀ (i j : Nat) (d e : D), ρ[i]? = some (Sl.own d) → ρ[j]? = some (Sl.own e) → i = j
section
variable {T : Tb} {G0 H0 G H G' H' : Hp} {σ : L2.St} {ρ ρ' : En}
theorem SlAt.go {x : Option V} {s : Sl} (h : SlAt H0 G H x s) (g : Go T G H G' H') : SlAt H0 G' H' x s := by
  cases s with
  | any => exact True.intro
  | dat d => obtain ⟨v, e, r⟩ := h; exact ⟨v, e, r.mono g.g⟩
  | own d =>
    obtain ⟨p, o, e, h0, hg, hh, r⟩ := h
    refine ⟨p, o, e, h0, ?_, g.h.at_ hh r.plain.notT, r.mono g.g⟩
    cases q : G' p with
    | none => rfl
    | some u =>
      rcases g.n p (by rw [q]; simp) with z | z
      · exact absurd hg z
      · rcases z with z | ⟨xs, z⟩
        · rw [hh] at z; cases z
        · rw [hh] at z; cases z; exact (r.plain : False).elim
theorem Sta.next (S : Sta T G0 H0 G H σ ρ) (g : Go T G H G' H') : Sta T G0 H0 G' H' σ ρ := ⟨S.go.trans g, S.len, fun i s h => (S.sl i s h).go g, S.one⟩
/-- forgetting -/
inductive Le : En → En → Prop
  | nil : Le [] []
  | same {s : Sl} {a b : En} : Le a b → Le (s :: a) (s :: b)
  | any {s : Sl} {a b : En} : Le a b → Le (s :: a) (.any :: b)
theorem Le.refl : ∀ a : En, Le a a
  | [] => .nil
  | _ :: a => .same (Le.refl a)
theorem Le.len : ∀ {a b : En}, Le a b → a.length = b.length
  | _, _, .nil => rfl
  | _, _, .same h => congrArg (· + 1) h.len
  | _, _, .any h => congrArg (· + 1) h.len
theorem Le.at_ : ∀ {a b : En}, Le a b → ∀ {i : Nat} {s : Sl}, b[i]? = some s → s = .any ∨ a[i]? = some s
  | _, _, .nil, i, s, h => by simp at h
  | _, _, .same h, 0, s, e => .inr (by simpa using e)
  | _, _, .same h, i + 1, s, e => by simpa using h.at_ (i := i) (s := s) (by simpa using e)
  | _, _, .any h, 0, s, e => .inl (by simp at e; exact e.symm)
  | _, _, .any h, i + 1, s, e => by simpa using h.at_ (i := i) (s := s) (by simpa using e)
theorem Sta.le (S : Sta T G0 H0 G H σ ρ) (l : Le ρ ρ') : Sta T G0 H0 G H σ ρ' := by
  refine ⟨S.go, S.len.trans l.len, fun i s h => ?_, fun i j d e h1 h2 => ?_⟩
  · rcases l.at_ h with z | z
    · subst z; exact True.intro
    · exact S.sl i s z
  · have a1 := (l.at_ h1).resolve_left (fun z => nomatch z)
    have a2 := (l.at_ h2).resolve_left (fun z => nomatch z)
    exact S.one i j d e a1 a2
def setE (ρ : En) (i : Nat) (s : Sl) : En := ρ.set i s
theorem look_set_self {i : Nat} {v : V} (h : i < σ.length) : look (σ.set i (some v)) i = some v := by
  unfold look; rw [List.getElem?_set_self h]
theorem look_set_ne {i j : Nat} {x : Option V} (h : i ≠ j) : look (σ.set i x) j = look σ j := by
  unfold look; rw [List.getElem?_set_ne h]
theorem Sta.set (S : Sta T G0 H0 G H σ ρ) {i : Nat} {v : V} {s : Sl} (a : SlAt H0 G H (some v) s) (o : ∀ d, s = Sl.own d → ∀ (j : Nat) (e : D), ρ[j]? = some (Sl.own e) → j = i) : Sta T G0 H0 G H (σ.set i (some v)) (ρ.set i s) := by
  refine ⟨S.go, by simp [S.len], fun j s' h => ?_, fun j k d e h1 h2 => ?_⟩
  · by_cases q : i = j
    · subst q
      by_cases hi : i < ρ.length
      · rw [List.getElem?_set_self hi] at h
        cases h
        rw [look_set_self (by rw [S.len]; exact hi)]
        exact a
      · rw [List.getElem?_eq_none (by simpa using hi)] at h; cases h
    · rw [List.getElem?_set_ne q] at h
      rw [look_set_ne q]
      exact S.sl j s' h
  · by_cases q : i = j
    · subst q
      by_cases q2 : i = k
      · exact q2
      · rw [List.getElem?_set_ne q2] at h2
        have hi : i < ρ.length := by
          have := (List.getElem?_eq_some_iff.mp h1).1
          simpa using this
        rw [List.getElem?_set_self hi] at h1
        cases h1
        exact (o d rfl k e h2).symm
    · rw [List.getElem?_set_ne q] at h1
      by_cases q2 : i = k
      · subst q2
        have hi : i < ρ.length := by
          have := (List.getElem?_eq_some_iff.mp h2).1
          simpa using this
        rw [List.getElem?_set_self hi] at h2
        cases h2
        exact o e rfl j d h1
      · rw [List.getElem?_set_ne q2] at h2
        exact S.one j k d e h1 h2
end
end Pf
set_option Elab.async false
set_option linter.all false
set_option maxRecDepth 100000
set_option maxHeartbeats 4000000
namespace Pf
open PySem L2
/-! ### judgements over data -/
def EvP (T : Tb) (te : TE) (ρ : En) (P : D → Prop) : Prop := ∀ (G0 H0 G H : Hp) (σ : L2.St) (Q : VK), Sta T G0 H0 G H σ ρ → (∀ (v : V) (d : D) (G' H' : Hp), Go T G H G' H' → Rep G' v d → P d → Q v H') → te σ H Q
def Ev (T : Tb) (te : TE) (ρ : En) (d : D) : Prop := ∀ (G0 H0 G H : Hp) (σ : L2.St) (Q : VK), Sta T G0 H0 G H σ ρ → (∀ (v : V) (G' H' : Hp), Go T G H G' H' → Rep G' v d → Q v H') → te σ H Q
def EvA (T : Tb) (ta : TA) (ρ : En) (ds : List D) : Prop := ∀ (G0 H0 G H : Hp) (σ : L2.St) (Q : List V → Hp → Prop), Sta T G0 H0 G H σ ρ → (∀ (vs : List V) (G' H' : Hp), Go T G H G' H' → Reps G' vs ds → Q vs H') → ta σ H Q
def EvT (T : Tb) (tt : TT) (ρ : En) (b : Bool) : Prop := ∀ (G0 H0 G H : Hp) (σ : L2.St) (Q : Bool → Hp → Prop), Sta T G0 H0 G H σ ρ → (∀ (G' H' : Hp), Go T G H G' H' → Q b H') → tt σ H Q
/-- what is walked: the data ds -/
structure ItD (T : Tb) (J : It) (G : Hp) (ds : List D) : Prop where
  go : ∀ (G1 H : Hp) (i : Nat), Sub G G1 → Wf T G1 H → i < ds.length → J.go i H
  stop : ∀ (G1 H : Hp) (i : Nat), Sub G G1 → Wf T G1 H → ds.length ≤ i → J.stop i H
  yld : ∀ (G1 H : Hp) (i : Nat) (x : V) (H' : Hp) (d : D), Sub G G1 → Wf T G1 H → ds[i]? = some d → J.yld i H x H' → ∃ G', Go T G1 H G' H' ∧ Rep G' x d
def EvI (T : Tb) (wi : TI) (ρ : En) (ds : List D) : Prop := ∀ (G0 H0 G H : Hp) (σ : L2.St) (R : It → Hp → Prop), Sta T G0 H0 G H σ ρ → (∀ (J : It) (G' H' : Hp), Go T G H G' H' → ItD T J G' ds → R J H') → wi σ H R
/-- a target stored: the slots is alone turn -/
def EvG (T : Tb) (g : TG) (is : List Nat) (ρ : En) (d : D) (ρ' : En) : Prop := ∀ (G0 H0 G H : Hp) (σ : L2.St) (v : V) (Q : L2.St → Hp → Prop), Sta T G0 H0 G H σ ρ → Rep G v d →
  (∀ σ' : L2.St, Sta T G0 H0 G H σ' ρ' → σ'.length = σ.length → (∀ j, j ∉ is → σ'[j]? = σ[j]?) → Q σ' H) → g v σ H Q
def EvGs (T : Tb) (g : TGs) (is : List Nat) (ρ : En) (ds : List D) (ρ' : En) : Prop := ∀ (G0 H0 G H : Hp) (σ : L2.St) (vs : List V) (Q : L2.St → Hp → Prop), Sta T G0 H0 G H σ ρ → Reps G vs ds →
  (∀ σ' : L2.St, Sta T G0 H0 G H σ' ρ' → σ'.length = σ.length → (∀ j, j ∉ is → σ'[j]? = σ[j]?) → Q σ' H) → g vs σ H Q
/-- a statement: N of the slots behind it, R of what is handed back -/
def Sv (T : Tb) (ts : TS) (ρ : En) (N : En → Prop) (R : D → Prop) : Prop := ∀ (G0 H0 G H : Hp) (σ : L2.St) (E : Ends), Sta T G0 H0 G H σ ρ → (∀ (G' H' : Hp) (σ' : L2.St) (ρ' : En), Sub G G' → Sta T G0 H0 G' H' σ' ρ' → N ρ' → E.nx σ' H') →
  (∀ (v : V) (d : D) (G' H' : Hp), Go T G0 H0 G' H' → Rep G' v d → R d → E.rt v H') → ts E σ H
/-- a two-place operation on data, a one-place one, a call on data -/
def OpD (T : Tb) (r : R2) (x y z : D) : Prop := ∀ (G H : Hp) (a b : V) (Q : VK), Wf T G H → Rep G a x → Rep G b y → (∀ (v : V) (G' H' : Hp), Go T G H G' H' → Rep G' v z → Q v H') → r a b H Q
def UnD (T : Tb) (r : V → Hp → VK → Prop) (x z : D) : Prop := ∀ (G H : Hp) (a : V) (Q : VK), Wf T G H → Rep G a x → (∀ (v : V) (G' H' : Hp), Go T G H G' H' → Rep G' v z → Q v H') → r a H Q
def ClD (T : Tb) (r : List V → Hp → VK → Prop) (ds : List D) (z : D) : Prop := ∀ (G H : Hp) (vs : List V) (Q : VK), Wf T G H → Reps G vs ds → (∀ (v : V) (G' H' : Hp), Go T G H G' H' → Rep G' v z → Q v H') → r vs H Q
def ClP (T : Tb) (r : List V → Hp → VK → Prop) (ds : List D) (P : D → Prop) : Prop := ∀ (G H : Hp) (vs : List V) (Q : VK), Wf T G H → Reps G vs ds → (∀ (v : V) (d : D) (G' H' : Hp), Go T G H G' H' → Rep G' v d → P d → Q v H') → r vs H Q

section
variable {T : Tb} {K : PySem.W.Frag} {ρ ρ' : En} {ta tb te : TE} {tt tu : TT} {t tr : TA} {x y z d : D} {ds es : List D} {P : D → Prop}
theorem Sta.wf {G0 H0 G H : Hp} {σ : L2.St} (S : Sta T G0 H0 G H σ ρ) : Wf T G H := S.go.w
theorem Ev.p (h : Ev T te ρ d) (hp : P d) : EvP T te ρ P := fun G0 H0 G H σ Q S k => h G0 H0 G H σ Q S fun v G' H' g r => k v d G' H' g r hp
theorem ev_of (h : EvP T te ρ (· = d)) : Ev T te ρ d := fun G0 H0 G H σ Q S k => h G0 H0 G H σ Q S fun v d' G' H' g r e => by subst e; exact k v G' H' g r
theorem Ev.to {d' : D} (h : Ev T te ρ d) (e : d = d') : Ev T te ρ d' := e ▸ h
theorem EvP.imp {P' : D → Prop} (h : EvP T te ρ P) (hp : ∀ d, P d → P' d) : EvP T te ρ P' := fun G0 H0 G H σ Q S k => h G0 H0 G H σ Q S fun v d G' H' g r p => k v d G' H' g r (hp d p)

theorem ev_var {i : Nat} (h : ρ[i]? = some (.dat d)) : Ev T (tVar i) ρ d := fun G0 H0 G H σ Q S k => by
  obtain ⟨v, e, r⟩ := S.sl i _ h
  exact ⟨v, look_some e, k v G H S.wf.go r⟩
theorem ev_int {i : Int} : Ev T (tC (.int i)) ρ (.int i) := fun G0 H0 G H σ Q S k => k _ G H S.wf.go (.int i)
theorem ev_str {i : Str} : Ev T (tC (.str i)) ρ (.str i) := fun G0 H0 G H σ Q S k => k _ G H S.wf.go (.str i)
theorem ev_bl {i : Bool} : Ev T (tC (.bl i)) ρ (.bool i) := fun G0 H0 G H σ Q S k => k _ G H S.wf.go (.bl i)
theorem ev_non : Ev T (tC .non) ρ .none := fun G0 H0 G H σ Q S k => k _ G H S.wf.go .non
theorem ev_op {r : R2} (ha : Ev T ta ρ x) (hb : Ev T tb ρ y) (o : OpD T r x y z) : Ev T (tOp r ta tb) ρ z := fun G0 H0 G H σ Q S k =>
  ha G0 H0 G H σ _ S fun a G1 H1 g1 r1 => hb G0 H0 G1 H1 σ _ (S.next g1) fun b G2 H2 g2 r2 => o G2 H2 a b Q g2.w (r1.mono g2.g) r2 fun v G3 H3 g3 r3 => k v G3 H3 ((g1.trans g2).trans g3) r3
theorem ev_un {r : V → Hp → VK → Prop} (ha : Ev T ta ρ x) (o : UnD T r x z) : Ev T (tUn r ta) ρ z := fun G0 H0 G H σ Q S k =>
  ha G0 H0 G H σ _ S fun a G1 H1 g1 r1 => o G1 H1 a Q g1.w r1 fun v G3 H3 g3 r3 => k v G3 H3 (g1.trans g3) r3
theorem ea_nil : EvA T tNil ρ [] := fun G0 H0 G H σ Q S k => k [] G H S.wf.go .nil
theorem ea_cons (ha : Ev T ta ρ x) (hr : EvA T tr ρ ds) : EvA T (tCons ta tr) ρ (x :: ds) := fun G0 H0 G H σ Q S k =>
  ha G0 H0 G H σ _ S fun a G1 H1 g1 r1 => hr G0 H0 G1 H1 σ _ (S.next g1) fun vs G2 H2 g2 r2 => k _ G2 H2 (g1.trans g2) (.cons (r1.mono g2.g) r2)
theorem ev_cb {r : List V → Hp → VK → Prop} (ha : EvA T t ρ ds) (o : ClD T r ds z) : Ev T (tCB r t) ρ z := fun G0 H0 G H σ Q S k =>
  ha G0 H0 G H σ _ S fun vs G1 H1 g1 r1 => o G1 H1 vs Q g1.w r1 fun v G3 H3 g3 r3 => k v G3 H3 (g1.trans g3) r3
theorem ev_cbP {r : List V → Hp → VK → Prop} (ha : EvA T t ρ ds) (o : ClP T r ds P) : EvP T (tCB r t) ρ P := fun G0 H0 G H σ Q S k =>
  ha G0 H0 G H σ _ S fun vs G1 H1 g1 r1 => o G1 H1 vs Q g1.w r1 fun v d G3 H3 g3 r3 p => k v d G3 H3 (g1.trans g3) r3 p
theorem notT_tup {xs : List V} : NotT (.tup xs) := fun _ e => nomatch e
theorem notT_lst {xs : List V} : NotT (.lst xs) := fun _ e => nomatch e
theorem ev_tup (ha : EvA T t ρ ds) (hz : ds.length ≤ sizeLine) : Ev T (tTup t) ρ (.tuple ds) := fun G0 H0 G H σ Q S k =>
  ha G0 H0 G H σ _ S fun vs G1 H1 g1 r1 => ⟨by rw [r1.length]; exact hz, fun p hp => by
    have g2 := g1.w.new hp (notT_tup (xs := vs))
    exact k _ _ _ (g1.trans g2) (.tup upd_same (r1.mono g2.g))⟩
theorem ev_lst (ha : EvA T t ρ ds) (hz : ds.length ≤ sizeLine) : Ev T (tLst t) ρ (.list ds) := fun G0 H0 G H σ Q S k =>
  ha G0 H0 G H σ _ S fun vs G1 H1 g1 r1 => ⟨by rw [r1.length]; exact hz, fun p hp => by
    have g2 := g1.w.new hp (notT_lst (xs := vs))
    exact k _ _ _ (g1.trans g2) (.lst upd_same (r1.mono g2.g))⟩
/-! tests -/
theorem et_test {b : Bool} (h : Ev T te ρ (.bool b)) : EvT T (tTest te) ρ b := fun G0 H0 G H σ Q S k => h G0 H0 G H σ _ S fun v G1 H1 g r => by cases r; exact ⟨b, rfl, k G1 H1 g⟩
theorem et_B {b : Bool} (h : Ev T te ρ (.bool b)) : EvT T (tB te) ρ b := fun G0 H0 G H σ Q S k => h G0 H0 G H σ _ S fun v G1 H1 g r => by cases r; exact ⟨b, rfl, k G1 H1 g⟩
theorem et_not {b : Bool} (h : EvT T tt ρ b) : EvT T (tNot tt) ρ (!b) := fun G0 H0 G H σ Q S k => h G0 H0 G H σ _ S fun G1 H1 g => k G1 H1 g
theorem et_and {a b : Bool} (h : EvT T tt ρ a) (h2 : a = true → EvT T tu ρ b) : EvT T (tAnd tt tu) ρ (a && b) := fun G0 H0 G H σ Q S k => h G0 H0 G H σ _ S fun G1 H1 g => by
  cases a with
  | true =>
    show tu σ H1 Q
    exact h2 rfl G0 H0 G1 H1 σ Q (S.next g) fun G2 H2 g2 => k G2 H2 (g.trans g2)
  | false =>
    show Q false H1
    exact k G1 H1 g
theorem et_or {a b : Bool} (h : EvT T tt ρ a) (h2 : a = false → EvT T tu ρ b) : EvT T (tOr tt tu) ρ (a || b) := fun G0 H0 G H σ Q S k => h G0 H0 G H σ _ S fun G1 H1 g => by
  cases a with
  | true =>
    show Q true H1
    exact k G1 H1 g
  | false =>
    show tu σ H1 Q
    exact h2 rfl G0 H0 G1 H1 σ Q (S.next g) fun G2 H2 g2 => k G2 H2 (g.trans g2)
theorem et_to {a b : Bool} (h : EvT T tt ρ a) (e : a = b) : EvT T tt ρ b := e ▸ h
theorem ev_andV {a : Bool} (h : Ev T ta ρ (.bool a)) (h1 : a = true → Ev T tb ρ z) (h2 : a = false → z = .bool false) : Ev T (tAndV ta tb) ρ z := fun G0 H0 G H σ Q S k => h G0 H0 G H σ _ S fun v G1 H1 g r => by
  cases r
  refine ⟨a, rfl, ?_⟩
  cases a with
  | true =>
    show tb σ H1 Q
    exact h1 rfl G0 H0 G1 H1 σ Q (S.next g) fun v G2 H2 g2 r2 => k v G2 H2 (g.trans g2) r2
  | false =>
    show Q (.bl false) H1
    have e := h2 rfl
    subst e
    exact k _ G1 H1 g (.bl false)
theorem ev_and2 {a b : Bool} (h : Ev T ta ρ (.bool a)) (h1 : a = true → Ev T tb ρ (.bool b)) : Ev T (tAndV ta tb) ρ (.bool (a && b)) :=
  ev_andV h (fun e => by subst e; exact h1 rfl) (fun e => by subst e; rfl)
theorem ev_orV {a : Bool} (h : Ev T ta ρ (.bool a)) (h1 : a = false → Ev T tb ρ z) (h2 : a = true → z = .bool true) : Ev T (tOrV ta tb) ρ z := fun G0 H0 G H σ Q S k => h G0 H0 G H σ _ S fun v G1 H1 g r => by
  cases r
  refine ⟨a, rfl, ?_⟩
  cases a with
  | false =>
    show tb σ H1 Q
    exact h1 rfl G0 H0 G1 H1 σ Q (S.next g) fun v G2 H2 g2 r2 => k v G2 H2 (g.trans g2) r2
  | true =>
    show Q (.bl true) H1
    have e := h2 rfl
    subst e
    exact k _ G1 H1 g (.bl true)
theorem ev_notV {a : Bool} (h : Ev T ta ρ (.bool a)) : Ev T (tNotV ta) ρ (.bool (!a)) := fun G0 H0 G H σ Q S k => h G0 H0 G H σ _ S fun v G1 H1 g r => by
  cases r
  exact ⟨a, rfl, k _ G1 H1 g (.bl _)⟩
theorem ev_if {b : Bool} (h : EvT T tt ρ b) (h1 : b = true → Ev T ta ρ z) (h2 : b = false → Ev T tb ρ z) : Ev T (tIf tt ta tb) ρ z := fun G0 H0 G H σ Q S k => h G0 H0 G H σ _ S fun G1 H1 g => by
  cases b with
  | true =>
    show ta σ H1 Q
    exact h1 rfl G0 H0 G1 H1 σ Q (S.next g) fun v G2 H2 g2 r2 => k v G2 H2 (g.trans g2) r2
  | false =>
    show tb σ H1 Q
    exact h2 rfl G0 H0 G1 H1 σ Q (S.next g) fun v G2 H2 g2 r2 => k v G2 H2 (g.trans g2) r2
theorem ev_ifT (h : EvT T tt ρ true) (h1 : Ev T ta ρ z) : Ev T (tIf tt ta tb) ρ z := ev_if h (fun _ => h1) (fun e => nomatch e)
theorem ev_ifF (h : EvT T tt ρ false) (h1 : Ev T tb ρ z) : Ev T (tIf tt ta tb) ρ z := ev_if h (fun e => nomatch e) (fun _ => h1)
/-- an own object looked at, the answer no object -/
def scalD : D → Bool
  | .none => true
  | .bool _ => true
  | .int _ => true
  | .str _ => true
  | _ => false
theorem rep_scal {G G' : Hp} {v : V} {d : D} (r : Rep G v d) (s : scalD d = true) : Rep G' v d := by
  cases r with
  | non => exact .non
  | bl b => exact .bl b
  | int i => exact .int i
  | str x => exact .str x
  | _ => exact absurd (show false = true from s) Bool.false_ne_true
theorem Sta.froze {G0 H0 G H : Hp} {σ : L2.St} {i : Nat} (S : Sta T G0 H0 G H σ ρ) (h : ρ[i]? = some (.own d)) :
    ∃ Gp, Sub G Gp ∧ Go T G0 H0 Gp H ∧ Sta T Gp H Gp H σ (ρ.set i (.dat d)) ∧ Sta T G0 H0 Gp H σ (ρ.set i (.dat d)) := by
  obtain ⟨p, o, e, h0, hg, hh, r⟩ := S.sl i _ h
  have w := S.wf
  have sg : Sub G (upd G p o) := sub_new hg
  have sh : Sub (upd G p o) H := fun b u q => by
    by_cases z : b = p
    · subst z; rw [upd_same] at q; cases q; exact hh
    · rw [upd_ne z] at q; exact w.s b u q
  have wp : Wf T (upd G p o) H := ⟨sh, w.t, fun a ps q => by
    by_cases z : a = p
    · subst z; rw [upd_same] at q; cases q; exact r.plain.notT ps rfl
    · rw [upd_ne z] at q; exact w.nt a ps q⟩
  have hi : i < ρ.length := (List.getElem?_eq_some_iff.mp h).1
  have g0 : Go T G0 H0 (upd G p o) H := ⟨S.go.g.trans sg, S.go.h, wp, fun a q => by
    by_cases z : a = p
    · subst z; exact .inr (.inl h0)
    · rw [upd_ne z] at q; exact S.go.n a q⟩
  have sl : ∀ (H0' : Hp) (j : Nat) (s : Sl), (ρ.set i (.dat d))[j]? = some s → SlAt H0' (upd G p o) H (look σ j) s := fun H0' j s q => by
    by_cases z : i = j
    · subst z
      rw [List.getElem?_set_self hi] at q
      cases q
      exact ⟨_, e, (r.mono sg).rep upd_same⟩
    · rw [List.getElem?_set_ne z] at q
      have a := S.sl j s q
      cases s with
      | any => exact True.intro
      | dat d' => obtain ⟨v, e', r'⟩ := a; exact ⟨v, e', r'.mono sg⟩
      | own d' => exact absurd (S.one i j d d' h q) z
  have one : ∀ (j k : Nat) (d1 e1 : D), (ρ.set i (.dat d))[j]? = some (Sl.own d1) → (ρ.set i (.dat d))[k]? = some (Sl.own e1) → j = k := fun j k d1 e1 q1 q2 => by
    by_cases z : i = j
    · subst z; rw [List.getElem?_set_self hi] at q1; cases q1
    · rw [List.getElem?_set_ne z] at q1
      exact absurd (S.one i j d d1 h q1) z
  exact ⟨_, sg, g0, ⟨wp.go, by simp [S.len], sl H, one⟩, ⟨g0, by simp [S.len], sl H0, one⟩⟩
theorem ev_peek {i : Nat} (hi : ρ[i]? = some (.own d)) (h : Ev T te (ρ.set i (.dat d)) z) (s : scalD z = true) : Ev T te ρ z := fun G0 H0 G H σ Q S k => by
  obtain ⟨Gp, sg, g0, S', _⟩ := S.froze hi
  exact h _ _ _ _ σ Q S' fun v G' H' g r => k v G H' ⟨Sub.refl G, g.h, S.wf.grow g.h g.w.t, fun _ q => .inl q⟩ (rep_scal r s)
theorem et_peek {i : Nat} {b : Bool} (hi : ρ[i]? = some (.own d)) (h : EvT T tt (ρ.set i (.dat d)) b) : EvT T tt ρ b := fun G0 H0 G H σ Q S k => by
  obtain ⟨Gp, sg, g0, S', _⟩ := S.froze hi
  exact h _ _ _ _ σ Q S' fun G' H' g => k G H' ⟨Sub.refl G, g.h, S.wf.grow g.h g.w.t, fun _ q => .inl q⟩
end
end Pf
set_option Elab.async false
set_option linter.all false
set_option maxRecDepth 100000
set_option maxHeartbeats 4000000
namespace Pf
open PySem L2
section
variable {T : Tb} {K : PySem.W.Frag} {ρ ρ' ρ2 : En} {ta tb te : TE} {tt tu : TT} {t tr : TA} {x y z d : D} {ds es : List D} {P : D → Prop} {N N' : En → Prop} {R R' : D → Prop} {ts us : TS}
/-! ### targets -/
theorem eg_name {i : Nat} (h : i < ρ.length) : EvG T (gName i) [i] ρ d (ρ.set i (.dat d)) := fun G0 H0 G H σ v Q S r k => by
  refine k (σ.set i (some v)) (S.set ⟨v, rfl, r⟩ fun _ e => nomatch e) (by simp) fun j hj => ?_
  have : i ≠ j := fun e => hj (by simp [e])
  rw [List.getElem?_set_ne this]
theorem egs_nil : EvGs T gNil [] ρ [] ρ := fun G0 H0 G H σ vs Q S r k => by
  cases r
  exact ⟨rfl, k σ S rfl fun _ _ => rfl⟩
theorem egs_cons {g : TG} {gs : TGs} {is js : List Nat} (h : EvG T g is ρ d ρ') (hs : EvGs T gs js ρ' ds ρ2) : EvGs T (gCons g gs) (is ++ js) ρ (d :: ds) ρ2 := fun G0 H0 G H σ vs Q S r k => by
  cases r with
  | cons r1 r2 =>
    refine ⟨_, _, rfl, h G0 H0 G H σ _ _ S r1 fun σ1 S1 l1 e1 => hs G0 H0 G H σ1 _ _ S1 r2 fun σ2 S2 l2 e2 => k σ2 S2 (l2.trans l1) fun j hj => ?_⟩
    have h1 : j ∉ is := fun q => hj (List.mem_append_left _ q)
    have h2 : j ∉ js := fun q => hj (List.mem_append_right _ q)
    rw [e2 j h2, e1 j h1]
theorem eg_tup {gs : TGs} {is : List Nat} {n : Nat} (hs : EvGs T gs is ρ ds ρ') (hn : ds.length = n) : EvG T (gTup K n gs) is ρ (.tuple ds) ρ' := fun G0 H0 G H σ v Q S r k => by
  cases r with
  | tup h r1 =>
    refine ⟨_, _, rfl, SqT.of (S.wf.s _ _ h), by rw [r1.length]; exact hn, ?_⟩
    exact hs G0 H0 G H σ _ Q S r1 k

/-! ### walked things -/
theorem ei_list (h : Ev T te ρ (.list ds)) : EvI T (iList K te) ρ ds := fun G0 H0 G H σ Q S k => h G0 H0 G H σ _ S fun v G1 H1 g r => by
  cases r with
  | lst ha r =>
    rename_i a xs
    refine ⟨a, rfl, ⟨xs, SqL.of (g.w.s _ _ ha)⟩, k _ G1 H1 g ⟨fun G2 H2 i s w hi => ?_, fun G2 H2 i s w hi => ⟨xs, SqL.of (w.s _ _ (s _ _ ha)), by rw [r.length]; exact hi⟩, fun G2 H2 i x H3 d s w hd y => ?_⟩⟩
    · obtain ⟨v, e, _⟩ := r.get (List.getElem?_eq_getElem hi)
      exact ⟨xs, v, SqL.of (w.s _ _ (s _ _ ha)), e⟩
    · obtain ⟨rfl, y⟩ := y
      have e := y xs (SqL.of (w.s _ _ (s _ _ ha)))
      obtain ⟨v, e2, r2⟩ := r.get hd
      rw [e] at e2; cases e2
      exact ⟨G2, w.go, r2.mono s⟩
theorem ei_tup (h : Ev T te ρ (.tuple ds)) : EvI T (iTup K te) ρ ds := fun G0 H0 G H σ Q S k => h G0 H0 G H σ _ S fun v G1 H1 g r => by
  cases r with
  | tup ha r =>
    rename_i a xs
    refine ⟨a, rfl, ⟨xs, SqT.of (g.w.s _ _ ha)⟩, k _ G1 H1 g ⟨fun G2 H2 i s w hi => ?_, fun G2 H2 i s w hi => ⟨xs, SqT.of (w.s _ _ (s _ _ ha)), by rw [r.length]; exact hi⟩, fun G2 H2 i x H3 d s w hd y => ?_⟩⟩
    · obtain ⟨v, e, _⟩ := r.get (List.getElem?_eq_getElem hi)
      exact ⟨xs, v, SqT.of (w.s _ _ (s _ _ ha)), e⟩
    · obtain ⟨rfl, y⟩ := y
      have e := y xs (SqT.of (w.s _ _ (s _ _ ha)))
      obtain ⟨v, e2, r2⟩ := r.get hd
      rw [e] at e2; cases e2
      exact ⟨G2, w.go, r2.mono s⟩
def rngD (lo : Int) (n : Nat) : List D := (List.range n).map fun (i : Nat) => PyData.int (lo + (i : Int))
theorem rngD_len (lo : Int) (n : Nat) : (rngD lo n).length = n := by unfold rngD; simp
theorem rngD_get {lo : Int} {n i : Nat} {d : D} (h : (rngD lo n)[i]? = some d) : i < n ∧ d = .int (lo + (i : Int)) := by
  unfold rngD at h
  rw [List.getElem?_map] at h
  by_cases hi : i < n
  · rw [List.getElem?_range hi] at h; cases h; exact ⟨hi, rfl⟩
  · rw [List.getElem?_eq_none (by simpa using hi)] at h; cases h
theorem it_rng (G : Hp) (lo : Int) (n : Nat) : ItD T (Itr lo n) G (rngD lo n) :=
  ⟨fun _ _ i _ _ hi => by rw [rngD_len] at hi; exact hi, fun _ _ i _ _ hi => by rw [rngD_len] at hi; exact hi, fun G1 H1 i x H' d _ w hd y => by
    obtain ⟨rfl, rfl⟩ := y
    obtain ⟨_, rfl⟩ := rngD_get hd
    exact ⟨G1, w.go, .int _⟩⟩
theorem ei_rng1 {j : Int} (h : EvA T t ρ [.int j]) (h1 : -(2 ^ 62) ≤ j) (h2 : j < 2 ^ 62) : EvI T (iRng1 t) ρ (rngD 0 j.toNat) := fun G0 H0 G H σ Q S k => h G0 H0 G H σ _ S fun vs G1 H1 g r => by
  cases r with
  | cons a b =>
    cases a; cases b
    exact ⟨j, rfl, h1, h2, k _ G1 H1 g (it_rng G1 0 _)⟩
theorem ei_rng2 {i j : Int} (h : EvA T t ρ [.int i, .int j]) (h1 : -(2 ^ 62) ≤ i ∧ i < 2 ^ 62 ∧ -(2 ^ 62) ≤ j ∧ j < 2 ^ 62) : EvI T (iRng2 t) ρ (rngD i (j - i).toNat) := fun G0 H0 G H σ Q S k => h G0 H0 G H σ _ S fun vs G1 H1 g r => by
  cases r with
  | cons a b =>
    cases a
    cases b with
    | cons a b => cases a; cases b; exact ⟨i, j, rfl, h1, k _ G1 H1 g (it_rng G1 i _)⟩

/-! ### statements -/
theorem Sv.imp (h : Sv T ts ρ N R) (hn : ∀ ρ, N ρ → N' ρ) (hr : ∀ d, R d → R' d) : Sv T ts ρ N' R' := fun G0 H0 G H σ E S kn kr =>
  h G0 H0 G H σ E S (fun G' H' σ' ρ' s' S' n => kn G' H' σ' ρ' s' S' (hn _ n)) (fun v d G' H' g r q => kr v d G' H' g r (hr _ q))
theorem Sv.le (h : Sv T ts ρ' N R) (l : Le ρ ρ') : Sv T ts ρ N R := fun G0 H0 G H σ E S kn kr => h G0 H0 G H σ E (S.le l) kn kr
theorem sv_next (h : N ρ) : Sv T tNext ρ N R := fun G0 H0 G H σ E S kn kr => kn G H σ ρ (Sub.refl G) S h
theorem sv_seq (h : Sv T ts ρ (fun ρ' => Sv T us ρ' N R) R) : Sv T (tSeq ts us) ρ N R := fun G0 H0 G H σ E S kn kr =>
  h G0 H0 G H σ { E with nx := us E } S (fun G' H' σ' ρ' s' S' n => n G0 H0 G' H' σ' E S' (fun G2 H2 σ2 ρ2 s2 S2 n2 => kn G2 H2 σ2 ρ2 (s'.trans s2) S2 n2) kr) kr
theorem sv_asgP {i : Nat} (hi : i < ρ.length) (h : EvP T te ρ P) (k : ∀ d, P d → N (ρ.set i (.dat d))) : Sv T (tAsg te (gName i)) ρ N R := fun G0 H0 G H σ E S kn kr =>
  h G0 H0 G H σ _ S fun v d G1 H1 g r p => kn G1 H1 _ _ g.g ((S.next g).set (i := i) (v := v) (s := .dat d) ⟨v, rfl, r⟩ fun _ e => nomatch e) (k d p)
theorem sv_asg {i : Nat} (hi : i < ρ.length) (h : Ev T te ρ d) (k : N (ρ.set i (.dat d))) : Sv T (tAsg te (gName i)) ρ N R := sv_asgP (P := (· = d)) hi (h.p rfl) fun _ e => by subst e; exact k
theorem sv_asgG {g : TG} {is : List Nat} (h : Ev T te ρ d) (hg : EvG T g is ρ d ρ') (k : N ρ') : Sv T (tAsg te g) ρ N R := fun G0 H0 G H σ E S kn kr =>
  h G0 H0 G H σ _ S fun v G1 H1 g1 r => hg G0 H0 G1 H1 σ v _ (S.next g1) r fun σ' S' _ _ => kn G1 H1 σ' ρ' g1.g S' k
theorem sv_retP (h : EvP T te ρ R) : Sv T (tRet te) ρ N R := fun G0 H0 G H σ E S kn kr => h G0 H0 G H σ _ S fun v d G1 H1 g r p => kr v d G1 H1 (S.go.trans g) r p
theorem sv_ret (h : Ev T te ρ d) (k : R d) : Sv T (tRet te) ρ N R := sv_retP (h.p k)
theorem sv_if {b : Bool} (h : EvT T tt ρ b) (h1 : b = true → Sv T ts ρ N R) (h2 : b = false → Sv T us ρ N R) : Sv T (tIfS tt ts us) ρ N R := fun G0 H0 G H σ E S kn kr => h G0 H0 G H σ _ S fun G1 H1 g => by
  cases b with
  | true =>
    show ts E σ H1
    exact h1 rfl G0 H0 G1 H1 σ E (S.next g) (fun G2 H2 σ2 ρ2 s2 S2 n2 => kn G2 H2 σ2 ρ2 (g.g.trans s2) S2 n2) kr
  | false =>
    show us E σ H1
    exact h2 rfl G0 H0 G1 H1 σ E (S.next g) (fun G2 H2 σ2 ρ2 s2 S2 n2 => kn G2 H2 σ2 ρ2 (g.g.trans s2) S2 n2) kr
theorem sv_ifF (h : EvT T tt ρ false) (h2 : Sv T us ρ N R) : Sv T (tIfS tt ts us) ρ N R := sv_if h (fun e => nomatch e) fun _ => h2
theorem sv_ifT (h : EvT T tt ρ true) (h2 : Sv T ts ρ N R) : Sv T (tIfS tt ts us) ρ N R := sv_if h (fun _ => h2) (fun e => nomatch e)
theorem sv_drop (h : Ev T te ρ d) (k : N ρ) : Sv T (tDrop te) ρ N R := fun G0 H0 G H σ E S kn kr => h G0 H0 G H σ _ S fun v G1 H1 g r => kn G1 H1 σ ρ g.g (S.next g) k
/-- what is own is from here on a datum -/
theorem sv_froze {i : Nat} (hi : ρ[i]? = some (.own d)) (h : Sv T ts (ρ.set i (.dat d)) N R) : Sv T ts ρ N R := fun G0 H0 G H σ E S kn kr => by
  obtain ⟨Gp, sg, g0, _, S'⟩ := S.froze hi
  exact h G0 H0 Gp H σ E S' (fun G2 H2 σ2 ρ2 s2 S2 n2 => kn G2 H2 σ2 ρ2 (sg.trans s2) S2 n2) kr
def noOwn (ρ : En) : Bool := ρ.all fun s => match s with
  | .own _ => false
  | _ => true
theorem noOwn_at {ρ : En} (h : noOwn ρ = true) {j : Nat} {e : D} (q : ρ[j]? = some (Sl.own e)) : False := by
  have := List.all_eq_true.mp h _ (List.mem_of_getElem? q)
  exact nomatch this
/-- a new object of one's own -/
theorem Sta.mine {G0 H0 G H : Hp} {σ : L2.St} {i : Nat} {p : Addr} {o : HO} (S : Sta T G0 H0 G H σ ρ) (hp : H p = none) (n : ∀ (j : Nat) (e : D), ρ[j]? = some (Sl.own e) → j = i) (r : OwnAt G o d) : Sta T G0 H0 G (upd H p o) (σ.set i (some (.ref p))) (ρ.set i (.own d)) := by
  have g := S.wf.hid (o := o) hp
  refine (S.next g).set ⟨p, o, rfl, S.go.h.free hp, S.wf.s.free hp, upd_same, r⟩ fun d' e => ?_
  exact n
theorem sv_newL {i : Nat} (n : ∀ (j : Nat) (e : D), ρ[j]? = some (Sl.own e) → j = i) (h : EvA T t ρ ds) (hz : ds.length ≤ sizeLine) (k : N (ρ.set i (.own (.list ds)))) : Sv T (tAsg (tLst t) (gName i)) ρ N R := fun G0 H0 G H σ E S kn kr =>
  h G0 H0 G H σ _ S fun vs G1 H1 g r => ⟨by rw [r.length]; exact hz, fun p hp => kn _ _ _ _ g.g ((S.next g).mine (o := .lst vs) (d := .list ds) hp n r) k⟩
theorem sv_newK {i : Nat} (n : ∀ (j : Nat) (e : D), ρ[j]? = some (Sl.own e) → j = i) (k : N (ρ.set i (.own (.dict [])))) : Sv T (tAsg tDNewK (gName i)) ρ N R := fun G0 H0 G H σ E S kn kr p hp =>
  kn _ _ _ _ (Sub.refl G) (S.mine (o := .dK []) (d := .dict []) hp n (show RepK G [] [] from .nil)) k
theorem sv_newT {i : Nat} (n : ∀ (j : Nat) (e : D), ρ[j]? = some (Sl.own e) → j = i) (k : N (ρ.set i (.own (.dict [(.none, .none)])))) : Sv T (tAsg tDNewT (gName i)) ρ N R := fun G0 H0 G H σ E S kn kr p hp =>
  kn _ _ _ _ (Sub.refl G) (S.mine (o := .dT []) (d := .dict [(.none, .none)]) hp n (show RepT G [] [] from .nil)) k
/-- an own object is changed -/
theorem Sta.put {G0 H0 G H : Hp} {σ : L2.St} {i : Nat} {d' : D} {o' : HO} {p : Addr} (S : Sta T G0 H0 G H σ ρ) (hi : ρ[i]? = some (.own d)) (e : look σ i = some (.ref p)) (r : OwnAt G o' d') : Sta T G0 H0 G (upd H p o') σ (ρ.set i (.own d')) := by
  obtain ⟨p', o, e', h0, hg, hh, ro⟩ := S.sl i _ hi
  rw [e] at e'; cases e'
  have w := S.wf
  have ln : i < ρ.length := (List.getElem?_eq_some_iff.mp hi).1
  have gr : Grow H0 (upd H p o') := fun a u q => by
    have z : a ≠ p := fun z => by subst z; rw [h0] at q; cases q
    rw [upd_ne z]
    exact S.go.h a u q
  have wf' : Wf T G (upd H p o') := ⟨fun a u q => by
    have z : a ≠ p := fun z => by subst z; rw [hg] at q; cases q
    rw [upd_ne z]; exact w.s a u q, tabs_set w.t hh ro.plain, w.nt⟩
  refine ⟨⟨S.go.g, gr, wf', S.go.n⟩, by simp [S.len], fun j s q => ?_, fun j k d1 e1 q1 q2 => ?_⟩
  · by_cases z : i = j
    · subst z
      rw [List.getElem?_set_self ln] at q
      cases q
      exact ⟨p, o', e, h0, hg, upd_same, r⟩
    · rw [List.getElem?_set_ne z] at q
      have a := S.sl j s q
      cases s with
      | any => exact True.intro
      | dat d2 => exact a
      | own d2 => exact absurd (S.one i j d d2 hi q) z
  · by_cases z : i = j
    · subst z
      by_cases z2 : i = k
      · exact z2
      · rw [List.getElem?_set_ne z2] at q2
        exact S.one i k d e1 hi q2
    · rw [List.getElem?_set_ne z] at q1
      exact absurd (S.one i j d d1 hi q1) z
theorem Sta.ownL {G0 H0 G H : Hp} {σ : L2.St} {i : Nat} (S : Sta T G0 H0 G H σ ρ) (hi : ρ[i]? = some (.own (.list ds))) : ∃ p xs, look σ i = some (.ref p) ∧ H p = some (.lst xs) ∧ Reps G xs ds := by
  obtain ⟨p, o, e, h0, hg, hh, ro⟩ := S.sl i _ hi
  rcases ro.cases with ⟨xs, es, rfl, q, r⟩ | ⟨_, _, _, q, _⟩ | ⟨_, _, _, q, _⟩
  · cases q; exact ⟨p, _, e, hh, r⟩
  · cases q
  · cases q
theorem sv_append {i : Nat} (hi : ρ[i]? = some (.own (.list ds))) (h : Ev T te ρ d) (hz : ds.length < sizeLine) (k : N (ρ.set i (.own (.list (ds ++ [d]))))) :
    Sv T (tDrop (tBM K "list" rAppend (tVar i) (tCons te tNil))) ρ N R := fun G0 H0 G H σ E S kn kr => by
  obtain ⟨p, xs, e, hh, r⟩ := S.ownL hi
  refine ⟨_, look_some e, .inl ⟨rfl, _, SqL.of hh⟩, h G0 H0 G H σ _ S fun v G1 H1 g r1 => ?_⟩
  have S1 := S.next g
  obtain ⟨p', xs', e', hh', r'⟩ := S1.ownL hi
  rw [e] at e'; cases e'
  exact ⟨p, xs', v, rfl, rfl, hh', by rw [r'.length]; exact hz, kn _ _ _ _ g.g (S1.put (o' := .lst (xs' ++ [v])) (d' := .list (ds ++ [d])) hi e (r'.snoc r1)) k⟩
theorem sv_extend {i : Nat} (hi : ρ[i]? = some (.own (.list ds))) (h : Ev T te ρ (.list es)) (hz : ds.length + es.length ≤ sizeLine) (k : N (ρ.set i (.own (.list (ds ++ es))))) :
    Sv T (tDrop (tBM K "list" rExtend (tVar i) (tCons te tNil))) ρ N R := fun G0 H0 G H σ E S kn kr => by
  obtain ⟨p, xs, e, hh, r⟩ := S.ownL hi
  refine ⟨_, look_some e, .inl ⟨rfl, _, SqL.of hh⟩, h G0 H0 G H σ _ S fun v G1 H1 g r1 => ?_⟩
  have S1 := S.next g
  obtain ⟨p', xs', e', hh', r'⟩ := S1.ownL hi
  rw [e] at e'; cases e'
  cases r1 with
  | lst hb rb => exact ⟨p, _, xs', _, rfl, rfl, hh', g.w.s _ _ hb, by rw [r'.length, rb.length]; exact hz, kn _ _ _ _ g.g (S1.put (o' := .lst (xs' ++ _)) (d' := .list (ds ++ es)) hi e (r'.append rb)) k⟩
/-- a loop over data -/
theorem sv_for {α : Type} {wi : TI} {g : TG} {is : List Nat} (xs : List α) (enc : α → D) (Rn : Nat → En) (h : EvI T wi ρ (xs.map enc)) (h0 : Le ρ (Rn 0))
    (hs : ∀ (i : Nat) (x : α), xs[i]? = some x → ∃ ρ', EvG T g is (Rn i) (enc x) ρ' ∧ Sv T ts ρ' (fun ρ3 => Le ρ3 (Rn (i + 1))) R) (hd : N (Rn xs.length)) : Sv T (tFor wi g ts) ρ N R := fun G0 H0 G H σ E S kn kr =>
  h G0 H0 G H σ _ S fun J G1 H1 g1 it => by
    have hl : (xs.map enc).length = xs.length := List.length_map _
    refine ⟨fun i m σ' H' => m = xs.length - i ∧ i ≤ xs.length ∧ ∃ Gi, Sub G1 Gi ∧ Sta T G0 H0 Gi H' σ' (Rn i), ⟨xs.length, by simp, Nat.zero_le _, G1, Sub.refl _, (S.next g1).le h0⟩, ?_⟩
    rintro i m σ' H' ⟨rfl, hi, Gi, sg, Si⟩
    by_cases hlt : i < xs.length
    · refine .inr ⟨it.go Gi H' i sg Si.wf (by omega), fun σ2 H2 => ∃ Gi, Sub G1 Gi ∧ Sta T G0 H0 Gi H2 σ2 (Rn (i + 1)), fun σ2 H2 p => ⟨xs.length - (i + 1), by omega, rfl, by omega, p⟩, fun x H2 y => ?_⟩
      have e : (xs.map enc)[i]? = some (enc xs[i]) := by rw [List.getElem?_map, List.getElem?_eq_getElem hlt]; rfl
      obtain ⟨G2, g2, r2⟩ := it.yld Gi H' i x H2 _ sg Si.wf e y
      obtain ⟨ρ', hg, hb⟩ := hs i xs[i] (List.getElem?_eq_getElem hlt)
      refine hg G0 H0 G2 H2 σ' x _ (Si.next g2) r2 fun σ3 S3 _ _ => ?_
      exact hb G0 H0 G2 H2 σ3 _ S3 (fun G4 H4 σ4 ρ4 s4 S4 l4 => ⟨G4, (sg.trans g2.g).trans s4, S4.le l4⟩) kr
    · have e : i = xs.length := by omega
      subst e
      exact .inl ⟨it.stop Gi H' _ sg Si.wf (by omega), kn Gi H' σ' _ (g1.g.trans sg) Si hd⟩
end
end Pf
set_option Elab.async false
set_option linter.all false
set_option maxRecDepth 100000
set_option maxHeartbeats 4000000
namespace Pf
open PySem L2
section
variable {T : Tb} {K : PySem.W.Frag} {ρ ρ' ρ2 : En} {ta tb te td ty tx : TE} {tt tu : TT} {t tr : TA} {x y z d : D} {ds es : List D} {P : D → Prop} {N N' : En → Prop} {R R' : D → Prop} {ts us : TS}
/-! ### comprehensions -/
def wipeE (ρ : En) : List Nat → En
  | [] => ρ
  | v :: vs => (wipeE ρ vs).set v .any
theorem Sta.unset {G0 H0 G H : Hp} {σ : L2.St} (S : Sta T G0 H0 G H σ ρ) (i : Nat) : Sta T G0 H0 G H (σ.set i none) (ρ.set i .any) := by
  refine ⟨S.go, by simp [S.len], fun j s q => ?_, fun j k d1 e1 q1 q2 => ?_⟩
  · by_cases z : i = j
    · subst z
      by_cases hi : i < ρ.length
      · rw [List.getElem?_set_self hi] at q; cases q; exact True.intro
      · rw [List.getElem?_eq_none (by simpa using hi)] at q; cases q
    · rw [List.getElem?_set_ne z] at q
      rw [look_set_ne z]
      exact S.sl j s q
  · have f : ∀ (j : Nat) (d1 : D), (ρ.set i .any)[j]? = some (Sl.own d1) → ρ[j]? = some (Sl.own d1) := fun j d1 q1 => by
      by_cases z : i = j
      · subst z
        by_cases hi : i < ρ.length
        · rw [List.getElem?_set_self hi] at q1; cases q1
        · rw [List.getElem?_eq_none (by simpa using hi)] at q1; cases q1
      · rwa [List.getElem?_set_ne z] at q1
    exact S.one j k d1 e1 (f j d1 q1) (f k e1 q2)
theorem Sta.wipe {G0 H0 G H : Hp} {σ : L2.St} (S : Sta T G0 H0 G H σ ρ) : ∀ vs : List Nat, Sta T G0 H0 G H (L2.wipe σ vs) (wipeE ρ vs)
  | [] => S
  | v :: vs => (Sta.wipe S vs).unset v
theorem wipe_get {σ : L2.St} : ∀ (vs : List Nat) (j : Nat), (L2.wipe σ vs)[j]? = if j ∈ vs then (if j < σ.length then some none else none) else σ[j]?
  | [], j => by simp [L2.wipe]
  | v :: vs, j => by
    unfold L2.wipe
    by_cases z : v = j
    · subst z
      by_cases hi : v < σ.length
      · rw [List.getElem?_set_self (by rw [wipe_length]; exact hi)]; simp [hi]
      · rw [List.getElem?_eq_none (by simp [wipe_length]; omega)]; simp [hi]
    · rw [List.getElem?_set_ne z, wipe_get vs j]
      have : j ∈ v :: vs ↔ j ∈ vs := by simp [Ne.symm z]
      simp only [this]
theorem wipe_eq {σ σ' : L2.St} {vs is : List Nat} (hl : σ'.length = (L2.wipe σ vs).length) (he : ∀ j, j ∉ is → σ'[j]? = (L2.wipe σ vs)[j]?) (hw : ∀ i ∈ is, i ∈ vs) : L2.wipe σ' vs = L2.wipe σ vs := by
  refine List.ext_getElem? fun j => ?_
  rw [wipe_length] at hl
  rw [wipe_get, wipe_get]
  by_cases z : j ∈ vs
  · rw [if_pos z, if_pos z, hl]
  · rw [if_neg z, if_neg z]
    have := he j (fun q => z (hw j q))
    rw [this, wipe_get, if_neg z]
theorem take_filterMap_succ {α β : Type} {f : α → Option β} {xs : List α} {i : Nat} {x : α} (h : xs[i]? = some x) : (xs.take (i + 1)).filterMap f = (xs.take i).filterMap f ++ (f x).toList := by
  rw [List.take_add_one, h, List.filterMap_append]
  simp [List.filterMap_cons]
  cases f x <;> rfl
theorem lc_core {α : Type} {wi : TI} {g : TG} {is vs : List Nat} (xs : List α) (enc : α → D) (out : α → Option D) (hw : ∀ i ∈ is, i ∈ vs) (h : EvI T wi ρ (xs.map enc)) (hz : xs.length ≤ sizeLine)
    (hs : ∀ x ∈ xs, ∃ ρ' b, EvG T g is (wipeE ρ vs) (enc x) ρ' ∧ EvT T tt ρ' b ∧ (b = true → ∃ e, Ev T te ρ' e ∧ out x = some e) ∧ (b = false → out x = none)) {G0 H0 G H : Hp} {σ : L2.St} {Q : VK} (S : Sta T G0 H0 G H σ ρ)
    (k : ∀ (Dl : Addr) (Gi H' : Hp) (acc : List V), Go T G H Gi H' → H Dl = none → H' Dl = some (.lst acc) → Gi Dl = none → Reps Gi acc (xs.filterMap out) → Q (.ref Dl) H') : tLc wi g tt te vs σ H Q :=
  h G0 H0 G H σ _ S fun J G1 H1 g1 it Dl hD => by
    have hl : (xs.map enc).length = xs.length := List.length_map _
    have S1 := S.next g1
    refine ⟨fun i m H' => m = xs.length - i ∧ i ≤ xs.length ∧ ∃ Gi acc, Go T G1 H1 Gi H' ∧ H' Dl = some (.lst acc) ∧ Gi Dl = none ∧ Reps Gi acc ((xs.take i).filterMap out), ⟨xs.length, by simp, Nat.zero_le _, G1, [], g1.w.hid hD, upd_same, g1.w.s.free hD, by simpa using Reps.nil⟩, ?_⟩
    rintro i m H' ⟨rfl, hi, Gi, acc, gi, hH, hG, ra⟩
    by_cases hlt : i < xs.length
    · refine .inr ⟨it.go Gi H' i gi.g gi.w (by omega), fun H2 => ∃ Gi acc, Go T G1 H1 Gi H2 ∧ H2 Dl = some (.lst acc) ∧ Gi Dl = none ∧ Reps Gi acc ((xs.take (i + 1)).filterMap out), fun H2 p => ⟨xs.length - (i + 1), by omega, rfl, by omega, p⟩, fun x H2 y => ?_⟩
      have ex : xs[i]? = some xs[i] := List.getElem?_eq_getElem hlt
      have e : (xs.map enc)[i]? = some (enc xs[i]) := by rw [List.getElem?_map, ex]; rfl
      obtain ⟨G2, g2, r2⟩ := it.yld Gi H' i x H2 _ gi.g gi.w e y
      obtain ⟨ρ', b, hg, ht, hb1, hb2⟩ := hs xs[i] (List.getElem_mem _)
      have S2 : Sta T G0 H0 G2 H2 (L2.wipe σ vs) (wipeE ρ vs) := (S1.next (gi.trans g2)).wipe vs
      refine hg G0 H0 G2 H2 _ x _ S2 r2 fun σ3 S3 l3 e3 => ⟨wipe_eq l3 e3 hw, ht G0 H0 G2 H2 σ3 _ S3 fun G3 H3 g3 => ?_⟩
      have free : ∀ {Ga Ha : Hp}, Go T Gi H' Ga Ha → Ga Dl = none := fun {Ga Ha} ga => by
        cases q : Ga Dl with
        | none => rfl
        | some u =>
          rcases ga.n Dl (by rw [q]; simp) with z | z
          · exact absurd hG z
          · rcases z with z | ⟨xs, z⟩ <;> (rw [hH] at z; cases z)
      have at3 := g2.trans g3
      cases b with
      | true =>
        show te σ3 H3 _
        obtain ⟨e', he, ho⟩ := hb1 rfl
        refine he G0 H0 G3 H3 σ3 _ (S3.next g3) fun v G4 H4 g4 r4 => ?_
        have at4 := at3.trans g4
        have hH4 : H4 Dl = some (.lst acc) := at4.h.at_ hH notT_lst
        have hG4 := free at4
        refine ⟨acc, hH4, ?_, G4, acc ++ [v], ⟨(gi.trans at4).g, fun a o q => ?_, ⟨fun a o q => ?_, tabs_set at4.w.t hH4 True.intro, at4.w.nt⟩, (gi.trans at4).n⟩, upd_same, hG4, ?_⟩
        · rw [ra.length]
          refine Nat.lt_of_le_of_lt (List.length_filterMap_le _ _) ?_
          rw [List.length_take]
          omega
        · have z : a ≠ Dl := fun z => by subst z; rw [hD] at q; cases q
          rw [upd_ne z]
          exact (gi.trans at4).h a o q
        · have z : a ≠ Dl := fun z => by subst z; rw [hG4] at q; cases q
          rw [upd_ne z]
          exact at4.w.s a o q
        · rw [take_filterMap_succ ex, ho]
          exact (ra.mono at4.g).append (.cons r4 .nil)
      | false =>
        refine ⟨G3, acc, gi.trans at3, at3.h.at_ hH notT_lst, free at3, ?_⟩
        rw [take_filterMap_succ ex, hb2 rfl]
        simpa using ra.mono at3.g
    · have e : i = xs.length := by omega
      subst e
      rw [List.take_length] at ra
      refine .inl ⟨it.stop Gi H' _ gi.g gi.w (by omega), ?_⟩
      exact k Dl Gi H' acc (g1.trans gi) (g1.h.free hD) hH hG ra
theorem Go.take' {G1 H1 G H : Hp} {Dl : Addr} {o : HO} (g : Go T G1 H1 G H) (hD : H1 Dl = none) (hH : H Dl = some o) (hG : G Dl = none) (n : NotT o) : Go T G1 H1 (upd G Dl o) H := by
  refine ⟨g.g.trans (sub_new hG), g.h, ⟨fun a u q => ?_, g.w.t, fun a ps q => ?_⟩, fun a q => ?_⟩
  · by_cases z : a = Dl
    · subst z; rw [upd_same] at q; cases q; exact hH
    · rw [upd_ne z] at q; exact g.w.s a u q
  · by_cases z : a = Dl
    · subst z; rw [upd_same] at q; cases q; exact n ps rfl
    · rw [upd_ne z] at q; exact g.w.nt a ps q
  · by_cases z : a = Dl
    · subst z; exact .inr (.inl hD)
    · rw [upd_ne z] at q; exact g.n a q
theorem ev_lc {α : Type} {wi : TI} {g : TG} {is vs : List Nat} (xs : List α) (enc : α → D) (out : α → Option D) (hw : ∀ i ∈ is, i ∈ vs) (h : EvI T wi ρ (xs.map enc)) (hz : xs.length ≤ sizeLine)
    (hs : ∀ x ∈ xs, ∃ ρ' b, EvG T g is (wipeE ρ vs) (enc x) ρ' ∧ EvT T tt ρ' b ∧ (b = true → ∃ e, Ev T te ρ' e ∧ out x = some e) ∧ (b = false → out x = none)) : Ev T (tLc wi g tt te vs) ρ (.list (xs.filterMap out)) := fun G0 H0 G H σ Q S k =>
  lc_core xs enc out hw h hz hs S fun Dl Gi H' acc gi hD hH hG ra => k (.ref Dl) (upd Gi Dl (.lst acc)) H' (gi.take' hD hH hG notT_lst) (.lst upd_same (ra.mono (sub_new hG)))
/-- the new list one's own -/
theorem sv_lcO {α : Type} {wi : TI} {g : TG} {is vs : List Nat} {i : Nat} (xs : List α) (enc : α → D) (out : α → Option D) (hw : ∀ i ∈ is, i ∈ vs) (h : EvI T wi ρ (xs.map enc)) (hz : xs.length ≤ sizeLine)
    (hs : ∀ x ∈ xs, ∃ ρ' b, EvG T g is (wipeE ρ vs) (enc x) ρ' ∧ EvT T tt ρ' b ∧ (b = true → ∃ e, Ev T te ρ' e ∧ out x = some e) ∧ (b = false → out x = none)) (n : ∀ (j : Nat) (e : D), ρ[j]? = some (Sl.own e) → j = i) (k : N (ρ.set i (.own (.list (xs.filterMap out))))) :
    Sv T (tAsg (tLc wi g tt te vs) (gName i)) ρ N R := fun G0 H0 G H σ E S kn kr =>
  lc_core xs enc out hw h hz hs S fun Dl Gi H' acc gi hD hH hG ra => by
    refine kn Gi H' _ _ gi.g ((S.next gi).set (i := i) (v := .ref Dl) (s := .own (.list (xs.filterMap out))) ⟨Dl, _, rfl, S.go.h.free hD, hG, hH, ra⟩ fun d e j x q => ?_) k
    exact n j x q
theorem et_yes : EvT T tYes ρ true := fun G0 H0 G H σ Q S k => k G H S.wf.go
theorem ev_lcM {α : Type} {wi : TI} {g : TG} {is vs : List Nat} (xs : List α) (enc : α → D) (out : α → D) (hw : ∀ i ∈ is, i ∈ vs) (h : EvI T wi ρ (xs.map enc)) (hz : xs.length ≤ sizeLine)
    (hs : ∀ x ∈ xs, ∃ ρ', EvG T g is (wipeE ρ vs) (enc x) ρ' ∧ Ev T te ρ' (out x)) : Ev T (tLc wi g tYes te vs) ρ (.list (xs.map out)) :=
  (ev_lc xs enc (fun x => some (out x)) hw h hz fun x hx => by
    obtain ⟨ρ', h1, h2⟩ := hs x hx
    exact ⟨ρ', true, h1, et_yes, fun _ => ⟨_, h2, rfl⟩, fun e => nomatch e⟩).to (by simp [List.filterMap_eq_map'])
theorem ev_lcF {α : Type} {wi : TI} {g : TG} {is vs : List Nat} (xs : List α) (enc : α → D) (p : α → Bool) (out : α → D) (hw : ∀ i ∈ is, i ∈ vs) (h : EvI T wi ρ (xs.map enc)) (hz : xs.length ≤ sizeLine)
    (hs : ∀ x ∈ xs, ∃ ρ', EvG T g is (wipeE ρ vs) (enc x) ρ' ∧ EvT T tt ρ' (p x) ∧ (p x = true → Ev T te ρ' (out x))) : Ev T (tLc wi g tt te vs) ρ (.list ((xs.filter p).map out)) :=
  (ev_lc xs enc (fun x => if p x = true then some (out x) else none) hw h hz fun x hx => by
    obtain ⟨ρ', h1, h2, h3⟩ := hs x hx
    exact ⟨ρ', p x, h1, h2, fun e => ⟨_, h3 e, if_pos e⟩, fun e => by rw [e]; rfl⟩).to (by
      congr 1
      clear hs h hz
      induction xs with
      | nil => rfl
      | cons a r ih => by_cases q : p a = true <;> simp [q, List.filter_cons, List.filterMap_cons, ih])
/-! ### calls -/
def spD (T : Tb) (F : List D → (D → Prop) → Prop) : Sp := fun vs H Q _ => ∃ (G : Hp) (ds : List D) (P : D → Prop), Wf T G H ∧ Reps G vs ds ∧ F ds P ∧ ∀ (v : V) (d : D) (G' H' : Hp), Go T G H G' H' → Rep G' v d → P d → Q v H'
theorem ev_callP {F : List D → (D → Prop) → Prop} {E : XK} (ha : EvA T t ρ ds) (h : F ds P) : EvP T (tCall (spD T F) [] E t) ρ P := fun G0 H0 G H σ Q S k =>
  ha G0 H0 G H σ _ S fun vs G1 H1 g1 r1 => ⟨G1, ds, P, g1.w, by rw [List.append_nil]; exact r1, h, fun v d G2 H2 g2 r2 p => k v d G2 H2 (g1.trans g2) r2 p⟩
theorem ev_call {F : List D → (D → Prop) → Prop} {E : XK} (ha : EvA T t ρ ds) (h : F ds (· = d)) : Ev T (tCall (spD T F) [] E t) ρ d := ev_of (ev_callP ha h)
theorem sta_start {G H : Hp} {vs : List V} {Ns : List Str} (w : Wf T G H) (r : Reps G vs ds) : Sta T G H G H (L2.start Ns vs) (ds.map Sl.dat ++ List.replicate (Ns.length - ds.length) Sl.any) := by
  have hl := r.length
  refine ⟨w.go, by unfold L2.start; simp [hl], fun i s q => ?_, fun i j d1 e1 q1 q2 => ?_⟩
  · by_cases hi : i < ds.length
    · rw [List.getElem?_append_left (by simpa using hi), List.getElem?_map, List.getElem?_eq_getElem hi] at q
      cases q
      obtain ⟨v, e, rv⟩ := r.get (List.getElem?_eq_getElem hi)
      refine ⟨v, look_of ?_, rv⟩
      unfold L2.start
      rw [List.getElem?_append_left (by simp; omega), List.getElem?_map, e]
      rfl
    · rw [List.getElem?_append_right (by simpa using hi), List.getElem?_replicate] at q
      split at q
      · cases q; exact True.intro
      · cases q
  · by_cases hi : i < ds.length
    · rw [List.getElem?_append_left (by simpa using hi), List.getElem?_map, List.getElem?_eq_getElem hi] at q1
      cases q1
    · rw [List.getElem?_append_right (by simpa using hi), List.getElem?_replicate] at q1
      split at q1 <;> cases q1
theorem body_of {F : List D → (D → Prop) → Prop} {vs : List V} {H : Hp} {Q : VK} {E : XK} {Ns : List Str} (h : spD T F vs H Q E)
    (hb : ∀ (ds : List D) (P : D → Prop), F ds P → Sv T ts (ds.map Sl.dat ++ List.replicate (Ns.length - ds.length) Sl.any) (fun _ => P .none) P) : ts { nx := fun _ H' => Q .non H', rt := Q } (L2.start Ns vs) H := by
  obtain ⟨G, ds, P, w, r, hF, q⟩ := h
  exact hb ds P hF G H G H _ _ (sta_start w r) (fun G' H' σ' ρ' _ S' n => q .non .none G' H' S'.go .non n) fun v d G' H' g r p => q v d G' H' g r p
theorem len_of {F : List D → (D → Prop) → Prop} {vs : List V} {H : Hp} {Q : VK} {E : XK} {n : Nat} (h : spD T F vs H Q E) (hl : ∀ ds P, F ds P → ds.length = n) : vs.length = n := by
  obtain ⟨G, ds, P, w, r, hF, q⟩ := h
  rw [r.length]
  exact hl ds P hF
end
end Pf
set_option Elab.async false
set_option linter.all false
set_option maxRecDepth 100000
set_option maxHeartbeats 4000000
namespace Pf
open PySem L2
section
variable {T : Tb} {K : PySem.W.Frag} {ρ ρ' ρ2 : En} {ta tb te td ty tx : TE} {tt tu : TT} {t tr : TA} {x y z d : D} {ds es : List D} {P : D → Prop} {N N' : En → Prop} {R R' : D → Prop} {ts us : TS}
theorem Go.app {G1 H1 G H : Hp} {Dl : Addr} {acc : List V} {o : HO} (g : Go T G1 H1 G H) (hD : H1 Dl = none) (hH : H Dl = some (.lst acc)) (hG : G Dl = none) : Go T G1 H1 G (upd H Dl o) := by
  refine ⟨g.g, fun a u q => ?_, ⟨fun a u q => ?_, tabs_set g.w.t hH True.intro, g.w.nt⟩, g.n⟩
  · have z : a ≠ Dl := fun z => by subst z; rw [hD] at q; cases q
    rw [upd_ne z]
    exact g.h a u q
  · have z : a ≠ Dl := fun z => by subst z; rw [hG] at q; cases q
    rw [upd_ne z]
    exact g.w.s a u q
theorem Go.take {G1 H1 G H : Hp} {Dl : Addr} {o : HO} (g : Go T G1 H1 G H) (hD : H1 Dl = none) (hH : H Dl = some o) (hG : G Dl = none) (n : NotT o) : Go T G1 H1 (upd G Dl o) H := by
  refine ⟨g.g.trans (sub_new hG), g.h, ⟨fun a u q => ?_, g.w.t, fun a ps q => ?_⟩, fun a q => ?_⟩
  · by_cases z : a = Dl
    · subst z; rw [upd_same] at q; cases q; exact hH
    · rw [upd_ne z] at q; exact g.w.s a u q
  · by_cases z : a = Dl
    · subst z; rw [upd_same] at q; cases q; exact n ps rfl
    · rw [upd_ne z] at q; exact g.w.nt a ps q
  · by_cases z : a = Dl
    · subst z; exact .inr (.inl hD)
    · rw [upd_ne z] at q; exact g.n a q
theorem Go.hidden {G H G' H' : Hp} {Dl : Addr} {o : HO} (g : Go T G H G' H') (hH : H Dl = some o) (hG : G Dl = none) (nt : ∀ xs, o ≠ .tup xs := by intro _ e; cases e) : G' Dl = none := by
  cases q : G' Dl with
  | none => rfl
  | some u =>
    rcases g.n Dl (by rw [q]; simp) with z | z
    · exact absurd hG z
    · rcases z with z | ⟨xs, z⟩
      · rw [hH] at z; cases z
      · rw [hH] at z; cases z; exact absurd rfl (nt xs)
theorem Sta.plainTo {G0 H0 G H G' H' : Hp} {σ : L2.St} (S : Sta T G0 H0 G H σ ρ) (n : noOwn ρ = true) (s : Sub G G') (g : Go T G0 H0 G' H') : Sta T G0 H0 G' H' σ ρ := by
  refine ⟨g, S.len, fun i sl q => ?_, S.one⟩
  have a := S.sl i sl q
  cases sl with
  | any => exact True.intro
  | dat d => obtain ⟨v, e, r⟩ := a; exact ⟨v, e, r.mono s⟩
  | own d => exact (noOwn_at n q).elim
theorem take_flatMap_succ {α β : Type} {f : α → List β} {xs : List α} {i : Nat} {x : α} (h : xs[i]? = some x) : (xs.take (i + 1)).flatMap f = (xs.take i).flatMap f ++ f x := by
  rw [List.take_add_one, h, List.flatMap_append]
  simp
theorem take_map_succ {α β : Type} {f : α → β} {xs : List α} {i : Nat} {x : α} (h : xs[i]? = some x) : (xs.take (i + 1)).map f = (xs.take i).map f ++ [f x] := by
  rw [List.take_add_one, h, List.map_append]
  simp
theorem flat_le {α β : Type} (f : α → List β) (xs : List α) (i : Nat) : ((xs.take i).flatMap f).length ≤ (xs.flatMap f).length := by
  conv => rhs; rw [← List.take_append_drop i xs, List.flatMap_append, List.length_append]
  omega
/-- [e for a in xs for b in ys] -/
theorem ev_lc2 {α β : Type} {wi wi1 : TI} {g g1 : TG} {is is1 vs vs1 : List Nat} (xs : List α) (enc : α → D) (ys : α → List β) (enc1 : α → β → D) (out : α → β → D) (hw : ∀ i ∈ is, i ∈ vs) (hw1 : ∀ i ∈ is1, i ∈ vs1) (h : EvI T wi ρ (xs.map enc))
    (hz : (xs.flatMap fun a => (ys a).map (out a)).length ≤ sizeLine)
    (hs : ∀ a ∈ xs, ∃ ρ', EvG T g is (wipeE ρ vs) (enc a) ρ' ∧ noOwn ρ' = true ∧ EvI T wi1 ρ' ((ys a).map (enc1 a)) ∧ ∀ b ∈ ys a, ∃ ρ2, EvG T g1 is1 (wipeE ρ' vs1) (enc1 a b) ρ2 ∧ Ev T te ρ2 (out a b)) :
    Ev T (tLc2 wi g tYes wi1 g1 tYes te vs vs1) ρ (.list (xs.flatMap fun a => (ys a).map (out a))) := fun G0 H0 G H σ Q S k =>
  h G0 H0 G H σ _ S fun J G1 H1 g1' it Dl hD => by
    generalize hF : (fun a => (ys a).map (out a)) = F at hz k
    have hl : (xs.map enc).length = xs.length := List.length_map _
    have S1 := S.next g1'
    refine ⟨fun i m H' => m = xs.length - i ∧ i ≤ xs.length ∧ ∃ Gi acc, Go T G1 H1 Gi H' ∧ H' Dl = some (.lst acc) ∧ Gi Dl = none ∧ Reps Gi acc ((xs.take i).flatMap F), ⟨xs.length, by simp, Nat.zero_le _, G1, [], g1'.w.hid hD, upd_same, g1'.w.s.free hD, by simpa using Reps.nil⟩, ?_⟩
    rintro i m H' ⟨rfl, hi, Gi, acc, gi, hH, hG, ra⟩
    by_cases hlt : i < xs.length
    · refine .inr ⟨it.go Gi H' i gi.g gi.w (by omega), fun H2 => ∃ Gi acc, Go T G1 H1 Gi H2 ∧ H2 Dl = some (.lst acc) ∧ Gi Dl = none ∧ Reps Gi acc ((xs.take (i + 1)).flatMap F), fun H2 p => ⟨xs.length - (i + 1), by omega, rfl, by omega, p⟩, fun x H2 y => ?_⟩
      have ex : xs[i]? = some xs[i] := List.getElem?_eq_getElem hlt
      generalize hxa : xs[i] = xa at ex
      have hmem : xa ∈ xs := by rw [← hxa]; exact List.getElem_mem _
      have e : (xs.map enc)[i]? = some (enc xa) := by rw [List.getElem?_map, ex]; rfl
      obtain ⟨G2, g2, r2⟩ := it.yld Gi H' i x H2 _ gi.g gi.w e y
      obtain ⟨ρ', hg, hno, hin, hb⟩ := hs xa hmem
      have S2 : Sta T G0 H0 G2 H2 (L2.wipe σ vs) (wipeE ρ vs) := (S1.next (gi.trans g2)).wipe vs
      refine hg G0 H0 G2 H2 _ x _ S2 r2 fun σ3 S3 l3 e3 => ⟨wipe_eq l3 e3 hw, ?_⟩
      show wi1 σ3 H2 _
      refine hin G0 H0 G2 H2 σ3 _ S3 fun J1 G3 H3 g3 it1 => ?_
      have hl1 : ((ys xa).map (enc1 xa)).length = (ys xa).length := List.length_map _
      have a3 := g2.trans g3
      have hH3 : H3 Dl = some (.lst acc) := a3.h.at_ hH notT_lst
      have hG3 : G3 Dl = none := a3.hidden hH hG
      have S3' := S3.next g3
      have hFx : F xa = (ys xa).map (out xa) := by rw [← hF]
      refine ⟨fun j m H' => m = (ys xa).length - j ∧ j ≤ (ys xa).length ∧ ∃ Gj acc, Go T G1 H1 Gj H' ∧ Sub G3 Gj ∧ H' Dl = some (.lst acc) ∧ Gj Dl = none ∧ Reps Gj acc ((xs.take i).flatMap F ++ ((ys xa).take j).map (out xa)),
        ⟨(ys xa).length, by simp, Nat.zero_le _, G3, acc, gi.trans a3, Sub.refl _, hH3, hG3, by simpa using ra.mono a3.g⟩, ?_⟩
      rintro j m H4 ⟨rfl, hj, Gj, acc, gj, sj, hHj, hGj, raj⟩
      by_cases hlt1 : j < (ys xa).length
      · refine .inr ⟨it1.go Gj H4 j sj gj.w (by omega), fun H' => ∃ Gj acc, Go T G1 H1 Gj H' ∧ Sub G3 Gj ∧ H' Dl = some (.lst acc) ∧ Gj Dl = none ∧ Reps Gj acc ((xs.take i).flatMap F ++ ((ys xa).take (j + 1)).map (out xa)), fun H' p => ⟨(ys xa).length - (j + 1), by omega, rfl, by omega, p⟩, fun x1 H5 y1 => ?_⟩
        have ex1 : (ys xa)[j]? = some (ys xa)[j] := List.getElem?_eq_getElem hlt1
        have e1 : ((ys xa).map (enc1 xa))[j]? = some (enc1 xa (ys xa)[j]) := by rw [List.getElem?_map, ex1]; rfl
        obtain ⟨G5, g5, r5⟩ := it1.yld Gj H4 j x1 H5 _ sj gj.w e1 y1
        obtain ⟨ρ2, hg1, he1⟩ := hb (ys xa)[j] (List.getElem_mem _)
        have S5 : Sta T G0 H0 G5 H5 (L2.wipe σ3 vs1) (wipeE ρ' vs1) := (S3.plainTo hno ((g3.g.trans sj).trans g5.g) (S1.go.trans (gj.trans g5))).wipe vs1
        refine hg1 G0 H0 G5 H5 _ x1 _ S5 r5 fun σ6 S6 l6 e6 => ⟨wipe_eq l6 e6 hw1, ?_⟩
        show te σ6 H5 _
        refine he1 G0 H0 G5 H5 σ6 _ S6 fun v G7 H7 g7 r7 => ?_
        have a7 := g5.trans g7
        have hH7 : H7 Dl = some (.lst acc) := a7.h.at_ hHj notT_lst
        have hG7 : G7 Dl = none := a7.hidden hHj hGj
        refine ⟨acc, hH7, ?_, G7, acc ++ [v], (gj.trans a7).app hD hH7 hG7, sj.trans a7.g, upd_same, hG7, ?_⟩
        · rw [raj.length, List.length_append, List.length_map, List.length_take]
          have b1 := flat_le F xs (i + 1)
          rw [take_flatMap_succ ex, List.length_append, hFx, List.length_map] at b1
          omega
        · rw [take_map_succ ex1, ← List.append_assoc]
          exact (raj.mono a7.g).append (.cons r7 .nil)
      · have e : j = (ys xa).length := by omega
        subst e
        refine .inl ⟨it1.stop Gj H4 _ sj gj.w (by omega), Gj, acc, gj, hHj, hGj, ?_⟩
        rw [List.take_length] at raj
        rw [take_flatMap_succ ex, hFx]
        exact raj
    · have e : i = xs.length := by omega
      subst e
      rw [List.take_length] at ra
      refine .inl ⟨it.stop Gi H' _ gi.g gi.w (by omega), ?_⟩
      exact k (.ref Dl) (upd Gi Dl (.lst acc)) H' (g1'.trans (gi.take hD hH hG notT_lst)) (.lst upd_same (ra.mono (sub_new hG)))
end
end Pf
set_option Elab.async false
set_option linter.all false
set_option maxRecDepth 100000
set_option maxHeartbeats 4000000
namespace Pf
open PySem L2
open PySem.W (alike alikeAll dataLt Reads.keepBut)
/-! ### what stands for a datum reads as it -/
mutual
theorem Rep.dp {K : PySem.W.Frag} {H : Hp} : ∀ {v : V} {d : D}, Rep H v d → alike d d = true → Dp K H v d
  | _, _, .non, _ => .non
  | _, _, .bl b, _ => .bl b
  | _, _, .int i, _ => .int i
  | _, _, .str x, _ => .str x
  | _, _, .tup h r, e => .tup (SqT.of h) (Reps.dp r (by simpa [alike] using e))
  | _, _, .lst h r, e => .lst (SqL.of h) (Reps.dp r (by simpa [alike] using e))
  | _, _, .dk h r, e => absurd e (by simp [alike])
  | _, _, .dt h r, e => absurd e (by simp [alike])
  | _, _, .fz h n p, e => absurd e (by simp [alike])
  | _, _, .fs h n, e => absurd e (by simp [alike])
  | _, _, .ptr a, e => absurd e (by simp [alike])
theorem Reps.dp {K : PySem.W.Frag} {H : Hp} : ∀ {vs : List V} {ds : List D}, Reps H vs ds → alikeAll ds ds = true → DpAll K H vs ds
  | _, _, .nil, _ => .nil
  | _, _, .cons h r, e => .cons (Rep.dp h (PySem.W.alike_all_cons e).1) (Reps.dp r (PySem.W.alike_all_cons e).2)
end
theorem alikeAll_self : ∀ {ds : List D}, (∀ d ∈ ds, alike d d = true) → alikeAll ds ds = true
  | [], _ => by simp [alikeAll]
  | d :: ds, h => by
    rw [alikeAll, h d List.mem_cons_self, alikeAll_self fun e he => h e (List.mem_cons_of_mem _ he)] <;> rfl
def RV (H : Hp) (u : Value) (d : D) : Prop := ∃ x : V, RelV x u ∧ Rep H x d
theorem each_of {H : Hp} : ∀ {xs : List V} {ds : List D} {us : List Value}, Reps H xs ds → Vals xs us → PySem.W.EachIs (RV H) us ds
  | _, _, _, .nil, .nil => .nil
  | _, _, _, .cons h r, .cons v t => .cons ⟨_, v, h⟩ (each_of r t)
theorem of_each {H : Hp} : ∀ {ds : List D} {us : List Value}, PySem.W.EachIs (RV H) us ds → ∃ xs, Reps H xs ds ∧ Vals xs us
  | _, _, .nil => ⟨[], .nil, .nil⟩
  | _, _, .cons ⟨x, h1, h2⟩ t => by
    obtain ⟨xs, r, v⟩ := of_each t
    exact ⟨x :: xs, .cons h2 r, .cons h1 v⟩
section
variable {X : Cx} {pins : List (Addr × Obj)} {σ : L2.St} {H : Hp} {s : Shared}
theorem Rep.reads (I : Inv X pins σ H s) {v : V} {d : D} {u : Value} (r : Rep H v d) (e : alike d d = true) (q : RelV v u) : ∃ as, Reads s.heap u d as := Dp.reads I d v u (r.dp e) q
theorem Reps.reads (I : Inv X pins σ H s) {vs : List V} {ds : List D} {us : List Value} (r : Reps H vs ds) (e : alikeAll ds ds = true) (q : Vals vs us) : ∃ as, ReadsAll s.heap us ds as := Dp.readsAll I ds vs us (r.dp e) q
theorem each_reads (I : Inv X pins σ H s) : ∀ {ds : List D} {us : List Value}, PySem.W.EachIs (RV H) us ds → (∀ d ∈ ds, alike d d = true) → PySem.W.EachIs (fun v b => ∃ as, Reads s.heap v b as) us ds
  | _, _, .nil, _ => .nil
  | _, _, .cons ⟨x, h1, h2⟩ t, e => .cons (h2.reads I (e _ List.mem_cons_self) h1) (each_reads I t fun d hd => e d (List.mem_cons_of_mem _ hd))
end

/-! ### < of two tuples, as sorting asks it of keys of one kind -/
section
open PySem.SeqAt PyProof.Rows
variable {prog : Program} {w : World} {A : Around} {E : Value → Shared → Prop} {s : Shared}
theorem tupleLtCall {Q : Value → Shared → Prop} {l b : Addr} {items items2 : Array Value} {e r : Nat → Bool} (hl : s.heap.IsTuple l items) (hb : s.heap.IsTuple b items2)
    (he : ∀ j (h1 : j < items.size) (h2 : j < items2.size), EqAt A.in1 s items[j] items2[j] (e j)) (hr : ∀ j (h1 : j < items.size) (h2 : j < items2.size), e j = false → RcLt A.in1 s items[j] items2[j] (r j))
    (h : Q (.bool (firstLt e r (decide (items.size < items2.size)) (List.range (min items.size items2.size)))) s) : wpAny (model prog w) A (call (.builtin "tuple.__lt__") [.ref l, .ref b]) Q E s := by
  obtain ⟨⟨cls, dd, data, sl⟩, ho, hc, n, hd⟩ := id hl
  obtain ⟨⟨cls2, dd2, data2, sl2⟩, ho2, hc2, n2, hd2⟩ := id hb
  simp only at hc hd hc2 hd2
  subst hc hd hc2 hd2
  exact call_meets F.slot_tuple_lt ⟨_, ho, rfl⟩ F.entry_tuple_lt (F.args_tuple_lt_2 _ _) (tuple_ltAt l b items items2 n n2 dd dd2 sl sl2 e r) ⟨ho, ho2, he, hr, h⟩
theorem oneLt_tup {xs ys : List PyData} {a b : Value} {as bs : List Addr} {Q : Bool → Shared → Prop} (ra : Reads s.heap a (.tuple xs) as) (rb : Reads s.heap b (.tuple ys) bs) (hal : alikeAll xs ys = true)
    (hu : A.units + min (PyData.tuple xs).depth (PyData.tuple ys).depth < cLine) (hq : Q (dataLt (.tuple xs) (.tuple ys)) s) : wpAny (model prog w) A (oneLt' true a b) Q E s := by
  cases ra with
  | @tuple l o vs n _ as₁ h1 h2 h3 h4 =>
    cases rb with
    | @tuple l' o' vs' n' _ bs₁ k1 k2 k3 k4 =>
      have n1 : vs.size = xs.length := by simpa using PySem.SeqAt.ReadsAll.length _ _ _ h4
      have n2 : vs'.size = ys.length := by simpa using PySem.SeqAt.ReadsAll.length _ _ _ k4
      rw [PySem.W.dataLt_tuple, ← PySem.W.firstLt_toks xs ys hal, ← n1, ← n2] at hq
      rw [oneLt'_eq]
      simp only [if_true]
      refine wpAny_bind (wpAny_cRoomFor (PySem.SeqAt.room_here hu) ?_)
      refine wpAny_bind (wpAny_callSpecialIfBound?_slot (T := "tuple") ⟨_, h1, h2⟩ F.slot_tuple_lt (tupleLtCall (e := PySem.SeqAt.pairEq xs ys) (r := fun j => dataLt (xs.getD j .none) (ys.getD j .none)) ⟨_, h1, h2, _, h3⟩ ⟨_, k1, k2, _, k3⟩ (fun j j1 j2 => ?_) (fun j j1 j2 hj => ?_) ?_))
      · have := PySem.W.eqAt_alikeAll xs ys A.in1 s vs.toList vs'.toList _ _ h4 k4 hal (PySem.SeqAt.room_in hu) j (by simpa using j1) (by simpa using j2)
        simpa using this
      · have := PySem.W.rcLt_alikeAll xs ys A.in1 s vs.toList vs'.toList _ _ h4 k4 hal (PySem.SeqAt.room_in hu) j (by simpa using j1) (by simpa using j2) hj
        simpa using this
      · exact wpAny_truthy_bool hq
end
end Pf
set_option Elab.async false
set_option linter.all false
set_option maxRecDepth 100000
set_option maxHeartbeats 4000000
namespace Pf
open PySem L2
open PySem.W (alike alikeAll dataLt AllAlike EachIs)
open PyProof.Rows
section
variable {prog : Program} {w : World} {A : Around} {E : Value → Shared → Prop} {s : Shared}
theorem firsts_e {M : Model} : ∀ {vs : List Value} {ds : List PyData} {Q : List (Option Value) → Shared → Prop}, EachIs (fun v d => ∃ as, Reads s.heap v d as) vs ds → (∀ d ∈ ds, ∃ xs, d = .tuple xs) →
    (∀ fs : List (Option Value), fs.length = vs.length → (ds.head? = some (.tuple []) → fs.head? = some none) → Q fs s) → wpAny M A (vs.mapM firstOfTuple') Q E s
  | [], _, Q, h, ht, k => by
    cases h
    rw [List.mapM_nil]
    exact wpAny_pure (k [] rfl fun e => nomatch e)
  | v :: vs, _, Q, h, ht, k => by
    cases h with
    | cons h1 t =>
      rename_i d ds
      obtain ⟨as, r⟩ := h1
      obtain ⟨xs, rfl⟩ := ht d List.mem_cons_self
      cases r with
      | @tuple a o its n _ _ ho hc hd hr =>
        rw [List.mapM_cons]
        refine wpAny_bind ?_
        rw [PySem.W.kas_first_eq]
        refine wpAny_bind (PySem.W.Looks.here (show PySem.W.Looks M s.heap (typeOf (.ref a)) o.cls from (PySem.W.Looks.ld ho).andThen .now) ?_)
        rw [hc, if_neg (by first | decide | simp)]
        refine wpAny_bind (listItems_at ho hd (wpAny_pure ?_))
        refine wpAny_bind (firsts_e (Q := fun bs s' => wpAny M A (pure (its[0]? :: bs)) Q E s') t (fun d hd => ht d (List.mem_cons_of_mem _ hd)) fun fs hl _ => wpAny_pure (k _ (by simp [hl]) fun e => ?_))
        have e' : xs = [] := by simpa using e
        subst e'
        have hn : its.size = 0 := by simpa using PySem.SeqAt.ReadsAll.length _ _ _ hr
        simp [Array.getElem?_eq_none (show its.size ≤ 0 by omega)]
theorem kind_e {vs : List Value} {ds : List PyData} {Q : SortKind → Shared → Prop} (h : EachIs (fun v d => ∃ as, Reads s.heap v d as) vs ds) (ht : ∀ d ∈ ds, ∃ xs, d = .tuple xs) (h0 : ds.head? = some (.tuple [])) (q : Q oneType' s) :
    wpAny (model prog w) A (keyKind' vs.toArray) Q E s := by
  rw [keyKind'_eq, List.mapM_toArray, map_eq_pure_bind]
  refine wpAny_bind (wpAny_bind (firsts_e h ht fun fs hl hf => wpAny_pure ?_))
  obtain ⟨rest, rfl⟩ : ∃ rest, fs = none :: rest := by
    have := hf h0
    cases fs with
    | nil => simp at this
    | cons x r => simp at this; subst this; exact ⟨r, rfl⟩
  rw [if_neg (by simp), if_neg (by simp)]
  rw [oneTypeOnly'_eq, List.mapM_toArray, map_eq_pure_bind]
  refine wpAny_bind (wpAny_bind (wpAny_bind (PySem.W.kas_mapM (r := Value.type "tuple") _ (fun v hv Q' hq => ?_) (wpAny_pure ?_))))
  · obtain ⟨d, hd, as, r⟩ := h.left v hv
    obtain ⟨xs, rfl⟩ := ht d hd
    exact (PySem.W.looks_reads r).here hq
  · have hne : vs ≠ [] := fun z => by subst z; simp at hl
    obtain ⟨v, r, rfl⟩ := List.exists_cons_of_ne_nil hne
    have hall : ((List.map (fun _ => Value.type "tuple") (v :: r)).toArray.all fun x => x == Value.type "tuple") = true := by
      simp only [List.all_toArray, List.all_map, List.all_eq_true]
      intro _ _
      exact beq_self_eq_true _
    have h0 : (List.map (fun _ => Value.type "tuple") (v :: r)).toArray[0]? = some (Value.type "tuple") := by simp
    rw [h0]
    simp only [hall, if_true]
    exact wpAny_pure (wpAny_pure q)
/-- tuples, the first of them empty: they are sorted, too -/
theorem sorts_e {vs : List Value} {ds : List PyData} (e : EachIs (fun v d => ∃ as, Reads s.heap v d as) vs ds) (hal : AllAlike ds) (ht : ∀ d ∈ ds, ∃ xs, d = .tuple xs) (h0 : ds.head? = some (.tuple [])) (hu : ∀ d, d ∈ ds → A.units + d.depth < cLine) : PySem.W.SortsAt prog w A s (PySem.W.dataKind s.heap ds) vs := by
  refine ⟨fun v hv => ?_, oneType', fun E x y a b Q ha hb hq => ?_, fun h2 E Q hq => kind_e e ht h0 hq⟩
  · obtain ⟨d, hd, as, r⟩ := e.left v hv
    exact ⟨_, PySem.W.dataKind_some hal hd r⟩
  · obtain ⟨d, as, hd, ra, rfl⟩ := PySem.W.dataKind_inv ha
    obtain ⟨d', as', hd', rb, rfl⟩ := PySem.W.dataKind_inv hb
    obtain ⟨x1, rfl⟩ := ht d hd
    obtain ⟨x2, rfl⟩ := ht d' hd'
    rw [keyLt'_oneType]
    refine oneLt_tup ra rb (by simpa [alike] using hal _ hd _ hd') ?_ hq
    have := hu _ hd
    exact Nat.lt_of_le_of_lt (Nat.add_le_add_left (Nat.min_le_left _ _) _) this
end
/-- what can be sorted -/
def SortD (ds : List D) : Prop := AllAlike ds ∧ (PySem.W.Sortable ds ∨ ((∀ d ∈ ds, ∃ xs, d = .tuple xs) ∧ ds.head? = some (.tuple []))) ∧ ds.length ≤ sizeLine ∧ ∀ d ∈ ds, d.depth ≤ 32
theorem SortD.self {ds : List D} (h : SortD ds) : ∀ d ∈ ds, alike d d = true := fun d hd => h.1 d hd d hd
def srt (ds : List D) : List D := ds.mergeSort (PySem.W.dataLe false fun d => d)
section
variable {X : Cx} {pins : List (Addr × Obj)} {σ : L2.St} {H : Hp} {s : Shared} {E : Value → Shared → Prop}
/-- a new list of data, laid -/
theorem laid_vals {G : Hp} {Q : VK} {h' : Heap} {tk : Nat} {a : Addr} {out : List Value} {n : Nat} {ds : List D} (I : Inv X pins σ H s) (k : ∀ b o, s.heap.get? b = some o → h'.get? b = some o) (ha : s.heap.objs.size ≤ a) (e : h'.get? a = some { cls := .type "list", data := .seq out.toArray n })
    (r : EachIs (RV G) out ds) (hz : ds.length ≤ sizeLine) (q : ∀ p xs, H p = none → Reps G xs ds → Q (.ref p) (upd H p (.lst xs))) : EP X pins σ Q (.ref a) { s with heap := h', toks := tk } := by
  obtain ⟨xs, rx, vx⟩ := of_each r
  refine ⟨.ref a, upd H a (.lst xs), I.laid k ha ⟨by rw [rx.length]; exact hz, out, n, vx, e⟩, rfl, q a xs (I.hok.fresh ha) rx⟩
def rSortD (K : PySem.W.Frag) : List V → Hp → VK → Prop := fun vs H Q => ∃ (G : Hp) (a : Addr) (xs : List V) (ds : List D), vs = [.ref a] ∧ SqL K H a xs ∧ Sub G H ∧ Reps G xs ds ∧ SortD ds ∧ ∀ p ys, H p = none → Reps G ys (srt ds) → Q (.ref p) (upd H p (.lst ys))
theorem cr_sortD (hu : X.A.units + 64 < cLine) : CallR X (.builtin "sorted") (rSortD X.K) := by
  intro pins s σ H vs us Q I r h
  obtain ⟨G, a, xs, ds, rfl, hS, sG, rD, ok, q⟩ := h
  obtain ⟨u, rfl, ru⟩ := vals1 r
  cases ru
  obtain ⟨its, rv, pl, hz⟩ := I.list hS
  have e1 := each_of rD rv
  have e2 := each_reads I (each_of (rD.mono sG) rv) ok.self
  have hl : its.length = ds.length := e1.length
  have fin : ∀ out : List Value, out.length = ds.length → EachIs (RV G) out (srt ds) → EP X pins σ Q (.ref (s.heap.objs.size + 1)) { s with heap := sortedAll s.heap its out.toArray } := fun out ho eo => by
    obtain ⟨n, hn⟩ := sortedAll_at s.heap its out.toArray
    refine laid_vals (tk := s.toks) I (fun b o e => sortedAll_old e) (Nat.le_succ _) hn eo ?_ q
    unfold srt
    rw [List.length_mergeSort]
    exact ok.2.2.1
  have hd : ∀ d ∈ ds, X.A.units + 2 + d.depth < cLine := fun d hd => by
    have := ok.2.2.2 d hd
    omega
  rcases ok.2.1 with hs | ⟨ht, h0⟩
  · exact PySem.W.sorted_data (enc := fun d : D => d) pl.isList e1 e2 (by rw [List.map_id']; exact ok.1) (by rw [List.map_id']; exact hs) ok.2.2.1 hd fin
  · have e2' : EachIs (fun v b => ∃ as, Reads (PySem.W.sortingHeap (PySem.W.copyHeap s.heap its) (s.heap.objs.size + 1) its) v b as) its ds := e2.mono fun _ _ ⟨as, r⟩ => ⟨as, Reads.keeps (fun _ _ => PySem.W.sorting_copy_old) r⟩
    have S := sorts_e (prog := X.prog) (w := X.w) (A := X.A.in1.in1) (s := { s with heap := PySem.W.sortingHeap (PySem.W.copyHeap s.heap its) (s.heap.objs.size + 1) its }) e2' ok.1 ht h0 hd
    refine PySem.W.sorted_vals pl.isList S (by rw [hl]; exact ok.2.2.1) (fin _ (by rw [PySem.W.sortVals_length false rfl]; exact hl) ?_)
    have z := PySem.W.sortVals_data (h' := PySem.W.sortingHeap (PySem.W.copyHeap s.heap its) (s.heap.objs.size + 1) its) (enc := fun d : D => d) false e1 e2' (by rw [List.map_id']; exact ok.1)
    rw [List.map_id'] at z
    exact z
/-! min, max -/
def OrdD (ds : List D) : Prop := PySem.W.AlikeAll ds ∧ PyData.depthAll ds ≤ 32
theorem OrdD.self {ds : List D} (h : OrdD ds) : alikeAll ds ds = true := alikeAll_self fun d hd => h.1.1 d hd d hd
theorem fin_item {Q : VK} {h' : Heap} {tk : Nat} {xs : List V} {ds : List D} {its : List Value} {i : Nat} {v : Value} {z : D} {bs : List Addr} {G : Hp} (I : Inv X pins σ H s) (sG : Sub G H) (rD : Reps G xs ds) (rv : Vals xs its) (e : its[i]? = some v) (rz : Reads h' v z bs) (al : ∀ d ∈ ds, alike z d = true) (al2 : ∀ d ∈ ds, alike d d = true)
    (k : ∀ b o, s.heap.get? b = some o → h'.get? b = some o) (q : ∀ x, Rep G x z → Q x H) : EP X pins σ Q v { s with heap := h', toks := tk } := by
  have I' : Inv X pins σ H { s with heap := h', toks := tk } := I.kept k
  have hx : ∃ x, xs[i]? = some x := by
    have : i < xs.length := by rw [rv.length]; exact (List.getElem?_eq_some_iff.mp e).1
    exact ⟨_, List.getElem?_eq_getElem this⟩
  obtain ⟨x, hx⟩ := hx
  obtain ⟨u, e1, ru⟩ := rv.get hx
  rw [e] at e1; cases e1
  obtain ⟨d, hd, rd⟩ := rD.getv hx
  have hm := List.mem_of_getElem? hd
  have a1 := al d hm
  have a2 : alike d d = true := al2 d hm
  obtain ⟨as, r2⟩ := (rd.mono sG).reads I' a2 ru
  have := PySem.W.alike_unique _ _ _ _ _ a1 rz r2
  subst this
  exact ⟨x, H, I', ru, q x rd⟩
theorem min_mem (f : D → D → Bool) : ∀ (xs : List D) (x : D), xs.foldl (fun a y => if f y a = true then y else a) x ∈ x :: xs
  | [], x => by simp
  | y :: ys, x => by
    rw [List.foldl_cons]
    have h := min_mem f ys (if f y x = true then y else x)
    rcases List.mem_cons.mp h with e | e
    · rw [e]
      split <;> simp
    · exact List.mem_cons_of_mem _ (List.mem_cons_of_mem _ e)
def minL (x : D) (xs : List D) : D := xs.foldl (fun a y => if dataLt y a = true then y else a) x
def maxL (x : D) (xs : List D) : D := xs.foldl (fun a y => if dataLt a y = true then y else a) x
theorem minL_mem (x : D) (xs : List D) : minL x xs ∈ x :: xs := min_mem dataLt xs x
theorem maxL_mem (x : D) (xs : List D) : maxL x xs ∈ x :: xs := min_mem (fun a b => dataLt b a) xs x
def rMinD (K : PySem.W.Frag) : List V → Hp → VK → Prop := fun vs H Q => ∃ (G : Hp) (a : Addr) (xs : List V) (d : D) (ds : List D), vs = [.ref a] ∧ SqL K H a xs ∧ Sub G H ∧ Reps G xs (d :: ds) ∧ OrdD (d :: ds) ∧ ∀ x, Rep G x (minL d ds) → Q x H
def rMaxD (K : PySem.W.Frag) : List V → Hp → VK → Prop := fun vs H Q => ∃ (G : Hp) (a : Addr) (xs : List V) (d : D) (ds : List D), vs = [.ref a] ∧ SqL K H a xs ∧ Sub G H ∧ Reps G xs (d :: ds) ∧ OrdD (d :: ds) ∧ ∀ x, Rep G x (maxL d ds) → Q x H
theorem cr_minD (hu : X.A.units + 64 < cLine) (hc : X.calm = true) : CallR X (.builtin "min") (rMinD X.K) := by
  intro pins s σ H vs us Q I r h
  obtain ⟨G, a, xs, d, ds, rfl, hS, sG, rD, ok, q⟩ := h
  obtain ⟨u, rfl, ru⟩ := vals1 r
  cases ru
  obtain ⟨its, rv, pl, hz⟩ := I.list hS
  obtain ⟨as, hr⟩ := (rD.mono sG).reads I ok.self rv
  refine PySem.W.min_list_data (I.ok.hd hc) pl.isList hr ok.1 (by have := ok.2; omega) fun i v h' tk bs e rz k => ?_
  exact fin_item I sG rD rv (by simpa using e) rz (fun e he => ok.1.1 _ (minL_mem d ds) _ he) (fun e he => ok.1.1 _ he _ he) k q
theorem cr_maxD (hu : X.A.units + 64 < cLine) (hc : X.calm = true) : CallR X (.builtin "max") (rMaxD X.K) := by
  intro pins s σ H vs us Q I r h
  obtain ⟨G, a, xs, d, ds, rfl, hS, sG, rD, ok, q⟩ := h
  obtain ⟨u, rfl, ru⟩ := vals1 r
  cases ru
  obtain ⟨its, rv, pl, hz⟩ := I.list hS
  obtain ⟨as, hr⟩ := (rD.mono sG).reads I ok.self rv
  refine PySem.W.max_list_data (I.ok.hd hc) pl.isList hr ok.1 (by have := ok.2; omega) fun i v h' tk bs e rz k => ?_
  exact fin_item I sG rD rv (by simpa using e) rz (fun e he => ok.1.1 _ (maxL_mem d ds) _ he) (fun e he => ok.1.1 _ he _ he) k q
/-- min(l, default=None) -/
def rMinDf (K : PySem.W.Frag) : List V → List V → Hp → VK → Prop := fun vs zs H Q => ∃ (G : Hp) (a : Addr) (xs : List V) (ds : List D), vs = [.ref a] ∧ zs = [.non] ∧ SqL K H a xs ∧ Sub G H ∧ Reps G xs ds ∧ OrdD ds ∧ (ds = [] → Q .non H) ∧ ∀ d es, ds = d :: es → ∀ x, Rep G x (minL d es) → Q x H
theorem cr_minDf (hu : X.A.units + 64 < cLine) (hc : X.calm = true) : CallRK X (.builtin "min") [Str.ofString "default"] (rMinDf X.K) := by
  intro pins s σ H vs zs us ws Q I r r2 h
  obtain ⟨G, a, xs, ds, rfl, rfl, hS, sG, rD, ok, q0, q⟩ := h
  obtain ⟨u, rfl, ru⟩ := vals1 r
  obtain ⟨u2, rfl, ru2⟩ := vals1 r2
  cases ru
  cases ru2
  obtain ⟨its, rv, pl, hz⟩ := I.list hS
  obtain ⟨as, hr⟩ := (rD.mono sG).reads I ok.self rv
  refine PySem.W.min_list_default (I.ok.hd hc) pl.isList hr ok.1 (by have := ok.2; omega) (fun e h' tk k => ⟨.non, H, I.kept k, rfl, q0 e⟩) fun y ys i v h' tk bs e e2 rz k => ?_
  subst e
  exact fin_item I sG rD rv (by simpa using e2) rz (fun e he => ok.1.1 _ (minL_mem y ys) _ he) (fun e he => ok.1.1 _ he _ he) k (q y ys rfl)
end
end Pf
set_option Elab.async false
set_option linter.all false
set_option maxRecDepth 100000
set_option maxHeartbeats 4000000
namespace Pf
open PySem L2
section
variable {T : Tb} {X : Cx} {K : PySem.W.Frag} {ρ ρ' ρ2 : En} {ta tb te : TE} {tt tu : TT} {t tr : TA} {x y z d e : D} {ds es : List D} {P : D → Prop}
theorem Wf.newT {G H : Hp} {p : Addr} {vs : List V} (x : Wf T G H) (h : H p = none) (r : Reps G vs ds) : ∃ G', Go T G H G' (upd H p (.tup vs)) ∧ Rep G' (.ref p) (.tuple ds) :=
  ⟨_, x.new h (notT_tup (xs := vs)), .tup upd_same (r.mono (x.new h (notT_tup (xs := vs))).g)⟩
theorem Wf.newL {G H : Hp} {p : Addr} {vs : List V} (x : Wf T G H) (h : H p = none) (r : Reps G vs ds) : ∃ G', Go T G H G' (upd H p (.lst vs)) ∧ Rep G' (.ref p) (.list ds) :=
  ⟨_, x.new h (notT_lst (xs := vs)), .lst upd_same (r.mono (x.new h (notT_lst (xs := vs))).g)⟩
/-! ### ints, texts, truths -/
theorem od_I0 {g : Int → Int → V} {i j : Int} (h : ∀ G, Rep G (g i j) z) : OpD T (rI0 g) (.int i) (.int j) z := fun G H a b Q w ra rb k => by
  cases ra; cases rb
  exact ⟨i, j, rfl, rfl, k _ G H w.go (h G)⟩
theorem od_I {C : Int → Int → Prop} {g : Int → Int → V} {i j : Int} (c : C i j) (h : ∀ G, Rep G (g i j) z) : OpD T (rI C g) (.int i) (.int j) z := fun G H a b Q w ra rb k => by
  cases ra; cases rb
  exact ⟨i, j, rfl, rfl, c, k _ G H w.go (h G)⟩
theorem od_i {g : Int → Int → Int} {i j : Int} : OpD T (rI0 fun i j => .int (g i j)) (.int i) (.int j) (.int (g i j)) := od_I0 fun _ => .int _
theorem od_iC {C : Int → Int → Prop} {g : Int → Int → Int} {i j : Int} (c : C i j) : OpD T (rI C fun i j => .int (g i j)) (.int i) (.int j) (.int (g i j)) := od_I c fun _ => .int _
theorem od_b {g : Int → Int → Bool} {i j : Int} : OpD T (rI0 fun i j => .bl (g i j)) (.int i) (.int j) (.bool (g i j)) := od_I0 fun _ => .bl _
theorem ud_i {g : Int → Int} {i : Int} : UnD T (rU fun i => .int (g i)) (.int i) (.int (g i)) := fun G H a Q w ra k => by
  cases ra; exact ⟨i, rfl, k _ G H w.go (.int _)⟩
theorem od_str {a b : Str} (hz : a.length + b.length ≤ sizeLine) : OpD T (fun x y H Q => ∃ i j, x = .str i ∧ y = .str j ∧ i.length + j.length ≤ sizeLine ∧ Q (.str (i ++ j)) H) (.str a) (.str b) (.str (a ++ b)) := fun G H _ _ Q w ra rb k => by
  cases ra; cases rb
  exact ⟨a, b, rfl, rfl, hz, k _ G H w.go (.str _)⟩
/-- scalars that == compares plainly -/
def sclD : D → D → Bool
  | .none, .none => true | .none, .int _ => true | .int _, .none => true
  | .int _, .int _ => true | .str _, .str _ => true | .bool _, .bool _ => true
  | _, _ => false
def sclEq : D → D → Bool
  | .none, .none => true
  | .int i, .int j => decide (i = j)
  | .str i, .str j => decide (i = j)
  | .bool i, .bool j => decide (i = j)
  | _, _ => false
theorem scl_eq {G : Hp} {v u : V} (h : sclD x y = true) (rv : Rep G v x) (ru : Rep G u y) : scal v u = true ∧ decide (v = u) = sclEq x y := by
  cases rv with
  | non => cases ru with
    | non => exact ⟨rfl, rfl⟩
    | int j => exact ⟨rfl, rfl⟩
    | _ => exact absurd (show false = true from h) Bool.false_ne_true
  | int i => cases ru with
    | non => exact ⟨rfl, rfl⟩
    | int j => exact ⟨rfl, by simp [sclEq]⟩
    | _ => exact absurd (show false = true from h) Bool.false_ne_true
  | str i => cases ru with
    | str j => exact ⟨rfl, by simp [sclEq]⟩
    | _ => exact absurd (show false = true from h) Bool.false_ne_true
  | bl i => cases ru with
    | bl j => exact ⟨rfl, by simp [sclEq]⟩
    | _ => exact absurd (show false = true from h) Bool.false_ne_true
  | _ => exact absurd (show false = true from (by cases y <;> exact h)) Bool.false_ne_true
theorem od_eq (h : sclD x y = true) : OpD T rEq x y (.bool (sclEq x y)) := fun G H a b Q w ra rb k => by
  obtain ⟨h1, h2⟩ := scl_eq h ra rb
  exact ⟨h1, by rw [h2]; exact k _ G H w.go (.bl _)⟩
theorem od_ne (h : sclD x y = true) : OpD T rNe x y (.bool (!sclEq x y)) := fun G H a b Q w ra rb k => by
  obtain ⟨h1, h2⟩ := scl_eq h ra rb
  exact ⟨h1, by rw [h2]; exact k _ G H w.go (.bl _)⟩
def isNone : D → Bool
  | .none => true
  | _ => false
theorem isNone_v {G : Hp} {v : V} (r : Rep G v x) : decide (v = .non) = isNone x := by
  cases r <;> simp [isNone]
theorem od_isN : OpD T (fun x y H Q => y = .non ∧ Q (.bl (decide (x = .non))) H) x .none (.bool (isNone x)) := fun G H a b Q w ra rb k => by
  cases rb
  exact ⟨rfl, by rw [isNone_v ra]; exact k _ G H w.go (.bl _)⟩
theorem od_notN : OpD T (fun x y H Q => y = .non ∧ Q (.bl (!decide (x = .non))) H) x .none (.bool (!isNone x)) := fun G H a b Q w ra rb k => by
  cases rb
  exact ⟨rfl, by rw [isNone_v ra]; exact k _ G H w.go (.bl _)⟩
theorem od_isBl {a b : Bool} : OpD T (fun x y H Q => ∃ a b, x = .bl a ∧ y = .bl b ∧ Q (.bl (decide (a = b))) H) (.bool a) (.bool b) (.bool (decide (a = b))) := fun G H _ _ Q w ra rb k => by
  cases ra; cases rb
  exact ⟨a, b, rfl, rfl, k _ G H w.go (.bl _)⟩
theorem od_isnotBl {a b : Bool} : OpD T (fun x y H Q => ∃ a b, x = .bl a ∧ y = .bl b ∧ Q (.bl (!decide (a = b))) H) (.bool a) (.bool b) (.bool (!decide (a = b))) := fun G H _ _ Q w ra rb k => by
  cases ra; cases rb
  exact ⟨a, b, rfl, rfl, k _ G H w.go (.bl _)⟩
/-! ### deep equality -/
def okEq (d : D) : Bool := PySem.W.alike d d && SeqAt.shaped d
theorem od_eqD (h1 : okEq x = true) (h2 : okEq y = true) : OpD T (rEqD K) x y (.bool (PyData.eqv x y)) := fun G H a b Q w ra rb k => by
  obtain ⟨a1, a2⟩ := Bool.and_eq_true_iff.mp h1
  obtain ⟨b1, b2⟩ := Bool.and_eq_true_iff.mp h2
  exact ⟨x, y, (ra.mono w.s).dp a1, (rb.mono w.s).dp b1, a2, b2, k _ G H w.go (.bl _)⟩
theorem od_neD (h1 : okEq x = true) (h2 : okEq y = true) : OpD T (rNeD K) x y (.bool (!PyData.eqv x y)) := fun G H a b Q w ra rb k => by
  obtain ⟨a1, a2⟩ := Bool.and_eq_true_iff.mp h1
  obtain ⟨b1, b2⟩ := Bool.and_eq_true_iff.mp h2
  exact ⟨x, y, (ra.mono w.s).dp a1, (rb.mono w.s).dp b1, a2, b2, k _ G H w.go (.bl _)⟩
/-! ### subscripts -/
theorem atI_reps {G : Hp} {vs : List V} {i : Int} (r : Reps G vs ds) (h : atI ds i = some z) : ∃ v, atI vs i = some v ∧ Rep G v z := by
  unfold atI at h ⊢
  rw [r.length]
  cases q : ixN ds.length i with
  | none => rw [q] at h; cases h
  | some j =>
    rw [q] at h
    exact r.get (show ds[j]? = some z from h)
theorem od_ixT {i : Int} (h : atI ds i = some z) : OpD T (rIxT K) (.tuple ds) (.int i) z := fun G H a b Q w ra rb k => by
  cases rb
  cases ra with
  | tup hp r =>
    obtain ⟨v, h1, h2⟩ := atI_reps r h
    exact ⟨_, _, i, v, rfl, rfl, SqT.of (w.s _ _ hp), h1, k v G H w.go h2⟩
theorem od_ixL {i : Int} (h : atI ds i = some z) : OpD T (rIxL K) (.list ds) (.int i) z := fun G H a b Q w ra rb k => by
  cases rb
  cases ra with
  | lst hp r =>
    obtain ⟨v, h1, h2⟩ := atI_reps r h
    exact ⟨_, _, i, v, rfl, rfl, SqL.of (w.s _ _ hp), h1, k v G H w.go h2⟩
theorem od_ixS {s : Str} {i : Int} {c : Nat} (hz : s.length ≤ sizeLine) (h : atI s.cps.toList i = some c) : OpD T rIxS (.str s) (.int i) (.str ⟨#[c]⟩) := fun G H a b Q w ra rb k => by
  cases rb; cases ra
  exact ⟨s, i, c, rfl, rfl, hz, h, k _ G H w.go (.str _)⟩
/-! ### + of tuples, of lists -/
theorem od_catT (hx : ds ≠ []) (hz : ds.length + es.length ≤ sizeLine) : OpD T (rCatT K) (.tuple ds) (.tuple es) (.tuple (ds ++ es)) := fun G H a b Q w ra rb k => by
  cases ra with
  | tup ha r =>
    cases rb with
    | tup hb r2 =>
      refine ⟨_, _, _, _, rfl, rfl, SqT.of (w.s _ _ ha), SqT.of (w.s _ _ hb), fun e => ?_, by rw [r.length, r2.length]; exact hz, fun e => ?_, fun _ p hp => ?_⟩
      · subst e; cases r; exact hx rfl
      · subst e; cases r2
        refine k _ G H w.go ?_
        rw [List.append_nil]
        exact .tup ha r
      · obtain ⟨G', g, q⟩ := w.newT hp (r.append r2)
        exact k _ _ _ g q
theorem od_catA (hz : ds.length + es.length ≤ sizeLine) : OpD T (rCatA K) (.tuple ds) (.tuple es) (.tuple (ds ++ es)) := fun G H a b Q w ra rb k => by
  cases ra with
  | tup ha r =>
    cases rb with
    | tup hb r2 =>
      refine ⟨_, _, _, _, rfl, rfl, SqT.of (w.s _ _ ha), SqT.of (w.s _ _ hb), by rw [r.length, r2.length]; exact hz, fun e => ?_, fun _ e => ?_, fun _ _ p hp => ?_⟩
      · subst e; cases r
        exact k _ G H w.go (.tup hb r2)
      · subst e; cases r2
        refine k _ G H w.go ?_
        rw [List.append_nil]
        exact .tup ha r
      · obtain ⟨G', g, q⟩ := w.newT hp (r.append r2)
        exact k _ _ _ g q
theorem od_cat (hz : ds.length + es.length ≤ sizeLine) : OpD T rCat (.list ds) (.list es) (.list (ds ++ es)) := fun G H a b Q w ra rb k => by
  cases ra with
  | lst ha r =>
    cases rb with
    | lst hb r2 =>
      refine ⟨_, _, _, _, rfl, rfl, w.s _ _ ha, w.s _ _ hb, by rw [r.length, r2.length]; exact hz, fun p hp => ?_⟩
      obtain ⟨G', g, q⟩ := w.newL hp (r.append r2)
      exact k _ _ _ g q
/-! ### in -/
def flatD : D → Bool
  | .none => true
  | .bool _ => true
  | .int _ => true
  | .str _ => true
  | _ => false
def eqF : D → D → Bool
  | .none, .none => true
  | .bool a, .bool b => a == b
  | .bool a, .int b => (if a then 1 else 0) == b
  | .int a, .bool b => a == (if b then 1 else 0)
  | .int a, .int b => a == b
  | .str a, .str b => a == b
  | _, _ => false
theorem flat_v {G : Hp} {v : V} (r : Rep G v x) (h : flatD x = true) : flatV v = true := by
  cases r <;> first
    | rfl
    | exact absurd (show false = true from h) Bool.false_ne_true
theorem flat_vs {G : Hp} : ∀ {vs : List V} {ds : List D}, Reps G vs ds → ds.all flatD = true → vs.all flatV = true
  | _, _, .nil, _ => rfl
  | _, _, .cons h r, f => by
    rw [List.all_cons, Bool.and_eq_true] at f
    rw [List.all_cons, flat_v h f.1, flat_vs r f.2]; rfl
theorem eqF_v {G : Hp} {v u : V} (rv : Rep G v x) (ru : Rep G u y) (h1 : flatD x = true) (h2 : flatD y = true) : eqV v u = eqF x y := by
  cases rv <;> first
    | exact absurd (show false = true from h1) Bool.false_ne_true
    | (cases ru <;> first
        | exact absurd (show false = true from h2) Bool.false_ne_true
        | rfl)
theorem inF_v {G : Hp} {v : V} (rv : Rep G v x) (h1 : flatD x = true) : ∀ {vs : List V} {ds : List D}, Reps G vs ds → ds.all flatD = true → inV v vs = ds.any fun e => eqF e x
  | _, _, .nil, _ => rfl
  | _, _, .cons h r, f => by
    rw [List.all_cons, Bool.and_eq_true] at f
    have ih := inF_v rv h1 r f.2
    unfold inV at ih ⊢
    rw [List.any_cons, List.any_cons, ih, eqF_v h rv f.1 h1]
theorem od_inL (hx : flatD x = true) (hs : ds.all flatD = true) : OpD T (rIn K false) x (.list ds) (.bool (ds.any fun e => eqF e x)) := fun G H a b Q w ra rb k => by
  cases rb with
  | lst hb r =>
    refine ⟨_, _, rfl, .inl (SqL.of (w.s _ _ hb)), flat_v ra hx, flat_vs r hs, ?_⟩
    rw [show (if false then !inV a _ else inV a _) = inV a _ from rfl, inF_v ra hx r hs]
    exact k _ G H w.go (.bl _)
theorem od_sign {c : Nat} {s : Str} : OpD T (fun x y H Q => ∃ (c : Nat) (z : Str), x = .str ⟨#[c]⟩ ∧ y = .str z ∧ Q (.bl (decide (c ∈ z.cps.toList))) H) (.str ⟨#[c]⟩) (.str s) (.bool (decide (c ∈ s.cps.toList))) := fun G H _ _ Q w ra rb k => by
  cases ra; cases rb
  exact ⟨c, s, rfl, rfl, k _ G H w.go (.bl _)⟩
/-! ### calls of built-ins -/
theorem cl_lenT : ClD T (fun xs H Q => ∃ x n, xs = [x] ∧ LenV K x H n ∧ Q (.int n) H) [.tuple ds] (.int (ds.length : Nat)) := fun G H vs Q w r k => by
  cases r with
  | cons h t =>
    cases t
    cases h with
    | tup hp r => exact ⟨_, _, rfl, .inr ⟨_, SqT.of (w.s _ _ hp), r.length.symm⟩, k _ G H w.go (.int _)⟩
theorem cl_lenL : ClD T (fun xs H Q => ∃ x n, xs = [x] ∧ LenV K x H n ∧ Q (.int n) H) [.list ds] (.int (ds.length : Nat)) := fun G H vs Q w r k => by
  cases r with
  | cons h t =>
    cases t
    cases h with
    | lst hp r => exact ⟨_, _, rfl, .inl ⟨_, SqL.of (w.s _ _ hp), r.length.symm⟩, k _ G H w.go (.int _)⟩
theorem cl_lenS {s : Str} (hz : s.length ≤ sizeLine) : ClD T (fun xs H Q => ∃ x n, xs = [x] ∧ LenV K x H n ∧ Q (.int n) H) [.str s] (.int (s.length : Nat)) := fun G H vs Q w r k => by
  cases r with
  | cons h t =>
    cases t
    cases h
    exact ⟨_, _, rfl, ⟨hz, rfl⟩, k _ G H w.go (.int _)⟩
theorem cl_sum {ns : List Int} : ClD T (rSum K) [.list (ns.map .int)] (.int ns.sum) := fun G H vs Q w r k => by
  cases r with
  | cons h t =>
    cases t
    cases h with
    | lst hp r =>
      have e := r.ints
      subst e
      exact ⟨_, ns, rfl, SqL.of (w.s _ _ hp), k _ G H w.go (.int _)⟩
theorem cl_all {bs : List Bool} : ClD T (rAll K) [.list (bs.map .bool)] (.bool (bs.all id)) := fun G H vs Q w r k => by
  cases r with
  | cons h t =>
    cases t
    cases h with
    | lst hp r =>
      have e := r.bls
      subst e
      exact ⟨_, bs, rfl, SqL.of (w.s _ _ hp), k _ G H w.go (.bl _)⟩
theorem cl_any {bs : List Bool} : ClD T (rAny K) [.list (bs.map .bool)] (.bool (bs.any id)) := fun G H vs Q w r k => by
  cases r with
  | cons h t =>
    cases t
    cases h with
    | lst hp r =>
      have e := r.bls
      subst e
      exact ⟨_, bs, rfl, SqL.of (w.s _ _ hp), k _ G H w.go (.bl _)⟩
theorem cl_listT : ClD T (fun xs H Q => ∃ p ys, xs = [.ref p] ∧ (SqL K H p ys ∨ SqT K H p ys) ∧ ∀ l, H l = none → Q (.ref l) (upd H l (.lst ys))) [.tuple ds] (.list ds) := fun G H vs Q w r k => by
  cases r with
  | cons h t =>
    cases t
    cases h with
    | tup hp r =>
      refine ⟨_, _, rfl, .inr (SqT.of (w.s _ _ hp)), fun p hp => ?_⟩
      obtain ⟨G', g, q⟩ := w.newL hp r
      exact k _ _ _ g q
theorem cl_listL : ClD T (fun xs H Q => ∃ p ys, xs = [.ref p] ∧ (SqL K H p ys ∨ SqT K H p ys) ∧ ∀ l, H l = none → Q (.ref l) (upd H l (.lst ys))) [.list ds] (.list ds) := fun G H vs Q w r k => by
  cases r with
  | cons h t =>
    cases t
    cases h with
    | lst hp r =>
      refine ⟨_, _, rfl, .inl (SqL.of (w.s _ _ hp)), fun p hp => ?_⟩
      obtain ⟨G', g, q⟩ := w.newL hp r
      exact k _ _ _ g q
theorem cl_tupL : ClD T (fun xs H Q => ∃ p ys, xs = [.ref p] ∧ ((SqL K H p ys ∧ ∀ l, H l = none → Q (.ref l) (upd H l (.tup ys))) ∨ (SqT K H p ys ∧ Q (.ref p) H))) [.list ds] (.tuple ds) := fun G H vs Q w r k => by
  cases r with
  | cons h t =>
    cases t
    cases h with
    | lst hp r =>
      refine ⟨_, _, rfl, .inl ⟨SqL.of (w.s _ _ hp), fun p hp => ?_⟩⟩
      obtain ⟨G', g, q⟩ := w.newT hp r
      exact k _ _ _ g q
theorem cl_abs {i : Int} : ClD T (fun xs H Q => ∃ i, xs = [.int i] ∧ Q (.int (if i < 0 then -i else i)) H) [.int i] (.int (if i < 0 then -i else i)) := fun G H vs Q w r k => by
  cases r with
  | cons h t =>
    cases t
    cases h
    exact ⟨_, rfl, k _ G H w.go (.int _)⟩
theorem cl_min2 {i j : Int} : ClD T (fun xs H Q => ∃ i j, xs = [.int i, .int j] ∧ Q (.int (if j < i then j else i)) H) [.int i, .int j] (.int (if j < i then j else i)) := fun G H vs Q w r k => by
  cases r with
  | cons h t =>
    cases h
    cases t with
    | cons h t =>
      cases h; cases t
      exact ⟨_, _, rfl, k _ G H w.go (.int _)⟩
theorem cl_intB {b : Bool} : ClD T (fun xs H Q => (∃ i, xs = [.int i] ∧ Q (.int i) H) ∨ ∃ k, xs = [.bl k] ∧ Q (.int (if k then 1 else 0)) H) [.bool b] (.int (if b then 1 else 0)) := fun G H vs Q w r k => by
  cases r with
  | cons h t =>
    cases t
    cases h
    exact .inr ⟨b, rfl, k _ G H w.go (.int _)⟩
theorem cl_sort (h : SortD ds) : ClD T (rSortD K) [.list ds] (.list (srt ds)) := fun G H vs Q w r k => by
  cases r with
  | cons q t =>
    cases t
    cases q with
    | lst hp r =>
      refine ⟨G, _, _, ds, rfl, SqL.of (w.s _ _ hp), w.s, r, h, fun p ys hq ry => ?_⟩
      obtain ⟨G', g, q⟩ := w.newL hq ry
      exact k _ _ _ g q
theorem cl_min (h : OrdD (d :: ds)) : ClD T (rMinD K) [.list (d :: ds)] (minL d ds) := fun G H vs Q w r k => by
  cases r with
  | cons q t =>
    cases t
    cases q with
    | lst hp r => exact ⟨G, _, _, d, ds, rfl, SqL.of (w.s _ _ hp), w.s, r, h, fun x rx => k x G H w.go rx⟩
theorem cl_max (h : OrdD (d :: ds)) : ClD T (rMaxD K) [.list (d :: ds)] (maxL d ds) := fun G H vs Q w r k => by
  cases r with
  | cons q t =>
    cases t
    cases q with
    | lst hp r => exact ⟨G, _, _, d, ds, rfl, SqL.of (w.s _ _ hp), w.s, r, h, fun x rx => k x G H w.go rx⟩
def minO : List D → D
  | [] => .none
  | d :: ds => minL d ds
/-! ### isinstance -/
def tyD : D → String
  | .none => "NoneType" | .bool _ => "bool" | .int _ => "int" | .str _ => "str" | .list _ => "list" | .tuple _ => "tuple" | _ => "dict"
theorem tyD_ok {G H : Hp} {v : V} (r : Rep G v x) (s : Sub G H) (hn : isNone x = false) (hd : ∀ es, x ≠ .dict es) : TyX K H v (.type (tyD x)) := by
  cases r with
  | non => cases hn
  | bl b => exact .base (.bl b)
  | int b => exact .base (.int b)
  | str b => exact .base (.str b)
  | tup h r => exact .base (.tup (s _ _ h))
  | lst h r => exact .base (.lst (s _ _ h))
  | dk h r => exact absurd rfl (hd _)
  | dt h r => exact absurd rfl (hd _)
  | fz h n p => exact absurd rfl (hd _)
  | fs h n => exact absurd rfl (hd _)
  | ptr a => exact absurd rfl (hd _)
/-- isinstance(x, a built-in type) -/
theorem ev_isi {n : String} {b : Bool} (h : Ev T ta ρ x) (hx : isNone x = false) (hd : ∀ es, x ≠ .dict es) (e : kitB (tyD x) n = some b) : Ev T (tCB (rIsi K) (tCons ta (tCons (tC (.ty n)) tNil))) ρ (.bool b) := fun G0 H0 G H σ Q S k =>
  h G0 H0 G H σ _ S fun v G1 H1 g r => ⟨v, .ty n, .type (tyD x), .type n, b, rfl, .ty n, tyD_ok r g.w.s hx hd, kit_ty e, k _ G1 H1 g (.bl b)⟩
/-- min(l, default=None) -/
theorem ev_minDf (h : Ev T ta ρ (.list ds)) (ok : OrdD ds) : Ev T (tCKw (rMinDf K) (tCons ta tNil) (tCons (tC .non) tNil)) ρ (minO ds) := fun G0 H0 G H σ Q S k =>
  h G0 H0 G H σ _ S fun v G1 H1 g r => by
    cases r with
    | lst hp r =>
      refine ⟨G1, _, _, ds, rfl, rfl, SqL.of (g.w.s _ _ hp), g.w.s, r, ok, fun e => ?_, fun d es e x rx => ?_⟩
      · subst e; exact k _ G1 H1 g .non
      · subst e; exact k _ G1 H1 g rx
/-! ### slices, join, texts walked -/
theorem ev_slS {s : Str} {lo hi : Option Int} {tl th : TO} (h : Ev T ta ρ (.str s)) (hl : ∀ {G0 H0 G H σ Q}, Sta T G0 H0 G H σ ρ → (∀ G' H', Go T G H G' H' → Q lo H') → tl σ H Q) (hh : ∀ {G0 H0 G H σ Q}, Sta T G0 H0 G H σ ρ → (∀ G' H', Go T G H G' H' → Q hi H') → th σ H Q) (hz : s.length ≤ sizeLine) :
    Ev T (L2.tSl rSlS ta tl th) ρ (.str (cutS s lo hi)) := fun G0 H0 G H σ Q S k =>
  h G0 H0 G H σ _ S fun v G1 H1 g r => by
    cases r
    exact hl (S.next g) fun G2 H2 g2 => hh (S.next (g.trans g2)) fun G3 H3 g3 => ⟨s, rfl, hz, k _ G3 H3 ((g.trans g2).trans g3) (.str _)⟩
def cutD (ds : List D) (lo hi : Option Int) : List D := (ds.drop (HT.sIx ds.length 0 lo)).take (HT.sIx ds.length ds.length hi - HT.sIx ds.length 0 lo)
theorem ev_slL {lo hi : Option Int} {tl th : TO} (h : Ev T ta ρ (.list ds)) (hl : ∀ {G0 H0 G H σ Q}, Sta T G0 H0 G H σ ρ → (∀ G' H', Go T G H G' H' → Q lo H') → tl σ H Q) (hh : ∀ {G0 H0 G H σ Q}, Sta T G0 H0 G H σ ρ → (∀ G' H', Go T G H G' H' → Q hi H') → th σ H Q) :
    Ev T (L2.tSl (rSlL K) ta tl th) ρ (.list (cutD ds lo hi)) := fun G0 H0 G H σ Q S k =>
  h G0 H0 G H σ _ S fun v G1 H1 g r => by
    cases r with
    | lst hp r =>
      refine hl (S.next g) fun G2 H2 g2 => hh (S.next (g.trans g2)) fun G3 H3 g3 => ⟨_, _, rfl, SqL.of (g3.w.s _ _ (g3.g _ _ (g2.g _ _ hp))), fun p hq => ?_⟩
      obtain ⟨G', g4, q⟩ := g3.w.newL hq (((r.mono g2.g).mono g3.g).drop _ |>.take _)
      refine k _ _ _ (((g.trans g2).trans g3).trans g4) ?_
      unfold cutD
      rw [← r.length]
      exact q
theorem to_no {G0 H0 G H : Hp} {σ : L2.St} {Q : Option Int → Hp → Prop} (S : Sta T G0 H0 G H σ ρ) (k : ∀ G' H', Go T G H G' H' → Q none H') : tNoPart σ H Q := k G H S.wf.go
theorem to_ev {i : Int} (h : Ev T ta ρ (.int i)) {G0 H0 G H : Hp} {σ : L2.St} {Q : Option Int → Hp → Prop} (S : Sta T G0 H0 G H σ ρ) (k : ∀ G' H', Go T G H G' H' → Q (some i) H') : tPart ta σ H Q :=
  h G0 H0 G H σ _ S fun v G1 H1 g r => by
    cases r
    exact ⟨i, rfl, k G1 H1 g⟩
theorem ev_join {a : Str} {ys : List Str} (ho : Ev T ta ρ (.str a)) (he : Ev T tb ρ (.list (ys.map .str))) (hz : (ys.map (·.length)).sum + ys.length * a.length ≤ 16777216) :
    Ev T (tM1 (fun x xs H Q => ∃ a p, ∃ ys : List Str, x = .str a ∧ xs = [.ref p] ∧ (SqL K H p (ys.map V.str) ∨ SqT K H p (ys.map V.str)) ∧ (ys.map (·.length)).sum + ys.length * a.length ≤ 16777216 ∧ Q (.str (Txt.join a ys)) H) ta tb) ρ (.str (Txt.join a ys)) := fun G0 H0 G H σ Q S k =>
  ho G0 H0 G H σ _ S fun v G1 H1 g r => by
    cases r
    refine ⟨⟨a, rfl⟩, he G0 H0 G1 H1 σ _ (S.next g) fun u G2 H2 g2 r2 => ?_⟩
    cases r2 with
    | lst hp r =>
      have e := r.strs
      subst e
      exact ⟨a, _, ys, rfl, rfl, .inl (SqL.of (g2.w.s _ _ hp)), hz, k _ G2 H2 (g.trans g2) (.str _)⟩
def signs (s : Str) : List D := s.cps.toList.map fun c => .str ⟨#[c]⟩
theorem ei_str {s : Str} (h : Ev T te ρ (.str s)) : EvI T (iStr te) ρ (signs s) := fun G0 H0 G H σ Q S k => h G0 H0 G H σ _ S fun v G1 H1 g r => by
  cases r
  have hl : (signs s).length = s.cps.size := by unfold signs; simp
  refine ⟨s, rfl, k _ G1 H1 g ⟨fun G2 H2 i _ _ hi => ?_, fun G2 H2 i _ _ hi => ?_, fun G2 H2 i x H3 d _ w hd y => ?_⟩⟩
  · show i < s.cps.size
    omega
  · show s.cps.size ≤ i
    omega
  · obtain ⟨rfl, c, hc, rfl⟩ := y
    unfold signs at hd
    rw [List.getElem?_map, Array.getElem?_toList, hc] at hd
    cases hd
    exact ⟨G2, w.go, .str _⟩
def rngDn (lo : Int) (n : Nat) : List D := (List.range n).map fun (i : Nat) => PyData.int (lo + (i : Int) * (-1))
theorem ei_rngDn {i j : Int} (h : EvA T t ρ [.int i, .int j, .int (-1)]) (h1 : -(2 ^ 62) ≤ i ∧ i < 2 ^ 62 ∧ -(2 ^ 62) ≤ j ∧ j < 2 ^ 62) : EvI T (iRng3 t) ρ (rngDn i (i - j).toNat) := fun G0 H0 G H σ Q S k => h G0 H0 G H σ _ S fun vs G1 H1 g r => by
  cases r with
  | cons a b =>
    cases a
    cases b with
    | cons a b =>
      cases a
      cases b with
      | cons a b =>
        cases a; cases b
        have hl : (rngDn i (i - j).toNat).length = (i - j).toNat := by unfold rngDn; simp
        refine ⟨i, j, -1, (i - j).toNat, rfl, RgC.neg h1.1 h1.2.1 h1.2.2.1 h1.2.2.2, k _ G1 H1 g ⟨fun _ _ m _ _ hi => by rw [hl] at hi; exact hi, fun _ _ m _ _ hi => by rw [hl] at hi; exact hi, fun G2 H2 m x H3 d _ w hd y => ?_⟩⟩
        obtain ⟨rfl, rfl⟩ := y
        unfold rngDn at hd
        rw [List.getElem?_map] at hd
        by_cases hm : m < (i - j).toNat
        · rw [List.getElem?_range hm] at hd; cases hd; exact ⟨G2, w.go, .int _⟩
        · rw [List.getElem?_eq_none (by simpa using hm)] at hd; cases hd
end
end Pf
set_option Elab.async false
set_option linter.all false
set_option maxRecDepth 100000
set_option maxHeartbeats 4000000
namespace Pf
open PySem
open RZ
/-! ### zip of two tuples, strict or not, whatever holds the tuples it made -/
abbrev ZX (h : Heap) (z TI TO : Addr) (f0 : Value) (f1 b : Bool) : Prop :=
  h.get? z = some { cls := .type "zip", dict := none, data := .fields #[f0, .bool f1, .bool b, .ref TI, .ref TO], slots := #[] }
def zdraw (b : Bool) (it : Value) : Sem (Option Value) := if b then Builtin.SmallTypes.nextOrEnd it else (do return some (← Builtin.SmallTypes.nextOf it))
section
variable {prog : Program} {w : World} {A : Around} {E : Value → Shared → Prop} {s : Shared}
theorem zdraw_item {b : Bool} {it l : Addr} {i : Nat} {items : Array Value} {x : Value} {Q : Option Value → Shared → Prop} (hit : s.heap.IsTupleIter it l i) (hl : s.heap.IsTuple l items) (hx : items[i]? = some x)
    (hQ : ∀ h', h'.IsTupleIter it l (i + 1) → Heap.SameBut it s.heap h' → Q (some x) { s with heap := h' }) : wpAny (model prog w) A (zdraw b (.ref it)) Q E s := by
  cases b with
  | false => exact wpAny_bind (nextOf_tuple_item hit hl hx fun h' a c => wpAny_pure (hQ h' a c))
  | true =>
    show wpAny _ _ (Builtin.SmallTypes.nextOrEnd (.ref it)) _ _ _
    unfold Builtin.SmallTypes.nextOrEnd
    exact wpAny_bind (wpAny_attempt (nextOf_tuple_item hit hl hx fun h' a c => wpAny_pure (hQ h' a c)))
theorem zend {it l : Addr} {i : Nat} {items : Array Value} {Q : Option Value → Shared → Prop} (hh : A.handled = none) (hit : s.heap.IsTupleIter it l i) (hl : s.heap.IsTuple l items) (hx : items[i]? = none)
    (hQ : ∀ h', Heap.ExtBut it s.heap h' → Q none { s with heap := h' }) : wpAny (model prog w) A (Builtin.SmallTypes.nextOrEnd (.ref it)) Q E s := by
  unfold Builtin.SmallTypes.nextOrEnd
  refine wpAny_bind (wpAny_attempt (nextOf_tuple_end hh hit hl hx fun h' e k ⟨o, ho, hc⟩ => ?_))
  exact wpAny_bind (wpAny_isInstance (T := "StopIteration") (b := true) ⟨o, ho, hc⟩ isSubtype_stop (wpAny_pure (hQ h' k)))
theorem zfree {z TI TO : Addr} {f0 : Value} {f1 b : Bool} {Q : Bool → Shared → Prop} (hz : ZX s.heap z TI TO f0 f1 b) (hf : f0 = .none ∨ ∃ T : Nat, f0 = rawInt (T : Int))
    (h : ∀ r h' f1', ZX h' z TI TO f0 f1' b → Heap.SameBut z s.heap h' → Q r { s with heap := h' }) : wpAny (model prog w) A (Builtin.SmallTypes.ownedTupleIsFree (.ref z)) Q E s := by
  unfold Builtin.SmallTypes.ownedTupleIsFree
  refine wpAny_bind (wpAny_field hz rfl (x := f0) rfl ?_)
  rcases hf with rfl | ⟨T, rfl⟩
  · exact wpAny_pure (h true s.heap f1 hz (Heap.SameBut.refl _ _))
  · show wpAny _ _ (loadIfAlive ((T : Int).toNat) >>= _) _ _ _
    have key : ∀ o : Option Obj, wpAny (model prog w) A (do
        if o.isNone then return true
        if (← field (.ref z) 1) != .bool true then setField (.ref z) 1 (.bool true)
        return false) Q E s := fun o => by
      cases o with
      | none => exact wpAny_pure (h true s.heap f1 hz (Heap.SameBut.refl _ _))
      | some u =>
        simp only [Option.isNone_some, Bool.false_eq_true, if_false]
        refine wpAny_bind (wpAny_field hz rfl (x := .bool f1) rfl ?_)
        cases f1 with
        | true =>
          rw [if_neg (show ¬ ((Value.bool true != Value.bool true) = true) from Bool.false_ne_true)]
          exact wpAny_pure (h false s.heap true hz (Heap.SameBut.refl _ _))
        | false =>
          rw [if_pos (show (Value.bool false != Value.bool true) = true from rfl)]
          exact wpAny_bind (wpAny_setField_rec hz (by simp) fun h₁ hz₁ hs₁ => wpAny_pure (h false h₁ true hz₁ hs₁))
    refine wpAny_bind (show wpAny _ _ (loadIfAlive _) _ _ _ from fun _ _ _ => ?_)
    exact key _
end
end Pf
set_option Elab.async false
set_option linter.all false
set_option maxRecDepth 100000
set_option maxHeartbeats 4000000
namespace Pf
open PySem
open RZ
section
variable {prog : Program} {w : World} {A : Around} {E : Value → Shared → Prop} {s : Shared}
theorem zx_item {b f1 : Bool} {f0 : Value} {z TI TO i1 i2 l1 l2 : Addr} {k1 k2 : Nat} {xs ys : Array Value} {x y a c : Value} {Q : Value → Shared → Prop} (D : ZipApart z TI TO i1 i2 l1 l2)
    (hz : ZX s.heap z TI TO f0 f1 b) (hf : f0 = .none ∨ ∃ T : Nat, f0 = rawInt (T : Int)) (hTI : IsPair s.heap TI (.ref i1) (.ref i2)) (hTO : IsPair s.heap TO a c)
    (h1 : s.heap.IsTupleIter i1 l1 k1) (h2 : s.heap.IsTupleIter i2 l2 k2) (hl1 : s.heap.IsTuple l1 xs) (hl2 : s.heap.IsTuple l2 ys) (hx : xs[k1]? = some x) (hy : ys[k2]? = some y)
    (hQ : ∀ p h' f0' f1' a' c', ZX h' z TI TO f0' f1' b → (f0' = .none ∨ ∃ T : Nat, f0' = rawInt (T : Int)) → IsPair h' TO a' c' → h'.IsTupleIter i1 l1 (k1 + 1) → h'.IsTupleIter i2 l2 (k2 + 1) → IsPair h' p x y → s.heap.objs.size ≤ p →
      (∀ d o, d ≠ z → d ≠ TO → d ≠ i1 → d ≠ i2 → s.heap.get? d = some o → h'.get? d = some o) → Q (.ref p) { s with heap := h' }) :
    wpAny (model prog w) A (Builtin.«zip.__next__» ⟨[.ref z], []⟩) (fun fin s' => ∃ v, fin = .done (.ret v) ∧ Q v s') E s := by
  cases b
  · show wpAny _ _ (field (.ref z) 2 >>= _) _ _ _
    refine wpAny_bind (wpAny_field hz rfl (x := .bool false) rfl ?_)
    show wpAny _ _ (field (.ref z) 3 >>= _) _ _ _
    refine wpAny_bind (wpAny_field hz rfl (x := .ref TI) rfl (wpAny_bind (wpAny_seqItems hTI rfl ?_)))
    show wpAny _ _ (Builtin.SmallTypes.ownedTupleIsFree (.ref z) >>= _) _ _ _
    refine wpAny_bind (zfree hz hf fun r h₁ f1' hz₁ hs₁ => ?_)
    have hTO₁ : IsPair h₁ TO a c := hs₁.extBut _ _ D.TOz hTO
    have i1₁ : h₁.IsTupleIter i1 l1 k1 := h1.extBut hs₁.extBut D.i1z
    have i2₁ : h₁.IsTupleIter i2 l2 k2 := h2.extBut hs₁.extBut D.i2z
    have t1₁ : h₁.IsTuple l1 xs := hl1.extBut hs₁.extBut D.l1z
    have t2₁ : h₁.IsTuple l2 ys := hl2.extBut hs₁.extBut D.l2z
    cases r with
    | true =>
      simp only [if_true]
      refine wpAny_bind (wpAny_rule (wpAny_bind (wpAny_field hz₁ rfl (x := .ref TO) rfl (wpAny_bind (wpAny_setField_rec hz₁ (by simp) fun h₂ hz₂ hs₂ => ?_)))))
      refine wpAny_bind ?_
      simp only [List.zipIdx_cons, List.zipIdx_nil, List.forIn_cons, List.forIn_nil]
      refine wpAny_bind (wpAny_bind (wpAny_onRaise ?_))
      show wpAny _ _ (zdraw false (.ref i1)) _ _ _
      refine zdraw_item (i1₁.extBut hs₂.extBut D.i1z) (t1₁.extBut hs₂.extBut D.l1z) hx fun h₃ j1 hs₃ => ?_
      have hTO₃ : IsPair h₃ TO a c := hs₃.extBut _ _ D.TOi1 (hs₂.extBut _ _ D.TOz hTO₁)
      refine wpAny_bind (wpAny_seqItems hTO₃ rfl (wpAny_bind (wpAny_updateSeq_pair hTO₃ fun h₄ hTO₄ hs₄ => ?_)))
      replace hTO₄ : IsPair h₄ TO x c := hTO₄
      refine wpAny_bind (wpAny_letGo (wpAny_pure ?_))
      refine wpAny_bind (wpAny_bind (wpAny_onRaise ?_))
      show wpAny _ _ (zdraw false (.ref i2)) _ _ _
      refine zdraw_item (((i2₁.extBut hs₂.extBut D.i2z).extBut hs₃.extBut D.i12.symm).extBut hs₄.extBut D.TOi2.symm) (((t2₁.extBut hs₂.extBut D.l2z).extBut hs₃.extBut D.l2i1).extBut hs₄.extBut D.l2TO) hy fun h₅ j2 hs₅ => ?_
      have hTO₅ : IsPair h₅ TO x c := hs₅.extBut _ _ D.TOi2 hTO₄
      refine wpAny_bind (wpAny_seqItems hTO₅ rfl (wpAny_bind (wpAny_updateSeq_pair hTO₅ fun h₆ hTO₆ hs₆ => ?_)))
      replace hTO₆ : IsPair h₆ TO x y := hTO₆
      refine wpAny_bind (wpAny_letGo (wpAny_pure (wpAny_pure ?_)))
      refine wpAny_bind (wpAny_seqItems hTO₆ rfl (wpAny_bind (wpAny_newTuple ?_)))
      have hsz : h₆.objs.size = s.heap.objs.size := by rw [hs₆.1, hs₅.1, hs₄.1, hs₃.1, hs₂.1, hs₁.1]
      have e4 : ∀ d o, d ≠ z → d ≠ TO → d ≠ i1 → h₁.get? d = some o → h₄.get? d = some o := fun d o n1 n2 n3 e => hs₄.extBut _ _ n2 (hs₃.extBut _ _ n3 (hs₂.extBut _ _ n1 e))
      have e6 : ∀ d o, d ≠ TO → d ≠ i2 → h₄.get? d = some o → h₆.get? d = some o := fun d o n1 n2 e => hs₆.extBut _ _ n1 (hs₅.extBut _ _ n2 e)
      have hz₆ : ZX h₆ z TI TO .ellipsis f1' false := e6 _ _ D.TOz.symm D.i2z.symm (hs₄.extBut _ _ D.TOz.symm (hs₃.extBut _ _ D.i1z.symm hz₂))
      have j1₆ : h₆.IsTupleIter i1 l1 (k1 + 1) := (((j1.extBut hs₄.extBut D.TOi1.symm).extBut hs₅.extBut D.i12).extBut hs₆.extBut D.TOi1.symm)
      have j2₆ : h₆.IsTupleIter i2 l2 (k2 + 1) := j2.extBut hs₆.extBut D.TOi2.symm
      have lz := Heap.lt_size hz₆
      show wpAny _ _ (Builtin.SmallTypes.ownedTupleHandOut (.ref z) (.ref h₆.objs.size) >>= _) _ _ _
      refine wpAny_bind ?_
      unfold Builtin.SmallTypes.ownedTupleHandOut
      refine wpAny_bind (wpAny_setField_rec (Heap.get?_push_of_some _ hz₆) (by simp) fun h₇ hz₇ hs₇ => wpAny_setField_rec hz₇ (by simp) fun h₈ hz₈ hs₈ => wpAny_pure ⟨_, rfl, ?_⟩)
      have up : ∀ d o, d ≠ z → h₆.get? d = some o → h₈.get? d = some o := fun d o n e => hs₈.extBut _ _ n (hs₇.extBut _ _ n (Heap.get?_push_of_some _ e))
      have new : h₈.get? h₆.objs.size = some { cls := .type "tuple", data := .seq #[x, y] } := hs₈.extBut _ _ (Nat.ne_of_gt lz) (hs₇.extBut _ _ (Nat.ne_of_gt lz) (Heap.get?_push_size _ rfl))
      refine hQ h₆.objs.size h₈ (rawInt h₆.objs.size) false x y hz₈ (.inr ⟨_, rfl⟩) (up _ _ D.TOz hTO₆) (j1₆.at fun o e => up _ o D.i1z e) (j2₆.at fun o e => up _ o D.i2z e) new (by rw [hsz]; exact Nat.le_refl _) fun d o n1 n2 n3 n4 e => up _ _ n1 (e6 _ _ n2 n4 (e4 _ _ n1 n2 n3 (hs₁.extBut _ _ n1 e)))
    | false =>
      simp only [Bool.false_eq_true, if_false]
      refine wpAny_bind ?_
      rw [← Array.forIn_toList]
      simp only [List.forIn_cons, List.forIn_nil]
      refine wpAny_bind (wpAny_bind (wpAny_holding ?_))
      show wpAny _ _ (zdraw false (.ref i1)) _ _ _
      refine zdraw_item (s := { s with heap := h₁ }) i1₁ t1₁ hx fun h₃ j1 hs₃ => wpAny_pure ?_
      refine wpAny_bind (wpAny_bind (wpAny_holding ?_))
      show wpAny _ _ (zdraw false (.ref i2)) _ _ _
      refine zdraw_item (s := { s with heap := h₃ }) (i2₁.extBut hs₃.extBut D.i12.symm) (t2₁.extBut hs₃.extBut D.l2i1) hy fun h₅ j2 hs₅ => wpAny_pure (wpAny_pure ?_)
      show wpAny _ _ (newTuple [x, y] >>= _) _ _ _
      refine wpAny_bind (wpAny_newTuple (wpAny_pure ⟨_, rfl, ?_⟩))
      have hsz : h₅.objs.size = s.heap.objs.size := by rw [hs₅.1, hs₃.1, hs₁.1]
      have e5 : ∀ d o, d ≠ i1 → d ≠ i2 → h₁.get? d = some o → h₅.get? d = some o := fun d o n1 n2 e => hs₅.extBut _ _ n2 (hs₃.extBut _ _ n1 e)
      have hz₅ : ZX h₅ z TI TO f0 f1' false := e5 _ _ D.i1z.symm D.i2z.symm hz₁
      refine hQ h₅.objs.size _ f0 f1' a c (Heap.get?_push_of_some _ hz₅) hf (Heap.get?_push_of_some _ (e5 _ _ D.TOi1 D.TOi2 hTO₁)) ((j1.extBut hs₅.extBut D.i12).at fun o e => Heap.get?_push_of_some _ e) (j2.at fun o e => Heap.get?_push_of_some _ e)
        (Heap.get?_push_size _ rfl) (by rw [hsz]; exact Nat.le_refl _) fun d o n1 n2 n3 n4 e => Heap.get?_push_of_some _ (e5 _ _ n3 n4 (hs₁.extBut _ _ n1 e))
  · show wpAny _ _ (field (.ref z) 2 >>= _) _ _ _
    refine wpAny_bind (wpAny_field hz rfl (x := .bool true) rfl ?_)
    show wpAny _ _ (field (.ref z) 3 >>= _) _ _ _
    refine wpAny_bind (wpAny_field hz rfl (x := .ref TI) rfl (wpAny_bind (wpAny_seqItems hTI rfl ?_)))
    show wpAny _ _ (Builtin.SmallTypes.ownedTupleIsFree (.ref z) >>= _) _ _ _
    refine wpAny_bind (zfree hz hf fun r h₁ f1' hz₁ hs₁ => ?_)
    have hTO₁ : IsPair h₁ TO a c := hs₁.extBut _ _ D.TOz hTO
    have i1₁ : h₁.IsTupleIter i1 l1 k1 := h1.extBut hs₁.extBut D.i1z
    have i2₁ : h₁.IsTupleIter i2 l2 k2 := h2.extBut hs₁.extBut D.i2z
    have t1₁ : h₁.IsTuple l1 xs := hl1.extBut hs₁.extBut D.l1z
    have t2₁ : h₁.IsTuple l2 ys := hl2.extBut hs₁.extBut D.l2z
    cases r with
    | true =>
      simp only [if_true]
      refine wpAny_bind (wpAny_rule (wpAny_bind (wpAny_field hz₁ rfl (x := .ref TO) rfl (wpAny_bind (wpAny_setField_rec hz₁ (by simp) fun h₂ hz₂ hs₂ => ?_)))))
      refine wpAny_bind ?_
      simp only [List.zipIdx_cons, List.zipIdx_nil, List.forIn_cons, List.forIn_nil]
      refine wpAny_bind (wpAny_bind (wpAny_onRaise ?_))
      show wpAny _ _ (zdraw true (.ref i1)) _ _ _
      refine zdraw_item (i1₁.extBut hs₂.extBut D.i1z) (t1₁.extBut hs₂.extBut D.l1z) hx fun h₃ j1 hs₃ => ?_
      have hTO₃ : IsPair h₃ TO a c := hs₃.extBut _ _ D.TOi1 (hs₂.extBut _ _ D.TOz hTO₁)
      refine wpAny_bind (wpAny_seqItems hTO₃ rfl (wpAny_bind (wpAny_updateSeq_pair hTO₃ fun h₄ hTO₄ hs₄ => ?_)))
      replace hTO₄ : IsPair h₄ TO x c := hTO₄
      refine wpAny_bind (wpAny_letGo (wpAny_pure ?_))
      refine wpAny_bind (wpAny_bind (wpAny_onRaise ?_))
      show wpAny _ _ (zdraw true (.ref i2)) _ _ _
      refine zdraw_item (((i2₁.extBut hs₂.extBut D.i2z).extBut hs₃.extBut D.i12.symm).extBut hs₄.extBut D.TOi2.symm) (((t2₁.extBut hs₂.extBut D.l2z).extBut hs₃.extBut D.l2i1).extBut hs₄.extBut D.l2TO) hy fun h₅ j2 hs₅ => ?_
      have hTO₅ : IsPair h₅ TO x c := hs₅.extBut _ _ D.TOi2 hTO₄
      refine wpAny_bind (wpAny_seqItems hTO₅ rfl (wpAny_bind (wpAny_updateSeq_pair hTO₅ fun h₆ hTO₆ hs₆ => ?_)))
      replace hTO₆ : IsPair h₆ TO x y := hTO₆
      refine wpAny_bind (wpAny_letGo (wpAny_pure (wpAny_pure ?_)))
      refine wpAny_bind (wpAny_seqItems hTO₆ rfl (wpAny_bind (wpAny_newTuple ?_)))
      have hsz : h₆.objs.size = s.heap.objs.size := by rw [hs₆.1, hs₅.1, hs₄.1, hs₃.1, hs₂.1, hs₁.1]
      have e4 : ∀ d o, d ≠ z → d ≠ TO → d ≠ i1 → h₁.get? d = some o → h₄.get? d = some o := fun d o n1 n2 n3 e => hs₄.extBut _ _ n2 (hs₃.extBut _ _ n3 (hs₂.extBut _ _ n1 e))
      have e6 : ∀ d o, d ≠ TO → d ≠ i2 → h₄.get? d = some o → h₆.get? d = some o := fun d o n1 n2 e => hs₆.extBut _ _ n1 (hs₅.extBut _ _ n2 e)
      have hz₆ : ZX h₆ z TI TO .ellipsis f1' true := e6 _ _ D.TOz.symm D.i2z.symm (hs₄.extBut _ _ D.TOz.symm (hs₃.extBut _ _ D.i1z.symm hz₂))
      have j1₆ : h₆.IsTupleIter i1 l1 (k1 + 1) := (((j1.extBut hs₄.extBut D.TOi1.symm).extBut hs₅.extBut D.i12).extBut hs₆.extBut D.TOi1.symm)
      have j2₆ : h₆.IsTupleIter i2 l2 (k2 + 1) := j2.extBut hs₆.extBut D.TOi2.symm
      have lz := Heap.lt_size hz₆
      show wpAny _ _ (Builtin.SmallTypes.ownedTupleHandOut (.ref z) (.ref h₆.objs.size) >>= _) _ _ _
      refine wpAny_bind ?_
      unfold Builtin.SmallTypes.ownedTupleHandOut
      refine wpAny_bind (wpAny_setField_rec (Heap.get?_push_of_some _ hz₆) (by simp) fun h₇ hz₇ hs₇ => wpAny_setField_rec hz₇ (by simp) fun h₈ hz₈ hs₈ => wpAny_pure ⟨_, rfl, ?_⟩)
      have up : ∀ d o, d ≠ z → h₆.get? d = some o → h₈.get? d = some o := fun d o n e => hs₈.extBut _ _ n (hs₇.extBut _ _ n (Heap.get?_push_of_some _ e))
      have new : h₈.get? h₆.objs.size = some { cls := .type "tuple", data := .seq #[x, y] } := hs₈.extBut _ _ (Nat.ne_of_gt lz) (hs₇.extBut _ _ (Nat.ne_of_gt lz) (Heap.get?_push_size _ rfl))
      refine hQ h₆.objs.size h₈ (rawInt h₆.objs.size) false x y hz₈ (.inr ⟨_, rfl⟩) (up _ _ D.TOz hTO₆) (j1₆.at fun o e => up _ o D.i1z e) (j2₆.at fun o e => up _ o D.i2z e) new (by rw [hsz]; exact Nat.le_refl _) fun d o n1 n2 n3 n4 e => up _ _ n1 (e6 _ _ n2 n4 (e4 _ _ n1 n2 n3 (hs₁.extBut _ _ n1 e)))
    | false =>
      simp only [Bool.false_eq_true, if_false]
      refine wpAny_bind ?_
      rw [← Array.forIn_toList]
      simp only [List.forIn_cons, List.forIn_nil]
      refine wpAny_bind (wpAny_bind (wpAny_holding ?_))
      show wpAny _ _ (zdraw true (.ref i1)) _ _ _
      refine zdraw_item (s := { s with heap := h₁ }) i1₁ t1₁ hx fun h₃ j1 hs₃ => wpAny_pure ?_
      refine wpAny_bind (wpAny_bind (wpAny_holding ?_))
      show wpAny _ _ (zdraw true (.ref i2)) _ _ _
      refine zdraw_item (s := { s with heap := h₃ }) (i2₁.extBut hs₃.extBut D.i12.symm) (t2₁.extBut hs₃.extBut D.l2i1) hy fun h₅ j2 hs₅ => wpAny_pure (wpAny_pure ?_)
      show wpAny _ _ (newTuple [x, y] >>= _) _ _ _
      refine wpAny_bind (wpAny_newTuple (wpAny_pure ⟨_, rfl, ?_⟩))
      have hsz : h₅.objs.size = s.heap.objs.size := by rw [hs₅.1, hs₃.1, hs₁.1]
      have e5 : ∀ d o, d ≠ i1 → d ≠ i2 → h₁.get? d = some o → h₅.get? d = some o := fun d o n1 n2 e => hs₅.extBut _ _ n2 (hs₃.extBut _ _ n1 e)
      have hz₅ : ZX h₅ z TI TO f0 f1' true := e5 _ _ D.i1z.symm D.i2z.symm hz₁
      refine hQ h₅.objs.size _ f0 f1' a c (Heap.get?_push_of_some _ hz₅) hf (Heap.get?_push_of_some _ (e5 _ _ D.TOi1 D.TOi2 hTO₁)) ((j1.extBut hs₅.extBut D.i12).at fun o e => Heap.get?_push_of_some _ e) (j2.at fun o e => Heap.get?_push_of_some _ e)
        (Heap.get?_push_size _ rfl) (by rw [hsz]; exact Nat.le_refl _) fun d o n1 n2 n3 n4 e => Heap.get?_push_of_some _ (e5 _ _ n3 n4 (hs₁.extBut _ _ n1 e))
theorem zstop {α : Type} {Q : α → Shared → Prop} (hh : A.handled = none) (hE : ∀ h' e, (∀ d o, s.heap.get? d = some o → h'.get? d = some o) → (∃ o, h'.get? e = some o ∧ o.cls = .type "StopIteration") → E (.ref e) { s with heap := h' }) :
    wpAny (model prog w) A (Builtin.SmallTypes.stopIteration (α := α)) Q E s := by
  unfold Builtin.SmallTypes.stopIteration
  refine wpAny_bind ?_
  simp only [newExc, newTuple]
  refine wpAny_bind (wpAny_newObj_type ?_ (by size_fits))
  refine wpAny_bind (m := firstArgMember _ _) (wpAny_of_eq (a := Value.none) (by first | rfl | (simp only [firstArgMember]; rfl)) ?_)
  refine wpAny_newObj_type ?_ (by size_fits)
  simp only [raiseNew]
  refine wpAny_bind (wpAny_handled ?_)
  rw [hh]
  refine wpAny_bind (wpAny_pure (wpAny_throw ?_))
  exact hE _ _ (fun d o e => Heap.get?_push_of_some _ (Heap.get?_push_of_some _ e)) ⟨_, Heap.get?_push_size _ rfl, rfl⟩
theorem zx_end {b f1 : Bool} {f0 : Value} {z TI TO i1 i2 l1 l2 : Addr} {k1 k2 : Nat} {xs ys : Array Value} {a c : Value} {Q : Fin → Shared → Prop} (hh : A.handled = none) (D : ZipApart z TI TO i1 i2 l1 l2)
    (hz : ZX s.heap z TI TO f0 f1 b) (hf : f0 = .none ∨ ∃ T : Nat, f0 = rawInt (T : Int)) (hTI : IsPair s.heap TI (.ref i1) (.ref i2)) (hTO : IsPair s.heap TO a c)
    (h1 : s.heap.IsTupleIter i1 l1 k1) (h2 : s.heap.IsTupleIter i2 l2 k2) (hl1 : s.heap.IsTuple l1 xs) (hl2 : s.heap.IsTuple l2 ys) (hx : xs[k1]? = none) (hy : ys[k2]? = none)
    (hE : ∀ h' e, (∀ d o, d ≠ z → d ≠ TO → d ≠ i1 → d ≠ i2 → s.heap.get? d = some o → h'.get? d = some o) → (∃ o, h'.get? e = some o ∧ o.cls = .type "StopIteration") → E (.ref e) { s with heap := h' }) :
    wpAny (model prog w) A (Builtin.«zip.__next__» ⟨[.ref z], []⟩) Q E s := by
  cases b
  · show wpAny _ _ (field (.ref z) 2 >>= _) _ _ _
    refine wpAny_bind (wpAny_field hz rfl (x := .bool false) rfl ?_)
    show wpAny _ _ (field (.ref z) 3 >>= _) _ _ _
    refine wpAny_bind (wpAny_field hz rfl (x := .ref TI) rfl (wpAny_bind (wpAny_seqItems hTI rfl ?_)))
    show wpAny _ _ (Builtin.SmallTypes.ownedTupleIsFree (.ref z) >>= _) _ _ _
    refine wpAny_bind (zfree hz hf fun r h₁ f1' hz₁ hs₁ => ?_)
    have i1₁ : h₁.IsTupleIter i1 l1 k1 := h1.extBut hs₁.extBut D.i1z
    have i2₁ : h₁.IsTupleIter i2 l2 k2 := h2.extBut hs₁.extBut D.i2z
    have t1₁ : h₁.IsTuple l1 xs := hl1.extBut hs₁.extBut D.l1z
    have t2₁ : h₁.IsTuple l2 ys := hl2.extBut hs₁.extBut D.l2z
    cases r with
    | true =>
      simp only [if_true]
      refine wpAny_bind (wpAny_rule (wpAny_bind (wpAny_field hz₁ rfl (x := .ref TO) rfl (wpAny_bind (wpAny_setField_rec hz₁ (by simp) fun h₂ hz₂ hs₂ => ?_)))))
      refine wpAny_bind ?_
      simp only [List.zipIdx_cons, List.zipIdx_nil, List.forIn_cons, List.forIn_nil]
      refine wpAny_bind (wpAny_bind (wpAny_onRaise ?_))
      show wpAny _ _ (Builtin.SmallTypes.nextOf (.ref i1) >>= _) _ _ _
      refine wpAny_bind (nextOf_tuple_end hh (i1₁.extBut hs₂.extBut D.i1z) (t1₁.extBut hs₂.extBut D.l1z) hx fun h₃ e hs₃ ⟨oe, ho, hc⟩ => ?_)
      have hz₃ : ZX h₃ z TI TO .ellipsis f1' false := hs₃ _ _ D.i1z.symm hz₂
      have ne : e ≠ z := fun q => by subst q; rw [hz₃] at ho; cases ho; simp at hc
      refine wpAny_setField_rec hz₃ (by simp) fun h₄ _ hs₄ => hE h₄ e (fun d o n1 _ n3 _ q => hs₄.extBut _ _ n1 (hs₃ _ _ n3 (hs₂.extBut _ _ n1 (hs₁.extBut _ _ n1 q)))) ⟨oe, hs₄.extBut _ _ ne ho, hc⟩
    | false =>
      simp only [Bool.false_eq_true, if_false]
      refine wpAny_bind ?_
      rw [← Array.forIn_toList]
      simp only [List.forIn_cons, List.forIn_nil]
      refine wpAny_bind (wpAny_bind (wpAny_holding ?_))
      show wpAny _ _ (Builtin.SmallTypes.nextOf (.ref i1) >>= _) _ _ _
      refine wpAny_bind (nextOf_tuple_end (s := { s with heap := h₁ }) hh i1₁ t1₁ hx fun h₃ e hs₃ he => ?_)
      exact hE h₃ e (fun d o n1 _ n3 _ q => hs₃ _ _ n3 (hs₁.extBut _ _ n1 q)) he
  · show wpAny _ _ (field (.ref z) 2 >>= _) _ _ _
    refine wpAny_bind (wpAny_field hz rfl (x := .bool true) rfl ?_)
    show wpAny _ _ (field (.ref z) 3 >>= _) _ _ _
    refine wpAny_bind (wpAny_field hz rfl (x := .ref TI) rfl (wpAny_bind (wpAny_seqItems hTI rfl ?_)))
    show wpAny _ _ (Builtin.SmallTypes.ownedTupleIsFree (.ref z) >>= _) _ _ _
    refine wpAny_bind (zfree hz hf fun r h₁ f1' hz₁ hs₁ => ?_)
    have i1₁ : h₁.IsTupleIter i1 l1 k1 := h1.extBut hs₁.extBut D.i1z
    have i2₁ : h₁.IsTupleIter i2 l2 k2 := h2.extBut hs₁.extBut D.i2z
    have t1₁ : h₁.IsTuple l1 xs := hl1.extBut hs₁.extBut D.l1z
    have t2₁ : h₁.IsTuple l2 ys := hl2.extBut hs₁.extBut D.l2z
    cases r with
    | true =>
      simp only [if_true]
      refine wpAny_bind (wpAny_rule (wpAny_bind (wpAny_field hz₁ rfl (x := .ref TO) rfl (wpAny_bind (wpAny_setField_rec hz₁ (by simp) fun h₂ hz₂ hs₂ => ?_)))))
      refine wpAny_bind ?_
      simp only [List.zipIdx_cons, List.zipIdx_nil, List.forIn_cons, List.forIn_nil]
      refine wpAny_bind (wpAny_bind (wpAny_onRaise ?_))
      show wpAny _ _ (Builtin.SmallTypes.nextOrEnd (.ref i1)) _ _ _
      refine zend hh (i1₁.extBut hs₂.extBut D.i1z) (t1₁.extBut hs₂.extBut D.l1z) hx fun h₃ hs₃ => ?_
      have hz₃ : ZX h₃ z TI TO .ellipsis f1' true := hs₃ _ _ D.i1z.symm hz₂
      refine wpAny_bind (wpAny_setField_rec hz₃ (by simp) fun h₄ _ hs₄ => ?_)
      have i2₄ : h₄.IsTupleIter i2 l2 k2 := ((i2₁.extBut hs₂.extBut D.i2z).extBut hs₃ D.i12.symm).extBut hs₄.extBut D.i2z
      have t2₄ : h₄.IsTuple l2 ys := ((t2₁.extBut hs₂.extBut D.l2z).extBut hs₃ D.l2i1).extBut hs₄.extBut D.l2z
      refine wpAny_bind ?_
      refine wpAny_bind ?_
      show wpAny _ _ (forIn [(Value.ref i2, 1)] _ _) _ _ _
      simp only [List.forIn_cons, List.forIn_nil]
      refine wpAny_bind (wpAny_bind (zend (s := { s with heap := h₄ }) hh i2₄ t2₄ hy fun h₅ k5 => ?_))
      refine wpAny_pure (wpAny_pure (wpAny_bind (wpAny_rule ?_)))
      refine zstop (s := { s with heap := h₅ }) hh fun h₆ e k6 he => hE h₆ e (fun d o n1 _ n3 n4 q => k6 _ _ (k5 _ _ n4 (hs₄.extBut _ _ n1 (hs₃ _ _ n3 (hs₂.extBut _ _ n1 (hs₁.extBut _ _ n1 q)))))) he
    | false =>
      simp only [Bool.false_eq_true, if_false]
      refine wpAny_bind ?_
      rw [← Array.forIn_toList]
      simp only [List.forIn_cons, List.forIn_nil]
      refine wpAny_bind (wpAny_bind (wpAny_holding ?_))
      show wpAny _ _ (Builtin.SmallTypes.nextOrEnd (.ref i1)) _ _ _
      refine zend (s := { s with heap := h₁ }) hh i1₁ t1₁ hx fun h₃ hs₃ => ?_
      have i2₃ : h₃.IsTupleIter i2 l2 k2 := i2₁.extBut hs₃ D.i12.symm
      have t2₃ : h₃.IsTuple l2 ys := t2₁.extBut hs₃ D.l2i1
      refine wpAny_bind ?_
      refine wpAny_bind ?_
      show wpAny _ _ (forIn [(Value.ref i2, 1)] _ _) _ _ _
      simp only [List.forIn_cons, List.forIn_nil]
      refine wpAny_bind (wpAny_bind (zend (s := { s with heap := h₃ }) hh i2₃ t2₃ hy fun h₅ k5 => ?_))
      refine wpAny_pure (wpAny_pure (wpAny_bind (wpAny_rule ?_)))
      refine zstop (s := { s with heap := h₅ }) hh fun h₆ e k6 he => hE h₆ e (fun d o n1 _ n3 n4 q => k6 _ _ (k5 _ _ n4 (hs₃ _ _ n3 (hs₁.extBut _ _ n1 q)))) he
end
end Pf
set_option Elab.async false
set_option linter.all false
set_option maxRecDepth 100000
set_option maxHeartbeats 4000000
namespace Pf
open PySem
open RZ
/-- a zip z of the tuples l1, l2 of one length n, i pairs drawn -/
structure ZS (b : Bool) (z TI TO i1 i2 l1 l2 : Addr) (xs ys : Array Value) (h : Heap) (i : Nat) : Prop where
  zz : ∃ f0 f1 a c, ZX h z TI TO f0 f1 b ∧ (f0 = .none ∨ ∃ T : Nat, f0 = rawInt (T : Int)) ∧ IsPair h TO a c
  ti : IsPair h TI (.ref i1) (.ref i2)
  k1 : h.IsTupleIter i1 l1 i
  k2 : h.IsTupleIter i2 l2 i
  t1 : h.IsTuple l1 xs
  t2 : h.IsTuple l2 ys
section
variable {b : Bool} {z TI TO i1 i2 l1 l2 : Addr} {xs ys : Array Value} {h h' : Heap} {i : Nat}
theorem ZS.kept (Z : ZS b z TI TO i1 i2 l1 l2 xs ys h i) (k : ∀ d o, h.get? d = some o → (d = z ∨ d = TI ∨ d = TO ∨ d = i1 ∨ d = i2 ∨ d = l1 ∨ d = l2) → h'.get? d = some o) : ZS b z TI TO i1 i2 l1 l2 xs ys h' i := by
  obtain ⟨⟨f0, f1, a, c, q1, q2, q3⟩, q4, q5, q6, q7, q8⟩ := Z
  exact ⟨⟨f0, f1, a, c, k _ _ q1 (by simp), q2, k _ _ q3 (by simp)⟩, k _ _ q4 (by simp), q5.at fun o e => k _ o e (by simp), q6.at fun o e => k _ o e (by simp), q7.at fun o e => k _ o e (by simp), q8.at fun o e => k _ o e (by simp)⟩
end
section
variable {prog : Program} {w : World} {A : Around} {E : Value → Shared → Prop} {s : Shared}
variable {b : Bool} {z TI TO i1 i2 l1 l2 : Addr} {xs ys : Array Value}
theorem znext_item {i : Nat} {x y : Value} {Q : Option Value → Shared → Prop} (D : ZipApart z TI TO i1 i2 l1 l2) (Z : ZS b z TI TO i1 i2 l1 l2 xs ys s.heap i) (hx : xs[i]? = some x) (hy : ys[i]? = some y)
    (hQ : ∀ p h', ZS b z TI TO i1 i2 l1 l2 xs ys h' (i + 1) → IsPair h' p x y → s.heap.objs.size ≤ p → (∀ d o, d ≠ z → d ≠ TO → d ≠ i1 → d ≠ i2 → s.heap.get? d = some o → h'.get? d = some o) → Q (some (.ref p)) { s with heap := h' }) :
    wpAny (model prog w) A (pyNext (.ref z)) Q E s := by
  obtain ⟨⟨f0, f1, a, c, q1, q2, q3⟩, q4, q5, q6, q7, q8⟩ := Z
  have hT : s.TypeIs (.ref z) "zip" := ⟨_, q1, rfl⟩
  unfold pyNext
  refine wpAny_bind (wpAny_attempt (wpAny_callSpecial?_slot (name := Str.ofString "__next__") hT F.slot_zip_next (wpAny_call_entry F.slot_zip_next hT F.entry_zip_next
    (zx_item D q1 q2 q4 q3 q5 q6 q7 q8 hx hy fun p h' f0' f1' a' c' a1 a2 a3 a4 a5 a6 a7 a8 => wpAny_pure ?_) (F.args_zip_next_1 _))))
  exact hQ p h' ⟨⟨_, _, _, _, a1, a2, a3⟩, a8 _ _ D.TIz D.TITO D.TIi1 D.TIi2 q4, a4, a5, q7.at fun o e => a8 _ o D.l1z D.l1TO D.l1i1 D.l1i2 e, q8.at fun o e => a8 _ o D.l2z D.l2TO D.l2i1 D.l2i2 e⟩ a6 a7 a8
theorem znext_end {i : Nat} {Q : Option Value → Shared → Prop} (hh : A.handled = none) (D : ZipApart z TI TO i1 i2 l1 l2) (Z : ZS b z TI TO i1 i2 l1 l2 xs ys s.heap i) (hx : xs[i]? = none) (hy : ys[i]? = none)
    (hQ : ∀ h', (∀ d o, d ≠ z → d ≠ TO → d ≠ i1 → d ≠ i2 → s.heap.get? d = some o → h'.get? d = some o) → Q none { s with heap := h' }) : wpAny (model prog w) A (pyNext (.ref z)) Q E s := by
  obtain ⟨⟨f0, f1, a, c, q1, q2, q3⟩, q4, q5, q6, q7, q8⟩ := Z
  have hT : s.TypeIs (.ref z) "zip" := ⟨_, q1, rfl⟩
  unfold pyNext
  refine wpAny_bind (wpAny_attempt (wpAny_callSpecial?_slot (name := Str.ofString "__next__") hT F.slot_zip_next (wpAny_call_entry F.slot_zip_next hT F.entry_zip_next
    (zx_end hh D q1 q2 q4 q3 q5 q6 q7 q8 hx hy fun h' e hk ⟨o, ho, hc⟩ => ?_) (F.args_zip_next_1 _))))
  exact wpAny_bind (wpAny_isInstance (T := "StopIteration") (b := true) ⟨o, ho, hc⟩ isSubtype_stop (wpAny_pure (hQ _ hk)))
theorem ne_ge {a n p : Nat} (h : a < n) (h2 : n ≤ p) : p ≠ a := Nat.ne_of_gt (Nat.lt_of_lt_of_le h h2)
theorem zloop {R : Result → Shared → Prop} (hh : A.handled = none) (D : ZipApart z TI TO i1 i2 l1 l2) (hn : xs.size = ys.size) (hz : xs.size ≤ sizeLine) (S : Addr) (hS : S ≠ z ∧ S ≠ TI ∧ S ≠ TO ∧ S ≠ i1 ∧ S ≠ i2 ∧ S ≠ l1 ∧ S ≠ l2) (res : Value) (n0 : Nat) :
    ∀ (k i : Nat) (s : Shared) (acc : Array Value) (c : Nat) (ps : List Addr), xs.size - i = k → i ≤ xs.size → ZS b z TI TO i1 i2 l1 l2 xs ys s.heap i → s.heap.get? S = some { cls := .type "list", dict := none, data := .seq acc c, slots := #[] } →
      acc.toList = ps.map Value.ref → ps.length = i → (∀ (j : Nat) (p : Addr), ps[j]? = some p → ∃ x y, xs[j]? = some x ∧ ys[j]? = some y ∧ IsPair s.heap p x y ∧ n0 ≤ p) → n0 ≤ s.heap.objs.size → S < n0 → z < n0 → TO < n0 → i1 < n0 → i2 < n0 →
    (∀ (h' : Heap) (acc' : Array Value) (c' : Nat) (ps' : List Addr), (∀ d o, d ≠ S → d ≠ z → d ≠ TO → d ≠ i1 → d ≠ i2 → s.heap.get? d = some o → h'.get? d = some o) → h'.get? S = some { cls := .type "list", dict := none, data := .seq acc' c', slots := #[] } →
      acc'.toList = ps'.map Value.ref → ps'.length = xs.size → (∀ (j : Nat) (p : Addr), ps'[j]? = some p → ∃ x y, xs[j]? = some x ∧ ys[j]? = some y ∧ IsPair h' p x y ∧ n0 ≤ p) → R (.ok (.ret res)) { s with heap := h' }) →
    codeAny (model prog w) A (.builtin "list.extend.loop" ⟨[.ref S, .ref z, res], []⟩) R s := by
  obtain ⟨s1, s2, s3, s4, s5, s6, s7⟩ := hS
  intro k
  induction k with
  | zero =>
    intro i s acc c ps hk hi Z hL ha hl hp m0 mS mz mT m1 m2 hR
    have hin : i = xs.size := by omega
    subst hin
    refine codeAny_builtin F.entry_extend_loop ?_
    rw [Around.under_plainId F.plain_extend_loop _]
    show wpAny _ A.in1 (pyNext (.ref z) >>= _) _ _ s
    refine wpAny_bind (znext_end hh D Z (Array.getElem?_eq_none (Nat.le_refl _)) (Array.getElem?_eq_none (by omega)) fun h' hk => wpAny_pure ?_)
    exact hR h' acc c ps (fun d o _ n1 n2 n3 n4 e => hk d o n1 n2 n3 n4 e) (hk _ _ s1 s3 s4 s5 hL) ha hl fun j p hj => by
      obtain ⟨x, y, e1, e2, e3, e4⟩ := hp j p hj
      exact ⟨x, y, e1, e2, hk _ _ (ne_ge mz e4) (ne_ge mT e4) (ne_ge m1 e4) (ne_ge m2 e4) e3, e4⟩
  | succ k ih =>
    intro i s acc c ps hk hi Z hL ha hl hp m0 mS mz mT m1 m2 hR
    have hlt : i < xs.size := by omega
    refine codeAny_builtin F.entry_extend_loop ?_
    rw [Around.under_plainId F.plain_extend_loop _]
    show wpAny _ A.in1 (pyNext (.ref z) >>= _) _ _ s
    have hx := Array.getElem?_eq_getElem hlt
    have hy := Array.getElem?_eq_getElem (show i < ys.size by omega)
    refine wpAny_bind (znext_item D Z hx hy fun p h' Z' hP hpn hkp => ?_)
    have hL' := hkp _ _ s1 s3 s4 s5 hL
    have hasz : acc.size = i := by rw [← hl, ← List.length_map (f := Value.ref) (as := ps), ← ha, Array.length_toList]
    have oth : ∀ d o, d ≠ S → h'.get? d = some o → (h'.update S (Obj.mapSeq (·.push (.ref p)))).get? d = some o := fun d o n e => (Heap.get?_update_other _ _ (Ne.symm n)).trans e
    show wpAny _ A.in1 (updateSeq S (·.push (.ref p)) >>= _) _ _ _
    refine wpAny_bind (wpAny_updateSeq hL' rfl (wpAny_pure ⟨plainId_quiet F.plain_extend_loop _, ?_⟩) (by rw [hasz]; omega) (by show (acc.push (.ref p)).size ≤ sizeLine + 1; rw [Array.size_push, hasz]; omega))
    refine ih (i + 1) _ (acc.push (.ref p)) _ (ps ++ [p]) (by omega) hlt (Z'.kept fun d o e hd => oth d o (by rintro rfl; rcases hd with e | e | e | e | e | e | e <;> contradiction) e) (Heap.get?_update_self _ hL' rfl) (by simp [ha]) (by simp [hl]) (fun j q hj => ?_) ?_ mS mz mT m1 m2 fun h'' acc' c' ps' a1 a2 a3 a4 a5 => ?_
    · by_cases hjl : j < ps.length
      · rw [List.getElem?_append_left hjl] at hj
        obtain ⟨x, y, e1, e2, e3, e4⟩ := hp j q hj
        exact ⟨x, y, e1, e2, oth _ _ (ne_ge mS e4) (hkp _ _ (ne_ge mz e4) (ne_ge mT e4) (ne_ge m1 e4) (ne_ge m2 e4) e3), e4⟩
      · rw [List.getElem?_append_right (by omega)] at hj
        have hjj : j = i := by
          have := (List.getElem?_eq_some_iff.mp hj).1
          simp at this; omega
        subst hjj
        rw [hl, Nat.sub_self] at hj
        cases hj
        exact ⟨_, _, hx, hy, oth _ _ (ne_ge mS (Nat.le_trans m0 hpn)) hP, Nat.le_trans m0 hpn⟩
    · show n0 ≤ (h'.update S _).objs.size
      rw [Heap.size_update]
      exact Nat.le_trans (Nat.le_trans m0 hpn) (Nat.le_of_lt (Heap.lt_size hP))
    · exact hR h'' acc' c' ps' (fun d o n0 n1 n2 n3 n4 e => a1 _ _ n0 n1 n2 n3 n4 (oth _ _ n0 (hkp _ _ n1 n2 n3 n4 e))) a2 a3 a4 a5
theorem zip_no_len : typeLookup (.type "zip") "__len__" = pure none := by rw [typeLookup_type, builtinLookup_eq_fast]; kernel_rfl
theorem zip_no_hint : typeLookup (.type "zip") "__length_hint__" = pure none := by rw [typeLookup_type, builtinLookup_eq_fast]; kernel_rfl
theorem zself {i : Nat} {Q : Value → Shared → Prop} (Z : ZS b z TI TO i1 i2 l1 l2 xs ys s.heap i) (h : Q (.ref z) s) : wpAny (model prog w) A (pyIter (.ref z)) Q E s := by
  obtain ⟨⟨f0, f1, a, c, q1, q2, q3⟩, _⟩ := Z
  have hT : s.TypeIs (.ref z) "zip" := ⟨_, q1, rfl⟩
  refine wpAny_pyIter_slot hT F.slot_zip_iter (wpAny_call_entry F.slot_zip_iter hT F.entry_zip_iter ?_ (F.args_zip_iter_1 _))
  show wpAny _ _ (ret (.ref z)) _ _ s
  exact wpAny_pure ⟨_, rfl, "zip", _, hT, F.slot_zip_next.lookup, h⟩
end
end Pf
set_option Elab.async false
set_option linter.all false
set_option maxRecDepth 100000
set_option maxHeartbeats 4000000
namespace Pf
open PySem
open RZ
section
variable {prog : Program} {w : World} {A : Around} {E : Value → Shared → Prop} {s : Shared}
variable {b : Bool} {z TI TO i1 i2 l1 l2 : Addr} {xs ys : Array Value}
/-- list(z) -/
theorem zlist {Q : Value → Shared → Prop} (hh : A.handled = none) (D : ZipApart z TI TO i1 i2 l1 l2) (hn : xs.size = ys.size) (hz : xs.size ≤ sizeLine) (Z : ZS b z TI TO i1 i2 l1 l2 xs ys s.heap 0)
    (hQ : ∀ (h' : Heap) (acc : Array Value) (c : Nat) (ps : List Addr), (∀ d o, d ≠ z → d ≠ TO → d ≠ i1 → d ≠ i2 → s.heap.get? d = some o → h'.get? d = some o) → h'.get? s.heap.objs.size = some { cls := .type "list", dict := none, data := .seq acc c, slots := #[] } →
      acc.toList = ps.map Value.ref → ps.length = xs.size → (∀ (j : Nat) (p : Addr), ps[j]? = some p → ∃ x y, xs[j]? = some x ∧ ys[j]? = some y ∧ IsPair h' p x y ∧ s.heap.objs.size + 1 ≤ p) → Q (.ref s.heap.objs.size) { s with heap := h' }) :
    wpAny (model prog w) A (call (.type "list") [.ref z]) Q E s := by
  obtain ⟨⟨f0, f1, a0, c0, q1, q2, q3⟩, q4, ⟨o5, q5, r5⟩, ⟨o6, q6, r6⟩, ⟨o7, q7, r7⟩, ⟨o8, q8, r8⟩⟩ := id Z
  have lz := Heap.lt_size q1
  have lTO := Heap.lt_size q3
  have lTI := Heap.lt_size q4
  have lk1 := Heap.lt_size q5
  have lk2 := Heap.lt_size q6
  have ll1 := Heap.lt_size q7
  have ll2 := Heap.lt_size q8
  have hS : (s.heap.push { cls := .type "list", data := .seq #[] }).get? s.heap.objs.size = some { cls := .type "list", data := .seq #[] } := Heap.get?_push_size _ rfl
  refine callType_codes (Q₁ := fun obj s₁ => obj = .ref s.heap.objs.size ∧ s₁ = { s with heap := s.heap.push { cls := .type "list", data := .seq #[] } }) F.called_list (F.typeCall_list_1 _) F.entry_list_init (code_list_new _ ⟨rfl, rfl⟩) fun obj s₁ h₁ => ?_
  obtain ⟨rfl, rfl⟩ := h₁
  refine ⟨⟨_, hS, rfl⟩, F.args_list_init_2 _ _, ?_⟩
  have Z1 : ZS b z TI TO i1 i2 l1 l2 xs ys (s.heap.push { cls := .type "list", data := .seq #[] }) 0 := Z.kept fun d o e _ => Heap.get?_push_of_some _ e
  show wpAny _ _ (do let old ← Builtin.List.listItems (.ref s.heap.objs.size); Builtin.List.listUpdate (.ref s.heap.objs.size) (fun _ => #[]); letGo old.toList.reverse; Builtin.List.listExtendWith (.ref s.heap.objs.size) (.ref z) .none) _ _ _
  refine wpAny_bind ?_
  unfold Builtin.List.listItems
  refine wpAny_bind (wpAny_seqItems hS rfl (wpAny_pure ?_))
  show wpAny _ _ (updateSeq s.heap.objs.size (fun _ => #[]) >>= fun _ => letGo (#[] : Array Value).toList.reverse >>= fun _ => Builtin.List.listExtendWith (.ref s.heap.objs.size) (.ref z) .none) _ _ _
  refine wpAny_bind (wpAny_updateSeq hS rfl ?_)
  have hS₂ := Heap.get?_update_self (Obj.mapSeq (fun _ => (#[] : Array Value))) hS rfl
  generalize hH2 : (s.heap.push { cls := .type "list", data := .seq #[] }).update s.heap.objs.size (Obj.mapSeq (fun _ => (#[] : Array Value))) = H2 at hS₂ ⊢
  have e2 : ∀ d o, d ≠ s.heap.objs.size → s.heap.get? d = some o → H2.get? d = some o := fun d o n e => by rw [← hH2]; exact (Heap.get?_update_other _ _ (Ne.symm n)).trans (Heap.get?_push_of_some _ e)
  have Z2 : ZS b z TI TO i1 i2 l1 l2 xs ys H2 0 := Z.kept fun d o e _ => e2 d o (Nat.ne_of_lt (Heap.lt_size e)) e
  refine wpAny_bind (wpAny_letGo ?_)
  obtain ⟨⟨g0, g1, ga, gc, p1, p2, p3⟩, _⟩ := id Z2
  have hT : (show Shared from { s with heap := H2 }).TypeIs (.ref z) "zip" := ⟨_, p1, rfl⟩
  unfold Builtin.List.listExtendWith
  refine wpAny_bind (wpAny_typeOf hT ?_)
  have h1 : Builtin.List.listSameRef (.ref s.heap.objs.size) (.ref z) = false := by simp [Builtin.List.listSameRef, Nat.ne_of_gt lz]
  have h2 : (Value.type "zip" == Value.type "list") = false := by decide
  have h3 : (Value.type "zip" == Value.type "tuple") = false := by decide
  simp only [h1, h2, h3, Bool.or_false, Bool.false_eq_true, if_false]
  refine wpAny_bind (zself (s := { s with heap := H2 }) Z2 (wpAny_bind (wpAny_holding ?_)))
  unfold Builtin.List.listLengthHint
  refine wpAny_bind (wpAny_specialOf hT zip_no_len ?_)
  show wpAny _ _ (specialOf (Value.ref z) (Str.ofString "__length_hint__") >>= _) _ _ _
  refine wpAny_bind (wpAny_specialOf hT zip_no_hint (wpAny_pure ?_))
  show wpAny _ _ (rule "list.extend.makes-room" >>= fun _ => Builtin.List.listTouch (.ref s.heap.objs.size) >>= fun _ => again (.builtin "list.extend.loop" ⟨[.ref s.heap.objs.size, .ref z, .none], []⟩)) _ _ _
  refine wpAny_bind (wpAny_rule (wpAny_bind ?_))
  show wpAny _ _ (updateSeq s.heap.objs.size (·.push .none) >>= fun _ => updateSeq s.heap.objs.size (·.pop)) _ _ _
  refine wpAny_bind (wpAny_updateSeq hS₂ rfl ?_)
  have hS₃ := Heap.get?_update_self (Obj.mapSeq (·.push Value.none)) hS₂ rfl
  refine wpAny_updateSeq (hz := by seq_fits) hS₃ rfl ?_
  have hS₄ := Heap.get?_update_self (Obj.mapSeq (·.pop)) hS₃ rfl
  have sz : s.heap.objs.size + 1 ≤ ((H2.update s.heap.objs.size (Obj.mapSeq (·.push Value.none))).update s.heap.objs.size (Obj.mapSeq (·.pop))).objs.size := Heap.lt_size hS₄
  generalize hH4 : (H2.update s.heap.objs.size (Obj.mapSeq (·.push Value.none))).update s.heap.objs.size (Obj.mapSeq (·.pop)) = H4 at hS₄ sz ⊢
  have e4 : ∀ d o, d ≠ s.heap.objs.size → s.heap.get? d = some o → H4.get? d = some o := fun d o n e => by
    rw [← hH4]
    exact (Heap.get?_update_other _ _ (Ne.symm n)).trans ((Heap.get?_update_other _ _ (Ne.symm n)).trans (e2 d o n e))
  have Z4 : ZS b z TI TO i1 i2 l1 l2 xs ys H4 0 := Z.kept fun d o e _ => e4 d o (Nat.ne_of_lt (Heap.lt_size e)) e
  refine wpAny_pure ⟨plainId_quiet F.plain_extend_loop _, ?_⟩
  refine zloop (A := A.in1) (s := { s with heap := H4 }) hh D hn hz s.heap.objs.size ⟨Nat.ne_of_gt lz, Nat.ne_of_gt lTI, Nat.ne_of_gt lTO, Nat.ne_of_gt lk1, Nat.ne_of_gt lk2, Nat.ne_of_gt ll1, Nat.ne_of_gt ll2⟩ .none (s.heap.objs.size + 1) _ 0 #[] _ [] rfl (Nat.zero_le _) Z4 hS₄ rfl rfl (fun j p hj => by simp at hj) sz (Nat.lt_succ_self _)
    (Nat.lt_succ_of_lt lz) (Nat.lt_succ_of_lt lTO) (Nat.lt_succ_of_lt lk1) (Nat.lt_succ_of_lt lk2) fun h' acc' c' ps' k1 k2 k3 k4 k5 => ⟨rfl, ?_⟩
  exact hQ h' acc' c' ps' (fun d o n1 n2 n3 n4 e => k1 d o (Nat.ne_of_lt (Heap.lt_size e)) n1 n2 n3 n4 (e4 d o (Nat.ne_of_lt (Heap.lt_size e)) e)) k2 k3 k4 k5
end
end Pf
set_option Elab.async false
set_option linter.all false
set_option maxRecDepth 100000
set_option maxHeartbeats 4000000
namespace Pf
open PySem
open RZ
theorem zs_typeCall (a b c : Value) : checkTypeCall "zip" ⟨[a, b], [(Str.ofString "strict", c)]⟩ = pure () := by kernel_rfl
theorem zs_newCall (a b c : Value) : checkBuiltinCall "zip.__new__" ⟨[.type "zip", a, b], [(Str.ofString "strict", c)]⟩ = pure () := by kernel_rfl
theorem zs_args (obj a b c : Value) : argsOk "object.__init__" ⟨[obj, a, b], [(Str.ofString "strict", c)]⟩ := by unfold argsOk; kernel_rfl
abbrev zsH5 (h : Heap) (l1 l2 : Addr) : Heap := (zipTH4 h l1 l2).push { cls := .type "zip", data := .fields #[.none, .bool false, .bool true, .ref (zipTH2 h l1 l2).objs.size, .ref (zipTH3 h l1 l2).objs.size] }
theorem zs_meets (l1 l2 : Addr) (xs ys : Array Value) :
    Meets (Builtin.«zip.__new__» ⟨[.type "zip", .ref l1, .ref l2], [(Str.ofString "strict", .bool true)]⟩) (fun _ R s => s.heap.IsTuple l1 xs ∧ s.heap.IsTuple l2 ys ∧
      R (.ok (.ret (.ref (zipTH4 s.heap l1 l2).objs.size))) { s with heap := zsH5 s.heap l1 l2 }) :=
  .of_wp fun prog w A R s h => by
    obtain ⟨hp, g, d, tk, os⟩ := s; obtain ⟨hl1, hl2, h⟩ := h
    have hsub := sub_zip
    have hL1 : Heap.IsTuple (Shared.heap ⟨hp, g, d, tk, os⟩) l1 xs := hl1
    have hL2 : Heap.IsTuple (Shared.heap ⟨hp.push { cls := .type "tuple_iterator", data := .fields #[.ref l1, .int 0 0] }, g, d, tk, os⟩) l2 ys := Heap.IsTuple.push hl2 _
    have e1 : (Str.ofString "strict" == ("strict" : Str)) = true := by decide +kernel
    have e2 : (Str.ofString "strict" != ("strict" : Str)) = false := by decide +kernel
    wp_walk using wpAny_pyIter_tuple hL1, wpAny_pyIter_tuple hL2
    exact ⟨_, rfl, h⟩
section
variable {prog : Program} {w : World} {A : Around} {E : Value → Shared → Prop} {s : Shared}
theorem zs_call {l1 l2 : Addr} {xs ys : Array Value} {Q : Value → Shared → Prop} (hl1 : s.heap.IsTuple l1 xs) (hl2 : s.heap.IsTuple l2 ys)
    (h : ∀ h', ZS true (s.heap.objs.size + 4) (s.heap.objs.size + 2) (s.heap.objs.size + 3) s.heap.objs.size (s.heap.objs.size + 1) l1 l2 xs ys h' 0 → (∀ c o, s.heap.get? c = some o → h'.get? c = some o) → Q (.ref (s.heap.objs.size + 4)) { s with heap := h' }) :
    wpAny (model prog w) A (call (.type "zip") [.ref l1, .ref l2] [(Str.ofString "strict", .bool true)]) Q E s := by
  refine callType_newKw F.called_zip (by decide) (zs_typeCall _ _ _) (zs_newCall _ _ _) (fun obj => zs_args obj _ _ _) F.entry_zip_new (zs_meets l1 l2 xs ys) ⟨hl1, hl2, ?_⟩
  have z1 : (zipTH1 s.heap l1).objs.size = s.heap.objs.size + 1 := Heap.size_push ..
  have z2 : (zipTH2 s.heap l1 l2).objs.size = s.heap.objs.size + 2 := by rw [Heap.size_push, z1]
  have z3 : (zipTH3 s.heap l1 l2).objs.size = s.heap.objs.size + 3 := by rw [Heap.size_push, z2]
  have z4 : (zipTH4 s.heap l1 l2).objs.size = s.heap.objs.size + 4 := by rw [Heap.size_push, z3]
  have up : ∀ {a : Addr} {o : Obj}, (zipTH1 s.heap l1).get? a = some o → (zsH5 s.heap l1 l2).get? a = some o := fun e => Heap.get?_push_of_some _ (Heap.get?_push_of_some _ (Heap.get?_push_of_some _ (Heap.get?_push_of_some _ e)))
  have g5 : (zsH5 s.heap l1 l2).get? (zipTH4 s.heap l1 l2).objs.size = some _ := Heap.get?_push_size _ rfl
  have g4 : (zsH5 s.heap l1 l2).get? (zipTH3 s.heap l1 l2).objs.size = some _ := Heap.get?_push_of_some _ (Heap.get?_push_size _ rfl)
  have g3 : (zsH5 s.heap l1 l2).get? (zipTH2 s.heap l1 l2).objs.size = some _ := Heap.get?_push_of_some _ (Heap.get?_push_of_some _ (Heap.get?_push_size _ rfl))
  have g2 : (zsH5 s.heap l1 l2).get? (zipTH1 s.heap l1).objs.size = some _ := Heap.get?_push_of_some _ (Heap.get?_push_of_some _ (Heap.get?_push_of_some _ (Heap.get?_push_size _ rfl)))
  have g1 : (zsH5 s.heap l1 l2).get? s.heap.objs.size = some _ := up (Heap.get?_push_size _ rfl)
  have k : ∀ c o, s.heap.get? c = some o → (zsH5 s.heap l1 l2).get? c = some o := fun c o x => up (Heap.get?_push_of_some _ x)
  show _ ∧ _
  rw [z2, z3, z4] at g5
  rw [z1, z2] at g3
  rw [z3] at g4
  rw [z1] at g2
  rw [z4]
  exact ⟨⟨_, g5, rfl⟩, h _ ⟨⟨_, _, _, _, g5, .inl rfl, g4⟩, g3, ⟨_, g1, rfl, rfl⟩, ⟨_, g2, rfl, rfl⟩, hl1.at fun o e => k _ o e, hl2.at fun o e => k _ o e⟩ k⟩
theorem zp_call {l1 l2 : Addr} {xs ys : Array Value} {Q : Value → Shared → Prop} (hl1 : s.heap.IsTuple l1 xs) (hl2 : s.heap.IsTuple l2 ys)
    (h : ∀ h', ZS false (s.heap.objs.size + 4) (s.heap.objs.size + 2) (s.heap.objs.size + 3) s.heap.objs.size (s.heap.objs.size + 1) l1 l2 xs ys h' 0 → (∀ c o, s.heap.get? c = some o → h'.get? c = some o) → Q (.ref (s.heap.objs.size + 4)) { s with heap := h' }) :
    wpAny (model prog w) A (call (.type "zip") [.ref l1, .ref l2]) Q E s :=
  call_zipT hl1 hl2 fun h' a1 a2 a3 a4 a5 _ k => h h' ⟨⟨_, _, _, _, a1, .inl rfl, a3⟩, a2, a4, a5, hl1.at fun o e => k _ o e, hl2.at fun o e => k _ o e⟩ k
theorem zapart {n l1 l2 : Nat} (h1 : l1 < n) (h2 : l2 < n) : ZipApart (n + 4) (n + 2) (n + 3) n (n + 1) l1 l2 := by
  constructor <;> (show @Ne Nat _ _) <;> omega
/-- a built-in class called with keywords -/
theorem callWith_tyK {M : Model} {env : Env} {pos : Pos} {T : String} {e : Expr} {rest : List Expr} {kws : List Keyword} {Q : Value → Shared → Prop}
    (h : wpAny M A (spliced (backTo pos (starEach (e :: rest) env))) (fun vs s₁ => wpAny M A (evalAll ((backToKw pos (keywordEach kws env)).map (·.2)))
      (fun kvs s₂ => wpAny M A (call (.type T) vs (((backToKw pos (keywordEach kws env)).filterMap (·.1)).zip kvs)) Q E s₂) E s₁) E s)
    (he : backTo pos (starEach (e :: rest) env) = (false, eval e env) :: backTo pos (starEach rest env)) (hplain : (backTo pos (starEach (e :: rest) env)).any (·.1) = false)
    (hall : (backToKw pos (keywordEach kws env)).all (·.1.isSome) = true) (hkw : (backToKw pos (keywordEach kws env)).any (·.1.isNone) = false) :
    wpAny M A (callWith pos (.type T) [] (backTo pos (starEach (e :: rest) env)) (backToKw pos (keywordEach kws env))) Q E s := by
  have h' : wpAny M A (evalArgs (.type T) true (backTo pos (starEach (e :: rest) env)) (backToKw pos (keywordEach kws env))) (fun a s₁ => wpAny M A (call (.type T) ([] ++ a.pos) a.kw) Q E s₁) E s := by
    rw [he] at h ⊢
    exact PyProof.Rows.evalArgs_kwB hall h
  unfold callWith
  refine wpAny_bind (wpAny_holding (wpAny_mono h' (fun a s₁ h₁ => wpAny_bind (wpAny_standAt ?_)) fun _ _ x => x))
  simp only [hplain, hkw, Bool.or_false]
  refine wpAny_bind (wpAny_pure ?_)
  exact wpAny_bind (wpAny_mono h₁ (fun r s₂ hr => wpAny_bind (wpAny_holding (wpAny_point (wpAny_pure hr)))) fun _ _ x => x)
end
end Pf
set_option Elab.async false
set_option linter.all false
set_option maxRecDepth 100000
set_option maxHeartbeats 4000000
namespace Pf
open PySem L2
open RZ
open PyProof.Rows
section
variable {X : Cx} {pins : List (Addr × Obj)} {σ : L2.St} {H H2 : Hp} {s : Shared}
/-- many new objects at once -/
theorem inv_many {h' : Heap} {t' : Nat} (I : Inv X pins σ H s) (k : ∀ b o, s.heap.get? b = some o → h'.get? b = some o) (hs : ∀ a o, H a = some o → H2 a = some o)
    (hn : ∀ a o, H2 a = some o → H a = some o ∨ (s.heap.objs.size ≤ a ∧ ObjOk X.prog X.w H2 h' a o)) : Inv X pins σ H2 { s with heap := h', toks := t' } := by
  have lt : ∀ {b o}, s.heap.get? b = some o → ¬ s.heap.objs.size ≤ b := fun e => Nat.not_le_of_lt (Heap.lt_size e)
  refine I.un ⟨fun b o q _ _ _ => k b o q, fun b o q _ _ _ => ⟨o.slots, k b o q⟩, fun b o q n _ => ?_, fun b o q _ => ⟨o, k b o q⟩, fun b xs q => hs _ _ q, fun b o u q => hs _ _ q, fun b ps q => ⟨#[], by rw [hs _ _ q]; simp⟩⟩ fun a o e => ?_
  · cases q2 : H2 b with
    | none => rfl
    | some u =>
      rcases hn b u q2 with z | ⟨z, _⟩
      · rw [n] at z; cases z
      · exact absurd z (lt q)
  · rcases hn a o e with z | ⟨_, z⟩
    · exact (I.hok a o z).stay (fun b u _ q => k b u q) (fun b q => hs _ _ q) fun b xs q => hs _ _ q
    · exact z
def absPair (h : Heap) (a : Addr) : Option HO := match h.get? a with
  | some ⟨_, _, .seq its _, _⟩ => (match its.toList with
    | [u, v] => (match absV u, absV v with
      | some x, some y => some (.tup [x, y])
      | _, _ => none)
    | _ => none)
  | _ => none
theorem absPair_eq {h : Heap} {a : Addr} {u v : Value} {x y : V} (e : IsPair h a u v) (r1 : RelV x u) (r2 : RelV y v) : absPair h a = some (.tup [x, y]) := by
  unfold absPair
  rw [e]
  show (match absV u, absV v with
      | some x, some y => some (HO.tup [x, y])
      | _, _ => none) = _
  rw [r1.abs, r2.abs]
abbrev LzQ (H1 : Hp) (xs ys : List V) (Q : VK) : Prop := ∀ (H2 : Hp) (S : Addr) (ps : List Addr), Sub H1 H2 → (∀ a o, H2 a = some o → H1 a = some o ∨ (H1 a = none ∧ NotT o)) → H1 S = none → H2 S = some (.lst (ps.map V.ref)) → ps.length = xs.length →
  (∀ (j : Nat) (p : Addr) (x y : V), ps[j]? = some p → xs[j]? = some x → ys[j]? = some y → H1 p = none ∧ p ≠ S ∧ H2 p = some (.tup [x, y])) → Q (.ref S) H2
theorem lz_core {b : Bool} {z TI TO i1 i2 l1 l2 : Addr} {xs ys : List V} {us ws : List Value} {h0 : Heap} {Q : VK} (hc : X.calm = true) (I : Inv X pins σ H s) (r1 : Vals xs us) (r2 : Vals ys ws) (hl : xs.length = ys.length) (hz : xs.length ≤ sizeLine)
    (D : ZipApart z TI TO i1 i2 l1 l2) (Z : ZS b z TI TO i1 i2 l1 l2 us.toArray ws.toArray h0 0) (k0 : ∀ c o, s.heap.get? c = some o → h0.get? c = some o) (nz : s.heap.objs.size ≤ z) (nT : s.heap.objs.size ≤ TO) (n1 : s.heap.objs.size ≤ i1) (n2 : s.heap.objs.size ≤ i2)
    (q : LzQ H xs ys Q) : wpAny (model X.prog X.w) X.A (call (.type "list") [.ref z]) (EP X pins σ Q) X.xe { s with heap := h0 } := by
  have l1e : us.length = xs.length := r1.length.symm
  have l2e : ws.length = ys.length := r2.length.symm
  have hle : s.heap.objs.size ≤ h0.objs.size := by
    obtain ⟨⟨_, _, _, _, e, _⟩, _⟩ := Z
    exact Nat.le_trans nz (Nat.le_of_lt (Heap.lt_size e))
  refine zlist (s := { s with heap := h0 }) (I.ok.hd hc) D (by simp [l1e, l2e, hl]) (by simpa [l1e] using hz) Z fun h' acc c ps kk hS ha hpl hp => ?_
  have lt : ∀ {c o}, s.heap.get? c = some o → ∀ (y : Addr), s.heap.objs.size ≤ y → c ≠ y := fun e y hy => Nat.ne_of_lt (Nat.lt_of_lt_of_le (Heap.lt_size e) hy)
  have k : ∀ c o, s.heap.get? c = some o → h'.get? c = some o := fun c o e => kk c o (lt e _ nz) (lt e _ nT) (lt e _ n1) (lt e _ n2) (k0 c o e)
  have hp' : ∀ (j : Nat) (p : Addr), ps[j]? = some p → ∃ u v, us[j]? = some u ∧ ws[j]? = some v ∧ IsPair h' p u v ∧ h0.objs.size + 1 ≤ p := fun j p hj => by
    obtain ⟨u, v, e1, e2, e3, e4⟩ := hp j p hj
    exact ⟨u, v, by simpa using e1, by simpa using e2, e3, e4⟩
  have val : ∀ (j : Nat) (p : Addr), ps[j]? = some p → ∃ x y, xs[j]? = some x ∧ ys[j]? = some y ∧ absPair h' p = some (.tup [x, y]) ∧ ∃ u v, RelV x u ∧ RelV y v ∧ IsPair h' p u v := fun j p hj => by
    obtain ⟨u, v, e1, e2, e3, e4⟩ := hp' j p hj
    have hj1 : j < xs.length := by rw [← l1e]; exact (List.getElem?_eq_some_iff.mp e1).1
    have hj2 : j < ys.length := by rw [← l2e]; exact (List.getElem?_eq_some_iff.mp e2).1
    obtain ⟨u', f1, g1⟩ := r1.get (List.getElem?_eq_getElem hj1)
    obtain ⟨v', f2, g2⟩ := r2.get (List.getElem?_eq_getElem hj2)
    rw [e1] at f1; cases f1
    rw [e2] at f2; cases f2
    exact ⟨_, _, List.getElem?_eq_getElem hj1, List.getElem?_eq_getElem hj2, absPair_eq e3 g1 g2, u, v, g1, g2, e3⟩
  have nS : H h0.objs.size = none := I.hok.fresh hle
  have pge : ∀ p ∈ ps, h0.objs.size + 1 ≤ p := fun p hm => by
    obtain ⟨j, hj⟩ := List.mem_iff_getElem?.mp hm
    obtain ⟨_, _, _, _, _, e4⟩ := hp' j p hj
    exact e4
  have nP : ∀ p ∈ ps, H p = none := fun p hm => I.hok.fresh (Nat.le_trans hle (Nat.le_of_succ_le (pge p hm)))
  let HH : Hp := fun a => if a = h0.objs.size then some (.lst (ps.map V.ref)) else if a ∈ ps then absPair h' a else H a
  have eS : HH h0.objs.size = some (.lst (ps.map V.ref)) := if_pos rfl
  have eP : ∀ p ∈ ps, HH p = absPair h' p := fun p hm => by
    show (if p = h0.objs.size then _ else if p ∈ ps then absPair h' p else H p) = _
    rw [if_neg (Nat.ne_of_gt (pge p hm)), if_pos hm]
  have eO : ∀ a, a ≠ h0.objs.size → a ∉ ps → HH a = H a := fun a m1 m2 => by
    show (if a = h0.objs.size then _ else if a ∈ ps then absPair h' a else H a) = _
    rw [if_neg m1, if_neg m2]
  have hs : ∀ a o, H a = some o → HH a = some o := fun a o e => by
    rw [eO a (fun z => by rw [z, nS] at e; cases e) fun z => by rw [nP a z] at e; cases e]
    exact e
  have hn : ∀ a o, HH a = some o → H a = some o ∨ (s.heap.objs.size ≤ a ∧ H a = none ∧ ObjOk X.prog X.w HH h' a o ∧ NotT o) := fun a o e => by
    by_cases m1 : a = h0.objs.size
    · subst m1
      rw [eS] at e
      cases e
      refine .inr ⟨hle, nS, ⟨by rw [List.length_map, hpl]; simpa [l1e] using hz, ps.map Value.ref, c, ?_, ?_⟩, fun _ z => nomatch z⟩
      · clear hS ha hpl hp hp' val pge nP HH eS eP eO hs
        induction ps with
        | nil => exact .nil
        | cons p r ih => exact .cons rfl ih
      · rw [hS, ← ha, Array.toArray_toList]
    · by_cases m2 : a ∈ ps
      · obtain ⟨j, hj⟩ := List.mem_iff_getElem?.mp m2
        obtain ⟨x, y, _, _, e3, u, v, g1, g2, e4⟩ := val j a hj
        rw [eP a m2, e3] at e
        cases e
        refine .inr ⟨Nat.le_trans hle (Nat.le_of_succ_le (pge a m2)), nP a m2, ⟨by show 2 ≤ sizeLine; rw [sizeLine_eq]; omega, [u, v], .cons g1 (.cons g2 .nil), _, e4, rfl, _, rfl⟩, fun _ z => nomatch z⟩
      · rw [eO a m1 m2] at e
        exact .inl e
  refine ⟨.ref h0.objs.size, HH, inv_many (s := s) (h' := h') (t' := s.toks) I k hs fun a o e => (hn a o e).imp id fun z => ⟨z.1, z.2.2.1⟩, rfl, q HH h0.objs.size ps hs (fun a o e => (hn a o e).imp id fun z => ⟨z.2.1, z.2.2.2⟩) nS eS (by rw [hpl]; simp [l1e]) fun j p x y hj hx hy => ?_⟩
  have hm := List.mem_of_getElem? hj
  obtain ⟨x', y', f1, f2, f3, _⟩ := val j p hj
  rw [hx] at f1; cases f1
  rw [hy] at f2; cases f2
  exact ⟨nP p hm, Nat.ne_of_gt (pge p hm), by rw [eP p hm]; exact f3⟩
def tListZip (K : PySem.W.Frag) (ta : TA) : TE := fun σ H Q => ta σ H fun vs H1 => ∃ a b xs ys, vs = [.ref a, .ref b] ∧ SqT K H1 a xs ∧ SqT K H1 b ys ∧ xs.length = ys.length ∧ LzQ H1 xs ys Q
theorem pe_listZip {e e2 : Expr} {ta : TA} {p p2 pos pos2 : Pos} (hc : X.calm = true) (hg : Gl X "list") (hm : X.mg "list" = none) (hg2 : Gl X "zip") (hm2 : X.mg "zip" = none) (ha : PA X [e, e2] ta)
    (hs : starEach [e, e2] X.env = (false, eval e X.env) :: starEach [e2] X.env := by rfl) (hpl : (backTo pos2 (starEach [e2] X.env)).any (·.1) = false := by rfl)
    (na : starEach [.Call (.Name "zip" p2) [e, e2] [] pos2] X.env = (false, eval (.Call (.Name "zip" p2) [e, e2] [] pos2) X.env) :: starEach [] X.env := by rfl) :
    PE X (.Call (.Name "list" p) [.Call (.Name "zip" p2) [e, e2] [] pos2] [] pos) (tListZip X.K ta) := by
  refine ⟨fun pins s σ H Q I h => ?_⟩
  refine Call_ (ld_blt I hg hm boot_list (PyProof.Rows.callWith_type1 (args_cons ?_ na) na))
  refine Call_ (ld_blt I hg2 hm2 boot_zip (PyProof.Rows.callWith_type1 (thn (ha.run pos2 pins s σ H _ I h) fun us s1 ⟨vs, H1, I1, r1, q1⟩ => ?_) hs hpl))
  obtain ⟨a, b, xs, ys, ex, Sa, Sb, hl, q1⟩ := q1
  subst ex
  obtain ⟨u1, u2, rfl, g1, g2⟩ := vals2 r1
  cases g1; cases g2
  obtain ⟨i1, w1, t1, z1⟩ := I1.tuple Sa
  obtain ⟨i2, w2, t2, z2⟩ := I1.tuple Sb
  refine zp_call t1 t2 fun h' Z k => args_nil ?_
  exact lz_core hc I1 w1 w2 hl z1 (zapart t1.lt t2.lt) Z k (Nat.le_add_right _ _) (Nat.le_add_right _ _) (Nat.le_refl _) (Nat.le_add_right _ _) q1
theorem pe_listZipS {e e2 : Expr} {ta : TA} {p p2 pos pos2 p3 p4 : Pos} {j3 : Nat} (hc : X.calm = true) (hg : Gl X "list") (hm : X.mg "list" = none) (hg2 : Gl X "zip") (hm2 : X.mg "zip" = none) (ha : PA X [e, e2] ta)
    (he : backTo pos2 (starEach [e, e2] X.env) = (false, eval e X.env) :: backTo pos2 (starEach [e2] X.env) := by rfl) (hpl : (backTo pos2 (starEach [e, e2] X.env)).any (·.1) = false := by rfl)
    (hall : (backToKw pos2 (keywordEach [⟨some (Str.ofString "strict"), .Constant (.bool true) j3 p4, p3⟩] X.env)).all (·.1.isSome) = true := by rfl)
    (hkw : (backToKw pos2 (keywordEach [⟨some (Str.ofString "strict"), .Constant (.bool true) j3 p4, p3⟩] X.env)).any (·.1.isNone) = false := by rfl)
    (hks : (backToKw pos2 (keywordEach [⟨some (Str.ofString "strict"), .Constant (.bool true) j3 p4, p3⟩] X.env)).filterMap (·.1) = [Str.ofString "strict"] := by rfl)
    (na : starEach [.Call (.Name "zip" p2) [e, e2] [⟨some (Str.ofString "strict"), .Constant (.bool true) j3 p4, p3⟩] pos2] X.env = (false, eval (.Call (.Name "zip" p2) [e, e2] [⟨some (Str.ofString "strict"), .Constant (.bool true) j3 p4, p3⟩] pos2) X.env) :: starEach [] X.env := by rfl) :
    PE X (.Call (.Name "list" p) [.Call (.Name "zip" p2) [e, e2] [⟨some (Str.ofString "strict"), .Constant (.bool true) j3 p4, p3⟩] pos2] [] pos) (tListZip X.K ta) := by
  refine ⟨fun pins s σ H Q I h => ?_⟩
  refine Call_ (ld_blt I hg hm boot_list (PyProof.Rows.callWith_type1 (args_cons ?_ na) na))
  refine wpAny_Call_Name_kw (ld_blt I hg2 hm2 boot_zip ?_)
  refine callWith_tyK (thn (ha.run pos2 pins s σ H _ I h) fun us s1 ⟨vs, H1, I1, r1, q1⟩ => ?_) he hpl hall hkw
  refine PyProof.Rows.kws_cons (Constant_bool (PyProof.Rows.kws_nil ?_))
  rw [hks]
  obtain ⟨a, b, xs, ys, ex, Sa, Sb, hl, q1⟩ := q1
  subst ex
  obtain ⟨u1, u2, rfl, g1, g2⟩ := vals2 r1
  cases g1; cases g2
  obtain ⟨i1, w1, t1, z1⟩ := I1.tuple Sa
  obtain ⟨i2, w2, t2, z2⟩ := I1.tuple Sb
  refine zs_call t1 t2 fun h' Z k => args_nil ?_
  exact lz_core hc I1 w1 w2 hl z1 (zapart t1.lt t2.lt) Z k (Nat.le_add_right _ _) (Nat.le_add_right _ _) (Nat.le_refl _) (Nat.le_add_right _ _) q1
end
/-! ### in data -/
theorem pairs_rep {G1 H2 : Hp} {H1 : Hp} {S : Addr} {T : Tb} : ∀ {ps : List Addr} {xs ys : List V} {ds es : List D} {Gn : Hp}, Reps Gn xs ds → Reps Gn ys es → ps.length = xs.length → xs.length = ys.length →
    (∀ (j : Nat) (p : Addr) (x y : V), ps[j]? = some p → xs[j]? = some x → ys[j]? = some y → Gn p = some (.tup [x, y])) → Reps Gn (ps.map V.ref) ((ds.zip es).map fun q => PyData.tuple [q.1, q.2])
  | [], [], [], _, _, _, .nil, .nil, _, _, _ => .nil
  | p :: ps, x :: xs, y :: ys, d :: ds, e :: es, Gn, .cons h1 t1, .cons h2 t2, h3, h4, h5 => by
    refine .cons ?_ (pairs_rep (G1 := G1) (H2 := H2) (H1 := H1) (S := S) (T := T) t1 t2 (by simpa using h3) (by simpa using h4) fun j p' x' y' e1 e2 e3 => h5 (j + 1) p' x' y' e1 e2 e3)
    exact .tup (h5 0 p x y rfl rfl rfl) (.cons h1 (.cons h2 .nil))
theorem Wf.ext {T : Tb} {G H H2 : Hp} (x : Wf T G H) (s : Sub H H2) (n : ∀ a o, H2 a = some o → H a = some o ∨ (H a = none ∧ NotT o)) : ∃ G2, Go T G H G2 H2 ∧ ∀ a o, H2 a = some o → H a = none → G2 a = some o := by
  refine ⟨fun a => if H a = none then H2 a else G a, ⟨fun a o e => ?_, Grow.of s, ⟨fun a o e => ?_, x.t.ext fun b u e => s b _ e, fun a ps e => ?_⟩, fun a e => ?_⟩, fun a o e q => ?_⟩
  · have := x.s a o e
    show (if H a = none then H2 a else G a) = _
    rw [if_neg (by rw [this]; simp)]; exact e
  · have e' : (if H a = none then H2 a else G a) = some o := e
    by_cases q : H a = none
    · rw [if_pos q] at e'; exact e'
    · rw [if_neg q] at e'; exact s _ _ (x.s _ _ e')
  · have e' : (if H a = none then H2 a else G a) = some (.tbl ps) := e
    by_cases q : H a = none
    · rw [if_pos q] at e'
      rcases n a _ e' with z | ⟨_, z⟩
      · rw [q] at z; cases z
      · exact z ps rfl
    · rw [if_neg q] at e'; exact x.nt a ps e'
  · by_cases q : H a = none
    · exact .inr (.inl q)
    · have e' : (if H a = none then H2 a else G a) ≠ none := e
      rw [if_neg q] at e'; exact .inl e'
  · show (if H a = none then H2 a else G a) = _
    rw [if_pos q]; exact e
theorem ev_listZip {T : Tb} {K : PySem.W.Frag} {ρ : En} {tb : TE} {L : Addr} {ks : List Str} {es : List D} (hL : ∀ H, SqT K H L (ks.map V.str)) (hb : Ev T tb ρ (.tuple es)) (hl : ks.length = es.length) :
    Ev T (tListZip K (tCons (tC (.ref L)) (tCons tb tNil))) ρ (.list ((ks.zip es).map fun q => PyData.tuple [.str q.1, q.2])) := fun G0 H0 G H σ Q S k =>
  hb G0 H0 G H σ _ S fun v G1 H1 g r => by
    cases r with
    | tup ha r =>
      refine ⟨L, _, _, _, rfl, hL H1, SqT.of (g.w.s _ _ ha), by rw [List.length_map, r.length]; exact hl, fun H2 P ps s2 n2 nS eS pl pp => ?_⟩
      obtain ⟨G2, g2, new⟩ := g.w.ext s2 n2
      have rk : Reps G2 (ks.map V.str) (ks.map PyData.str) := by
        clear hL hl pl pp k
        induction ks with
        | nil => exact .nil
        | cons x r ih => exact .cons (.str x) ih
      have := pairs_rep (G1 := G1) (H1 := H1) (H2 := H2) (S := P) (T := T) rk (r.mono g2.g) (by rw [pl]) (by rw [List.length_map, r.length]; exact hl) fun j p x y e1 e2 e3 => by
        obtain ⟨m1, m2, m3⟩ := pp j p x y e1 e2 e3
        exact new _ _ m3 m1
      refine k _ G2 H2 (g.trans g2) ?_
      have e : ((ks.map PyData.str).zip es).map (fun q => PyData.tuple [q.1, q.2]) = (ks.zip es).map fun q => PyData.tuple [.str q.1, q.2] := by
        rw [List.zip_map_left, List.map_map]; rfl
      rw [e] at this
      exact .lst (new _ _ eS nS) this
end Pf
set_option Elab.async false
set_option linter.all false
set_option maxRecDepth 100000
set_option maxHeartbeats 4000000
namespace Pf
open PySem L2
open PyProof.Rows
/-! ### dicts in data -/
section
variable {κ : Type} [DecidableEq κ]
def lkp (es : List (κ × D)) (k : κ) : Option D := (es.find? fun e => decide (e.1 = k)).map (·.2)
def ptD (es : List (κ × D)) (k : κ) (d : D) : List (κ × D) := if (es.any fun e => decide (e.1 = k)) = true then es.map (fun e => if e.1 = k then (e.1, d) else e) else es ++ [(k, d)]
def mgD (es more : List (κ × D)) : List (κ × D) := more.foldl (fun acc e => ptD acc e.1 e.2) es
theorem lkp_cons (e : κ × D) (es : List (κ × D)) (k : κ) : lkp (e :: es) k = if e.1 = k then some e.2 else lkp es k := by
  unfold lkp
  rw [List.find?_cons]
  by_cases h : e.1 = k <;> simp [h]
theorem lkp_append (es fs : List (κ × D)) (k : κ) : lkp (es ++ fs) k = (lkp es k).or (lkp fs k) := by
  induction es with
  | nil => simp [lkp]
  | cons e es ih =>
    rw [List.cons_append, lkp_cons, lkp_cons, ih]
    by_cases h : e.1 = k <;> simp [h]
theorem lkp_none {es : List (κ × D)} {k : κ} : lkp es k = none ↔ ∀ e ∈ es, e.1 ≠ k := by
  unfold lkp
  simp
theorem lkp_ptD (es : List (κ × D)) (k j : κ) (d : D) : lkp (ptD es k d) j = if k = j then some d else lkp es j := by
  unfold ptD
  by_cases h : (es.any fun e => decide (e.1 = k)) = true
  · rw [if_pos h]
    have h1 : ∃ e ∈ es, e.1 = k := by simpa using h
    clear h
    induction es with
    | nil => obtain ⟨e, h, _⟩ := h1; simp at h
    | cons e es ih =>
      rw [List.map_cons, lkp_cons, lkp_cons]
      by_cases he : e.1 = k
      · simp only [he, if_true]
        by_cases hk : k = j
        · simp [hk]
        · simp only [hk, if_false]
          by_cases hz : ∃ e ∈ es, e.1 = k
          · rw [ih hz, if_neg hk]
          · have : es.map (fun e => if e.1 = k then (e.1, d) else e) = es := by
              conv => rhs; rw [← List.map_id es]
              refine List.map_congr_left fun x hx => ?_
              rw [if_neg fun q => hz ⟨x, hx, q⟩]; rfl
            rw [this]
      · obtain ⟨f, hf, hfk⟩ := h1
        have hf' : f ∈ es := by
          rcases List.mem_cons.mp hf with rfl | h
          · exact absurd hfk he
          · exact h
        simp only [he, if_false]
        rw [ih ⟨f, hf', hfk⟩]
        by_cases hj : e.1 = j
        · have : k ≠ j := fun q => he (hj.trans q.symm)
          simp [hj, this]
        · simp [hj]
  · rw [if_neg h, lkp_append, lkp_cons]
    by_cases hk : k = j
    · subst hk
      have : lkp es k = none := lkp_none.mpr fun e he q => h (List.any_eq_true.mpr ⟨e, he, by simp [q]⟩)
      simp [this]
    · simp [hk, lkp]
theorem ptD_len (es : List (κ × D)) (k : κ) (d : D) : (ptD es k d).length ≤ es.length + 1 := by
  unfold ptD
  split <;> simp
end
theorem keyD_inj {a b : Key} (h : keyD a = keyD b) : a = b := by
  cases a <;> cases b <;> cases h <;> rfl
theorem keyD_non {k : Key} : keyD k ≠ .none := by cases k <;> exact fun e => nomatch e
theorem repK_head {H : Hp} {kvs : List (Key × V)} {y : D × D} {ds : List (D × D)} (r : RepK H kvs (y :: ds)) : ∃ k, y.1 = keyD k := by
  cases r with
  | cons h t => exact ⟨_, rfl⟩
theorem keysD_inj {a b : List Key} (h : keysD a = keysD b) : a = b := by
  unfold keysD at h
  injection h with h
  exact List.map_inj_right (fun _ _ => keyD_inj) |>.mp h
def dK (es : List (Key × D)) : D := .dict (es.map fun e => (keyD e.1, e.2))
def dT (es : List (List Key × D)) : D := .dict ((.none, .none) :: es.map fun e => (keysD e.1, e.2))
theorem repK_len {H : Hp} {kvs : List (Key × V)} {es : List (Key × D)} (r : RepK H kvs (es.map fun e => (keyD e.1, e.2))) : kvs.length = es.length := by simpa using r.length
theorem repT_len {H : Hp} {kvs : List (List Key × V)} {es : List (List Key × D)} (r : RepT H kvs (es.map fun e => (keysD e.1, e.2))) : kvs.length = es.length := by simpa using r.length
theorem repK_cons {H : Hp} {p : Key × V} {kvs : List (Key × V)} {e : Key × D} {es : List (Key × D)} (r : RepK H (p :: kvs) ((e :: es).map fun e => (keyD e.1, e.2))) : p.1 = e.1 ∧ Rep H p.2 e.2 ∧ RepK H kvs (es.map fun e => (keyD e.1, e.2)) := by
  rw [List.map_cons] at r
  generalize hk : keyD e.1 = y at r
  cases r with
  | cons h t => exact ⟨(keyD_inj hk).symm, h, t⟩
theorem repT_cons {H : Hp} {p : List Key × V} {kvs : List (List Key × V)} {e : List Key × D} {es : List (List Key × D)} (r : RepT H (p :: kvs) ((e :: es).map fun e => (keysD e.1, e.2))) : p.1 = e.1 ∧ Rep H p.2 e.2 ∧ RepT H kvs (es.map fun e => (keysD e.1, e.2)) := by
  rw [List.map_cons] at r
  generalize hk : keysD e.1 = y at r
  cases r with
  | cons h t => exact ⟨(keysD_inj hk).symm, h, t⟩
theorem repK_get {H : Hp} : ∀ {kvs : List (Key × V)} {es : List (Key × D)} (k : Key), RepK H kvs (es.map fun e => (keyD e.1, e.2)) → (lkp es k = none ∧ valV kvs k = none) ∨ ∃ d v, lkp es k = some d ∧ valV kvs k = some v ∧ Rep H v d
  | [], [], k, _ => .inl ⟨rfl, rfl⟩
  | [], _ :: _, k, r => by cases r
  | _ :: _, [], k, r => by cases r
  | p :: kvs, e :: es, k, r => by
    obtain ⟨e1, h, t⟩ := repK_cons r
    rw [lkp_cons]
    by_cases q : e.1 = k
    · rw [if_pos q, valV_pos (e1.trans q)]
      exact .inr ⟨_, _, rfl, rfl, h⟩
    · rw [if_neg q, valV_neg (fun z => q (e1.symm.trans z))]
      exact repK_get k t
theorem repT_get {H : Hp} : ∀ {kvs : List (List Key × V)} {es : List (List Key × D)} (k : List Key), RepT H kvs (es.map fun e => (keysD e.1, e.2)) → (lkp es k = none ∧ valV kvs k = none) ∨ ∃ d v, lkp es k = some d ∧ valV kvs k = some v ∧ Rep H v d
  | [], [], k, _ => .inl ⟨rfl, rfl⟩
  | [], _ :: _, k, r => by cases r
  | _ :: _, [], k, r => by cases r
  | p :: kvs, e :: es, k, r => by
    obtain ⟨e1, h, t⟩ := repT_cons r
    rw [lkp_cons]
    by_cases q : e.1 = k
    · rw [if_pos q, valV_pos (e1.trans q)]
      exact .inr ⟨_, _, rfl, rfl, h⟩
    · rw [if_neg q, valV_neg (fun z => q (e1.symm.trans z))]
      exact repT_get k t
theorem repK_any {H : Hp} (k : Key) : ∀ {kvs : List (Key × V)} {es : List (Key × D)}, RepK H kvs (es.map fun e => (keyD e.1, e.2)) → (kvs.any fun kv => decide (kv.1 = k)) = es.any fun e => decide (e.1 = k)
  | [], [], _ => rfl
  | [], _ :: _, r => by cases r
  | _ :: _, [], r => by cases r
  | p :: kvs, e :: es, r => by
    obtain ⟨e1, h, t⟩ := repK_cons r
    rw [List.any_cons, List.any_cons, repK_any k t, e1]
theorem repT_any {H : Hp} (k : List Key) : ∀ {kvs : List (List Key × V)} {es : List (List Key × D)}, RepT H kvs (es.map fun e => (keysD e.1, e.2)) → (kvs.any fun kv => decide (kv.1 = k)) = es.any fun e => decide (e.1 = k)
  | [], [], _ => rfl
  | [], _ :: _, r => by cases r
  | _ :: _, [], r => by cases r
  | p :: kvs, e :: es, r => by
    obtain ⟨e1, h, t⟩ := repT_cons r
    rw [List.any_cons, List.any_cons, repT_any k t, e1]
theorem repK_put {H : Hp} {k : Key} {v : V} {d : D} (hv : Rep H v d) {kvs : List (Key × V)} {es : List (Key × D)} (r : RepK H kvs (es.map fun e => (keyD e.1, e.2))) : RepK H (putK kvs k v) ((ptD es k d).map fun e => (keyD e.1, e.2)) := by
  unfold putK ptD
  rw [repK_any k r]
  by_cases h : (es.any fun e => decide (e.1 = k)) = true
  · rw [if_pos h, if_pos h]
    clear h
    induction kvs generalizing es with
    | nil => cases es with
      | nil => exact .nil
      | cons _ _ => cases r
    | cons p kvs ih => cases es with
      | nil => cases r
      | cons e es =>
        obtain ⟨e1, h1, t⟩ := repK_cons r
        rw [List.map_cons, List.map_cons, List.map_cons, e1]
        by_cases q : e.1 = k
        · rw [if_pos q, if_pos q]; exact .cons hv (ih t)
        · rw [if_neg q, if_neg q]
          have : p = (e.1, p.2) := by rw [← e1]
          rw [this]; exact .cons h1 (ih t)
  · rw [if_neg h, if_neg h]
    clear h
    induction kvs generalizing es with
    | nil => cases es with
      | nil => exact .cons hv .nil
      | cons _ _ => cases r
    | cons p kvs ih => cases es with
      | nil => cases r
      | cons e es =>
        obtain ⟨e1, h1, t⟩ := repK_cons r
        have : p = (e.1, p.2) := by rw [← e1]
        rw [this]
        exact .cons h1 (ih t)
theorem repT_put {H : Hp} {k : List Key} {v : V} {d : D} (hv : Rep H v d) {kvs : List (List Key × V)} {es : List (List Key × D)} (r : RepT H kvs (es.map fun e => (keysD e.1, e.2))) : RepT H (putK kvs k v) ((ptD es k d).map fun e => (keysD e.1, e.2)) := by
  unfold putK ptD
  rw [repT_any k r]
  by_cases h : (es.any fun e => decide (e.1 = k)) = true
  · rw [if_pos h, if_pos h]
    clear h
    induction kvs generalizing es with
    | nil => cases es with
      | nil => exact .nil
      | cons _ _ => cases r
    | cons p kvs ih => cases es with
      | nil => cases r
      | cons e es =>
        obtain ⟨e1, h1, t⟩ := repT_cons r
        rw [List.map_cons, List.map_cons, List.map_cons, e1]
        by_cases q : e.1 = k
        · rw [if_pos q, if_pos q]; exact .cons hv (ih t)
        · rw [if_neg q, if_neg q]
          have : p = (e.1, p.2) := by rw [← e1]
          rw [this]; exact .cons h1 (ih t)
  · rw [if_neg h, if_neg h]
    clear h
    induction kvs generalizing es with
    | nil => cases es with
      | nil => exact .cons hv .nil
      | cons _ _ => cases r
    | cons p kvs ih => cases es with
      | nil => cases r
      | cons e es =>
        obtain ⟨e1, h1, t⟩ := repT_cons r
        have : p = (e.1, p.2) := by rw [← e1]
        rw [this]
        exact .cons h1 (ih t)
theorem repK_merge {H : Hp} : ∀ {more : List (Key × V)} {ms : List (Key × D)} {kvs : List (Key × V)} {es : List (Key × D)}, RepK H more (ms.map fun e => (keyD e.1, e.2)) → RepK H kvs (es.map fun e => (keyD e.1, e.2)) → RepK H (mergeK kvs more) ((mgD es ms).map fun e => (keyD e.1, e.2))
  | [], [], _, _, _, r => r
  | [], _ :: _, _, _, r, _ => by cases r
  | _ :: _, [], _, _, r, _ => by cases r
  | p :: more, m :: ms, kvs, es, r, r2 => by
    obtain ⟨e1, h, t⟩ := repK_cons r
    show RepK H (mergeK (putK kvs p.1 p.2) more) ((mgD (ptD es m.1 m.2) ms).map _)
    rw [e1]
    exact repK_merge t (repK_put h r2)
theorem rep_key {G : Hp} {k : Key} {v : V} (r : Rep G v (keyD k)) : v = kV k := by
  cases k <;> (cases r; rfl)
theorem reps_keys {G : Hp} : ∀ {ks : List Key} {vs : List V}, Reps G vs (ks.map keyD) → vs = ks.map kV
  | [], _, r => by cases r; rfl
  | k :: ks, _, r => by
    cases r with
    | cons h t => rw [rep_key h, reps_keys t]; rfl
theorem rep_keysD {G : Hp} {ks : List Key} {v : V} (r : Rep G v (keysD ks)) : ∃ a, v = .ref a ∧ G a = some (.tup (ks.map kV)) := by
  cases r with
  | tup h r => rw [reps_keys r] at h; exact ⟨_, rfl, h⟩
section
variable {T : Tb} {K : PySem.W.Frag} {ρ ρ' : En} {ta tb tc : TE} {x d : D} {N : En → Prop} {R : D → Prop}
theorem rep_dK {G : Hp} {v : V} {es : List (Key × D)} (r : Rep G v (dK es)) : ∃ a kvs, v = .ref a ∧ G a = some (.dK kvs) ∧ RepK G kvs (es.map fun e => (keyD e.1, e.2)) := by
  unfold dK at r
  generalize hz : es.map (fun e => (keyD e.1, e.2)) = z at r
  cases r with
  | dk h r => exact ⟨_, _, rfl, h, r⟩
  | dt h r =>
    cases es with
    | nil => cases hz
    | cons e es => exfalso; injection hz with h1 h2; injection h1 with h1 _; cases h3 : e.1 <;> rw [h3] at h1 <;> cases h1
  | fz h n p =>
    cases es with
    | nil => cases hz
    | cons e es => exfalso; injection hz with h1 h2; injection h1 with h1 _; cases h3 : e.1 <;> rw [h3] at h1 <;> cases h1
  | fs h n =>
    cases es with
    | nil => cases hz
    | cons e es => exfalso; injection hz with h1 h2; injection h1 with h1 _; cases h3 : e.1 <;> rw [h3] at h1 <;> cases h1
  | ptr a =>
    cases es with
    | nil => cases hz
    | cons e es => exfalso; injection hz with h1 h2; injection h1 with h1 _; cases h3 : e.1 <;> rw [h3] at h1 <;> cases h1
theorem rep_dT {G : Hp} {v : V} {es : List (List Key × D)} (r : Rep G v (dT es)) : ∃ a kvs, v = .ref a ∧ G a = some (.dT kvs) ∧ RepT G kvs (es.map fun e => (keysD e.1, e.2)) := by
  unfold dT at r
  generalize hz : (PyData.none, PyData.none) :: es.map (fun e => (keysD e.1, e.2)) = z at r
  cases r with
  | dk h r =>
    subst hz
    obtain ⟨k, hk⟩ := repK_head r
    exact absurd hk.symm keyD_non
  | dt h r => injection hz with _ h2; subst h2; exact ⟨_, _, rfl, h, r⟩
  | fz h n p => injection hz with h1 _; injection h1 with h1 _; cases h1
  | fs h n => injection hz with h1 _; injection h1 with h1 _; cases h1
  | ptr a => injection hz with h1 _; injection h1 with h1 _; cases h1
theorem ev_get {es : List (Key × D)} {k : Key} (ha : Ev T ta ρ (dK es)) (hb : Ev T tb ρ (keyD k)) (h : lkp es k = some d) : Ev T (tDGet ta tb) ρ d := fun G0 H0 G H σ Q S q =>
  ha G0 H0 G H σ _ S fun v G1 H1 g1 r1 => hb G0 H0 G1 H1 σ _ (S.next g1) fun u G2 H2 g2 r2 => by
    obtain ⟨a, kvs, rfl, ea, rk⟩ := rep_dK (r1.mono g2.g)
    have := rep_key r2
    subst this
    rcases repK_get k rk with ⟨z, _⟩ | ⟨d', v, z1, z2, z3⟩
    · rw [h] at z; cases z
    · rw [h] at z1; cases z1
      exact ⟨a, v, rfl, by rw [← z2]; exact DGet.k (g2.w.s _ _ ea), q v G2 H2 (g1.trans g2) z3⟩
theorem ev_getT {es : List (List Key × D)} {k : List Key} (ha : Ev T ta ρ (dT es)) (hb : Ev T tb ρ (keysD k)) (h : lkp es k = some d) : Ev T (tDGet ta tb) ρ d := fun G0 H0 G H σ Q S q =>
  ha G0 H0 G H σ _ S fun v G1 H1 g1 r1 => hb G0 H0 G1 H1 σ _ (S.next g1) fun u G2 H2 g2 r2 => by
    obtain ⟨a, kvs, rfl, ea, rk⟩ := rep_dT (r1.mono g2.g)
    obtain ⟨b, rfl, eb⟩ := rep_keysD r2
    rcases repT_get k rk with ⟨z, _⟩ | ⟨d', v, z1, z2, z3⟩
    · rw [h] at z; cases z
    · rw [h] at z1; cases z1
      exact ⟨a, v, rfl, by rw [← z2]; exact DGet.t (g2.w.s _ _ ea) (g2.w.s _ _ eb), q v G2 H2 (g1.trans g2) z3⟩
theorem ev_get1 {es : List (Key × D)} {k : Key} (ha : Ev T ta ρ (dK es)) (hb : Ev T tb ρ (keyD k)) : Ev T (tDGet1 ta tb) ρ ((lkp es k).getD .none) := fun G0 H0 G H σ Q S q =>
  ha G0 H0 G H σ _ S fun v G1 H1 g1 r1 => by
    obtain ⟨a, kvs, rfl, ea, rk⟩ := rep_dK r1
    refine ⟨a, rfl, .inl ⟨kvs, .of (g1.w.s _ _ ea)⟩, hb G0 H0 G1 H1 σ _ (S.next g1) fun u G2 H2 g2 r2 => ?_⟩
    have := rep_key r2
    subst this
    refine ⟨_, DGet.k (g2.w.s _ _ (g2.g _ _ ea)), ?_⟩
    rcases repK_get k (rk) with ⟨z, z2⟩ | ⟨d', v, z1, z2, z3⟩
    · rw [z] at q; rw [z2]; exact q _ G2 H2 (g1.trans g2) .non
    · rw [z1] at q; rw [z2]; exact q _ G2 H2 (g1.trans g2) (z3.mono g2.g)
theorem ev_get1T {es : List (List Key × D)} {k : List Key} (ha : Ev T ta ρ (dT es)) (hb : Ev T tb ρ (keysD k)) : Ev T (tDGet1 ta tb) ρ ((lkp es k).getD .none) := fun G0 H0 G H σ Q S q =>
  ha G0 H0 G H σ _ S fun v G1 H1 g1 r1 => by
    obtain ⟨a, kvs, rfl, ea, rk⟩ := rep_dT r1
    refine ⟨a, rfl, .inr ⟨kvs, .of (g1.w.s _ _ ea)⟩, hb G0 H0 G1 H1 σ _ (S.next g1) fun u G2 H2 g2 r2 => ?_⟩
    obtain ⟨b, rfl, eb⟩ := rep_keysD r2
    refine ⟨_, DGet.t (g2.w.s _ _ (g2.g _ _ ea)) (g2.w.s _ _ eb), ?_⟩
    rcases repT_get k (rk) with ⟨z, z2⟩ | ⟨d', v, z1, z2, z3⟩
    · rw [z] at q; rw [z2]; exact q _ G2 H2 (g1.trans g2) .non
    · rw [z1] at q; rw [z2]; exact q _ G2 H2 (g1.trans g2) (z3.mono g2.g)
theorem ev_get2T {es : List (List Key × D)} {k : List Key} (ha : Ev T ta ρ (dT es)) (hb : Ev T tb ρ (keysD k)) (hc : Ev T tc ρ x) : Ev T (tDGet2 ta tb tc) ρ ((lkp es k).getD x) := fun G0 H0 G H σ Q S q =>
  ha G0 H0 G H σ _ S fun v G1 H1 g1 r1 => by
    obtain ⟨a, kvs, rfl, ea, rk⟩ := rep_dT r1
    refine ⟨a, rfl, .inr ⟨kvs, .of (g1.w.s _ _ ea)⟩, hb G0 H0 G1 H1 σ _ (S.next g1) fun u G2 H2 g2 r2 => hc G0 H0 G2 H2 σ _ (S.next (g1.trans g2)) fun y G3 H3 g3 r3 => ?_⟩
    obtain ⟨b, rfl, eb⟩ := rep_keysD r2
    have g := (g1.trans g2).trans g3
    refine ⟨_, DGet.t (g3.w.s _ _ (g3.g _ _ (g2.g _ _ ea))) (g3.w.s _ _ (g3.g _ _ eb)), ?_⟩
    rcases repT_get k rk with ⟨z, z2⟩ | ⟨d', v, z1, z2, z3⟩
    · rw [z] at q; rw [z2]; exact q _ G3 H3 g r3
    · rw [z1] at q; rw [z2]; exact q _ G3 H3 g ((z3.mono g2.g).mono g3.g)
theorem Sta.ownT {G0 H0 G H : Hp} {σ : L2.St} {i : Nat} {es : List (List Key × D)} (S : Sta T G0 H0 G H σ ρ) (hi : ρ[i]? = some (.own (dT es))) : ∃ p kvs, look σ i = some (.ref p) ∧ H p = some (.dT kvs) ∧ RepT G kvs (es.map fun e => (keysD e.1, e.2)) := by
  obtain ⟨p, o, e, h0, hg, hh, ro⟩ := S.sl i _ hi
  rcases ro.cases with ⟨xs, es, rfl, q, r⟩ | ⟨kvs, ds, rfl, q, r⟩ | ⟨kvs, ds, rfl, q, r⟩
  · cases q
  · unfold dT at q
    injection q with q
    subst q
    obtain ⟨k, hk⟩ := repK_head r
    exact absurd hk.symm keyD_non
  · unfold dT at q
    injection q with q
    injection q with _ q
    subst q
    exact ⟨p, _, e, hh, r⟩
/-- d[k] = v of one's own dict -/
theorem sv_putT {i : Nat} {es : List (List Key × D)} {k : List Key} (hi : ρ[i]? = some (.own (dT es))) (hv : Ev T tc ρ d) (hk : Ev T tb ρ (keysD k)) (hz : es.length < sizeLine) (n : N (ρ.set i (.own (dT (ptD es k d))))) :
    Sv T (sDPut (tVar i) tb tc) ρ N R := fun G0 H0 G H σ E S kn kr =>
  hv G0 H0 G H σ _ S fun v G1 H1 g1 r1 => by
    have S1 := S.next g1
    obtain ⟨p, kvs, e, hh, rk⟩ := S1.ownT hi
    refine ⟨_, look_some e, hk G0 H0 G1 H1 σ _ S1 fun u G2 H2 g2 r2 => ?_⟩
    obtain ⟨b, rfl, eb⟩ := rep_keysD r2
    have S2 := S1.next g2
    obtain ⟨p', kvs', e', hh', rk'⟩ := S2.ownT hi
    rw [e] at e'; cases e'
    refine ⟨p, _, rfl, DPut.t hh' (g2.w.s _ _ eb) (by rw [repT_len rk']; exact hz), kn _ _ _ _ (g1.g.trans g2.g) (S2.put (o' := .dT (putK kvs' k v)) (d' := dT (ptD es k d)) hi e ?_) n⟩
    exact repT_put (r1.mono g2.g) rk'
end
end Pf
set_option Elab.async false
set_option linter.all false
set_option maxRecDepth 100000
set_option maxHeartbeats 4000000
namespace Pf
open PySem L2
open PyProof.Rows
/-! ### dict(pairs) -/
def pairsD (kvs : List (Str × Int)) : List D := kvs.map fun q => PyData.tuple [.str q.1, .int q.2]
def esOf (kvs : List (Str × Int)) : List (Key × D) := kvs.map fun q => (Sum.inr q.1, .int q.2)
def ksOf (kvs : List (Str × Int)) : List (Key × V) := kvs.map fun q => (Sum.inr q.1, .int q.2)
theorem repK_ks (G : Hp) : ∀ kvs : List (Str × Int), RepK G (ksOf kvs) ((esOf kvs).map fun e => (keyD e.1, e.2))
  | [] => .nil
  | q :: r => .cons (.int q.2) (repK_ks G r)
theorem reps_pairs {G : Hp} : ∀ {xs : List V} (kvs : List (Str × Int)), Reps G xs (pairsD kvs) → ∃ ps : List Addr, xs = ps.map V.ref ∧ Paired (fun p kv => G p = some (.tup [.str kv.1, .int kv.2])) ps kvs
  | _, [], r => by cases r; exact ⟨[], rfl, .nil⟩
  | _, q :: kvs, r => by
    cases r with
    | cons h t =>
      obtain ⟨ps, rfl, p⟩ := reps_pairs kvs t
      cases h with
      | tup ha r =>
        cases r with
        | cons r1 r2 =>
          cases r2 with
          | cons r2 r3 => cases r1; cases r2; cases r3; exact ⟨_ :: ps, rfl, .cons ha p⟩
theorem paired_ks {K : PySem.W.Frag} {G H : Hp} (s : Sub G H) : ∀ {ps : List Addr} {kvs : List (Str × Int)}, Paired (fun p kv => G p = some (.tup [.str kv.1, .int kv.2])) ps kvs → Paired (fun p kv => SqT K H p [kV kv.1, kv.2]) ps (ksOf kvs)
  | _, _, .nil => .nil
  | _, _, .cons h t => .cons (SqT.of (s _ _ h)) (paired_ks s t)
theorem Wf.newK {T : Tb} {G H : Hp} {p : Addr} {kvs : List (Key × V)} {es : List (D × D)} (x : Wf T G H) (h : H p = none) (r : RepK G kvs es) : ∃ G', Go T G H G' (upd H p (.dK kvs)) ∧ Rep G' (.ref p) (.dict es) :=
  have n : NotT (.dK kvs) := fun _ e => nomatch e
  ⟨_, x.new h n, .dk upd_same (RepK.mono (x.new h n).g r)⟩
section
variable {T : Tb} {X : Cx} {K : PySem.W.Frag} {ρ ρ' : En} {ta tb tc td : TE} {x d : D} {ds : List D} {N : En → Prop} {R : D → Prop}
theorem cl_dict {kvs : List (Str × Int)} : ClD T (fun xs H Q => ∃ (a : Addr) (ps : List Addr) (kvs : List (Key × V)), xs = [.ref a] ∧ SqL K H a (ps.map V.ref) ∧ Paired (fun p kv => SqT K H p [kV kv.1, kv.2]) ps kvs ∧
    ∀ p, H p = none → Q (.ref p) (upd H p (.dK (mergeK [] kvs)))) [.list (pairsD kvs)] (dK (mgD [] (esOf kvs))) := fun G H vs Q w r k => by
  cases r with
  | cons h t =>
    cases t
    cases h with
    | lst ha r =>
      obtain ⟨ps, rfl, p⟩ := reps_pairs kvs r
      refine ⟨_, ps, ksOf kvs, rfl, SqL.of (w.s _ _ ha), paired_ks w.s p, fun q hq => ?_⟩
      obtain ⟨G', g, r'⟩ := w.newK hq (repK_merge (es := []) (repK_ks G kvs) .nil)
      exact k _ _ _ g r'
/-! ### a tuple of pairs, its object known: made, taken by dict -/
def fzD (kvs : List (Str × Int)) : D := .dict ((.bool true, .none) :: kvs.map fun p => (.str p.1, .int p.2))
def rTupFz (K : PySem.W.Frag) : List V → Hp → VK → Prop := fun vs H Q => ∃ a ys, vs = [.ref a] ∧ SqL K H a ys ∧ ∀ p o, H p = none → o.dict = none → Q (.ref p) (upd H p (.frz o (.tup ys)))
theorem cr_tupFz : CallR X (.type "tuple") (rTupFz X.K) := by
  intro pins s σ H xs us Q I r h
  obtain ⟨p, ys, rfl, hq, q⟩ := h
  obtain ⟨u, rfl, rx⟩ := vals1 r
  cases rx
  obtain ⟨its, r', pl, hz⟩ := I.list hq
  have hlen := r'.length
  refine call_tuple_list pl.isList (fun h' kp => ?_) (by simp only [List.size_toArray] <;> omega)
  have I1 : Inv X pins σ H { s with heap := h' } := I.kept (t' := s.toks) kp
  have I2 : Inv X pins σ (upd H h'.objs.size (.frz { cls := .type "tuple", data := .seq its.toArray } (.tup ys))) { s with heap := h'.push { cls := .type "tuple", data := .seq its.toArray } } :=
    I1.laid (t' := s.toks) (fun b o e => Heap.get?_push_of_some _ e) (Nat.le_refl _) (show ObjOk X.prog X.w _ _ _ (.frz _ (.tup ys)) from ⟨Heap.get?_push_size _ rfl, hz, its, r', IsTup.new _ _⟩)
  exact ⟨.ref h'.objs.size, _, I2, rfl, q _ _ (I1.hok.fresh (Nat.le_refl _)) rfl⟩
theorem cl_tupFz {kvs : List (Str × Int)} : ClD T (rTupFz K) [.list (pairsD kvs)] (fzD kvs) := fun G H vs Q w r k => by
  cases r with
  | cons h t =>
    cases t
    cases h with
    | lst ha r =>
      obtain ⟨ps, rfl, p⟩ := reps_pairs kvs r
      refine ⟨_, ps.map V.ref, rfl, SqL.of (w.s _ _ ha), fun q o hq ho => ?_⟩
      have n : NotT (.frz o (.tup (ps.map V.ref))) := fun _ e => nomatch e
      have g := w.new hq n
      exact k _ _ _ g (.fz upd_same ho (Paired.mapP p fun _ _ z => g.g _ _ z))
def rDictFz (K : PySem.W.Frag) : List V → Hp → VK → Prop := fun vs H Q => ∃ a o ps kvs, vs = [.ref a] ∧ H a = some (.frz o (.tup (ps.map V.ref))) ∧ o.dict = none ∧ Paired (fun p kv => SqT K H p [kV kv.1, kv.2]) ps kvs ∧ ∀ p, H p = none → Q (.ref p) (upd H p (.dK (mergeK [] kvs)))
theorem cr_dictFz (hc : X.calm = true) : CallR X (.type "dict") (rDictFz X.K) := by
  intro pins s σ H xs us Q I r q
  obtain ⟨a, o, ps, kvs, rfl, ha, ho, hp, q⟩ := q
  obtain ⟨u, rfl, rx⟩ := vals1 r
  cases rx
  obtain ⟨e1, hz, its, rv, o', e2, e3, n, e4⟩ := (show ObjOk X.prog X.w H s.heap a (.frz o (.tup (ps.map V.ref))) from I.hok a _ ha)
  rw [e1] at e2; cases e2
  have ei := refs_at rv
  subst ei
  rw [List.length_map] at hz
  obtain ⟨prs, rel, hl, hpr⟩ := pairs_of I hp
  have hz' : prs.length ≤ sizeLine := by rw [hl]; exact hz
  let qs : List (Value × Value) := (List.range prs.length).map fun j => (match ps[j]? with
    | some b => (match s.heap.get? b with
      | some ⟨_, _, .seq xs _, _⟩ => xs.getD 0 .none
      | _ => .none)
    | none => .none, match prs[j]? with
    | some z => z.2
    | none => .none)
  have at_ : ∀ (j : Nat) (k v : Value), qs[j]? = some (k, v) → ∃ (b : Addr) (z : Key × Value), ps[j]? = some b ∧ prs[j]? = some z ∧ v = z.2 ∧ keyIs z.1 k = true ∧ IsTup s.heap b #[k, v] := fun j k v e => by
    have hj : j < prs.length := by
      have := (List.getElem?_eq_some_iff.mp e).1
      simpa [qs] using this
    obtain ⟨b, u, f1, f2, f3⟩ := hpr j prs[j] (List.getElem?_eq_getElem hj)
    obtain ⟨ob, g1, g2, m, g3⟩ := id f2
    obtain ⟨c1, c2, c3, c4⟩ := ob
    simp only at g3
    subst g3
    have e' : qs[j]? = some (u, prs[j].2) := by
      simp only [qs]
      rw [List.getElem?_map, List.getElem?_range hj]
      show some (_, _) = _
      rw [f1, List.getElem?_eq_getElem hj]
      show some ((match s.heap.get? b with
      | some ⟨_, _, .seq xs _, _⟩ => xs.getD 0 .none
      | _ => .none), _) = _
      rw [g1]
      rfl
    rw [e'] at e
    cases e
    exact ⟨b, prs[j], f1, List.getElem?_eq_getElem hj, rfl, f3, f2⟩
  have ql : qs.length = prs.length := by simp [qs]
  have PI : PairItems s.heap (ps.map Value.ref).toArray (fun j => ps.getD j 0) qs := by
    refine ⟨by simp [ql, hl], fun j k v e => ?_⟩
    obtain ⟨b, z, f1, f2, f3, f4, f5⟩ := at_ j k v e
    have hb : ps.getD j 0 = b := by rw [List.getD_eq_getElem?_getD, f1]; rfl
    show _ = some (Value.ref (ps.getD j 0)) ∧ PairAt s.heap (ps.getD j 0) k v
    rw [hb]
    exact ⟨by simp [f1], .inl f5⟩
  have P := PairArg.tuple (prog := X.prog) (w := X.w) a (ps.map Value.ref).toArray (fun j => ps.getD j 0) qs
  refine PySem.call_dict_pairs (knd := mixKind X.prog X.w) (kvs := prs) P (I.ok.hd hc) ⟨⟨o, n, e1, e3, ho, e4⟩, PI⟩ ⟨ql.symm, fun i k v hr => ?_⟩ (by rw [ql]; exact hz') fun h' tk hd' k => ?_
  · obtain ⟨b, z, f1, f2, f3, f4, f5⟩ := at_ i k v hr
    subst f3
    exact ⟨z.1, f2, f4⟩
  · have hm : (s.heap.objs.size == sysModules) = false := beq_eq_false_iff_ne.mpr (Nat.ne_of_gt I.big)
    have hlen : (mergeK [] kvs).length ≤ sizeLine := by
      refine Nat.le_trans (length_mergeK kvs []) ?_
      rw [List.length_nil, Nat.zero_add, rel.length, hl]
      exact hz
    exact ⟨.ref s.heap.objs.size, upd H s.heap.objs.size (.dK (mergeK [] kvs)), I.laid (t' := tk) (fun b o e => k b o (by simp) e) (Nat.le_refl _) (show ObjOk X.prog X.w _ _ _ (.dK (mergeK [] kvs)) from ⟨hlen, hm, merged [] prs, KV.merge rel .nil, hd'⟩), rfl, q _ (I.hok.fresh (Nat.le_refl _))⟩
theorem rep_fz {G : Hp} {v : V} {kvs : List (Str × Int)} (r : Rep G v (fzD kvs)) : ∃ a o ps, v = .ref a ∧ G a = some (.frz o (.tup (ps.map V.ref))) ∧ o.dict = none ∧ Paired (fun p kv => G p = some (.tup [.str kv.1, .int kv.2])) ps kvs := by
  unfold fzD at r
  generalize hz : (PyData.bool true, PyData.none) :: kvs.map (fun p => (PyData.str p.1, PyData.int p.2)) = z at r
  cases r with
  | dk h r =>
    subst hz
    obtain ⟨k, hk⟩ := repK_head r
    cases k <;> cases hk
  | dt h r => injection hz with h1 _; injection h1 with h1 _; cases h1
  | fs h n => injection hz with h1 _; injection h1 with h1 _; cases h1
  | ptr a => injection hz with h1 _; injection h1 with h1 _; cases h1
  | @fz a o ps kvs' h n p =>
    injection hz with _ h2
    have : kvs' = kvs := by
      have inj : ∀ a b : Str × Int, (PyData.str a.1, PyData.int a.2) = (PyData.str b.1, PyData.int b.2) → a = b := fun a b e => by
        injection e with e1 e2
        injection e1 with e1
        injection e2 with e2
        exact Prod.ext e1 e2
      exact ((List.map_inj_right inj).mp h2).symm
    subst this
    exact ⟨_, _, _, rfl, h, n, p⟩
theorem cl_dictFz {kvs : List (Str × Int)} : ClD T (rDictFz K) [fzD kvs] (dK (mgD [] (esOf kvs))) := fun G H vs Q w r k => by
  cases r with
  | cons h t =>
    cases t
    obtain ⟨a, o, ps, rfl, ha, ho, p⟩ := rep_fz h
    refine ⟨a, o, ps, ksOf kvs, rfl, w.s _ _ ha, ho, paired_ks w.s p, fun q hq => ?_⟩
    obtain ⟨G', g, r'⟩ := w.newK hq (repK_merge (es := []) (repK_ks G kvs) .nil)
    exact k _ _ _ g r'
/-! ### a < b < c < d -/
def tChain3 (r r' r'' : R2) (ta tb tc td : TE) : TE := fun σ H Q => ta σ H fun x H1 => tb σ H1 fun y H2 => r x y H2 fun z H3 => ∃ k, z = .bl k ∧
  (if k = true then tc σ H3 fun w H4 => r' y w H4 fun z' H5 => ∃ k', z' = .bl k' ∧ (if k' = true then td σ H5 fun u H6 => r'' w u H6 Q else Q (.bl false) H5) else Q (.bl false) H3)
theorem pe_chain3 {a b c e : Expr} {op op' op'' : CmpOp} {r r' r'' : R2} {pos : Pos} (ho : OpR X (compareOp op) r) (ho' : OpR X (compareOp op') r') (ho'' : OpR X (compareOp op'') r'') (ha : PE X a ta) (hb : PE X b tb) (hc : PE X c tc) (he : PE X e td)
    (hm : lastMarks [op, op', op''] [b, c, e] = false := by with_unfolding_all rfl) : PE X (.Compare a [op, op', op''] [b, c, e] pos) (tChain3 r r' r'' ta tb tc td) := by
  refine ⟨fun pins s σ H Q I h => ?_⟩
  refine Compare_chain (thn (ha.run pins s σ H _ I h) fun v s1 ⟨x, H1, I1, r1, q1⟩ => chain_link (thn (hb.run pins s1 σ H1 _ I1 q1) fun u s2 ⟨y, H2, I2, r2, q2⟩ =>
    thn (ho pins s2 σ H2 x y v u _ I2 r1 r2 q2) fun d s3 ⟨z, H3, I3, r3, k, e, q3⟩ => ?_)) hm
  subst e
  cases r3
  refine wpAny_truthy_bool ?_
  cases k with
  | false => exact ite_ff ⟨.bl false, H3, I3, rfl, q3⟩
  | true =>
    refine ite_tt (chain_link (thn (hc.run pins s3 σ H3 _ I3 q3) fun w' s4 ⟨z', H4, I4, r4, q4⟩ => thn (ho' pins s4 σ H4 y z' u w' _ I4 r2 r4 q4) fun d' s5 ⟨z5, H5, I5, r5, k', e', q5⟩ => ?_))
    subst e'
    cases r5
    refine wpAny_truthy_bool ?_
    cases k' with
    | false => exact ite_ff ⟨.bl false, H5, I5, rfl, q5⟩
    | true => exact ite_tt (chain_last (thn (he.run pins s5 σ H5 _ I5 q5) fun w6 s6 ⟨z6, H6, I6, r6, q6⟩ => ho'' pins s6 σ H6 z' z6 w' w6 Q I6 r4 r6 q6))
theorem ev_chain {r r' : R2} {x y z : D} {b b' : Bool} (ha : Ev T ta ρ x) (hb : Ev T tb ρ y) (hc : Ev T tc ρ z) (o : OpD T r x y (.bool b)) (o' : OpD T r' y z (.bool b')) : Ev T (tChain r r' ta tb tc) ρ (.bool (b && b')) := fun G0 H0 G H σ Q S k =>
  ha G0 H0 G H σ _ S fun v G1 H1 g1 r1 => hb G0 H0 G1 H1 σ _ (S.next g1) fun u G2 H2 g2 r2 => o G2 H2 v u _ g2.w (r1.mono g2.g) r2 fun w G3 H3 g3 r3 => by
    cases r3
    have g := (g1.trans g2).trans g3
    refine ⟨b, rfl, ?_⟩
    cases b with
    | false => exact k _ G3 H3 g (.bl false)
    | true => exact hc G0 H0 G3 H3 σ _ (S.next g) fun v4 G4 H4 g4 r4 => o' G4 H4 u v4 Q g4.w ((r2.mono g3.g).mono g4.g) r4 fun v5 G5 H5 g5 r5 => k v5 G5 H5 ((g.trans g4).trans g5) r5
theorem ev_chain3 {r r' r'' : R2} {x y z w : D} {b b' b'' : Bool} (ha : Ev T ta ρ x) (hb : Ev T tb ρ y) (hc : Ev T tc ρ z) (hd : Ev T td ρ w) (o : OpD T r x y (.bool b)) (o' : OpD T r' y z (.bool b')) (o'' : OpD T r'' z w (.bool b'')) : Ev T (tChain3 r r' r'' ta tb tc td) ρ (.bool (b && b' && b'')) := fun G0 H0 G H σ Q S k =>
  ha G0 H0 G H σ _ S fun v G1 H1 g1 r1 => hb G0 H0 G1 H1 σ _ (S.next g1) fun u G2 H2 g2 r2 => o G2 H2 v u _ g2.w (r1.mono g2.g) r2 fun w G3 H3 g3 r3 => by
    cases r3
    have g := (g1.trans g2).trans g3
    refine ⟨b, rfl, ?_⟩
    cases b with
    | false => exact k _ G3 H3 g (.bl false)
    | true =>
      refine hc G0 H0 G3 H3 σ _ (S.next g) fun v4 G4 H4 g4 r4 => o' G4 H4 u v4 _ g4.w ((r2.mono g3.g).mono g4.g) r4 fun v5 G5 H5 g5 r5 => ?_
      cases r5
      have g' := (g.trans g4).trans g5
      refine ⟨b', rfl, ?_⟩
      cases b' with
      | false => exact k _ G5 H5 g' (.bl false)
      | true => exact hd G0 H0 G5 H5 σ _ (S.next g') fun v6 G6 H6 g6 r6 => o'' G6 H6 v4 v6 Q g6.w ((r4.mono g5.g).mono g6.g) r6 fun v7 G7 H7 g7 r7 => k v7 G7 H7 ((g'.trans g6).trans g7) r7
/-! ### a text some times -/
def repS (x : Str) (n : Int) : Str := if n < 1 then Str.empty else if (n == 1 || x.length == 0) = true then x else ⟨(List.replicate n.toNat x.cps).foldl (· ++ ·) #[]⟩
def rMulS : R2 := fun x y H Q => ∃ s n, x = .str s ∧ y = .int n ∧ 0 ≤ n ∧ n ≤ 1000 ∧ s.length ≤ 1000 ∧ Q (.str (repS s n)) H
theorem op_mulS : OpR X (binaryOp .Mult) rMulS := by
  intro pins s σ H x y v u Q I rx ry h
  obtain ⟨z, n, rfl, rfl, h0, h1, h2, q⟩ := h
  obtain ⟨t, rfl⟩ := rx
  obtain ⟨t', rfl⟩ := ry
  have hr : (decide (n < -(2 ^ 63 : Int)) || decide (n ≥ 2 ^ 63)) = false := by
    rw [decide_eq_false (by omega), decide_eq_false (by omega)]; rfl
  have hprod : z.length * n.toNat ≤ 1000000 := by
    have := Nat.mul_le_mul h2 (show n.toNat ≤ 1000 by omega)
    omega
  have hrep : ∀ (m : Nat) (acc : Array Nat), ((List.replicate m z.cps).foldl (· ++ ·) acc).size = acc.size + m * z.length := fun m => by
    induction m with
    | zero => intro acc; simp
    | succ m ih =>
      intro acc
      rw [List.replicate_succ, List.foldl_cons, ih, Array.size_append]
      show acc.size + z.length + m * z.length = _
      rw [Nat.succ_mul]; omega
  have hbig : (1000 : Int) ≤ (2 ^ 63 - 1) / 1000 := by decide
  refine PySem.P.mul_str hr (fun h3 _ => ?_) (fun h3 _ => ?_) ?_
  · have h5 : (1 : Int) ≤ n := by omega
    intro h6
    have h7 : (1000 : Int) ≤ (2 ^ 63 - 1) / n := Int.le_ediv_of_mul_le (by omega) (by omega)
    omega
  · unfold Builtin.Str.tooLong
    exact decide_eq_false (by rw [sizeLine_eq]; omega)
  · unfold repS at q
    by_cases h3 : n < 1
    · rw [if_pos h3] at q ⊢
      exact ⟨by decide, .str _, H, I.tok _, ⟨_, rfl⟩, q⟩
    · rw [if_neg h3] at q ⊢
      by_cases h4 : (n == 1 || z.length == 0) = true
      · rw [if_pos h4] at q ⊢
        exact ⟨.str z, H, I, ⟨t, rfl⟩, q⟩
      · rw [if_neg h4] at q ⊢
        refine ⟨?_, .str _, H, I.tok _, ⟨_, rfl⟩, q⟩
        show ((List.replicate n.toNat z.cps).foldl (· ++ ·) #[]).size ≤ sizeLine
        rw [hrep, sizeLine_eq]
        simp
        rw [Nat.mul_comm]; omega
theorem od_mulS {s : Str} {n : Int} (h0 : 0 ≤ n) (h1 : n ≤ 1000) (h2 : s.length ≤ 1000) : OpD T rMulS (.str s) (.int n) (.str (repS s n)) := fun G H a b Q w ra rb k => by
  cases ra; cases rb
  exact ⟨s, n, rfl, rfl, h0, h1, h2, k _ G H w.go (.str _)⟩
end
end Pf
set_option Elab.async false
set_option linter.all false
set_option maxRecDepth 100000
set_option maxHeartbeats 4000000
/-! a set comprehension with two clauses, of ints: after HandS.Comp's list comprehension with two clauses and HandS.SetBool -/
namespace Pf
open PySem PySem.Spec PyProof.Rows L2
abbrev St := L2.St
def IntS (w : World) (a : Addr) (S : Int → Bool) (n : Nat) : HO := .ext fun h => SetR w h a S n
theorem intS_new {w : World} {P : Program} {H : Hp} {h : Heap} {a : Addr} {S : Int → Bool} {n : Nat} (R : SetR w h a S n) : ObjOk P w H h a (IntS w a S n) := by
  have ⟨o, _, _, _, ho, _⟩ := R
  exact ⟨R, ⟨o, ho⟩, fun h1 h2 p k => SetR.at p k⟩
theorem intS_get {X : Cx} {pins : List (Addr × Obj)} {σ : L2.St} {H : Hp} {s : Shared} {a : Addr} {S : Int → Bool} {n : Nat} (I : Inv X pins σ H s) (ha : H a = some (IntS X.w a S n)) : SetR X.w s.heap a S n := (I.hok a _ ha).1
theorem intS_add {X : Cx} {pins : List (Addr × Obj)} {σ : L2.St} {H : Hp} {s : Shared} {E : Value → Shared → Prop} {D : Addr} {S : Int → Bool} {n : Nat} {y : Int} {tk : Tok} {Q : Value → Shared → Prop} (I : Inv X pins σ H s) (hD : H D = some (IntS X.w D S n)) (room : n + 1 < scanBound)
    (h : ∀ s', Inv X pins σ (upd H D (IntS X.w D (fun j => S j || decide (j = y)) (if S y = true then n else n + 1))) s' → Q .none s') : wpAny (model X.prog X.w) X.A (call (.builtin "set.add") [.ref D, .int y tk]) Q E s := by
  refine setR_add (intS_get I hD) room fun h' sb new => ?_
  have he : ∃ u, h'.get? D = some u := by
    have ⟨o, _, _, _, ho, _⟩ := new
    exact ⟨o, ho⟩
  exact h _ (I.write (e := D) (t' := s.toks + 1) (by rw [hD]; trivial) (.inl rfl) (fun b u hb hu => (sb.2 b hb).trans hu) he (intS_new new))
/-- len of such a set -/
def rLenSet (w : World) : List V → Hp → VK → Prop := fun vs H Q => ∃ a S n, vs = [.ref a] ∧ H a = some (IntS w a S n) ∧ Q (.int (n : Nat)) H
theorem cr_lenSet {X : Cx} : CallR X (.builtin "len") (rLenSet X.w) := by
  intro pins s σ H vs us Q I r h
  obtain ⟨a, S, n, rfl, ha, q⟩ := h
  obtain ⟨u, rfl, ru⟩ := vals1 r
  cases ru
  obtain ⟨o, es, ep, t, ho, hex, hd, _, _, _, hlt, hf, hn, _⟩ := intS_get I ha
  exact call_len_set ho hex hd hf (by have : scanBound < 2 ^ 63 := by decide +kernel
                                      omega) ⟨.int (n : Nat), H, I.tok _, ⟨_, by rw [← hn]⟩, q⟩
theorem scompTurn2_out (elt t0 i0 t1 i1 : Expr) (ifs0 ifs1 : List Expr) (scope : Scope) (pos : Pos) (it acc : Value) (env : Env) :
    compTurn (.SetComp elt [⟨t0, i0, ifs0, 0⟩, ⟨t1, i1, ifs1, 0⟩] scope pos) 0 it acc env = (do
      standAt i0.pos
      match ← pyNext it with
      | none => pure (.done .next)
      | some v =>
        letOwnedTupleGo t0 it v
        assign t0 env v
        let mut ok := true
        for c in ifs0 do
          if ok then ok ← isTrue c env (eval c env)
        if ok then
          let x ← eval i1 env
          standAt i1.pos
          let x ← foldedSetIterable i1 env x
          let _ ← runOwn (.compStart (.SetComp elt [⟨t0, i0, ifs0, 0⟩, ⟨t1, i1, ifs1, 0⟩] scope pos) 1 (← holding [x] (pyIter x)) acc env) env
        again (.compLoop (.SetComp elt [⟨t0, i0, ifs0, 0⟩, ⟨t1, i1, ifs1, 0⟩] scope pos) 0 it acc env)) := by rfl
theorem scompTurn2_in (elt t0 i0 t1 i1 : Expr) (ifs0 ifs1 : List Expr) (scope : Scope) (pos : Pos) (it acc : Value) (env : Env) :
    compTurn (.SetComp elt [⟨t0, i0, ifs0, 0⟩, ⟨t1, i1, ifs1, 0⟩] scope pos) 1 it acc env = (do
      standAt i1.pos
      match ← pyNext it with
      | none => pure (.done .next)
      | some v =>
        letOwnedTupleGo t1 it v
        assign t1 env v
        let mut ok := true
        for c in ifs1 do
          if ok then ok ← isTrue c env (eval c env)
        if ok then
          (do let v ← eval elt env; standAt elt.pos; let _ ← call (.builtin "set.add") [acc, v])
        again (.compLoop (.SetComp elt [⟨t0, i0, ifs0, 0⟩, ⟨t1, i1, ifs1, 0⟩] scope pos) 1 it acc env)) := by rfl

section
variable {prog : Program} {w : World} {A : Around} {R : Result → Shared → Prop} {s : Shared} {elt t0 i0 t1 i1 : Expr} {ifs0 ifs1 : List Expr} {scope : Scope} {pos : Pos} {it acc : Value} {env : Env}
/-- the loop of the first clause -/
theorem scompLoop2_out (hs : ∀ x, foldedSetIterable i1 env x = pure x) (I : Nat → Shared → Prop)
    (turn : ∀ n s, I n s → wpAny (model prog w) A (pyNext it) (fun r s₁ => match r with
      | none => R (.ok .next) s₁
      | some v => wpAny (model prog w) A (letOwnedTupleGo t0 it v) (fun _ s₁' => wpAny (model prog w) A (assign t0 env v) (fun _ s₂ =>
          wpAny (model prog w) A (forIn ifs0 true fun c r => if r = true then do let ok ← isTrue c env (eval c env); pure (ForInStep.yield ok) else pure (ForInStep.yield r)) (fun ok s₃ =>
            if ok = true then wpAny (model prog w) A (eval i1 env) (fun x s₄ => wpAny (model prog w) A (pyIter x) (fun it1 s₅ =>
              codeAny (model prog w) A (.compStart (.SetComp elt [⟨t0, i0, ifs0, 0⟩, ⟨t1, i1, ifs1, 0⟩] scope pos) 1 it1 acc env) (fun r s' => match r with
                | .ok _ => ∃ m, m < n ∧ I m s'
                | .error _ => False) s₅) (notedBy (model prog w) A env fun e s' => R (.error e) s') s₄) (notedBy (model prog w) A env fun e s' => R (.error e) s') s₃
            else ∃ m, m < n ∧ I m s₃) (notedBy (model prog w) A env fun e s' => R (.error e) s') s₂) (notedBy (model prog w) A env fun e s' => R (.error e) s') s₁') (notedBy (model prog w) A env fun e s' => R (.error e) s') s₁) (notedBy (model prog w) A env fun e s' => R (.error e) s') s)
    (n : Nat) (h : I n s) :
    codeAny (model prog w) A (.compLoop (.SetComp elt [⟨t0, i0, ifs0, 0⟩, ⟨t1, i1, ifs1, 0⟩] scope pos) 0 it acc env) R s := by
  refine codeAny_loop rfl I (fun n s hI => ?_) n h
  show wpAny _ A ((compTurn (.SetComp elt [⟨t0, i0, ifs0, 0⟩, ⟨t1, i1, ifs1, 0⟩] scope pos) 0 it acc env).onRaise (fun x => do noteFrame x env; theTreesLotGoes x)) _ _ s
  refine wpAny_noted ?_
  rw [scompTurn2_out]
  refine wpAny_bind (wpAny_standAt (wpAny_bind (wpAny_mono (turn n s hI) (fun r s₁ h₁ => ?_) fun _ _ h' => h')))
  cases r with
  | none => exact wpAny_pure h₁
  | some v =>
    refine wpAny_bind (wpAny_mono h₁ (fun _ s₁' h₁' => ?_) fun _ _ h' => h')
    refine wpAny_bind (wpAny_mono h₁' (fun _ s₂ h₂ => wpAny_bind (wpAny_mono h₂ (fun ok s₃ h₃ => ?_) fun _ _ h' => h')) fun _ _ h' => h')
    cases ok with
    | false => exact wpAny_pure ⟨rfl, h₃⟩
    | true =>
      refine wpAny_bind (wpAny_mono h₃ (fun x s₄ h₄ => ?_) fun _ _ h' => h')
      refine wpAny_bind (wpAny_standAt (wpAny_bind (wpAny_of_eq (hs x) (wpAny_bind (wpAny_holding (wpAny_mono h₄ (fun it1 s₅ h₅ => ?_) fun _ _ h' => h'))))))
      refine wpAny_bind (wpAny_runOwn ?_)
      rw [Around.mark_none]
      refine codeAny_mono h₅ fun r s' hr => ?_
      cases r with
      | ok f =>
        first
          | exact wpAny_pure ⟨rfl, hr⟩
          | exact wpAny_bind (wpAny_pure (wpAny_pure ⟨rfl, hr⟩))
      | error e => exact hr.elim
/-- the loop of the second -/
theorem scompLoop2_in (I : Nat → Shared → Prop)
    (turn : ∀ n s, I n s → wpAny (model prog w) A (pyNext it) (fun r s₁ => match r with
      | none => R (.ok .next) s₁
      | some v => wpAny (model prog w) A (letOwnedTupleGo t1 it v) (fun _ s₁' => wpAny (model prog w) A (assign t1 env v) (fun _ s₂ =>
          wpAny (model prog w) A (forIn ifs1 true fun c r => if r = true then do let ok ← isTrue c env (eval c env); pure (ForInStep.yield ok) else pure (ForInStep.yield r)) (fun ok s₃ =>
            if ok = true then wpAny (model prog w) A (eval elt env) (fun x s₄ =>
              wpAny (model prog w) A (call (.builtin "set.add") [acc, x]) (fun _ s₅ => ∃ m, m < n ∧ I m s₅) (notedBy (model prog w) A env fun e s' => R (.error e) s') s₄) (notedBy (model prog w) A env fun e s' => R (.error e) s') s₃
            else ∃ m, m < n ∧ I m s₃) (notedBy (model prog w) A env fun e s' => R (.error e) s') s₂) (notedBy (model prog w) A env fun e s' => R (.error e) s') s₁') (notedBy (model prog w) A env fun e s' => R (.error e) s') s₁) (notedBy (model prog w) A env fun e s' => R (.error e) s') s)
    (n : Nat) (h : I n s) :
    codeAny (model prog w) A (.compLoop (.SetComp elt [⟨t0, i0, ifs0, 0⟩, ⟨t1, i1, ifs1, 0⟩] scope pos) 1 it acc env) R s := by
  refine codeAny_loop rfl I (fun n s hI => ?_) n h
  show wpAny _ A ((compTurn (.SetComp elt [⟨t0, i0, ifs0, 0⟩, ⟨t1, i1, ifs1, 0⟩] scope pos) 1 it acc env).onRaise (fun x => do noteFrame x env; theTreesLotGoes x)) _ _ s
  refine wpAny_noted ?_
  rw [scompTurn2_in]
  refine wpAny_bind (wpAny_standAt (wpAny_bind (wpAny_mono (turn n s hI) (fun r s₁ h₁ => ?_) fun _ _ h' => h')))
  cases r with
  | none => exact wpAny_pure h₁
  | some v =>
    refine wpAny_bind (wpAny_mono h₁ (fun _ s₁' h₁' => ?_) fun _ _ h' => h')
    refine wpAny_bind (wpAny_mono h₁' (fun _ s₂ h₂ => wpAny_bind (wpAny_mono h₂ (fun ok s₃ h₃ => ?_) fun _ _ h' => h')) fun _ _ h' => h')
    cases ok with
    | false => exact wpAny_pure ⟨rfl, h₃⟩
    | true =>
      exact wpAny_bind (wpAny_bind (wpAny_mono h₃ (fun x s₄ h₄ => wpAny_bind (wpAny_standAt (wpAny_bind (wpAny_mono h₄ (fun _ s₅ h₅ => wpAny_pure (wpAny_pure ⟨rfl, h₅⟩)) fun _ _ h' => h')))) fun _ _ h' => h'))
/-- the second clause's start -/
theorem scompStart1_ok (h0 : codeAny (model prog w) A (.compLoop (.SetComp elt [⟨t0, i0, ifs0, 0⟩, ⟨t1, i1, ifs1, 0⟩] scope pos) 1 it acc env) R s)
    (h : wpAny (model prog w) A (pyIter it) (fun it' s' => codeAny (model prog w) A (.compLoop (.SetComp elt [⟨t0, i0, ifs0, 0⟩, ⟨t1, i1, ifs1, 0⟩] scope pos) 1 it' acc env) R s')
      (notedBy (model prog w) A env fun x s' => R (.error x) s') s) :
    codeAny (model prog w) A (.compStart (.SetComp elt [⟨t0, i0, ifs0, 0⟩, ⟨t1, i1, ifs1, 0⟩] scope pos) 1 it acc env) R s := by
  refine codeAny_of_tree ?_
  show wpAny _ _ ((compStart (.SetComp elt [⟨t0, i0, ifs0, 0⟩, ⟨t1, i1, ifs1, 0⟩] scope pos) 1 it acc env).onRaise (fun x => do noteFrame x env; standAt theWindowsPlace)) _ _ s
  refine wpAny_notedAt ?_
  unfold compStart
  show wpAny _ _ (ask >>= _) _ _ s
  refine wpAny_bind (wpAny_askSetting (wpAny_ite ?_))
  split
  · first
      | exact wpAny_bind (wpAny_pure (wpAny_pure (And.intro rfl h0)))
      | exact wpAny_pure (And.intro rfl h0)
  · first
      | exact wpAny_bind (wpAny_rule (wpAny_bind (wpAny_standAt (wpAny_bind (wpAny_mono h (fun it' s' h' => wpAny_pure (And.intro rfl h')) fun _ _ x => x)))))
      | (refine wpAny_bind (wpAny_rule ?_); show wpAny _ _ (standAt i1.pos >>= _) _ _ s; exact wpAny_bind (wpAny_standAt (wpAny_bind (wpAny_mono h (fun it' s' h' => wpAny_pure (And.intro rfl h')) fun _ _ x => x))))
end
variable {X : Cx}
/-- [elt for tg in iter if .. for tg1 in iter1 if ..]: behind the first clause's store and tests the second source's own loop, from which Nx is reached. vs: the block's names; vs1: those of the second target -/
def stLc2 (w : World) (wi : TI) (g : TG) (tt : TT) (wi1 : TI) (g1 : TG) (tt1 : TT) (te : TE) (vs vs1 : List Nat) : TE := fun σ H Q => wi σ H fun J H1 => ∀ D, H1 D = none → ∃ W : Nat → Nat → Hp → Prop, (∃ m, W 0 m (upd H1 D (IntS w D (fun _ => false) 0))) ∧ ∀ i m H, W i m H →
  (J.stop i H ∧ Q (.ref D) H) ∨ (J.go i H ∧ ∃ Nx : Hp → Prop, (∀ H', Nx H' → ∃ m', m' < m ∧ W (i + 1) m' H') ∧ ∀ x H', J.yld i H x H' → g x (wipe σ vs) H' fun σ2 H2 => wipe σ2 vs = wipe σ vs ∧ tt σ2 H2 fun b H3 =>
    if b = true then wi1 σ2 H3 fun J1 H4 => ∃ W1 : Nat → Nat → Hp → Prop, (∃ m, W1 0 m H4) ∧ ∀ j k H, W1 j k H →
      (J1.stop j H ∧ Nx H) ∨ (J1.go j H ∧ ∃ Nx1 : Hp → Prop, (∀ H', Nx1 H' → ∃ k', k' < k ∧ W1 (j + 1) k' H') ∧ ∀ x H', J1.yld j H x H' → g1 x (wipe σ2 vs1) H' fun σ3 H5 => wipe σ3 vs1 = wipe σ2 vs1 ∧ tt1 σ3 H5 fun b H6 =>
        if b = true then te σ3 H6 fun y H7 => ∃ (c : Int) (S : Int → Bool) (n : Nat), y = .int c ∧ H7 D = some (IntS w D S n) ∧ n + 1 < scanBound ∧ Nx1 (upd H7 D (IntS w D (fun j => S j || decide (j = c)) (if S c = true then n else n + 1))) else Nx1 H6)
    else Nx H3)
theorem slc2_core {pins : List (Addr × Obj)} {s : Shared} {σ : St} {H : Hp} {Q : VK} {elt tg iter tg1 iter1 : Expr} {ifs ifs1 : List Expr} {scope : Scope} {own : List (Str × Nat)} {vs1 : List Nat} {pos pos' : Pos} {wi wi1 : TI} {g g1 : TG} {tt tt1 : TT} {te : TE} {use : Option (Value → Sem Unit)} {Qf : Value → Shared → Prop}
    (hc : X.calm = true) (hN : X.N.Nodup) (I : Inv X pins σ H s) (hi : PI X tg iter wi) (ok : BlkOk X.N X.env.scope scope own) (hv : ∀ i ∈ vs1, i ∈ own.map (·.2))
    (hg : ∀ (s : Shared) (H : Hp) (C : Addr) (cl : List (Str × Addr)) (fp : List Addr), PG (X.blk s H scope (compEnvC scope cl C X.env) fp) tg g) (ht : ∀ (s : Shared) (H : Hp) (C : Addr) (cl : List (Str × Addr)) (fp : List Addr), PTs (X.blk s H scope (compEnvC scope cl C X.env) fp) ifs tt)
    (he : ∀ (s : Shared) (H : Hp) (C : Addr) (cl : List (Str × Addr)) (fp : List Addr), PE (X.blk s H scope (compEnvC scope cl C X.env) fp) elt te) (hs : ∀ x, foldedSetIterable iter X.env x = pure x)
    (hi1 : ∀ (s : Shared) (H : Hp) (C : Addr) (cl : List (Str × Addr)) (fp : List Addr), PI (X.blk s H scope (compEnvC scope cl C X.env) fp) tg1 iter1 wi1)
    (hg1 : ∀ (s : Shared) (H : Hp) (C : Addr) (cl : List (Str × Addr)) (fp : List Addr), PG (X.blk s H scope (compEnvC scope cl C X.env) fp) tg1 g1)
    (ht1 : ∀ (s : Shared) (H : Hp) (C : Addr) (cl : List (Str × Addr)) (fp : List Addr), PTs (X.blk s H scope (compEnvC scope cl C X.env) fp) ifs1 tt1)
    (hs1 : ∀ env x, foldedSetIterable iter1 env x = pure x)
    (h : stLc2 X.w wi g tt wi1 g1 tt1 te (own.map (·.2)) vs1 σ H Q)
    (hRR : ∀ D C s' m H', Inv X pins σ H' s' → Q (.ref D) H' → s'.heap.Ns C m → FpOk X pins H' C → compPost (model X.prog X.w) X.A X.xe use Qf (.ref D) C (.ok .next) s') :
    wpAny (model X.prog X.w) X.A (comprehension (.SetComp elt [⟨tg, iter, ifs, 0⟩, ⟨tg1, iter1, ifs1, 0⟩] scope pos) scope X.env pos' (newSet (.type "set")) false (eval iter X.env) use) Qf X.xe s := by
  have hfree : ∀ y ∈ scope.names, y.2 = .free → ∃ c, X.env.cells.lookup y.1 = some c := fun y hy e => by
    rcases ok.free y hy e with k | k
    · exact I.ok.has _ (.inl k)
    · exact I.ok.has _ (.inr k)
  refine wpAny_comprehension_free (use := use) rfl hs (closure_ok hfree) ok.kind (fun y hy e => by rw [ok.uniq y hy, e])
    (thn (hi.run pins s σ H _ I h) fun xv s1 hx => thn hx fun itv s2 h2 => ?_)
  obtain ⟨it, fp, tn, J, H2, e, I2, T, st2, f2, q⟩ := h2
  subst e
  refine PpSet.newSet_ok (newEnv_comp ?_)
  generalize hD : s2.heap.objs.size = D
  have hDn : H2 D = none := I2.hok.fresh (Nat.le_of_eq hD)
  obtain ⟨W, ⟨m0, w0⟩, turn⟩ := q D hDn
  -- the new list
  generalize hs3 : ({ s2 with heap := s2.heap.push { cls := .type "set", dict := none, data := .set #[] 0 (.fresh 0 0 (!X.w.params.followText "set-order")) } } : Shared) = s3
  have I3 : Inv X pins σ (upd H2 D (IntS X.w D (fun _ => false) 0)) s3 := by
    rw [← hs3]
    refine I2.laid (t' := s2.toks) (fun b o e => Heap.get?_push_of_some _ e) (Nat.le_of_eq hD) ?_
    rw [← hD]
    exact intS_new (setR_fresh X.w)
  have h3 : s3.heap = s2.heap.push { cls := .type "set", dict := none, data := .set #[] 0 (.fresh 0 0 (!X.w.params.followText "set-order")) } := by rw [← hs3]
  have sz : ∀ b ∈ fp, b < s2.heap.objs.size := fun b hb => by
    obtain ⟨o, e, _⟩ := T.obj _ _ st2 b hb
    exact Heap.lt_size e
  have f3 : ∀ b ∈ fp, FpOk X pins (upd H2 D (IntS X.w D (fun _ => false) 0)) b ∧ b < s3.heap.objs.size := fun b hb => by
    have hlt := sz b hb
    refine ⟨⟨?_, (f2 b hb).2⟩, by rw [h3, Heap.size_push]; exact Nat.lt_succ_of_lt hlt⟩
    rw [upd_ne (by rw [← hD]; exact Nat.ne_of_lt hlt)]
    exact (f2 b hb).1
  have st3 : tn 0 s3.heap := T.keep _ _ _ st2 fun b _ o e => by rw [h3]; exact Heap.get?_push_of_some _ e
  have I4 := block_start I3 ok hN f3
  have pg := hg s3 (upd H2 D (IntS X.w D (fun _ => false) 0)) s3.heap.objs.size (cellsFrom (s3.heap.objs.size + 1) scope.names (cloFrom X.env.cells scope.names [])) fp
  have pt := ht s3 (upd H2 D (IntS X.w D (fun _ => false) 0)) s3.heap.objs.size (cellsFrom (s3.heap.objs.size + 1) scope.names (cloFrom X.env.cells scope.names [])) fp
  have pe := he s3 (upd H2 D (IntS X.w D (fun _ => false) 0)) s3.heap.objs.size (cellsFrom (s3.heap.objs.size + 1) scope.names (cloFrom X.env.cells scope.names [])) fp
  have pi1 := hi1 s3 (upd H2 D (IntS X.w D (fun _ => false) 0)) s3.heap.objs.size (cellsFrom (s3.heap.objs.size + 1) scope.names (cloFrom X.env.cells scope.names [])) fp
  have pg1 := hg1 s3 (upd H2 D (IntS X.w D (fun _ => false) 0)) s3.heap.objs.size (cellsFrom (s3.heap.objs.size + 1) scope.names (cloFrom X.env.cells scope.names [])) fp
  have pt1 := ht1 s3 (upd H2 D (IntS X.w D (fun _ => false) 0)) s3.heap.objs.size (cellsFrom (s3.heap.objs.size + 1) scope.names (cloFrom X.env.cells scope.names [])) fp
  show codeAny _ _ (.compStart (.SetComp elt [⟨tg, iter, ifs, 0⟩, ⟨tg1, iter1, ifs1, 0⟩] scope pos) 0 (.ref it) (.ref D) (compEnvC scope (cellsFrom (s3.heap.objs.size + 1) scope.names (cloFrom X.env.cells scope.names [])) s3.heap.objs.size X.env)) (compPost (model X.prog X.w) X.A X.xe use Qf (.ref D) s3.heap.objs.size) { s3 with heap := pushCells (s3.heap.push { cls := .type "dict", data := .dict #[] }) scope.names }
  have nfp : ∀ b ∈ fp, (upd H2 D (IntS X.w D (fun _ => false) 0)) b = none := fun b hb => (f3 b hb).1.1
  generalize hce : compEnvC scope (cellsFrom (s3.heap.objs.size + 1) scope.names (cloFrom X.env.cells scope.names [])) s3.heap.objs.size X.env = ce at I4 pg pt pe pi1 pg1 pt1 ⊢
  have cL : ce.locals = s3.heap.objs.size := by subst hce; rfl
  generalize hH3 : upd H2 D (IntS X.w D (fun _ => false) 0) = H3 at I3 I4 pg pt pe pi1 pg1 pt1 w0 nfp f3
  generalize hs4 : ({ s3 with heap := pushCells (s3.heap.push { cls := .type "dict", data := .dict #[] }) scope.names } : Shared) = s4 at I4 ⊢
  have st4 : tn 0 s4.heap := T.keep _ _ _ st3 fun b _ o e => by rw [← hs4]; exact pushCells_keeps _ _ _ _ (Heap.get?_push_of_some _ e)
  have stat : ∀ {σ' : St} {H' : Hp} {s' : Shared}, Inv (X.blk s3 H3 scope ce fp) [] σ' H' s' → (∀ b ∈ fp, H' b = none) → ∀ b ∈ fp, FpOk (X.blk s3 H3 scope ce fp) [] H' b := fun {σ' H' s'} I' hn b hb =>
    ⟨hn b hb, (I'.ok.exf b hb).1, I'.ok.exfs b hb, .inl hb, fun x c e => (I'.ok.exf b hb).2 x c e, fun p hp => absurd (show p ∈ ([] : List (Addr × Obj)) ++ [] from hp) (by simp)⟩
  have loop : codeAny (model X.prog X.w) X.A (.compLoop (.SetComp elt [⟨tg, iter, ifs, 0⟩, ⟨tg1, iter1, ifs1, 0⟩] scope pos) 0 (.ref it) (.ref D) ce) (compPost (model X.prog X.w) X.A X.xe use Qf (.ref D) s3.heap.objs.size) s4 := by
    refine scompLoop2_out (hs1 ce) (fun n s' => ∃ i H', Inv (X.blk s3 H3 scope ce fp) [] (wipe σ (own.map (·.2))) H' s' ∧ tn i s'.heap ∧ (∀ b ∈ fp, H' b = none) ∧ W i n H') ?_ m0 ⟨0, H3, I4, st4, nfp, w0⟩
    rintro n s5 ⟨i, H5, I5, st5, n5, w5⟩
    rcases turn i n H5 w5 with ⟨stop, qq⟩ | ⟨go, Nx, hNx, step⟩
    · have td := T.done (X.blk s3 H3 scope ce fp) rfl rfl rfl hc i [] s5 _ H5 (fun _ _ => False) I5 (stat I5 n5) st5 stop
      refine thnF td fun r s6 ⟨hr, I6⟩ => ?_
      subst hr
      -- back in the def's context
      have I7 : Inv X pins σ H5 s6 := I3.call' (ch := fp) I6.os I6.base I6.hok I6.bare fun b hb => ⟨(f3 b hb).1.2.2.2.1, (f3 b hb).1.2.1, (f3 b hb).1.2.2.2.2.1, (f3 b hb).1.2.2.2.2.2⟩
      have nC : H5 s3.heap.objs.size = none := by
        have z : H5 ce.locals = none := I6.free
        rw [cL] at z
        exact z
      obtain ⟨m, hn, _⟩ := I6.loc
      have hn : s6.heap.Ns ce.locals m := hn
      rw [cL] at hn
      exact hRR D s3.heap.objs.size s6 m H5 I7 qq hn (I3.fpOk (Nat.le_refl _) nC)
    · have ti := T.item (X.blk s3 H3 scope ce fp) rfl rfl rfl hc i [] s5 _ H5 (fun _ _ => False) I5 (stat I5 n5) st5 go
      refine thnF ti fun r s6 ⟨u, hr, h6⟩ => ?_
      subst hr
      refine thnF h6 fun _ s7 ⟨x, H7, I7, r7, y7, st7, n7⟩ => ?_
      have I7' := I7.pinned (stat I7 n7) (T.obj _ _ st7)
      refine thnF (pg.run _ s7 _ H7 x u _ I7' r7 (step x H7 y7)) fun _ s8 ⟨σ8, H8, I8, hw8, q8⟩ => ?_
      refine thnF (pt.run _ s8 σ8 H8 _ I8 q8) fun b s9 ⟨H9, I9, q9⟩ => ?_
      -- the turn's end, from any slots that know what the block knew at its start
      have fin : ∀ {σ9 : St} {s' : Shared} {H' : Hp}, Inv (X.blk s3 H3 scope ce fp) ([] ++ pinsAt fp s7.heap) σ9 H' s' → (wipe σ (own.map (·.2))).length = σ9.length → (∀ (j : Nat) v, (wipe σ (own.map (·.2)))[j]? = some (some v) → σ9[j]? = some (some v)) → Nx H' →
          ∃ m, m < n ∧ ∃ i H', Inv (X.blk s3 H3 scope ce fp) [] (wipe σ (own.map (·.2))) H' s' ∧ tn i s'.heap ∧ (∀ b ∈ fp, H' b = none) ∧ W i m H' := fun {σ9 s' H'} I' hl hk nx => by
        obtain ⟨m', hm, w'⟩ := hNx H' nx
        have pin' : ∀ b ∈ fp, ∀ o, s7.heap.get? b = some o → s'.heap.get? b = some o ∧ H' b = none := fun b hb o e =>
          let z := I'.pin (b, o) (List.mem_append_right _ (List.mem_append_right _ (mem_pinsAt hb e)))
          ⟨z.1, z.2.1⟩
        refine ⟨m', hm, i + 1, H', (I'.unpinned (pins := [])).weak hl hk, T.keep _ _ _ st7 fun b hb o e => (pin' b hb o e).1, fun b hb => ?_, w'⟩
        obtain ⟨o, e, _⟩ := T.obj _ _ st7 b hb
        exact (pin' b hb o e).2
      have hl8 : (wipe σ (own.map (·.2))).length = σ8.length := by rw [← hw8, wipe_length]
      have hk8 : ∀ (j : Nat) v, (wipe σ (own.map (·.2)))[j]? = some (some v) → σ8[j]? = some (some v) := fun j v e => by
        rw [← hw8] at e
        exact (wipe_some e).1
      have hk9 : ∀ (j : Nat) v, (wipe σ (own.map (·.2)))[j]? = some (some v) → (wipe σ8 vs1)[j]? = some (some v) := fun j v e => by
        rw [← hw8] at e
        obtain ⟨e1, e2⟩ := wipe_some e
        rw [wipe_out fun z => e2 (hv j z)]
        exact e1
      cases b with
      | false =>
        simp only [Bool.false_eq_true, if_false] at q9 ⊢
        exact fin I9 hl8 hk8 q9
      | true =>
        simp only [if_true] at q9 ⊢
        refine thnF (pi1.run _ s9 σ8 H9 _ I9 q9) fun xv s10 hx => thnF hx fun itv s11 h11 => ?_
        obtain ⟨it1, fp1, tn1, J1, H11, e1, I11, T1, st11, f11, W1, ⟨m1, w1⟩, turn1⟩ := h11
        subst e1
        -- the inner loop
        have stat1 : ∀ {H' : Hp}, (∀ b ∈ fp1, H' b = none) → ∀ b ∈ fp1, FpOk (X.blk s3 H3 scope ce fp) ([] ++ pinsAt fp s7.heap) H' b := fun hn b hb => ⟨hn b hb, (f11 b hb).2⟩
        have loop1 : codeAny (model X.prog X.w) X.A (.compLoop (.SetComp elt [⟨tg, iter, ifs, 0⟩, ⟨tg1, iter1, ifs1, 0⟩] scope pos) 1 (.ref it1) (.ref D) ce)
            (fun r s' => match r with
              | .ok _ => ∃ m, m < n ∧ ∃ i H', Inv (X.blk s3 H3 scope ce fp) [] (wipe σ (own.map (·.2))) H' s' ∧ tn i s'.heap ∧ (∀ b ∈ fp, H' b = none) ∧ W i m H'
              | .error _ => False) s11 := by
          refine scompLoop2_in (fun k s' => ∃ j H', Inv (X.blk s3 H3 scope ce fp) ([] ++ pinsAt fp s7.heap) (wipe σ8 vs1) H' s' ∧ tn1 j s'.heap ∧ (∀ b ∈ fp1, H' b = none) ∧ W1 j k H') ?_ m1 ⟨0, H11, I11.weak (wipe_length _ _) (fun j v e => (wipe_some e).1), st11, fun b hb => (f11 b hb).1, w1⟩
          rintro k s12 ⟨j, H12, I12, st12, n12, w12⟩
          rcases turn1 j k H12 w12 with ⟨stop1, nx1⟩ | ⟨go1, Nx1, hNx1, step1⟩
          · refine thnF (T1.done (X.blk s3 H3 scope ce fp) rfl rfl rfl hc j _ s12 (wipe σ8 vs1) H12 (fun _ _ => False) I12 (stat1 n12) st12 stop1) fun r s13 ⟨hr, I13⟩ => ?_
            subst hr
            exact fin I13 (hl8.trans (wipe_length σ8 vs1).symm) hk9 nx1
          · refine thnF (T1.item (X.blk s3 H3 scope ce fp) rfl rfl rfl hc j _ s12 (wipe σ8 vs1) H12 (fun _ _ => False) I12 (stat1 n12) st12 go1) fun r s13 ⟨u1, hr, h13⟩ => ?_
            subst hr
            refine thnF h13 fun _ s14 ⟨x1, H14, I14, r14, y14, st14, n14⟩ => ?_
            have I14' := I14.pinned (stat1 n14) (T1.obj _ _ st14)
            refine thnF (pg1.run _ s14 (wipe σ8 vs1) H14 x1 u1 _ I14' r14 (step1 x1 H14 y14)) fun _ s15 ⟨σ15, H15, I15, hw15, q15⟩ => ?_
            refine thnF (pt1.run _ s15 σ15 H15 _ I15 q15) fun b1 s16 ⟨H16, I16, q16⟩ => ?_
            have fin1 : ∀ {s' : Shared} {H' : Hp}, Inv (X.blk s3 H3 scope ce fp) (([] ++ pinsAt fp s7.heap) ++ pinsAt fp1 s14.heap) σ15 H' s' → Nx1 H' → ∃ m, m < k ∧ ∃ j H', Inv (X.blk s3 H3 scope ce fp) ([] ++ pinsAt fp s7.heap) (wipe σ8 vs1) H' s' ∧ tn1 j s'.heap ∧ (∀ b ∈ fp1, H' b = none) ∧ W1 j m H' := fun {s' H'} I' nx => by
              obtain ⟨m', hm, w'⟩ := hNx1 H' nx
              have pin' : ∀ b ∈ fp1, ∀ o, s14.heap.get? b = some o → s'.heap.get? b = some o ∧ H' b = none := fun b hb o e =>
                let z := I'.pin (b, o) (List.mem_append_right _ (List.mem_append_right _ (mem_pinsAt hb e)))
                ⟨z.1, z.2.1⟩
              refine ⟨m', hm, j + 1, H', I'.unpinned.weak (by rw [← hw15, wipe_length]) (fun j v e => by rw [← hw15] at e; exact (wipe_some e).1), T1.keep _ _ _ st14 fun b hb o e => (pin' b hb o e).1, fun b hb => ?_, w'⟩
              obtain ⟨o, e, _⟩ := T1.obj _ _ st14 b hb
              exact (pin' b hb o e).2
            cases b1 with
            | false =>
              simp only [Bool.false_eq_true, if_false] at q16 ⊢
              exact fin1 I16 q16
            | true =>
              simp only [if_true] at q16 ⊢
              refine thnF (pe.run _ s16 σ15 H16 _ I16 q16) fun z s17 ⟨yv, H17, I17, r17, cb, S0, n0, ey, hD17, hz17, nx⟩ => ?_
              subst ey
              obtain ⟨tk, rfl⟩ := (show ∃ t, z = Value.int cb t from r17)
              exact intS_add (X := X.blk s3 H3 scope ce fp) I17 hD17 hz17 fun s18 I18 => fin1 I18 nx
        exact scompStart1_ok loop1 (T1.self X.A 0 _ _ _ st11 loop1)
  exact PpSet.codeAny_compStart_set loop (T.self X.A 0 _ _ _ st4 loop)
/-- as a value -/
theorem spe_lc2 {elt tg iter tg1 iter1 : Expr} {ifs ifs1 : List Expr} {scope : Scope} {own : List (Str × Nat)} {vs1 : List Nat} {pos : Pos} {wi wi1 : TI} {g g1 : TG} {tt tt1 : TT} {te : TE} (hc : X.calm = true) (hN : X.N.Nodup) (hi : PI X tg iter wi) (ok : BlkOk X.N X.env.scope scope own) (hv : ∀ i ∈ vs1, i ∈ own.map (·.2))
    (hg : ∀ (s : Shared) (H : Hp) (C : Addr) (cl : List (Str × Addr)) (fp : List Addr), PG (X.blk s H scope (compEnvC scope cl C X.env) fp) tg g) (ht : ∀ (s : Shared) (H : Hp) (C : Addr) (cl : List (Str × Addr)) (fp : List Addr), PTs (X.blk s H scope (compEnvC scope cl C X.env) fp) ifs tt)
    (hi1 : ∀ (s : Shared) (H : Hp) (C : Addr) (cl : List (Str × Addr)) (fp : List Addr), PI (X.blk s H scope (compEnvC scope cl C X.env) fp) tg1 iter1 wi1)
    (hg1 : ∀ (s : Shared) (H : Hp) (C : Addr) (cl : List (Str × Addr)) (fp : List Addr), PG (X.blk s H scope (compEnvC scope cl C X.env) fp) tg1 g1) (ht1 : ∀ (s : Shared) (H : Hp) (C : Addr) (cl : List (Str × Addr)) (fp : List Addr), PTs (X.blk s H scope (compEnvC scope cl C X.env) fp) ifs1 tt1)
    (he : ∀ (s : Shared) (H : Hp) (C : Addr) (cl : List (Str × Addr)) (fp : List Addr), PE (X.blk s H scope (compEnvC scope cl C X.env) fp) elt te) (hs : ∀ x, foldedSetIterable iter X.env x = pure x := by intro _; rfl) (hs1 : ∀ env x, foldedSetIterable iter1 env x = pure x := by intro _ _; rfl) :
    PE X (.SetComp elt [⟨tg, iter, ifs, 0⟩, ⟨tg1, iter1, ifs1, 0⟩] scope pos) (stLc2 X.w wi g tt wi1 g1 tt1 te (own.map (·.2)) vs1) := by
  refine ⟨fun pins s σ H Q I h => ?_⟩
  rw [PpSet.eval_SetComp]
  refine slc2_core hc hN I hi ok hv hg ht he hs hi1 hg1 ht1 hs1 h fun D C s' m H' I' q hn f => ⟨m, hn, fun h'' sb => ?_⟩
  obtain ⟨f0, f1, f2, f3, f4, f5⟩ := f
  exact ⟨.ref D, H', I'.turned (t' := s'.toks) (fun b o hb e => (sb.2 b hb).trans e) f0 f1 f3 f4 f5, rfl, q⟩
end Pf
set_option Elab.async false
set_option linter.all false
set_option maxRecDepth 100000
set_option maxHeartbeats 4000000
namespace Pf
open PySem L2
def hpN (o : Obj) : Nat → Heap
  | 0 => { objs := #[] }
  | n + 1 => (hpN o n).push o
theorem hpN_size (o : Obj) : ∀ n, (hpN o n).objs.size = n
  | 0 => rfl
  | n + 1 => by rw [hpN, Heap.size_push, hpN_size o n]
theorem intS_code {w : World} {a : Addr} {S : Int → Bool} {n : Nat} {q : Str} : IntS w a S n ≠ LamX.CodeO a q := fun e => by
  unfold IntS LamX.CodeO at e
  injection e with e
  let o : Obj := { cls := .none, data := .fields #[.none, .str q 0] }
  have h := congrFun e ((hpN o a).push o)
  have g : ((hpN o a).push o).get? a = some o := by
    have := Heap.get?_push_size (hpN o a) (o := o) rfl
    rw [hpN_size] at this
    exact this
  have h2 : SetR w ((hpN o a).push o) a S n := h.mpr ⟨o, _, 0, g, rfl, rfl⟩
  obtain ⟨o', es, ep, t, e1, e2, e3, _⟩ := h2
  rw [g] at e1
  cases e1
  cases e3
section
variable {T : Tb} {G H G1 H1 : Hp}
theorem tabs_setX {p : Addr} {o u : HO} (t : LamX.Tabs T H) (h : H p = some u) (n1 : NotT u) (n2 : ∀ q, u ≠ LamX.CodeO p q) : LamX.Tabs T (upd H p o) := fun q hq => by
  obtain ⟨ps, e1, e2, e3⟩ := t q hq
  have m1 : q.1 ≠ p := fun e => by rw [e, h] at e1; cases e1; exact n1 _ rfl
  refine ⟨ps, by rw [upd_ne m1]; exact e1, e2, fun pos cv hc => ?_⟩
  obtain ⟨c, f1, f2⟩ := e3 pos cv hc
  have m2 : c ≠ p := fun e => by rw [e, h] at f2; cases f2; exact n2 _ rfl
  exact ⟨c, f1, by rw [upd_ne m2]; exact f2⟩
theorem Go.appX {Dl : Addr} {o u : HO} (g : Go T G1 H1 G H) (hD : H1 Dl = none) (hH : H Dl = some u) (n1 : NotT u) (n2 : ∀ q, u ≠ LamX.CodeO Dl q) (hG : G Dl = none) : Go T G1 H1 G (upd H Dl o) := by
  refine ⟨g.g, fun a u q => ?_, ⟨fun a u q => ?_, tabs_setX g.w.t hH n1 n2, g.w.nt⟩, g.n⟩
  · have z : a ≠ Dl := fun z => by subst z; rw [hD] at q; cases q
    rw [upd_ne z]
    exact g.h a u q
  · have z : a ≠ Dl := fun z => by subst z; rw [hG] at q; cases q
    rw [upd_ne z]
    exact g.w.s a u q
end
theorem notT_int {w : World} {a : Addr} {S : Int → Bool} {n : Nat} : NotT (IntS w a S n) := fun _ e => nomatch e
section
variable {T : Tb} {K : PySem.W.Frag} {ρ : En} {w : World}
/-- len({e for a in xs for b in ys}), the members all apart -/
theorem ev_lenSc2 {α β : Type} {wi wi1 : TI} {g g1 : TG} {te : TE} {is is1 vs vs1 : List Nat} (xs : List α) (enc : α → D) (ys : α → List β) (enc1 : α → β → D) (out : α → β → Int) (hw : ∀ i ∈ is, i ∈ vs) (hw1 : ∀ i ∈ is1, i ∈ vs1) (h : EvI T wi ρ (xs.map enc))
    (hz : (xs.flatMap fun a => (ys a).map (out a)).length < 1000) (hnd : (xs.flatMap fun a => (ys a).map (out a)).Nodup)
    (hs : ∀ a ∈ xs, ∃ ρ', EvG T g is (wipeE ρ vs) (enc a) ρ' ∧ noOwn ρ' = true ∧ EvI T wi1 ρ' ((ys a).map (enc1 a)) ∧ ∀ b ∈ ys a, ∃ ρ2, EvG T g1 is1 (wipeE ρ' vs1) (enc1 a b) ρ2 ∧ Ev T te ρ2 (.int (out a b))) :
    Ev T (tCB (rLenSet w) (tCons (stLc2 w wi g tYes wi1 g1 tYes te vs vs1) tNil)) ρ (.int ((xs.flatMap fun a => (ys a).map (out a)).length : Nat)) := fun G0 H0 G H σ Q S k =>
  h G0 H0 G H σ _ S fun J G1 H1 g1' it Dl hD => by
    generalize hF : (fun a => (ys a).map (out a)) = F at hz hnd k
    have hl : (xs.map enc).length = xs.length := List.length_map _
    have S1 := S.next g1'
    have hscan : (1001 : Nat) < scanBound := by decide +kernel
    refine ⟨fun i m H' => m = xs.length - i ∧ i ≤ xs.length ∧ ∃ Gi M, Go T G1 H1 Gi H' ∧ H' Dl = some (IntS w Dl M ((xs.take i).flatMap F).length) ∧ Gi Dl = none ∧ ∀ j, M j = true ↔ j ∈ (xs.take i).flatMap F, ⟨xs.length, by simp, Nat.zero_le _, G1, fun _ => false, g1'.w.hid hD, upd_same, g1'.w.s.free hD, by simp⟩, ?_⟩
    rintro i m H' ⟨rfl, hi, Gi, M, gi, hH, hG, hM⟩
    by_cases hlt : i < xs.length
    · refine .inr ⟨it.go Gi H' i gi.g gi.w (by omega), fun H2 => ∃ Gi M, Go T G1 H1 Gi H2 ∧ H2 Dl = some (IntS w Dl M ((xs.take (i + 1)).flatMap F).length) ∧ Gi Dl = none ∧ ∀ j, M j = true ↔ j ∈ (xs.take (i + 1)).flatMap F, fun H2 p => ⟨xs.length - (i + 1), by omega, rfl, by omega, p⟩, fun x H2 y => ?_⟩
      have ex : xs[i]? = some xs[i] := List.getElem?_eq_getElem hlt
      generalize hxa : xs[i] = xa at ex
      have hmem : xa ∈ xs := by rw [← hxa]; exact List.getElem_mem _
      have e : (xs.map enc)[i]? = some (enc xa) := by rw [List.getElem?_map, ex]; rfl
      obtain ⟨G2, g2, r2⟩ := it.yld Gi H' i x H2 _ gi.g gi.w e y
      obtain ⟨ρ', hg, hno, hin, hb⟩ := hs xa hmem
      have S2 : Sta T G0 H0 G2 H2 (L2.wipe σ vs) (wipeE ρ vs) := (S1.next (gi.trans g2)).wipe vs
      refine hg G0 H0 G2 H2 _ x _ S2 r2 fun σ3 S3 l3 e3 => ⟨wipe_eq l3 e3 hw, ?_⟩
      show wi1 σ3 H2 _
      refine hin G0 H0 G2 H2 σ3 _ S3 fun J1 G3 H3 g3 it1 => ?_
      have hl1 : ((ys xa).map (enc1 xa)).length = (ys xa).length := List.length_map _
      have a3 := g2.trans g3
      have hH3 := a3.h.at_ hH notT_int
      have hG3 : G3 Dl = none := a3.hidden hH hG
      have S3' := S3.next g3
      have hFx : F xa = (ys xa).map (out xa) := by rw [← hF]
      refine ⟨fun j m H' => m = (ys xa).length - j ∧ j ≤ (ys xa).length ∧ ∃ Gj M, Go T G1 H1 Gj H' ∧ Sub G3 Gj ∧ H' Dl = some (IntS w Dl M ((xs.take i).flatMap F ++ ((ys xa).take j).map (out xa)).length) ∧ Gj Dl = none ∧ ∀ z, M z = true ↔ z ∈ (xs.take i).flatMap F ++ ((ys xa).take j).map (out xa),
        ⟨(ys xa).length, by simp, Nat.zero_le _, G3, M, gi.trans a3, Sub.refl _, by simpa using hH3, hG3, by simpa using hM⟩, ?_⟩
      rintro j m H4 ⟨rfl, hj, Gj, M4, gj, sj, hHj, hGj, hMj⟩
      by_cases hlt1 : j < (ys xa).length
      · refine .inr ⟨it1.go Gj H4 j sj gj.w (by omega), fun H' => ∃ Gj M, Go T G1 H1 Gj H' ∧ Sub G3 Gj ∧ H' Dl = some (IntS w Dl M ((xs.take i).flatMap F ++ ((ys xa).take (j + 1)).map (out xa)).length) ∧ Gj Dl = none ∧ ∀ z, M z = true ↔ z ∈ (xs.take i).flatMap F ++ ((ys xa).take (j + 1)).map (out xa), fun H' p => ⟨(ys xa).length - (j + 1), by omega, rfl, by omega, p⟩, fun x1 H5 y1 => ?_⟩
        have ex1 : (ys xa)[j]? = some (ys xa)[j] := List.getElem?_eq_getElem hlt1
        have e1 : ((ys xa).map (enc1 xa))[j]? = some (enc1 xa (ys xa)[j]) := by rw [List.getElem?_map, ex1]; rfl
        obtain ⟨G5, g5, r5⟩ := it1.yld Gj H4 j x1 H5 _ sj gj.w e1 y1
        obtain ⟨ρ2, hg1, he1⟩ := hb (ys xa)[j] (List.getElem_mem _)
        have S5 : Sta T G0 H0 G5 H5 (L2.wipe σ3 vs1) (wipeE ρ' vs1) := (S3.plainTo hno ((g3.g.trans sj).trans g5.g) (S1.go.trans (gj.trans g5))).wipe vs1
        refine hg1 G0 H0 G5 H5 _ x1 _ S5 r5 fun σ6 S6 l6 e6 => ⟨wipe_eq l6 e6 hw1, ?_⟩
        show te σ6 H5 _
        refine he1 G0 H0 G5 H5 σ6 _ S6 fun v G7 H7 g7 r7 => ?_
        cases r7
        have a7 := g5.trans g7
        have hH7 := a7.h.at_ hHj notT_int
        have hG7 : G7 Dl = none := a7.hidden hHj hGj
        have step : (xs.take i).flatMap F ++ ((ys xa).take (j + 1)).map (out xa) = ((xs.take i).flatMap F ++ ((ys xa).take j).map (out xa)) ++ [out xa (ys xa)[j]] := by
          rw [take_map_succ ex1, List.append_assoc]
        have pre : ((xs.take i).flatMap F ++ ((ys xa).take (j + 1)).map (out xa)) <+: xs.flatMap F := by
          have p1 : (xs.take (i + 1)).flatMap F <+: xs.flatMap F := by
            refine ⟨(xs.drop (i + 1)).flatMap F, ?_⟩
            rw [← List.flatMap_append, List.take_append_drop]
          rw [take_flatMap_succ ex, hFx] at p1
          refine List.IsPrefix.trans ?_ p1
          refine ⟨((ys xa).drop (j + 1)).map (out xa), ?_⟩
          rw [List.append_assoc, ← List.map_append, List.take_append_drop]
        have nd := hnd.sublist pre.sublist
        have ln := pre.length_le
        rw [step] at nd ln
        rw [step]
        have fresh : M4 (out xa (ys xa)[j]) = false := by
          cases q : M4 (out xa (ys xa)[j]) with
          | false => rfl
          | true =>
            have h1 := (hMj _).mp q
            exact absurd rfl (List.nodup_append.mp nd |>.2.2 _ h1 _ (by simp))
        refine ⟨out xa (ys xa)[j], M4, _, rfl, hH7, ?_, G7, fun z => M4 z || decide (z = out xa (ys xa)[j]), (gj.trans a7).appX hD hH7 notT_int (fun q => intS_code) hG7, sj.trans a7.g, ?_, hG7, fun z => ?_⟩
        · rw [List.length_append, List.length_singleton] at ln
          omega
        · rw [upd_same, fresh, if_neg Bool.false_ne_true, List.length_append (bs := [out xa (ys xa)[j]])]
          rfl
        · simp only [Bool.or_eq_true, decide_eq_true_eq, List.mem_append, List.mem_singleton]
          rw [hMj z, List.mem_append]
      · have e : j = (ys xa).length := by omega
        subst e
        refine .inl ⟨it1.stop Gj H4 _ sj gj.w (by omega), Gj, M4, gj, ?_⟩
        rw [List.take_length] at hHj hMj
        rw [take_flatMap_succ ex, hFx]
        exact ⟨hHj, hGj, hMj⟩
    · have e : i = xs.length := by omega
      subst e
      rw [List.take_length] at hH hM
      refine .inl ⟨it.stop Gi H' _ gi.g gi.w (by omega), ?_⟩
      exact ⟨Dl, M, _, rfl, hH, k _ Gi H' (g1'.trans gi) (.int _)⟩
end
end Pf
set_option Elab.async false
set_option linter.all false
set_option maxRecDepth 100000
set_option maxHeartbeats 4000000
namespace Pf
open PySem L2
open PySem.W (alike alikeAll dataLt AllAlike EachIs)
open PyProof.Rows PySem.Calls
/-! ### sorted(d), the keys of d tuples -/
def tupsOf (H : Hp) : Hp := fun a => match H a with
  | some (.tup xs) => some (.tup xs)
  | _ => none
theorem tupsOf_sub (H : Hp) : Sub (tupsOf H) H := fun a o h => by
  unfold tupsOf at h
  split at h
  · rename_i e; cases h; exact e
  · cases h
theorem tupsOf_tup {H : Hp} {a : Addr} {o : HO} (h : tupsOf H a = some o) : ∃ xs, o = .tup xs := by
  unfold tupsOf at h
  split at h
  · cases h; exact ⟨_, rfl⟩
  · cases h
theorem tupsOf_at {H : Hp} {a : Addr} {xs : List V} (h : H a = some (.tup xs)) : tupsOf H a = some (.tup xs) := by
  unfold tupsOf
  rw [h]
theorem reps_kV {G : Hp} : ∀ ks : List Key, Reps G (ks.map kV) (ks.map keyD)
  | [] => .nil
  | .inl i :: ks => .cons (.int i) (reps_kV ks)
  | .inr x :: ks => .cons (.str x) (reps_kV ks)
theorem pget_ {α β : Type} {F : α → β → Prop} : ∀ {l₁ : List α} {l₂ : List β} {j : Nat} {x : α}, Paired F l₁ l₂ → l₁[j]? = some x → ∃ y, l₂[j]? = some y ∧ F x y
  | _, _, j, x, .nil, h => by simp at h
  | _, _, 0, x, .cons f _, h => by cases h; exact ⟨_, rfl, f⟩
  | _, _, j + 1, x, .cons _ t, h => pget_ t (j := j) h
theorem each_at {R : Value → D → Prop} {κ : Type} {f : κ → D} : ∀ {vs : List Value} {ks : List κ}, vs.length = ks.length → (∀ (j : Nat) (v : Value) (k : κ), vs[j]? = some v → ks[j]? = some k → R v (f k)) → EachIs R vs (ks.map f)
  | [], [], _, _ => .nil
  | [], _ :: _, h, _ => by simp at h
  | _ :: _, [], h, _ => by simp at h
  | v :: vs, k :: ks, h, a => .cons (a 0 v k rfl rfl) (each_at (by simpa using h) fun j v k e1 e2 => a (j + 1) v k e1 e2)
section
variable {X : Cx} {T : Tb}
def rSortDT : List V → Hp → VK → Prop := fun vs H Q => ∃ d kvs, vs = [.ref d] ∧ Rd H d (.dT kvs) ∧ SortD (kvs.map fun p => keysD p.1) ∧ ∀ xs p, H p = none → Reps (tupsOf H) xs (srt (kvs.map fun p => keysD p.1)) → Q (.ref p) (upd H p (.lst xs))
theorem cr_sortDT (hu : X.A.units + 64 < cLine) (hc : X.calm = true) : CallR X (.builtin "sorted") rSortDT := by
  intro pins s σ H vs us Q I r h
  obtain ⟨d, kvs, rfl, hd, ok, q⟩ := h
  obtain ⟨u, rfl, rx⟩ := vals1 r
  cases rx
  obtain ⟨z, lo, ks, pr, o, es, ep, ho, hx, hdt, he, hn⟩ := (show ObjOk X.prog X.w H s.heap d (.dT kvs) from hd.ok I.hok)
  have l1 : es.size = ks.length := size_of_entries he
  have l2 : kvs.length = ks.length := Paired.length pr
  refine call_function_entry kind_sorted plain_sorted entry_sorted (args_sorted1 _) ?_
  unfold Builtin.«sorted»
  refine wpAny_bind (m := checkCount "sorted" 1 1 _) (wpAny_pure ?_)
  refine wpAny_bind (PySem.W.kdu_collect (A := X.A.in1) (kdl_raw lo hx hdt) (I.ok.hd hc) ho (by omega) fun h' tk acc kp it => ?_)
  have I1 : Inv X pins σ H { s with heap := h', toks := tk } := I.kept kp
  generalize hvs : acc.toList = its at it ⊢
  have hil : its.length = kvs.length := by rw [← hvs, Array.length_toList, it.1]; omega
  have each : EachIs (RV (tupsOf H)) its (kvs.map fun p => keysD p.1) := by
    have at_ : ∀ (j : Nat) (v : Value) (p : List Key × V), its[j]? = some v → kvs[j]? = some p → RV (tupsOf H) v (keysD p.1) := fun j v p hj hp => by
      obtain ⟨en, hen, hv⟩ := it.2 j v (by rw [← Array.getElem?_toList, hvs]; exact hj)
      have qe := entry_at he j
      rw [hen] at qe
      obtain ⟨b, hb, r1, r2, r3⟩ := pget_ pr hp
      rw [hb] at qe
      have e2 : en = entryOfKey (tupleKind (mixKind X.prog X.w)) b := Option.some.inj qe
      refine ⟨.ref b.2.1, ?_, .tup (tupsOf_at r2) (reps_kV _)⟩
      rw [hv, e2]
      rfl
    exact each_at hil at_
  have e1 := each
  have hz : its.length ≤ sizeLine := by omega
  refine wpAny_bind (wpAny_newList ?_ hz)
  have hoL : (h'.push (seqObj "list" its.toArray 0)).get? h'.objs.size = some (seqObj "list" its.toArray 0) := Heap.get?_push_size _ rfl
  show wpAny _ _ _ _ _ { s with heap := h'.push (seqObj "list" its.toArray 0), toks := tk }
  have old : ∀ {b : Addr} {o : Obj}, h'.get? b = some o → (PySem.W.sortingHeap (h'.push (seqObj "list" its.toArray 0)) h'.objs.size its).get? b = some o := fun e => PySem.W.sortingHeap_old (Nat.ne_of_lt (Heap.lt_size e)) (Heap.get?_push_of_some _ e)
  have rH : EachIs (RV H) its (kvs.map fun p => keysD p.1) := each.mono fun v d ⟨x, h1, h2⟩ => ⟨x, h1, h2.mono (tupsOf_sub H)⟩
  have e2 : EachIs (fun v b => ∃ as, Reads (PySem.W.sortingHeap (h'.push (seqObj "list" its.toArray 0)) h'.objs.size its) v b as) its (kvs.map fun p => keysD p.1) :=
    (each_reads I1 rH ok.self).mono fun _ _ ⟨as, r⟩ => ⟨as, Reads.keeps (fun _ _ => old) r⟩
  have hdep : ∀ d ∈ kvs.map (fun p => keysD p.1), X.A.units + 2 + d.depth < cLine := fun d hd => by
    have := ok.2.2.2 d hd
    omega
  have S : PySem.W.SortsAt X.prog X.w X.A.in1.in1 { s with heap := PySem.W.sortingHeap (h'.push (seqObj "list" its.toArray 0)) h'.objs.size its, toks := tk } (PySem.W.dataKind (PySem.W.sortingHeap (h'.push (seqObj "list" its.toArray 0)) h'.objs.size its) (kvs.map fun p => keysD p.1)) its := by
    rcases ok.2.1 with hs | ⟨ht, h0⟩
    · exact PySem.W.SortsAt.data e2 ok.1 hs hdep
    · exact sorts_e e2 ok.1 ht h0 hdep
  refine wpAny_bind (wpAny_holding (wpAny_call_entry slot_list_sort ⟨_, hoL, rfl⟩ entry_list_sort
    (PySem.W.list_sort_vals (s := { s with heap := h'.push (seqObj "list" its.toArray 0), toks := tk }) hoL S hz ⟨_, rfl, ?_⟩) (args_list_sort _)))
  have zz := PySem.W.sortVals_data (h' := PySem.W.sortingHeap (h'.push (seqObj "list" its.toArray 0)) h'.objs.size its) (enc := fun d : D => d) false e1 e2 (by rw [List.map_id']; exact ok.1)
  rw [List.map_id'] at zz
  obtain ⟨ys, ry, vy⟩ := of_each zz
  obtain ⟨e', he'⟩ := sortedHeap_at (vs := its) (out := (PySem.W.sortVals (PySem.W.dataKind (PySem.W.sortingHeap (h'.push (seqObj "list" its.toArray 0)) h'.objs.size its) (kvs.map fun p => keysD p.1)) false its its).toArray) hoL
  refine wpAny_pure ⟨_, rfl, .ref h'.objs.size, upd H h'.objs.size (.lst ys), I1.laid (t' := tk) (fun b u e => ?_) (Nat.le_refl _)
    (show ObjOk X.prog X.w _ _ _ (.lst ys) from ⟨?_, _, e', vy, he'⟩), rfl, q ys _ (I1.hok.fresh (Nat.le_refl _)) ry⟩
  · rw [sortedHeap_old (Nat.ne_of_lt (Heap.lt_size e)) (by rw [size_push']; exact Nat.lt_succ_of_lt (Heap.lt_size e))]
    exact Heap.get?_push_of_some _ e
  · rw [vy.length, PySem.W.sortVals_length false rfl]; exact hz
/-- in data: the keys of a dict, sorted -/
theorem cl_sortDT {es : List (List Key × D)} (h : SortD (es.map fun e => keysD e.1)) : ClD T rSortDT [dT es] (.list (srt (es.map fun e => keysD e.1))) := fun G H vs Q w r k => by
  cases r with
  | cons hh t =>
    cases t
    obtain ⟨a, kvs, rfl, ha, rk⟩ := rep_dT hh
    have ek : ∀ {kvs : List (List Key × V)} {es : List (List Key × D)}, RepT G kvs (es.map fun e => (keysD e.1, e.2)) → kvs.map (fun p => keysD p.1) = es.map fun e => keysD e.1 := by
      intro kvs
      induction kvs with
      | nil =>
        intro es r
        cases es with
        | nil => rfl
        | cons _ _ => cases r
      | cons p kvs ih =>
        intro es r
        cases es with
        | nil => cases r
        | cons e es =>
          obtain ⟨e1, _, t⟩ := repT_cons r
          rw [List.map_cons, List.map_cons, ih t, e1]
    refine ⟨a, kvs, rfl, .of (w.s _ _ ha), by rw [ek rk]; exact h, fun xs p hp rx => ?_⟩
    rw [ek rk] at rx
    -- the tuples of H join the base
    have wt : Wf T (un2 G (tupsOf H)) H := ⟨un2_s w.s (tupsOf_sub H), w.t, fun b ps e => by
      unfold un2 at e
      cases q : G b with
      | none => rw [q] at e; obtain ⟨xs, z⟩ := tupsOf_tup e; cases z
      | some u => rw [q] at e; cases e; exact w.nt b ps q⟩
    have g0 : Go T G H (un2 G (tupsOf H)) H := ⟨un2_l, Grow.refl H, wt, fun b e => by
      unfold un2 at e
      cases q : G b with
      | none =>
        rw [q] at e
        cases q2 : tupsOf H b with
        | none => exact absurd q2 e
        | some u => obtain ⟨ys, z⟩ := tupsOf_tup q2; exact .inr (.inr ⟨ys, z ▸ tupsOf_sub H _ _ q2⟩)
      | some u => exact .inl (by simp)⟩
    obtain ⟨G', g, q⟩ := wt.newL hp (rx.mono (un2_r w.s (tupsOf_sub H)))
    exact k _ _ _ (g0.trans g) q
end
end Pf
set_option Elab.async false
set_option linter.all false
set_option maxRecDepth 100000
set_option maxHeartbeats 4000000
namespace Pf
open PySem PySem.Spec L2
open PyProof.Rows PySem.Calls
/-! ### the key of filling_order's sort: lambda key: (-key[1], key[2], sorts.index(key[0])) -/
def kArgs (a1 : Pos) : Arguments := { posonlyargs := [], args := [{ arg := "key", annotation := none, pos := a1 }], vararg := none, kwonlyargs := [], kw_defaults := [], kwarg := none, defaults := [] }
def kScope : Scope := { kind := .function, names := [(Str.ofString "key", .local), (Str.ofString "sorts", .free)], isGenerator := false, isCoroutine := false, more := [] }
structure KPos where
  (n1 c1 s1 u1 n2 c2 s2 so sa n0 c0 s0 ci tp : Pos)
  (ln : (sa.endLine == ci.line) = true)
def kBody (p : KPos) : Expr :=
  .Tuple [.UnaryOp .USub (.Subscript (.Name "key" p.n1) (.Constant (.int 1) 0 p.c1) p.s1) p.u1, .Subscript (.Name "key" p.n2) (.Constant (.int 2) 0 p.c2) p.s2,
    .Call (.Attribute (.Name "sorts" p.so) "index" p.sa) [.Subscript (.Name "key" p.n0) (.Constant (.int 0) 0 p.c0) p.s0] [] p.ci] 0 p.tp
def sorts3 : List Str := ["shut", "one", "two"]
section
variable {prog : Program} {w : World} {A : Around} {s : Shared} {E : Value → Shared → Prop}
theorem k_sub {env : Env} {pn pc ps : Pos} {j : Int} {n : Nat} {a : Addr} {its : List Value} {v : Value} {m : Str → Option Value} {Q : Value → Shared → Prop} (hk : env.scope.kind = .function) (hl : env.kindOf "key" = some .local) (hn : s.heap.Ns env.locals m) (hm : m "key" = some (.ref a))
    (ht : IsTup s.heap a its.toArray) (hz : its.length ≤ 10) (h0 : j = (n : Nat)) (hv : its[n]? = some v) (h : Q v { s with toks := s.toks + 1 }) : wpAny (model prog w) A (eval (.Subscript (.Name "key" pn) (.Constant (.int j) 0 pc) ps) env) Q E s := by
  refine Subscript_ (wpAny_Name (wpAny_loadName_local hk hl hn hm (wpAny_Constant_int ?_)) (by decide))
  have hlt : n < its.length := (List.getElem?_eq_some_iff.mp hv).1
  subst h0
  exact subscriptTail_builtinR (x := v) (T := "tuple") (s := { s with toks := s.toks + 1 }) ht.typeIs slot_tuple_getitem.lookup
    (PyProof.Rows.getItem_tuple (j := n) (Q := fun r s' => r = v ∧ Q r s') ht (by omega) (by omega) (by rw [List.size_toArray]; exact seqIndex_of (by omega) (by omega)) (by simpa using hv) ⟨rfl, h⟩)
theorem k_body {env : Env} {p : KPos} {a so c : Addr} {t0 t1 t2 : Tok} {x : Str} {i j : Int} {ss : List Value} {m : Str → Option Value} {Q : Value → Shared → Prop} (hk : env.scope.kind = .function) (hl : env.kindOf "key" = some .local) (hl2 : env.kindOf "sorts" = some .free) (hn : s.heap.Ns env.locals m) (hm : m "key" = some (.ref a))
    (hc : env.cells.lookup (Str.ofString "sorts") = some c) (hcv : s.heap.IsCell c (some (.ref so))) (ht : IsTup s.heap a #[.str x t0, .int i t1, .int j t2]) (hs : ∃ o n, s.heap.get? so = some o ∧ o.cls = .type "tuple" ∧ o.dict = none ∧ o.data = .seq ss.toArray n) (hss : StrsAre ss sorts3) (hx : x ∈ sorts3)
    (hbase : attributeBase (.Name "sorts" p.so) "index" env (eval (.Name "sorts" p.so) env) = eval (.Name "sorts" p.so) env)
    (h : ∀ (u : List Value) (tk : Nat), (∃ t1 t2 t3, u = [.int (-i) t1, .int j t2, .int (sorts3.idxOf x : Nat) t3]) → Q (.ref s.heap.objs.size) { s with heap := s.heap.push { cls := .type "tuple", data := .seq u.toArray }, toks := tk }) :
    wpAny (model prog w) A (eval (kBody p) env) Q E s := by
  refine wpAny_Tuple_spliced (args_cons ?_ rfl)
  refine UnaryOp_ (k_sub hk hl hn hm ht (by simp) (n := 1) rfl rfl (neg_int ?_))
  refine args_cons ?_ rfl
  refine k_sub (s := { s with toks := s.toks + 1 + 1 }) hk hl hn hm ht (by simp) (n := 2) rfl rfl ?_
  refine args_cons ?_ rfl
  obtain ⟨o, n, ho, hcl, hd, hdat⟩ := hs
  refine wpAny_Call_method_late hbase rfl p.ln rfl (wpAny_Name (wpAny_loadName_free hk hl2 hc hcv ?_) (by decide))
  refine ⟨"tuple", "tuple.index", F.plainAttrs_tuple, F.slot_tuple_index, F.type_tuple_index, ⟨o, ho, hcl⟩, fun b e => ⟨o, by cases e; exact ho, hd⟩, ?_⟩
  refine callWith_builtin rfl (evalArgs_plain (args_cons (k_sub (s := { s with toks := s.toks + 1 + 1 + 1 }) hk hl hn hm ht (by simp) (n := 0) rfl rfl (args_nil ?_)) rfl))
  refine PySem.SeqAt.tuple_index_strs (s := { s with toks := s.toks + 1 + 1 + 1 + 1 }) ⟨o, ho, hcl, n, hdat⟩ hss hx (args_nil ?_)
  exact ⟨by show 3 ≤ sizeLine; rw [sizeLine_eq]; omega, h _ _ ⟨_, _, _, rfl⟩⟩
end
end Pf
set_option Elab.async false
set_option linter.all false
set_option maxRecDepth 100000
set_option maxHeartbeats 4000000
namespace Pf
open PySem PySem.Spec L2
open PyProof.Rows PySem.Calls
/-! ### the lambda made (after HandS.Lambda; here all but the tables stays) -/
section
variable {X : Cx} {pins : List (Addr × Obj)} {σ : L2.St} {H : Hp} {s : Shared}
theorem lam_mk {T : List (Addr × Str)} {c P : Addr} {params : Arguments} {body : Expr} {scope : Scope} {pos : Pos} {E : Value → Shared → Prop} {Q : Value → Shared → Prop} (I : Inv X pins σ H s) (TB : LamX.TabB X.base X.mg c P) (hcode : X.env.code = .ref c)
    (hm : (P, X.env.qual ++ "<lambda>") ∈ T) (hu : ∀ p ∈ T, p.1 = P → p.2 = X.env.qual ++ "<lambda>") (hT : LamX.Tabs T H) (hdef : defaultsOf params X.env = ([], [])) (hfree : ∀ y ∈ scope.names, y.2 = .free → ∃ c, X.env.cells.lookup y.1 = some c)
    (h : ∀ (f c' : Addr) (pm ctv : Value) (H1 : Hp) (s' : Shared), Inv X pins σ H1 s' → Grow H H1 → LamX.Tabs T H1 → H1 f = none →
      s'.heap.get? f = some (PySem.W.kla_obj "<lambda>" (X.env.qual ++ "<lambda>") params body scope (cloFrom X.env.cells scope.names []) pm c' ctv) → f ∉ frs X.stack → H1 c' = some (LamX.CodeO c' (X.env.qual ++ "<lambda>")) → Q (.ref f) s') :
    wpAny (model X.prog X.w) X.A (eval (.Lambda params body scope pos) X.env) Q E s := by
  obtain ⟨ps, hP, ht, ha⟩ := hT _ hm
  refine PySem.W.kla_eval hdef ?_
  have bP : s.heap.BuiltinsAt X.mg P := TB.bm.keeps I.bk
  have hP' : s.heap.get? P = some { cls := .none, data := .fields ps } := I.hok P _ hP
  have nofr : ∀ f, s.heap.objs.size ≤ f → f ∉ frs X.stack := fun f hf z => by
    rcases List.mem_cons.mp (I.stkSub _ z) with e | e
    · have h1 := I.lt
      rw [← e] at h1
      exact Nat.lt_irrefl _ (Nat.lt_of_lt_of_le h1 hf)
    · exact I.nofs hf e
  cases hc : codeAmong pos ps.toList with
  | none =>
    refine PySem.W.kla_makeFunction (mg := X.mg) (c := c) (P := P) (ps := ps) (closure_ok hfree) I.ok.glob (I.mod.glob.keeps I.bk) hcode (TB.code.keeps I.bk) hP' ht hc TB.gP bP fun c' ctv h' tk hx hge hlt hrec htb => ?_
    obtain ⟨c2, oc, vs, t, e2, hoc, hd, hv⟩ := hrec
    cases e2
    have hsz : s.heap.objs.size ≤ h'.objs.size := Nat.le_trans hge (Nat.le_of_lt hlt)
    have nC : H c' = none := I.hok.fresh hge
    have I1 := LamX.inv_table (t' := tk) (more := #[rawInt pos.line, rawInt pos.col, .ref c']) (h' := h'.push (PySem.W.kla_obj "<lambda>" (X.env.qual ++ "<lambda>") params body scope (cloFrom X.env.cells scope.names []) ((X.mg "__name__").getD .none) c' ctv)) I hP
      (fun b o hb e => Heap.get?_push_of_some _ (hx b o hb e)) (Heap.get?_push_of_some _ htb) hge ⟨oc, vs, t, Heap.get?_push_of_some _ hoc, hd, hv⟩
    have hE : LamX.ExtN H (upd (upd H P (.tbl (ps ++ #[rawInt pos.line, rawInt pos.col, .ref c']))) c' (LamX.CodeO c' (X.env.qual ++ "<lambda>"))) := fun b o e n => by
      rw [upd_ne (ne_of_none e nC), upd_ne (fun z => n ps (Option.some.inj (e.symm.trans (by rw [z]; exact hP))))]
      exact e
    have hG : Grow H (upd (upd H P (.tbl (ps ++ #[rawInt pos.line, rawInt pos.col, .ref c']))) c' (LamX.CodeO c' (X.env.qual ++ "<lambda>"))) := fun b o e => by
      by_cases z : b = P
      · subst z
        rw [hP] at e
        cases e
        exact .inr ⟨⟨ps, rfl⟩, _, by rw [upd_ne (ne_of_none hP nC), upd_same]⟩
      · exact .inl (by rw [upd_ne (ne_of_none e nC), upd_ne z]; exact e)
    have eL : (ps ++ #[rawInt pos.line, rawInt pos.col, .ref c']).toList = ps.toList ++ [rawInt pos.line, rawInt pos.col, .ref c'] := by simp
    refine h h'.objs.size c' ((X.mg "__name__").getD .none) ctv _ _ I1 hG (fun p hp => ?_) ?_ (Heap.get?_push_size _ rfl) (nofr _ hsz) upd_same
    · by_cases hb : p.1 = P
      · rw [hu p hp hb, hb]
        refine ⟨_, by rw [upd_ne (ne_of_none hP nC), upd_same], by rw [eL]; exact PySem.TriplesOk_snoc _ _ _ _ ht, fun p' cv hcv => ?_⟩
        rw [eL] at hcv
        rcases LamX.among_app _ ht hcv with z | z
        · obtain ⟨c0, e1, e2⟩ := ha p' cv z
          exact ⟨c0, e1, hE _ _ e2 LamX.codeO_ne⟩
        · exact ⟨c', z, upd_same⟩
      · obtain ⟨ps', a1, a2, a3⟩ := hT p hp
        refine ⟨ps', by rw [upd_ne (ne_of_none a1 nC), upd_ne hb]; exact a1, a2, fun p' cv hcv => ?_⟩
        obtain ⟨c0, e1, e2⟩ := a3 p' cv hcv
        exact ⟨c0, e1, hE _ _ e2 LamX.codeO_ne⟩
    · have n1 : h'.objs.size ≠ c' := Nat.ne_of_gt hlt
      have n2 : h'.objs.size ≠ P := Nat.ne_of_gt (Nat.lt_of_lt_of_le (Heap.lt_size hP') hsz)
      rw [upd_ne n1, upd_ne n2]
      exact I.hok.fresh hsz
  | some cv =>
    obtain ⟨c', e, hco⟩ := ha pos cv hc
    subst e
    refine PySem.W.kla_makeFunctionHit (mg := X.mg) (c := c) (P := P) (ps := ps) (closure_ok hfree) I.ok.glob (I.mod.glob.keeps I.bk) hcode (TB.code.keeps I.bk) hP' ht hc bP fun ctv h' tk hx hsz => ?_
    have I1 : Inv X pins σ H { s with heap := h'.push (PySem.W.kla_obj "<lambda>" (X.env.qual ++ "<lambda>") params body scope (cloFrom X.env.cells scope.names []) ((X.mg "__name__").getD .none) c' ctv), toks := tk } := I.kept fun b o e => Heap.get?_push_of_some _ (hx b o e)
    exact h h'.objs.size c' ((X.mg "__name__").getD .none) ctv H _ I1 (Grow.refl H) hT (I.hok.fresh hsz) (Heap.get?_push_size _ rfl) (nofr _ hsz) hco

end
end Pf
set_option Elab.async false
set_option linter.all false
set_option maxRecDepth 100000
set_option maxHeartbeats 4000000
namespace Pf
open PySem PySem.Spec L2
open PyProof.Rows PySem.Calls
open PySem.W (alike alikeAll dataLt AllAlike EachIs Sortable)
/-! ### sorted(inner, key=lambda ..) -/
abbrev K3 : Type := Str × Int × Int
def keyT (x : K3) : D := .tuple [.str x.1, .int x.2.1, .int x.2.2]
def keyK (x : K3) : D := .tuple [.int (-x.2.1), .int x.2.2, .int (sorts3.idxOf x.1 : Nat)]
section
variable {prog : Program} {w : World} {A : Around} {s : Shared}
theorem k_turn {f c' a so c : Addr} {qual : Str} {a1 : Pos} {p : KPos} {cl : List (Str × Addr)} {pm ctv : Value} {x : K3} {t0 t1 t2 : Tok} {ss : List Value} (hdep : A.depth < recursionLimit) (hlim : s.heap.NoLimit)
    (of : s.heap.get? f = some (PySem.W.kla_obj "<lambda>" qual (kArgs a1) (kBody p) kScope cl pm c' ctv)) (hcd : s.heap.CodeRec (.ref c') qual) (hc : cl.lookup (Str.ofString "sorts") = some c) (hcv : s.heap.IsCell c (some (.ref so)))
    (ht : IsTup s.heap a #[.str x.1 t0, .int x.2.1 t1, .int x.2.2 t2]) (hs : ∃ o n, s.heap.get? so = some o ∧ o.cls = .type "tuple" ∧ o.dict = none ∧ o.data = .seq ss.toArray n) (hss : StrsAre ss sorts3) (hx : x.1 ∈ sorts3) :
    wpAny (model prog w) A (call (.ref f) [.ref a]) (PySem.W.KeyPure (keyK x) s) (fun _ _ => False) s := by
  have hbind : bindArgs (PySem.W.kla_fn "<lambda>" qual (kArgs a1) (kBody p) kScope cl pm (.ref c') ctv) ⟨[Value.ref a], []⟩ = pure ([(Str.ofString "key", Value.ref a)] : List (Str × Value)) := by kernel_rfl
  refine wpAny_call (codeAny_mono (R := fun r s₂ => ∃ v, r = .ok (.ret v) ∧ PySem.W.KeyPure (keyK x) s v s₂) ?_ fun r s₂ ⟨v, e, h⟩ => by subst e; exact h)
  refine PySem.W.kla_callFunE hdep of rfl rfl rfl rfl hcd ?_
  rw [hbind]
  refine wpAny_pure (wpAny_newFunctionEnv (show ∀ y ∈ kScope.names, y.2 ≠ .cell by decide) (by intro y hy; rw [List.mem_singleton.mp hy]; rfl) (fun h₁ hns hsb => ⟨hlim.fresh _ hsb, ?_⟩) rfl)
  have kp : ∀ b o, s.heap.get? b = some o → h₁.get? b = some o := fun b o e => hsb.extBut b o (Nat.ne_of_lt (Heap.lt_size e)) (Heap.get?_push_of_some _ e)
  obtain ⟨o, n, ho, r⟩ := hs
  refine PySem.W.kla_codeExpr (k_body (s := { s with heap := h₁, toks := s.toks + ([(Str.ofString "key", Value.ref a)] : List (Str × Value)).length }) (m := fun y => ([(Str.ofString "key", Value.ref a)] : List (Str × Value)).reverse.lookup y) rfl rfl rfl hns rfl hc (hcv.keeps kp) (ht.keeps kp) ⟨o, n, kp _ _ ho, r⟩ hss hx rfl fun u tk hu => ?_)
  obtain ⟨u1, u2, u3, rfl⟩ := hu
  refine ⟨_, rfl, _, tk, rfl, fun b o e => Heap.get?_push_of_some _ (kp b o e), ?_⟩
  exact .tuple (Heap.get?_push_size _ rfl) rfl rfl (.cons (.int _ _) (.cons (.int _ _) (.cons (.int _ _) .nil)))
end
end Pf
set_option Elab.async false
set_option linter.all false
set_option maxRecDepth 100000
set_option maxHeartbeats 4000000
namespace Pf
open PySem PySem.Spec L2
open PyProof.Rows PySem.Calls
open PySem.W (alike alikeAll dataLt AllAlike EachIs Sortable)
/-! ### a tuple of texts, its object known -/
def fsD (ss : List Str) : D := .dict ((.bool false, .none) :: ss.map fun x => (.str x, .none))
def tTupFs (t : TA) : TE := fun σ H Q => t σ H fun vs H1 => vs.length ≤ sizeLine ∧ ∀ p o, H1 p = none → o.dict = none → Q (.ref p) (upd H1 p (.frz o (.tup vs)))
section
variable {X : Cx} {T : Tb} {ρ : En}
theorem pe_tupFs {es : List Expr} {x1 : Nat} {pos : Pos} {t : TA} (h : PA X es t) : PE X (.Tuple es x1 pos) (tTupFs t) := by
  refine ⟨fun pins s σ H Q I hq => ?_⟩
  refine wpAny_Tuple_spliced (thn (h.run pos pins s σ H _ I hq) fun us s1 ⟨xs, H1, I1, r, z, q⟩ => ⟨by rw [← r.length]; exact z, ?_⟩)
  have hf : H1 s1.heap.objs.size = none := I1.hok.fresh (Nat.le_refl _)
  refine ⟨.ref s1.heap.objs.size, upd H1 s1.heap.objs.size (.frz { cls := .type "tuple", data := .seq us.toArray } (.tup xs)), I1.laid (t' := s1.toks) (fun b u e => Heap.get?_push_of_some _ e) (Nat.le_refl _) ?_, rfl, q _ _ hf rfl⟩
  exact ⟨Heap.get?_push_size _ rfl, z, us, r, ⟨_, Heap.get?_push_size _ rfl, rfl, _, rfl⟩⟩
theorem ev_tupFs {t : TA} {ss : List Str} (h : EvA T t ρ (ss.map .str)) (hz : ss.length ≤ sizeLine) : Ev T (tTupFs t) ρ (fsD ss) := fun G0 H0 G H σ Q S k =>
  h G0 H0 G H σ _ S fun vs G1 H1 g r => by
    have e := r.strs
    subst e
    refine ⟨by rw [List.length_map]; exact hz, fun p o hp ho => ?_⟩
    have n : NotT (.frz o (.tup (ss.map V.str))) := fun _ e => nomatch e
    have g2 := g.w.new hp n
    exact k _ _ _ (g.trans g2) (.fs upd_same ho)
theorem rep_fs {G : Hp} {v : V} {ss : List Str} (r : Rep G v (fsD ss)) : ∃ a o, v = .ref a ∧ G a = some (.frz o (.tup (ss.map V.str))) ∧ o.dict = none := by
  unfold fsD at r
  generalize hz : (PyData.bool false, PyData.none) :: ss.map (fun x => (PyData.str x, PyData.none)) = z at r
  cases r with
  | dk h r =>
    subst hz
    obtain ⟨k, hk⟩ := repK_head r
    cases k <;> cases hk
  | dt h r => injection hz with h1 _; injection h1 with h1 _; cases h1
  | fz h n p => injection hz with h1 _; injection h1 with h1 _; cases h1
  | ptr a => injection hz with h1 _; injection h1 with h1 _; cases h1
  | @fs a o ss' h n =>
    injection hz with _ h2
    have : ss' = ss := by
      have inj : ∀ a b : Str, (PyData.str a, PyData.none) = (PyData.str b, PyData.none) → a = b := fun a b e => by
        injection e with e1 e2
        injection e1 with e1
      exact ((List.map_inj_right inj).mp h2).symm
    subst this
    exact ⟨_, _, rfl, h, n⟩
/-! ### the sort -/
theorem each_unmap {α : Type} {R : Value → D → Prop} {f : α → D} : ∀ {vs : List Value} {ks : List α}, EachIs R vs (ks.map f) → EachIs (fun v k => R v (f k)) vs ks
  | _, [], h => by cases h; exact .nil
  | _, k :: ks, h => by
    rw [List.map_cons] at h
    cases h with
    | cons h t => exact .cons h (each_unmap t)
theorem each_mapR {α : Type} {R : Value → D → Prop} {f : α → D} : ∀ {vs : List Value} {ks : List α}, EachIs (fun v k => R v (f k)) vs ks → EachIs R vs (ks.map f)
  | _, [], h => by cases h; exact .nil
  | _, k :: ks, h => by
    cases h with
    | cons h t => exact .cons h (each_mapR t)
def k3le (a b : K3) : Bool := PySem.W.dataLe false keyK a b
/-- what is read: the list, the captured tuple in slot ci -/
def tSrtK (K : PySem.W.Frag) (T : Tb) (te : TE) (ci : Nat) : TE := fun σ H Q => te σ H fun x H1 => ∃ (G : Hp) (a so : Addr) (ob : Obj) (xs : List V) (ks : List K3), x = .ref a ∧ SqL K H1 a xs ∧ Sub G H1 ∧ Reps G xs (ks.map keyT) ∧
  (∀ k ∈ ks, k.1 ∈ sorts3) ∧ σ[ci]? = some (some (.ref so)) ∧ G so = some (.frz ob (.tup (sorts3.map V.str))) ∧ ob.dict = none ∧ LamX.Tabs T H1 ∧ (∀ a o, G a = some o → NotT o) ∧
  ∀ H2 p ys, Grow H1 H2 → LamX.Tabs T H2 → H2 p = none → Reps G ys ((ks.mergeSort k3le).map keyT) → Q (.ref p) (upd H2 p (.lst ys))
theorem keyK_depth (x : K3) : (keyK x).depth = 1 := by simp [keyK, PyData.depth, PyData.depthAll]
theorem pe_sortLam {c P : Addr} {e : Expr} {te : TE} {p pos lp kp a1 : Pos} {q : KPos} {ci : Nat} (hu : X.A.units + 64 < cLine) (hdep : X.A.in1.in1.depth < recursionLimit) (hg : Gl X "sorted") (hm : X.mg "sorted" = none) (he : PE X e te)
    (TB : LamX.TabB X.base X.mg c P) (hcode : X.env.code = .ref c) (hT : (P, X.env.qual ++ "<lambda>") ∈ T) (huT : ∀ p ∈ T, p.1 = P → p.2 = X.env.qual ++ "<lambda>") (hNc : X.N[ci]? = some (Str.ofString "sorts")) (hcell : X.env.scope.names.lookup (Str.ofString "sorts") = some .cell)
    (hs1 : starEach [e] X.env = (false, eval e X.env) :: starEach [] X.env := by rfl) (hse : backTo pos (starEach [e] X.env) = (false, eval e X.env) :: backTo pos (starEach [] X.env) := by rfl) (hpl : (backTo pos (starEach [e] X.env)).any (·.1) = false := by rfl)
    (hall : (backToKw pos (keywordEach [⟨some (Str.ofString "key"), .Lambda (kArgs a1) (kBody q) kScope lp, kp⟩] X.env)).all (·.1.isSome) = true := by rfl)
    (hnone : (backToKw pos (keywordEach [⟨some (Str.ofString "key"), .Lambda (kArgs a1) (kBody q) kScope lp, kp⟩] X.env)).any (·.1.isNone) = false := by rfl)
    (hks : (backToKw pos (keywordEach [⟨some (Str.ofString "key"), .Lambda (kArgs a1) (kBody q) kScope lp, kp⟩] X.env)).filterMap (·.1) = [Str.ofString "key"] := by rfl) :
    PE X (.Call (.Name "sorted" p) [e] [⟨some (Str.ofString "key"), .Lambda (kArgs a1) (kBody q) kScope lp, kp⟩] pos) (tSrtK X.K T te ci) := by
  refine ⟨fun pins s σ H Q I h => ?_⟩
  refine wpAny_Call_Name_kw (ld_blt I hg hm boot_sorted ?_)
  refine PyProof.Rows.callWith_kw ?_ hse hpl hall hnone
  rw [hks]
  refine args_cons ?_ ?_
  · refine thn (he.run pins s σ H _ I h) fun v s1 ⟨x, H1, I1, rx, G, a, so, ob, xs, ks, ex, hS, sG, rG, hin, hslot, hso, hob, hTs, hnt, q⟩ => args_nil ?_
    subst ex
    cases rx
    have hfree : ∀ y ∈ kScope.names, y.2 = .free → ∃ c, X.env.cells.lookup y.1 = some c := fun y hy ef => by
      have : y = (Str.ofString "sorts", NameKind.free) := by
        rcases List.mem_cons.mp hy with e | e
        · subst e; cases ef
        · exact List.mem_singleton.mp e
      subst this
      exact I1.ok.has _ (.inl hcell)
    refine kws_cons (lam_mk I1 TB hcode hT huT hTs rfl hfree fun f c' pm ctv H2 s2 I2 gr hT2 nf of nfr hc' => kws_nil ?_)
    have sG2 : Sub G H2 := fun a o e => gr.at_ (sG a o e) fun ps z => hnt a o e ps z
    obtain ⟨its, rv, pl, hz⟩ : ∃ its : List Value, Vals xs its ∧ s2.heap.IsList a its.toArray ∧ xs.length ≤ sizeLine := by
      rcases hS with hS | hS
      · rcases hS with hS | ⟨ob', hS⟩
        · have : H2 a = some (.lst xs) := gr.at_ hS fun ps z => nomatch z
          obtain ⟨its, r, pl, hz⟩ := I2.list (SqL.of this)
          exact ⟨its, r, pl.isList, hz⟩
        · have : H2 a = some (.frz ob' (.lst xs)) := gr.at_ hS fun ps z => nomatch z
          obtain ⟨its, r, pl, hz⟩ := I2.list (show SqL X.K H2 a xs from .inl (.inr ⟨ob', this⟩))
          exact ⟨its, r, pl.isList, hz⟩
      · obtain ⟨its, r, pl, hz⟩ := I2.list (.inr hS)
        exact ⟨its, r, pl.isList, hz⟩
    -- the captured cell
    obtain ⟨m, hn, hl⟩ := I2.loc
    obtain ⟨u, ru, l⟩ := hl ci (Str.ofString "sorts") (.ref so) hNc hslot (.inr (.inl hcell))
    cases ru
    obtain ⟨c1, hc1, hcv⟩ : ∃ c1, X.env.cells.lookup (Str.ofString "sorts") = some c1 ∧ s2.heap.IsCell c1 (some (.ref so)) := by
      rcases l with ⟨hk, _⟩ | ⟨hk, c1, h1, h2⟩
      · rw [show X.env.scope.names.lookup (Str.ofString "sorts") = some .local from hk] at hcell; cases hcell
      · exact ⟨c1, h1, h2⟩
    have hcl : (cloFrom X.env.cells kScope.names []).lookup (Str.ofString "sorts") = some c1 := by
      show ([(Str.ofString "sorts", (X.env.cells.lookup (Str.ofString "sorts")).getD 0)] : List (Str × Addr)).lookup (Str.ofString "sorts") = some c1
      rw [hc1]
      rfl
    obtain ⟨⟨oc, vs, t, hoc, hdc, hvc⟩, _, _⟩ := (show ObjOk X.prog X.w H2 s2.heap c' (LamX.CodeO c' _) from I2.hok c' _ hc')
    obtain ⟨e1, _, ss, rss, o', e2, e3, n, e4⟩ := (show ObjOk X.prog X.w H2 s2.heap so (.frz ob (.tup (sorts3.map V.str))) from I2.hok so _ (sG2 _ _ hso))
    rw [e1] at e2; cases e2
    have hss : StrsAre ss sorts3 := rss.strs
    have each : EachIs (RV G) its (ks.map keyT) := each_of rG rv
    have each' : EachIs (fun v (k : K3) => RV G v (keyT k)) its ks := by
      exact each_unmap each
    refine PySem.W.sorted_key_data (b := false) keyK pl each' (AllAlike.of fun _ _ => by simp [keyK, alike, alikeAll]) (Sortable.tuples fun _ => ⟨_, _, rfl⟩) (by rw [← each'.length, ← rv.length]; exact hz) (fun x _ => by rw [keyK_depth]; omega) (ksk_s1 _ _) (fun _ => ksk_l1 _ _) (fun _ => ksk_t1 _ _)
      (fun v k hR hk h tk kp => ?_) fun out c h' tk kp _ hD ho eo => ?_
    · obtain ⟨x1, rx1, rep⟩ := hR
      unfold keyT at rep
      cases rep with
      | @tup b zs _ ha rr =>
        cases rr with
        | cons r1 rr =>
          cases rr with
          | cons r2 rr =>
            cases rr with
            | cons r3 rr =>
              cases r1; cases r2; cases r3; cases rr
              cases rx1
              obtain ⟨is, ri, ti, _⟩ := I2.tuple (SqT.of (sG2 _ _ ha))
              cases ri with
              | cons q1 ri =>
                cases ri with
                | cons q2 ri =>
                  cases ri with
                  | cons q3 ri =>
                    cases ri
                    obtain ⟨y0, rfl⟩ := q1
                    obtain ⟨y1, rfl⟩ := q2
                    obtain ⟨y2, rfl⟩ := q3
                    exact k_turn (s := { s2 with heap := h, toks := tk }) hdep (I2.nolimit.keeps kp) (kp _ _ of) ⟨c', oc, vs, t, rfl, kp _ _ hoc, hdc, hvc⟩ hcl (hcv.keeps kp) (ti.keeps kp) ⟨ob, n, kp _ _ e1, e3, hob, e4⟩ hss (hin k hk)
    · have eo' : EachIs (RV G) out ((ks.mergeSort k3le).map keyT) := by
        have hlen : out.length = (ks.mergeSort k3le).length := by rw [List.length_mergeSort]; exact ho
        exact each_mapR eo
      obtain ⟨ys, ry, vy⟩ := of_each eo'
      have I3 : Inv X pins σ (upd H2 (s2.heap.objs.size + 1) (.lst ys)) { s2 with heap := h', toks := tk } :=
        I2.laid (t' := tk) kp (Nat.le_succ _) (show ObjOk X.prog X.w _ _ _ (.lst ys) from ⟨by rw [vy.length, ho, ← each'.length, ← rv.length]; exact hz, out, c, vy, hD⟩)
      exact ⟨.ref (s2.heap.objs.size + 1), _, I3, rfl, q H2 _ ys gr hT2 (I2.hok.fresh (Nat.le_succ _)) ry⟩
  · exact hs1
theorem ev_sortLam {K : PySem.W.Frag} {te : TE} {ci : Nat} {ks : List K3} (h : Ev T te ρ (.list (ks.map keyT))) (hc : ρ[ci]? = some (.dat (fsD sorts3))) (hin : ∀ k ∈ ks, k.1 ∈ sorts3) : Ev T (tSrtK K T te ci) ρ (.list ((ks.mergeSort k3le).map keyT)) := fun G0 H0 G H σ Q S k =>
  h G0 H0 G H σ _ S fun v G1 H1 g r => by
    cases r with
    | lst ha r =>
      obtain ⟨v, e, rs⟩ := S.sl ci _ hc
      obtain ⟨so, ob, rfl, hso, hob⟩ := rep_fs rs
      refine ⟨G1, _, so, ob, _, ks, rfl, SqL.of (g.w.s _ _ ha), g.w.s, r, hin, look_some e, g.g _ _ hso, hob, g.w.t, fun a o e ps z => g.w.nt a ps (by rw [e, z]), fun H2 p ys gr hT2 hp ry => ?_⟩
      have g2 : Go T G1 H1 G1 H2 := ⟨Sub.refl _, gr, g.w.grow gr hT2, fun _ z => .inl z⟩
      obtain ⟨G', g3, q⟩ := g2.w.newL hp ry
      exact k _ _ _ ((g.trans g2).trans g3) q
end
end Pf
set_option Elab.async false
set_option linter.all false
set_option maxRecDepth 100000
set_option maxHeartbeats 4000000
namespace Pf
open PySem PySem.Spec L2
open PyProof.Rows PySem.Calls
def topS (i : Nat) : Stmt := PySem.Challenge.pw_pairfolds_k64_whole_alone_and_together.main.body.getD i (.Pass ⟨0, 0, 0, 0⟩)
abbrev FnP (K : PySem.W.Frag) (x : Str) (i : Nat) (f : Addr) (fd : FuncData) : Prop := FunD K x x (defArgs (topS i)) (defBody (topS i)) (defScope (topS i)) [] [] f fd
def LOOPS : List Str := ["stacked", "inner", "inner free", "forked", "branch", "fork free", "lone", "lone free", "open"]
/-- the built-in names that the text uses, the table LOOPS, the number MOST_PLACES -/
structure Tx (K : PySem.W.Frag) (mg : Str → Option Value) (L : Addr) : Prop where
  len : mg "len" = none
  sum : mg "sum" = none
  all : mg "all" = none
  any : mg "any" = none
  abs : mg "abs" = none
  min : mg "min" = none
  max : mg "max" = none
  sorted : mg "sorted" = none
  isinstance : mg "isinstance" = none
  list : mg "list" = none
  tuple : mg "tuple" = none
  dict : mg "dict" = none
  int : mg "int" = none
  bool : mg "bool" = none
  str : mg "str" = none
  range : mg "range" = none
  zip : mg "zip" = none
  LOOPS : mg "LOOPS" = some (.ref L)
  loops : ∀ H, SqT K H L (Pf.LOOPS.map V.str)
  lplain : ∃ o, K.lookup L = some o ∧ o.cls = .type "tuple" ∧ o.dict = none
  MOST : ∃ tk, mg "MOST_PLACES" = some (.int 12 tk)
abbrev SpF := List D → (D → Prop) → Prop
/-- a def that may be called: where it stands, what it promises -/
structure Cal (P : Program) (w : World) (K : PySem.W.Frag) (mg : Str → Option Value) (base : Heap) (T : Tb) (k : Nat) (x : Str) (ps : List Str) (F : SpF) : Prop where
  ex : ∃ f fd, mg x = some (.ref f) ∧ PySem.W.keepIn K (.ref f) = true ∧ Binds K fd ps [] ∧ FnOk P w K mg base CX0 k f fd ps (spD T F)
section
variable {X : Cx} {T : Tb} {F : SpF} {k k' : Nat} {x : Str} {ps : List Str} {e : Expr} {es : List Expr} {t : TA} {p pos : Pos}
theorem pe_cal (c : Cal X.prog X.w X.K X.mg X.base T k x ps F) (hr : Room k' X.A) (hk : k ≤ k') (hg : Gl X x) (ha : PA X (e :: es) t) (hdb : (x == ("__debug__" : Str)) = false := by decide)
    (he : starEach (e :: es) X.env = (false, eval e X.env) :: starEach es X.env := by rfl) (hpl : (backTo pos (starEach es X.env)).any (·.1) = false := by rfl) :
    PE X (.Call (.Name x p) (e :: es) [] pos) (tCall (spD T F) [] E0 t) := by
  obtain ⟨f, fd, hm, hkp, hb, G⟩ := c.ex
  exact pe_call G (hr.mono hk) hg hm hkp hb .nil pass0 ha hdb he hpl
theorem hu64 {A : Around} (hr : Room k A) : A.units + 64 < cLine := by have := hr.un; omega
end
theorem cal_of {P : Program} {w : World} {K : PySem.W.Frag} {mg : Str → Option Value} {base : Heap} {T : Tb} {k : Nat} {x y : Str} {N ps : List Str} {F : SpF} {params : Arguments} {body : List Stmt} {scope : Scope} {f : Addr} {fd : FuncData}
    (D : FunD K y y params body scope [] [] f fd) (sc : FnScope N ps scope) (gm : mg x = some (.ref f))
    (hb : ∀ (kV doc pm : Value) (an : Option Addr) (cdv ct : Value) (us : List Value), us.length = ps.length → bindArgs (PySem.W.fnOf y y params body scope .none kV doc pm an cdv ct) ⟨us, []⟩ = pure (ps.zip us)) (hl : ∀ ds P, F ds P → ds.length = ps.length)
    (hbody : ∀ (cdv : Value) (A : Around) (outer : List Env) (s : Shared) (H : Hp) (vs : List V) (Q : VK) (E : XK), Room k (A.deeper (envOfC y scope s.heap.objs.size f cdv)) →
      ∃ t, PSs (cxOf CX0 P w K mg base N y scope f cdv A outer s H E) body t ∧ ∀ ds P, F ds P → Sv T t (ds.map Sl.dat ++ List.replicate (N.length - ds.length) Sl.any) (fun _ => P .none) P) : Cal P w K mg base T (k + 1) x ps F := by
  refine ⟨f, fd, gm, D.kp, D.bindsN hb, D.ok sc (fun vs H Q E h => len_of h hl) fun cdv A outer s H vs Q E hr h => ?_⟩
  obtain ⟨t, ht, hv⟩ := hbody cdv A outer s H vs Q E hr
  exact ⟨t, ht, body_of h hv⟩
/-! ### += -/
section
variable {T : Tb} {ρ : En} {te : TE} {N : En → Prop} {R : D → Prop}
theorem sv_aug {i : Nat} {x y : Int} (hi : ρ[i]? = some (.dat (.int x))) (h : Ev T te ρ (.int y)) (k : N (ρ.set i (.dat (.int (x + y))))) : Sv T (tAug i te (ipI fun i j => i + j)) ρ N R := fun G0 H0 G H σ E S kn kr => by
  obtain ⟨v, e, r⟩ := S.sl i _ hi
  cases r
  refine ⟨_, look_some e, h G0 H0 G H σ _ S fun v G1 H1 g r => ?_⟩
  cases r
  exact ⟨x, y, rfl, rfl, kn _ _ _ _ g.g ((S.next g).set (i := i) (v := .int (x + y)) (s := .dat (.int (x + y))) ⟨_, rfl, .int _⟩ fun _ e => nomatch e) k⟩
theorem sv_par {i j : Nat} {a b : TE} {x y : D} {ta : TA} (h : EvA T ta ρ [x, y]) (k : N ((ρ.set i (.dat x)).set j (.dat y))) : Sv T (tPar i j ta) ρ N R := fun G0 H0 G H σ E S kn kr =>
  h G0 H0 G H σ _ S fun vs G1 H1 g r => by
    cases r with
    | cons r1 r =>
      cases r with
      | cons r2 r =>
        cases r
        exact ⟨_, _, rfl, kn _ _ _ _ g.g (((S.next g).set (i := i) (s := .dat x) ⟨_, rfl, r1⟩ fun _ e => nomatch e).set (i := j) (s := .dat y) ⟨_, rfl, r2⟩ fun _ e => nomatch e) k⟩
end
end Pf
set_option Elab.async false
set_option linter.all false
set_option maxRecDepth 100000
set_option maxHeartbeats 4000000
namespace Pf
open PySem PySem.Spec L2
open PyProof.Rows PySem.Calls
/-! ### the rules, the written part K by its name -/
section
variable {X : Cx} (K : PySem.W.Frag)
theorem k_pg_tup {es : List Expr} {k : Nat} {t : TGs} {n : Nat} {pos : Pos} (hc : X.calm = true) (h : PGs X es t) (hn : (assignEach es X.env).length = n := by rfl) (hst : (assignEach es X.env).findIdx? (·.1) = none := by rfl) (hK : X.K = K := by rfl) : PG X (.Tuple es k pos) (gTup K n t) := hK ▸ pg_tup hc h hn hst
theorem k_pi_list {tg l : Expr} {tl : TE} (hl : PE X l tl) (hK : X.K = K := by rfl) : PI X tg l (iList K tl) := hK ▸ pi_list hl
theorem k_pi_tup {tg l : Expr} {tl : TE} (hl : PE X l tl) (hK : X.K = K := by rfl) : PI X tg l (iTup K tl) := hK ▸ pi_tup hl
theorem k_ix_list (hK : X.K = K := by rfl) : IxR X (rIxL K) := hK ▸ ix_list
theorem k_ix_tup (hK : X.K = K := by rfl) : IxR X (rIxT K) := hK ▸ ix_tup
theorem k_op_eqD (hu : X.A.units + 64 < cLine) (hK : X.K = K := by rfl) : OpR X (compareOp .Eq) (rEqD K) := hK ▸ op_eqD hu
theorem k_op_neD (hu : X.A.units + 64 < cLine) (hK : X.K = K := by rfl) : OpR X (compareOp .NotEq) (rNeD K) := hK ▸ op_neD hu
theorem k_op_catT (hK : X.K = K := by rfl) : OpR X (binaryOp .Add) (rCatT K) := hK ▸ op_catT
theorem k_op_catA (hK : X.K = K := by rfl) : OpR X (binaryOp .Add) (rCatA K) := hK ▸ op_catA
theorem k_op_in (hK : X.K = K := by rfl) : OpR X (compareOp .In) (rIn K false) := hK ▸ op_in_seq
theorem k_sl_list (hK : X.K = K := by rfl) : SlR X (rSlL K) := hK ▸ sl_list
theorem k_len (hK : X.K = K := by rfl) : CallR X (.builtin "len") (fun xs H Q => ∃ x n, xs = [x] ∧ LenV K x H n ∧ Q (.int n) H) := hK ▸ call_len
theorem k_sum (hc : X.calm = true) (hK : X.K = K := by rfl) : CallR X (.builtin "sum") (rSum K) := hK ▸ cr_sum hc
theorem k_all (hc : X.calm = true) (hK : X.K = K := by rfl) : CallR X (.builtin "all") (rAll K) := hK ▸ cr_all hc
theorem k_any (hc : X.calm = true) (hK : X.K = K := by rfl) : CallR X (.builtin "any") (rAny K) := hK ▸ cr_any hc
theorem k_minD (hu : X.A.units + 64 < cLine) (hc : X.calm = true) (hK : X.K = K := by rfl) : CallR X (.builtin "min") (rMinD K) := hK ▸ cr_minD hu hc
theorem k_maxD (hu : X.A.units + 64 < cLine) (hc : X.calm = true) (hK : X.K = K := by rfl) : CallR X (.builtin "max") (rMaxD K) := hK ▸ cr_maxD hu hc
theorem k_minDf (hu : X.A.units + 64 < cLine) (hc : X.calm = true) (hK : X.K = K := by rfl) : CallRK X (.builtin "min") [Str.ofString "default"] (rMinDf K) := hK ▸ cr_minDf hu hc
theorem k_sortD (hu : X.A.units + 64 < cLine) (hK : X.K = K := by rfl) : CallR X (.builtin "sorted") (rSortD K) := hK ▸ cr_sortD hu
theorem k_isi (hK : X.K = K := by rfl) : CallR X (.builtin "isinstance") (rIsi K) := hK ▸ call_isi
theorem k_list (hK : X.K = K := by rfl) : CallR X (.type "list") (fun xs H Q => ∃ p ys, xs = [.ref p] ∧ (SqL K H p ys ∨ SqT K H p ys) ∧ ∀ l, H l = none → Q (.ref l) (upd H l (.lst ys))) := hK ▸ call_list_of
theorem k_tuple (hK : X.K = K := by rfl) : CallR X (.type "tuple") (fun xs H Q => ∃ p ys, xs = [.ref p] ∧ ((SqL K H p ys ∧ ∀ l, H l = none → Q (.ref l) (upd H l (.tup ys))) ∨ (SqT K H p ys ∧ Q (.ref p) H))) := hK ▸ call_tuple_of
theorem k_dict (hc : X.calm = true) (hK : X.K = K := by rfl) : CallR X (.type "dict") (fun xs H Q => ∃ (a : Addr) (ps : List Addr) (kvs : List (Key × V)), xs = [.ref a] ∧ SqL K H a (ps.map V.ref) ∧ Paired (fun p kv => SqT K H p [kV kv.1, kv.2]) ps kvs ∧
    ∀ p, H p = none → Q (.ref p) (upd H p (.dK (mergeK [] kvs)))) := hK ▸ call_dictP hc
theorem k_dictFz (hc : X.calm = true) (hK : X.K = K := by rfl) : CallR X (.type "dict") (rDictFz K) := hK ▸ cr_dictFz hc
theorem k_tupFz (hK : X.K = K := by rfl) : CallR X (.type "tuple") (rTupFz K) := hK ▸ cr_tupFz
theorem k_bm {o e : Expr} {es : List Expr} {to : TE} {t : TA} {name : Str} {apos cpos : Pos} {T id : String} {r : V → List V → Hp → VK → Prop} (pa : PlainAttrs T) (slot : Slot T name id) (hty : typeOf (.builtin id) = pure (.type "method_descriptor")) (hm : MtR X id r) (ho : PE X o to) (ha : PA X (e :: es) t)
    (hbase : attributeBase o name X.env (eval o X.env) = eval o X.env := by rfl)
    (hfew : ((backTo cpos (starEach (e :: es) X.env)).all (fun x => !x.1) && (backToKw cpos (keywordEach [] X.env)).all (fun x => x.1.isSome)
      && decide ((e :: es).length + ([] : List Keyword).length + (if ([] : List Keyword).isEmpty then 0 else 1) < 30)) = true := by rfl)
    (hline : (apos.endLine == cpos.line) = true := by rfl) (hs : starEach (e :: es) X.env = (false, eval e X.env) :: starEach es X.env := by rfl) (hplain : (backTo cpos (starEach es X.env)).any (·.1) = false := by rfl) (hK : X.K = K := by rfl) :
    PE X (.Call (.Attribute o name apos) (e :: es) [] cpos) (tBM K T r to t) := hK ▸ pe_bm pa slot hty hm ho ha hbase hfew hline hs hplain
theorem k_index (hK : X.K = K := by rfl) : MtR X "tuple.index" (fun x xs H Q => ∃ p, ∃ ys : List Str, ∃ z j, x = .ref p ∧ xs = [.str z] ∧ SqT K H p (ys.map V.str) ∧ ys[j]? = some z ∧ (∀ m, m < j → ys[m]? ≠ some z) ∧ Q (.int (j : Nat)) H) := hK ▸ mt_tup_index
theorem k_sign : OpR X (compareOp .In) (fun x y H Q => ∃ (c : Nat) (z : Str), x = .str ⟨#[c]⟩ ∧ y = .str z ∧ Q (.bl (decide (c ∈ z.cps.toList))) H) := op_in_sign
end
/-! ### with lengths that reduce -/
section
variable {T : Tb} {ρ : En} {te : TE} {t : TA} {d : D} {ds : List D} {N : En → Prop} {R : D → Prop} {P : D → Prop}
theorem blt_lt {a b : Nat} (h : Nat.blt a b = true) : a < b := Nat.le_of_ble_eq_true h
theorem ble16 {a : Nat} (h : Nat.ble a 16777216 = true) : a ≤ sizeLine := by rw [sizeLine_eq]; exact Nat.le_of_ble_eq_true h
theorem eg_n {i : Nat} (h : Nat.blt i ρ.length = true := by rfl) : EvG T (gName i) [i] ρ d (ρ.set i (.dat d)) := eg_name (blt_lt h)
theorem sv_as {i : Nat} (he : Ev T te ρ d) (k : N (ρ.set i (.dat d))) (h : Nat.blt i ρ.length = true := by rfl) : Sv T (tAsg te (gName i)) ρ N R := sv_asg (blt_lt h) he k
theorem sv_asP {i : Nat} (he : EvP T te ρ P) (k : ∀ d, P d → N (ρ.set i (.dat d))) (h : Nat.blt i ρ.length = true := by rfl) : Sv T (tAsg te (gName i)) ρ N R := sv_asgP (blt_lt h) he k
theorem ev_tp (ha : EvA T t ρ ds) (h : Nat.ble ds.length 16777216 = true := by rfl) : Ev T (tTup t) ρ (.tuple ds) := ev_tup ha (ble16 h)
theorem ev_ls (ha : EvA T t ρ ds) (h : Nat.ble ds.length 16777216 = true := by rfl) : Ev T (tLst t) ρ (.list ds) := ev_lst ha (ble16 h)
theorem ev_v {i : Nat} (h : ρ[i]? = some (.dat d) := by rfl) : Ev T (tVar i) ρ d := ev_var h
end
end Pf
set_option Elab.async false
set_option linter.all false
set_option maxRecDepth 100000
set_option maxHeartbeats 4000000
namespace Pf
open PySem L2
/-! ### the rules' book, words, what is asked of them -/
structure Book where
  letters : Str
  couples : List (Str × Int)
  span : Int
  costs : List Int
  piles : List (Str × Str × Int)
abbrev encPile (p : Str × Str × Int) : D := .tuple [.str p.1, .str p.2.1, .int p.2.2]
abbrev encB (b : Book) : D := .tuple [.str b.letters, fzD b.couples, .int b.span, .tuple (b.costs.map .int), .tuple (b.piles.map encPile)]
def Sok (x : Str) : Prop := PyData.strOk x = true
structure OkB (b : Book) : Prop where
  nl : b.letters.length ≤ 10
  nc : b.couples.length ≤ 100
  nk : b.costs.length = 9
  np : b.piles.length ≤ 1000
  pk : ∀ p ∈ b.piles, Sok p.1 ∧ Sok p.2.1
  lk : Sok b.letters
def optD : Option Int → D
  | none => .none
  | some i => .int i
theorem isNone_optD (o : Option Int) : isNone (optD o) = o.isNone := by cases o <;> rfl
theorem scal_optD (o : Option Int) : scalD (optD o) = true := by cases o <;> rfl
def intV (es : List (Key × D)) : Prop := ∀ e ∈ es, ∃ i, e.2 = .int i
theorem intV_pt {es : List (Key × D)} {k : Key} {i : Int} (h : intV es) : intV (ptD es k (.int i)) := fun e he => by
  unfold ptD at he
  split at he
  · obtain ⟨f, hf, rfl⟩ := List.mem_map.mp he
    split
    · exact ⟨i, rfl⟩
    · exact h f hf
  · rcases List.mem_append.mp he with he | he
    · exact h e he
    · rw [List.mem_singleton.mp he]; exact ⟨i, rfl⟩
theorem intV_mg : ∀ (kvs : List (Str × Int)) {es : List (Key × D)}, intV es → intV (mgD es (esOf kvs))
  | [], _, h => h
  | q :: kvs, _, h => intV_mg kvs (intV_pt h)
def pw (b : Book) (x : Str) : Option Int := match lkp (mgD [] (esOf b.couples)) (.inr x) with
  | some (.int i) => some i
  | _ => none
theorem pw_optD (b : Book) (x : Str) : (lkp (mgD [] (esOf b.couples)) (.inr x)).getD .none = optD (pw b x) := by
  unfold pw
  cases h : lkp (mgD [] (esOf b.couples)) (.inr x) with
  | none => rfl
  | some d =>
    have : ∃ i, d = .int i := by
      unfold lkp at h
      obtain ⟨e, he, rfl⟩ := Option.map_eq_some_iff.mp h
      exact intV_mg b.couples (fun _ h => by simp at h) e (List.mem_of_find?_eq_some he)
    obtain ⟨i, rfl⟩ := this
    rfl
def spPairWorth : SpF := fun ds P => ∃ b x, ds = [encB b, .str x] ∧ P (optD (pw b x))
def sw (b : Book) (o w : Str) : Int := match (b.piles.filter fun p => decide (p.1 = o ∧ p.2.1 = w)).map (·.2.2) with
  | [] => 0
  | x :: _ => x
def spStackWorth : SpF := fun ds P => ∃ b o w, ds = [encB b, .str o, .str w] ∧ (OkB b ∧ Sok o ∧ Sok w) ∧ P (.int (sw b o w))
def ch (s : Str) (i : Int) : Nat := s.cps.toList.getD i.toNat 0
abbrev one1 (c : Nat) : Str := ⟨#[c]⟩
def both (s : Str) (i j : Int) : Str := one1 (ch s i) ++ one1 (ch s j)
theorem ch_at {s : Str} {i : Int} (h0 : 0 ≤ i) (h1 : i < s.length) : atI s.cps.toList i = some (ch s i) := by
  have hl : s.cps.toList.length = s.length := by rw [Array.length_toList]; rfl
  have hi : i = (i.toNat : Nat) := by omega
  have hlt : i.toNat < s.cps.toList.length := by omega
  rw [hi]
  refine (atI_nat (List.getElem?_eq_getElem hlt)).trans ?_
  unfold ch
  rw [List.getD_eq_getElem?_getD, Int.toNat_natCast, List.getElem?_eq_getElem hlt]
  rfl
def Word (b : Book) (s : Str) : Prop := s.length ≤ 12 ∧ ∀ c ∈ s.cps.toList, c ∈ b.letters.cps.toList
def mp (b : Book) (s : Str) (i j : Int) : Bool := decide (b.span < j - i) && (pw b (both s i j)).isSome
def spIsString : SpF := fun ds P => ∃ b s, ds = [encB b, .str s] ∧ Word b s ∧ P (.bool true)
def spNeedString : SpF := fun ds P => ∃ b s, ds = [encB b, .str s] ∧ Word b s ∧ P .none
def spBothOf : SpF := fun ds P => ∃ s i j, ds = [.str s, .int i, .int j] ∧ (s.length ≤ 100 ∧ 0 ≤ i ∧ i < s.length ∧ 0 ≤ j ∧ j < s.length) ∧ P (.str (both s i j))
def spMayPair : SpF := fun ds P => ∃ b s i j, ds = [encB b, .str s, .int i, .int j] ∧ (s.length ≤ 100 ∧ 0 ≤ i ∧ i < s.length ∧ 0 ≤ j ∧ j < s.length) ∧ P (.bool (mp b s i j))
theorem le16 {n : Nat} (h : n ≤ 16777216) : n ≤ sizeLine := by rw [sizeLine_eq]; exact h
theorem len_both (s : Str) (i j : Int) : (both s i j).length = 2 := rfl
theorem okEq_flat {α : Type} (fs : List α) (f : α → D) (h : ∀ a, (f a).canLay0 = true ∧ (f a).depth ≤ 8) (h2 : ∀ a ∈ fs, PySem.W.alike (f a) (f a) = true) : okEq (.list (fs.map f)) = true ∧ okEq (.tuple (fs.map f)) = true := by
  have h3 : PySem.W.alikeAll (fs.map f) (fs.map f) = true := alikeAll_self fun d hd => by
    obtain ⟨a, ha, rfl⟩ := List.mem_map.mp hd
    exact h2 a ha
  have h4 : PyData.canLayAll0 (fs.map f) = true := by
    clear h2 h3
    induction fs with
    | nil => rfl
    | cons a r ih => rw [List.map_cons, PyData.canLayAll0, (h a).1, ih]; rfl
  have h5 : PyData.depthAll (fs.map f) ≤ 8 := by
    clear h2 h3 h4
    induction fs with
    | nil => simp [PyData.depthAll]
    | cons a r ih =>
      have := (h a).2
      rw [List.map_cons, PyData.depthAll]
      omega
  constructor <;> (unfold okEq SeqAt.shaped; simp [PySem.W.alike, PyData.canLay0, PyData.depth, h3, h4]; omega)
theorem okEq_ints {α : Type} (fs : List α) (f : α → Int) : okEq (.list (fs.map fun a => .int (f a))) = true := (okEq_flat fs (fun a => .int (f a)) (fun a => ⟨rfl, by simp [PyData.depth]⟩) fun _ _ => rfl).1
theorem okSS {a b : Str} (ha : Sok a) (hb : Sok b) : okEq (.tuple [.str a, .str b]) = true := by
  unfold Sok at ha hb
  simp [ha, hb, okEq, SeqAt.shaped, PySem.W.alike, PySem.W.alikeAll, PyData.canLay0, PyData.canLayAll0, PyData.depth, PyData.depthAll]
theorem okII (a b : Int) : okEq (.tuple [.int a, .int b]) = true := by simp [okEq, SeqAt.shaped, PySem.W.alike, PySem.W.alikeAll, PyData.canLay0, PyData.canLayAll0, PyData.depth, PyData.depthAll]
theorem okN : okEq .none = true := by simp [okEq, SeqAt.shaped, PySem.W.alike, PyData.canLay0, PyData.depth]
theorem okNil : okEq (.list []) = true := by simp [okEq, SeqAt.shaped, PySem.W.alike, PySem.W.alikeAll, PyData.canLay0, PyData.canLayAll0, PyData.depth, PyData.depthAll]
theorem at0 {a : D} {r : List D} : atI (a :: r) 0 = some a := atI_nat (j := 0) rfl
theorem eqv_ss (a b c d : Str) : PyData.eqv (.tuple [.str a, .str b]) (.tuple [.str c, .str d]) = decide (a = c ∧ b = d) := by
  rw [Bool.eq_iff_iff]
  simp [PyData.eqv, PyData.eqvAll]
/-! ### told_loops -/
def cost (b : Book) (i : Nat) : Int := b.costs.getD i 0
def toldD (b : Book) : D := dK (mgD [] (esOf (LOOPS.zip b.costs)))
theorem zip_pairs (ks : List Str) (cs : List Int) : ((ks.zip (cs.map PyData.int)).map fun q => PyData.tuple [.str q.1, q.2]) = pairsD (ks.zip cs) := by
  unfold pairsD
  rw [List.zip_map_right, List.map_map]
  rfl
theorem told_at {b : Book} (hb : OkB b) : ∀ i, i < 9 → lkp (mgD [] (esOf (LOOPS.zip b.costs))) (.inr (LOOPS.getD i "")) = some (.int (cost b i)) := by
  have h9 := hb.nk
  unfold cost
  match b.costs, h9 with
  | [c0, c1, c2, c3, c4, c5, c6, c7, c8], _ =>
    intro i hi
    match i, hi with
    | 0, _ => kernel_rfl
    | 1, _ => kernel_rfl
    | 2, _ => kernel_rfl
    | 3, _ => kernel_rfl
    | 4, _ => kernel_rfl
    | 5, _ => kernel_rfl
    | 6, _ => kernel_rfl
    | 7, _ => kernel_rfl
    | 8, _ => kernel_rfl
def spToldLoops : SpF := fun ds P => ∃ b, ds = [encB b] ∧ OkB b ∧ P (toldD b)
theorem Sok.ch {s : Str} (h : Sok s) (i : Int) : ch s i < 0x110000 := by
  unfold Sok PyData.strOk at h
  unfold Pf.ch
  rw [List.getD_eq_getElem?_getD]
  cases q : s.cps.toList[i.toNat]? with
  | none => decide
  | some c =>
    have hm := List.mem_of_getElem? q
    rw [Array.all_eq_true_iff_forall_mem] at h
    have := h c (by simpa using hm)
    simpa using this
theorem Sok.both {s : Str} (h : Sok s) (i j : Int) : Sok (Pf.both s i j) := by
  have e : (Pf.both s i j).cps = #[Pf.ch s i, Pf.ch s j] := rfl
  unfold Sok PyData.strOk
  rw [e]
  have h1 := h.ch i
  have h2 := h.ch j
  simp [h1, h2]
end Pf
set_option Elab.async false
set_option linter.all false
set_option maxRecDepth 100000
set_option maxHeartbeats 4000000
namespace Pf
open PySem PySem.Spec L2
open PyProof.Rows PySem.Calls
section
variable {P : Program} {w : World} {K : PySem.W.Frag} {mg : Str → Option Value} {base : Heap} {T : Tb} {L : Addr}
theorem sc_pair_worth : FnScope (["rules", "both"] : List Str) (["rules", "both"] : List Str) (defScope (topS 5)) := ⟨rfl, rfl, rfl, by decide +kernel, rfl, by decide +kernel, by decide +kernel⟩
theorem ok_pair_worth {f : Addr} {fd : FuncData} (t : Tx K mg L) (F : FnP K "pair_worth" 5 f fd) (gm : mg "pair_worth" = some (.ref f)) : Cal P w K mg base T 1 "pair_worth" ["rules", "both"] spPairWorth := by
  have sc := sc_pair_worth
  refine cal_of F sc gm (fun _ _ _ _ _ _ us hl => match us, hl with | [_, _], _ => rfl) (fun ds P hF => ?_) fun cdv A outer s H vs Q E hr => ?_
  · obtain ⟨_, _, rfl, _⟩ := hF; rfl
  · have hu := hu64 hr
    have hu1 := hu_of hr
    obtain ⟨tkM, hM⟩ := t.MOST
    refine ⟨_, PSs.nox (pss_one (ps_ret (pe_dget1 hu1 (pe_callTy (k_dictFz K rfl) (by rfl) t.dict boot_dict (pa_cons (pe_ix (k_ix_tup K) (pv 0) pe_int (fun _ _ => rfl)) pa_nil)) (pv 1) ⟨rfl, rfl, rfl, rfl⟩))), fun ds P hF => ?_⟩
    obtain ⟨b, x, rfl, hP⟩ := hF
    refine sv_ret (ev_get1 (k := .inr x) (ev_cb (ea_cons (ev_op (ev_var rfl) ev_int (od_ixT rfl)) ea_nil) cl_dictFz) (ev_var rfl)) ?_
    rw [pw_optD]
    exact hP
theorem sc_stack_worth : FnScope (["rules", "outer", "within", "found", "one", "other", "worth"] : List Str) (["rules", "outer", "within"] : List Str) (defScope (topS 6)) := ⟨rfl, rfl, rfl, by decide +kernel, rfl, by decide +kernel, by decide +kernel⟩
theorem ok_stack_worth {f : Addr} {fd : FuncData} (t : Tx K mg L) (F : FnP K "stack_worth" 6 f fd) (gm : mg "stack_worth" = some (.ref f)) : Cal P w K mg base T 1 "stack_worth" ["rules", "outer", "within"] spStackWorth := by
  have sc := sc_stack_worth
  refine cal_of F sc gm (fun _ _ _ _ _ _ us hl => match us, hl with | [_, _, _], _ => rfl) (fun ds P hF => ?_) fun cdv A outer s H vs Q E hr => ?_
  · obtain ⟨_, _, _, rfl, _⟩ := hF; rfl
  · have hu := hu64 hr
    have hu1 := hu_of hr
    obtain ⟨tkM, hM⟩ := t.MOST
    refine ⟨_, PSs.nox (pss_cons (ps_setLc (i := 3) (own := [("one", 4), ("other", 5), ("worth", 6)]) rfl sc.nd rfl rfl (sw_true rfl rfl rfl (by decide +kernel)) (k_pi_tup K (pe_ix (k_ix_tup K) (pv 0) pe_int (fun _ _ => rfl))) (blkOk_by (own := [("one", 4), ("other", 5), ("worth", 6)]) (N := (["rules", "outer", "within", "found", "one", "other", "worth"] : List Str)) (sc := defScope (topS 6)) (by decide +kernel)) (fun _ _ _ _ _ => (k_pg_tup K (n := 3) rfl (pgs_cons (pg_name (i := 4) sc.nd rfl (.inl rfl)) (pgs_cons (pg_name (i := 5) sc.nd rfl (.inl rfl)) (pgs_cons (pg_name (i := 6) sc.nd rfl (.inl rfl)) pgs_nil))))) (fun _ _ _ _ _ => (pts_one (pt_cmpR (k_op_eqD K hu) (pe_tup (pa_cons (pv 4) (pa_cons (pv 5) pa_nil))) (pe_tup (pa_cons (pv 1) (pa_cons (pv 2) pa_nil))) (nomark _)))) (fun _ _ _ _ _ => (pv 6))) (pss_one (ps_ret (pe_ifExp (pt_cmpR (k_op_neD K hu) (pv 3) (pe_lst pa_nil) (nomark _)) (pe_ix (k_ix_list K) (pv 3) pe_int (fun _ _ => rfl)) pe_int)))), fun ds P hF => ?_⟩
    obtain ⟨b, o, u, rfl, ⟨hb, ho, hu'⟩, hP⟩ := hF
    refine sv_seq (sv_as (ev_lcF (is := [4, 5, 6]) b.piles encPile (fun p => decide (p.1 = o ∧ p.2.1 = u)) (fun p => .int p.2.2) (by decide) (ei_tup (ev_op ev_v ev_int (od_ixT rfl))) (le16 (by have := hb.np; omega)) fun p hp => ?_) ?_)
    · refine ⟨_, eg_tup (egs_cons eg_n (egs_cons eg_n (egs_cons eg_n egs_nil))) rfl, ?_, fun _ => ev_v⟩
      refine et_to (et_test (ev_op (ev_tp (ea_cons ev_v (ea_cons ev_v ea_nil))) (ev_tp (ea_cons ev_v (ea_cons ev_v ea_nil))) (od_eqD (okSS (hb.pk p hp).1 (hb.pk p hp).2) (okSS ho hu')))) (eqv_ss ..)
    · refine sv_ret ?_ hP
      unfold sw
      generalize (b.piles.filter fun p => decide (p.1 = o ∧ p.2.1 = u)) = fs
      refine ev_if (b := !PyData.eqv (.list (fs.map fun p => PyData.int p.2.2)) (.list [])) (et_test (ev_op ev_v (ev_ls ea_nil) (od_neD (okEq_ints fs fun p => p.2.2) okNil))) (fun h => ?_) (fun h => ?_)
      · cases fs with
        | nil => cases h
        | cons p r => exact ev_op ev_v ev_int (od_ixL at0)
      · cases fs with
        | nil => exact ev_int
        | cons p r => cases h
theorem sc_is_string : FnScope (["rules", "thing", "letter"] : List Str) (["rules", "thing"] : List Str) (defScope (topS 9)) := ⟨rfl, rfl, rfl, by decide +kernel, rfl, by decide +kernel, by decide +kernel⟩
theorem ok_is_string {f : Addr} {fd : FuncData} (t : Tx K mg L) (F : FnP K "is_string" 9 f fd) (gm : mg "is_string" = some (.ref f)) : Cal P w K mg base T 1 "is_string" ["rules", "thing"] spIsString := by
  have sc := sc_is_string
  refine cal_of F sc gm (fun _ _ _ _ _ _ us hl => match us, hl with | [_, _], _ => rfl) (fun ds P hF => ?_) fun cdv A outer s H vs Q E hr => ?_
  · obtain ⟨_, _, rfl, _⟩ := hF; rfl
  · have hu := hu64 hr
    have hu1 := hu_of hr
    obtain ⟨tkM, hM⟩ := t.MOST
    refine ⟨_, PSs.nox (pss_cons (ps_if (PW.pt (pw_or (pt_not (pt_val (pe_callB (k_isi K) (by rfl) t.isinstance boot_isinstance (pa_cons (pv 1) (pa_cons (pe_bltn (u := .type "str") (v := .ty "str") (by rfl) t.str boot_str rfl) pa_nil))))) (pw_or1 (pt_cmpR op_gt (pe_callB (k_len K) (by rfl) t.len boot_len (pa_cons (pv 1) pa_nil)) (pe_glob (v := .int 12) (by rfl) hM ⟨_, rfl⟩) (nomark _))))) (pss_one (ps_ret pe_bl)) pss_nil) (pss_one (ps_ret (pe_callB (k_all K rfl) (by rfl) t.all boot_all (pa_cons (pe_lc (own := [("letter", 2)]) rfl sc.nd (pi_str (pv 1)) (blkOk_by (own := [("letter", 2)]) (N := (["rules", "thing", "letter"] : List Str)) (sc := defScope (topS 9)) (by decide +kernel)) (fun _ _ _ _ _ => (pg_name (i := 2) sc.nd rfl (.inl rfl))) (fun _ _ _ _ _ => pts_nil) (fun _ _ _ _ _ => (pe_cmpR op_in_sign (pv 2) (pe_ix (k_ix_tup K) (pv 0) pe_int (fun _ _ => rfl)) (by with_unfolding_all rfl)))) pa_nil))))), fun ds P hF => ?_⟩
    obtain ⟨b, s, rfl, ⟨h1, h2⟩, hP⟩ := hF
    have hlt : decide ((12 : Int) < ((s.length : Nat) : Int)) = false := decide_eq_false (by omega)
    refine sv_seq (sv_ifF (et_to (et_or (et_not (et_B (ev_isi ev_v rfl (by intro _ e; cases e) (b := true) rfl))) (fun _ => et_test (ev_op (ev_cb (ea_cons ev_v ea_nil) (cl_lenS (le16 (by omega)))) ev_int od_b))) (by rw [hlt]; rfl)) (sv_next ?_))
    refine sv_ret (Ev.to (ev_cb (ea_cons (Ev.to (ev_lcM (is := [2]) s.cps.toList (fun c => .str ⟨#[c]⟩) (fun c => .bool (decide (c ∈ b.letters.cps.toList))) (by decide) (ei_str ev_v) (le16 ?_) fun c hc => ⟨_, eg_n, ev_op ev_v (ev_op ev_v ev_int (od_ixT rfl)) od_sign⟩) (d' := .list ((s.cps.toList.map fun c => decide (c ∈ b.letters.cps.toList)).map .bool)) (by rw [List.map_map]; rfl)) ea_nil) cl_all) ?_) hP
    · have : s.cps.toList.length = s.length := by rw [Array.length_toList]; rfl
      omega
    · congr 1
      rw [List.all_map, List.all_eq_true]
      exact fun c hc => decide_eq_true (h2 c hc)
theorem sc_need_string : FnScope (["rules", "thing"] : List Str) (["rules", "thing"] : List Str) (defScope (topS 10)) := ⟨rfl, rfl, rfl, by decide +kernel, rfl, by decide +kernel, by decide +kernel⟩
theorem ok_need_string {f : Addr} {fd : FuncData} (t : Tx K mg L) (F : FnP K "need_string" 10 f fd) (gm : mg "need_string" = some (.ref f)) (c_is_string : Cal P w K mg base T 1 "is_string" ["rules", "thing"] spIsString) : Cal P w K mg base T 2 "need_string" ["rules", "thing"] spNeedString := by
  have sc := sc_need_string
  refine cal_of F sc gm (fun _ _ _ _ _ _ us hl => match us, hl with | [_, _], _ => rfl) (fun ds P hF => ?_) fun cdv A outer s H vs Q E hr => ?_
  · obtain ⟨_, _, rfl, _⟩ := hF; rfl
  · have hu := hu64 hr
    have hu1 := hu_of hr
    obtain ⟨tkM, hM⟩ := t.MOST
    refine ⟨_, PSs.nox (pss_one (ps_if (pt_not (pt_val (pe_cal c_is_string hr (by decide) (by rfl) (pa_cons (pv 0) (pa_cons (pv 1) pa_nil))))) pss_never pss_nil)), fun ds P hF => ?_⟩
    obtain ⟨b, s, rfl, hw, hP⟩ := hF
    exact sv_ifF (et_not (et_B (b := true) (ev_call (ea_cons ev_v (ea_cons ev_v ea_nil)) ⟨b, s, rfl, hw, rfl⟩))) (sv_next hP)
theorem sc_both_of : FnScope (["string", "i", "j"] : List Str) (["string", "i", "j"] : List Str) (defScope (topS 11)) := ⟨rfl, rfl, rfl, by decide +kernel, rfl, by decide +kernel, by decide +kernel⟩
theorem ok_both_of {f : Addr} {fd : FuncData} (t : Tx K mg L) (F : FnP K "both_of" 11 f fd) (gm : mg "both_of" = some (.ref f)) : Cal P w K mg base T 1 "both_of" ["string", "i", "j"] spBothOf := by
  have sc := sc_both_of
  refine cal_of F sc gm (fun _ _ _ _ _ _ us hl => match us, hl with | [_, _, _], _ => rfl) (fun ds P hF => ?_) fun cdv A outer s H vs Q E hr => ?_
  · obtain ⟨_, _, _, rfl, _⟩ := hF; rfl
  · have hu := hu64 hr
    have hu1 := hu_of hr
    obtain ⟨tkM, hM⟩ := t.MOST
    refine ⟨_, PSs.nox (pss_one (ps_ret (pe_op op_add_str (pe_ix ix_str (pv 0) (pv 1) (fun _ _ => rfl)) (pe_ix ix_str (pv 0) (pv 2) (fun _ _ => rfl))))), fun ds P hF => ?_⟩
    obtain ⟨s, i, j, rfl, ⟨h1, h2, h3, h4, h5⟩, hP⟩ := hF
    exact sv_ret (ev_op (ev_op ev_v ev_v (od_ixS (le16 (by omega)) (ch_at h2 h3))) (ev_op ev_v ev_v (od_ixS (le16 (by omega)) (ch_at h4 h5))) (od_str (ble16 rfl))) hP
theorem sc_may_pair : FnScope (["rules", "string", "i", "j"] : List Str) (["rules", "string", "i", "j"] : List Str) (defScope (topS 12)) := ⟨rfl, rfl, rfl, by decide +kernel, rfl, by decide +kernel, by decide +kernel⟩
theorem ok_may_pair {f : Addr} {fd : FuncData} (t : Tx K mg L) (F : FnP K "may_pair" 12 f fd) (gm : mg "may_pair" = some (.ref f)) (c_pair_worth : Cal P w K mg base T 1 "pair_worth" ["rules", "both"] spPairWorth) (c_both_of : Cal P w K mg base T 1 "both_of" ["string", "i", "j"] spBothOf) : Cal P w K mg base T 2 "may_pair" ["rules", "string", "i", "j"] spMayPair := by
  have sc := sc_may_pair
  refine cal_of F sc gm (fun _ _ _ _ _ _ us hl => match us, hl with | [_, _, _, _], _ => rfl) (fun ds P hF => ?_) fun cdv A outer s H vs Q E hr => ?_
  · obtain ⟨_, _, _, _, rfl, _⟩ := hF; rfl
  · have hu := hu64 hr
    have hu1 := hu_of hr
    obtain ⟨tkM, hM⟩ := t.MOST
    refine ⟨_, PSs.nox (pss_one (ps_ret (pe_and (pe_cmpR op_gt (pe_op op_sub (pv 3) (pv 2)) (pe_ix (k_ix_tup K) (pv 0) pe_int (fun _ _ => rfl)) (nomark _)) (pe_one (pe_cmpR op_notN (pe_cal c_pair_worth hr (by decide) (by rfl) (pa_cons (pv 0) (pa_cons (pe_cal c_both_of hr (by decide) (by rfl) (pa_cons (pv 1) (pa_cons (pv 2) (pa_cons (pv 3) pa_nil)))) pa_nil))) pe_non (nomark _)))))), fun ds P hF => ?_⟩
    obtain ⟨b, s, i, j, rfl, h, hP⟩ := hF
    refine sv_ret (Ev.to (ev_and2 (ev_op (ev_op ev_v ev_v od_i) (ev_op ev_v ev_int (od_ixT rfl)) od_b) fun _ => ev_op (ev_call (ea_cons ev_v (ea_cons (ev_call (ea_cons ev_v (ea_cons ev_v (ea_cons ev_v ea_nil))) ⟨s, i, j, rfl, h, rfl⟩) ea_nil)) ⟨b, _, rfl, rfl⟩) ev_non od_notN) ?_) hP
    rw [isNone_optD]
    unfold mp
    cases pw b (both s i j) <;> rfl
theorem sc_told_loops : FnScope (["rules"] : List Str) (["rules"] : List Str) (defScope (topS 15)) := ⟨rfl, rfl, rfl, by decide +kernel, rfl, by decide +kernel, by decide +kernel⟩
theorem ok_told_loops {f : Addr} {fd : FuncData} (t : Tx K mg L) (F : FnP K "told_loops" 15 f fd) (gm : mg "told_loops" = some (.ref f)) : Cal P w K mg base T 1 "told_loops" ["rules"] spToldLoops := by
  have sc := sc_told_loops
  refine cal_of F sc gm (fun _ _ _ _ _ _ us hl => match us, hl with | [_], _ => rfl) (fun ds P hF => ?_) fun cdv A outer s H vs Q E hr => ?_
  · obtain ⟨_, rfl, _⟩ := hF; rfl
  · have hu := hu64 hr
    have hu1 := hu_of hr
    obtain ⟨tkM, hM⟩ := t.MOST
    refine ⟨_, PSs.nox (pss_one (ps_ret (pe_callTy (k_dict K rfl) (by rfl) t.dict boot_dict (pa_cons (pe_listZipS rfl (by rfl) t.list (by rfl) t.zip (pa_cons (pe_glob (v := .ref L) (by rfl) t.LOOPS rfl) (pa_cons (pe_ix (k_ix_tup K) (pv 0) pe_int (fun _ _ => rfl)) pa_nil))) pa_nil)))), fun ds P hF => ?_⟩
    obtain ⟨b, rfl, hb, hP⟩ := hF
    exact sv_ret (ev_cb (ea_cons (Ev.to (ev_listZip t.loops (ev_op ev_v ev_int (od_ixT rfl)) (by rw [List.length_map, hb.nk]; rfl)) (congrArg PyData.list (zip_pairs ..))) ea_nil) cl_dict) hP
end
end Pf
set_option Elab.async false
set_option linter.all false
set_option maxRecDepth 100000
set_option maxHeartbeats 4000000
namespace Pf
open PySem L2
/-! ### rows of the table of least worths -/
def rng (lo hi : Int) : List Int := (List.range (hi - lo).toNat).map fun (i : Nat) => lo + (i : Int)
theorem mem_rng {lo hi x : Int} : x ∈ rng lo hi ↔ lo ≤ x ∧ x < hi := by
  unfold rng
  rw [List.mem_map]
  constructor
  · rintro ⟨i, hi', rfl⟩
    rw [List.mem_range] at hi'
    omega
  · intro h
    exact ⟨(x - lo).toNat, by rw [List.mem_range]; omega, by omega⟩
theorem len_rng (lo hi : Int) : (rng lo hi).length = (hi - lo).toNat := by unfold rng; simp
theorem rngD_map (lo hi : Int) : rngD lo (hi - lo).toNat = (rng lo hi).map PyData.int := by
  unfold rngD rng
  rw [List.map_map]
  rfl
abbrev Way : Type := Int × List K3
abbrev encW (w : Way) : D := .tuple [.int w.1, .list (w.2.map keyT)]
abbrev k3 (x : Str) (f l : Int) : K3 := (x, f, l)
def within (b : Book) (s : Str) (f l : Int) : List Way := (rng (f + 1) (l - 1)).flatMap fun st => (rng (st + 1) l).map fun en =>
  (if st - f - 1 + l - en - 1 = 0 then cost b 0 + sw b (both s f l) (both s st en) else cost b 1 + (st - f - 1 + l - en - 1) * cost b 2, [k3 "shut" st en])
def shutW (b : Book) (s : Str) (f l : Int) : List Way := if mp b s f l = true then
  (((cost b 6 + (l - f - 1) * cost b 7, []) :: within b s f l) ++ [(cost b 3, [k3 "two" (f + 1) (l - 1)])]).map fun w => ((pw b (both s f l)).getD 0 + w.1, w.2) else []
def oneW (b : Book) (f l : Int) : List Way := (cost b 5, [k3 "one" (f + 1) l]) :: (rng (f + 1) (l + 1)).flatMap fun e => [(cost b 4 + (l - e) * cost b 5, [k3 "shut" f e]), (cost b 4, [k3 "shut" f e, k3 "one" (e + 1) l])]
def twoW (b : Book) (f l : Int) : List Way := (cost b 5, [k3 "two" (f + 1) l]) :: (rng (f + 1) (l + 1)).map fun e => (cost b 4, [k3 "shut" f e, k3 "one" (e + 1) l])
def openW (b : Book) (f l : Int) : List Way := if l < f then [(0, [])] else (0, [k3 "open" (f + 1) l]) :: (rng (f + 1) (l + 1)).map fun e => (cost b 8, [k3 "shut" f e, k3 "open" (e + 1) l])
def waysOf (b : Book) (s : Str) (k : K3) : List Way := if k.1 = "shut" then shutW b s k.2.1 k.2.2 else if k.1 = "one" then oneW b k.2.1 k.2.2 else if k.1 = "two" then twoW b k.2.1 k.2.2 else openW b k.2.1 k.2.2
def encWs (ws : List Way) : D := .list (ws.map encW)
/-- places that the table asks for -/
structure InS (s : Str) (f l : Int) : Prop where
  s12 : s.length ≤ 12
  ok : Sok s
  f0 : 0 ≤ f
  fl : f < l
  ln : l < s.length
def spWithin : SpF := fun ds P => ∃ b s f l, ds = [encB b, .str s, .int f, .int l] ∧ (OkB b ∧ InS s f l) ∧ P (encWs (within b s f l))
def spShut : SpF := fun ds P => ∃ b s f l, ds = [encB b, .str s, .int f, .int l] ∧ (OkB b ∧ InS s f l) ∧ P (encWs (shutW b s f l))
/-- small numbers -/
def Sm (f l : Int) : Prop := -1 ≤ f ∧ f ≤ 20 ∧ -1 ≤ l ∧ l ≤ 20
def spOne : SpF := fun ds P => ∃ b f l, ds = [encB b, .int f, .int l] ∧ (OkB b ∧ Sm f l) ∧ P (encWs (oneW b f l))
def spTwo : SpF := fun ds P => ∃ b f l, ds = [encB b, .int f, .int l] ∧ (OkB b ∧ Sm f l) ∧ P (encWs (twoW b f l))
def spOpen : SpF := fun ds P => ∃ b f l, ds = [encB b, .int f, .int l] ∧ (OkB b ∧ Sm f l) ∧ P (encWs (openW b f l))
/-- a key of the table -/
structure KeyOk (s : Str) (k : K3) : Prop where
  sm : Sm k.2.1 k.2.2
  shut : k.1 = "shut" → InS s k.2.1 k.2.2
def spWaysOf : SpF := fun ds P => ∃ b s k, ds = [encB b, .str s, keyT k] ∧ (OkB b ∧ KeyOk s k) ∧ P (encWs (waysOf b s k))
abbrev kk (k : K3) : List Key := [.inr k.1, .inl k.2.1, .inl k.2.2]
def gt (es : List (List Key × D)) (k : K3) : Option Int := match lkp es (kk k) with
  | some (.int i) => some i
  | _ => none
def optV (es : List (List Key × D)) : Prop := ∀ e ∈ es, ∃ o, e.2 = optD o
theorem gt_eq {es : List (List Key × D)} (h : optV es) (k : K3) : (lkp es (kk k)).getD .none = optD (gt es k) := by
  unfold gt
  cases q : lkp es (kk k) with
  | none => rfl
  | some d =>
    unfold lkp at q
    obtain ⟨e, he, rfl⟩ := Option.map_eq_some_iff.mp q
    obtain ⟨o, ho⟩ := h e (List.mem_of_find?_eq_some he)
    rw [ho]
    cases o <;> rfl
theorem optV_pt {es : List (List Key × D)} {k : List Key} {o : Option Int} (h : optV es) : optV (ptD es k (optD o)) := fun e he => by
  unfold ptD at he
  split at he
  · obtain ⟨f, hf, rfl⟩ := List.mem_map.mp he
    split
    · exact ⟨o, rfl⟩
    · exact h f hf
  · rcases List.mem_append.mp he with he | he
    · exact h e he
    · rw [List.mem_singleton.mp he]; exact ⟨o, rfl⟩
def comeTo (es : List (List Key × D)) (w : Way) : Option Int := if ((w.2.map (gt es)).any Option.isNone) = true then none else some (w.1 + ((w.2.map (gt es)).filterMap id).sum)
def spComeTo : SpF := fun ds P => ∃ w es, ds = [encW w, dT es] ∧ (optV es ∧ w.2.length ≤ 10) ∧ P (optD (comeTo es w))
def minI : List Int → Option Int
  | [] => none
  | x :: xs => some (xs.foldl (fun a y => if y < a then y else a) x)
def leastI (os : List (Option Int)) : Option Int := minI (os.filterMap id)
def spLeastOf : SpF := fun ds P => ∃ os : List (Option Int), ds = [.list (os.map optD)] ∧ os.length ≤ 100000 ∧ P (optD (leastI os))
def rowBase (n : Int) : List K3 := (rng 0 (n + 1)).map (fun a => k3 "open" a (n - 1)) ++ (rng 0 n).flatMap fun f => (rng f n).flatMap fun l => [k3 "one" f l, k3 "two" f l] ++ if f < l then [k3 "shut" f l] else []
def downs (n : Int) : List Int := (List.range (n + 1).toNat).map fun (i : Nat) => n + (i : Int) * (-1)
/-! ### small facts -/
theorem len_flat {α β : Type} (f : α → List β) (c : Nat) : ∀ xs : List α, (∀ x ∈ xs, (f x).length ≤ c) → (xs.flatMap f).length ≤ xs.length * c
  | [], _ => by simp
  | x :: xs, h => by
    have h1 := h x List.mem_cons_self
    have h2 := len_flat f c xs fun y hy => h y (List.mem_cons_of_mem _ hy)
    rw [List.flatMap_cons, List.length_append, List.length_cons, Nat.succ_mul]
    omega

theorem minL_ints : ∀ (xs : List Int) (x : Int), minL (.int x) (xs.map .int) = .int (xs.foldl (fun a y => if y < a then y else a) x)
  | [], x => rfl
  | y :: ys, x => by
    show minL (if PySem.W.dataLt (.int y) (.int x) = true then .int y else .int x) (ys.map .int) = _
    rw [PySem.W.dataLt_int, List.foldl_cons]
    by_cases h : y < x
    · rw [if_pos (decide_eq_true h), if_pos h]; exact minL_ints ys y
    · rw [if_neg (by simpa using h), if_neg h]; exact minL_ints ys x
theorem minO_ints (ns : List Int) : minO (ns.map .int) = optD (minI ns) := by
  cases ns with
  | nil => rfl
  | cons x xs => exact minL_ints xs x
theorem ordD_ints (ns : List Int) : OrdD (ns.map .int) := by
  refine ⟨⟨fun x hx y hy => ?_, fun x hx e => ?_⟩, ?_⟩
  · obtain ⟨i, _, rfl⟩ := List.mem_map.mp hx
    obtain ⟨j, _, rfl⟩ := List.mem_map.mp hy
    rfl
  · obtain ⟨i, _, rfl⟩ := List.mem_map.mp hx
    cases e
  · induction ns with
    | nil => simp [PyData.depthAll]
    | cons a r ih => rw [List.map_cons, PyData.depthAll]; simp [PyData.depth]; omega
theorem perm_map_inv {α β : Type} {f : α → β} : ∀ {L M : List β}, L.Perm M → ∀ {xs : List α}, M = xs.map f → ∃ ys : List α, L = ys.map f ∧ ys.Perm xs := by
  intro L M h
  induction h with
  | nil => intro xs e; cases xs with
    | nil => exact ⟨[], rfl, .nil⟩
    | cons _ _ => cases e
  | cons a _ ih => intro xs e; cases xs with
    | nil => cases e
    | cons x xs =>
      injection e with e1 e2
      obtain ⟨ys, h1, h2⟩ := ih e2
      exact ⟨x :: ys, by rw [List.map_cons, h1, e1], h2.cons x⟩
  | swap a b l => intro xs e; cases xs with
    | nil => cases e
    | cons x xs => cases xs with
      | nil => cases e
      | cons y xs =>
        injection e with e1 e2
        injection e2 with e2 e3
        exact ⟨y :: x :: xs, by rw [List.map_cons, List.map_cons, e1, e2, e3], .swap x y xs⟩
  | trans _ _ ih1 ih2 =>
    intro xs e
    obtain ⟨ys, h1, h2⟩ := ih2 e
    obtain ⟨zs, h3, h4⟩ := ih1 h1
    exact ⟨zs, h3, h4.trans h2⟩
theorem srt_map {α : Type} (f : α → D) (xs : List α) : ∃ ys : List α, srt (xs.map f) = ys.map f ∧ ys.Perm xs := perm_map_inv (List.mergeSort_perm _ _) rfl
theorem alike_keyT (x y : K3) : PySem.W.alike (keyT x) (keyT y) = true := by simp [keyT, PySem.W.alike, PySem.W.alikeAll]
theorem sortD_keys (ks : List K3) (h : ks.length ≤ 100000) : SortD (ks.map keyT) := by
  refine ⟨fun d hd e he => ?_, .inl (.inl ?_), by rw [List.length_map]; exact le16 (by omega), fun d hd => ?_⟩
  · obtain ⟨x, _, rfl⟩ := List.mem_map.mp hd
    obtain ⟨y, _, rfl⟩ := List.mem_map.mp he
    exact alike_keyT x y
  · intro d hd
    obtain ⟨x, _, rfl⟩ := List.mem_map.mp hd
    exact ⟨_, _, rfl⟩
  · obtain ⟨x, _, rfl⟩ := List.mem_map.mp hd
    simp [keyT, PyData.depth, PyData.depthAll]
theorem flat_opt (os : List (Option Int)) : (os.map optD).all flatD = true := by
  rw [List.all_map, List.all_eq_true]
  intro o _
  cases o <;> rfl
theorem any_opt (os : List (Option Int)) : ((os.map optD).any fun e => eqF e .none) = os.any Option.isNone := by
  rw [List.any_map]
  congr 1
  funext o
  cases o <;> rfl
theorem opt_ints : ∀ (os : List (Option Int)), os.any Option.isNone = false → os.map optD = (os.filterMap id).map .int
  | [], _ => rfl
  | none :: os, h => by simp at h
  | some i :: os, h => by
    have ih := opt_ints os (by simpa using h)
    simp only [List.map_cons, List.filterMap_cons, id]
    rw [ih]; rfl
theorem filt_opt : ∀ (os : List (Option Int)), (os.filter Option.isSome).map optD = (os.filterMap id).map .int
  | [] => rfl
  | none :: os => by simpa using filt_opt os
  | some i :: os => by
    have ih := filt_opt os
    simp only [List.filter_cons, Option.isSome_some, if_true, List.map_cons, List.filterMap_cons, id]
    rw [ih]; rfl
/-! ### the orders that the program makes -/
noncomputable def rowKs (n : Int) : List K3 := (srt_map keyT (rowBase n)).choose
theorem rowKs_eq (n : Int) : srt ((rowBase n).map keyT) = (rowKs n).map keyT := (srt_map keyT (rowBase n)).choose_spec.1
theorem rowKs_perm (n : Int) : (rowKs n).Perm (rowBase n) := (srt_map keyT (rowBase n)).choose_spec.2
def spRowKeys : SpF := fun ds P => ∃ n : Int, ds = [.int n] ∧ (0 ≤ n ∧ n ≤ 12) ∧ P (.list ((rowKs n).map keyT))
noncomputable def fillKs (n : Int) : List K3 := ((rowKs n).filter fun (k : K3) => !decide (k.1 = ("open" : Str))).mergeSort k3le ++ (downs n).map fun a => k3 "open" a (n - 1)
def spFilling : SpF := fun ds P => ∃ n : Int, ds = [.int n] ∧ (0 ≤ n ∧ n ≤ 12) ∧ P (.list ((fillKs n).map keyT))
def fillStep (b : Book) (s : Str) (es : List (List Key × D)) (k : K3) : List (List Key × D) := ptD es (kk k) (optD (leastI ((waysOf b s k).map (comeTo es))))
noncomputable def known (b : Book) (s : Str) : List (List Key × D) := (fillKs s.length).foldl (fillStep b s) []
def spKnown : SpF := fun ds P => ∃ b s, ds = [encB b, .str s] ∧ (OkB b ∧ s.length ≤ 12 ∧ Sok s) ∧ P (dT (known b s))
noncomputable def leastOf (b : Book) (s : Str) : Option Int := gt (known b s) (k3 "open" 0 (s.length - 1))
def spLeastWorth : SpF := fun ds P => ∃ b s, ds = [encB b, .str s] ∧ (OkB b ∧ Word b s ∧ Sok s) ∧ P (optD (leastOf b s))
theorem len_rowBase {n : Int} (h0 : 0 ≤ n) (h : n ≤ 12) : (rowBase n).length ≤ 500 := by
  unfold rowBase
  have h1 := len_flat (fun f => (rng f n).flatMap fun l => [k3 "one" f l, k3 "two" f l] ++ if f < l then [k3 "shut" f l] else []) 36 (rng 0 n) fun f hf => by
    have h2 := mem_rng.mp hf
    have h3 := len_flat (fun l => [k3 "one" f l, k3 "two" f l] ++ if f < l then [k3 "shut" f l] else []) 3 (rng f n) fun l _ => by
      split <;> simp
    rw [len_rng] at h3
    omega
  rw [List.length_append, List.length_map, len_rng]
  rw [len_rng] at h1
  omega
theorem len_downs {n : Int} (h0 : 0 ≤ n) (h : n ≤ 12) : (downs n).length ≤ 13 := by unfold downs; simp; omega
end Pf
set_option Elab.async false
set_option linter.all false
set_option maxRecDepth 100000
set_option maxHeartbeats 4000000
namespace Pf
open PySem PySem.Spec L2
open PyProof.Rows PySem.Calls
section
variable {P : Program} {w : World} {K : PySem.W.Frag} {mg : Str → Option Value} {base : Heap} {T : Tb} {L : Addr}
theorem sc_come_to : FnScope (["way", "known", "own", "keys", "worths", "key"] : List Str) (["way", "known"] : List Str) (defScope (topS 23)) := ⟨rfl, rfl, rfl, by decide +kernel, rfl, by decide +kernel, by decide +kernel⟩
theorem ok_come_to {f : Addr} {fd : FuncData} (t : Tx K mg L) (F : FnP K "come_to" 23 f fd) (gm : mg "come_to" = some (.ref f)) : Cal P w K mg base T 1 "come_to" ["way", "known"] spComeTo := by
  have sc := sc_come_to
  refine cal_of F sc gm (fun _ _ _ _ _ _ us hl => match us, hl with | [_, _], _ => rfl) (fun ds P hF => ?_) fun cdv A outer s H vs Q E hr => ?_
  · obtain ⟨_, _, rfl, _⟩ := hF; rfl
  · have hu := hu64 hr
    have hu1 := hu_of hr
    obtain ⟨tkM, hM⟩ := t.MOST
    refine ⟨_, PSs.nox (pss_cons (ps_asg (pv 0) (k_pg_tup K (n := 2) rfl (pgs_cons (pg_name (i := 2) sc.nd rfl (.inl rfl)) (pgs_cons (pg_name (i := 3) sc.nd rfl (.inl rfl)) pgs_nil)))) (pss_cons (ps_setLc (i := 4) (own := [("key", 5)]) rfl sc.nd rfl rfl (sw_true rfl rfl rfl (by decide +kernel)) (k_pi_list K (pv 3)) (blkOk_by (own := [("key", 5)]) (N := (["way", "known", "own", "keys", "worths", "key"] : List Str)) (sc := defScope (topS 23)) (by decide +kernel)) (fun _ _ _ _ _ => (pg_name (i := 5) sc.nd rfl (.inl rfl))) (fun _ _ _ _ _ => pts_nil) (fun _ _ _ _ _ => (pe_dget1 hu1 (pv 1) (pv 5) ⟨rfl, rfl, rfl, rfl⟩))) (pss_one (ps_ret (pe_ifExp (pt_cmpR (k_op_in K) pe_non (pv 4) (by with_unfolding_all rfl)) pe_non (pe_op op_add (pv 2) (pe_callB (k_sum K rfl) (by rfl) t.sum boot_sum (pa_cons (pv 4) pa_nil)))))))), fun ds P hF => ?_⟩
    obtain ⟨u, es, rfl, ⟨hv, hl⟩, hP⟩ := hF
    refine sv_seq (sv_asgG ev_v (eg_tup (egs_cons eg_n (egs_cons eg_n egs_nil)) rfl) ?_)
    refine sv_seq (sv_as (Ev.to (ev_lcM (is := [5]) u.2 keyT (fun k => (lkp es (kk k)).getD .none) (by decide) (ei_list ev_v) (le16 (by omega)) fun k _ => ⟨_, eg_n, ev_get1T (k := kk k) ev_v ev_v⟩) (d' := .list ((u.2.map (gt es)).map optD)) (by rw [List.map_map]; congr 1; exact List.map_congr_left fun k _ => gt_eq hv k)) ?_)
    unfold comeTo at hP
    generalize hg : u.2.map (gt es) = os at hP ⊢
    refine sv_ret (ev_if (b := os.any Option.isNone) (et_to (et_test (ev_op ev_non ev_v (od_inL rfl (flat_opt os)))) (any_opt os)) (fun h => ?_) (fun h => ?_)) hP
    · rw [h, if_pos rfl]; exact ev_non
    · rw [h, if_neg Bool.false_ne_true]
      exact ev_op ev_v (ev_cb (ea_cons (Ev.to ev_v (congrArg PyData.list (opt_ints os h))) ea_nil) cl_sum) od_i
theorem sc_least_of : FnScope (["worths", "worth"] : List Str) (["worths"] : List Str) (defScope (topS 25)) := ⟨rfl, rfl, rfl, by decide +kernel, rfl, by decide +kernel, by decide +kernel⟩
theorem ok_least_of {f : Addr} {fd : FuncData} (t : Tx K mg L) (F : FnP K "least_of" 25 f fd) (gm : mg "least_of" = some (.ref f)) : Cal P w K mg base T 1 "least_of" ["worths"] spLeastOf := by
  have sc := sc_least_of
  refine cal_of F sc gm (fun _ _ _ _ _ _ us hl => match us, hl with | [_], _ => rfl) (fun ds P hF => ?_) fun cdv A outer s H vs Q E hr => ?_
  · obtain ⟨_, rfl, _⟩ := hF; rfl
  · have hu := hu64 hr
    have hu1 := hu_of hr
    obtain ⟨tkM, hM⟩ := t.MOST
    refine ⟨_, PSs.nox (pss_one (ps_ret (pe_callBK (k_minDf K hu rfl) (by rfl) t.min boot_min (pa_cons (pe_lc (own := [("worth", 1)]) rfl sc.nd (k_pi_list K (pv 0)) (blkOk_by (own := [("worth", 1)]) (N := (["worths", "worth"] : List Str)) (sc := defScope (topS 25)) (by decide +kernel)) (fun _ _ _ _ _ => (pg_name (i := 1) sc.nd rfl (.inl rfl))) (fun _ _ _ _ _ => (pts_one (pt_cmpR op_notN (pv 1) pe_non (nomark _)))) (fun _ _ _ _ _ => (pv 1))) pa_nil) (pk_cons pe_non pk_nil)))), fun ds P hF => ?_⟩
    obtain ⟨os, rfl, hl, hP⟩ := hF
    refine sv_ret (Ev.to (ev_minDf (Ev.to (ev_lcF (is := [1]) os optD Option.isSome optD (by decide) (ei_list ev_v) (le16 (by omega)) fun o _ => ⟨_, eg_n, et_to (et_test (ev_op ev_v ev_non od_notN)) (by rw [isNone_optD]; cases o <;> rfl), fun _ => ev_v⟩) (d' := .list ((os.filterMap id).map .int)) (congrArg PyData.list (filt_opt os))) (ordD_ints _)) (minO_ints _)) hP
end
end Pf
set_option Elab.async false
set_option linter.all false
set_option maxRecDepth 100000
set_option maxHeartbeats 4000000
namespace Pf
open PySem L2
/-! ### the keys of the table, the ways' sizes -/
theorem mem_rowBase {n : Int} {k : K3} (h : k ∈ rowBase n) : (k.1 = "open" ∧ 0 ≤ k.2.1 ∧ k.2.1 ≤ n ∧ k.2.2 = n - 1) ∨ ((k.1 = "one" ∨ k.1 = "two" ∨ (k.1 = "shut" ∧ k.2.1 < k.2.2)) ∧ 0 ≤ k.2.1 ∧ k.2.1 ≤ k.2.2 ∧ k.2.2 < n) := by
  unfold rowBase at h
  rcases List.mem_append.mp h with h | h
  · obtain ⟨a, ha, rfl⟩ := List.mem_map.mp h
    have := mem_rng.mp ha
    exact .inl ⟨rfl, this.1, by show a ≤ n; omega, rfl⟩
  · obtain ⟨f, hf, h⟩ := List.mem_flatMap.mp h
    obtain ⟨l, hl, h⟩ := List.mem_flatMap.mp h
    have h1 := mem_rng.mp hf
    have h2 := mem_rng.mp hl
    rcases List.mem_append.mp h with h | h
    · rcases List.mem_cons.mp h with rfl | h
      · exact .inr ⟨.inl rfl, h1.1, h2.1, h2.2⟩
      · rw [List.mem_singleton.mp h]
        exact .inr ⟨.inr (.inl rfl), h1.1, h2.1, h2.2⟩
    · split at h
      · rename_i hlt
        rw [List.mem_singleton.mp h]
        exact .inr ⟨.inr (.inr ⟨rfl, hlt⟩), h1.1, h2.1, h2.2⟩
      · cases h
theorem mem_fillKs {n : Int} {k : K3} (h : k ∈ fillKs n) (hn : 0 ≤ n) : (k.1 = "open" ∧ 0 ≤ k.2.1 ∧ k.2.1 ≤ n ∧ k.2.2 = n - 1) ∨ ((k.1 = "one" ∨ k.1 = "two" ∨ (k.1 = "shut" ∧ k.2.1 < k.2.2)) ∧ 0 ≤ k.2.1 ∧ k.2.1 ≤ k.2.2 ∧ k.2.2 < n) := by
  unfold fillKs at h
  rcases List.mem_append.mp h with h | h
  · have h1 := (List.mem_filter.mp (List.mem_mergeSort.mp h)).1
    exact mem_rowBase ((rowKs_perm n).mem_iff.mp h1)
  · obtain ⟨a, ha, rfl⟩ := List.mem_map.mp h
    unfold downs at ha
    obtain ⟨i, hi, rfl⟩ := List.mem_map.mp ha
    rw [List.mem_range] at hi
    exact .inl ⟨rfl, by show 0 ≤ n + (i : Int) * (-1); omega, by show n + (i : Int) * (-1) ≤ n; omega, rfl⟩
theorem keyOk_fill {s : Str} {k : K3} (h : k ∈ fillKs s.length) (h12 : s.length ≤ 12) (hs : Sok s) : KeyOk s k := by
  rcases mem_fillKs h (by omega) with ⟨e, h1, h2, h3⟩ | ⟨h0, h1, h2, h3⟩
  · refine ⟨⟨by omega, by omega, by omega, by omega⟩, fun e2 => ?_⟩
    rw [e] at e2
    exact absurd e2 (by decide)
  · refine ⟨⟨by omega, by omega, by omega, by omega⟩, fun e2 => ?_⟩
    rcases h0 with e | e | ⟨e, h4⟩
    · rw [e] at e2; exact absurd e2 (by decide)
    · rw [e] at e2; exact absurd e2 (by decide)
    · exact ⟨h12, hs, h1, h4, h3⟩
theorem len_within {b : Book} {s : Str} {f l : Int} (hi : InS s f l) : (within b s f l).length ≤ 144 := by
  obtain ⟨h12, hok, hf0, hfl, hln⟩ := hi
  unfold within
  have := len_flat (fun st => (rng (st + 1) l).map fun en => (if st - f - 1 + l - en - 1 = 0 then cost b 0 + sw b (both s f l) (both s st en) else cost b 1 + (st - f - 1 + l - en - 1) * cost b 2, [k3 "shut" st en])) 12 (rng (f + 1) (l - 1)) fun st hst => by
    have := mem_rng.mp hst
    rw [List.length_map, len_rng]; omega
  rw [len_rng] at this
  omega
theorem waysOf_small {b : Book} {s : Str} {k : K3} (h : KeyOk s k) : (waysOf b s k).length ≤ 1000 ∧ ∀ w ∈ waysOf b s k, w.2.length ≤ 2 := by
  obtain ⟨⟨h1, h2, h3, h4⟩, hs⟩ := h
  unfold waysOf
  split
  · rename_i e
    have hw := len_within (b := b) (hs e)
    unfold shutW
    split
    · refine ⟨by simp; omega, fun w hw => ?_⟩
      obtain ⟨u, hu, rfl⟩ := List.mem_map.mp hw
      rcases List.mem_append.mp hu with hu | hu
      · rcases List.mem_cons.mp hu with rfl | hu
        · simp
        · unfold within at hu
          obtain ⟨a, _, hu⟩ := List.mem_flatMap.mp hu
          obtain ⟨c, _, rfl⟩ := List.mem_map.mp hu
          simp
      · rw [List.mem_singleton.mp hu]; simp
    · exact ⟨by simp, fun w hw => by simp at hw⟩
  · split
    · unfold oneW
      have hz := len_flat (fun e => [(cost b 4 + (k.2.2 - e) * cost b 5, [k3 "shut" k.2.1 e]), (cost b 4, [k3 "shut" k.2.1 e, k3 "one" (e + 1) k.2.2])]) 2 (rng (k.2.1 + 1) (k.2.2 + 1)) fun _ _ => by simp
      rw [len_rng] at hz
      refine ⟨by rw [List.length_cons]; omega, fun w hw => ?_⟩
      rcases List.mem_cons.mp hw with rfl | hw
      · simp
      · obtain ⟨e, _, hw⟩ := List.mem_flatMap.mp hw
        rcases List.mem_cons.mp hw with rfl | hw
        · simp
        · rw [List.mem_singleton.mp hw]; simp
    · split
      · unfold twoW
        refine ⟨by rw [List.length_cons, List.length_map, len_rng]; omega, fun w hw => ?_⟩
        rcases List.mem_cons.mp hw with rfl | hw
        · simp
        · obtain ⟨e, _, rfl⟩ := List.mem_map.mp hw
          simp
      · unfold openW
        split
        · exact ⟨by simp, fun w hw => by rw [List.mem_singleton.mp hw]; simp⟩
        · refine ⟨by rw [List.length_cons, List.length_map, len_rng]; omega, fun w hw => ?_⟩
          rcases List.mem_cons.mp hw with rfl | hw
          · simp
          · obtain ⟨e, _, rfl⟩ := List.mem_map.mp hw
            simp
theorem optV_fill {b : Book} {s : Str} : ∀ (ks : List K3) {es : List (List Key × D)}, optV es → optV (ks.foldl (fillStep b s) es)
  | [], _, h => h
  | k :: ks, _, h => optV_fill ks (optV_pt h)
theorem len_fill {b : Book} {s : Str} : ∀ (ks : List K3) (es : List (List Key × D)), (ks.foldl (fillStep b s) es).length ≤ es.length + ks.length
  | [], _ => Nat.le_refl _
  | k :: ks, es => by
    have h1 := len_fill (b := b) (s := s) ks (fillStep b s es k)
    have h2 : (fillStep b s es k).length ≤ es.length + 1 := ptD_len _ _ _
    rw [List.foldl_cons, List.length_cons]
    omega
theorem len_fillKs {n : Int} (h0 : 0 ≤ n) (h : n ≤ 12) : (fillKs n).length ≤ 600 := by
  unfold fillKs
  have h1 := List.length_filter_le (fun (k : K3) => !decide (k.1 = ("open" : Str))) (rowKs n)
  have h2 := len_downs h0 h
  have h3 := len_rowBase h0 h
  rw [← (rowKs_perm n).length_eq] at h3
  rw [List.length_append, List.length_map, List.length_mergeSort]
  omega
theorem has_fill {b : Book} {s : Str} : ∀ (ks : List K3) (es : List (List Key × D)) (k : K3), (k ∈ ks ∨ (lkp es (kk k)).isSome = true) → (lkp (ks.foldl (fillStep b s) es) (kk k)).isSome = true
  | [], es, k, h => h.resolve_left (by simp)
  | j :: ks, es, k, h => by
    rw [List.foldl_cons]
    refine has_fill ks _ k ?_
    unfold fillStep
    rw [lkp_ptD]
    rcases h with h | h
    · rcases List.mem_cons.mp h with rfl | h
      · exact .inr (by rw [if_pos rfl]; rfl)
      · exact .inl h
    · by_cases e : kk j = kk k
      · exact .inr (by rw [if_pos e]; rfl)
      · exact .inr (by rw [if_neg e]; exact h)
theorem open_mem {n : Int} (hn : 0 ≤ n) : k3 "open" 0 (n - 1) ∈ fillKs n := by
  unfold fillKs
  refine List.mem_append_right _ (List.mem_map.mpr ⟨0, ?_, rfl⟩)
  unfold downs
  exact List.mem_map.mpr ⟨n.toNat, by rw [List.mem_range]; omega, by omega⟩
theorem known_open (b : Book) (s : Str) : lkp (known b s) (kk (k3 "open" 0 (s.length - 1))) = some (optD (leastOf b s)) := by
  have h := has_fill (b := b) (s := s) (fillKs s.length) [] (k3 "open" 0 (s.length - 1)) (.inl (open_mem (by omega)))
  obtain ⟨d, hd⟩ := Option.isSome_iff_exists.mp h
  have e := gt_eq (optV_fill (b := b) (s := s) (fillKs s.length) (es := []) (fun _ h => by simp at h)) (k3 "open" 0 (s.length - 1))
  rw [hd] at e
  unfold leastOf known
  rw [hd]
  exact congrArg some e
end Pf
set_option Elab.async false
set_option linter.all false
set_option maxRecDepth 100000
set_option maxHeartbeats 4000000
namespace Pf
open PySem L2
section
variable {T : Tb} {K : PySem.W.Frag} {ρ ρ' : En} {te : TE} {tt : TT} {t : TA} {d : D} {N : En → Prop} {R : D → Prop} {ts : TS}
theorem ei_r1 {j : Int} (h : EvA T t ρ [.int j]) (h1 : -1000 ≤ j ∧ j ≤ 1000) : EvI T (iRng1 t) ρ ((rng 0 j).map .int) := by
  have := ei_rng1 h (by omega) (by omega)
  rw [show j.toNat = (j - 0).toNat by rw [Int.sub_zero], rngD_map] at this
  exact this
theorem ei_r2 {i j : Int} (h : EvA T t ρ [.int i, .int j]) (h1 : -1000 ≤ i ∧ i ≤ 1000 ∧ -1000 ≤ j ∧ j ≤ 1000) : EvI T (iRng2 t) ρ ((rng i j).map .int) := by
  have := ei_rng2 h ⟨by omega, by omega, by omega, by omega⟩
  rw [rngD_map] at this
  exact this
theorem ei_rd {i : Int} (h : EvA T t ρ [.int i, .int (-1), .int (-1)]) (h1 : -1000 ≤ i ∧ i ≤ 1000) : EvI T (iRng3 t) ρ ((downs i).map .int) := by
  have := ei_rngDn h ⟨by omega, by omega, by decide, by decide⟩
  have e : rngDn i (i - -1).toNat = (downs i).map .int := by
    unfold rngDn downs
    rw [List.map_map, show i - -1 = i + 1 by omega]
    rfl
  rw [e] at this
  exact this
/-- the new list one's own, all items taken -/
theorem sv_lcMO {α : Type} {wi : TI} {g : TG} {is vs : List Nat} {i : Nat} (xs : List α) (enc : α → D) (out : α → D) (hw : ∀ i ∈ is, i ∈ vs) (h : EvI T wi ρ (xs.map enc)) (hz : xs.length ≤ sizeLine)
    (hs : ∀ x ∈ xs, ∃ ρ', EvG T g is (wipeE ρ vs) (enc x) ρ' ∧ Ev T te ρ' (out x)) (n : noOwn ρ = true) (k : N (ρ.set i (.own (.list (xs.map out))))) : Sv T (tAsg (tLc wi g tYes te vs) (gName i)) ρ N R :=
  sv_lcO xs enc (fun x => some (out x)) hw h hz (fun x hx => by
    obtain ⟨ρ', h1, h2⟩ := hs x hx
    exact ⟨ρ', true, h1, et_yes, fun _ => ⟨_, h2, rfl⟩, fun e => nomatch e⟩) (fun j e q => (noOwn_at n q).elim) (by simpa [List.filterMap_eq_map'] using k)
theorem sv_newLn {i : Nat} {ds : List D} (h : EvA T t ρ ds) (k : N (ρ.set i (.own (.list ds)))) (n : noOwn ρ = true := by rfl) (hz : Nat.ble ds.length 16777216 = true := by rfl) : Sv T (tAsg (tLst t) (gName i)) ρ N R := sv_newL (fun j e q => (noOwn_at n q).elim) h (ble16 hz) k
/-- a loop that makes a list of one's own longer -/
theorem sv_forAcc {α : Type} {wi : TI} {g : TG} {is : List Nat} (xs : List α) (enc : α → D) (out : α → List D) (ρ0 : En) (slot : Nat) (acc : List D) (c : Nat) (h : EvI T wi ρ (xs.map enc)) (h0 : Le ρ (ρ0.set slot (.own (.list acc)))) (hc : acc.length + (xs.flatMap out).length ≤ c)
    (hs : ∀ (a : α) (as : List D), a ∈ xs → as.length + (out a).length ≤ c → ∃ ρ', EvG T g is (ρ0.set slot (.own (.list as))) (enc a) ρ' ∧ Sv T ts ρ' (fun ρ3 => Le ρ3 (ρ0.set slot (.own (.list (as ++ out a))))) R)
    (hd : N (ρ0.set slot (.own (.list (acc ++ xs.flatMap out))))) : Sv T (tFor wi g ts) ρ N R := by
  refine sv_for (is := is) xs enc (fun i => ρ0.set slot (.own (.list (acc ++ (xs.take i).flatMap out)))) h (by simpa using h0) (fun i x hx => ?_) (by rw [List.take_length]; exact hd)
  have hl : (acc ++ (xs.take i).flatMap out).length + (out x).length ≤ c := by
    have e := take_flatMap_succ (f := out) hx
    have l := flat_le out xs (i + 1)
    rw [e, List.length_append] at l
    rw [List.length_append]
    omega
  obtain ⟨ρ', h1, h2⟩ := hs x _ (List.mem_of_getElem? hx) hl
  refine ⟨ρ', h1, ?_⟩
  rw [take_flatMap_succ hx, ← List.append_assoc]
  exact h2
theorem lt16 {n : Nat} (h : n < 16777216) : n < sizeLine := by rw [sizeLine_eq]; exact h
/-- list(range(i, j)) -/
theorem ev_lrg {ta tb : TE} {i j : Int} (ha : Ev T ta ρ (.int i)) (hb : Ev T tb ρ (.int j)) (h : -1000 ≤ i ∧ i ≤ 1000 ∧ -1000 ≤ j ∧ j ≤ 1000) : Ev T (tLstRg (tRg2 ta tb)) ρ (.list ((rng i j).map .int)) := fun G0 H0 G H σ Q S k =>
  ha G0 H0 G H σ _ S fun v G1 H1 g1 r1 => hb G0 H0 G1 H1 σ _ (S.next g1) fun u G2 H2 g2 r2 => by
    cases r1; cases r2
    refine ⟨i, j, rfl, rfl, ⟨by omega, by omega, by omega, by omega, by omega⟩, fun p hp => ?_⟩
    have e : rgV i j = (rng i j).map V.int := by unfold rgV rng; rw [List.map_map]; rfl
    rw [e]
    have rr : Reps G2 ((rng i j).map V.int) ((rng i j).map .int) := by
      induction rng i j with
      | nil => exact .nil
      | cons x r ih => exact .cons (.int x) ih
    obtain ⟨G3, g3, q⟩ := g2.w.newL hp rr
    exact k _ _ _ ((g1.trans g2).trans g3) q
end
end Pf
set_option Elab.async false
set_option linter.all false
set_option maxRecDepth 100000
set_option maxHeartbeats 4000000
namespace Pf
open PySem PySem.Spec L2
open PyProof.Rows PySem.Calls
section
variable {P : Program} {w : World} {K : PySem.W.Frag} {mg : Str → Option Value} {base : Heap} {T : Tb} {L : Addr}
theorem sc_row_keys : FnScope (["many", "found", "first", "last", "at"] : List Str) (["many"] : List Str) (defScope (topS 14)) := ⟨rfl, rfl, rfl, by decide +kernel, rfl, by decide +kernel, by decide +kernel⟩
theorem ok_row_keys {f : Addr} {fd : FuncData} (t : Tx K mg L) (F : FnP K "row_keys" 14 f fd) (gm : mg "row_keys" = some (.ref f)) : Cal P w K mg base T 1 "row_keys" ["many"] spRowKeys := by
  have sc := sc_row_keys
  refine cal_of F sc gm (fun _ _ _ _ _ _ us hl => match us, hl with | [_], _ => rfl) (fun ds P hF => ?_) fun cdv A outer s H vs Q E hr => ?_
  · obtain ⟨_, rfl, _⟩ := hF; rfl
  · have hu := hu64 hr
    have hu1 := hu_of hr
    obtain ⟨tkM, hM⟩ := t.MOST
    refine ⟨_, PSs.nox (pss_cons (ps_setLc (i := 1) (own := [("at", 4)]) rfl sc.nd rfl rfl (sw_true rfl rfl rfl (by decide +kernel)) (pi_range1 (by rfl) t.range (pa_cons (pe_op op_add (pv 0) pe_int) pa_nil)) (blkOk_by (own := [("at", 4)]) (N := (["many", "found", "first", "last", "at"] : List Str)) (sc := defScope (topS 14)) (by decide +kernel)) (fun _ _ _ _ _ => (pg_name (i := 4) sc.nd rfl (.inl rfl))) (fun _ _ _ _ _ => pts_nil) (fun _ _ _ _ _ => (pe_tup (pa_cons pe_str (pa_cons (pv 4) (pa_cons (pe_op op_sub (pv 0) pe_int) pa_nil)))))) (pss_cons (ps_for PassesOwn.never rfl (pi_range1 (by rfl) t.range (pa_cons (pv 0) pa_nil)) (pg_name (i := 2) sc.nd rfl (.inl rfl)) (pss_one (ps_for PassesOwn.never rfl (pi_range2 (by rfl) t.range (pa_cons (pv 2) (pa_cons (pv 0) pa_nil))) (pg_name (i := 3) sc.nd rfl (.inl rfl)) (pss_cons (ps_expr (k_bm K PySem.F.plainAttrs_list PySem.F.slot_list_extend PySem.F.type_list_extend mt_extend (pv 1) (pa_cons (pe_lst (pa_cons (pe_tup (pa_cons pe_str (pa_cons (pv 2) (pa_cons (pv 3) pa_nil)))) (pa_cons (pe_tup (pa_cons pe_str (pa_cons (pv 2) (pa_cons (pv 3) pa_nil)))) pa_nil))) pa_nil))) (pss_one (ps_if (pt_cmpR op_lt (pv 2) (pv 3) (nomark _)) (pss_one (ps_expr (k_bm K PySem.F.plainAttrs_list PySem.F.slot_list_append PySem.F.type_list_append mt_append (pv 1) (pa_cons (pe_tup (pa_cons pe_str (pa_cons (pv 2) (pa_cons (pv 3) pa_nil)))) pa_nil)))) pss_nil)))))) (pss_one (ps_ret (pe_callB (k_sortD K hu) (by rfl) t.sorted boot_sorted (pa_cons (pv 1) pa_nil)))))), fun ds P hF => ?_⟩
    obtain ⟨n, rfl, ⟨hn0, hn⟩, hP⟩ := hF
    have inner : ∀ f ∈ rng 0 n, ((rng f n).flatMap fun l => ([k3 "one" f l, k3 "two" f l] ++ if f < l then [k3 "shut" f l] else []).map keyT).length ≤ 36 := fun f hf => by
      have h1 := mem_rng.mp hf
      have h2 := len_flat (fun l => ([k3 "one" f l, k3 "two" f l] ++ if f < l then [k3 "shut" f l] else []).map keyT) 3 (rng f n) fun l _ => by
        split <;> simp
      rw [len_rng] at h2
      omega
    refine sv_seq (sv_lcMO (is := [4]) (rng 0 (n + 1)) .int (fun a => keyT (k3 "open" a (n - 1))) (by decide) (ei_r1 (ea_cons (ev_op ev_v ev_int od_i) ea_nil) (by omega)) (by rw [len_rng]; exact le16 (by omega)) (fun a _ => ⟨_, eg_n, ev_tp (ea_cons ev_str (ea_cons ev_v (ea_cons (ev_op ev_v ev_int od_i) ea_nil)))⟩) rfl ?_)
    refine sv_seq (sv_forAcc (is := [2]) (rng 0 n) .int (fun f => (rng f n).flatMap fun l => ([k3 "one" f l, k3 "two" f l] ++ if f < l then [k3 "shut" f l] else []).map keyT) [.dat (.int n), .any, .any, .any, .any] 1 ((rng 0 (n + 1)).map fun a => keyT (k3 "open" a (n - 1))) 1000 (ei_r1 (ea_cons ev_v ea_nil) (by omega)) (.same (.same (.any (.any (.any .nil))))) ?_ (fun f as hf hl => ⟨_, eg_n, ?_⟩) ?_)
    · have := len_flat _ 36 (rng 0 n) inner
      rw [List.length_map, len_rng]
      rw [len_rng] at this
      omega
    · have hf' := mem_rng.mp hf
      refine sv_forAcc (is := [3]) (rng f n) .int (fun l => ([k3 "one" f l, k3 "two" f l] ++ if f < l then [k3 "shut" f l] else []).map keyT) [.dat (.int n), .any, .dat (.int f), .any, .any] 1 as 1000 (ei_r2 (ea_cons ev_v (ea_cons ev_v ea_nil)) (by omega)) (.same (.same (.same (.any (.any .nil))))) hl (fun l bs hl' hz => ⟨_, eg_n, ?_⟩) (.same (.same (.any (.any (.any .nil)))))
      have hz' : bs.length + 3 ≤ 2000 := by
        revert hz
        split <;> simp <;> omega
      refine sv_seq (sv_extend (ds := bs) (es := [k3 "one" f l, k3 "two" f l].map keyT) rfl (ev_ls (ea_cons (ev_tp (ea_cons ev_str (ea_cons ev_v (ea_cons ev_v ea_nil)))) (ea_cons (ev_tp (ea_cons ev_str (ea_cons ev_v (ea_cons ev_v ea_nil)))) ea_nil))) (le16 (by simp; omega)) ?_)
      refine sv_if (b := decide (f < l)) (et_test (ev_op ev_v ev_v od_b)) (fun h => ?_) (fun h => ?_)
      · rw [if_pos (of_decide_eq_true h)]
        refine sv_append rfl (ev_tp (ea_cons ev_str (ea_cons ev_v (ea_cons ev_v ea_nil)))) (Nat.lt_of_lt_of_le (show _ < 16777216 by simp; omega) (Nat.le_of_eq sizeLine_eq.symm)) ?_
        rw [List.append_assoc]
        exact .same (.same (.same (.any (.any .nil))))
      · rw [if_neg (of_decide_eq_false h), List.append_nil]
        exact sv_next (.same (.same (.same (.any (.any .nil)))))
    · refine sv_froze (i := 1) rfl (sv_retP (EvP.imp (Ev.p (P := fun d => d = .list (srt ((rowBase n).map keyT))) (ev_cb (ea_cons (Ev.to ev_v ?_) ea_nil) (cl_sort (sortD_keys _ ?_))) rfl) fun d hd => ?_))
      · unfold rowBase
        rw [List.map_append, List.map_map]
        simp only [List.map_flatMap]
        rfl
      · unfold rowBase
        have h1 := len_flat (fun f => (rng f n).flatMap fun l => [k3 "one" f l, k3 "two" f l] ++ if f < l then [k3 "shut" f l] else []) 36 (rng 0 n) fun f hf => by
          have := inner f hf
          rw [← List.map_flatMap, List.length_map] at this
          exact this
        rw [List.length_append, List.length_map, len_rng]
        rw [len_rng] at h1
        omega
      · subst hd
        rw [rowKs_eq]
        exact hP
theorem sc_one_ways : FnScope (["rules", "first", "last", "told", "found", "end"] : List Str) (["rules", "first", "last"] : List Str) (defScope (topS 18)) := ⟨rfl, rfl, rfl, by decide +kernel, rfl, by decide +kernel, by decide +kernel⟩
theorem ok_one_ways {f : Addr} {fd : FuncData} (t : Tx K mg L) (F : FnP K "one_ways" 18 f fd) (gm : mg "one_ways" = some (.ref f)) (c_told_loops : Cal P w K mg base T 1 "told_loops" ["rules"] spToldLoops) : Cal P w K mg base T 2 "one_ways" ["rules", "first", "last"] spOne := by
  have sc := sc_one_ways
  refine cal_of F sc gm (fun _ _ _ _ _ _ us hl => match us, hl with | [_, _, _], _ => rfl) (fun ds P hF => ?_) fun cdv A outer s H vs Q E hr => ?_
  · obtain ⟨_, _, _, rfl, _⟩ := hF; rfl
  · have hu := hu64 hr
    have hu1 := hu_of hr
    obtain ⟨tkM, hM⟩ := t.MOST
    refine ⟨_, PSs.nox (pss_cons (ps_set (i := 3) sc.nd rfl (.inl rfl) (pe_cal c_told_loops hr (by decide) (by rfl) (pa_cons (pv 0) pa_nil))) (pss_cons (ps_set (i := 4) sc.nd rfl (.inl rfl) (pe_lst (pa_cons (pe_tup (pa_cons (pe_dget hu1 (pv 3) pe_str (fun _ _ => rfl)) (pa_cons (pe_lst (pa_cons (pe_tup (pa_cons pe_str (pa_cons (pe_op op_add (pv 1) pe_int) (pa_cons (pv 2) pa_nil)))) pa_nil)) pa_nil))) pa_nil))) (pss_cons (ps_for PassesOwn.never rfl (pi_range2 (by rfl) t.range (pa_cons (pe_op op_add (pv 1) pe_int) (pa_cons (pe_op op_add (pv 2) pe_int) pa_nil))) (pg_name (i := 5) sc.nd rfl (.inl rfl)) (pss_cons (ps_expr (k_bm K PySem.F.plainAttrs_list PySem.F.slot_list_append PySem.F.type_list_append mt_append (pv 4) (pa_cons (pe_tup (pa_cons (pe_op op_add (pe_dget hu1 (pv 3) pe_str (fun _ _ => rfl)) (pe_op op_mul (pe_op op_sub (pv 2) (pv 5)) (pe_dget hu1 (pv 3) pe_str (fun _ _ => rfl)))) (pa_cons (pe_lst (pa_cons (pe_tup (pa_cons pe_str (pa_cons (pv 1) (pa_cons (pv 5) pa_nil)))) pa_nil)) pa_nil))) pa_nil))) (pss_one (ps_expr (k_bm K PySem.F.plainAttrs_list PySem.F.slot_list_append PySem.F.type_list_append mt_append (pv 4) (pa_cons (pe_tup (pa_cons (pe_dget hu1 (pv 3) pe_str (fun _ _ => rfl)) (pa_cons (pe_lst (pa_cons (pe_tup (pa_cons pe_str (pa_cons (pv 1) (pa_cons (pv 5) pa_nil)))) (pa_cons (pe_tup (pa_cons pe_str (pa_cons (pe_op op_add (pv 5) pe_int) (pa_cons (pv 2) pa_nil)))) pa_nil))) pa_nil))) pa_nil)))))) (pss_one (ps_ret (pv 4)))))), fun ds P hF => ?_⟩
    obtain ⟨b, f, l, rfl, ⟨hb, hs⟩, hP⟩ := hF
    obtain ⟨h1, h2, h3, h4⟩ := hs
    refine sv_seq (sv_as (ev_call (ea_cons ev_v ea_nil) ⟨b, rfl, hb, rfl⟩) ?_)
    refine sv_seq (sv_newLn (ea_cons (ev_tp (ea_cons (ev_get (k := .inr "fork free") ev_v ev_str (told_at hb 5 (by decide))) (ea_cons (ev_ls (ea_cons (ev_tp (ea_cons ev_str (ea_cons (ev_op ev_v ev_int od_i) (ea_cons ev_v ea_nil)))) ea_nil)) ea_nil))) ea_nil) ?_)
    have hz := len_flat (fun e => [encW (cost b 4 + (l - e) * cost b 5, [k3 "shut" f e]), encW (cost b 4, [k3 "shut" f e, k3 "one" (e + 1) l])]) 2 (rng (f + 1) (l + 1)) fun _ _ => by simp
    rw [len_rng] at hz
    refine sv_seq (sv_forAcc (is := [5]) (rng (f + 1) (l + 1)) .int (fun e => [encW (cost b 4 + (l - e) * cost b 5, [k3 "shut" f e]), encW (cost b 4, [k3 "shut" f e, k3 "one" (e + 1) l])]) [.dat (encB b), .dat (.int f), .dat (.int l), .dat (toldD b), .any, .any] 4 [encW (cost b 5, [k3 "one" (f + 1) l])] 1000
      (ei_r2 (ea_cons (ev_op ev_v ev_int od_i) (ea_cons (ev_op ev_v ev_int od_i) ea_nil)) (by omega)) (.same (.same (.same (.same (.same (.any .nil)))))) (by rw [List.length_singleton]; omega) (fun e as he hl => ⟨_, eg_n, ?_⟩) ?_)
    · have he' := mem_rng.mp he
      have hl' : as.length + 2 ≤ 1000 := hl
      refine sv_seq (sv_append rfl (ev_tp (ea_cons (ev_op (ev_get (k := .inr "branch") ev_v ev_str (told_at hb 4 (by decide))) (ev_op (ev_op ev_v ev_v od_i) (ev_get (k := .inr "fork free") ev_v ev_str (told_at hb 5 (by decide))) (od_iC (.inl (by omega)))) od_i) (ea_cons (ev_ls (ea_cons (ev_tp (ea_cons ev_str (ea_cons ev_v (ea_cons ev_v ea_nil)))) ea_nil)) ea_nil))) (lt16 (by omega)) ?_)
      refine sv_append rfl (ev_tp (ea_cons (ev_get (k := .inr "branch") ev_v ev_str (told_at hb 4 (by decide))) (ea_cons (ev_ls (ea_cons (ev_tp (ea_cons ev_str (ea_cons ev_v (ea_cons ev_v ea_nil)))) (ea_cons (ev_tp (ea_cons ev_str (ea_cons (ev_op ev_v ev_int od_i) (ea_cons ev_v ea_nil)))) ea_nil))) ea_nil))) (lt16 (by rw [List.length_append, List.length_singleton]; omega)) ?_
      rw [List.append_assoc]
      exact .same (.same (.same (.same (.same (.any .nil)))))
    · refine sv_froze (i := 4) rfl (sv_ret ev_v ?_)
      unfold encWs oneW at hP
      rw [List.map_cons, List.map_flatMap] at hP
      exact hP
theorem sc_two_ways : FnScope (["rules", "first", "last", "told", "found", "ends", "end"] : List Str) (["rules", "first", "last"] : List Str) (defScope (topS 19)) := ⟨rfl, rfl, rfl, by decide +kernel, rfl, by decide +kernel, by decide +kernel⟩
theorem ok_two_ways {f : Addr} {fd : FuncData} (t : Tx K mg L) (F : FnP K "two_ways" 19 f fd) (gm : mg "two_ways" = some (.ref f)) (c_told_loops : Cal P w K mg base T 1 "told_loops" ["rules"] spToldLoops) : Cal P w K mg base T 2 "two_ways" ["rules", "first", "last"] spTwo := by
  have sc := sc_two_ways
  refine cal_of F sc gm (fun _ _ _ _ _ _ us hl => match us, hl with | [_, _, _], _ => rfl) (fun ds P hF => ?_) fun cdv A outer s H vs Q E hr => ?_
  · obtain ⟨_, _, _, rfl, _⟩ := hF; rfl
  · have hu := hu64 hr
    have hu1 := hu_of hr
    obtain ⟨tkM, hM⟩ := t.MOST
    refine ⟨_, PSs.nox (pss_cons (ps_set (i := 3) sc.nd rfl (.inr rfl) (pe_cal c_told_loops hr (by decide) (by rfl) (pa_cons (pv 0) pa_nil))) (pss_cons (ps_set (i := 4) sc.nd rfl (.inl rfl) (pe_lst (pa_cons (pe_tup (pa_cons (pe_dget hu1 (pv 3) pe_str (fun _ _ => rfl)) (pa_cons (pe_lst (pa_cons (pe_tup (pa_cons pe_str (pa_cons (pe_op op_add (pv 1) pe_int) (pa_cons (pv 2) pa_nil)))) pa_nil)) pa_nil))) pa_nil))) (pss_cons (ps_set (i := 5) sc.nd rfl (.inl rfl) (pe_listRg rfl (by rfl) t.list (prg_2 (by rfl) t.range (pe_op op_add (pv 1) pe_int) (pe_op op_add (pv 2) pe_int)))) (pss_cons (ps_expr (k_bm K PySem.F.plainAttrs_list PySem.F.slot_list_extend PySem.F.type_list_extend mt_extend (pv 4) (pa_cons (pe_lc (own := [("end", 6)]) rfl sc.nd (k_pi_list K (pv 5)) (blkOk_by (own := [("end", 6)]) (N := (["rules", "first", "last", "told", "found", "ends", "end"] : List Str)) (sc := defScope (topS 19)) (by decide +kernel)) (fun _ _ _ _ _ => (pg_name (i := 6) sc.nd rfl (.inl rfl))) (fun _ _ _ _ _ => pts_nil) (fun _ _ _ _ _ => (pe_tup (pa_cons (pe_dget hu1 (pv 3) pe_str (fun _ _ => rfl)) (pa_cons (pe_lst (pa_cons (pe_tup (pa_cons pe_str (pa_cons (pv 1) (pa_cons (pv 6) pa_nil)))) (pa_cons (pe_tup (pa_cons pe_str (pa_cons (pe_op op_add (pv 6) pe_int) (pa_cons (pv 2) pa_nil)))) pa_nil))) pa_nil))))) pa_nil))) (pss_one (ps_ret (pv 4))))))), fun ds P hF => ?_⟩
    obtain ⟨b, f, l, rfl, ⟨hb, hs⟩, hP⟩ := hF
    obtain ⟨h1, h2, h3, h4⟩ := hs
    refine sv_seq (sv_as (ev_call (ea_cons ev_v ea_nil) ⟨b, rfl, hb, rfl⟩) ?_)
    refine sv_seq (sv_newLn (ea_cons (ev_tp (ea_cons (ev_get (k := .inr "fork free") ev_v ev_str (told_at hb 5 (by decide))) (ea_cons (ev_ls (ea_cons (ev_tp (ea_cons ev_str (ea_cons (ev_op ev_v ev_int od_i) (ea_cons ev_v ea_nil)))) ea_nil)) ea_nil))) ea_nil) ?_)
    refine sv_seq (sv_as (ev_lrg (ev_op ev_v ev_int od_i) (ev_op ev_v ev_int od_i) (by omega)) ?_)
    refine sv_seq (sv_extend (ds := [encW (cost b 5, [k3 "two" (f + 1) l])]) (es := (rng (f + 1) (l + 1)).map fun e => encW (cost b 4, [k3 "shut" f e, k3 "one" (e + 1) l])) rfl (ev_lcM (is := [6]) (rng (f + 1) (l + 1)) .int (fun e => encW (cost b 4, [k3 "shut" f e, k3 "one" (e + 1) l])) (by decide) (ei_list ev_v) (by rw [len_rng]; exact le16 (by omega)) fun e _ => ⟨_, eg_n, ev_tp (ea_cons (ev_get (k := .inr "branch") ev_v ev_str (told_at hb 4 (by decide))) (ea_cons (ev_ls (ea_cons (ev_tp (ea_cons ev_str (ea_cons ev_v (ea_cons ev_v ea_nil)))) (ea_cons (ev_tp (ea_cons ev_str (ea_cons (ev_op ev_v ev_int od_i) (ea_cons ev_v ea_nil)))) ea_nil))) ea_nil))⟩) (by rw [List.length_map, len_rng, List.length_singleton]; exact le16 (by omega)) ?_)
    refine sv_froze (i := 4) rfl (sv_ret ev_v ?_)
    unfold encWs twoW at hP
    rw [List.map_cons, List.map_map] at hP
    exact hP
theorem sc_open_ways : FnScope (["rules", "first", "last", "worth", "found", "end"] : List Str) (["rules", "first", "last"] : List Str) (defScope (topS 20)) := ⟨rfl, rfl, rfl, by decide +kernel, rfl, by decide +kernel, by decide +kernel⟩
theorem ok_open_ways {f : Addr} {fd : FuncData} (t : Tx K mg L) (F : FnP K "open_ways" 20 f fd) (gm : mg "open_ways" = some (.ref f)) (c_told_loops : Cal P w K mg base T 1 "told_loops" ["rules"] spToldLoops) : Cal P w K mg base T 2 "open_ways" ["rules", "first", "last"] spOpen := by
  have sc := sc_open_ways
  refine cal_of F sc gm (fun _ _ _ _ _ _ us hl => match us, hl with | [_, _, _], _ => rfl) (fun ds P hF => ?_) fun cdv A outer s H vs Q E hr => ?_
  · obtain ⟨_, _, _, rfl, _⟩ := hF; rfl
  · have hu := hu64 hr
    have hu1 := hu_of hr
    obtain ⟨tkM, hM⟩ := t.MOST
    refine ⟨_, PSs.nox (pss_cons (ps_if (pt_cmpR op_gt (pv 1) (pv 2) (nomark _)) (pss_one (ps_ret (pe_lst (pa_cons (pe_tup (pa_cons pe_int (pa_cons (pe_lst pa_nil) pa_nil))) pa_nil)))) pss_nil) (pss_cons (ps_set (i := 3) sc.nd rfl (.inl rfl) (pe_dget hu1 (pe_cal c_told_loops hr (by decide) (by rfl) (pa_cons (pv 0) pa_nil)) pe_str (fun _ _ => rfl))) (pss_cons (ps_set (i := 4) sc.nd rfl (.inl rfl) (pe_lst (pa_cons (pe_tup (pa_cons pe_int (pa_cons (pe_lst (pa_cons (pe_tup (pa_cons pe_str (pa_cons (pe_op op_add (pv 1) pe_int) (pa_cons (pv 2) pa_nil)))) pa_nil)) pa_nil))) pa_nil))) (pss_cons (ps_for PassesOwn.never rfl (pi_range2 (by rfl) t.range (pa_cons (pe_op op_add (pv 1) pe_int) (pa_cons (pe_op op_add (pv 2) pe_int) pa_nil))) (pg_name (i := 5) sc.nd rfl (.inl rfl)) (pss_one (ps_expr (k_bm K PySem.F.plainAttrs_list PySem.F.slot_list_append PySem.F.type_list_append mt_append (pv 4) (pa_cons (pe_tup (pa_cons (pv 3) (pa_cons (pe_lst (pa_cons (pe_tup (pa_cons pe_str (pa_cons (pv 1) (pa_cons (pv 5) pa_nil)))) (pa_cons (pe_tup (pa_cons pe_str (pa_cons (pe_op op_add (pv 5) pe_int) (pa_cons (pv 2) pa_nil)))) pa_nil))) pa_nil))) pa_nil))))) (pss_one (ps_ret (pv 4))))))), fun ds P hF => ?_⟩
    obtain ⟨b, f, l, rfl, ⟨hb, hs⟩, hP⟩ := hF
    obtain ⟨h1, h2, h3, h4⟩ := hs
    refine sv_seq (sv_if (b := decide (l < f)) (et_test (ev_op ev_v ev_v od_b)) (fun h => ?_) (fun h => sv_next ?_))
    · refine sv_ret (ev_ls (ea_cons (ev_tp (ea_cons ev_int (ea_cons (ev_ls ea_nil) ea_nil))) ea_nil)) ?_
      unfold encWs openW at hP
      rw [if_pos (of_decide_eq_true h)] at hP
      exact hP
    · have hn := of_decide_eq_false h
      unfold encWs openW at hP
      rw [if_neg hn, List.map_cons, List.map_map] at hP
      refine sv_seq (sv_as (ev_get (k := .inr "open") (ev_call (ea_cons ev_v ea_nil) ⟨b, rfl, hb, rfl⟩) ev_str (told_at hb 8 (by decide))) ?_)
      refine sv_seq (sv_newLn (ea_cons (ev_tp (ea_cons ev_int (ea_cons (ev_ls (ea_cons (ev_tp (ea_cons ev_str (ea_cons (ev_op ev_v ev_int od_i) (ea_cons ev_v ea_nil)))) ea_nil)) ea_nil))) ea_nil) ?_)
      have hz := len_flat (fun e => [encW (cost b 8, [k3 "shut" f e, k3 "open" (e + 1) l])]) 1 (rng (f + 1) (l + 1)) fun _ _ => by simp
      rw [len_rng] at hz
      refine sv_seq (sv_forAcc (is := [5]) (rng (f + 1) (l + 1)) .int (fun e => [encW (cost b 8, [k3 "shut" f e, k3 "open" (e + 1) l])]) [.dat (encB b), .dat (.int f), .dat (.int l), .dat (.int (cost b 8)), .any, .any] 4 [encW (0, [k3 "open" (f + 1) l])] 1000
        (ei_r2 (ea_cons (ev_op ev_v ev_int od_i) (ea_cons (ev_op ev_v ev_int od_i) ea_nil)) (by omega)) (.same (.same (.same (.same (.same (.any .nil)))))) (by rw [List.length_singleton]; omega) (fun e as he hl => ⟨_, eg_n, ?_⟩) ?_)
      · have hl' : as.length + 1 ≤ 1000 := hl
        exact sv_append rfl (ev_tp (ea_cons ev_v (ea_cons (ev_ls (ea_cons (ev_tp (ea_cons ev_str (ea_cons ev_v (ea_cons ev_v ea_nil)))) (ea_cons (ev_tp (ea_cons ev_str (ea_cons (ev_op ev_v ev_int od_i) (ea_cons ev_v ea_nil)))) ea_nil))) ea_nil))) (lt16 (by omega)) (.same (.same (.same (.same (.same (.any .nil))))))
      · refine sv_froze (i := 4) rfl (sv_ret ev_v ?_)
        rw [← List.map_eq_flatMap]
        exact hP
end
end Pf
set_option Elab.async false
set_option linter.all false
set_option maxRecDepth 100000
set_option maxHeartbeats 4000000
namespace Pf
open PySem PySem.Spec L2
open PyProof.Rows PySem.Calls
section
variable {P : Program} {w : World} {K : PySem.W.Frag} {mg : Str → Option Value} {base : Heap} {T : Tb} {L : Addr}
theorem sc_within_ways : FnScope (["rules", "string", "first", "last", "told", "found", "start", "end", "free", "own"] : List Str) (["rules", "string", "first", "last"] : List Str) (defScope (topS 16)) := ⟨rfl, rfl, rfl, by decide +kernel, rfl, by decide +kernel, by decide +kernel⟩
theorem ok_within_ways {f : Addr} {fd : FuncData} (t : Tx K mg L) (F : FnP K "within_ways" 16 f fd) (gm : mg "within_ways" = some (.ref f)) (c_told_loops : Cal P w K mg base T 1 "told_loops" ["rules"] spToldLoops) (c_stack_worth : Cal P w K mg base T 1 "stack_worth" ["rules", "outer", "within"] spStackWorth) : Cal P w K mg base T 2 "within_ways" ["rules", "string", "first", "last"] spWithin := by
  have sc := sc_within_ways
  refine cal_of F sc gm (fun _ _ _ _ _ _ us hl => match us, hl with | [_, _, _, _], _ => rfl) (fun ds P hF => ?_) fun cdv A outer s H vs Q E hr => ?_
  · obtain ⟨_, _, _, _, rfl, _⟩ := hF; rfl
  · have hu := hu64 hr
    have hu1 := hu_of hr
    obtain ⟨tkM, hM⟩ := t.MOST
    refine ⟨_, PSs.nox (pss_cons (ps_set (i := 4) sc.nd rfl (.inl rfl) (pe_cal c_told_loops hr (by decide) (by rfl) (pa_cons (pv 0) pa_nil))) (pss_cons (ps_set (i := 5) sc.nd rfl (.inl rfl) (pe_lst pa_nil)) (pss_cons (ps_for PassesOwn.never rfl (pi_range2 (by rfl) t.range (pa_cons (pe_op op_add (pv 2) pe_int) (pa_cons (pe_op op_sub (pv 3) pe_int) pa_nil))) (pg_name (i := 6) sc.nd rfl (.inl rfl)) (pss_one (ps_for PassesOwn.never rfl (pi_range2 (by rfl) t.range (pa_cons (pe_op op_add (pv 6) pe_int) (pa_cons (pv 3) pa_nil))) (pg_name (i := 7) sc.nd rfl (.inl rfl)) (pss_cons (ps_set (i := 8) sc.nd rfl (.inl rfl) (pe_op op_sub (pe_op op_sub (pe_op op_add (pe_op op_sub (pe_op op_sub (pv 6) (pv 2)) pe_int) (pv 3)) (pv 7)) pe_int)) (pss_cons (ps_set (i := 9) sc.nd rfl (.inl rfl) (pe_op op_add (pe_dget hu1 (pv 4) pe_str (fun _ _ => rfl)) (pe_op op_mul (pv 8) (pe_dget hu1 (pv 4) pe_str (fun _ _ => rfl))))) (pss_cons (ps_if (pt_cmpR op_eq (pv 8) pe_int (nomark _)) (pss_one (ps_set (i := 9) sc.nd rfl (.inl rfl) (pe_op op_add (pe_dget hu1 (pv 4) pe_str (fun _ _ => rfl)) (pe_cal c_stack_worth hr (by decide) (by rfl) (pa_cons (pv 0) (pa_cons (pe_op op_add_str (pe_ix ix_str (pv 1) (pv 2) (fun _ _ => rfl)) (pe_ix ix_str (pv 1) (pv 3) (fun _ _ => rfl))) (pa_cons (pe_op op_add_str (pe_ix ix_str (pv 1) (pv 6) (fun _ _ => rfl)) (pe_ix ix_str (pv 1) (pv 7) (fun _ _ => rfl))) pa_nil))))))) pss_nil) (pss_one (ps_expr (k_bm K PySem.F.plainAttrs_list PySem.F.slot_list_append PySem.F.type_list_append mt_append (pv 5) (pa_cons (pe_tup (pa_cons (pv 9) (pa_cons (pe_lst (pa_cons (pe_tup (pa_cons pe_str (pa_cons (pv 6) (pa_cons (pv 7) pa_nil)))) pa_nil)) pa_nil))) pa_nil)))))))))) (pss_one (ps_ret (pv 5)))))), fun ds P hF => ?_⟩
    obtain ⟨b, s, f, l, rfl, ⟨hb, hi⟩, hP⟩ := hF
    obtain ⟨h12, hok, hf0, hfl, hln⟩ := hi
    refine sv_seq (sv_as (ev_call (ea_cons ev_v ea_nil) ⟨b, rfl, hb, rfl⟩) ?_)
    refine sv_seq (sv_newLn (ds := []) ea_nil ?_)
    have hin : ∀ st ∈ rng (f + 1) (l - 1), ((rng (st + 1) l).flatMap fun en => [encW (if st - f - 1 + l - en - 1 = 0 then cost b 0 + sw b (both s f l) (both s st en) else cost b 1 + (st - f - 1 + l - en - 1) * cost b 2, [k3 "shut" st en])]).length ≤ 12 := fun st hst => by
      have h1 := mem_rng.mp hst
      have h2 := len_flat (fun en => [encW (if st - f - 1 + l - en - 1 = 0 then cost b 0 + sw b (both s f l) (both s st en) else cost b 1 + (st - f - 1 + l - en - 1) * cost b 2, [k3 "shut" st en])]) 1 (rng (st + 1) l) fun _ _ => by simp
      rw [len_rng] at h2
      omega
    have hz := len_flat _ 12 (rng (f + 1) (l - 1)) hin
    rw [len_rng] at hz
    refine sv_seq (sv_forAcc (is := [6]) (rng (f + 1) (l - 1)) .int (fun st => (rng (st + 1) l).flatMap fun en => [encW (if st - f - 1 + l - en - 1 = 0 then cost b 0 + sw b (both s f l) (both s st en) else cost b 1 + (st - f - 1 + l - en - 1) * cost b 2, [k3 "shut" st en])])
      [.dat (encB b), .dat (.str s), .dat (.int f), .dat (.int l), .dat (toldD b), .any, .any, .any, .any, .any] 5 [] 1000
      (ei_r2 (ea_cons (ev_op ev_v ev_int od_i) (ea_cons (ev_op ev_v ev_int od_i) ea_nil)) (by omega)) (.same (.same (.same (.same (.same (.same (.any (.any (.any (.any .nil)))))))))) (by rw [List.length_nil]; omega) (fun st as hst hl => ⟨_, eg_n, ?_⟩) ?_)
    · have hst' := mem_rng.mp hst
      refine sv_forAcc (is := [7]) (rng (st + 1) l) .int (fun en => [encW (if st - f - 1 + l - en - 1 = 0 then cost b 0 + sw b (both s f l) (both s st en) else cost b 1 + (st - f - 1 + l - en - 1) * cost b 2, [k3 "shut" st en])])
        [.dat (encB b), .dat (.str s), .dat (.int f), .dat (.int l), .dat (toldD b), .any, .dat (.int st), .any, .any, .any] 5 as 1000 (ei_r2 (ea_cons (ev_op ev_v ev_int od_i) (ea_cons ev_v ea_nil)) (by omega)) (.same (.same (.same (.same (.same (.same (.same (.any (.any (.any .nil)))))))))) hl (fun en bs hen hl' => ⟨_, eg_n, ?_⟩) (.same (.same (.same (.same (.same (.same (.any (.any (.any (.any .nil))))))))))
      have hen' := mem_rng.mp hen
      have hl2 : bs.length + 1 ≤ 1000 := hl'
      refine sv_seq (sv_as (ev_op (ev_op (ev_op (ev_op (ev_op ev_v ev_v od_i) ev_int od_i) ev_v od_i) ev_v od_i) ev_int od_i) ?_)
      refine sv_seq (sv_as (ev_op (ev_get (k := .inr "inner") ev_v ev_str (told_at hb 1 (by decide))) (ev_op ev_v (ev_get (k := .inr "inner free") ev_v ev_str (told_at hb 2 (by decide))) (od_iC (.inl (by omega)))) od_i) ?_)
      refine sv_seq (sv_if (b := decide (st - f - 1 + l - en - 1 = 0)) (et_test (ev_op ev_v ev_int (od_eq rfl))) (fun h => ?_) (fun h => sv_next ?_))
      · refine sv_as (ev_op (ev_get (k := .inr "stacked") ev_v ev_str (told_at hb 0 (by decide))) (ev_call (ea_cons ev_v (ea_cons (ev_op (ev_op ev_v ev_v (od_ixS (le16 (by omega)) (ch_at hf0 (by omega)))) (ev_op ev_v ev_v (od_ixS (le16 (by omega)) (ch_at (by omega) hln))) (od_str (ble16 rfl)))
          (ea_cons (ev_op (ev_op ev_v ev_v (od_ixS (le16 (by omega)) (ch_at (by omega) (by omega)))) (ev_op ev_v ev_v (od_ixS (le16 (by omega)) (ch_at (by omega) (by omega)))) (od_str (ble16 rfl))) ea_nil))) ⟨b, both s f l, both s st en, rfl, ⟨hb, hok.both f l, hok.both st en⟩, rfl⟩) od_i) ?_
        rw [if_pos (of_decide_eq_true h)]
        exact sv_append rfl (ev_tp (ea_cons ev_v (ea_cons (ev_ls (ea_cons (ev_tp (ea_cons ev_str (ea_cons ev_v (ea_cons ev_v ea_nil)))) ea_nil)) ea_nil))) (lt16 (by omega)) (.same (.same (.same (.same (.same (.same (.same (.any (.any (.any .nil))))))))))
      · rw [if_neg (of_decide_eq_false h)]
        exact sv_append rfl (ev_tp (ea_cons ev_v (ea_cons (ev_ls (ea_cons (ev_tp (ea_cons ev_str (ea_cons ev_v (ea_cons ev_v ea_nil)))) ea_nil)) ea_nil))) (lt16 (by omega)) (.same (.same (.same (.same (.same (.same (.same (.any (.any (.any .nil))))))))))
    · refine sv_froze (i := 5) rfl (sv_ret ev_v ?_)
      unfold encWs within at hP
      rw [List.map_flatMap] at hP
      simp only [List.map_map] at hP
      rw [List.nil_append]
      simp only [← List.map_eq_flatMap]
      exact hP
theorem sc_shut_ways : FnScope (["rules", "string", "first", "last", "told", "found", "worth", "own", "keys"] : List Str) (["rules", "string", "first", "last"] : List Str) (defScope (topS 17)) := ⟨rfl, rfl, rfl, by decide +kernel, rfl, by decide +kernel, by decide +kernel⟩
theorem ok_shut_ways {f : Addr} {fd : FuncData} (t : Tx K mg L) (F : FnP K "shut_ways" 17 f fd) (gm : mg "shut_ways" = some (.ref f)) (c_told_loops : Cal P w K mg base T 1 "told_loops" ["rules"] spToldLoops) (c_may_pair : Cal P w K mg base T 2 "may_pair" ["rules", "string", "i", "j"] spMayPair) (c_within_ways : Cal P w K mg base T 2 "within_ways" ["rules", "string", "first", "last"] spWithin) (c_pair_worth : Cal P w K mg base T 1 "pair_worth" ["rules", "both"] spPairWorth) : Cal P w K mg base T 3 "shut_ways" ["rules", "string", "first", "last"] spShut := by
  have sc := sc_shut_ways
  refine cal_of F sc gm (fun _ _ _ _ _ _ us hl => match us, hl with | [_, _, _, _], _ => rfl) (fun ds P hF => ?_) fun cdv A outer s H vs Q E hr => ?_
  · obtain ⟨_, _, _, _, rfl, _⟩ := hF; rfl
  · have hu := hu64 hr
    have hu1 := hu_of hr
    obtain ⟨tkM, hM⟩ := t.MOST
    refine ⟨_, PSs.nox (pss_cons (ps_if (pt_not (pt_val (pe_cal c_may_pair hr (by decide) (by rfl) (pa_cons (pv 0) (pa_cons (pv 1) (pa_cons (pv 2) (pa_cons (pv 3) pa_nil))))))) (pss_one (ps_ret (pe_lst pa_nil))) pss_nil) (pss_cons (ps_set (i := 4) sc.nd rfl (.inl rfl) (pe_cal c_told_loops hr (by decide) (by rfl) (pa_cons (pv 0) pa_nil))) (pss_cons (ps_set (i := 5) sc.nd rfl (.inl rfl) (pe_lst (pa_cons (pe_tup (pa_cons (pe_op op_add (pe_dget hu1 (pv 4) pe_str (fun _ _ => rfl)) (pe_op op_mul (pe_op op_sub (pe_op op_sub (pv 3) (pv 2)) pe_int) (pe_dget hu1 (pv 4) pe_str (fun _ _ => rfl)))) (pa_cons (pe_lst pa_nil) pa_nil))) pa_nil))) (pss_cons (ps_expr (k_bm K PySem.F.plainAttrs_list PySem.F.slot_list_extend PySem.F.type_list_extend mt_extend (pv 5) (pa_cons (pe_cal c_within_ways hr (by decide) (by rfl) (pa_cons (pv 0) (pa_cons (pv 1) (pa_cons (pv 2) (pa_cons (pv 3) pa_nil))))) pa_nil))) (pss_cons (ps_expr (k_bm K PySem.F.plainAttrs_list PySem.F.slot_list_append PySem.F.type_list_append mt_append (pv 5) (pa_cons (pe_tup (pa_cons (pe_dget hu1 (pv 4) pe_str (fun _ _ => rfl)) (pa_cons (pe_lst (pa_cons (pe_tup (pa_cons pe_str (pa_cons (pe_op op_add (pv 2) pe_int) (pa_cons (pe_op op_sub (pv 3) pe_int) pa_nil)))) pa_nil)) pa_nil))) pa_nil))) (pss_cons (ps_set (i := 6) sc.nd rfl (.inr rfl) (pe_cal c_pair_worth hr (by decide) (by rfl) (pa_cons (pv 0) (pa_cons (pe_op op_add_str (pe_ix ix_str (pv 1) (pv 2) (fun _ _ => rfl)) (pe_ix ix_str (pv 1) (pv 3) (fun _ _ => rfl))) pa_nil)))) (pss_one (ps_ret (pe_lc (own := [("own", 7), ("keys", 8)]) rfl sc.nd (k_pi_list K (pv 5)) (blkOk_by (own := [("own", 7), ("keys", 8)]) (N := (["rules", "string", "first", "last", "told", "found", "worth", "own", "keys"] : List Str)) (sc := defScope (topS 17)) (by decide +kernel)) (fun _ _ _ _ _ => (k_pg_tup K (n := 2) rfl (pgs_cons (pg_name (i := 7) sc.nd rfl (.inl rfl)) (pgs_cons (pg_name (i := 8) sc.nd rfl (.inl rfl)) pgs_nil)))) (fun _ _ _ _ _ => pts_nil) (fun _ _ _ _ _ => (pe_tup (pa_cons (pe_op op_add (pv 6) (pv 7)) (pa_cons (pv 8) pa_nil))))))))))))), fun ds P hF => ?_⟩
    obtain ⟨b, s, f, l, rfl, ⟨hb, hi⟩, hP⟩ := hF
    have hi' := hi
    obtain ⟨h12, hok, hf0, hfl, hln⟩ := hi'
    unfold encWs shutW at hP
    refine sv_seq (sv_if (b := !mp b s f l) (et_not (et_B (ev_call (ea_cons ev_v (ea_cons ev_v (ea_cons ev_v (ea_cons ev_v ea_nil)))) ⟨b, s, f, l, rfl, ⟨by omega, hf0, by omega, by omega, hln⟩, rfl⟩))) (fun h => ?_) (fun h => sv_next ?_))
    · have hm : mp b s f l = false := by simpa using h
      rw [hm, if_neg Bool.false_ne_true] at hP
      exact sv_ret (ev_ls ea_nil) hP
    · have hm : mp b s f l = true := by simpa using h
      rw [hm, if_pos rfl, List.map_map] at hP
      obtain ⟨x, hx⟩ : ∃ x, pw b (both s f l) = some x := by
        unfold mp at hm
        rw [Bool.and_eq_true] at hm
        exact Option.isSome_iff_exists.mp hm.2
      rw [hx] at hP
      have hwl : (within b s f l).length ≤ 144 := by
        unfold within
        have := len_flat (fun st => (rng (st + 1) l).map fun en => (if st - f - 1 + l - en - 1 = 0 then cost b 0 + sw b (both s f l) (both s st en) else cost b 1 + (st - f - 1 + l - en - 1) * cost b 2, [k3 "shut" st en])) 12 (rng (f + 1) (l - 1)) fun st hst => by
          have := mem_rng.mp hst
          rw [List.length_map, len_rng]; omega
        rw [len_rng] at this
        omega
      refine sv_seq (sv_as (ev_call (ea_cons ev_v ea_nil) ⟨b, rfl, hb, rfl⟩) ?_)
      refine sv_seq (sv_newLn (ea_cons (ev_tp (ea_cons (ev_op (ev_get (k := .inr "lone") ev_v ev_str (told_at hb 6 (by decide))) (ev_op (ev_op (ev_op ev_v ev_v od_i) ev_int od_i) (ev_get (k := .inr "lone free") ev_v ev_str (told_at hb 7 (by decide))) (od_iC (.inl (by omega)))) od_i) (ea_cons (ev_ls ea_nil) ea_nil))) ea_nil) ?_)
      refine sv_seq (sv_extend (ds := [encW (cost b 6 + (l - f - 1) * cost b 7, [])]) (es := (within b s f l).map encW) rfl (ev_call (ea_cons ev_v (ea_cons ev_v (ea_cons ev_v (ea_cons ev_v ea_nil)))) ⟨b, s, f, l, rfl, ⟨hb, hi⟩, rfl⟩) (by rw [List.length_map, List.length_singleton]; exact le16 (by omega)) ?_)
      refine sv_seq (sv_append (ds := [encW (cost b 6 + (l - f - 1) * cost b 7, [])] ++ (within b s f l).map encW) (d := encW (cost b 3, [k3 "two" (f + 1) (l - 1)])) rfl (ev_tp (ea_cons (ev_get (k := .inr "forked") ev_v ev_str (told_at hb 3 (by decide))) (ea_cons (ev_ls (ea_cons (ev_tp (ea_cons ev_str (ea_cons (ev_op ev_v ev_int od_i) (ea_cons (ev_op ev_v ev_int od_i) ea_nil)))) ea_nil)) ea_nil))) (by rw [List.length_append, List.length_map, List.length_singleton]; exact lt16 (by omega)) ?_)
      refine sv_seq (sv_as (d := .int x) (Ev.to (ev_call (d := optD (pw b (both s f l))) (ea_cons ev_v (ea_cons (ev_op (ev_op ev_v ev_v (od_ixS (le16 (by omega)) (ch_at hf0 (by omega)))) (ev_op ev_v ev_v (od_ixS (le16 (by omega)) (ch_at (by omega) hln))) (od_str (ble16 rfl))) ea_nil)) ⟨b, both s f l, rfl, rfl⟩) (by rw [hx]; rfl)) ?_)
      refine sv_froze (i := 5) rfl (sv_ret (ev_lcM (is := [7, 8]) (((cost b 6 + (l - f - 1) * cost b 7, []) :: within b s f l) ++ [(cost b 3, [k3 "two" (f + 1) (l - 1)])]) encW (encW ∘ fun u => ((some x).getD 0 + u.1, u.2)) (by decide) (ei_list (Ev.to ev_v (by rw [List.map_append, List.map_cons]; rfl))) (by rw [List.length_append, List.length_cons, List.length_singleton]; exact le16 (by omega)) fun u _ => ⟨_, eg_tup (egs_cons eg_n (egs_cons eg_n egs_nil)) rfl, ev_tp (ea_cons (ev_op ev_v ev_v od_i) (ea_cons ev_v ea_nil))⟩) hP)
theorem sc_ways_of : FnScope (["rules", "string", "key", "kind", "first", "last"] : List Str) (["rules", "string", "key"] : List Str) (defScope (topS 21)) := ⟨rfl, rfl, rfl, by decide +kernel, rfl, by decide +kernel, by decide +kernel⟩
theorem ok_ways_of {f : Addr} {fd : FuncData} (t : Tx K mg L) (F : FnP K "ways_of" 21 f fd) (gm : mg "ways_of_bounds" = some (.ref f)) (c_shut_ways : Cal P w K mg base T 3 "shut_ways" ["rules", "string", "first", "last"] spShut) (c_one_ways : Cal P w K mg base T 2 "one_ways" ["rules", "first", "last"] spOne) (c_two_ways : Cal P w K mg base T 2 "two_ways" ["rules", "first", "last"] spTwo) (c_open_ways : Cal P w K mg base T 2 "open_ways" ["rules", "first", "last"] spOpen) : Cal P w K mg base T 4 "ways_of_bounds" ["rules", "string", "key"] spWaysOf := by
  have sc := sc_ways_of
  refine cal_of F sc gm (fun _ _ _ _ _ _ us hl => match us, hl with | [_, _, _], _ => rfl) (fun ds P hF => ?_) fun cdv A outer s H vs Q E hr => ?_
  · obtain ⟨_, _, _, rfl, _⟩ := hF; rfl
  · have hu := hu64 hr
    have hu1 := hu_of hr
    obtain ⟨tkM, hM⟩ := t.MOST
    refine ⟨_, PSs.nox (pss_cons (ps_asg (pv 2) (k_pg_tup K (n := 3) rfl (pgs_cons (pg_name (i := 3) sc.nd rfl (.inl rfl)) (pgs_cons (pg_name (i := 4) sc.nd rfl (.inl rfl)) (pgs_cons (pg_name (i := 5) sc.nd rfl (.inl rfl)) pgs_nil))))) (pss_cons (ps_if (pt_cmpR op_eq (pv 3) pe_str (nomark _)) (pss_one (ps_ret (pe_cal c_shut_ways hr (by decide) (by rfl) (pa_cons (pv 0) (pa_cons (pv 1) (pa_cons (pv 4) (pa_cons (pv 5) pa_nil))))))) pss_nil) (pss_cons (ps_if (pt_cmpR op_eq (pv 3) pe_str (nomark _)) (pss_one (ps_ret (pe_cal c_one_ways hr (by decide) (by rfl) (pa_cons (pv 0) (pa_cons (pv 4) (pa_cons (pv 5) pa_nil)))))) pss_nil) (pss_one (ps_ret (pe_ifExp (pt_cmpR op_eq (pv 3) pe_str (nomark _)) (pe_cal c_two_ways hr (by decide) (by rfl) (pa_cons (pv 0) (pa_cons (pv 4) (pa_cons (pv 5) pa_nil)))) (pe_cal c_open_ways hr (by decide) (by rfl) (pa_cons (pv 0) (pa_cons (pv 4) (pa_cons (pv 5) pa_nil)))))))))), fun ds P hF => ?_⟩
    obtain ⟨b, s, k, rfl, ⟨hb, hk⟩, hP⟩ := hF
    obtain ⟨kd, f, l⟩ := k
    obtain ⟨hsm, hsh⟩ := hk
    unfold waysOf at hP
    refine sv_seq (sv_asgG ev_v (eg_tup (egs_cons eg_n (egs_cons eg_n (egs_cons eg_n egs_nil))) rfl) ?_)
    refine sv_seq (sv_if (b := decide (kd = "shut")) (et_test (ev_op ev_v ev_str (od_eq rfl))) (fun h => ?_) (fun h => sv_next ?_))
    · have e := of_decide_eq_true h
      rw [if_pos e] at hP
      exact sv_ret (ev_call (ea_cons ev_v (ea_cons ev_v (ea_cons ev_v (ea_cons ev_v ea_nil)))) ⟨b, s, f, l, rfl, ⟨hb, hsh e⟩, rfl⟩) hP
    · rw [if_neg (of_decide_eq_false h)] at hP
      refine sv_seq (sv_if (b := decide (kd = "one")) (et_test (ev_op ev_v ev_str (od_eq rfl))) (fun h => ?_) (fun h => sv_next ?_))
      · rw [if_pos (of_decide_eq_true h)] at hP
        exact sv_ret (ev_call (ea_cons ev_v (ea_cons ev_v (ea_cons ev_v ea_nil))) ⟨b, f, l, rfl, ⟨hb, hsm⟩, rfl⟩) hP
      · rw [if_neg (of_decide_eq_false h)] at hP
        refine sv_ret (ev_if (b := decide (kd = "two")) (et_test (ev_op ev_v ev_str (od_eq rfl))) (fun h => ?_) (fun h => ?_)) hP
        · rw [if_pos (of_decide_eq_true h)]
          exact ev_call (ea_cons ev_v (ea_cons ev_v (ea_cons ev_v ea_nil))) ⟨b, f, l, rfl, ⟨hb, hsm⟩, rfl⟩
        · rw [if_neg (of_decide_eq_false h)]
          exact ev_call (ea_cons ev_v (ea_cons ev_v (ea_cons ev_v ea_nil))) ⟨b, f, l, rfl, ⟨hb, hsm⟩, rfl⟩
end
end Pf
set_option Elab.async false
set_option linter.all false
set_option maxRecDepth 100000
set_option maxHeartbeats 4000000
namespace Pf
open PySem PySem.Spec L2
open PyProof.Rows PySem.Calls
def kq : KPos := ⟨⟨96, 44, 96, 47⟩, ⟨96, 48, 96, 49⟩, ⟨96, 44, 96, 50⟩, ⟨96, 43, 96, 50⟩, ⟨96, 52, 96, 55⟩, ⟨96, 56, 96, 57⟩, ⟨96, 52, 96, 58⟩, ⟨96, 60, 96, 65⟩, ⟨96, 60, 96, 71⟩, ⟨96, 72, 96, 75⟩, ⟨96, 76, 96, 77⟩, ⟨96, 72, 96, 78⟩, ⟨96, 60, 96, 79⟩, ⟨96, 42, 96, 80⟩, rfl⟩
section
variable {P : Program} {w : World} {K : PySem.W.Frag} {mg : Str → Option Value} {base : Heap} {T : Tb} {L : Addr}
def lamName : Str := "filling_order.<locals>.<lambda>"
theorem sc_filling_order : FnScope (["many", "inner", "sorts", "key", "at"] : List Str) (["many"] : List Str) (defScope (topS 26)) := ⟨rfl, rfl, rfl, by decide +kernel, rfl, by decide +kernel, by decide +kernel⟩
theorem ok_filling_order {f : Addr} {fd : FuncData} {c Pt : Addr} (t : Tx K mg L) (F : FnP K "filling_order" 26 f fd) (gm : mg "filling_order" = some (.ref f)) (hfd : fd.code = .ref c) (TB : LamX.TabB base mg c Pt) (hT : T = [(Pt, lamName)]) (c_row_keys : Cal P w K mg base T 1 "row_keys" ["many"] spRowKeys) :
    Cal P w K mg base T 2 "filling_order" ["many"] spFilling := by
  have sc := sc_filling_order
  obtain ⟨oc, od, dV, kV, doc, pm, an, cdv, ct, osl, rfl, lk, hcd, _, _⟩ := id F.ex
  have hcdv : cdv = .ref c := hfd
  refine ⟨f, _, gm, F.kp, F.bindsN (fun _ _ _ _ _ _ us hl => match us, hl with | [_], _ => rfl), fn_of lk hcd sc (fun vs H Q E h => len_of (n := 1) h fun ds P hF => by obtain ⟨_, rfl, _⟩ := hF; rfl) fun A outer s H vs Q E hr h => ?_⟩
  have hu := hu64 hr
  have hu1 := hu_of hr
  have hdep : (A.deeper (envOfC "filling_order" (defScope (topS 26)) s.heap.objs.size f cdv)).in1.in1.depth < recursionLimit := by
    have := hr.dp
    show (A.deeper (envOfC "filling_order" (defScope (topS 26)) s.heap.objs.size f cdv)).depth < recursionLimit
    omega
  have hTm : (Pt, (cxOf CX0 P w K mg base ["many", "inner", "sorts", "key", "at"] "filling_order" (defScope (topS 26)) f cdv A outer s H E).nox.env.qual ++ "<lambda>") ∈ T := by rw [hT]; exact List.mem_singleton.mpr rfl
  have hTu : ∀ p ∈ T, p.1 = Pt → p.2 = (cxOf CX0 P w K mg base ["many", "inner", "sorts", "key", "at"] "filling_order" (defScope (topS 26)) f cdv A outer s H E).nox.env.qual ++ "<lambda>" := by
    rw [hT]
    intro p hp _
    rw [List.mem_singleton.mp hp]
    rfl
  have hcode : (cxOf CX0 P w K mg base ["many", "inner", "sorts", "key", "at"] "filling_order" (defScope (topS 26)) f cdv A outer s H E).nox.env.code = .ref c := hcdv
  refine ⟨_, PSs.nox (pss_cons (ps_setLc (i := 1) (own := [("key", 3)]) rfl sc.nd rfl rfl (sw_true rfl rfl rfl (by decide +kernel)) (k_pi_list K (pe_cal c_row_keys hr (by decide) (by rfl) (pa_cons (pv 0) pa_nil))) (blkOk_by (own := [("key", 3)]) (N := (["many", "inner", "sorts", "key", "at"] : List Str)) (sc := defScope (topS 26)) (by decide +kernel)) (fun _ _ _ _ _ => (pg_name (i := 3) sc.nd rfl (.inl rfl))) (fun _ _ _ _ _ => (pts_one (pt_cmpR op_ne (pe_ix (k_ix_tup K) (pv 3) pe_int (fun _ _ => rfl)) pe_str (nomark _)))) (fun _ _ _ _ _ => (pv 3))) (pss_cons (ps_set (i := 2) sc.nd rfl (.inr rfl) (pe_tupFs (pa_cons pe_str (pa_cons pe_str (pa_cons pe_str pa_nil))))) (pss_cons (ps_set (i := 1) sc.nd rfl (.inl rfl) (pe_sortLam (ci := 2) (c := c) (P := Pt) (T := T) (a1 := ⟨96, 37, 96, 40⟩) (q := kq) hu hdep (by rfl) t.sorted (pv 1) TB hcode hTm hTu rfl rfl)) (pss_one (ps_ret (pe_op op_cat (pv 1) (pe_lc (own := [("at", 4)]) rfl sc.nd (pi_range3 (by rfl) t.range (pa_cons (pv 0) (pa_cons (pe_un un_neg pe_int) (pa_cons (pe_un un_neg pe_int) pa_nil)))) (blkOk_by (own := [("at", 4)]) (N := (["many", "inner", "sorts", "key", "at"] : List Str)) (sc := defScope (topS 26)) (by decide +kernel)) (fun _ _ _ _ _ => (pg_name (i := 4) sc.nd rfl (.inl rfl))) (fun _ _ _ _ _ => pts_nil) (fun _ _ _ _ _ => (pe_tup (pa_cons pe_str (pa_cons (pv 4) (pa_cons (pe_op op_sub (pv 0) pe_int) pa_nil)))))))))))), body_of h fun ds P hF => ?_⟩
  obtain ⟨n, rfl, ⟨hn0, hn⟩, hP⟩ := hF
  have hlr : (rowKs n).length ≤ 500 := by rw [(rowKs_perm n).length_eq]; exact len_rowBase hn0 hn
  refine sv_seq (sv_as (ev_lcF (is := [3]) (rowKs n) keyT (fun (k : K3) => !decide (k.1 = ("open" : Str))) keyT (by decide) (ei_list (ev_call (ea_cons ev_v ea_nil) ⟨n, rfl, ⟨hn0, hn⟩, rfl⟩)) (le16 (by omega)) fun k _ => ⟨_, eg_n, et_test (ev_op (ev_op ev_v ev_int (od_ixT rfl)) ev_str (od_ne rfl)), fun _ => ev_v⟩) ?_)
  refine sv_seq (sv_as (ev_tupFs (ss := sorts3) (ea_cons ev_str (ea_cons ev_str (ea_cons ev_str ea_nil))) (ble16 rfl)) ?_)
  refine sv_seq (sv_as (ev_sortLam ev_v rfl fun k hk => ?_) ?_)
  · obtain ⟨h1, h2⟩ := List.mem_filter.mp hk
    have h3 := (rowKs_perm n).mem_iff.mp h1
    have h4 : k.1 ≠ ("open" : Str) := by simpa using h2
    unfold rowBase at h3
    rcases List.mem_append.mp h3 with h3 | h3
    · obtain ⟨a, _, rfl⟩ := List.mem_map.mp h3
      exact absurd rfl h4
    · obtain ⟨a, _, h3⟩ := List.mem_flatMap.mp h3
      obtain ⟨b, _, h3⟩ := List.mem_flatMap.mp h3
      rcases List.mem_append.mp h3 with h3 | h3
      · rcases List.mem_cons.mp h3 with rfl | h3
        · show ("one" : Str) ∈ sorts3
          decide
        · rw [List.mem_singleton.mp h3]
          show ("two" : Str) ∈ sorts3
          decide
      · split at h3
        · rw [List.mem_singleton.mp h3]
          show ("shut" : Str) ∈ sorts3
          decide
        · cases h3
  refine sv_ret (Ev.to (ev_op ev_v (ev_lcM (is := [4]) (downs n) .int (fun a => keyT (k3 "open" a (n - 1))) (by decide) (ei_rd (ea_cons ev_v (ea_cons (ev_un ev_int ud_i) (ea_cons (ev_un ev_int ud_i) ea_nil))) (by omega)) (le16 (by have := len_downs hn0 hn; omega)) fun a _ => ⟨_, eg_n, ev_tp (ea_cons ev_str (ea_cons ev_v (ea_cons (ev_op ev_v ev_int od_i) ea_nil)))⟩) (od_cat ?_)) ?_) hP
  · rw [List.length_map, List.length_map, List.length_mergeSort]
    have h1 := List.length_filter_le (fun (k : K3) => !decide (k.1 = ("open" : Str))) (rowKs n)
    have h2 := len_downs hn0 hn
    exact le16 (by omega)
  · unfold fillKs
    rw [List.map_append, List.map_map]
    rfl
end
end Pf
set_option Elab.async false
set_option linter.all false
set_option maxRecDepth 100000
set_option maxHeartbeats 4000000
namespace Pf
open PySem PySem.Spec L2
open PyProof.Rows PySem.Calls
section
variable {P : Program} {w : World} {K : PySem.W.Frag} {mg : Str → Option Value} {base : Heap} {T : Tb} {L : Addr}
theorem sc_known_rows : FnScope (["rules", "string", "known", "key", "way"] : List Str) (["rules", "string"] : List Str) (defScope (topS 27)) := ⟨rfl, rfl, rfl, by decide +kernel, rfl, by decide +kernel, by decide +kernel⟩
theorem ok_known_rows {f : Addr} {fd : FuncData} (t : Tx K mg L) (F : FnP K "known_rows" 27 f fd) (gm : mg "known_rows" = some (.ref f)) (c_filling_order : Cal P w K mg base T 2 "filling_order" ["many"] spFilling) (c_least_of : Cal P w K mg base T 1 "least_of" ["worths"] spLeastOf) (c_come_to : Cal P w K mg base T 1 "come_to" ["way", "known"] spComeTo) (c_ways_of_bounds : Cal P w K mg base T 4 "ways_of_bounds" ["rules", "string", "key"] spWaysOf) : Cal P w K mg base T 5 "known_rows" ["rules", "string"] spKnown := by
  have sc := sc_known_rows
  refine cal_of F sc gm (fun _ _ _ _ _ _ us hl => match us, hl with | [_, _], _ => rfl) (fun ds P hF => ?_) fun cdv A outer s H vs Q E hr => ?_
  · obtain ⟨_, _, rfl, _⟩ := hF; rfl
  · have hu := hu64 hr
    have hu1 := hu_of hr
    obtain ⟨tkM, hM⟩ := t.MOST
    refine ⟨_, PSs.nox (pss_cons (ps_set (i := 2) sc.nd rfl (.inr rfl) pe_dnewT) (pss_cons (ps_for PassesOwn.never rfl (k_pi_list K (pe_cal c_filling_order hr (by decide) (by rfl) (pa_cons (pe_callB (k_len K) (by rfl) t.len boot_len (pa_cons (pv 1) pa_nil)) pa_nil))) (pg_name (i := 3) sc.nd rfl (.inl rfl)) (pss_one (ps_dput hu1 (pv 2) (pv 3) (pe_cal c_least_of hr (by decide) (by rfl) (pa_cons (pe_lc (own := [("way", 4)]) rfl sc.nd (k_pi_list K (pe_cal c_ways_of_bounds hr (by decide) (by rfl) (pa_cons (pv 0) (pa_cons (pv 1) (pa_cons (pv 3) pa_nil))))) (blkOk_by (own := [("way", 4)]) (N := (["rules", "string", "known", "key", "way"] : List Str)) (sc := defScope (topS 27)) (by decide +kernel)) (fun _ _ _ _ _ => (pg_name (i := 4) sc.nd rfl (.inl rfl))) (fun _ _ _ _ _ => pts_nil) (fun _ _ _ _ _ => (pe_cal c_come_to hr (by decide) (by rfl) (pa_cons (pv 4) (pa_cons (pv 2) pa_nil))))) pa_nil)) rfl))) (pss_one (ps_ret (pv 2))))), fun ds P hF => ?_⟩
    obtain ⟨b, s, rfl, ⟨hb, h12, hok⟩, hP⟩ := hF
    refine sv_seq (sv_newT (fun j e q => (noOwn_at (show noOwn _ = true by rfl) q).elim) ?_)
    refine sv_seq (sv_for (is := [3]) (fillKs s.length) keyT (fun i => [.dat (encB b), .dat (.str s), .own (dT (((fillKs s.length).take i).foldl (fillStep b s) [])), .any, .any]) (ei_list (ev_call (ea_cons (ev_cb (ea_cons ev_v ea_nil) (cl_lenS (le16 (by omega)))) ea_nil) ⟨s.length, rfl, ⟨by omega, by omega⟩, rfl⟩)) (.same (.same (.same (.any (.any .nil))))) (fun i k hk => ⟨_, eg_n, ?_⟩) ?_)
    · have hmem := List.mem_of_getElem? hk
      have hko := keyOk_fill hmem h12 hok
      have hw := waysOf_small (b := b) hko
      have hlen := len_fill (b := b) (s := s) ((fillKs s.length).take i) []
      have hl2 := len_fillKs (n := s.length) (by omega) (by omega)
      have hov := optV_fill (b := b) (s := s) ((fillKs s.length).take i) (es := []) (fun _ h => by simp at h)
      rw [List.length_take, List.length_nil] at hlen
      have e : ((fillKs s.length).take (i + 1)).foldl (fillStep b s) [] = fillStep b s (((fillKs s.length).take i).foldl (fillStep b s) []) k := by
        rw [List.take_add_one, hk, List.foldl_append]
        rfl
      rw [e]
      generalize ((fillKs s.length).take i).foldl (fillStep b s) [] = es at hov hlen ⊢
      refine sv_putT (i := 2) (es := es) (k := kk k) rfl (ev_peek (i := 2) rfl (ev_call (ea_cons (Ev.to (ev_lcM (is := [4]) (waysOf b s k) encW (fun u => optD (comeTo es u)) (by decide) (ei_list (ev_call (ea_cons ev_v (ea_cons ev_v (ea_cons ev_v ea_nil))) ⟨b, s, k, rfl, ⟨hb, hko⟩, rfl⟩)) (le16 (by omega)) fun u hu => ⟨_, eg_n, ev_call (ea_cons ev_v (ea_cons ev_v ea_nil)) ⟨u, es, rfl, ⟨hov, by have := hw.2 u hu; omega⟩, rfl⟩⟩) (d' := .list (((waysOf b s k).map (comeTo es)).map optD)) (by rw [List.map_map]; rfl)) ea_nil) ⟨_, rfl, by rw [List.length_map]; omega, rfl⟩) (scal_optD _)) ev_v (lt16 (by omega)) (.same (.same (.same (.any (.any .nil)))))
    · rw [List.take_length]
      exact sv_froze (i := 2) rfl (sv_ret ev_v hP)
theorem sc_least_worth : FnScope (["rules", "string"] : List Str) (["rules", "string"] : List Str) (defScope (topS 28)) := ⟨rfl, rfl, rfl, by decide +kernel, rfl, by decide +kernel, by decide +kernel⟩
theorem ok_least_worth {f : Addr} {fd : FuncData} (t : Tx K mg L) (F : FnP K "least_worth" 28 f fd) (gm : mg "least_worth" = some (.ref f)) (c_need_string : Cal P w K mg base T 2 "need_string" ["rules", "thing"] spNeedString) (c_known_rows : Cal P w K mg base T 5 "known_rows" ["rules", "string"] spKnown) : Cal P w K mg base T 6 "least_worth" ["rules", "string"] spLeastWorth := by
  have sc := sc_least_worth
  refine cal_of F sc gm (fun _ _ _ _ _ _ us hl => match us, hl with | [_, _], _ => rfl) (fun ds P hF => ?_) fun cdv A outer s H vs Q E hr => ?_
  · obtain ⟨_, _, rfl, _⟩ := hF; rfl
  · have hu := hu64 hr
    have hu1 := hu_of hr
    obtain ⟨tkM, hM⟩ := t.MOST
    refine ⟨_, PSs.nox (pss_cons (ps_expr (pe_cal c_need_string hr (by decide) (by rfl) (pa_cons (pv 0) (pa_cons (pv 1) pa_nil)))) (pss_one (ps_ret (pe_dget hu1 (pe_cal c_known_rows hr (by decide) (by rfl) (pa_cons (pv 0) (pa_cons (pv 1) pa_nil))) (pe_tup (pa_cons pe_str (pa_cons pe_int (pa_cons (pe_op op_sub (pe_callB (k_len K) (by rfl) t.len boot_len (pa_cons (pv 1) pa_nil)) pe_int) pa_nil)))) (fun _ _ => rfl))))), fun ds P hF => ?_⟩
    obtain ⟨b, s, rfl, ⟨hb, hw, hok⟩, hP⟩ := hF
    refine sv_seq (sv_drop (d := .none) (ev_call (ea_cons ev_v (ea_cons ev_v ea_nil)) ⟨b, s, rfl, hw, rfl⟩) ?_)
    exact sv_ret (ev_getT (k := kk (k3 "open" 0 (s.length - 1))) (ev_call (ea_cons ev_v (ea_cons ev_v ea_nil)) ⟨b, s, rfl, ⟨hb, hw.1, hok⟩, rfl⟩) (ev_tp (ea_cons ev_str (ea_cons ev_int (ea_cons (ev_op (ev_cb (ea_cons ev_v ea_nil) (cl_lenS (le16 (by have := hw.1; omega)))) ev_int od_i) ea_nil)))) (known_open b s)) hP
end
end Pf
set_option Elab.async false
set_option linter.all false
set_option maxRecDepth 100000
set_option maxHeartbeats 4000000
namespace Pf
open PySem L2
/-! ### pairs, foldings -/
abbrev Pr : Type := Int × Int
abbrev Fo : Type := List Pr
abbrev encP (p : Pr) : D := .tuple [.int p.1, .int p.2]
abbrev encF (F : Fo) : D := .tuple (F.map encP)
/-! all foldings over the places f .. e - 1 whose pairs m allows -/
def fl (m : Int → Int → Bool) : Nat → Int → Int → List Fo
  | 0, _, _ => [[]]
  | n + 1, f, e => if e ≤ f + 1 then [[]] else fl m n (f + 1) e ++ (rng (f + 1) e).flatMap fun k => if m f k = true then (fl m n (f + 1) k).flatMap fun a => (fl m n (k + 1) e).map fun c => (f, k) :: (a ++ c) else []
theorem fl_fuel (m : Int → Int → Bool) : ∀ (n n' : Nat) (f e : Int), (e - f).toNat ≤ n → (e - f).toNat ≤ n' → fl m n f e = fl m n' f e
  | 0, 0, _, _, _, _ => rfl
  | 0, n' + 1, f, e, h, _ => by
    unfold fl
    rw [if_pos (by omega)]
  | n + 1, 0, f, e, _, h => by
    unfold fl
    rw [if_pos (by omega)]
  | n + 1, n' + 1, f, e, h, h' => by
    unfold fl
    by_cases c : e ≤ f + 1
    · rw [if_pos c, if_pos c]
    · rw [if_neg c, if_neg c, fl_fuel m n n' (f + 1) e (by omega) (by omega)]
      congr 1
      have : ∀ k ∈ rng (f + 1) e, (if m f k = true then (fl m n (f + 1) k).flatMap fun a => (fl m n (k + 1) e).map fun c => (f, k) :: (a ++ c) else []) = (if m f k = true then (fl m n' (f + 1) k).flatMap fun a => (fl m n' (k + 1) e).map fun c => (f, k) :: (a ++ c) else []) := fun k hk => by
        have := mem_rng.mp hk
        rw [fl_fuel m n n' (f + 1) k (by omega) (by omega), fl_fuel m n n' (k + 1) e (by omega) (by omega)]
      rw [List.flatMap_def, List.flatMap_def, List.map_congr_left this]
def FL (m : Int → Int → Bool) (f e : Int) : List Fo := fl m (e - f).toNat f e
theorem FL_small {m : Int → Int → Bool} {f e : Int} (h : e ≤ f + 1) : FL m f e = [[]] := by
  unfold FL
  cases q : (e - f).toNat with
  | zero => rfl
  | succ n => unfold fl; rw [if_pos h]
def grow (m : Int → Int → Bool) (f e k : Int) : List Fo := if m f k = true then (FL m (f + 1) k).flatMap fun a => (FL m (k + 1) e).map fun c => (f, k) :: (a ++ c) else []
theorem FL_step {m : Int → Int → Bool} {f e : Int} (h : ¬ e ≤ f + 1) : FL m f e = FL m (f + 1) e ++ (rng (f + 1) e).flatMap (grow m f e) := by
  unfold FL
  obtain ⟨n, hn⟩ : ∃ n, (e - f).toNat = n + 1 := ⟨(e - f).toNat - 1, by omega⟩
  rw [hn]
  show (if e ≤ f + 1 then [[]] else _) = _
  rw [if_neg h, fl_fuel m n (e - (f + 1)).toNat (f + 1) e (by omega) (by omega)]
  congr 1
  have : ∀ k ∈ rng (f + 1) e, (if m f k = true then (fl m n (f + 1) k).flatMap fun a => (fl m n (k + 1) e).map fun c => (f, k) :: (a ++ c) else []) = grow m f e k := fun k hk => by
    have := mem_rng.mp hk
    unfold grow FL
    rw [fl_fuel m n _ (f + 1) k (by omega) (Nat.le_refl _), fl_fuel m n _ (k + 1) e (by omega) (Nat.le_refl _)]
  rw [List.flatMap_def, List.flatMap_def, List.map_congr_left this]
/-- induction over the places -/
theorem FL_ind {m : Int → Int → Bool} {P : Int → Int → Prop} (h0 : ∀ f e, e ≤ f + 1 → P f e) (hs : ∀ f e, ¬ e ≤ f + 1 → (∀ f' e', f < f' → e' ≤ e → P f' e') → P f e) : ∀ f e, P f e := by
  have : ∀ (n : Nat) (f e : Int), (e - f).toNat ≤ n → P f e := fun n => by
    induction n with
    | zero => intro f e h; exact h0 f e (by omega)
    | succ n ih =>
      intro f e h
      by_cases c : e ≤ f + 1
      · exact h0 f e c
      · exact hs f e c fun f' e' h1 h2 => ih f' e' (by omega)
  exact fun f e => this _ f e (Nat.le_refl _)
theorem mem_grow {m : Int → Int → Bool} {f e k : Int} {F : Fo} : F ∈ grow m f e k ↔ m f k = true ∧ ∃ a ∈ FL m (f + 1) k, ∃ c ∈ FL m (k + 1) e, F = (f, k) :: (a ++ c) := by
  unfold grow
  by_cases h : m f k = true
  · rw [if_pos h]
    constructor
    · intro hF
      obtain ⟨a, ha, hF⟩ := List.mem_flatMap.mp hF
      obtain ⟨c, hc, rfl⟩ := List.mem_map.mp hF
      exact ⟨h, a, ha, c, hc, rfl⟩
    · rintro ⟨_, a, ha, c, hc, rfl⟩
      exact List.mem_flatMap.mpr ⟨a, ha, List.mem_map.mpr ⟨c, hc, rfl⟩⟩
  · rw [if_neg h]
    constructor
    · intro hF; cases hF
    · rintro ⟨h1, _⟩; exact absurd h1 h
theorem mem_FL {m : Int → Int → Bool} {f e : Int} {F : Fo} : F ∈ FL m f e ↔ (e ≤ f + 1 ∧ F = []) ∨ (f + 1 < e ∧ (F ∈ FL m (f + 1) e ∨ ∃ k, f + 1 ≤ k ∧ k < e ∧ m f k = true ∧ ∃ a ∈ FL m (f + 1) k, ∃ c ∈ FL m (k + 1) e, F = (f, k) :: (a ++ c))) := by
  by_cases h : e ≤ f + 1
  · rw [FL_small h]
    constructor
    · intro hF; exact .inl ⟨h, List.mem_singleton.mp hF⟩
    · rintro (⟨_, rfl⟩ | ⟨h1, _⟩)
      · exact List.mem_singleton.mpr rfl
      · omega
  · rw [FL_step h, List.mem_append, List.mem_flatMap]
    constructor
    · rintro (h1 | ⟨k, hk, h1⟩)
      · exact .inr ⟨by omega, .inl h1⟩
      · have := mem_rng.mp hk
        obtain ⟨h2, h3⟩ := mem_grow.mp h1
        exact .inr ⟨by omega, .inr ⟨k, this.1, this.2, h2, h3⟩⟩
    · rintro (⟨h1, _⟩ | ⟨_, h1 | ⟨k, h2, h3, h4, h5⟩⟩)
      · omega
      · exact .inl h1
      · exact .inr ⟨k, mem_rng.mpr ⟨h2, h3⟩, mem_grow.mpr ⟨h4, h5⟩⟩
/-- all pairs of F lie within f .. e - 1 -/
structure Proper (f e : Int) (F : Fo) : Prop where
  rg : ∀ p ∈ F, f ≤ p.1 ∧ p.1 < p.2 ∧ p.2 < e
  up : F.Pairwise fun p q => p.1 < q.1
  ap : (F.flatMap fun p => [p.1, p.2]).Nodup
  nc : ∀ p ∈ F, ∀ q ∈ F, ¬ (p.1 < q.1 ∧ q.1 < p.2 ∧ p.2 < q.2)
theorem Proper.mono {f e f' e' : Int} {F : Fo} (h : Proper f e F) (h1 : f' ≤ f) (h2 : e ≤ e') : Proper f' e' F := ⟨fun p hp => by have := h.rg p hp; omega, h.up, h.ap, h.nc⟩
theorem Proper.nil {f e : Int} : Proper f e [] := ⟨fun p h => by simp at h, .nil, by simp, fun p h => by simp at h⟩
theorem mem_places {F : Fo} {x : Int} : x ∈ F.flatMap (fun p => [p.1, p.2]) ↔ ∃ p ∈ F, x = p.1 ∨ x = p.2 := by
  rw [List.mem_flatMap]
  simp
theorem Proper.places {f e : Int} {F : Fo} (h : Proper f e F) {x : Int} (hx : x ∈ F.flatMap fun p => [p.1, p.2]) : f ≤ x ∧ x < e := by
  obtain ⟨p, hp, rfl | rfl⟩ := mem_places.mp hx <;> (have := h.rg p hp; omega)
theorem Proper.app {f k e : Int} {a c : Fo} (ha : Proper f k a) (hc : Proper k e c) (h1 : f ≤ k) (h2 : k ≤ e) : Proper f e (a ++ c) := by
  refine ⟨fun p hp => ?_, List.pairwise_append.mpr ⟨ha.up, hc.up, fun p hp q hq => ?_⟩, ?_, fun p hp q hq => ?_⟩
  · rcases List.mem_append.mp hp with hp | hp
    · have := ha.rg p hp; omega
    · have := hc.rg p hp; omega
  · have := ha.rg p hp; have := hc.rg q hq; omega
  · rw [List.flatMap_append]
    refine List.nodup_append.mpr ⟨ha.ap, hc.ap, fun x hx y hy => ?_⟩
    have := ha.places hx; have := hc.places hy; omega
  · rcases List.mem_append.mp hp with hp | hp <;> rcases List.mem_append.mp hq with hq | hq
    · exact ha.nc p hp q hq
    · have := ha.rg p hp; have := hc.rg q hq; omega
    · have := hc.rg p hp; have := ha.rg q hq; omega
    · exact hc.nc p hp q hq
theorem Proper.cons {f k e : Int} {a : Fo} {c : Fo} (ha : Proper (f + 1) k a) (hc : Proper (k + 1) e c) (h1 : f < k) (h2 : k < e) : Proper f e ((f, k) :: (a ++ c)) := by
  refine ⟨fun p hp => ?_, List.pairwise_cons.mpr ⟨fun q hq => ?_, List.pairwise_append.mpr ⟨ha.up, hc.up, fun p hp q hq => ?_⟩⟩, ?_, fun p hp q hq => ?_⟩
  · rcases List.mem_cons.mp hp with rfl | hp
    · exact ⟨Int.le_refl _, h1, h2⟩
    · rcases List.mem_append.mp hp with hp | hp
      · have := ha.rg p hp; omega
      · have := hc.rg p hp; omega
  · rcases List.mem_append.mp hq with hq | hq
    · have := ha.rg q hq; show f < q.1; omega
    · have := hc.rg q hq; show f < q.1; omega
  · have := ha.rg p hp; have := hc.rg q hq; omega
  · rw [List.flatMap_cons, List.flatMap_append]
    refine List.nodup_append.mpr ⟨by simp; omega, List.nodup_append.mpr ⟨ha.ap, hc.ap, fun x hx y hy => ?_⟩, fun x hx y hy => ?_⟩
    · have := ha.places hx; have := hc.places hy; omega
    · have hx' : x = f ∨ x = k := by simpa using hx
      rcases List.mem_append.mp hy with hy | hy
      · have := ha.places hy; omega
      · have := hc.places hy; omega
  · rcases List.mem_cons.mp hp with rfl | hp <;> rcases List.mem_cons.mp hq with rfl | hq
    · show ¬ (f < f ∧ _); omega
    · rcases List.mem_append.mp hq with hq | hq
      · have := ha.rg q hq; show ¬ (f < q.1 ∧ q.1 < k ∧ k < q.2); omega
      · have := hc.rg q hq; show ¬ (f < q.1 ∧ q.1 < k ∧ k < q.2); omega
    · rcases List.mem_append.mp hp with hp | hp
      · have := ha.rg p hp; show ¬ (p.1 < f ∧ f < p.2 ∧ p.2 < k); omega
      · have := hc.rg p hp; show ¬ (p.1 < f ∧ f < p.2 ∧ p.2 < k); omega
    · rcases List.mem_append.mp hp with hp | hp <;> rcases List.mem_append.mp hq with hq | hq
      · exact ha.nc p hp q hq
      · have := ha.rg p hp; have := hc.rg q hq; omega
      · have := hc.rg p hp; have := ha.rg q hq; omega
      · exact hc.nc p hp q hq
theorem FL_proper {m : Int → Int → Bool} : ∀ (f e : Int) (F : Fo), F ∈ FL m f e → Proper f e F ∧ ∀ p ∈ F, m p.1 p.2 = true := by
  refine FL_ind (m := m) (P := fun f e => ∀ F, F ∈ FL m f e → Proper f e F ∧ ∀ p ∈ F, m p.1 p.2 = true) (fun f e h F hF => ?_) (fun f e h ih F hF => ?_)
  · rw [FL_small h] at hF
    rw [List.mem_singleton.mp hF]
    exact ⟨.nil, fun p h => by simp at h⟩
  · rcases mem_FL.mp hF with ⟨h1, rfl⟩ | ⟨_, h1 | ⟨k, h2, h3, h4, a, ha, c, hc, rfl⟩⟩
    · exact ⟨.nil, fun p h => by simp at h⟩
    · obtain ⟨h2, h3⟩ := ih (f + 1) e (by omega) (by omega) F h1
      exact ⟨h2.mono (by omega) (by omega), h3⟩
    · obtain ⟨a1, a2⟩ := ih (f + 1) k (by omega) (by omega) a ha
      obtain ⟨c1, c2⟩ := ih (k + 1) e (by omega) (by omega) c hc
      refine ⟨a1.cons c1 (by omega) h3, fun p hp => ?_⟩
      rcases List.mem_cons.mp hp with rfl | hp
      · exact h4
      · rcases List.mem_append.mp hp with hp | hp
        · exact a2 p hp
        · exact c2 p hp
theorem FL_head {m : Int → Int → Bool} : ∀ (f e : Int), (FL m f e).head? = some [] := by
  refine FL_ind (m := m) (P := fun f e => (FL m f e).head? = some []) (fun f e h => by rw [FL_small h]; rfl) (fun f e h ih => ?_)
  rw [FL_step h, List.head?_append, ih (f + 1) e (by omega) (by omega)]
  rfl
theorem Proper.len {f e : Int} {F : Fo} (h : Proper f e F) (hfe : f ≤ e) : F.length ≤ (e - f).toNat := by
  have key : ∀ (F : Fo) (f : Int), F.Pairwise (fun p q => p.1 < q.1) → (∀ p ∈ F, f ≤ p.1 ∧ p.1 < e) → F.length ≤ (e - f).toNat := by
    intro F
    induction F with
    | nil => intro f _ _; simp
    | cons p r ih =>
      intro f h1 h2
      obtain ⟨h3, h4⟩ := List.pairwise_cons.mp h1
      have h5 := h2 p List.mem_cons_self
      have := ih (p.1 + 1) h4 fun q hq => by
        have := h3 q hq
        have := h2 q (List.mem_cons_of_mem _ hq)
        omega
      rw [List.length_cons]
      omega
  exact key F f h.up fun p hp => by have := h.rg p hp; omega
/-! how many there are -/
theorem len_grow (m : Int → Int → Bool) (f e k : Int) : (grow m f e k).length = if m f k = true then (FL m (f + 1) k).length * (FL m (k + 1) e).length else 0 := by
  unfold grow
  split
  · rw [List.length_flatMap]
    simp only [List.length_map]
    induction FL m (f + 1) k with
    | nil => simp
    | cons a r ih => rw [List.map_cons, List.sum_cons, ih, List.length_cons, Nat.succ_mul]; omega
  · rfl
def mz : List Nat := [1, 1, 2, 4, 9, 21, 51, 127, 323]
theorem sum_le {α : Type} (f g : α → Nat) : ∀ xs : List α, (∀ x ∈ xs, f x ≤ g x) → (xs.map f).sum ≤ (xs.map g).sum
  | [], _ => by simp
  | x :: xs, h => by
    have h1 := h x List.mem_cons_self
    have h2 := sum_le f g xs fun y hy => h y (List.mem_cons_of_mem _ hy)
    rw [List.map_cons, List.map_cons, List.sum_cons, List.sum_cons]
    omega
theorem len_FL8 (m : Int → Int → Bool) : ∀ (d : Nat), d ≤ 8 → ∀ (f e : Int), (e - f).toNat ≤ d → (FL m f e).length ≤ mz.getD d 0 := by
  intro d
  induction d using Nat.strongRecOn with
  | ind d ih =>
    intro hd f e hfe
    by_cases hlt : (e - f).toNat < d
    · have h1 := ih (d - 1) (by omega) (by omega) f e (by omega)
      have h2 : mz.getD (d - 1) 0 ≤ mz.getD d 0 := by
        have : ∀ d, d ≤ 8 → mz.getD (d - 1) 0 ≤ mz.getD d 0 := by decide
        exact this d hd
      omega
    · by_cases h : e ≤ f + 1
      · rw [FL_small h]
        have : ∀ d, d ≤ 8 → 1 ≤ mz.getD d 0 := by decide
        exact this d hd
      · rw [FL_step h, List.length_append, List.length_flatMap]
        have h1 := ih (d - 1) (by omega) (by omega) (f + 1) e (by omega)
        have hr : (e - (f + 1)).toNat = d - 1 := by omega
        have h2 : ((rng (f + 1) e).map fun k => (grow m f e k).length).sum ≤ ((List.range (d - 1)).map fun i => mz.getD i 0 * mz.getD (d - 2 - i) 0).sum := by
          unfold rng
          rw [List.map_map, hr]
          refine sum_le _ _ _ fun i hi => ?_
          rw [List.mem_range] at hi
          show (grow m f e (f + 1 + (i : Int))).length ≤ _
          rw [len_grow]
          split
          · exact Nat.mul_le_mul (ih i (by omega) (by omega) _ _ (by omega)) (ih (d - 2 - i) (by omega) (by omega) _ _ (by omega))
          · exact Nat.zero_le _
        have h3 : mz.getD (d - 1) 0 + ((List.range (d - 1)).map fun i => mz.getD i 0 * mz.getD (d - 2 - i) 0).sum ≤ mz.getD d 0 := by
          have : ∀ d, d ≤ 8 → 2 ≤ d → mz.getD (d - 1) 0 + ((List.range (d - 1)).map fun i => mz.getD i 0 * mz.getD (d - 2 - i) 0).sum ≤ mz.getD d 0 := by decide
          exact this d hd (by omega)
        omega
theorem len_FL {m : Int → Int → Bool} {f e : Int} (h : e - f ≤ 8) : (FL m f e).length ≤ 323 := by
  have := len_FL8 m 8 (by omega) f e (by omega)
  exact this
end Pf
set_option Elab.async false
set_option linter.all false
set_option maxRecDepth 100000
set_option maxHeartbeats 4000000
namespace Pf
open PySem L2
/-! ### loops and worths of foldings -/
def optP : Option Pr → D
  | none => .none
  | some p => encP p
def okIn (e : Int) (l : Option Int) (p : Pr) : Bool := decide (e < p.1) && (l.isNone || decide (p.2 < l.getD 0))
def stStep (l : Option Int) (a : Fo × Int) (p : Pr) : Fo × Int := if okIn a.2 l p = true then (a.1 ++ [p], p.2) else a
def stw (e : Int) (l : Option Int) : Fo → Fo
  | [] => []
  | p :: r => if okIn e l p = true then p :: stw p.2 l r else stw e l r
theorem st_fold (l : Option Int) : ∀ (F : Fo) (a : Fo) (e : Int), (F.foldl (stStep l) (a, e)).1 = a ++ stw e l F
  | [], a, e => (List.append_nil a).symm
  | p :: r, a, e => by
    rw [List.foldl_cons]
    unfold stw
    by_cases h : okIn e l p = true
    · rw [if_pos h, show stStep l (a, e) p = (a ++ [p], p.2) from if_pos h, st_fold l r, List.append_assoc]
      rfl
    · rw [if_neg h, show stStep l (a, e) p = (a, e) from if_neg h, st_fold l r]
def straight (F : Fo) : Option Pr → Fo
  | none => stw (-1) none F
  | some p => stw p.1 (some p.2) F
theorem stw_len (l : Option Int) : ∀ (F : Fo) (e : Int), (stw e l F).length ≤ F.length
  | [], _ => Nat.le_refl _
  | p :: r, e => by
    unfold stw
    split
    · rw [List.length_cons, List.length_cons]; exact Nat.succ_le_succ (stw_len l r _)
    · exact Nat.le_succ_of_le (stw_len l r _)
theorem stw_sub (l : Option Int) : ∀ (F : Fo) (e : Int), ∀ p ∈ stw e l F, p ∈ F
  | [], _, _, h => by cases h
  | p :: r, e, q, h => by
    unfold stw at h
    split at h
    · rcases List.mem_cons.mp h with rfl | h
      · exact List.mem_cons_self
      · exact List.mem_cons_of_mem _ (stw_sub l r _ q h)
    · exact List.mem_cons_of_mem _ (stw_sub l r _ q h)
theorem straight_len (F : Fo) (o : Option Pr) : (straight F o).length ≤ F.length := by cases o <;> exact stw_len _ _ _
theorem straight_sub (F : Fo) (o : Option Pr) : ∀ p ∈ straight F o, p ∈ F := by cases o <;> exact stw_sub _ _ _
def stF : Option Pr → Int
  | none => -1
  | some p => p.1
def stL : Option Pr → Option Int
  | none => none
  | some p => some p.2
theorem straight_eq (F : Fo) (o : Option Pr) : straight F o = stw (stF o) (stL o) F := by cases o <;> rfl
def spStraight : SpF := fun ds P => ∃ F o, ds = [encF F, optP o] ∧ F.length ≤ 1000 ∧ P (.list ((straight F o).map encP))
def free (p : Pr) (G : Fo) : Int := p.2 - p.1 - 1 - (G.map fun q => q.2 - q.1 + 1).sum
def spFree : SpF := fun ds P => ∃ p G, ds = [encP p, .list (G.map encP)] ∧ G.length ≤ 1000 ∧ P (.int (free p G))
structure At (s : Str) (p : Pr) : Prop where
  a0 : 0 ≤ p.1
  a1 : p.1 < s.length
  b0 : 0 ≤ p.2
  b1 : p.2 < s.length
def spLetters : SpF := fun ds P => ∃ s p, ds = [.str s, encP p] ∧ (s.length ≤ 100 ∧ At s p) ∧ P (.str (both s p.1 p.2))
def kindS (G : Fo) (f : Int) : Str := if G = [] then "lone" else if 1 < G.length then "forked" else if f = 0 then "stacked" else "inner"
def spKind : SpF := fun ds P => ∃ G f, ds = [.list (G.map encP), .int f] ∧ G.length ≤ 1000 ∧ P (.str (kindS G f))
def hd0 (G : Fo) : Pr := G.headD (0, 0)
def loopK (b : Book) (s : Str) (p : Pr) (G : Fo) (f : Int) : Int :=
  if G = [] then cost b 6 + f * cost b 7
  else if 1 < G.length then cost b 3 + ((G.length : Int) * cost b 4 + f * cost b 5)
  else if f = 0 then cost b 0 + sw b (both s p.1 p.2) (both s (hd0 G).1 (hd0 G).2)
  else cost b 1 + f * cost b 2
def loopW (b : Book) (s : Str) (F : Fo) (p : Pr) : Int := loopK b s p (straight F (some p)) (free p (straight F (some p)))
def kindOf (F : Fo) (p : Pr) : Str := kindS (straight F (some p)) (free p (straight F (some p)))
/-- what is asked of a word and a folding -/
structure FoOk (s : Str) (F : Fo) : Prop where
  s12 : s.length ≤ 12
  ok : Sok s
  pr : Proper 0 s.length F
theorem FoOk.at_ {s : Str} {F : Fo} (h : FoOk s F) {p : Pr} (hp : p ∈ F) : At s p := by
  have := h.pr.rg p hp
  exact ⟨by omega, by omega, by omega, by omega⟩
theorem FoOk.len {s : Str} {F : Fo} (h : FoOk s F) : F.length ≤ 12 := by
  have := h.pr.len (by omega)
  have := h.s12
  omega
theorem sum_bound (f : Pr → Int) (lo hi : Int) : ∀ G : Fo, (∀ q ∈ G, lo ≤ f q ∧ f q ≤ hi) → lo * G.length ≤ (G.map f).sum ∧ (G.map f).sum ≤ hi * G.length
  | [], _ => by simp
  | q :: r, h => by
    have h1 := h q List.mem_cons_self
    have h2 := sum_bound f lo hi r fun x hx => h x (List.mem_cons_of_mem _ hx)
    rw [List.map_cons, List.sum_cons, List.length_cons]
    have e1 : lo * ((r.length + 1 : Nat) : Int) = lo * r.length + lo := by push_cast; rw [Int.mul_add, Int.mul_one]
    have e2 : hi * ((r.length + 1 : Nat) : Int) = hi * r.length + hi := by push_cast; rw [Int.mul_add, Int.mul_one]
    omega
theorem FoOk.free {s : Str} {F : Fo} (h : FoOk s F) {p : Pr} (hp : p ∈ F) (o : Option Pr) : -1000 ≤ free p (straight F o) ∧ free p (straight F o) ≤ 1000 := by
  have h1 := h.pr.rg p hp
  have h2 := h.s12
  have h3 := sum_bound (fun q => q.2 - q.1 + 1) 0 12 (straight F o) fun q hq => by
    have := h.pr.rg q (straight_sub F o q hq)
    omega
  have h4 := straight_len F o
  have h5 := h.len
  unfold Pf.free
  omega
def spLoop : SpF := fun ds P => ∃ b s F p, ds = [encB b, .str s, encF F, encP p] ∧ (OkB b ∧ FoOk s F ∧ p ∈ F) ∧ P (.tuple [.str (kindOf F p), .int (free p (straight F (some p))), .int (loopW b s F p)])
abbrev encRow (b : Book) (s : Str) (F : Fo) (p : Pr) : D := .tuple [.int p.1, .int p.2, .str (kindOf F p), .int (free p (straight F (some p))), .int (loopW b s F p)]
def spLoops : SpF := fun ds P => ∃ b s F, ds = [encB b, .str s, encF F] ∧ (OkB b ∧ FoOk s F) ∧ P (.list (F.map (encRow b s F)))
def pwI (b : Book) (s : Str) (p : Pr) : Int := (pw b (both s p.1 p.2)).getD 0
def allPw (b : Book) (s : Str) (F : Fo) : Prop := ∀ p ∈ F, (pw b (both s p.1 p.2)).isSome = true
theorem pw_some {b : Book} {s : Str} {F : Fo} (h : allPw b s F) {p : Pr} (hp : p ∈ F) : pw b (both s p.1 p.2) = some (pwI b s p) := by
  have := h p hp
  unfold pwI
  cases q : pw b (both s p.1 p.2) with
  | none => rw [q] at this; cases this
  | some i => rfl
def worthOf (b : Book) (s : Str) (F : Fo) : Int := (F.map (pwI b s)).sum + (F.map (loopW b s F)).sum + cost b 8 * (straight F none).length
def spWorthOf : SpF := fun ds P => ∃ b s F, ds = [encB b, .str s, encF F] ∧ (OkB b ∧ FoOk s F ∧ allPw b s F) ∧ P (.int (worthOf b s F))
/-! ### two strings held together -/
def spIsWhole : SpF := fun ds P => ∃ i : Int, ds = [.int i] ∧ P (.bool true)
def spArePairs : SpF := fun ds P => ∃ n F, ds = [.int n, encF F] ∧ (Proper 0 n F ∧ 0 ≤ n ∧ n ≤ 100) ∧ P (.bool true)
def nick (n : Int) (F : Fo) : Option Pr := (F.filter fun p => decide (p.1 < n) && decide (n ≤ p.2)).getLast?
def spNicked : SpF := fun ds P => ∃ s F m, ds = [.str s, encF F] ∧ (s.length ≤ 100 ∧ Proper 0 m F ∧ 0 ≤ m ∧ m ≤ 100) ∧ P (optP (nick s.length F))
def heldB (b : Book) (n : Int) (F : Fo) : Bool := (F.filter fun p => !decide (some p = nick n F)).all fun p => decide (b.span < p.2 - p.1)
def spIsHeld : SpF := fun ds P => ∃ b s s2 F, ds = [encB b, .str s, .str s2, encF F] ∧ (OkB b ∧ Word b s ∧ Word b s2 ∧ FoOk (s ++ s2) F ∧ allPw b (s ++ s2) F) ∧ P (.bool (heldB b s.length F))
def heldP (b : Book) (s s2 : Str) (F : Fo) (p : Pr) : Int := pwI b (s ++ s2) p + if some p = nick s.length F then cost b 8 * (straight F (some p)).length else loopW b (s ++ s2) F p
def heldW (b : Book) (s s2 : Str) (F : Fo) : Int := cost b 8 * (straight F none).length + (F.map (heldP b s s2 F)).sum
def spHeldWorth : SpF := fun ds P => ∃ b s s2 F, ds = [encB b, .str s, .str s2, encF F] ∧ (OkB b ∧ FoOk (s ++ s2) F ∧ allPw b (s ++ s2) F) ∧ P (.int (heldW b s s2 F))
def mh (b : Book) (s : Str) (i j : Int) : Bool := (pw b (both s i j)).isSome
def spHeldFrom (n : Nat) : SpF := fun ds P => ∃ b s s2 f e, ds = [encB b, .str s, .str s2, .int f, .int e] ∧ ((s ++ s2).length ≤ 8 ∧ 0 ≤ f ∧ f ≤ e ∧ e ≤ (s ++ s2).length ∧ (e - f).toNat < n) ∧ P (.list ((FL (mh b (s ++ s2)) f e).map encF))
def leF (a c : Fo) : Bool := PySem.W.dataLe false (fun d => d) (encF a) (encF c)
noncomputable def sortF (Fs : List Fo) : List Fo := (srt_map encF Fs).choose
theorem sortF_eq (Fs : List Fo) : srt (Fs.map encF) = (sortF Fs).map encF := (srt_map encF Fs).choose_spec.1
theorem sortF_perm (Fs : List Fo) : (sortF Fs).Perm Fs := (srt_map encF Fs).choose_spec.2
noncomputable def heldKs (b : Book) (s s2 : Str) : List Fo := sortF ((FL (mh b (s ++ s2)) 0 (s ++ s2).length).filter (heldB b s.length))
structure HeldOk (b : Book) (s s2 : Str) : Prop where
  bk : OkB b
  w : Word b s
  w2 : Word b s2
  l8 : (s ++ s2).length ≤ 8
  ok : Sok (s ++ s2)
def spAllHeld : SpF := fun ds P => ∃ b s s2, ds = [encB b, .str s, .str s2] ∧ HeldOk b s s2 ∧ P (.list ((heldKs b s s2).map encF))
def spManyHeld : SpF := fun ds P => ∃ b s s2, ds = [encB b, .str s, .str s2] ∧ HeldOk b s s2 ∧ P (.int ((heldKs b s s2).length : Nat))
abbrev encT (b : Book) (s s2 : Str) (F : Fo) : D := .tuple [.int (heldW b s s2 F), encF F]
def minF (b : Book) (s s2 : Str) : List Fo → Fo
  | [] => []
  | F :: Fs => Fs.foldl (fun a y => if PySem.W.dataLt (encT b s s2 y) (encT b s s2 a) = true then y else a) F
noncomputable def leastF (b : Book) (s s2 : Str) : Fo := minF b s s2 (heldKs b s s2)
def spLeastTogether : SpF := fun ds P => ∃ b s s2, ds = [encB b, .str s, .str s2] ∧ HeldOk b s s2 ∧ P (encT b s s2 (leastF b s s2))
/-! ### counts -/
abbrev k2 (f e : Int) : List Key := [.inl f, .inl e]
def spHowMany : SpF := fun ds P => ∃ b s, ds = [encB b, .str s] ∧ (OkB b ∧ Word b s ∧ s.length ≤ 8) ∧ P (.int ((FL (mp b s) 0 s.length).length : Nat))
def spFoldFrom (n : Nat) : SpF := fun ds P => ∃ b s f e, ds = [encB b, .str s, .int f, .int e] ∧ (s.length ≤ 8 ∧ 0 ≤ f ∧ f ≤ e ∧ e ≤ s.length ∧ (e - f).toNat < n) ∧ P (.list ((FL (mp b s) f e).map encF))
noncomputable def foldKs (b : Book) (s : Str) : List Fo := sortF (FL (mp b s) 0 s.length)
def spAllFold : SpF := fun ds P => ∃ b s, ds = [encB b, .str s] ∧ (OkB b ∧ Word b s ∧ s.length ≤ 8) ∧ P (.list ((foldKs b s).map encF))
/-! ### a loop that folds a state -/
section
variable {T : Tb} {K : PySem.W.Frag} {ρ ρ' : En} {N : En → Prop} {R : D → Prop} {ts : TS}
theorem sv_forFold {α σ : Type} {wi : TI} {g : TG} {is : List Nat} (xs : List α) (enc : α → D) (a0 : σ) (step : σ → α → σ) (Rn : σ → En) (I : Nat → σ → Prop) (h : EvI T wi ρ (xs.map enc)) (h0 : Le ρ (Rn a0)) (hI0 : I 0 a0)
    (hI : ∀ i a x, x ∈ xs → I i a → I (i + 1) (step a x))
    (hs : ∀ (i : Nat) (a : σ) (x : α), x ∈ xs → i < xs.length → I i a → ∃ ρ', EvG T g is (Rn a) (enc x) ρ' ∧ Sv T ts ρ' (fun ρ3 => Le ρ3 (Rn (step a x))) R) (hd : I xs.length (xs.foldl step a0) → N (Rn (xs.foldl step a0))) : Sv T (tFor wi g ts) ρ N R := by
  have hi : ∀ i, i ≤ xs.length → I i ((xs.take i).foldl step a0) := fun i => by
    induction i with
    | zero => intro _; exact hI0
    | succ i ih =>
      intro hl
      rw [List.take_add_one, List.getElem?_eq_getElem (show i < xs.length by omega), List.foldl_append]
      exact hI i _ _ (List.getElem_mem _) (ih (by omega))
  have hd' := hd (by have := hi xs.length (Nat.le_refl _); rwa [List.take_length] at this)
  refine sv_for (is := is) xs enc (fun i => Rn ((xs.take i).foldl step a0)) h h0 (fun i x hx => ?_) (by rw [List.take_length]; exact hd')
  have hlt : i < xs.length := by
    rcases Nat.lt_or_ge i xs.length with h | h
    · exact h
    · rw [List.getElem?_eq_none h] at hx; cases hx
  obtain ⟨ρ', h1, h2⟩ := hs i _ x (List.mem_of_getElem? hx) hlt (hi i (by omega))
  refine ⟨ρ', h1, ?_⟩
  rw [List.take_add_one, hx, List.foldl_append]
  exact h2
end
theorem encP_alike (p q : Pr) : PySem.W.alike (encP p) (encP q) = true := by simp [PySem.W.alike, PySem.W.alikeAll]
theorem okEq_pairs (G : Fo) : okEq (.list (G.map encP)) = true ∧ okEq (.tuple (G.map encP)) = true := okEq_flat G encP (fun p => ⟨by simp [PyData.canLay0, PyData.canLayAll0], by simp [PyData.depth, PyData.depthAll]⟩) fun p _ => encP_alike p p
theorem okEq_optP (o : Option Pr) : okEq (optP o) = true := by
  cases o with
  | none => exact okN
  | some p => exact okII _ _
theorem eqv_nil (G : Fo) : PyData.eqv (.list (G.map encP)) (.list []) = decide (G = []) := by
  cases G <;> simp [PyData.eqv, PyData.eqvAll]
theorem isNone_optP (o : Option Pr) : isNone (optP o) = o.isNone := by cases o <;> rfl
theorem eqv_optP (p : Pr) (o : Option Pr) : PyData.eqv (.tuple [.int p.1, .int p.2]) (optP o) = decide (some p = o) := by
  cases o with
  | none => simp [optP, PyData.eqv]
  | some q =>
    rw [Bool.eq_iff_iff]
    obtain ⟨p1, p2⟩ := p
    obtain ⟨q1, q2⟩ := q
    simp [optP, PyData.eqv, PyData.eqvAll]
end Pf
set_option Elab.async false
set_option linter.all false
set_option maxRecDepth 100000
set_option maxHeartbeats 4000000
namespace Pf
open PySem PySem.Spec L2
open PyProof.Rows PySem.Calls PySem.W
section
variable {prog : Program} {w : World} {A : Around} {s : Shared} {E : Value → Shared → Prop} {κ : KeyKind}
/-! ### sorted() of a tuple -/
theorem collect_tup {l : Addr} {vs : List Value} {Q : List Value → Shared → Prop} (hl : IsTup s.heap l vs.toArray)
    (h : Q vs { s with heap := (s.heap.push (seqObj "list" #[] 0)).update s.heap.objs.size (Obj.mapSeq (· ++ vs.toArray)) }) (hsz : vs.length ≤ sizeLine) :
    wpAny (model prog w) A (collect (.ref l)) Q E s := by
  obtain ⟨o, ho, hc, n, hd⟩ := id hl
  unfold collect
  refine wpAny_bind (wpAny_runValue (codeAny_builtin entry_proto_collect' ?_))
  show wpAny _ _ (do again (.builtin "list.__iadd__" ⟨[← newList [], .ref l], []⟩)) _ _ s
  refine wpAny_bind (wpAny_newList (wpAny_pure ⟨Code.quiet_builtin _ (by decide +kernel), codeAny_builtin entry_list_iadd' ?_⟩))
  show wpAny _ _ (Builtin.List.listExtendWith (.ref s.heap.objs.size) (.ref l) (.ref s.heap.objs.size)) _ _ { s with heap := s.heap.push (seqObj "list" #[] 0) }
  unfold Builtin.List.listExtendWith
  have ho' : (s.heap.push (seqObj "list" #[] 0)).get? l = some o := Heap.get?_push_of_some _ ho
  refine wpAny_bind (wpAny_typeOf (T := "tuple") ⟨o, ho', hc⟩ ?_)
  have ht : (Value.type "tuple" == Value.type "tuple") = true := by rfl
  rw [if_pos (by rw [ht]; simp)]
  refine wpAny_bind (listItems_at ho' hd ?_)
  refine wpAny_bind (listItems_at (xs := #[]) (n := 0) (Heap.get?_push_size _ rfl) rfl ?_)
  rw [if_neg (by simp)]
  refine wpAny_bind (listUpdate_at (xs := #[]) (n := 0) (Heap.get?_push_size _ rfl) rfl ?_ (Nat.zero_le _) (by show (#[] ++ vs.toArray).size ≤ sizeLine + 1; simp only [Array.size_append, List.size_toArray, List.length_nil]; omega))
  refine wpAny_pure ?_
  show wpAny (model prog w) A (do
      let o ← load s.heap.objs.size
      match o.data with
      | .seq xs _ => pure xs.toList
      | _ => unsupported "internal:collect") Q E { s with heap := (s.heap.push (seqObj "list" #[] 0)).update s.heap.objs.size (Obj.mapSeq (· ++ vs.toArray)) }
  refine wpAny_bind (wpAny_load (get?_update_seq (Heap.get?_push_size _ rfl) _) ?_)
  show wpAny _ _ (pure ((#[] : Array Value) ++ vs.toArray).toList) Q E _
  rw [show ((#[] : Array Value) ++ vs.toArray).toList = vs by simp]
  exact wpAny_pure h
theorem sorted_valsT {l : Addr} {vs : List Value} {Q : Value → Shared → Prop} (hl : IsTup s.heap l vs.toArray) (S : SortsAt prog w A.in1.in1 { s with heap := sortingHeap (copyHeap s.heap vs) (s.heap.objs.size + 1) vs } κ vs) (hL : vs.length ≤ sizeLine)
    (h : Q (.ref (s.heap.objs.size + 1)) { s with heap := sortedAll s.heap vs (sortVals κ false vs vs).toArray }) : wpAny (model prog w) A (call (.builtin "sorted") [.ref l]) Q E s := by
  refine call_function_entry kind_sorted plain_sorted entry_sorted (args_sorted1 _) ?_
  unfold Builtin.«sorted»
  refine wpAny_bind (m := checkCount "sorted" 1 1 _) (wpAny_pure ?_)
  refine wpAny_bind (collect_tup hl ?_ hL)
  refine wpAny_bind (wpAny_newList ?_ hL)
  have hsz : ((s.heap.push (seqObj "list" #[] 0)).update s.heap.objs.size (Obj.mapSeq (· ++ vs.toArray))).objs.size = s.heap.objs.size + 1 := by
    rw [Heap.size_update, size_push']
  show wpAny _ _ _ _ _ { s with heap := copyHeap s.heap vs }
  rw [hsz]
  refine wpAny_bind (wpAny_holding (wpAny_call_entry slot_list_sort ⟨_, copyHeap_at s.heap vs, rfl⟩ entry_list_sort ?body (args_list_sort _)))
  case body =>
    exact list_sort_vals (s := { s with heap := copyHeap s.heap vs }) (copyHeap_at s.heap vs) S hL ⟨_, rfl, wpAny_pure ⟨_, rfl, h⟩⟩
end
section
variable {X : Cx} {T : Tb} {ds : List D}
def rSortTp (K : PySem.W.Frag) : List V → Hp → VK → Prop := fun vs H Q => ∃ (G : Hp) (a : Addr) (xs : List V) (ds : List D), vs = [.ref a] ∧ SqT K H a xs ∧ Sub G H ∧ Reps G xs ds ∧ SortD ds ∧ ∀ p ys, H p = none → Reps G ys (srt ds) → Q (.ref p) (upd H p (.lst ys))
theorem cr_sortTp (hu : X.A.units + 64 < cLine) : CallR X (.builtin "sorted") (rSortTp X.K) := by
  intro pins s σ H vs us Q I r h
  obtain ⟨G, a, xs, ds, rfl, hS, sG, rD, ok, q⟩ := h
  obtain ⟨u, rfl, ru⟩ := vals1 r
  cases ru
  obtain ⟨its, rv, pl, hz⟩ := I.tuple hS
  have e1 := each_of rD rv
  have e2 := each_reads I (each_of (rD.mono sG) rv) ok.self
  have hl : its.length = ds.length := e1.length
  have fin : ∀ out : List Value, out.length = ds.length → EachIs (RV G) out (srt ds) → EP X pins σ Q (.ref (s.heap.objs.size + 1)) { s with heap := sortedAll s.heap its out.toArray } := fun out ho eo => by
    obtain ⟨n, hn⟩ := sortedAll_at s.heap its out.toArray
    refine laid_vals (tk := s.toks) I (fun b o e => sortedAll_old e) (Nat.le_succ _) hn eo ?_ q
    unfold srt
    rw [List.length_mergeSort]
    exact ok.2.2.1
  have hd : ∀ d ∈ ds, X.A.units + 2 + d.depth < cLine := fun d hd => by
    have := ok.2.2.2 d hd
    omega
  have e2' : EachIs (fun v b => ∃ as, Reads (PySem.W.sortingHeap (PySem.W.copyHeap s.heap its) (s.heap.objs.size + 1) its) v b as) its ds := e2.mono fun _ _ ⟨as, r⟩ => ⟨as, Reads.keeps (fun _ _ => PySem.W.sorting_copy_old) r⟩
  have S : PySem.W.SortsAt X.prog X.w X.A.in1.in1 { s with heap := PySem.W.sortingHeap (PySem.W.copyHeap s.heap its) (s.heap.objs.size + 1) its } (PySem.W.dataKind (PySem.W.sortingHeap (PySem.W.copyHeap s.heap its) (s.heap.objs.size + 1) its) ds) its := by
    rcases ok.2.1 with hs | ⟨ht, h0⟩
    · exact PySem.W.SortsAt.data e2' ok.1 hs hd
    · exact sorts_e e2' ok.1 ht h0 hd
  refine sorted_valsT pl S (by rw [hl]; exact ok.2.2.1) (fin _ (by rw [PySem.W.sortVals_length false rfl]; exact hl) ?_)
  have z := PySem.W.sortVals_data (h' := PySem.W.sortingHeap (PySem.W.copyHeap s.heap its) (s.heap.objs.size + 1) its) (enc := fun d : D => d) false e1 e2' (by rw [List.map_id']; exact ok.1)
  rw [List.map_id'] at z
  exact z
theorem k_sortTp (K : PySem.W.Frag) (hu : X.A.units + 64 < cLine) (hK : X.K = K := by rfl) : CallR X (.builtin "sorted") (rSortTp K) := hK ▸ cr_sortTp hu
theorem cl_sortTp {K : PySem.W.Frag} (h : SortD ds) : ClD T (rSortTp K) [.tuple ds] (.list (srt ds)) := fun G H vs Q w r k => by
  cases r with
  | cons q t =>
    cases t
    cases q with
    | tup hp r =>
      refine ⟨G, _, _, ds, rfl, .inl (Rd.of (w.s _ _ hp)), w.s, r, h, fun p ys hq ry => ?_⟩
      obtain ⟨G', g, q⟩ := w.newL hq ry
      exact k _ _ _ g q
end
end Pf
set_option Elab.async false
set_option linter.all false
set_option maxRecDepth 100000
set_option maxHeartbeats 4000000
namespace Pf
open PySem L2
open PySem.Calls
/-! ### orders of pairs and of foldings -/
theorem dle (x y : D) : PySem.W.dataLe false (fun d => d) x y = !PySem.W.dataLt y x := rfl
theorem lt_pair (p q : Pr) : PySem.W.dataLt (encP p) (encP q) = decide (p.1 < q.1 ∨ (p.1 = q.1 ∧ p.2 < q.2)) := PySem.W.dataLt_ii _ _ _ _
theorem lt_up {p q : Pr} (h : p.1 < q.1) : PySem.W.dataLt (encP p) (encP q) = true := by rw [lt_pair]; exact decide_eq_true (.inl h)
theorem lt_dn {p q : Pr} (h : p.1 < q.1) : PySem.W.dataLt (encP q) (encP p) = false := by rw [lt_pair, decide_eq_false_iff_not]; omega
theorem srt_up {F : Fo} (h : F.Pairwise fun p q => p.1 < q.1) : srt (F.map encP) = F.map encP := by
  unfold srt
  refine List.mergeSort_of_pairwise ?_
  rw [List.pairwise_map]
  exact h.imp fun {p q} hpq => by rw [dle, lt_dn hpq]; rfl
theorem maxL_up : ∀ (F : Fo) (p : Pr), (p :: F).Pairwise (fun p q => p.1 < q.1) → maxL (encP p) (F.map encP) = encP (F.getLastD p)
  | [], p, _ => rfl
  | q :: r, p, h => by
    obtain ⟨h1, h2⟩ := List.pairwise_cons.mp h
    show maxL (if PySem.W.dataLt (encP p) (encP q) = true then encP q else encP p) (r.map encP) = _
    rw [if_pos (lt_up (h1 q List.mem_cons_self)), maxL_up r q h2]
    cases r <;> rfl
theorem depth_P (p : Pr) : (encP p).depth = 1 := by simp [PyData.depth, PyData.depthAll]
theorem depth_Ps (F : Fo) : PyData.depthAll (F.map encP) ≤ 1 := by
  induction F with
  | nil => simp [PyData.depthAll]
  | cons a r ih => rw [List.map_cons, PyData.depthAll, depth_P]; omega
theorem depth_F (F : Fo) : (encF F).depth ≤ 2 := by
  have := depth_Ps F
  unfold encF
  rw [PyData.depth]
  omega
theorem alike_Ps : ∀ (F G : Fo), PySem.W.alikeAll (F.map encP) (G.map encP) = true
  | [], [] => by simp [PySem.W.alikeAll]
  | [], _ :: _ => by simp [PySem.W.alikeAll]
  | _ :: _, [] => by simp [PySem.W.alikeAll]
  | p :: F, q :: G => by rw [List.map_cons, List.map_cons, PySem.W.alikeAll, encP_alike, alike_Ps F G]; rfl
theorem alike_F (F G : Fo) : PySem.W.alike (encF F) (encF G) = true := by
  unfold encF
  rw [PySem.W.alike]
  exact alike_Ps F G
theorem sortD_pairs (F : Fo) (h : F.length ≤ 1000) : SortD (F.map encP) := by
  refine ⟨fun d hd e he => ?_, .inl (.inl ?_), by rw [List.length_map]; exact le16 (by omega), fun d hd => ?_⟩
  · obtain ⟨x, _, rfl⟩ := List.mem_map.mp hd
    obtain ⟨y, _, rfl⟩ := List.mem_map.mp he
    exact encP_alike x y
  · intro d hd
    obtain ⟨x, _, rfl⟩ := List.mem_map.mp hd
    exact ⟨_, _, rfl⟩
  · obtain ⟨x, _, rfl⟩ := List.mem_map.mp hd
    rw [depth_P]; omega
theorem sortD_folds (Fs : List Fo) (h : Fs.length ≤ 1000) (h0 : Fs.head? = some []) : SortD (Fs.map encF) := by
  refine ⟨fun d hd e he => ?_, .inr ⟨fun d hd => ?_, ?_⟩, by rw [List.length_map]; exact le16 (by omega), fun d hd => ?_⟩
  · obtain ⟨x, _, rfl⟩ := List.mem_map.mp hd
    obtain ⟨y, _, rfl⟩ := List.mem_map.mp he
    exact alike_F x y
  · obtain ⟨x, _, rfl⟩ := List.mem_map.mp hd
    exact ⟨_, rfl⟩
  · rw [List.head?_map, h0]; rfl
  · obtain ⟨x, _, rfl⟩ := List.mem_map.mp hd
    have := depth_F x
    omega
theorem ordD_pairs (F : Fo) : OrdD (F.map encP) := by
  refine ⟨⟨fun d hd e he => ?_, fun d hd e => ?_⟩, ?_⟩
  · obtain ⟨x, _, rfl⟩ := List.mem_map.mp hd
    obtain ⟨y, _, rfl⟩ := List.mem_map.mp he
    exact encP_alike x y
  · obtain ⟨x, _, rfl⟩ := List.mem_map.mp hd
    cases e
  · have := depth_Ps F
    omega
theorem ordD_T (b : Book) (s s2 : Str) (Fs : List Fo) : OrdD (Fs.map (encT b s s2)) := by
  refine ⟨⟨fun d hd e he => ?_, fun d hd e => ?_⟩, ?_⟩
  · obtain ⟨x, _, rfl⟩ := List.mem_map.mp hd
    obtain ⟨y, _, rfl⟩ := List.mem_map.mp he
    have := alike_F x y
    simp [PySem.W.alike, PySem.W.alikeAll] at this ⊢
    exact this
  · obtain ⟨x, _, rfl⟩ := List.mem_map.mp hd
    cases e
  · induction Fs with
    | nil => simp [PyData.depthAll]
    | cons a r ih =>
      rw [List.map_cons, PyData.depthAll]
      have := depth_F a
      have e : (encT b s s2 a).depth ≤ 4 := by unfold encT; simp only [PyData.depth, PyData.depthAll]; simp only [encF, PyData.depth] at this; omega
      omega
theorem minL_T (b : Book) (s s2 : Str) : ∀ (Fs : List Fo) (F : Fo), minL (encT b s s2 F) (Fs.map (encT b s s2)) = encT b s s2 (minF b s s2 (F :: Fs))
  | [], F => rfl
  | G :: Fs, F => by
    show minL (if PySem.W.dataLt (encT b s s2 G) (encT b s s2 F) = true then encT b s s2 G else encT b s s2 F) (Fs.map (encT b s s2)) = _
    rw [show minF b s s2 (F :: G :: Fs) = minF b s s2 ((if PySem.W.dataLt (encT b s s2 G) (encT b s s2 F) = true then G else F) :: Fs) from rfl]
    rw [← minL_T b s s2 Fs]
    congr 1
    split <;> rfl
theorem eqv_pairs (F : Fo) : PyData.eqv (.list (F.map encP)) (.list (F.map encP)) = true := PySem.W.eqv_refl_alike _ (by rw [PySem.W.alike]; exact alike_Ps F F)
theorem filt_map {α : Type} (p : α → Bool) (out : α → D) : ∀ xs : List α, xs.filterMap (fun x => if p x = true then some (out x) else none) = (xs.filter p).map out
  | [] => rfl
  | a :: r => by
    have ih := filt_map p out r
    by_cases q : p a = true <;> simp [q, List.filter_cons, List.filterMap_cons, ih]
section
variable {T : Tb} {ρ : En} {te : TE} {tt : TT} {N : En → Prop} {R : D → Prop}
theorem sv_lcFO {α : Type} {wi : TI} {g : TG} {is vs : List Nat} {i : Nat} (xs : List α) (enc : α → D) (p : α → Bool) (out : α → D) (hw : ∀ i ∈ is, i ∈ vs) (h : EvI T wi ρ (xs.map enc)) (hz : xs.length ≤ sizeLine)
    (hs : ∀ x ∈ xs, ∃ ρ', EvG T g is (wipeE ρ vs) (enc x) ρ' ∧ EvT T tt ρ' (p x) ∧ (p x = true → Ev T te ρ' (out x))) (n : noOwn ρ = true) (k : N (ρ.set i (.own (.list ((xs.filter p).map out))))) : Sv T (tAsg (tLc wi g tt te vs) (gName i)) ρ N R :=
  sv_lcO xs enc (fun x => if p x = true then some (out x) else none) hw h hz (fun x hx => by
    obtain ⟨ρ', h1, h2, h3⟩ := hs x hx
    exact ⟨ρ', p x, h1, h2, fun e => ⟨_, h3 e, if_pos e⟩, fun e => by rw [e]; rfl⟩) (fun j e q => (noOwn_at n q).elim) (by rw [filt_map]; exact k)
end
theorem last_up {F : Fo} {c : Pr → Bool} (h : F.Pairwise fun p q => p.1 < q.1) : (F.filter c).Pairwise fun p q => p.1 < q.1 := h.sublist List.filter_sublist
theorem max_nick {G : Fo} (h : G.Pairwise fun p q => p.1 < q.1) : (∃ p r, G = p :: r ∧ maxL (encP p) (r.map encP) = optP G.getLast?) ∨ (G = [] ∧ optP G.getLast? = .none) := by
  cases G with
  | nil => exact .inr ⟨rfl, rfl⟩
  | cons p r =>
    refine .inl ⟨p, r, rfl, ?_⟩
    rw [maxL_up r p h, List.getLast?_cons, List.getLastD_eq_getLast?]
    rfl
section
variable {T : Tb} {ρ : En} {K : PySem.W.Frag} {L : Addr}
theorem ev_index {ks : List Str} {z : Str} {j : Nat} (hp : ∃ o, K.lookup L = some o ∧ o.cls = .type "tuple" ∧ o.dict = none) (hL : ∀ H, SqT K H L (ks.map V.str)) (hj : ks[j]? = some z) (hf : ∀ m, m < j → ks[m]? ≠ some z) :
    Ev T (tBM K "tuple" (fun x xs H Q => ∃ p, ∃ ys : List Str, ∃ z j, x = .ref p ∧ xs = [.str z] ∧ SqT K H p (ys.map V.str) ∧ ys[j]? = some z ∧ (∀ m, m < j → ys[m]? ≠ some z) ∧ Q (.int (j : Nat)) H) (tC (.ref L)) (tCons (tC (.str z)) tNil)) ρ (.int (j : Nat)) := fun G0 H0 G H σ Q S k => by
  obtain ⟨o, h1, h2, h3⟩ := hp
  refine ⟨?_, L, ks, z, j, rfl, rfl, hL H, hj, hf, k _ G H S.wf.go (.int _)⟩
  exact .inr (.inl ⟨rfl, o, h1, h2, h3⟩)
end
/-! ### a loop that puts a list together -/
section
variable {T : Tb} {ρ : En} {ts : TS} {N : En → Prop} {R : D → Prop}
theorem sv_forCat {α : Type} {wi : TI} {g : TG} {is : List Nat} (xs : List α) (enc : α → D) (out : α → List D) (ρ0 : En) (slot : Nat) (acc : List D) (c : Nat) (h : EvI T wi ρ (xs.map enc)) (h0 : Le ρ (ρ0.set slot (.dat (.list acc)))) (hc : acc.length + (xs.flatMap out).length ≤ c)
    (hs : ∀ (a : α) (as : List D), a ∈ xs → as.length + (out a).length ≤ c → ∃ ρ', EvG T g is (ρ0.set slot (.dat (.list as))) (enc a) ρ' ∧ Sv T ts ρ' (fun ρ3 => Le ρ3 (ρ0.set slot (.dat (.list (as ++ out a))))) R)
    (hd : N (ρ0.set slot (.dat (.list (acc ++ xs.flatMap out))))) : Sv T (tFor wi g ts) ρ N R := by
  refine sv_for (is := is) xs enc (fun i => ρ0.set slot (.dat (.list (acc ++ (xs.take i).flatMap out)))) h (by simpa using h0) (fun i x hx => ?_) (by rw [List.take_length]; exact hd)
  have hl : (acc ++ (xs.take i).flatMap out).length + (out x).length ≤ c := by
    have e := take_flatMap_succ (f := out) hx
    have l := flat_le out xs (i + 1)
    rw [e, List.length_append] at l
    rw [List.length_append]
    omega
  obtain ⟨ρ', h1, h2⟩ := hs x _ (List.mem_of_getElem? hx) hl
  refine ⟨ρ', h1, ?_⟩
  rw [take_flatMap_succ hx, ← List.append_assoc]
  exact h2
end
/-! ### no call at all -/
theorem cal_none {P : Program} {w : World} {K : PySem.W.Frag} {mg : Str → Option Value} {base : Heap} {T : Tb} {k : Nat} {x y : Str} {N ps : List Str} {F : SpF} {params : Arguments} {body : List Stmt} {scope : Scope} {f : Addr} {fd : FuncData}
    (D : FunD K y y params body scope [] [] f fd) (sc : FnScope N ps scope) (gm : mg x = some (.ref f))
    (hb : ∀ (kV doc pm : Value) (an : Option Addr) (cdv ct : Value) (us : List Value), us.length = ps.length → bindArgs (PySem.W.fnOf y y params body scope .none kV doc pm an cdv ct) ⟨us, []⟩ = pure (ps.zip us)) (hF : ∀ ds P, ¬ F ds P) : Cal P w K mg base T (k + 1) x ps F := by
  refine ⟨f, fd, gm, D.kp, D.bindsN hb, D.ok sc (fun vs H Q E h => len_of h fun ds P h => absurd h (hF ds P)) fun cdv A outer s H vs Q E hr h => ?_⟩
  obtain ⟨_, ds, P, _, _, h, _⟩ := h
  exact absurd h (hF ds P)
theorem FL_le {m : Int → Int → Bool} {f e : Int} (h : e - f ≤ 8) : ∀ F ∈ FL m f e, f ≤ e → F.length ≤ 8 := fun F hF hfe => by
  have := ((FL_proper f e F hF).1).len hfe
  omega
theorem FLs_flat (m : Int → Int → Bool) {f e : Int} (h : ¬ e ≤ f + 1) : (FL m f e).map encF = (FL m (f + 1) e).map encF ++ (rng (f + 1) e).flatMap fun k => (grow m f e k).map encF := by
  rw [FL_step h, List.map_append, List.map_flatMap]
theorem grow_enc {m : Int → Int → Bool} {f e k : Int} (h : m f k = true) : (grow m f e k).map encF = (FL m (f + 1) k).flatMap fun a => (FL m (k + 1) e).map fun c => encF ((f, k) :: (a ++ c)) := by
  unfold grow
  rw [if_pos h, List.map_flatMap]
  simp only [List.map_map]
  rfl
theorem grow_no {m : Int → Int → Bool} {f e k : Int} (h : m f k = false) : grow m f e k = [] := by
  unfold grow
  rw [if_neg (by rw [h]; exact Bool.false_ne_true)]
theorem heldB_nil (b : Book) (n : Int) : heldB b n [] = true := rfl
theorem heldKs_ne (b : Book) (s s2 : Str) : heldKs b s s2 ≠ [] := fun h => by
  have h1 : [] ∈ FL (mh b (s ++ s2)) 0 (s ++ s2).length := List.mem_of_mem_head? (FL_head (m := mh b (s ++ s2)) 0 (s ++ s2).length ▸ rfl)
  have h2 : [] ∈ heldKs b s s2 := (sortF_perm _).mem_iff.mpr (List.mem_filter.mpr ⟨h1, heldB_nil b s.length⟩)
  rw [h] at h2
  cases h2
theorem heldKs_len (b : Book) (s s2 : Str) (h : (s ++ s2).length ≤ 8) : (heldKs b s s2).length ≤ 323 := by
  unfold heldKs
  rw [(sortF_perm _).length_eq]
  have h1 := List.length_filter_le (heldB b s.length) (FL (mh b (s ++ s2)) 0 (s ++ s2).length)
  have h2 := len_FL (m := mh b (s ++ s2)) (f := 0) (e := (s ++ s2).length) (by omega)
  omega
/-! ### counting -/
section
variable {T : Tb} {ρ ρ' : En} {N : En → Prop} {R : D → Prop} {ts : TS}
theorem sv_forIx {α σ : Type} {wi : TI} {g : TG} {is : List Nat} (xs : List α) (enc : α → D) (a0 : σ) (step : σ → α → σ) (Rn : σ → En) (I : Nat → σ → Prop) (h : EvI T wi ρ (xs.map enc)) (h0 : Le ρ (Rn a0)) (hI0 : I 0 a0)
    (hI : ∀ i a x, xs[i]? = some x → I i a → I (i + 1) (step a x))
    (hs : ∀ (i : Nat) (a : σ) (x : α), xs[i]? = some x → I i a → ∃ ρ', EvG T g is (Rn a) (enc x) ρ' ∧ Sv T ts ρ' (fun ρ3 => Le ρ3 (Rn (step a x))) R) (hd : I xs.length (xs.foldl step a0) → N (Rn (xs.foldl step a0))) : Sv T (tFor wi g ts) ρ N R := by
  have hi : ∀ i, i ≤ xs.length → I i ((xs.take i).foldl step a0) := fun i => by
    induction i with
    | zero => intro _; exact hI0
    | succ i ih =>
      intro hl
      rw [List.take_add_one, List.getElem?_eq_getElem (show i < xs.length by omega), List.foldl_append]
      exact hI i _ _ (List.getElem?_eq_getElem (by omega)) (ih (by omega))
  have hd' := hd (by have := hi xs.length (Nat.le_refl _); rwa [List.take_length] at this)
  refine sv_for (is := is) xs enc (fun i => Rn ((xs.take i).foldl step a0)) h h0 (fun i x hx => ?_) (by rw [List.take_length]; exact hd')
  have hlt : i < xs.length := by
    rcases Nat.lt_or_ge i xs.length with h | h
    · exact h
    · rw [List.getElem?_eq_none h] at hx; cases hx
  obtain ⟨ρ', h1, h2⟩ := hs i _ x hx (hi i (by omega))
  refine ⟨ρ', h1, ?_⟩
  rw [List.take_add_one, hx, List.foldl_append]
  exact h2
/-- the invariant as it holds at every stage of a fold -/
theorem fold_inv {α σ : Type} (xs : List α) (step : σ → α → σ) (a0 : σ) (I : Nat → σ → Prop) (h0 : I 0 a0) (hI : ∀ i a x, xs[i]? = some x → I i a → I (i + 1) (step a x)) : I xs.length (xs.foldl step a0) := by
  have hi : ∀ i, i ≤ xs.length → I i ((xs.take i).foldl step a0) := fun i => by
    induction i with
    | zero => intro _; exact h0
    | succ i ih =>
      intro hl
      rw [List.take_add_one, List.getElem?_eq_getElem (show i < xs.length by omega), List.foldl_append]
      exact hI i _ _ (List.getElem?_eq_getElem (by omega)) (ih (by omega))
  have := hi xs.length (Nat.le_refl _)
  rwa [List.take_length] at this
end
theorem rng_at {lo hi x : Int} {i : Nat} (h : (rng lo hi)[i]? = some x) : x = lo + i ∧ x < hi := by
  have hm := mem_rng.mp (List.mem_of_getElem? h)
  unfold rng at h
  rw [List.getElem?_map] at h
  obtain ⟨j, hj, e⟩ := Option.map_eq_some_iff.mp h
  have hl := (List.getElem?_eq_some_iff.mp hj).1
  have : j = i := by
    have := (List.getElem?_eq_some_iff.mp hj).2
    simpa using this.symm
  omega
theorem downs_at {n x : Int} {i : Nat} (h : (downs n)[i]? = some x) : x = n - i ∧ (i : Int) ≤ n := by
  unfold downs at h
  rw [List.getElem?_map] at h
  obtain ⟨j, hj, e⟩ := Option.map_eq_some_iff.mp h
  have hl := (List.getElem?_eq_some_iff.mp hj).1
  rw [List.length_range] at hl
  have : j = i := by
    have := (List.getElem?_eq_some_iff.mp hj).2
    simpa using this.symm
  omega
theorem len_downsE {n : Int} (h : 0 ≤ n) : (downs n).length = (n + 1).toNat := by unfold downs; simp
def cn (b : Book) (s : Str) (f e : Int) : Int := ((FL (mp b s) f e).length : Nat)
theorem cn_one {b : Book} {s : Str} {f e : Int} (h : e ≤ f + 1) : cn b s f e = 1 := by unfold cn; rw [FL_small h]; rfl
theorem cn_bound {b : Book} {s : Str} {f e : Int} (h : e - f ≤ 8) : 0 ≤ cn b s f e ∧ cn b s f e ≤ 323 := by
  have := len_FL (m := mp b s) h
  unfold cn
  omega
def cnStep (b : Book) (s : Str) (f e : Int) (a k : Int) : Int := a + if mp b s f k = true then cn b s (f + 1) k * cn b s (k + 1) e else 0
theorem cn_fold (b : Book) (s : Str) (f e : Int) : (rng (f + 1) e).foldl (cnStep b s f e) (if e ≤ f + 1 then 1 else cn b s (f + 1) e) = cn b s f e := by
  by_cases h : e ≤ f + 1
  · rw [if_pos h, cn_one h]
    have : rng (f + 1) e = [] := List.eq_nil_of_length_eq_zero (by rw [len_rng]; omega)
    rw [this]
    rfl
  · rw [if_neg h]
    show _ = (((FL (mp b s) f e).length : Nat) : Int)
    rw [FL_step h, List.length_append]
    have : ∀ (ks : List Int) (a : Nat), ks.foldl (cnStep b s f e) (a : Int) = ((a + (ks.flatMap (grow (mp b s) f e)).length : Nat) : Int) := fun ks => by
      induction ks with
      | nil => intro a; rfl
      | cons k r ih =>
        intro a
        have e1 : cnStep b s f e (a : Int) k = ((a + (grow (mp b s) f e k).length : Nat) : Int) := by
          unfold cnStep cn
          rw [len_grow]
          split
          · push_cast; rfl
          · push_cast; rfl
        rw [List.foldl_cons, e1, ih, List.flatMap_cons, List.length_append]
        congr 1
        omega
    exact this _ _
/-! the table of the counts -/
def cnPut (b : Book) (s : Str) (f : Int) (es : List (List Key × D)) (e : Int) : List (List Key × D) := ptD es (k2 f e) (.int (cn b s f e))
def cnRow (b : Book) (s : Str) (es : List (List Key × D)) (f : Int) : List (List Key × D) := (rng f (s.length + 1)).foldl (cnPut b s f) es
/-- what the table has: all rows behind f0, of the row f0 all ahead of e0 -/
def CnI (b : Book) (s : Str) (f0 e0 : Int) (es : List (List Key × D)) : Prop := ∀ f e : Int, 0 ≤ f → f ≤ e → e ≤ s.length → (f0 < f ∨ (f = f0 ∧ e < e0)) → lkp es (k2 f e) = some (.int (cn b s f e))
theorem k2_inj {f e f' e' : Int} : (k2 f e = k2 f' e') ↔ f = f' ∧ e = e' := by unfold k2; simp
theorem cnI_put {b : Book} {s : Str} {f0 e0 : Int} {es : List (List Key × D)} (h : CnI b s f0 e0 es) : CnI b s f0 (e0 + 1) (cnPut b s f0 es e0) := fun f e h1 h2 h3 h4 => by
  unfold cnPut
  rw [lkp_ptD]
  by_cases q : k2 f0 e0 = k2 f e
  · rw [if_pos q]
    obtain ⟨rfl, rfl⟩ := k2_inj.mp q
    rfl
  · rw [if_neg q]
    refine h f e h1 h2 h3 ?_
    rcases h4 with h4 | ⟨rfl, h4⟩
    · exact .inl h4
    · refine .inr ⟨rfl, ?_⟩
      by_cases h5 : e < e0
      · exact h5
      · exact absurd (k2_inj.mpr ⟨rfl, by omega⟩) q
theorem cnI_next {b : Book} {s : Str} {f0 : Int} {es : List (List Key × D)} (h : CnI b s f0 (s.length + 1) es) : CnI b s (f0 - 1) (f0 - 1) es := fun f e h1 h2 h3 h4 => by
  refine h f e h1 h2 h3 ?_
  rcases h4 with h4 | ⟨rfl, h4⟩
  · by_cases q : f = f0
    · exact .inr ⟨q, by omega⟩
    · exact .inl (by omega)
  · omega
theorem cnRow_inv {b : Book} {s : Str} {f : Int} {es : List (List Key × D)} (hf : f ≤ s.length) (h : CnI b s f f es) : CnI b s f (s.length + 1) (cnRow b s es f) ∧ (cnRow b s es f).length ≤ es.length + (rng f (s.length + 1)).length := by
  have := fold_inv (rng f (s.length + 1)) (cnPut b s f) es (fun i es' => CnI b s f (f + i) es' ∧ es'.length ≤ es.length + i) ⟨by simpa using h, by omega⟩ fun i a x hx ha => by
    have hx' := rng_at hx
    refine ⟨?_, ?_⟩
    · have := cnI_put ha.1
      rw [← hx'.1] at this
      rw [show f + ((i + 1 : Nat) : Int) = x + 1 by push_cast; omega]
      exact this
    · have := ptD_len a (k2 f x) (.int (cn b s f x))
      unfold cnPut
      have := ha.2
      omega
  rw [len_rng, show f + (((s.length : Int) + 1 - f).toNat : Int) = s.length + 1 by omega, ← len_rng] at this
  exact this
def cnTab (b : Book) (s : Str) : List (List Key × D) := (downs s.length).foldl (cnRow b s) []
def spWaysC : SpF := fun ds P => ∃ b s, ds = [encB b, .str s] ∧ s.length ≤ 8 ∧ P (dT (cnTab b s))
theorem cnRow_step {b : Book} {s : Str} (i : Nat) (es : List (List Key × D)) (f : Int) (hx : (downs s.length)[i]? = some f) (hI : CnI b s (s.length - i) (s.length - i) es ∧ es.length ≤ 20 * i) (h8 : s.length ≤ 8) : CnI b s (s.length - (i + 1 : Nat)) (s.length - (i + 1 : Nat)) (cnRow b s es f) ∧ (cnRow b s es f).length ≤ 20 * (i + 1) := by
  obtain ⟨h1, h2⟩ := downs_at hx
  rw [← h1] at hI
  obtain ⟨h3, h4⟩ := cnRow_inv (by omega) hI.1
  have := cnI_next h3
  refine ⟨by rw [show (s.length : Int) - ((i + 1 : Nat) : Int) = f - 1 by push_cast; omega]; exact this, ?_⟩
  have := len_rng f (s.length + 1)
  have := hI.2
  omega
theorem cnTab_at {b : Book} {s : Str} (h8 : s.length ≤ 8) (f e : Int) (h1 : 0 ≤ f) (h2 : f ≤ e) (h3 : e ≤ s.length) : lkp (cnTab b s) (k2 f e) = some (.int (cn b s f e)) := by
  have := (fold_inv (downs s.length) (cnRow b s) [] (fun i es => CnI b s (s.length - i) (s.length - i) es ∧ es.length ≤ 20 * i) ⟨fun f e h1 h2 h3 h4 => by omega, Nat.zero_le _⟩ fun i a x hx ha => cnRow_step i a x hx ha h8).1
  rw [len_downsE (by omega)] at this
  exact this f e h1 h2 h3 (.inl (by omega))
end Pf
set_option Elab.async false
set_option linter.all false
set_option maxRecDepth 100000
set_option maxHeartbeats 4000000
namespace Pf
open PySem PySem.Spec L2
open PyProof.Rows PySem.Calls
section
variable {P : Program} {w : World} {K : PySem.W.Frag} {mg : Str → Option Value} {base : Heap} {T : Tb} {L : Addr}
theorem sc_straight_within : FnScope (["folding", "pair", "first", "last", "found", "end", "one"] : List Str) (["folding", "pair"] : List Str) (defScope (topS 30)) := ⟨rfl, rfl, rfl, by decide +kernel, rfl, by decide +kernel, by decide +kernel⟩
theorem ok_straight_within {f : Addr} {fd : FuncData} (t : Tx K mg L) (F : FnP K "straight_within" 30 f fd) (gm : mg "straight_within" = some (.ref f)) : Cal P w K mg base T 1 "straight_within" ["folding", "pair"] spStraight := by
  have sc := sc_straight_within
  refine cal_of F sc gm (fun _ _ _ _ _ _ us hl => match us, hl with | [_, _], _ => rfl) (fun ds P hF => ?_) fun cdv A outer s H vs Q E hr => ?_
  · obtain ⟨_, _, rfl, _⟩ := hF; rfl
  · have hu := hu64 hr
    have hu1 := hu_of hr
    obtain ⟨tkM, hM⟩ := t.MOST
    refine ⟨_, PSs.nox (pss_cons (ps_asg (pe_ifExp (pt_cmpR op_isN (pv 1) pe_non (nomark _)) (pe_tup (pa_cons (pe_un un_neg pe_int) (pa_cons pe_non pa_nil))) (pv 1)) (k_pg_tup K (n := 2) rfl (pgs_cons (pg_name (i := 2) sc.nd rfl (.inl rfl)) (pgs_cons (pg_name (i := 3) sc.nd rfl (.inl rfl)) pgs_nil)))) (pss_cons (ps_set (i := 4) sc.nd rfl (.inl rfl) (pe_lst pa_nil)) (pss_cons (ps_set (i := 5) sc.nd rfl (.inl rfl) (pv 2)) (pss_cons (ps_for PassesOwn.never rfl (k_pi_tup K (pv 0)) (pg_name (i := 6) sc.nd rfl (.inl rfl)) (pss_one (ps_if (PW.pt (pw_and (pt_cmpR op_gt (pe_ix (k_ix_tup K) (pv 6) pe_int (fun _ _ => rfl)) (pv 5) (nomark _)) (pw_and1 (PW.pt (pw_or (pt_cmpR op_isN (pv 3) pe_non (nomark _)) (pw_or1 (pt_cmpR op_lt (pe_ix (k_ix_tup K) (pv 6) pe_int (fun _ _ => rfl)) (pv 3) (nomark _)))))))) (pss_cons (ps_expr (k_bm K PySem.F.plainAttrs_list PySem.F.slot_list_append PySem.F.type_list_append mt_append (pv 4) (pa_cons (pv 6) pa_nil))) (pss_one (ps_set (i := 5) sc.nd rfl (.inl rfl) (pe_ix (k_ix_tup K) (pv 6) pe_int (fun _ _ => rfl))))) pss_nil))) (pss_one (ps_ret (pv 4))))))), fun ds P hF => ?_⟩
    obtain ⟨F, o, rfl, hl, hP⟩ := hF
    refine sv_seq (sv_asgG (d := .tuple [.int (stF o), optD (stL o)]) (ev_if (b := o.isNone) (et_to (et_test (ev_op ev_v ev_non od_isN)) (isNone_optP o)) (fun h => ?_) (fun h => ?_)) (eg_tup (egs_cons eg_n (egs_cons eg_n egs_nil)) rfl) ?_)
    · cases o with
      | none => exact ev_tp (ea_cons (ev_un ev_int ud_i) (ea_cons ev_non ea_nil))
      | some p => cases h
    · cases o with
      | none => cases h
      | some p => exact ev_v
    rw [straight_eq] at hP
    generalize stF o = fi at hP ⊢
    generalize stL o = l at hP ⊢
    refine sv_seq (sv_newLn (ds := []) ea_nil ?_)
    refine sv_seq (sv_as ev_v ?_)
    refine sv_seq (sv_forFold (is := [6]) F encP (([], fi) : Fo × Int) (stStep l) (fun a => [.dat (encF F), .dat (optP o), .dat (.int fi), .dat (optD l), .own (.list (a.1.map encP)), .dat (.int a.2), .any]) (fun i a => a.1.length ≤ i) (ei_tup ev_v) (.same (.same (.same (.same (.same (.same (.any .nil))))))) (Nat.le_refl 0) (fun i a x hx ha => ?_) (fun i a x hx hlt ha => ⟨_, eg_n, ?_⟩) fun _ => ?_)
    · unfold stStep
      split
      · show (a.1 ++ [x]).length ≤ i + 1; rw [List.length_append, List.length_singleton]; omega
      · show a.1.length ≤ i + 1; omega
    · refine sv_if (b := okIn a.2 l x) (et_to (et_and (b := l.isNone || decide (x.2 < l.getD 0)) (et_test (ev_op (ev_op ev_v ev_int (od_ixT at0)) ev_v od_b)) fun _ => et_or (a := l.isNone) (et_to (et_test (ev_op ev_v ev_non od_isN)) (isNone_optD l)) (fun h => ?_)) ?_) (fun h => ?_) (fun h => sv_next ?_)
      · cases l with
        | none => cases h
        | some z => exact et_test (ev_op (ev_op ev_v ev_int (od_ixT (atI_nat (j := 1) rfl))) ev_v od_b)
      · rfl
      · rw [show stStep l a x = (a.1 ++ [x], x.2) from if_pos h]
        refine sv_seq (sv_append rfl ev_v (lt16 (by rw [List.length_map]; omega)) ?_)
        refine sv_as (ev_op ev_v ev_int (od_ixT (atI_nat (j := 1) rfl))) ?_
        rw [List.map_append]
        exact .same (.same (.same (.same (.same (.same (.any .nil))))))
      · rw [show stStep l a x = a from if_neg (by rw [h]; exact Bool.false_ne_true)]
        exact .same (.same (.same (.same (.same (.same (.any .nil))))))
    · refine sv_froze (i := 4) rfl (sv_ret ev_v ?_)
      rw [st_fold, List.nil_append]
      exact hP
theorem sc_free_within : FnScope (["pair", "inner", "first", "last"] : List Str) (["pair", "inner"] : List Str) (defScope (topS 31)) := ⟨rfl, rfl, rfl, by decide +kernel, rfl, by decide +kernel, by decide +kernel⟩
theorem ok_free_within {f : Addr} {fd : FuncData} (t : Tx K mg L) (F : FnP K "free_within" 31 f fd) (gm : mg "free_within" = some (.ref f)) : Cal P w K mg base T 1 "free_within" ["pair", "inner"] spFree := by
  have sc := sc_free_within
  refine cal_of F sc gm (fun _ _ _ _ _ _ us hl => match us, hl with | [_, _], _ => rfl) (fun ds P hF => ?_) fun cdv A outer s H vs Q E hr => ?_
  · obtain ⟨_, _, rfl, _⟩ := hF; rfl
  · have hu := hu64 hr
    have hu1 := hu_of hr
    obtain ⟨tkM, hM⟩ := t.MOST
    refine ⟨_, PSs.nox (pss_one (ps_ret (pe_op op_sub (pe_op op_sub (pe_op op_sub (pe_ix (k_ix_tup K) (pv 0) pe_int (fun _ _ => rfl)) (pe_ix (k_ix_tup K) (pv 0) pe_int (fun _ _ => rfl))) pe_int) (pe_callB (k_sum K rfl) (by rfl) t.sum boot_sum (pa_cons (pe_lc (own := [("first", 2), ("last", 3)]) rfl sc.nd (k_pi_list K (pv 1)) (blkOk_by (own := [("first", 2), ("last", 3)]) (N := (["pair", "inner", "first", "last"] : List Str)) (sc := defScope (topS 31)) (by decide +kernel)) (fun _ _ _ _ _ => (k_pg_tup K (n := 2) rfl (pgs_cons (pg_name (i := 2) sc.nd rfl (.inl rfl)) (pgs_cons (pg_name (i := 3) sc.nd rfl (.inl rfl)) pgs_nil)))) (fun _ _ _ _ _ => pts_nil) (fun _ _ _ _ _ => (pe_op op_add (pe_op op_sub (pv 3) (pv 2)) pe_int))) pa_nil))))), fun ds P hF => ?_⟩
    obtain ⟨p, G, rfl, hl, hP⟩ := hF
    exact sv_ret (ev_op (ev_op (ev_op (ev_op ev_v ev_int (od_ixT (atI_nat (j := 1) rfl))) (ev_op ev_v ev_int (od_ixT at0)) od_i) ev_int od_i) (ev_cb (ea_cons (Ev.to (ev_lcM (is := [2, 3]) G encP (fun q => .int (q.2 - q.1 + 1)) (by decide) (ei_list ev_v) (le16 (by omega)) fun q _ => ⟨_, eg_tup (egs_cons eg_n (egs_cons eg_n egs_nil)) rfl, ev_op (ev_op ev_v ev_v od_i) ev_int od_i⟩) (d' := .list ((G.map fun q => q.2 - q.1 + 1).map .int)) (by rw [List.map_map]; rfl)) ea_nil) cl_sum) od_i) hP
theorem sc_letters_of : FnScope (["string", "pair"] : List Str) (["string", "pair"] : List Str) (defScope (topS 32)) := ⟨rfl, rfl, rfl, by decide +kernel, rfl, by decide +kernel, by decide +kernel⟩
theorem ok_letters_of {f : Addr} {fd : FuncData} (t : Tx K mg L) (F : FnP K "letters_of" 32 f fd) (gm : mg "letters_of" = some (.ref f)) : Cal P w K mg base T 1 "letters_of" ["string", "pair"] spLetters := by
  have sc := sc_letters_of
  refine cal_of F sc gm (fun _ _ _ _ _ _ us hl => match us, hl with | [_, _], _ => rfl) (fun ds P hF => ?_) fun cdv A outer s H vs Q E hr => ?_
  · obtain ⟨_, _, rfl, _⟩ := hF; rfl
  · have hu := hu64 hr
    have hu1 := hu_of hr
    obtain ⟨tkM, hM⟩ := t.MOST
    refine ⟨_, PSs.nox (pss_one (ps_ret (pe_op op_add_str (pe_ix ix_str (pv 0) (pe_ix (k_ix_tup K) (pv 1) pe_int (fun _ _ => rfl)) (fun _ _ => rfl)) (pe_ix ix_str (pv 0) (pe_ix (k_ix_tup K) (pv 1) pe_int (fun _ _ => rfl)) (fun _ _ => rfl))))), fun ds P hF => ?_⟩
    obtain ⟨s, p, rfl, ⟨h1, h⟩, hP⟩ := hF
    exact sv_ret (ev_op (ev_op ev_v (ev_op ev_v ev_int (od_ixT at0)) (od_ixS (le16 (by omega)) (ch_at h.a0 h.a1))) (ev_op ev_v (ev_op ev_v ev_int (od_ixT (atI_nat (j := 1) rfl))) (od_ixS (le16 (by omega)) (ch_at h.b0 h.b1))) (od_str (ble16 rfl))) hP
theorem sc_kind_of : FnScope (["inner", "free"] : List Str) (["inner", "free"] : List Str) (defScope (topS 33)) := ⟨rfl, rfl, rfl, by decide +kernel, rfl, by decide +kernel, by decide +kernel⟩
theorem ok_kind_of {f : Addr} {fd : FuncData} (t : Tx K mg L) (F : FnP K "kind_of" 33 f fd) (gm : mg "kind_of" = some (.ref f)) : Cal P w K mg base T 1 "kind_of" ["inner", "free"] spKind := by
  have sc := sc_kind_of
  refine cal_of F sc gm (fun _ _ _ _ _ _ us hl => match us, hl with | [_, _], _ => rfl) (fun ds P hF => ?_) fun cdv A outer s H vs Q E hr => ?_
  · obtain ⟨_, _, rfl, _⟩ := hF; rfl
  · have hu := hu64 hr
    have hu1 := hu_of hr
    obtain ⟨tkM, hM⟩ := t.MOST
    refine ⟨_, PSs.nox (pss_cons (ps_if (pt_cmpR (k_op_eqD K hu) (pv 0) (pe_lst pa_nil) (nomark _)) (pss_one (ps_ret pe_str)) pss_nil) (pss_cons (ps_if (pt_cmpR op_gt (pe_callB (k_len K) (by rfl) t.len boot_len (pa_cons (pv 0) pa_nil)) pe_int (nomark _)) (pss_one (ps_ret pe_str)) pss_nil) (pss_one (ps_ret (pe_ifExp (pt_cmpR op_eq (pv 1) pe_int (nomark _)) pe_str pe_str))))), fun ds P hF => ?_⟩
    obtain ⟨G, fr, rfl, hl, hP⟩ := hF
    unfold kindS at hP
    refine sv_seq (sv_if (b := decide (G = [])) (et_to (et_test (ev_op ev_v (ev_ls ea_nil) (od_eqD (okEq_pairs G).1 okNil))) (eqv_nil G)) (fun h => ?_) (fun h => sv_next ?_))
    · rw [if_pos (of_decide_eq_true h)] at hP
      exact sv_ret ev_str hP
    rw [if_neg (of_decide_eq_false h)] at hP
    refine sv_seq (sv_if (b := decide (1 < G.length)) (et_to (et_test (ev_op (ev_cb (ea_cons ev_v ea_nil) cl_lenL) ev_int od_b)) ?_) (fun h => ?_) (fun h => sv_next ?_))
    · rw [List.length_map, Bool.eq_iff_iff]; simp only [decide_eq_true_eq]; omega
    · rw [if_pos (of_decide_eq_true h)] at hP
      exact sv_ret ev_str hP
    rw [if_neg (of_decide_eq_false h)] at hP
    refine sv_ret (ev_if (b := decide (fr = 0)) (et_test (ev_op ev_v ev_int (od_eq rfl))) (fun h => ?_) (fun h => ?_)) hP
    · rw [if_pos (of_decide_eq_true h)]; exact ev_str
    · rw [if_neg (of_decide_eq_false h)]; exact ev_str
end
end Pf
set_option Elab.async false
set_option linter.all false
set_option maxRecDepth 100000
set_option maxHeartbeats 4000000
namespace Pf
open PySem PySem.Spec L2
open PyProof.Rows PySem.Calls
section
variable {P : Program} {w : World} {K : PySem.W.Frag} {mg : Str → Option Value} {base : Heap} {T : Tb} {L : Addr}
theorem sc_loop_of : FnScope (["rules", "string", "folding", "pair", "told", "inner", "free", "kind", "worth"] : List Str) (["rules", "string", "folding", "pair"] : List Str) (defScope (topS 34)) := ⟨rfl, rfl, rfl, by decide +kernel, rfl, by decide +kernel, by decide +kernel⟩
theorem ok_loop_of {f : Addr} {fd : FuncData} (t : Tx K mg L) (F : FnP K "loop_of" 34 f fd) (gm : mg "loop_of" = some (.ref f)) (c_straight_within : Cal P w K mg base T 1 "straight_within" ["folding", "pair"] spStraight) (c_free_within : Cal P w K mg base T 1 "free_within" ["pair", "inner"] spFree) (c_kind_of : Cal P w K mg base T 1 "kind_of" ["inner", "free"] spKind) (c_stack_worth : Cal P w K mg base T 1 "stack_worth" ["rules", "outer", "within"] spStackWorth) (c_letters_of : Cal P w K mg base T 1 "letters_of" ["string", "pair"] spLetters) : Cal P w K mg base T 2 "loop_of" ["rules", "string", "folding", "pair"] spLoop := by
  have sc := sc_loop_of
  refine cal_of F sc gm (fun _ _ _ _ _ _ us hl => match us, hl with | [_, _, _, _], _ => rfl) (fun ds P hF => ?_) fun cdv A outer s H vs Q E hr => ?_
  · obtain ⟨_, _, _, _, rfl, _⟩ := hF; rfl
  · have hu := hu64 hr
    have hu1 := hu_of hr
    obtain ⟨tkM, hM⟩ := t.MOST
    refine ⟨_, PSs.nox (pss_cons (ps_set (i := 4) sc.nd rfl (.inl rfl) (pe_callTy (k_dict K rfl) (by rfl) t.dict boot_dict (pa_cons (pe_listZip rfl (by rfl) t.list (by rfl) t.zip (pa_cons (pe_glob (v := .ref L) (by rfl) t.LOOPS rfl) (pa_cons (pe_ix (k_ix_tup K) (pv 0) pe_int (fun _ _ => rfl)) pa_nil))) pa_nil))) (pss_cons (ps_set (i := 5) sc.nd rfl (.inl rfl) (pe_cal c_straight_within hr (by decide) (by rfl) (pa_cons (pv 2) (pa_cons (pv 3) pa_nil)))) (pss_cons (ps_set (i := 6) sc.nd rfl (.inl rfl) (pe_cal c_free_within hr (by decide) (by rfl) (pa_cons (pv 3) (pa_cons (pv 5) pa_nil)))) (pss_cons (ps_set (i := 7) sc.nd rfl (.inl rfl) (pe_cal c_kind_of hr (by decide) (by rfl) (pa_cons (pv 5) (pa_cons (pv 6) pa_nil)))) (pss_cons (ps_set (i := 8) sc.nd rfl (.inl rfl) (pe_dget hu1 (pv 4) (pv 7) (fun _ _ => rfl))) (pss_cons (ps_if (pt_cmpR op_eq (pv 7) pe_str (nomark _)) (pss_one (ps_aug (i := 8) sc.nd rfl (.inl rfl) (pe_cal c_stack_worth hr (by decide) (by rfl) (pa_cons (pv 0) (pa_cons (pe_cal c_letters_of hr (by decide) (by rfl) (pa_cons (pv 1) (pa_cons (pv 3) pa_nil))) (pa_cons (pe_cal c_letters_of hr (by decide) (by rfl) (pa_cons (pv 1) (pa_cons (pe_ix (k_ix_list K) (pv 5) pe_int (fun _ _ => rfl)) pa_nil))) pa_nil)))) ip_add)) (pss_one (ps_if (pt_cmpR op_eq (pv 7) pe_str (nomark _)) (pss_one (ps_aug (i := 8) sc.nd rfl (.inl rfl) (pe_op op_add (pe_op op_mul (pe_callB (k_len K) (by rfl) t.len boot_len (pa_cons (pv 5) pa_nil)) (pe_dget hu1 (pv 4) pe_str (fun _ _ => rfl))) (pe_op op_mul (pv 6) (pe_dget hu1 (pv 4) pe_str (fun _ _ => rfl)))) ip_add)) (pss_one (ps_aug (i := 8) sc.nd rfl (.inl rfl) (pe_op op_mul (pv 6) (pe_dget hu1 (pv 4) (pe_op op_add_str (pv 7) pe_str) (fun _ _ => rfl))) ip_add))))) (pss_one (ps_ret (pe_tup (pa_cons (pv 7) (pa_cons (pv 6) (pa_cons (pv 8) pa_nil)))))))))))), fun ds P hF => ?_⟩
    obtain ⟨b, s, F, p, rfl, ⟨hb, hF, hp⟩, hP⟩ := hF
    have h12 := hF.s12
    have hfl := hF.len
    have hfr := hF.free hp (some p)
    have hat := hF.at_ hp
    refine sv_seq (sv_as (d := toldD b) (ev_cb (ea_cons (Ev.to (ev_listZip t.loops (ev_op ev_v ev_int (od_ixT rfl)) (by rw [List.length_map, hb.nk]; rfl)) (congrArg PyData.list (zip_pairs ..))) ea_nil) cl_dict) ?_)
    refine sv_seq (sv_as (ev_call (ea_cons ev_v (ea_cons ev_v ea_nil)) ⟨F, some p, rfl, by omega, rfl⟩) ?_)
    refine sv_seq (sv_as (ev_call (ea_cons ev_v (ea_cons ev_v ea_nil)) ⟨p, straight F (some p), rfl, by have := straight_len F (some p); omega, rfl⟩) ?_)
    refine sv_seq (sv_as (ev_call (ea_cons ev_v (ea_cons ev_v ea_nil)) ⟨straight F (some p), _, rfl, by have := straight_len F (some p); omega, rfl⟩) ?_)
    unfold loopW kindOf at hP
    have hsub := straight_sub F (some p)
    have hgl := straight_len F (some p)
    generalize straight F (some p) = G at hP hfr hsub hgl ⊢
    generalize free p G = fr at hP hfr ⊢
    unfold loopK at hP
    by_cases c1 : G = []
    · rw [if_pos c1] at hP
      rw [show kindS G fr = "lone" from if_pos c1] at hP ⊢
      refine sv_seq (sv_as (ev_get (k := .inr "lone") ev_v ev_v (told_at hb 6 (by decide))) ?_)
      refine sv_seq (sv_ifF (et_test (ev_op ev_v ev_str (od_eq rfl))) ?_)
      refine sv_ifF (et_test (ev_op ev_v ev_str (od_eq rfl))) ?_
      refine sv_aug rfl (ev_op ev_v (ev_get (k := .inr "lone free") ev_v (ev_op ev_v ev_str (od_str (ble16 rfl))) (told_at hb 7 (by decide))) (od_iC (.inl (by omega)))) ?_
      exact sv_ret (ev_tp (ea_cons ev_v (ea_cons ev_v (ea_cons ev_v ea_nil)))) hP
    rw [if_neg c1] at hP
    by_cases c2 : 1 < G.length
    · rw [if_pos c2] at hP
      rw [show kindS G fr = "forked" by unfold kindS; rw [if_neg c1, if_pos c2]] at hP ⊢
      refine sv_seq (sv_as (ev_get (k := .inr "forked") ev_v ev_v (told_at hb 3 (by decide))) ?_)
      refine sv_seq (sv_ifF (et_test (ev_op ev_v ev_str (od_eq rfl))) ?_)
      refine sv_ifT (et_test (ev_op ev_v ev_str (od_eq rfl))) ?_
      refine sv_aug rfl (ev_op (ev_op (ev_cb (ea_cons ev_v ea_nil) cl_lenL) (ev_get (k := .inr "branch") ev_v ev_str (told_at hb 4 (by decide))) (od_iC (.inl (by rw [List.length_map]; omega)))) (ev_op ev_v (ev_get (k := .inr "fork free") ev_v ev_str (told_at hb 5 (by decide))) (od_iC (.inl (by omega)))) od_i) ?_
      rw [List.length_map]
      exact sv_ret (ev_tp (ea_cons ev_v (ea_cons ev_v (ea_cons ev_v ea_nil)))) hP
    rw [if_neg c2] at hP
    by_cases c3 : fr = 0
    · rw [if_pos c3] at hP
      rw [show kindS G fr = "stacked" by unfold kindS; rw [if_neg c1, if_neg c2, if_pos c3]] at hP ⊢
      refine sv_seq (sv_as (ev_get (k := .inr "stacked") ev_v ev_v (told_at hb 0 (by decide))) ?_)
      refine sv_seq (sv_ifT (et_test (ev_op ev_v ev_str (od_eq rfl))) ?_)
      cases G with
      | nil => exact absurd rfl c1
      | cons q r =>
        have hq := hF.at_ (hsub q List.mem_cons_self)
        refine sv_aug rfl (ev_call (ea_cons ev_v (ea_cons (ev_call (ea_cons ev_v (ea_cons ev_v ea_nil)) ⟨s, p, rfl, ⟨by omega, hat⟩, rfl⟩) (ea_cons (ev_call (ea_cons ev_v (ea_cons (ev_op ev_v ev_int (od_ixL at0)) ea_nil)) ⟨s, q, rfl, ⟨by omega, hq⟩, rfl⟩) ea_nil))) ⟨b, _, _, rfl, ⟨hb, hF.ok.both _ _, hF.ok.both _ _⟩, rfl⟩) ?_
        exact sv_ret (ev_tp (ea_cons ev_v (ea_cons ev_v (ea_cons ev_v ea_nil)))) hP
    · rw [if_neg c3] at hP
      rw [show kindS G fr = "inner" by unfold kindS; rw [if_neg c1, if_neg c2, if_neg c3]] at hP ⊢
      refine sv_seq (sv_as (ev_get (k := .inr "inner") ev_v ev_v (told_at hb 1 (by decide))) ?_)
      refine sv_seq (sv_ifF (et_test (ev_op ev_v ev_str (od_eq rfl))) ?_)
      refine sv_ifF (et_test (ev_op ev_v ev_str (od_eq rfl))) ?_
      refine sv_aug rfl (ev_op ev_v (ev_get (k := .inr "inner free") ev_v (ev_op ev_v ev_str (od_str (ble16 rfl))) (told_at hb 2 (by decide))) (od_iC (.inl (by omega)))) ?_
      exact sv_ret (ev_tp (ea_cons ev_v (ea_cons ev_v (ea_cons ev_v ea_nil)))) hP
theorem sc_loops_of : FnScope (["rules", "string", "folding", "pair"] : List Str) (["rules", "string", "folding"] : List Str) (defScope (topS 35)) := ⟨rfl, rfl, rfl, by decide +kernel, rfl, by decide +kernel, by decide +kernel⟩
theorem ok_loops_of {f : Addr} {fd : FuncData} (t : Tx K mg L) (F : FnP K "loops_of" 35 f fd) (gm : mg "loops_of" = some (.ref f)) (c_loop_of : Cal P w K mg base T 2 "loop_of" ["rules", "string", "folding", "pair"] spLoop) : Cal P w K mg base T 3 "loops_of" ["rules", "string", "folding"] spLoops := by
  have sc := sc_loops_of
  refine cal_of F sc gm (fun _ _ _ _ _ _ us hl => match us, hl with | [_, _, _], _ => rfl) (fun ds P hF => ?_) fun cdv A outer s H vs Q E hr => ?_
  · obtain ⟨_, _, _, rfl, _⟩ := hF; rfl
  · have hu := hu64 hr
    have hu1 := hu_of hr
    obtain ⟨tkM, hM⟩ := t.MOST
    refine ⟨_, PSs.nox (pss_one (ps_ret (pe_lc (own := [("pair", 3)]) rfl sc.nd (k_pi_tup K (pv 2)) (blkOk_by (own := [("pair", 3)]) (N := (["rules", "string", "folding", "pair"] : List Str)) (sc := defScope (topS 35)) (by decide +kernel)) (fun _ _ _ _ _ => (pg_name (i := 3) sc.nd rfl (.inl rfl))) (fun _ _ _ _ _ => pts_nil) (fun _ _ _ _ _ => (pe_op (k_op_catT K) (pv 3) (pe_cal c_loop_of hr (by decide) (by rfl) (pa_cons (pv 0) (pa_cons (pv 1) (pa_cons (pv 2) (pa_cons (pv 3) pa_nil)))))))))), fun ds P hF => ?_⟩
    obtain ⟨b, s, F, rfl, ⟨hb, hF⟩, hP⟩ := hF
    have hfl := hF.len
    exact sv_ret (ev_lcM (is := [3]) F encP (encRow b s F) (by decide) (ei_tup ev_v) (le16 (by omega)) fun p hp => ⟨_, eg_n, ev_op ev_v (ev_call (ea_cons ev_v (ea_cons ev_v (ea_cons ev_v (ea_cons ev_v ea_nil)))) ⟨b, s, F, p, rfl, ⟨hb, hF, hp⟩, rfl⟩) (od_catT (ds := [.int p.1, .int p.2]) (by simp) (ble16 rfl))⟩) hP
theorem sc_worth_of : FnScope (["rules", "string", "folding", "open_worth", "pairs", "loops", "pair", "row"] : List Str) (["rules", "string", "folding"] : List Str) (defScope (topS 36)) := ⟨rfl, rfl, rfl, by decide +kernel, rfl, by decide +kernel, by decide +kernel⟩
theorem ok_worth_of {f : Addr} {fd : FuncData} (t : Tx K mg L) (F : FnP K "worth_of" 36 f fd) (gm : mg "worth_of" = some (.ref f)) (c_pair_worth : Cal P w K mg base T 1 "pair_worth" ["rules", "both"] spPairWorth) (c_letters_of : Cal P w K mg base T 1 "letters_of" ["string", "pair"] spLetters) (c_loops_of : Cal P w K mg base T 3 "loops_of" ["rules", "string", "folding"] spLoops) (c_straight_within : Cal P w K mg base T 1 "straight_within" ["folding", "pair"] spStraight) : Cal P w K mg base T 4 "worth_of" ["rules", "string", "folding"] spWorthOf := by
  have sc := sc_worth_of
  refine cal_of F sc gm (fun _ _ _ _ _ _ us hl => match us, hl with | [_, _, _], _ => rfl) (fun ds P hF => ?_) fun cdv A outer s H vs Q E hr => ?_
  · obtain ⟨_, _, _, rfl, _⟩ := hF; rfl
  · have hu := hu64 hr
    have hu1 := hu_of hr
    obtain ⟨tkM, hM⟩ := t.MOST
    refine ⟨_, PSs.nox (pss_cons (ps_set (i := 3) sc.nd rfl (.inl rfl) (pe_dget hu1 (pe_callTy (k_dict K rfl) (by rfl) t.dict boot_dict (pa_cons (pe_listZip rfl (by rfl) t.list (by rfl) t.zip (pa_cons (pe_glob (v := .ref L) (by rfl) t.LOOPS rfl) (pa_cons (pe_ix (k_ix_tup K) (pv 0) pe_int (fun _ _ => rfl)) pa_nil))) pa_nil)) pe_str (fun _ _ => rfl))) (pss_cons (ps_set (i := 4) sc.nd rfl (.inl rfl) (pe_callB (k_sum K rfl) (by rfl) t.sum boot_sum (pa_cons (pe_lc (own := [("pair", 6)]) rfl sc.nd (k_pi_tup K (pv 2)) (blkOk_by (own := [("pair", 6)]) (N := (["rules", "string", "folding", "open_worth", "pairs", "loops", "pair", "row"] : List Str)) (sc := defScope (topS 36)) (by decide +kernel)) (fun _ _ _ _ _ => (pg_name (i := 6) sc.nd rfl (.inl rfl))) (fun _ _ _ _ _ => pts_nil) (fun _ _ _ _ _ => (pe_cal c_pair_worth hr (by decide) (by rfl) (pa_cons (pv 0) (pa_cons (pe_cal c_letters_of hr (by decide) (by rfl) (pa_cons (pv 1) (pa_cons (pv 6) pa_nil))) pa_nil))))) pa_nil))) (pss_cons (ps_set (i := 5) sc.nd rfl (.inl rfl) (pe_callB (k_sum K rfl) (by rfl) t.sum boot_sum (pa_cons (pe_lc (own := [("row", 7)]) rfl sc.nd (k_pi_list K (pe_cal c_loops_of hr (by decide) (by rfl) (pa_cons (pv 0) (pa_cons (pv 1) (pa_cons (pv 2) pa_nil))))) (blkOk_by (own := [("row", 7)]) (N := (["rules", "string", "folding", "open_worth", "pairs", "loops", "pair", "row"] : List Str)) (sc := defScope (topS 36)) (by decide +kernel)) (fun _ _ _ _ _ => (pg_name (i := 7) sc.nd rfl (.inl rfl))) (fun _ _ _ _ _ => pts_nil) (fun _ _ _ _ _ => (pe_ix (k_ix_tup K) (pv 7) (pe_un un_neg pe_int) (fun _ _ => rfl)))) pa_nil))) (pss_one (ps_ret (pe_op op_add (pe_op op_add (pv 4) (pv 5)) (pe_op op_mul (pv 3) (pe_callB (k_len K) (by rfl) t.len boot_len (pa_cons (pe_cal c_straight_within hr (by decide) (by rfl) (pa_cons (pv 2) (pa_cons pe_non pa_nil))) pa_nil))))))))), fun ds P hF => ?_⟩
    obtain ⟨b, s, F, rfl, ⟨hb, hF, hw⟩, hP⟩ := hF
    have h12 := hF.s12
    have hfl := hF.len
    refine sv_seq (sv_as (ev_get (k := .inr "open") (ev_cb (ea_cons (Ev.to (ev_listZip t.loops (ev_op ev_v ev_int (od_ixT rfl)) (by rw [List.length_map, hb.nk]; rfl)) (congrArg PyData.list (zip_pairs ..))) ea_nil) cl_dict) ev_str (told_at hb 8 (by decide))) ?_)
    refine sv_seq (sv_as (ev_cb (ea_cons (Ev.to (ev_lcM (is := [6]) F encP (fun p => .int (pwI b s p)) (by decide) (ei_tup ev_v) (le16 (by omega)) fun p hp => ⟨_, eg_n, Ev.to (ev_call (ea_cons ev_v (ea_cons (ev_call (ea_cons ev_v (ea_cons ev_v ea_nil)) ⟨s, p, rfl, ⟨by omega, hF.at_ hp⟩, rfl⟩) ea_nil)) ⟨b, _, rfl, rfl⟩) (by rw [pw_some hw hp]; rfl)⟩) (d' := .list ((F.map (pwI b s)).map .int)) (by rw [List.map_map]; rfl)) ea_nil) cl_sum) ?_)
    refine sv_seq (sv_as (ev_cb (ea_cons (Ev.to (ev_lcM (is := [7]) F (encRow b s F) (fun p => .int (loopW b s F p)) (by decide) (ei_list (ev_call (ea_cons ev_v (ea_cons ev_v (ea_cons ev_v ea_nil))) ⟨b, s, F, rfl, ⟨hb, hF⟩, rfl⟩)) (le16 (by omega)) fun p hp => ⟨_, eg_n, ev_op ev_v (ev_un ev_int ud_i) (od_ixT rfl)⟩) (d' := .list ((F.map (loopW b s F)).map .int)) (by rw [List.map_map]; rfl)) ea_nil) cl_sum) ?_)
    have hgl := straight_len F none
    refine sv_ret (Ev.to (ev_op (ev_op ev_v ev_v od_i) (ev_op ev_v (ev_cb (ea_cons (ev_call (ea_cons ev_v (ea_cons ev_non ea_nil)) ⟨F, none, rfl, by omega, rfl⟩) ea_nil) cl_lenL) (od_iC (.inr (by rw [List.length_map]; omega)))) od_i) (by rw [List.length_map]; rfl)) hP
end
end Pf
set_option Elab.async false
set_option linter.all false
set_option maxRecDepth 100000
set_option maxHeartbeats 4000000
namespace Pf
open PySem PySem.Spec L2
open PyProof.Rows PySem.Calls
section
variable {P : Program} {w : World} {K : PySem.W.Frag} {mg : Str → Option Value} {base : Heap} {T : Tb} {L : Addr}
theorem sc_is_whole : FnScope (["thing"] : List Str) (["thing"] : List Str) (defScope (topS 38)) := ⟨rfl, rfl, rfl, by decide +kernel, rfl, by decide +kernel, by decide +kernel⟩
theorem ok_is_whole {f : Addr} {fd : FuncData} (t : Tx K mg L) (F : FnP K "is_whole" 38 f fd) (gm : mg "is_whole" = some (.ref f)) : Cal P w K mg base T 1 "is_whole" ["thing"] spIsWhole := by
  have sc := sc_is_whole
  refine cal_of F sc gm (fun _ _ _ _ _ _ us hl => match us, hl with | [_], _ => rfl) (fun ds P hF => ?_) fun cdv A outer s H vs Q E hr => ?_
  · obtain ⟨_, rfl, _⟩ := hF; rfl
  · have hu := hu64 hr
    have hu1 := hu_of hr
    obtain ⟨tkM, hM⟩ := t.MOST
    refine ⟨_, PSs.nox (pss_one (ps_ret (pe_and (pe_callB (k_isi K) (by rfl) t.isinstance boot_isinstance (pa_cons (pv 0) (pa_cons (pe_bltn (u := .type "int") (v := .ty "int") (by rfl) t.int boot_int rfl) pa_nil))) (pe_one (pe_not (pe_callB (k_isi K) (by rfl) t.isinstance boot_isinstance (pa_cons (pv 0) (pa_cons (pe_bltn (u := .type "bool") (v := .ty "bool") (by rfl) t.bool boot_bool rfl) pa_nil)))))))), fun ds P hF => ?_⟩
    obtain ⟨i, rfl, hP⟩ := hF
    exact sv_ret (Ev.to (ev_and2 (ev_isi (b := true) ev_v rfl (by intro _ e; cases e) rfl) fun _ => ev_notV (ev_isi (b := false) ev_v rfl (by intro _ e; cases e) rfl)) rfl) hP
theorem sc_are_pairs : FnScope (["size", "thing", "pair", "i", "j", "place", "p", "q"] : List Str) (["size", "thing"] : List Str) (defScope (topS 39)) := ⟨rfl, rfl, rfl, by decide +kernel, rfl, by decide +kernel, by decide +kernel⟩
theorem ok_are_pairs {f : Addr} {fd : FuncData} (t : Tx K mg L) (F : FnP K "are_pairs" 39 f fd) (gm : mg "are_pairs" = some (.ref f)) (c_is_whole : Cal P w K mg base T 1 "is_whole" ["thing"] spIsWhole) : Cal P w K mg base T 2 "are_pairs" ["size", "thing"] spArePairs := by
  have sc := sc_are_pairs
  refine cal_of F sc gm (fun _ _ _ _ _ _ us hl => match us, hl with | [_, _], _ => rfl) (fun ds P hF => ?_) fun cdv A outer s H vs Q E hr => ?_
  · obtain ⟨_, _, rfl, _⟩ := hF; rfl
  · have hu := hu64 hr
    have hu1 := hu_of hr
    obtain ⟨tkM, hM⟩ := t.MOST
    refine ⟨_, PSs.nox (pss_cons (ps_if (PW.pt (pw_or (pt_not (pt_val (pe_callB (k_isi K) (by rfl) t.isinstance boot_isinstance (pa_cons (pv 1) (pa_cons (pe_bltn (u := .type "tuple") (v := .ty "tuple") (by rfl) t.tuple boot_tuple rfl) pa_nil))))) (pw_or1 (pt_not (pt_val (pe_callB (k_all K rfl) (by rfl) t.all boot_all (pa_cons (pe_lc (own := [("pair", 2)]) rfl sc.nd (k_pi_tup K (pv 1)) (blkOk_by (own := [("pair", 2)]) (N := (["size", "thing", "pair", "i", "j", "place", "p", "q"] : List Str)) (sc := defScope (topS 39)) (by decide +kernel)) (fun _ _ _ _ _ => (pg_name (i := 2) sc.nd rfl (.inl rfl))) (fun _ _ _ _ _ => pts_nil) (fun _ _ _ _ _ => (pe_and (pe_callB (k_isi K) (by rfl) t.isinstance boot_isinstance (pa_cons (pv 2) (pa_cons (pe_bltn (u := .type "tuple") (v := .ty "tuple") (by rfl) t.tuple boot_tuple rfl) pa_nil))) (pe_one (pe_cmpR op_eq (pe_callB (k_len K) (by rfl) t.len boot_len (pa_cons (pv 2) pa_nil)) pe_int (nomark _)))))) pa_nil))))))) (pss_one (ps_ret pe_bl)) pss_nil) (pss_cons (ps_if (pt_not (pt_val (pe_callB (k_all K rfl) (by rfl) t.all boot_all (pa_cons (pe_lc (own := [("i", 3), ("j", 4)]) rfl sc.nd (k_pi_tup K (pv 1)) (blkOk_by (own := [("i", 3), ("j", 4)]) (N := (["size", "thing", "pair", "i", "j", "place", "p", "q"] : List Str)) (sc := defScope (topS 39)) (by decide +kernel)) (fun _ _ _ _ _ => (k_pg_tup K (n := 2) rfl (pgs_cons (pg_name (i := 3) sc.nd rfl (.inl rfl)) (pgs_cons (pg_name (i := 4) sc.nd rfl (.inl rfl)) pgs_nil)))) (fun _ _ _ _ _ => pts_nil) (fun _ _ _ _ _ => (pe_and (pe_cal c_is_whole hr (by decide) (by rfl) (pa_cons (pv 3) pa_nil)) (pe_and (pe_cal c_is_whole hr (by decide) (by rfl) (pa_cons (pv 4) pa_nil)) (pe_one (pe_chain3 op_le op_lt op_lt pe_int (pv 3) (pv 4) (pv 0))))))) pa_nil)))) (pss_one (ps_ret pe_bl)) pss_nil) (pss_cons (ps_if (PW.pt (pw_or (pt_cmpR op_ne (pe_callB cr_lenSet (by rfl) t.len boot_len (pa_cons (spe_lc2 (own := [("pair", 2), ("place", 5)]) (vs1 := [5]) rfl sc.nd (k_pi_tup K (pv 1)) (blkOk_by (own := [("pair", 2), ("place", 5)]) (N := (["size", "thing", "pair", "i", "j", "place", "p", "q"] : List Str)) (sc := defScope (topS 39)) (by decide +kernel)) (by decide) (fun _ _ _ _ _ => (pg_name (i := 2) sc.nd rfl (.inl rfl))) (fun _ _ _ _ _ => pts_nil) (fun _ _ _ _ _ => (k_pi_tup K (pv 2))) (fun _ _ _ _ _ => (pg_name (i := 5) sc.nd rfl (.inl rfl))) (fun _ _ _ _ _ => pts_nil) (fun _ _ _ _ _ => (pv 5))) pa_nil)) (pe_op op_mul pe_int (pe_callB (k_len K) (by rfl) t.len boot_len (pa_cons (pv 1) pa_nil))) (nomark _)) (pw_or1 (pt_cmpR (k_op_neD K hu) (pe_callTy (k_list K) (by rfl) t.list boot_list (pa_cons (pv 1) pa_nil)) (pe_callB (k_sortTp K hu) (by rfl) t.sorted boot_sorted (pa_cons (pv 1) pa_nil)) (nomark _))))) (pss_one (ps_ret pe_bl)) pss_nil) (pss_one (ps_ret (pe_not (pe_callB (k_any K rfl) (by rfl) t.any boot_any (pa_cons (pe_lc2 (own := [("i", 3), ("j", 4), ("p", 6), ("q", 7)]) (vs1 := [6, 7]) rfl sc.nd (k_pi_tup K (pv 1)) (blkOk_by (own := [("i", 3), ("j", 4), ("p", 6), ("q", 7)]) (N := (["size", "thing", "pair", "i", "j", "place", "p", "q"] : List Str)) (sc := defScope (topS 39)) (by decide +kernel)) (by decide) (fun _ _ _ _ _ => (k_pg_tup K (n := 2) rfl (pgs_cons (pg_name (i := 3) sc.nd rfl (.inl rfl)) (pgs_cons (pg_name (i := 4) sc.nd rfl (.inl rfl)) pgs_nil)))) (fun _ _ _ _ _ => pts_nil) (fun _ _ _ _ _ => (k_pi_tup K (pv 1))) (fun _ _ _ _ _ => (k_pg_tup K (n := 2) rfl (pgs_cons (pg_name (i := 6) sc.nd rfl (.inl rfl)) (pgs_cons (pg_name (i := 7) sc.nd rfl (.inl rfl)) pgs_nil)))) (fun _ _ _ _ _ => pts_nil) (fun _ _ _ _ _ => (pe_chain3 op_lt op_lt op_lt (pv 3) (pv 6) (pv 4) (pv 7)))) pa_nil)))))))), fun ds P hF => ?_⟩
    obtain ⟨n, F, rfl, ⟨hp, hn0, hn⟩, hP⟩ := hF
    have hl := hp.len hn0
    have hall : ∀ bs : List Bool, (∀ b ∈ bs, b = true) → bs.all id = true := fun bs h => List.all_eq_true.mpr h
    have hrep : ((F.map fun _ => true).all id) = true := hall _ fun b hb => by obtain ⟨_, _, rfl⟩ := List.mem_map.mp hb; rfl
    refine sv_seq (sv_ifF (et_to (et_or (a := false) (b := false) (et_to (et_not (et_B (ev_isi (b := true) ev_v rfl (by intro _ e; cases e) rfl))) rfl) fun _ => et_to (et_not (et_B (Ev.to (ev_cb (ea_cons (Ev.to (ev_lcM (is := [2]) F encP (fun _ => .bool true) (by decide) (ei_tup ev_v) (le16 (by omega)) fun p _ => ⟨_, eg_n, Ev.to (ev_and2 (ev_isi (b := true) ev_v rfl (by intro _ e; cases e) rfl) fun _ => ev_op (ev_cb (ea_cons ev_v ea_nil) cl_lenT) ev_int (od_eq rfl)) rfl⟩) (d' := .list ((F.map fun _ => true).map .bool)) (by rw [List.map_map]; rfl)) ea_nil) cl_all) (by rw [hrep])))) rfl) rfl) (sv_next ?_))
    refine sv_seq (sv_ifF (et_to (et_not (et_B (Ev.to (ev_cb (ea_cons (Ev.to (ev_lcM (is := [3, 4]) F encP (fun _ => .bool true) (by decide) (ei_tup ev_v) (le16 (by omega)) fun p hm => ⟨_, eg_tup (egs_cons eg_n (egs_cons eg_n egs_nil)) rfl, Ev.to (ev_and2 (ev_call (ea_cons ev_v ea_nil) ⟨_, rfl, rfl⟩) fun _ => ev_and2 (ev_call (ea_cons ev_v ea_nil) ⟨_, rfl, rfl⟩) fun _ => ev_chain3 ev_int ev_v ev_v ev_v od_b od_b od_b) (by have := hp.rg p hm; simp; omega)⟩) (d' := .list ((F.map fun _ => true).map .bool)) (by rw [List.map_map]; rfl)) ea_nil) cl_all) (by rw [hrep])))) rfl) (sv_next ?_))
    have e2 : F.flatMap (fun p => [p.1, p.2].map fun i => i) = F.flatMap fun p => [p.1, p.2] := rfl
    have hlen : (F.flatMap fun p => [p.1, p.2]).length = 2 * F.length := by
      clear hP hrep hl e2 hp
      induction F with
      | nil => rfl
      | cons a r ih => rw [List.flatMap_cons, List.length_append, ih, List.length_cons, List.length_cons, List.length_cons, List.length_nil]; omega
    refine sv_seq (sv_ifF (et_to (et_or (a := false) (b := false) (et_to (et_test (ev_op (ev_lenSc2 (is := [2]) (is1 := [5]) F encP (fun p => [p.1, p.2]) (fun _ i => .int i) (fun _ i => i) (by decide) (by decide) (ei_tup ev_v) (by rw [e2, hlen]; omega) (by rw [e2]; exact hp.ap) fun p _ => ⟨_, eg_n, rfl, ei_tup ev_v, fun i _ => ⟨_, eg_n, ev_v⟩⟩) (ev_op ev_int (ev_cb (ea_cons ev_v ea_nil) cl_lenT) (od_iC (.inl (by decide)))) (od_ne rfl))) ?_) fun _ => et_to (et_test (ev_op (ev_cb (ea_cons ev_v ea_nil) cl_listT) (Ev.to (ev_cb (ea_cons ev_v ea_nil) (cl_sortTp (sortD_pairs F (by omega)))) (congrArg PyData.list (srt_up hp.up))) (od_neD (okEq_pairs F).1 (okEq_pairs F).1))) ?_) rfl) (sv_next ?_))
    · rw [e2, hlen, List.length_map]
      simp [sclEq]
    · rw [eqv_pairs]; rfl
    have hz : (F.flatMap fun p => F.map fun q => PyData.bool false).length ≤ 10000 := by
      have := len_flat (fun _ : Pr => F.map fun _ : Pr => PyData.bool false) 100 F fun _ _ => by rw [List.length_map]; omega
      omega
    refine sv_ret (Ev.to (ev_notV (ev_cb (ea_cons (Ev.to (ev_lc2 (is := [3, 4]) (is1 := [6, 7]) F encP (fun _ => F) (fun _ q => encP q) (fun _ _ => .bool false) (by decide) (by decide) (ei_tup ev_v) (le16 (by omega)) fun p hm => ⟨_, eg_tup (egs_cons eg_n (egs_cons eg_n egs_nil)) rfl, rfl, ei_tup ev_v, fun q hq => ⟨_, eg_tup (egs_cons eg_n (egs_cons eg_n egs_nil)) rfl, Ev.to (ev_chain3 ev_v ev_v ev_v ev_v od_b od_b od_b) (by have := hp.nc p hm q hq; simp; omega)⟩⟩) (d' := .list ((F.flatMap fun _ => F.map fun _ => false).map .bool)) ?_) ea_nil) cl_any)) ?_) hP
    · rw [List.map_flatMap]; simp only [List.map_map]; rfl
    · congr 1
      rw [Bool.not_eq_true', List.any_eq_false]
      intro b hb
      obtain ⟨_, _, hb⟩ := List.mem_flatMap.mp hb
      obtain ⟨_, _, rfl⟩ := List.mem_map.mp hb
      exact Bool.false_ne_true
theorem sc_nicked_pair : FnScope (["string", "folding", "at", "around", "i", "j"] : List Str) (["string", "folding"] : List Str) (defScope (topS 40)) := ⟨rfl, rfl, rfl, by decide +kernel, rfl, by decide +kernel, by decide +kernel⟩
theorem ok_nicked_pair {f : Addr} {fd : FuncData} (t : Tx K mg L) (F : FnP K "nicked_pair" 40 f fd) (gm : mg "nicked_pair" = some (.ref f)) : Cal P w K mg base T 1 "nicked_pair" ["string", "folding"] spNicked := by
  have sc := sc_nicked_pair
  refine cal_of F sc gm (fun _ _ _ _ _ _ us hl => match us, hl with | [_, _], _ => rfl) (fun ds P hF => ?_) fun cdv A outer s H vs Q E hr => ?_
  · obtain ⟨_, _, _, rfl, _⟩ := hF; rfl
  · have hu := hu64 hr
    have hu1 := hu_of hr
    obtain ⟨tkM, hM⟩ := t.MOST
    refine ⟨_, PSs.nox (pss_cons (ps_set (i := 2) sc.nd rfl (.inr rfl) (pe_callB (k_len K) (by rfl) t.len boot_len (pa_cons (pv 0) pa_nil))) (pss_cons (ps_setLc (i := 3) (own := [("i", 4), ("j", 5)]) rfl sc.nd rfl rfl (sw_true rfl rfl rfl (by decide +kernel)) (k_pi_tup K (pv 1)) (blkOk_by (own := [("i", 4), ("j", 5)]) (N := (["string", "folding", "at", "around", "i", "j"] : List Str)) (sc := defScope (topS 40)) (by decide +kernel)) (fun _ _ _ _ _ => (k_pg_tup K (n := 2) rfl (pgs_cons (pg_name (i := 4) sc.nd rfl (.inl rfl)) (pgs_cons (pg_name (i := 5) sc.nd rfl (.inl rfl)) pgs_nil)))) (fun _ _ _ _ _ => (pts_one (pt_chain op_lt op_le (pv 4) (pv 2) (pv 5)))) (fun _ _ _ _ _ => (pe_tup (pa_cons (pv 4) (pa_cons (pv 5) pa_nil))))) (pss_one (ps_ret (pe_ifExp (pt_cmpR (k_op_neD K hu) (pv 3) (pe_lst pa_nil) (nomark _)) (pe_callB (k_maxD K hu rfl) (by rfl) t.max boot_max (pa_cons (pv 3) pa_nil)) pe_non))))), fun ds P hF => ?_⟩
    obtain ⟨s, F, m, rfl, ⟨hs, hp, hm0, hm⟩, hP⟩ := hF
    have hl := hp.len hm0
    refine sv_seq (sv_as (ev_cb (ea_cons ev_v ea_nil) (cl_lenS (le16 (by omega)))) ?_)
    refine sv_seq (sv_lcFO (is := [4, 5]) F encP (fun p => decide (p.1 < (s.length : Int)) && decide ((s.length : Int) ≤ p.2)) encP (by decide) (ei_tup ev_v) (le16 (by omega)) (fun p _ => ⟨_, eg_tup (egs_cons eg_n (egs_cons eg_n egs_nil)) rfl, et_test (ev_chain ev_v ev_v ev_v od_b od_b), fun _ => ev_tp (ea_cons ev_v (ea_cons ev_v ea_nil))⟩) rfl ?_)
    unfold nick at hP
    have hup := last_up (c := fun p => decide (p.1 < (s.length : Int)) && decide ((s.length : Int) ≤ p.2)) hp.up
    generalize (F.filter fun p => decide (p.1 < (s.length : Int)) && decide ((s.length : Int) ≤ p.2)) = G at hP hup ⊢
    refine sv_froze (i := 3) rfl (sv_ret (ev_if (b := !decide (G = [])) (et_to (et_test (ev_op ev_v (ev_ls ea_nil) (od_neD (okEq_pairs G).1 okNil))) (by rw [eqv_nil])) (fun h => ?_) (fun h => ?_)) hP)
    · rcases max_nick hup with ⟨p, r, rfl, e⟩ | ⟨rfl, _⟩
      · exact Ev.to (ev_cb (ea_cons ev_v ea_nil) (cl_max (ordD_pairs (p :: r)))) e
      · exact absurd h (by simp)
    · rcases max_nick hup with ⟨p, r, rfl, e⟩ | ⟨rfl, e⟩
      · exact absurd h (by simp)
      · exact Ev.to ev_non e.symm
theorem sc_is_held : FnScope (["rules", "string", "string2", "thing", "both", "free", "i", "j"] : List Str) (["rules", "string", "string2", "thing"] : List Str) (defScope (topS 41)) := ⟨rfl, rfl, rfl, by decide +kernel, rfl, by decide +kernel, by decide +kernel⟩
theorem ok_is_held {f : Addr} {fd : FuncData} (t : Tx K mg L) (F : FnP K "is_held" 41 f fd) (gm : mg "is_held" = some (.ref f)) (c_need_string : Cal P w K mg base T 2 "need_string" ["rules", "thing"] spNeedString) (c_are_pairs : Cal P w K mg base T 2 "are_pairs" ["size", "thing"] spArePairs) (c_pair_worth : Cal P w K mg base T 1 "pair_worth" ["rules", "both"] spPairWorth) (c_nicked_pair : Cal P w K mg base T 1 "nicked_pair" ["string", "folding"] spNicked) : Cal P w K mg base T 3 "is_held" ["rules", "string", "string2", "thing"] spIsHeld := by
  have sc := sc_is_held
  refine cal_of F sc gm (fun _ _ _ _ _ _ us hl => match us, hl with | [_, _, _, _], _ => rfl) (fun ds P hF => ?_) fun cdv A outer s H vs Q E hr => ?_
  · obtain ⟨_, _, _, _, rfl, _⟩ := hF; rfl
  · have hu := hu64 hr
    have hu1 := hu_of hr
    obtain ⟨tkM, hM⟩ := t.MOST
    refine ⟨_, PSs.nox (pss_cons (ps_expr (pe_cal c_need_string hr (by decide) (by rfl) (pa_cons (pv 0) (pa_cons (pv 1) pa_nil)))) (pss_cons (ps_expr (pe_cal c_need_string hr (by decide) (by rfl) (pa_cons (pv 0) (pa_cons (pv 2) pa_nil)))) (pss_cons (ps_set (i := 4) sc.nd rfl (.inr rfl) (pe_op op_add_str (pv 1) (pv 2))) (pss_cons (ps_if (pt_not (pt_val (pe_cal c_are_pairs hr (by decide) (by rfl) (pa_cons (pe_callB (k_len K) (by rfl) t.len boot_len (pa_cons (pv 4) pa_nil)) (pa_cons (pv 3) pa_nil))))) (pss_one (ps_ret pe_bl)) pss_nil) (pss_cons (ps_if (pt_not (pt_val (pe_callB (k_all K rfl) (by rfl) t.all boot_all (pa_cons (pe_lc (own := [("i", 6), ("j", 7)]) rfl sc.nd (k_pi_tup K (pv 3)) (blkOk_by (own := [("i", 6), ("j", 7)]) (N := (["rules", "string", "string2", "thing", "both", "free", "i", "j"] : List Str)) (sc := defScope (topS 41)) (by decide +kernel)) (fun _ _ _ _ _ => (k_pg_tup K (n := 2) rfl (pgs_cons (pg_name (i := 6) sc.nd rfl (.inl rfl)) (pgs_cons (pg_name (i := 7) sc.nd rfl (.inl rfl)) pgs_nil)))) (fun _ _ _ _ _ => pts_nil) (fun _ _ _ _ _ => (pe_cmpR op_notN (pe_cal c_pair_worth hr (by decide) (by rfl) (pa_cons (pv 0) (pa_cons (pe_op op_add_str (pe_ix ix_str (pv 4) (pv 6) (fun _ _ => rfl)) (pe_ix ix_str (pv 4) (pv 7) (fun _ _ => rfl))) pa_nil))) pe_non (nomark _)))) pa_nil)))) (pss_one (ps_ret pe_bl)) pss_nil) (pss_cons (ps_set (i := 5) sc.nd rfl (.inr rfl) (pe_cal c_nicked_pair hr (by decide) (by rfl) (pa_cons (pv 1) (pa_cons (pv 3) pa_nil)))) (pss_one (ps_ret (pe_callB (k_all K rfl) (by rfl) t.all boot_all (pa_cons (pe_lc (own := [("i", 6), ("j", 7)]) rfl sc.nd (k_pi_tup K (pv 3)) (blkOk_by (own := [("i", 6), ("j", 7)]) (N := (["rules", "string", "string2", "thing", "both", "free", "i", "j"] : List Str)) (sc := defScope (topS 41)) (by decide +kernel)) (fun _ _ _ _ _ => (k_pg_tup K (n := 2) rfl (pgs_cons (pg_name (i := 6) sc.nd rfl (.inl rfl)) (pgs_cons (pg_name (i := 7) sc.nd rfl (.inl rfl)) pgs_nil)))) (fun _ _ _ _ _ => (pts_one (pt_cmpR (k_op_neD K hu) (pe_tup (pa_cons (pv 6) (pa_cons (pv 7) pa_nil))) (pv 5) (nomark _)))) (fun _ _ _ _ _ => (pe_cmpR op_gt (pe_op op_sub (pv 7) (pv 6)) (pe_ix (k_ix_tup K) (pv 0) pe_int (fun _ _ => rfl)) (nomark _)))) pa_nil)))))))))), fun ds P hF => ?_⟩
    obtain ⟨b, s, s2, F, rfl, ⟨hb, hw, hw2, hF, hpw⟩, hP⟩ := hF
    have hl := hF.len
    have h12 := hF.s12
    have hls : (s ++ s2).length = s.length + s2.length := PySem.Str.length_append s s2
    refine sv_seq (sv_drop (ev_call (ea_cons ev_v (ea_cons ev_v ea_nil)) ⟨b, s, rfl, hw, rfl⟩) ?_)
    refine sv_seq (sv_drop (ev_call (ea_cons ev_v (ea_cons ev_v ea_nil)) ⟨b, s2, rfl, hw2, rfl⟩) ?_)
    refine sv_seq (sv_as (ev_op ev_v ev_v (od_str (by rw [← hls]; exact le16 (by omega)))) ?_)
    refine sv_seq (sv_ifF (et_to (et_not (et_B (ev_call (ea_cons (ev_cb (ea_cons ev_v ea_nil) (cl_lenS (le16 (by omega)))) (ea_cons ev_v ea_nil)) ⟨_, F, rfl, ⟨hF.pr, by omega, by omega⟩, rfl⟩))) rfl) (sv_next ?_))
    have hrep : ((F.map fun _ => true).all id) = true := List.all_eq_true.mpr fun b hb => by obtain ⟨_, _, rfl⟩ := List.mem_map.mp hb; rfl
    refine sv_seq (sv_ifF (et_to (et_not (et_B (Ev.to (ev_cb (ea_cons (Ev.to (ev_lcM (is := [6, 7]) F encP (fun _ => .bool true) (by decide) (ei_tup ev_v) (le16 (by omega)) fun p hm => ⟨_, eg_tup (egs_cons eg_n (egs_cons eg_n egs_nil)) rfl, ?_⟩) (d' := .list ((F.map fun _ => true).map .bool)) (by rw [List.map_map]; rfl)) ea_nil) cl_all) (by rw [hrep])))) rfl) (sv_next ?_))
    · have hat := hF.at_ hm
      refine Ev.to (ev_op (ev_call (ea_cons ev_v (ea_cons (ev_op (ev_op ev_v ev_v (od_ixS (le16 (by omega)) (ch_at hat.a0 hat.a1))) (ev_op ev_v ev_v (od_ixS (le16 (by omega)) (ch_at hat.b0 hat.b1))) (od_str (ble16 rfl))) ea_nil)) ⟨b, _, rfl, rfl⟩) ev_non od_notN) ?_
      rw [isNone_optD]
      have := pw_some hpw hm
      unfold both at this
      rw [this]
      rfl
    refine sv_seq (sv_as (ev_call (ea_cons ev_v (ea_cons ev_v ea_nil)) ⟨s, F, _, rfl, ⟨by have := hw.1; omega, hF.pr, by omega, by omega⟩, rfl⟩) ?_)
    refine sv_ret (Ev.to (ev_cb (ea_cons (Ev.to (ev_lcF (is := [6, 7]) F encP (fun p => !decide (some p = nick s.length F)) (fun p => .bool (decide (b.span < p.2 - p.1))) (by decide) (ei_tup ev_v) (le16 (by omega)) fun p hm => ⟨_, eg_tup (egs_cons eg_n (egs_cons eg_n egs_nil)) rfl, et_to (et_test (ev_op (ev_tp (ea_cons ev_v (ea_cons ev_v ea_nil))) ev_v (od_neD (okII _ _) (okEq_optP _)))) (by rw [eqv_optP]), fun _ => ev_op (ev_op ev_v ev_v od_i) (ev_op ev_v ev_int (od_ixT rfl)) od_b⟩) (d' := .list (((F.filter fun p => !decide (some p = nick s.length F)).map fun p => decide (b.span < p.2 - p.1)).map .bool)) (by rw [List.map_map]; rfl)) ea_nil) cl_all) ?_) hP
    rw [List.all_map]
    rfl
end
end Pf
set_option Elab.async false
set_option linter.all false
set_option maxRecDepth 100000
set_option maxHeartbeats 4000000
namespace Pf
open PySem PySem.Spec L2
open PyProof.Rows PySem.Calls
section
variable {P : Program} {w : World} {K : PySem.W.Frag} {mg : Str → Option Value} {base : Heap} {T : Tb} {L : Addr} {n : Nat}
theorem sc_held_worth : FnScope (["rules", "string", "string2", "folding", "both", "free", "costs", "found", "i", "j", "kind", "places", "worth"] : List Str) (["rules", "string", "string2", "folding"] : List Str) (defScope (topS 42)) := ⟨rfl, rfl, rfl, by decide +kernel, rfl, by decide +kernel, by decide +kernel⟩
theorem ok_held_worth {f : Addr} {fd : FuncData} (t : Tx K mg L) (F : FnP K "held_worth" 42 f fd) (gm : mg "held_worth" = some (.ref f)) (c_nicked_pair : Cal P w K mg base T 1 "nicked_pair" ["string", "folding"] spNicked) (c_straight_within : Cal P w K mg base T 1 "straight_within" ["folding", "pair"] spStraight) (c_loops_of : Cal P w K mg base T 3 "loops_of" ["rules", "string", "folding"] spLoops) (c_pair_worth : Cal P w K mg base T 1 "pair_worth" ["rules", "both"] spPairWorth) : Cal P w K mg base T 4 "held_worth" ["rules", "string", "string2", "folding"] spHeldWorth := by
  have sc := sc_held_worth
  refine cal_of F sc gm (fun _ _ _ _ _ _ us hl => match us, hl with | [_, _, _, _], _ => rfl) (fun ds P hF => ?_) fun cdv A outer s H vs Q E hr => ?_
  · obtain ⟨_, _, _, _, rfl, _⟩ := hF; rfl
  · have hu := hu64 hr
    have hu1 := hu_of hr
    obtain ⟨tkM, hM⟩ := t.MOST
    refine ⟨_, PSs.nox (pss_cons (ps_set (i := 4) sc.nd rfl (.inl rfl) (pe_op op_add_str (pv 1) (pv 2))) (pss_cons (ps_set (i := 5) sc.nd rfl (.inl rfl) (pe_cal c_nicked_pair hr (by decide) (by rfl) (pa_cons (pv 1) (pa_cons (pv 3) pa_nil)))) (pss_cons (ps_set (i := 6) sc.nd rfl (.inl rfl) (pe_ix (k_ix_tup K) (pe_ix (k_ix_tup K) (pv 0) pe_int (fun _ _ => rfl)) (k_bm K PySem.F.plainAttrs_tuple PySem.F.slot_tuple_index PySem.F.type_tuple_index (k_index K) (pe_glob (v := .ref L) (by rfl) t.LOOPS rfl) (pa_cons pe_str pa_nil)) (fun _ _ => rfl))) (pss_cons (ps_set (i := 7) sc.nd rfl (.inl rfl) (pe_op op_mul (pv 6) (pe_callB (k_len K) (by rfl) t.len boot_len (pa_cons (pe_cal c_straight_within hr (by decide) (by rfl) (pa_cons (pv 3) (pa_cons pe_non pa_nil))) pa_nil)))) (pss_cons (ps_for PassesOwn.never rfl (k_pi_list K (pe_cal c_loops_of hr (by decide) (by rfl) (pa_cons (pv 0) (pa_cons (pv 4) (pa_cons (pv 3) pa_nil))))) (k_pg_tup K (n := 5) rfl (pgs_cons (pg_name (i := 8) sc.nd rfl (.inl rfl)) (pgs_cons (pg_name (i := 9) sc.nd rfl (.inl rfl)) (pgs_cons (pg_name (i := 10) sc.nd rfl (.inl rfl)) (pgs_cons (pg_name (i := 11) sc.nd rfl (.inl rfl)) (pgs_cons (pg_name (i := 12) sc.nd rfl (.inl rfl)) pgs_nil)))))) (pss_cons (ps_aug (i := 7) sc.nd rfl (.inl rfl) (pe_cal c_pair_worth hr (by decide) (by rfl) (pa_cons (pv 0) (pa_cons (pe_op op_add_str (pe_ix ix_str (pv 4) (pv 8) (fun _ _ => rfl)) (pe_ix ix_str (pv 4) (pv 9) (fun _ _ => rfl))) pa_nil))) ip_add) (pss_one (ps_aug (i := 7) sc.nd rfl (.inl rfl) (pe_ifExp (pt_cmpR (k_op_eqD K hu) (pe_tup (pa_cons (pv 8) (pa_cons (pv 9) pa_nil))) (pv 5) (nomark _)) (pe_op op_mul (pv 6) (pe_callB (k_len K) (by rfl) t.len boot_len (pa_cons (pe_cal c_straight_within hr (by decide) (by rfl) (pa_cons (pv 3) (pa_cons (pe_tup (pa_cons (pv 8) (pa_cons (pv 9) pa_nil))) pa_nil))) pa_nil))) (pv 12)) ip_add)))) (pss_one (ps_ret (pv 7)))))))), fun ds P hF => ?_⟩
    obtain ⟨b, s, s2, F, rfl, ⟨hb, hF, hpw⟩, hP⟩ := hF
    have hl := hF.len
    have h12 := hF.s12
    have hls : (s ++ s2).length = s.length + s2.length := PySem.Str.length_append s s2
    have hst := straight_len F
    refine sv_seq (sv_as (ev_op ev_v ev_v (od_str (by rw [← hls]; exact le16 (by omega)))) ?_)
    refine sv_seq (sv_as (ev_call (ea_cons ev_v (ea_cons ev_v ea_nil)) ⟨s, F, _, rfl, ⟨by omega, hF.pr, by omega, by omega⟩, rfl⟩) ?_)
    refine sv_seq (sv_as (d := .int (cost b 8)) (ev_op (ev_op ev_v ev_int (od_ixT (z := .tuple (b.costs.map .int)) rfl)) (ev_index (j := 8) t.lplain t.loops rfl (by decide)) (od_ixT (atI_nat (j := 8) ?_))) ?_)
    · rw [List.getElem?_map]
      unfold cost
      rw [List.getD_eq_getElem?_getD]
      have := hb.nk
      rw [List.getElem?_eq_getElem (show 8 < b.costs.length by omega)]
      rfl
    refine sv_seq (sv_as (ev_op ev_v (ev_cb (ea_cons (ev_call (ea_cons ev_v (ea_cons ev_non ea_nil)) ⟨F, none, rfl, by omega, rfl⟩) ea_nil) cl_lenL) (od_iC (.inr (by have := hst none; rw [List.length_map]; omega)))) ?_)
    unfold heldW at hP
    rw [List.length_map]
    generalize cost b 8 * ((straight F none).length : Int) = base0 at hP ⊢
    have key : ∀ (G : Fo) (a : Int), G.foldl (fun x p => x + heldP b s s2 F p) a = a + (G.map (heldP b s s2 F)).sum := fun G => by
      induction G with
      | nil => intro a; simp
      | cons p r ih => intro a; rw [List.foldl_cons, ih, List.map_cons, List.sum_cons, Int.add_assoc]
    refine sv_seq (sv_forFold (is := [8, 9, 10, 11, 12]) F (encRow b (s ++ s2) F) base0 (fun x p => x + heldP b s s2 F p) (fun a => [.dat (encB b), .dat (.str s), .dat (.str s2), .dat (encF F), .dat (.str (s ++ s2)), .dat (optP (nick s.length F)), .dat (.int (cost b 8)), .dat (.int a), .any, .any, .any, .any, .any]) (fun _ _ => True) (ei_list (ev_call (ea_cons ev_v (ea_cons ev_v (ea_cons ev_v ea_nil))) ⟨b, s ++ s2, F, rfl, ⟨hb, hF⟩, rfl⟩)) (.same (.same (.same (.same (.same (.same (.same (.same (.any (.any (.any (.any (.any .nil))))))))))))) trivial (fun _ _ _ _ _ => trivial) (fun i a p hm hlt _ => ⟨_, eg_tup (egs_cons eg_n (egs_cons eg_n (egs_cons eg_n (egs_cons eg_n (egs_cons eg_n egs_nil))))) rfl, ?_⟩) fun _ => ?_)
    · have hat := hF.at_ hm
      refine sv_seq (sv_aug rfl (Ev.to (ev_call (ea_cons ev_v (ea_cons (ev_op (ev_op ev_v ev_v (od_ixS (le16 (by omega)) (ch_at hat.a0 hat.a1))) (ev_op ev_v ev_v (od_ixS (le16 (by omega)) (ch_at hat.b0 hat.b1))) (od_str (ble16 rfl))) ea_nil)) ⟨b, _, rfl, rfl⟩) (show optD _ = .int (pwI b (s ++ s2) p) from congrArg optD (pw_some hpw hm))) ?_)
      refine sv_aug rfl (y := if some p = nick s.length F then cost b 8 * ((straight F (some p)).length : Int) else loopW b (s ++ s2) F p) (ev_if (b := decide (some p = nick s.length F)) (et_to (et_test (ev_op (ev_tp (ea_cons ev_v (ea_cons ev_v ea_nil))) ev_v (od_eqD (okII _ _) (okEq_optP _)))) (eqv_optP p _)) (fun h => ?_) (fun h => ?_)) ?_
      · rw [if_pos (of_decide_eq_true h)]
        exact Ev.to (ev_op ev_v (ev_cb (ea_cons (ev_call (ea_cons ev_v (ea_cons (ev_tp (ea_cons ev_v (ea_cons ev_v ea_nil))) ea_nil)) ⟨F, some p, rfl, by omega, rfl⟩) ea_nil) cl_lenL) (od_iC (.inr (by have := hst (some p); rw [List.length_map]; omega)))) (by rw [List.length_map])
      · rw [if_neg (of_decide_eq_false h)]
        exact ev_v
      · show Le _ _
        unfold heldP
        rw [← Int.add_assoc]
        exact .same (.same (.same (.same (.same (.same (.same (.same (.any (.any (.any (.any (.any .nil))))))))))))
    · rw [key]
      exact sv_ret ev_v hP
theorem sc_held_from : FnScope (["rules", "string", "string2", "first", "end", "both", "found", "k", "inner", "behind", "one", "other"] : List Str) (["rules", "string", "string2", "first", "end"] : List Str) (defScope (topS 43)) := ⟨rfl, rfl, rfl, by decide +kernel, rfl, by decide +kernel, by decide +kernel⟩
theorem ok_held_from {f : Addr} {fd : FuncData} (t : Tx K mg L) (F : FnP K "held_from" 43 f fd) (gm : mg "held_from" = some (.ref f)) (c_held_from : Cal P w K mg base T (n+2) "held_from" ["rules", "string", "string2", "first", "end"] (spHeldFrom n)) (c_pair_worth : Cal P w K mg base T 1 "pair_worth" ["rules", "both"] spPairWorth) : Cal P w K mg base T (n+3) "held_from" ["rules", "string", "string2", "first", "end"] (spHeldFrom (n+1)) := by
  have sc := sc_held_from
  refine cal_of F sc gm (fun _ _ _ _ _ _ us hl => match us, hl with | [_, _, _, _, _], _ => rfl) (fun ds P hF => ?_) fun cdv A outer s H vs Q E hr => ?_
  · obtain ⟨_, _, _, _, _, rfl, _⟩ := hF; rfl
  · have hu := hu64 hr
    have hu1 := hu_of hr
    obtain ⟨tkM, hM⟩ := t.MOST
    refine ⟨_, PSs.nox (pss_cons (ps_if (pt_cmpR op_le (pv 4) (pe_op op_add (pv 3) pe_int) (nomark _)) (pss_one (ps_ret (pe_lst (pa_cons (pe_tup pa_nil) pa_nil)))) pss_nil) (pss_cons (ps_set (i := 5) sc.nd rfl (.inl rfl) (pe_op op_add_str (pv 1) (pv 2))) (pss_cons (ps_set (i := 6) sc.nd rfl (.inl rfl) (pe_cal c_held_from hr (by omega) (by rfl) (pa_cons (pv 0) (pa_cons (pv 1) (pa_cons (pv 2) (pa_cons (pe_op op_add (pv 3) pe_int) (pa_cons (pv 4) pa_nil))))))) (pss_cons (ps_for PassesOwn.never rfl (pi_range2 (by rfl) t.range (pa_cons (pe_op op_add (pv 3) pe_int) (pa_cons (pv 4) pa_nil))) (pg_name (i := 7) sc.nd rfl (.inr rfl)) (pss_one (ps_if (pt_cmpR op_notN (pe_cal c_pair_worth hr (by omega) (by rfl) (pa_cons (pv 0) (pa_cons (pe_op op_add_str (pe_ix ix_str (pv 5) (pv 3) (fun _ _ => rfl)) (pe_ix ix_str (pv 5) (pv 7) (fun _ _ => rfl))) pa_nil))) pe_non (nomark _)) (pss_cons (ps_set (i := 8) sc.nd rfl (.inl rfl) (pe_cal c_held_from hr (by omega) (by rfl) (pa_cons (pv 0) (pa_cons (pv 1) (pa_cons (pv 2) (pa_cons (pe_op op_add (pv 3) pe_int) (pa_cons (pv 7) pa_nil))))))) (pss_cons (ps_set (i := 9) sc.nd rfl (.inr rfl) (pe_cal c_held_from hr (by omega) (by rfl) (pa_cons (pv 0) (pa_cons (pv 1) (pa_cons (pv 2) (pa_cons (pe_op op_add (pv 7) pe_int) (pa_cons (pv 4) pa_nil))))))) (pss_one (ps_set (i := 6) sc.nd rfl (.inl rfl) (pe_op op_cat (pv 6) (pe_lc2 (own := [("one", 10), ("other", 11)]) (vs1 := [11]) rfl sc.nd (k_pi_list K (pv 8)) (blkOk_by (own := [("one", 10), ("other", 11)]) (N := (["rules", "string", "string2", "first", "end", "both", "found", "k", "inner", "behind", "one", "other"] : List Str)) (sc := defScope (topS 43)) (by decide +kernel)) (by decide) (fun _ _ _ _ _ => (pg_name (i := 10) sc.nd rfl (.inl rfl))) (fun _ _ _ _ _ => pts_nil) (fun _ _ _ _ _ => (k_pi_list K (pv 9))) (fun _ _ _ _ _ => (pg_name (i := 11) sc.nd rfl (.inl rfl))) (fun _ _ _ _ _ => pts_nil) (fun _ _ _ _ _ => (pe_op (k_op_catT K) (pe_op (k_op_catT K) (pe_tup (pa_cons (pe_tup (pa_cons (pv 3) (pa_cons (pv 7) pa_nil))) pa_nil)) (pv 10)) (pv 11))))))))) pss_nil))) (pss_one (ps_ret (pv 6))))))), fun ds P hF => ?_⟩
    obtain ⟨b, s, s2, f, e, rfl, ⟨h8, hf0, hfe, hen, hn⟩, hP⟩ := hF
    have hls : (s ++ s2).length = s.length + s2.length := PySem.Str.length_append s s2
    by_cases hc : e ≤ f + 1
    · refine sv_seq (sv_ifT (et_to (et_test (ev_op ev_v (ev_op ev_v ev_int od_i) od_b)) (decide_eq_true hc)) (sv_ret (ev_ls (ea_cons (ev_tp ea_nil) ea_nil)) ?_))
      rw [FL_small hc] at hP
      exact hP
    refine sv_seq (sv_ifF (et_to (et_test (ev_op ev_v (ev_op ev_v ev_int od_i) od_b)) (decide_eq_false hc)) (sv_next ?_))
    refine sv_seq (sv_as (ev_op ev_v ev_v (od_str (by rw [← hls]; exact le16 (by omega)))) ?_)
    refine sv_seq (sv_as (ev_call (ea_cons ev_v (ea_cons ev_v (ea_cons ev_v (ea_cons (ev_op ev_v ev_int od_i) (ea_cons ev_v ea_nil))))) ⟨b, s, s2, f + 1, e, rfl, ⟨h8, by omega, by omega, hen, by omega⟩, rfl⟩) ?_)
    have hfl := len_FL (m := mh b (s ++ s2)) (f := f) (e := e) (by omega)
    rw [FLs_flat _ hc] at hP
    have hz : ((FL (mh b (s ++ s2)) (f + 1) e).map encF).length + ((rng (f + 1) e).flatMap fun k => (grow (mh b (s ++ s2)) f e k).map encF).length ≤ 323 := by
      rw [← List.length_append, ← FLs_flat _ hc, List.length_map]
      exact hfl
    refine sv_seq (sv_forCat (is := [7]) (rng (f + 1) e) .int (fun k => (grow (mh b (s ++ s2)) f e k).map encF) [.dat (encB b), .dat (.str s), .dat (.str s2), .dat (.int f), .dat (.int e), .dat (.str (s ++ s2)), .any, .any, .any, .any, .any, .any] 6 ((FL (mh b (s ++ s2)) (f + 1) e).map encF) 323 (ei_r2 (ea_cons (ev_op ev_v ev_int od_i) (ea_cons ev_v ea_nil)) (by omega)) (.same (.same (.same (.same (.same (.same (.same (.any (.any (.any (.any (.any .nil)))))))))))) hz (fun k as hk has => ⟨_, eg_n, ?_⟩) (sv_ret ev_v hP))
    have hk' := mem_rng.mp hk
    refine sv_if (b := mh b (s ++ s2) f k) (et_to (et_test (ev_op (ev_call (ea_cons ev_v (ea_cons (ev_op (ev_op ev_v ev_v (od_ixS (le16 (by omega)) (ch_at hf0 (by omega)))) (ev_op ev_v ev_v (od_ixS (le16 (by omega)) (ch_at (by omega) (by omega)))) (od_str (ble16 rfl))) ea_nil)) ⟨b, _, rfl, rfl⟩) ev_non od_notN)) ?_) (fun h => ?_) (fun h => sv_next ?_)
    · rw [isNone_optD]
      show (!(pw b (both (s ++ s2) f k)).isNone) = (pw b (both (s ++ s2) f k)).isSome
      cases pw b (both (s ++ s2) f k) <;> rfl
    · rw [grow_enc h] at has ⊢
      have l1 := FL_le (m := mh b (s ++ s2)) (f := f + 1) (e := k) (by omega)
      have l2 := FL_le (m := mh b (s ++ s2)) (f := k + 1) (e := e) (by omega)
      have n1 := len_FL (m := mh b (s ++ s2)) (f := f + 1) (e := k) (by omega)
      have n2 := len_FL (m := mh b (s ++ s2)) (f := k + 1) (e := e) (by omega)
      refine sv_seq (sv_as (ev_call (ea_cons ev_v (ea_cons ev_v (ea_cons ev_v (ea_cons (ev_op ev_v ev_int od_i) (ea_cons ev_v ea_nil))))) ⟨b, s, s2, f + 1, k, rfl, ⟨h8, by omega, by omega, by omega, by omega⟩, rfl⟩) ?_)
      refine sv_seq (sv_as (ev_call (ea_cons ev_v (ea_cons ev_v (ea_cons ev_v (ea_cons (ev_op ev_v ev_int od_i) (ea_cons ev_v ea_nil))))) ⟨b, s, s2, k + 1, e, rfl, ⟨h8, by omega, by omega, by omega, by omega⟩, rfl⟩) ?_)
      refine sv_as (ev_op ev_v (ev_lc2 (is := [10]) (is1 := [11]) (FL (mh b (s ++ s2)) (f + 1) k) encF (fun _ => FL (mh b (s ++ s2)) (k + 1) e) (fun _ c => encF c) (fun a c => encF ((f, k) :: (a ++ c))) (by decide) (by decide) (ei_list ev_v) (le16 (Nat.le_trans (Nat.le_trans (Nat.le_add_left _ _) has) (by decide))) fun a ha => ⟨_, eg_n, rfl, ei_list ev_v, fun c hc' => ⟨_, eg_n, ?_⟩⟩) (od_cat (le16 (Nat.le_trans has (by decide))))) (.same (.same (.same (.same (.same (.same (.same (.any (.any (.any (.any (.any .nil))))))))))))
      have := l1 a ha (by omega)
      have := l2 c hc' (by omega)
      refine Ev.to (ev_op (ev_op (ev_tp (ea_cons (ev_tp (ea_cons ev_v (ea_cons ev_v ea_nil))) ea_nil)) ev_v (od_catT (by simp) (le16 (by simp; omega)))) ev_v (od_catT (by simp) (le16 (by simp; omega)))) ?_
      simp
    · rw [grow_no h, List.map_nil, List.append_nil]
      exact .same (.same (.same (.same (.same (.same (.same (.any (.any (.any (.any (.any .nil)))))))))))
theorem sc_foldings_from : FnScope (["rules", "string", "first", "end", "found", "k", "inner", "behind", "one", "other"] : List Str) (["rules", "string", "first", "end"] : List Str) (defScope (topS 51)) := ⟨rfl, rfl, rfl, by decide +kernel, rfl, by decide +kernel, by decide +kernel⟩
theorem ok_foldings_from {f : Addr} {fd : FuncData} (t : Tx K mg L) (F : FnP K "foldings_from" 51 f fd) (gm : mg "foldings_from" = some (.ref f)) (c_foldings_from : Cal P w K mg base T (n+2) "foldings_from" ["rules", "string", "first", "end"] (spFoldFrom n)) (c_may_pair : Cal P w K mg base T 2 "may_pair" ["rules", "string", "i", "j"] spMayPair) : Cal P w K mg base T (n+3) "foldings_from" ["rules", "string", "first", "end"] (spFoldFrom (n+1)) := by
  have sc := sc_foldings_from
  refine cal_of F sc gm (fun _ _ _ _ _ _ us hl => match us, hl with | [_, _, _, _], _ => rfl) (fun ds P hF => ?_) fun cdv A outer s H vs Q E hr => ?_
  · obtain ⟨_, _, _, _, rfl, _⟩ := hF; rfl
  · have hu := hu64 hr
    have hu1 := hu_of hr
    obtain ⟨tkM, hM⟩ := t.MOST
    refine ⟨_, PSs.nox (pss_cons (ps_if (pt_cmpR op_le (pv 3) (pe_op op_add (pv 2) pe_int) (nomark _)) (pss_one (ps_ret (pe_lst (pa_cons (pe_tup pa_nil) pa_nil)))) pss_nil) (pss_cons (ps_set (i := 4) sc.nd rfl (.inl rfl) (pe_cal c_foldings_from hr (by omega) (by rfl) (pa_cons (pv 0) (pa_cons (pv 1) (pa_cons (pe_op op_add (pv 2) pe_int) (pa_cons (pv 3) pa_nil)))))) (pss_cons (ps_for PassesOwn.never rfl (pi_range2 (by rfl) t.range (pa_cons (pe_op op_add (pv 2) pe_int) (pa_cons (pv 3) pa_nil))) (pg_name (i := 5) sc.nd rfl (.inr rfl)) (pss_one (ps_if (pt_val (pe_cal c_may_pair hr (by omega) (by rfl) (pa_cons (pv 0) (pa_cons (pv 1) (pa_cons (pv 2) (pa_cons (pv 5) pa_nil)))))) (pss_cons (ps_set (i := 6) sc.nd rfl (.inl rfl) (pe_cal c_foldings_from hr (by omega) (by rfl) (pa_cons (pv 0) (pa_cons (pv 1) (pa_cons (pe_op op_add (pv 2) pe_int) (pa_cons (pv 5) pa_nil)))))) (pss_cons (ps_set (i := 7) sc.nd rfl (.inr rfl) (pe_cal c_foldings_from hr (by omega) (by rfl) (pa_cons (pv 0) (pa_cons (pv 1) (pa_cons (pe_op op_add (pv 5) pe_int) (pa_cons (pv 3) pa_nil)))))) (pss_one (ps_set (i := 4) sc.nd rfl (.inl rfl) (pe_op op_cat (pv 4) (pe_lc2 (own := [("one", 8), ("other", 9)]) (vs1 := [9]) rfl sc.nd (k_pi_list K (pv 6)) (blkOk_by (own := [("one", 8), ("other", 9)]) (N := (["rules", "string", "first", "end", "found", "k", "inner", "behind", "one", "other"] : List Str)) (sc := defScope (topS 51)) (by decide +kernel)) (by decide) (fun _ _ _ _ _ => (pg_name (i := 8) sc.nd rfl (.inl rfl))) (fun _ _ _ _ _ => pts_nil) (fun _ _ _ _ _ => (k_pi_list K (pv 7))) (fun _ _ _ _ _ => (pg_name (i := 9) sc.nd rfl (.inl rfl))) (fun _ _ _ _ _ => pts_nil) (fun _ _ _ _ _ => (pe_op (k_op_catT K) (pe_op (k_op_catT K) (pe_tup (pa_cons (pe_tup (pa_cons (pv 2) (pa_cons (pv 5) pa_nil))) pa_nil)) (pv 8)) (pv 9))))))))) pss_nil))) (pss_one (ps_ret (pv 4)))))), fun ds P hF => ?_⟩
    obtain ⟨b, s, f, e, rfl, ⟨h8, hf0, hfe, hen, hn⟩, hP⟩ := hF
    by_cases hc : e ≤ f + 1
    · refine sv_seq (sv_ifT (et_to (et_test (ev_op ev_v (ev_op ev_v ev_int od_i) od_b)) (decide_eq_true hc)) (sv_ret (ev_ls (ea_cons (ev_tp ea_nil) ea_nil)) ?_))
      rw [FL_small hc] at hP
      exact hP
    refine sv_seq (sv_ifF (et_to (et_test (ev_op ev_v (ev_op ev_v ev_int od_i) od_b)) (decide_eq_false hc)) (sv_next ?_))
    refine sv_seq (sv_as (ev_call (ea_cons ev_v (ea_cons ev_v (ea_cons (ev_op ev_v ev_int od_i) (ea_cons ev_v ea_nil)))) ⟨b, s, f + 1, e, rfl, ⟨h8, by omega, by omega, hen, by omega⟩, rfl⟩) ?_)
    have hfl := len_FL (m := mp b s) (f := f) (e := e) (by omega)
    rw [FLs_flat _ hc] at hP
    have hz : ((FL (mp b s) (f + 1) e).map encF).length + ((rng (f + 1) e).flatMap fun k => (grow (mp b s) f e k).map encF).length ≤ 323 := by
      rw [← List.length_append, ← FLs_flat _ hc, List.length_map]
      exact hfl
    refine sv_seq (sv_forCat (is := [5]) (rng (f + 1) e) .int (fun k => (grow (mp b s) f e k).map encF) [.dat (encB b), .dat (.str s), .dat (.int f), .dat (.int e), .any, .any, .any, .any, .any, .any] 4 ((FL (mp b s) (f + 1) e).map encF) 323 (ei_r2 (ea_cons (ev_op ev_v ev_int od_i) (ea_cons ev_v ea_nil)) (by omega)) (.same (.same (.same (.same (.same (.any (.any (.any (.any (.any .nil)))))))))) hz (fun k as hk has => ⟨_, eg_n, ?_⟩) (sv_ret ev_v hP))
    have hk' := mem_rng.mp hk
    refine sv_if (b := mp b s f k) (et_B (ev_call (ea_cons ev_v (ea_cons ev_v (ea_cons ev_v (ea_cons ev_v ea_nil)))) ⟨b, s, f, k, rfl, ⟨by omega, by omega, by omega, by omega, by omega⟩, rfl⟩)) (fun h => ?_) (fun h => sv_next ?_)
    · rw [grow_enc h] at has ⊢
      have l1 := FL_le (m := mp b s) (f := f + 1) (e := k) (by omega)
      have l2 := FL_le (m := mp b s) (f := k + 1) (e := e) (by omega)
      have n1 := len_FL (m := mp b s) (f := f + 1) (e := k) (by omega)
      have n2 := len_FL (m := mp b s) (f := k + 1) (e := e) (by omega)
      refine sv_seq (sv_as (ev_call (ea_cons ev_v (ea_cons ev_v (ea_cons (ev_op ev_v ev_int od_i) (ea_cons ev_v ea_nil)))) ⟨b, s, f + 1, k, rfl, ⟨h8, by omega, by omega, by omega, by omega⟩, rfl⟩) ?_)
      refine sv_seq (sv_as (ev_call (ea_cons ev_v (ea_cons ev_v (ea_cons (ev_op ev_v ev_int od_i) (ea_cons ev_v ea_nil)))) ⟨b, s, k + 1, e, rfl, ⟨h8, by omega, by omega, by omega, by omega⟩, rfl⟩) ?_)
      refine sv_as (ev_op ev_v (ev_lc2 (is := [8]) (is1 := [9]) (FL (mp b s) (f + 1) k) encF (fun _ => FL (mp b s) (k + 1) e) (fun _ c => encF c) (fun a c => encF ((f, k) :: (a ++ c))) (by decide) (by decide) (ei_list ev_v) (le16 (Nat.le_trans (Nat.le_trans (Nat.le_add_left _ _) has) (by decide))) fun a ha => ⟨_, eg_n, rfl, ei_list ev_v, fun c hc' => ⟨_, eg_n, ?_⟩⟩) (od_cat (le16 (Nat.le_trans has (by decide))))) (.same (.same (.same (.same (.same (.any (.any (.any (.any (.any .nil))))))))))
      have := l1 a ha (by omega)
      have := l2 c hc' (by omega)
      refine Ev.to (ev_op (ev_op (ev_tp (ea_cons (ev_tp (ea_cons ev_v (ea_cons ev_v ea_nil))) ea_nil)) ev_v (od_catT (by simp) (le16 (by simp; omega)))) ev_v (od_catT (by simp) (le16 (by simp; omega)))) ?_
      simp
    · rw [grow_no h, List.map_nil, List.append_nil]
      exact .same (.same (.same (.same (.same (.any (.any (.any (.any (.any .nil)))))))))
theorem sc_all_held : FnScope (["rules", "string", "string2", "some", "one"] : List Str) (["rules", "string", "string2"] : List Str) (defScope (topS 44)) := ⟨rfl, rfl, rfl, by decide +kernel, rfl, by decide +kernel, by decide +kernel⟩
theorem ok_all_held {f : Addr} {fd : FuncData} (t : Tx K mg L) (F : FnP K "all_held" 44 f fd) (gm : mg "all_held" = some (.ref f)) (c_need_string : Cal P w K mg base T 2 "need_string" ["rules", "thing"] spNeedString) (c_held_from : Cal P w K mg base T 11 "held_from" ["rules", "string", "string2", "first", "end"] (spHeldFrom 9)) (c_is_held : Cal P w K mg base T 3 "is_held" ["rules", "string", "string2", "thing"] spIsHeld) : Cal P w K mg base T 12 "all_held" ["rules", "string", "string2"] spAllHeld := by
  have sc := sc_all_held
  refine cal_of F sc gm (fun _ _ _ _ _ _ us hl => match us, hl with | [_, _, _], _ => rfl) (fun ds P hF => ?_) fun cdv A outer s H vs Q E hr => ?_
  · obtain ⟨_, _, _, rfl, _⟩ := hF; rfl
  · have hu := hu64 hr
    have hu1 := hu_of hr
    obtain ⟨tkM, hM⟩ := t.MOST
    refine ⟨_, PSs.nox (pss_cons (ps_expr (pe_cal c_need_string hr (by decide) (by rfl) (pa_cons (pv 0) (pa_cons (pv 1) pa_nil)))) (pss_cons (ps_expr (pe_cal c_need_string hr (by decide) (by rfl) (pa_cons (pv 0) (pa_cons (pv 2) pa_nil)))) (pss_cons (ps_set (i := 3) sc.nd rfl (.inl rfl) (pe_cal c_held_from hr (by decide) (by rfl) (pa_cons (pv 0) (pa_cons (pv 1) (pa_cons (pv 2) (pa_cons pe_int (pa_cons (pe_op op_add (pe_callB (k_len K) (by rfl) t.len boot_len (pa_cons (pv 1) pa_nil)) (pe_callB (k_len K) (by rfl) t.len boot_len (pa_cons (pv 2) pa_nil))) pa_nil))))))) (pss_one (ps_ret (pe_callB (k_sortD K hu) (by rfl) t.sorted boot_sorted (pa_cons (pe_lc (own := [("one", 4)]) rfl sc.nd (k_pi_list K (pv 3)) (blkOk_by (own := [("one", 4)]) (N := (["rules", "string", "string2", "some", "one"] : List Str)) (sc := defScope (topS 44)) (by decide +kernel)) (fun _ _ _ _ _ => (pg_name (i := 4) sc.nd rfl (.inl rfl))) (fun _ _ _ _ _ => (pts_one (pt_val (pe_cal c_is_held hr (by decide) (by rfl) (pa_cons (pv 0) (pa_cons (pv 1) (pa_cons (pv 2) (pa_cons (pv 4) pa_nil)))))))) (fun _ _ _ _ _ => (pv 4))) pa_nil))))))), fun ds P hF => ?_⟩
    obtain ⟨b, s, s2, rfl, ⟨hb, hw, hw2, h8, hok⟩, hP⟩ := hF
    have hls : (s ++ s2).length = s.length + s2.length := PySem.Str.length_append s s2
    refine sv_seq (sv_drop (ev_call (ea_cons ev_v (ea_cons ev_v ea_nil)) ⟨b, s, rfl, hw, rfl⟩) ?_)
    refine sv_seq (sv_drop (ev_call (ea_cons ev_v (ea_cons ev_v ea_nil)) ⟨b, s2, rfl, hw2, rfl⟩) ?_)
    refine sv_seq (sv_as (ev_call (ea_cons ev_v (ea_cons ev_v (ea_cons ev_v (ea_cons ev_int (ea_cons (ev_op (ev_cb (ea_cons ev_v ea_nil) (cl_lenS (le16 (by omega)))) (ev_cb (ea_cons ev_v ea_nil) (cl_lenS (le16 (by omega)))) od_i) ea_nil))))) ⟨b, s, s2, 0, _, rfl, ⟨h8, by omega, by omega, by omega, by omega⟩, rfl⟩) ?_)
    have he : ((s.length : Int) + (s2.length : Int)) = ((s ++ s2).length : Int) := by omega
    rw [he]
    unfold heldKs at hP
    have hl := len_FL (m := mh b (s ++ s2)) (f := 0) (e := (s ++ s2).length) (by omega)
    have hpr := FL_proper (m := mh b (s ++ s2)) 0 (s ++ s2).length
    have hh := FL_head (m := mh b (s ++ s2)) 0 (s ++ s2).length
    generalize FL (mh b (s ++ s2)) 0 (s ++ s2).length = Fs at hP hl hpr hh ⊢
    have hl2 := List.length_filter_le (heldB b s.length) Fs
    have hh2 : (Fs.filter (heldB b s.length)).head? = some [] := by
      cases Fs with
      | nil => cases hh
      | cons F r =>
        cases hh
        rw [List.filter_cons, if_pos (heldB_nil b s.length)]
        rfl
    refine sv_ret (Ev.to (ev_cb (ea_cons (ev_lcF (is := [4]) Fs encF (heldB b s.length) encF (by decide) (ei_list ev_v) (le16 (by omega)) fun F hm => ⟨_, eg_n, et_B (ev_call (ea_cons ev_v (ea_cons ev_v (ea_cons ev_v (ea_cons ev_v ea_nil)))) ⟨b, s, s2, F, rfl, ⟨hb, hw, hw2, ⟨by omega, hok, (hpr F hm).1⟩, fun p hp => (hpr F hm).2 p hp⟩, rfl⟩), fun _ => ev_v⟩) ea_nil) (cl_sort (sortD_folds _ (by omega) hh2))) (congrArg PyData.list (sortF_eq _))) hP
theorem sc_how_many_held : FnScope (["rules", "string", "string2"] : List Str) (["rules", "string", "string2"] : List Str) (defScope (topS 45)) := ⟨rfl, rfl, rfl, by decide +kernel, rfl, by decide +kernel, by decide +kernel⟩
theorem ok_how_many_held {f : Addr} {fd : FuncData} (t : Tx K mg L) (F : FnP K "how_many_held" 45 f fd) (gm : mg "how_many_held" = some (.ref f)) (c_all_held : Cal P w K mg base T 12 "all_held" ["rules", "string", "string2"] spAllHeld) : Cal P w K mg base T 13 "how_many_held" ["rules", "string", "string2"] spManyHeld := by
  have sc := sc_how_many_held
  refine cal_of F sc gm (fun _ _ _ _ _ _ us hl => match us, hl with | [_, _, _], _ => rfl) (fun ds P hF => ?_) fun cdv A outer s H vs Q E hr => ?_
  · obtain ⟨_, _, _, rfl, _⟩ := hF; rfl
  · have hu := hu64 hr
    have hu1 := hu_of hr
    obtain ⟨tkM, hM⟩ := t.MOST
    refine ⟨_, PSs.nox (pss_one (ps_ret (pe_callB (k_len K) (by rfl) t.len boot_len (pa_cons (pe_cal c_all_held hr (by decide) (by rfl) (pa_cons (pv 0) (pa_cons (pv 1) (pa_cons (pv 2) pa_nil)))) pa_nil)))), fun ds P hF => ?_⟩
    obtain ⟨b, s, s2, rfl, h, hP⟩ := hF
    exact sv_ret (Ev.to (ev_cb (ea_cons (ev_call (ea_cons ev_v (ea_cons ev_v (ea_cons ev_v ea_nil))) ⟨b, s, s2, rfl, h, rfl⟩) ea_nil) cl_lenL) (by rw [List.length_map])) hP
theorem sc_least_together : FnScope (["rules", "string", "string2", "some", "folding"] : List Str) (["rules", "string", "string2"] : List Str) (defScope (topS 46)) := ⟨rfl, rfl, rfl, by decide +kernel, rfl, by decide +kernel, by decide +kernel⟩
theorem ok_least_together {f : Addr} {fd : FuncData} (t : Tx K mg L) (F : FnP K "least_together" 46 f fd) (gm : mg "least_together" = some (.ref f)) (c_all_held : Cal P w K mg base T 12 "all_held" ["rules", "string", "string2"] spAllHeld) (c_held_worth : Cal P w K mg base T 4 "held_worth" ["rules", "string", "string2", "folding"] spHeldWorth) : Cal P w K mg base T 13 "least_together" ["rules", "string", "string2"] spLeastTogether := by
  have sc := sc_least_together
  refine cal_of F sc gm (fun _ _ _ _ _ _ us hl => match us, hl with | [_, _, _], _ => rfl) (fun ds P hF => ?_) fun cdv A outer s H vs Q E hr => ?_
  · obtain ⟨_, _, _, rfl, _⟩ := hF; rfl
  · have hu := hu64 hr
    have hu1 := hu_of hr
    obtain ⟨tkM, hM⟩ := t.MOST
    refine ⟨_, PSs.nox (pss_cons (ps_set (i := 3) sc.nd rfl (.inl rfl) (pe_cal c_all_held hr (by decide) (by rfl) (pa_cons (pv 0) (pa_cons (pv 1) (pa_cons (pv 2) pa_nil))))) (pss_one (ps_ret (pe_callB (k_minD K hu rfl) (by rfl) t.min boot_min (pa_cons (pe_lc (own := [("folding", 4)]) rfl sc.nd (k_pi_list K (pv 3)) (blkOk_by (own := [("folding", 4)]) (N := (["rules", "string", "string2", "some", "folding"] : List Str)) (sc := defScope (topS 46)) (by decide +kernel)) (fun _ _ _ _ _ => (pg_name (i := 4) sc.nd rfl (.inl rfl))) (fun _ _ _ _ _ => pts_nil) (fun _ _ _ _ _ => (pe_tup (pa_cons (pe_cal c_held_worth hr (by decide) (by rfl) (pa_cons (pv 0) (pa_cons (pv 1) (pa_cons (pv 2) (pa_cons (pv 4) pa_nil))))) (pa_cons (pv 4) pa_nil))))) pa_nil))))), fun ds P hF => ?_⟩
    obtain ⟨b, s, s2, rfl, h, hP⟩ := hF
    have h8 := h.l8
    refine sv_seq (sv_as (ev_call (ea_cons ev_v (ea_cons ev_v (ea_cons ev_v ea_nil))) ⟨b, s, s2, rfl, h, rfl⟩) ?_)
    unfold leastF at hP
    have hmem : ∀ F ∈ heldKs b s s2, Proper 0 (s ++ s2).length F ∧ allPw b (s ++ s2) F := fun F hF => by
      unfold heldKs at hF
      have h1 := (List.mem_filter.mp ((sortF_perm _).mem_iff.mp hF)).1
      have := FL_proper (m := mh b (s ++ s2)) 0 (s ++ s2).length F h1
      exact ⟨this.1, this.2⟩
    have hne : heldKs b s s2 ≠ [] := heldKs_ne b s s2
    have hl : (heldKs b s s2).length ≤ 323 := heldKs_len b s s2 h8
    generalize heldKs b s s2 = Fs at hP hmem hne hl ⊢
    cases Fs with
    | nil => exact absurd rfl hne
    | cons F r =>
      refine sv_ret (Ev.to (ev_cb (ea_cons (ev_lcM (is := [4]) (F :: r) encF (encT b s s2) (by decide) (ei_list ev_v) (le16 (by omega)) fun G hG => ⟨_, eg_n, ev_tp (ea_cons (ev_call (ea_cons ev_v (ea_cons ev_v (ea_cons ev_v (ea_cons ev_v ea_nil)))) ⟨b, s, s2, G, rfl, ⟨h.bk, ⟨by omega, h.ok, (hmem G hG).1⟩, (hmem G hG).2⟩, rfl⟩) (ea_cons ev_v ea_nil))⟩) ea_nil) (cl_min (ordD_T b s s2 (F :: r)))) (minL_T b s s2 r F)) hP
theorem sc_all_foldings : FnScope (["rules", "string"] : List Str) (["rules", "string"] : List Str) (defScope (topS 52)) := ⟨rfl, rfl, rfl, by decide +kernel, rfl, by decide +kernel, by decide +kernel⟩
theorem ok_all_foldings {f : Addr} {fd : FuncData} (t : Tx K mg L) (F : FnP K "all_foldings" 52 f fd) (gm : mg "all_foldings" = some (.ref f)) (c_need_string : Cal P w K mg base T 2 "need_string" ["rules", "thing"] spNeedString) (c_foldings_from : Cal P w K mg base T 11 "foldings_from" ["rules", "string", "first", "end"] (spFoldFrom 9)) : Cal P w K mg base T 12 "all_foldings" ["rules", "string"] spAllFold := by
  have sc := sc_all_foldings
  refine cal_of F sc gm (fun _ _ _ _ _ _ us hl => match us, hl with | [_, _], _ => rfl) (fun ds P hF => ?_) fun cdv A outer s H vs Q E hr => ?_
  · obtain ⟨_, _, rfl, _⟩ := hF; rfl
  · have hu := hu64 hr
    have hu1 := hu_of hr
    obtain ⟨tkM, hM⟩ := t.MOST
    refine ⟨_, PSs.nox (pss_cons (ps_expr (pe_cal c_need_string hr (by decide) (by rfl) (pa_cons (pv 0) (pa_cons (pv 1) pa_nil)))) (pss_one (ps_ret (pe_callB (k_sortD K hu) (by rfl) t.sorted boot_sorted (pa_cons (pe_cal c_foldings_from hr (by decide) (by rfl) (pa_cons (pv 0) (pa_cons (pv 1) (pa_cons pe_int (pa_cons (pe_callB (k_len K) (by rfl) t.len boot_len (pa_cons (pv 1) pa_nil)) pa_nil))))) pa_nil))))), fun ds P hF => ?_⟩
    obtain ⟨b, s, rfl, ⟨hb, hw, h8⟩, hP⟩ := hF
    refine sv_seq (sv_drop (ev_call (ea_cons ev_v (ea_cons ev_v ea_nil)) ⟨b, s, rfl, hw, rfl⟩) ?_)
    have hl := len_FL (m := mp b s) (f := 0) (e := s.length) (by omega)
    refine sv_ret (Ev.to (ev_cb (ea_cons (ev_call (ea_cons ev_v (ea_cons ev_v (ea_cons ev_int (ea_cons (ev_cb (ea_cons ev_v ea_nil) (cl_lenS (le16 (by omega)))) ea_nil)))) ⟨b, s, 0, _, rfl, ⟨h8, by omega, by omega, by omega, by omega⟩, rfl⟩) ea_nil) (cl_sort (sortD_folds _ (by omega) (FL_head 0 _)))) (congrArg PyData.list (sortF_eq _))) hP
end
end Pf
set_option Elab.async false
set_option linter.all false
set_option maxRecDepth 100000
set_option maxHeartbeats 4000000
namespace Pf
open PySem PySem.Spec L2
open PyProof.Rows PySem.Calls
section
variable {P : Program} {w : World} {K : PySem.W.Frag} {mg : Str → Option Value} {base : Heap} {T : Tb} {L : Addr}
theorem sc_ways_ofC : FnScope (["rules", "string", "found", "size", "first", "end", "many", "k"] : List Str) (["rules", "string"] : List Str) (defScope (topS 48)) := ⟨rfl, rfl, rfl, by decide +kernel, rfl, by decide +kernel, by decide +kernel⟩
theorem ok_ways_ofC {f : Addr} {fd : FuncData} (t : Tx K mg L) (F : FnP K "ways_of" 48 f fd) (gm : mg "ways_of_counts" = some (.ref f)) (c_may_pair : Cal P w K mg base T 2 "may_pair" ["rules", "string", "i", "j"] spMayPair) : Cal P w K mg base T 3 "ways_of_counts" ["rules", "string"] spWaysC := by
  have sc := sc_ways_ofC
  refine cal_of F sc gm (fun _ _ _ _ _ _ us hl => match us, hl with | [_, _], _ => rfl) (fun ds P hF => ?_) fun cdv A outer s H vs Q E hr => ?_
  · obtain ⟨_, _, rfl, _⟩ := hF; rfl
  · have hu := hu64 hr
    have hu1 := hu_of hr
    obtain ⟨tkM, hM⟩ := t.MOST
    refine ⟨_, PSs.nox (pss_cons (ps_set (i := 2) sc.nd rfl (.inl rfl) pe_dnewT) (pss_cons (ps_set (i := 3) sc.nd rfl (.inl rfl) (pe_callB (k_len K) (by rfl) t.len boot_len (pa_cons (pv 1) pa_nil))) (pss_cons (ps_for PassesOwn.never rfl (pi_range3 (by rfl) t.range (pa_cons (pv 3) (pa_cons (pe_un un_neg pe_int) (pa_cons (pe_un un_neg pe_int) pa_nil)))) (pg_name (i := 4) sc.nd rfl (.inl rfl)) (pss_one (ps_for PassesOwn.never rfl (pi_range2 (by rfl) t.range (pa_cons (pv 4) (pa_cons (pe_op op_add (pv 3) pe_int) pa_nil))) (pg_name (i := 5) sc.nd rfl (.inl rfl)) (pss_cons (ps_set (i := 6) sc.nd rfl (.inl rfl) (pe_ifExp (pt_cmpR op_le (pv 5) (pe_op op_add (pv 4) pe_int) (nomark _)) pe_int (pe_dget hu1 (pv 2) (pe_tup (pa_cons (pe_op op_add (pv 4) pe_int) (pa_cons (pv 5) pa_nil))) (fun _ _ => rfl)))) (pss_cons (ps_for PassesOwn.never rfl (pi_range2 (by rfl) t.range (pa_cons (pe_op op_add (pv 4) pe_int) (pa_cons (pv 5) pa_nil))) (pg_name (i := 7) sc.nd rfl (.inl rfl)) (pss_one (ps_if (pt_val (pe_cal c_may_pair hr (by decide) (by rfl) (pa_cons (pv 0) (pa_cons (pv 1) (pa_cons (pv 4) (pa_cons (pv 7) pa_nil)))))) (pss_one (ps_aug (i := 6) sc.nd rfl (.inl rfl) (pe_op op_mul (pe_dget hu1 (pv 2) (pe_tup (pa_cons (pe_op op_add (pv 4) pe_int) (pa_cons (pv 7) pa_nil))) (fun _ _ => rfl)) (pe_dget2 hu1 (pv 2) (pe_tup (pa_cons (pe_op op_add (pv 7) pe_int) (pa_cons (pv 5) pa_nil))) pe_int ⟨rfl, rfl, rfl, rfl⟩)) ip_add)) pss_nil))) (pss_one (ps_dput hu1 (pv 2) (pe_tup (pa_cons (pv 4) (pa_cons (pv 5) pa_nil))) (pv 6) rfl))))))) (pss_one (ps_ret (pv 2)))))), fun ds P hF => ?_⟩
    obtain ⟨b, s, rfl, h8, hP⟩ := hF
    refine sv_seq (sv_newT (fun j e q => (noOwn_at (show noOwn _ = true by rfl) q).elim) ?_)
    refine sv_seq (sv_as (ev_cb (ea_cons ev_v ea_nil) (cl_lenS (le16 (by omega)))) ?_)
    refine sv_seq (sv_forIx (is := [4]) (downs s.length) .int ([] : List (List Key × D)) (cnRow b s) (fun es => [.dat (encB b), .dat (.str s), .own (dT es), .dat (.int s.length), .any, .any, .any, .any]) (fun i es => CnI b s (s.length - i) (s.length - i) es ∧ es.length ≤ 20 * i) (ei_rd (ea_cons ev_v (ea_cons (ev_un ev_int ud_i) (ea_cons (ev_un ev_int ud_i) ea_nil))) (by omega)) (.same (.same (.same (.same (.any (.any (.any (.any .nil)))))))) ⟨fun f e h1 h2 h3 h4 => by omega, Nat.zero_le _⟩ (fun i es f hx hI => ?_) (fun i es f hx hI => ⟨_, eg_n, ?_⟩) fun hI => ?_)
    · exact cnRow_step i es f hx hI h8
    · obtain ⟨h1, h2⟩ := downs_at hx
      rw [← h1] at hI
      refine sv_forIx (is := [5]) (rng f (s.length + 1)) .int es (cnPut b s f) (fun es => [.dat (encB b), .dat (.str s), .own (dT es), .dat (.int s.length), .dat (.int f), .any, .any, .any]) (fun j es' => CnI b s f (f + j) es' ∧ es'.length ≤ es.length + j) (ei_r2 (ea_cons ev_v (ea_cons (ev_op ev_v ev_int od_i) ea_nil)) (by omega)) (.same (.same (.same (.same (.same (.any (.any (.any .nil)))))))) ⟨by simpa using hI.1, by omega⟩ (fun j es' e hx' hI' => ?_) (fun j es' e hx' hI' => ⟨_, eg_n, ?_⟩) fun _ => .same (.same (.same (.same (.any (.any (.any (.any .nil)))))))
      · have he := rng_at hx'
        refine ⟨?_, ?_⟩
        · have := cnI_put hI'.1
          rw [← he.1] at this
          rw [show f + ((j + 1 : Nat) : Int) = e + 1 by push_cast; omega]
          exact this
        · have := ptD_len es' (k2 f e) (.int (cn b s f e))
          have := hI'.2
          unfold cnPut
          omega
      · have he := rng_at hx'
        have hes := hI'.2
        have hes0 := hI.2
        have hI2 := hI'.1
        rw [← he.1] at hI2
        refine sv_seq (sv_as (d := .int (if e ≤ f + 1 then 1 else cn b s (f + 1) e)) (ev_peek (i := 2) rfl (ev_if (b := decide (e ≤ f + 1)) (et_test (ev_op ev_v (ev_op ev_v ev_int od_i) od_b)) (fun h => ?_) (fun h => ?_)) rfl) ?_)
        · rw [if_pos (of_decide_eq_true h)]; exact ev_int
        · have h' := of_decide_eq_false h
          rw [if_neg h']
          exact ev_getT (k := k2 (f + 1) e) ev_v (ev_tp (ea_cons (ev_op ev_v ev_int od_i) (ea_cons ev_v ea_nil))) (hI2 (f + 1) e (by omega) (by omega) (by omega) (.inl (by omega)))
        refine sv_seq (sv_forIx (is := [7]) (rng (f + 1) e) .int (if e ≤ f + 1 then 1 else cn b s (f + 1) e) (cnStep b s f e) (fun a => [.dat (encB b), .dat (.str s), .own (dT es'), .dat (.int s.length), .dat (.int f), .dat (.int e), .dat (.int a), .any]) (fun _ _ => True) (ei_r2 (ea_cons (ev_op ev_v ev_int od_i) (ea_cons ev_v ea_nil)) (by omega)) (.same (.same (.same (.same (.same (.same (.same (.any .nil)))))))) trivial (fun _ _ _ _ _ => trivial) (fun t a k hk _ => ⟨_, eg_n, ?_⟩) fun _ => ?_)
        · have hk' := rng_at hk
          have b1 := cn_bound (b := b) (s := s) (f := f + 1) (e := k) (by omega)
          have b2 := cn_bound (b := b) (s := s) (f := k + 1) (e := e) (by omega)
          refine sv_if (b := mp b s f k) (et_B (ev_peek (i := 2) rfl (ev_call (ea_cons ev_v (ea_cons ev_v (ea_cons ev_v (ea_cons ev_v ea_nil)))) ⟨b, s, f, k, rfl, ⟨by omega, by omega, by omega, by omega, by omega⟩, rfl⟩) rfl)) (fun h => ?_) (fun h => sv_next ?_)
          · unfold cnStep
            rw [if_pos h]
            refine sv_aug rfl (ev_peek (i := 2) rfl (ev_op (ev_getT (k := k2 (f + 1) k) ev_v (ev_tp (ea_cons (ev_op ev_v ev_int od_i) (ea_cons ev_v ea_nil))) (hI2 (f + 1) k (by omega) (by omega) (by omega) (.inl (by omega)))) (Ev.to (ev_get2T (k := k2 (k + 1) e) ev_v (ev_tp (ea_cons (ev_op ev_v ev_int od_i) (ea_cons ev_v ea_nil))) ev_int) (by rw [hI2 (k + 1) e (by omega) (by omega) (by omega) (.inl (by omega))]; rfl)) (od_iC (.inl (by omega)))) rfl) (.same (.same (.same (.same (.same (.same (.same (.any .nil))))))))
          · unfold cnStep
            rw [if_neg (by rw [h]; exact Bool.false_ne_true), Int.add_zero]
            exact .same (.same (.same (.same (.same (.same (.same (.any .nil)))))))
        · rw [cn_fold]
          exact sv_putT (i := 2) (es := es') (k := k2 f e) rfl ev_v (ev_tp (ea_cons ev_v (ea_cons ev_v ea_nil))) (lt16 (by omega)) (.same (.same (.same (.same (.same (.any (.any (.any .nil))))))))
    · exact sv_froze (i := 2) rfl (sv_ret ev_v hP)
theorem sc_how_many : FnScope (["rules", "string"] : List Str) (["rules", "string"] : List Str) (defScope (topS 50)) := ⟨rfl, rfl, rfl, by decide +kernel, rfl, by decide +kernel, by decide +kernel⟩
theorem ok_how_many {f : Addr} {fd : FuncData} (t : Tx K mg L) (F : FnP K "how_many" 50 f fd) (gm : mg "how_many" = some (.ref f)) (c_need_string : Cal P w K mg base T 2 "need_string" ["rules", "thing"] spNeedString) (c_ways_of_counts : Cal P w K mg base T 3 "ways_of_counts" ["rules", "string"] spWaysC) : Cal P w K mg base T 4 "how_many" ["rules", "string"] spHowMany := by
  have sc := sc_how_many
  refine cal_of F sc gm (fun _ _ _ _ _ _ us hl => match us, hl with | [_, _], _ => rfl) (fun ds P hF => ?_) fun cdv A outer s H vs Q E hr => ?_
  · obtain ⟨_, _, rfl, _⟩ := hF; rfl
  · have hu := hu64 hr
    have hu1 := hu_of hr
    obtain ⟨tkM, hM⟩ := t.MOST
    refine ⟨_, PSs.nox (pss_cons (ps_expr (pe_cal c_need_string hr (by decide) (by rfl) (pa_cons (pv 0) (pa_cons (pv 1) pa_nil)))) (pss_one (ps_ret (pe_dget hu1 (pe_cal c_ways_of_counts hr (by decide) (by rfl) (pa_cons (pv 0) (pa_cons (pv 1) pa_nil))) (pe_tup (pa_cons pe_int (pa_cons (pe_callB (k_len K) (by rfl) t.len boot_len (pa_cons (pv 1) pa_nil)) pa_nil))) (fun _ _ => rfl))))), fun ds P hF => ?_⟩
    obtain ⟨b, s, rfl, ⟨hb, hw, h8⟩, hP⟩ := hF
    refine sv_seq (sv_drop (ev_call (ea_cons ev_v (ea_cons ev_v ea_nil)) ⟨b, s, rfl, hw, rfl⟩) ?_)
    exact sv_ret (ev_getT (k := k2 0 s.length) (ev_call (ea_cons ev_v (ea_cons ev_v ea_nil)) ⟨b, s, rfl, h8, rfl⟩) (ev_tp (ea_cons ev_int (ea_cons (ev_cb (ea_cons ev_v ea_nil) (cl_lenS (le16 (by omega)))) ea_nil))) (cnTab_at h8 0 s.length (by omega) (by omega) (by omega))) hP
end
end Pf
set_option Elab.async false
set_option linter.all false
set_option maxRecDepth 100000
set_option maxHeartbeats 4000000
namespace Pf
open PySem L2
/-! ### a list that is written: the pen; it stands at q, its cells at c -/
abbrev pen (c : Addr) (u r : Int) : HO := .lst [.ref c, .int u, .int r]
def ptrD (q : Addr) : D := .dict [(.list [], .none), (.int (q : Nat), .none)]
theorem rep_ptr {G : Hp} {v : V} {q : Addr} (r : Rep G v (ptrD q)) : v = .ref q := by
  unfold ptrD at r
  generalize hz : [(PyData.list [], PyData.none), (PyData.int (q : Nat), PyData.none)] = z at r
  cases r with
  | dk h r =>
    subst hz
    obtain ⟨k, hk⟩ := repK_head r
    cases k <;> cases hk
  | dt h r => injection hz with h1 _; injection h1 with h1 _; cases h1
  | fz h n p => injection hz with h1 _; injection h1 with h1 _; cases h1
  | fs h n => injection hz with h1 _; injection h1 with h1 _; cases h1
  | ptr a =>
    injection hz with _ h2
    injection h2 with h2 _
    injection h2 with h2 _
    injection h2 with h2
    rw [Int.ofNat.inj h2]
theorem upd_id {H : Hp} {q : Addr} {o : HO} (h : H q = some o) : upd H q o = H := by
  funext a
  by_cases e : a = q
  · subst e; rw [upd_same, h]
  · rw [upd_ne e]
section
variable {T : Tb} {G H G1 H1 G2 H2 G0 H0 : Hp} {q : Addr} {o1 o2 : HO} {σ : L2.St} {ρ : En}
theorem Go.put (g : Go T G (upd H q o1) G1 H1) (h : G1 q = none) (p1 : Plain o1) (p2 : Plain o2) : Go T G (upd H q o2) G1 (upd H1 q o2) := by
  have hq : H1 q = some o1 := g.h.at_ upd_same p1.notT
  refine ⟨g.g, fun a o e => ?_, ⟨fun a o e => ?_, tabs_set g.w.t hq p1, g.w.nt⟩, fun a e => ?_⟩
  · by_cases z : a = q
    · subst z; rw [upd_same] at e ⊢; exact .inl e
    · rw [upd_ne z] at e ⊢
      exact g.h a o (by rw [upd_ne z]; exact e)
  · have z : a ≠ q := fun z => by subst z; rw [h] at e; cases e
    rw [upd_ne z]
    exact g.w.s a o e
  · have z : a ≠ q := fun z => by subst z; exact e h
    rcases g.n a e with k | k
    · exact .inl k
    · refine .inr ?_
      rcases k with k | ⟨xs, k⟩ <;> rw [upd_ne z] at k
      · exact .inl (by rw [upd_ne z]; exact k)
      · exact .inr ⟨xs, by rw [upd_ne z]; exact k⟩
theorem Sta.pput (S : Sta T G0 (upd H0 q o1) G H σ ρ) (h : G q = none) (p1 : Plain o1) (p2 : Plain o2) : Sta T G0 (upd H0 q o2) G (upd H q o2) σ ρ := by
  refine ⟨S.go.put h p1 p2, S.len, fun i s e => ?_, S.one⟩
  have k := S.sl i s e
  cases s with
  | any => exact True.intro
  | dat d => exact k
  | own d =>
    obtain ⟨p, o, e1, e2, e3, e4, e5⟩ := k
    have z : p ≠ q := fun z => by subst z; rw [upd_same] at e2; cases e2
    exact ⟨p, o, e1, by rw [upd_ne z] at e2 ⊢; exact e2, e3, by rw [upd_ne z]; exact e4, e5⟩
end
/-- the slots, the pen among them -/
structure PSt (T : Tb) (q c : Addr) (cs : List Int) (u r : Int) (G0 H0 G H : Hp) (σ : L2.St) (ρ : En) : Prop where
  st : Sta T G0 (upd H0 q (pen c u r)) G H σ ρ
  g0 : G0 q = none
  hc : Rep G (.ref c) (.list (cs.map .int))
  u0 : 0 ≤ u
  r0 : 0 ≤ r
def lim : Int := 1000000
section
variable {T : Tb} {q c : Addr} {cs : List Int} {u r u' r' u2 r2 : Int} {G0 H0 G H G' H' G2 H2 : Hp} {σ σ' : L2.St} {ρ ρ' : En}
theorem go_q {o : HO} (g : Go T G (upd H q o) G' H') (p : Plain o) (n : ∀ xs, o ≠ .tup xs) (h : G q = none) : G' q = none := by
  cases e : G' q with
  | none => rfl
  | some x =>
    rcases g.n q (by rw [e]; simp) with z | z
    · exact absurd h z
    · rcases z with z | ⟨xs, z⟩ <;> rw [upd_same] at z
      · cases z
      · exact absurd (Option.some.inj z) (n xs)
theorem pen_q (g : Go T G (upd H q (pen c u r)) G' H') (h : G q = none) : G' q = none := go_q g True.intro (by intro xs e; cases e) h
theorem PSt.gq (S : PSt T q c cs u r G0 H0 G H σ ρ) : G q = none := pen_q S.st.go S.g0
theorem PSt.hq (S : PSt T q c cs u r G0 H0 G H σ ρ) : H q = some (pen c u r) := S.st.go.h.at_ upd_same notT_lst
theorem PSt.same (S : PSt T q c cs u r G0 H0 G H σ ρ) (g : Go T G H G' H') : Go T G (upd H q (pen c u r)) G' H' := by rw [upd_id S.hq]; exact g
theorem PSt.move (S : PSt T q c cs u r G0 H0 G H σ ρ) (g : Go T G (upd H q (pen c u' r')) G' H') (h1 : 0 ≤ u') (h2 : 0 ≤ r') : PSt T q c cs u' r' G0 H0 G' H' σ ρ := ⟨(S.st.pput (o2 := pen c u' r') S.gq True.intro True.intro).next g, S.g0, S.hc.mono g.g, h1, h2⟩
theorem PSt.go (S : PSt T q c cs u r G0 H0 G H σ ρ) (g : Go T G H G' H') : PSt T q c cs u r G0 H0 G' H' σ ρ := S.move (S.same g) S.u0 S.r0
theorem pgo (g1 : Go T G (upd H q (pen c u r)) G' H') (g2 : Go T G' (upd H' q (pen c u' r')) G2 H2) (h : G q = none) : Go T G (upd H q (pen c u' r')) G2 H2 := (g1.put (o2 := pen c u' r') (pen_q g1 h) True.intro True.intro).trans g2
/-- with at most n draws -/
def EvM (T : Tb) (q c : Addr) (cs : List Int) (n : Nat) (te : TE) (ρ : En) (P : D → Prop) : Prop := ∀ (G0 H0 G H : Hp) (σ : L2.St) (Q : VK) (u r : Int), PSt T q c cs u r G0 H0 G H σ ρ → u + n ≤ lim →
  (∀ (v : V) (d : D) (u' r' : Int) (G' H' : Hp), u ≤ u' → u' ≤ u + n → 0 ≤ r' → Go T G (upd H q (pen c u' r')) G' H' → Rep G' v d → P d → Q v H') → te σ H Q
def EvMA (T : Tb) (q c : Addr) (cs : List Int) (n : Nat) (ta : TA) (ρ : En) (P : List D → Prop) : Prop := ∀ (G0 H0 G H : Hp) (σ : L2.St) (Q : List V → Hp → Prop) (u r : Int), PSt T q c cs u r G0 H0 G H σ ρ → u + n ≤ lim →
  (∀ (vs : List V) (ds : List D) (u' r' : Int) (G' H' : Hp), u ≤ u' → u' ≤ u + n → 0 ≤ r' → Go T G (upd H q (pen c u' r')) G' H' → Reps G' vs ds → P ds → Q vs H') → ta σ H Q
def EvMT (T : Tb) (q c : Addr) (cs : List Int) (n : Nat) (tt : TT) (ρ : En) (P : Bool → Prop) : Prop := ∀ (G0 H0 G H : Hp) (σ : L2.St) (Q : Bool → Hp → Prop) (u r : Int), PSt T q c cs u r G0 H0 G H σ ρ → u + n ≤ lim →
  (∀ (b : Bool) (u' r' : Int) (G' H' : Hp), u ≤ u' → u' ≤ u + n → 0 ≤ r' → Go T G (upd H q (pen c u' r')) G' H' → P b → Q b H') → tt σ H Q
def EvMI (T : Tb) (q c : Addr) (cs : List Int) (n : Nat) (wi : TI) (ρ : En) (P : List D → Prop) : Prop := ∀ (G0 H0 G H : Hp) (σ : L2.St) (R : It → Hp → Prop) (u r : Int), PSt T q c cs u r G0 H0 G H σ ρ → u + n ≤ lim →
  (∀ (J : It) (ds : List D) (u' r' : Int) (G' H' : Hp), u ≤ u' → u' ≤ u + n → 0 ≤ r' → Go T G (upd H q (pen c u' r')) G' H' → ItD T J G' ds → P ds → R J H') → wi σ H R
/-- a statement, with at most n draws -/
def SvM (T : Tb) (q c : Addr) (cs : List Int) (n : Nat) (ts : TS) (ρ : En) (N : En → Prop) (R : D → Prop) : Prop := ∀ (G0 H0 G H : Hp) (σ : L2.St) (E : Ends) (u r : Int), PSt T q c cs u r G0 H0 G H σ ρ → u + n ≤ lim →
  (∀ (G' H' : Hp) (σ' : L2.St) (ρ' : En) (u' r' : Int), u ≤ u' → u' ≤ u + n → Sub G G' → PSt T q c cs u' r' G0 H0 G' H' σ' ρ' → N ρ' → E.nx σ' H') →
  (∀ (v : V) (d : D) (u' r' : Int) (G' H' : Hp), u ≤ u' → u' ≤ u + n → 0 ≤ r' → Go T G0 (upd H0 q (pen c u' r')) G' H' → Rep G' v d → R d → E.rt v H') → ts E σ H
end
section
variable {T : Tb} {q c : Addr} {cs : List Int} {n m k : Nat} {te ta tb : TE} {t tr : TA} {tt : TT} {wi : TI} {ts us : TS} {ρ ρ' : En} {d x y z : D} {ds : List D} {P P' Pa Pb : D → Prop} {Ps Ps' : List D → Prop} {N N' : En → Prop} {R R' : D → Prop}
theorem evm_p (h : EvP T te ρ P) : EvM T q c cs 0 te ρ P := fun G0 H0 G H σ Q u r S hl kk => h _ _ G H σ Q S.st fun v d G' H' g rr p => kk v d u r G' H' (Int.le_refl _) (by omega) S.r0 (S.same g) rr p
theorem evm (h : Ev T te ρ d) : EvM T q c cs 0 te ρ (· = d) := evm_p (h.p rfl)
theorem EvM.imp (h : EvM T q c cs n te ρ P) (hn : n ≤ m) (hp : ∀ d, P d → P' d) : EvM T q c cs m te ρ P' := fun G0 H0 G H σ Q u r S hl kk => h G0 H0 G H σ Q u r S (by omega) fun v d u' r' G' H' a b e g rr p => kk v d u' r' G' H' a (by omega) e g rr (hp d p)
theorem eam (h : EvA T t ρ ds) : EvMA T q c cs 0 t ρ (· = ds) := fun G0 H0 G H σ Q u r S hl kk => h _ _ G H σ Q S.st fun vs G' H' g rr => kk vs ds u r G' H' (Int.le_refl _) (by omega) S.r0 (S.same g) rr rfl
theorem eam_nil : EvMA T q c cs 0 tNil ρ (· = []) := eam ea_nil
theorem eam_cons (h : EvM T q c cs n te ρ P) (hr : EvMA T q c cs m tr ρ Ps) : EvMA T q c cs (n + m) (tCons te tr) ρ (fun ds => ∃ d es, ds = d :: es ∧ P d ∧ Ps es) := fun G0 H0 G H σ Q u r S hl kk =>
  h G0 H0 G H σ _ u r S (by omega) fun v d u1 r1 G1 H1 a1 b1 e1 g1 rr1 p1 => hr G0 H0 G1 H1 σ _ u1 r1 (S.move g1 (by have := S.u0; omega) e1) (by omega) fun vs es u2 r2 G2 H2 a2 b2 e2 g2 rr2 p2 =>
    kk (v :: vs) (d :: es) u2 r2 G2 H2 (by omega) (by omega) e2 (pgo g1 g2 S.gq) (.cons (rr1.mono g2.g) rr2) ⟨d, es, rfl, p1, p2⟩
theorem EvMA.imp (h : EvMA T q c cs n t ρ Ps) (hn : n ≤ m) (hp : ∀ d, Ps d → Ps' d) : EvMA T q c cs m t ρ Ps' := fun G0 H0 G H σ Q u r S hl kk => h G0 H0 G H σ Q u r S (by omega) fun v d u' r' G' H' a b e g rr p => kk v d u' r' G' H' a (by omega) e g rr (hp d p)
theorem PSt.fin {u r u' r' : Int} {G0 H0 G H G1 H1 G' H' : Hp} {σ : L2.St} (S : PSt T q c cs u r G0 H0 G H σ ρ) (g : Go T G (upd H q (pen c u' r')) G1 H1) (g' : Go T G1 H1 G' H') : Go T G (upd H q (pen c u' r')) G' H' := g.trans g'
theorem evm_op {r2 : R2} (ha : EvM T q c cs n ta ρ Pa) (hb : EvM T q c cs m tb ρ Pb) (o : ∀ x y, Pa x → Pb y → ∃ z, OpD T r2 x y z ∧ P z) : EvM T q c cs (n + m) (tOp r2 ta tb) ρ P := fun G0 H0 G H σ Q u r S hl kk =>
  ha G0 H0 G H σ _ u r S (by omega) fun v d u1 r1 G1 H1 a1 b1 e1 g1 rr1 p1 => hb G0 H0 G1 H1 σ _ u1 r1 (S.move g1 (by have := S.u0; omega) e1) (by omega) fun v2 d2 u2 r2 G2 H2 a2 b2 e2 g2 rr2 p2 => by
    obtain ⟨z, oz, pz⟩ := o d d2 p1 p2
    have g12 := pgo g1 g2 S.gq
    exact oz G2 H2 v v2 Q g12.w (rr1.mono g2.g) rr2 fun w G3 H3 g3 rr3 => kk w z u2 r2 G3 H3 (by omega) (by omega) e2 (g12.trans g3) rr3 pz
theorem evm_cb {r2 : List V → Hp → VK → Prop} (h : EvMA T q c cs n t ρ Ps) (o : ∀ ds, Ps ds → ∃ z, ClD T r2 ds z ∧ P z) : EvM T q c cs n (tCB r2 t) ρ P := fun G0 H0 G H σ Q u r S hl kk =>
  h G0 H0 G H σ _ u r S hl fun vs ds u1 r1 G1 H1 a1 b1 e1 g1 rr1 p1 => by
    obtain ⟨z, oz, pz⟩ := o ds p1
    exact oz G1 H1 vs Q g1.w rr1 fun w G3 H3 g3 rr3 => kk w z u1 r1 G3 H3 a1 b1 e1 (g1.trans g3) rr3 pz
theorem evm_tup (h : EvMA T q c cs n t ρ Ps) (hz : ∀ ds, Ps ds → ds.length ≤ sizeLine) : EvM T q c cs n (tTup t) ρ (fun d => ∃ ds, d = .tuple ds ∧ Ps ds) := fun G0 H0 G H σ Q u r S hl kk =>
  h G0 H0 G H σ _ u r S hl fun vs ds u1 r1 G1 H1 a1 b1 e1 g1 rr1 p1 => ⟨by rw [rr1.length]; exact hz ds p1, fun p hp => by
    have g2 := g1.w.new hp (notT_tup (xs := vs))
    exact kk (.ref p) _ u1 r1 _ _ a1 b1 e1 (g1.trans g2) (.tup upd_same (rr1.mono g2.g)) ⟨ds, rfl, p1⟩⟩
theorem evm_lst (h : EvMA T q c cs n t ρ Ps) (hz : ∀ ds, Ps ds → ds.length ≤ sizeLine) : EvM T q c cs n (tLst t) ρ (fun d => ∃ ds, d = .list ds ∧ Ps ds) := fun G0 H0 G H σ Q u r S hl kk =>
  h G0 H0 G H σ _ u r S hl fun vs ds u1 r1 G1 H1 a1 b1 e1 g1 rr1 p1 => ⟨by rw [rr1.length]; exact hz ds p1, fun p hp => by
    have g2 := g1.w.new hp (notT_lst (xs := vs))
    exact kk (.ref p) _ u1 r1 _ _ a1 b1 e1 (g1.trans g2) (.lst upd_same (rr1.mono g2.g)) ⟨ds, rfl, p1⟩⟩
theorem etm_test (h : EvM T q c cs n te ρ fun d => ∃ b : Bool, d = .bool b ∧ P d) : EvMT T q c cs n (tTest te) ρ (fun b => P (.bool b)) := fun G0 H0 G H σ Q u r S hl kk =>
  h G0 H0 G H σ _ u r S hl fun v d u1 r1 G1 H1 a1 b1 e1 g1 rr1 p1 => by
    obtain ⟨b, rfl, p1⟩ := p1
    cases rr1
    exact ⟨b, rfl, kk b u1 r1 G1 H1 a1 b1 e1 g1 p1⟩
theorem etm {b : Bool} (h : EvT T tt ρ b) : EvMT T q c cs 0 tt ρ (· = b) := fun G0 H0 G H σ Q u r S hl kk => h _ _ G H σ Q S.st fun G' H' g => kk b u r G' H' (Int.le_refl _) (by omega) S.r0 (S.same g) rfl
/-! statements -/
theorem svm (h : Sv T ts ρ N R) : SvM T q c cs 0 ts ρ N R := fun G0 H0 G H σ E u r S hl kn kr =>
  h _ _ G H σ E S.st (fun G' H' σ' ρ' s S' nn => kn G' H' σ' ρ' u r (Int.le_refl _) (by omega) s ⟨S', S.g0, S.hc.mono s, S.u0, S.r0⟩ nn) fun v d G' H' g rr p => kr v d u r G' H' (Int.le_refl _) (by omega) S.r0 g rr p
theorem SvM.imp (h : SvM T q c cs n ts ρ N R) (hn : n ≤ m) (h1 : ∀ ρ, N ρ → N' ρ) (h2 : ∀ d, R d → R' d) : SvM T q c cs m ts ρ N' R' := fun G0 H0 G H σ E u r S hl kn kr =>
  h G0 H0 G H σ E u r S (by omega) (fun G' H' σ' ρ' u' r' a b s S' nn => kn G' H' σ' ρ' u' r' a (by omega) s S' (h1 _ nn)) fun v d u' r' G' H' a b e g rr p => kr v d u' r' G' H' a (by omega) e g rr (h2 _ p)
theorem SvM.le (h : SvM T q c cs n ts ρ' N R) (l : Le ρ ρ') : SvM T q c cs n ts ρ N R := fun G0 H0 G H σ E u r S hl kn kr => h G0 H0 G H σ E u r ⟨S.st.le l, S.g0, S.hc, S.u0, S.r0⟩ hl kn kr
theorem svm_next (h : N ρ) : SvM T q c cs 0 tNext ρ N R := svm (sv_next h)
theorem svm_seq (h : SvM T q c cs n ts ρ (fun ρ' => SvM T q c cs m us ρ' N R) R) : SvM T q c cs (n + m) (tSeq ts us) ρ N R := fun G0 H0 G H σ E u r S hl kn kr =>
  h G0 H0 G H σ _ u r S (by omega) (fun G1 H1 σ1 ρ1 u1 r1 a1 b1 s1 S1 hs => hs G0 H0 G1 H1 σ1 E u1 r1 S1 (by omega) (fun G2 H2 σ2 ρ2 u2 r2 a2 b2 s2 S2 nn => kn G2 H2 σ2 ρ2 u2 r2 (by omega) (by omega) (s1.trans s2) S2 nn)
    fun v d u2 r2 G2 H2 a2 b2 e2 g2 rr p => kr v d u2 r2 G2 H2 (by omega) (by omega) e2 g2 rr p) fun v d u1 r1 G1 H1 a1 b1 e1 g1 rr p => kr v d u1 r1 G1 H1 a1 (by omega) e1 g1 rr p
theorem svm_asgG {g : TG} {is : List Nat} (h : EvM T q c cs n te ρ P) (hg : ∀ d, P d → ∃ ρ', EvG T g is ρ d ρ' ∧ N ρ') : SvM T q c cs n (tAsg te g) ρ N R := fun G0 H0 G H σ E u r S hl kn kr =>
  h G0 H0 G H σ _ u r S hl fun v d u1 r1 G1 H1 a1 b1 e1 g1 rr1 p1 => by
    obtain ⟨ρ', hg, hn⟩ := hg d p1
    have S1 := S.move g1 (by have := S.u0; omega) e1
    exact hg _ _ G1 H1 σ v _ S1.st rr1 fun σ' S' _ _ => kn G1 H1 σ' ρ' u1 r1 a1 b1 g1.g ⟨S', S1.g0, S1.hc, S1.u0, S1.r0⟩ hn
theorem svm_asg {i : Nat} (h : EvM T q c cs n te ρ P) (k : ∀ d, P d → N (ρ.set i (.dat d))) (hb : Nat.blt i ρ.length = true := by rfl) : SvM T q c cs n (tAsg te (gName i)) ρ N R := svm_asgG h fun d hd => ⟨_, eg_n hb, k d hd⟩
theorem svm_ret (h : EvM T q c cs n te ρ R) : SvM T q c cs n (tRet te) ρ N R := fun G0 H0 G H σ E u r S hl kn kr =>
  h G0 H0 G H σ _ u r S hl fun v d u1 r1 G1 H1 a1 b1 e1 g1 rr1 p1 => kr v d u1 r1 G1 H1 a1 b1 e1 ((S.st.pput (o2 := pen c u1 r1) S.gq True.intro True.intro).go.trans g1) rr1 p1
theorem svm_if {Pt : Bool → Prop} (h : EvMT T q c cs n tt ρ Pt) (h1 : Pt true → SvM T q c cs m ts ρ N R) (h2 : Pt false → SvM T q c cs m us ρ N R) : SvM T q c cs (n + m) (tIfS tt ts us) ρ N R := fun G0 H0 G H σ E u r S hl kn kr =>
  h G0 H0 G H σ _ u r S (by omega) fun b u1 r1 G1 H1 a1 b1 e1 g1 p1 => by
    have S1 := S.move g1 (by have := S.u0; omega) e1
    cases b with
    | true => exact h1 p1 G0 H0 G1 H1 σ E u1 r1 S1 (by omega) (fun G2 H2 σ2 ρ2 u2 r2 a2 b2 s2 S2 nn => kn G2 H2 σ2 ρ2 u2 r2 (by omega) (by omega) (g1.g.trans s2) S2 nn) fun v d u2 r2 G2 H2 a2 b2 e2 g2 rr p => kr v d u2 r2 G2 H2 (by omega) (by omega) e2 g2 rr p
    | false => exact h2 p1 G0 H0 G1 H1 σ E u1 r1 S1 (by omega) (fun G2 H2 σ2 ρ2 u2 r2 a2 b2 s2 S2 nn => kn G2 H2 σ2 ρ2 u2 r2 (by omega) (by omega) (g1.g.trans s2) S2 nn) fun v d u2 r2 G2 H2 a2 b2 e2 g2 rr p => kr v d u2 r2 G2 H2 (by omega) (by omega) e2 g2 rr p
theorem svm_par {i j : Nat} (h : EvMA T q c cs n t ρ Ps) (k : ∀ ds, Ps ds → ∃ x y, ds = [x, y] ∧ N ((ρ.set i (.dat x)).set j (.dat y))) : SvM T q c cs n (tPar i j t) ρ N R := fun G0 H0 G H σ E u r S hl kn kr =>
  h G0 H0 G H σ _ u r S hl fun vs ds u1 r1 G1 H1 a1 b1 e1 g1 rr1 p1 => by
    obtain ⟨x, y, rfl, hn⟩ := k ds p1
    have S1 := S.move g1 (by have := S.u0; omega) e1
    cases rr1 with
    | cons q1 rr =>
      cases rr with
      | cons q2 rr =>
        cases rr
        exact ⟨_, _, rfl, kn _ _ _ _ u1 r1 a1 b1 g1.g ⟨(S1.st.set (i := i) (s := .dat x) ⟨_, rfl, q1⟩ fun _ e => nomatch e).set (i := j) (s := .dat y) ⟨_, rfl, q2⟩ (fun _ e => nomatch e), S1.g0, S1.hc, S1.u0, S1.r0⟩ hn⟩
end
end Pf
set_option Elab.async false
set_option linter.all false
set_option maxRecDepth 100000
set_option maxHeartbeats 4000000
namespace Pf
open PySem L2
section
variable {T : Tb} {q c : Addr} {cs : List Int} {n m k : Nat} {te ta tb : TE} {t tr : TA} {tt : TT} {wi : TI} {ts us : TS} {ρ ρ' : En} {d x y z : D} {ds : List D} {P P' Pa Pb : D → Prop} {Ps Ps' : List D → Prop} {N N' : En → Prop} {R R' : D → Prop}
theorem evmi (h : EvI T wi ρ ds) : EvMI T q c cs 0 wi ρ (· = ds) := fun G0 H0 G H σ Q u r S hl kk => h _ _ G H σ Q S.st fun J G' H' g it => kk J ds u r G' H' (Int.le_refl _) (by omega) S.r0 (S.same g) it rfl
/-- a loop -/
theorem svm_for {α : Type} {g : TG} {is : List Nat} (enc : α → D) (Px : List α → Prop) (L : Nat) (I : Nat → En → Prop) (h : EvMI T q c cs n wi ρ fun ds => ∃ xs : List α, ds = xs.map enc ∧ Px xs) (hL : ∀ xs, Px xs → xs.length ≤ L) (h0 : I 0 ρ)
    (hs : ∀ (xs : List α) (i : Nat) (x : α) (ρi : En), Px xs → xs[i]? = some x → I i ρi → ∃ ρ', EvG T g is ρi (enc x) ρ' ∧ SvM T q c cs k ts ρ' (I (i + 1)) R) (hd : ∀ (xs : List α) (ρ' : En), Px xs → I xs.length ρ' → N ρ') : SvM T q c cs (n + L * k) (tFor wi g ts) ρ N R := fun G0 H0 G H σ E u r S hl kn kr =>
  h G0 H0 G H σ _ u r S (by omega) fun J ds u1 r1 G1 H1 a1 b1 e1 g1 it px => by
    obtain ⟨xs, rfl, px⟩ := px
    have S1 := S.move g1 (by have := S.u0; omega) e1
    have hlen : (xs.map enc).length = xs.length := List.length_map _
    have hLx := hL xs px
    have hmul : ∀ i, i ≤ xs.length → i * k ≤ L * k := fun i hi => Nat.mul_le_mul_right k (by omega)
    refine ⟨fun i m σ' H' => m = xs.length - i ∧ i ≤ xs.length ∧ ∃ Gi ui ri ρi, Sub G1 Gi ∧ u1 ≤ ui ∧ ui ≤ u1 + ((i * k : Nat) : Int) ∧ PSt T q c cs ui ri G0 H0 Gi H' σ' ρi ∧ I i ρi, ⟨xs.length, by simp, Nat.zero_le _, G1, u1, r1, ρ, Sub.refl _, Int.le_refl _, by simp, S1, h0⟩, ?_⟩
    rintro i m σ' H' ⟨rfl, hi, Gi, ui, ri, ρi, sg, l1, l2, Si, Ii⟩
    have hmi := hmul i hi
    by_cases hlt : i < xs.length
    · have hmi2 := hmul (i + 1) hlt
      have hsucc : (i + 1) * k = i * k + k := Nat.succ_mul i k
      refine .inr ⟨it.go Gi H' i sg Si.st.wf (by omega), fun σ2 H2 => ∃ Gi ui ri ρi, Sub G1 Gi ∧ u1 ≤ ui ∧ ui ≤ u1 + (((i + 1) * k : Nat) : Int) ∧ PSt T q c cs ui ri G0 H0 Gi H2 σ2 ρi ∧ I (i + 1) ρi, fun σ2 H2 p => ⟨xs.length - (i + 1), by omega, rfl, by omega, p⟩, fun x H2 y => ?_⟩
      have e : (xs.map enc)[i]? = some (enc xs[i]) := by rw [List.getElem?_map, List.getElem?_eq_getElem hlt]; rfl
      obtain ⟨G2, g2, r2⟩ := it.yld Gi H' i x H2 _ sg Si.st.wf e y
      obtain ⟨ρ', hg, hb⟩ := hs xs i xs[i] ρi px (List.getElem?_eq_getElem hlt) Ii
      have S2 := Si.go g2
      refine hg _ _ G2 H2 σ' x _ S2.st r2 fun σ3 S3 _ _ => ?_
      exact hb G0 H0 G2 H2 σ3 _ ui ri ⟨S3, S2.g0, S2.hc, S2.u0, S2.r0⟩ (by omega) (fun G4 H4 σ4 ρ4 u4 r4 a4 b4 s4 S4 i4 => ⟨G4, u4, r4, ρ4, (sg.trans g2.g).trans s4, by omega, by omega, S4, i4⟩)
        fun v d u4 r4 G4 H4 a4 b4 e4 g4 rr p => kr v d u4 r4 G4 H4 (by omega) (by omega) e4 g4 rr p
    · have e : i = xs.length := by omega
      subst e
      exact .inl ⟨it.stop Gi H' _ sg Si.st.wf (by omega), kn Gi H' σ' ρi ui ri (by omega) (by omega) (g1.g.trans sg) Si (hd xs ρi px Ii)⟩
/-- a comprehension -/
theorem evm_lc {α : Type} {g : TG} {is vs : List Nat} (xs : List α) (enc : α → D) (Pl : Nat → List D → Prop) (hw : ∀ i ∈ is, i ∈ vs) (h : EvI T wi ρ (xs.map enc)) (hz : xs.length ≤ sizeLine) (h0 : Pl 0 [])
    (hs : ∀ (i : Nat) (x : α) (acc : List D), xs[i]? = some x → Pl i acc → ∃ (ρ' : En) (Pt : Bool → Prop), EvG T g is (wipeE ρ vs) (enc x) ρ' ∧ EvMT T q c cs n tt ρ' Pt ∧ (Pt true → EvM T q c cs m te ρ' fun d => Pl (i + 1) (acc ++ [d])) ∧ (Pt false → Pl (i + 1) acc)) (hk : xs.length * (n + m) ≤ k) :
    EvM T q c cs k (tLc wi g tt te vs) ρ (fun d => ∃ acc, d = .list acc ∧ Pl xs.length acc) := fun G0 H0 G H σ Q u r S hl kk =>
  h _ _ G H σ _ S.st fun J G1 H1 g1 it Dl hD => by
    have hlen : (xs.map enc).length = xs.length := List.length_map _
    have S1 := S.go g1
    have hDq : Dl ≠ q := fun e => by subst e; rw [S1.hq] at hD; cases hD
    have hmul : ∀ i, i ≤ xs.length → i * (n + m) ≤ k := fun i hi => Nat.le_trans (Nat.mul_le_mul_right (n + m) hi) hk
    refine ⟨fun i m' H' => m' = xs.length - i ∧ i ≤ xs.length ∧ ∃ Gi acc ds ui ri, u ≤ ui ∧ ui ≤ u + ((i * (n + m) : Nat) : Int) ∧ 0 ≤ ri ∧ Go T G1 (upd H1 q (pen c ui ri)) Gi H' ∧ H' Dl = some (.lst acc) ∧ Gi Dl = none ∧ Reps Gi acc ds ∧ Pl i ds ∧ ds.length ≤ i, ⟨xs.length, by simp, Nat.zero_le _, G1, [], [], u, r, Int.le_refl _, by simp, S.r0, (S1.same g1.w.go).trans (by
      have := g1.w.hid (o := .lst []) hD
      exact this), upd_same, g1.w.s.free hD, .nil, h0, Nat.le_refl _⟩, ?_⟩
    rintro i m' H' ⟨rfl, hi, Gi, acc, ds, ui, ri, l1, l2, lr, gi, hH, hG, ra, pl, hdl⟩
    have hmi := hmul i hi
    by_cases hlt : i < xs.length
    · have hmi2 := hmul (i + 1) hlt
      have hsucc : (i + 1) * (n + m) = i * (n + m) + (n + m) := Nat.succ_mul i (n + m)
      refine .inr ⟨it.go Gi H' i gi.g gi.w (by omega), fun H2 => ∃ Gi acc ds ui ri, u ≤ ui ∧ ui ≤ u + (((i + 1) * (n + m) : Nat) : Int) ∧ 0 ≤ ri ∧ Go T G1 (upd H1 q (pen c ui ri)) Gi H2 ∧ H2 Dl = some (.lst acc) ∧ Gi Dl = none ∧ Reps Gi acc ds ∧ Pl (i + 1) ds ∧ ds.length ≤ i + 1, fun H2 p => ⟨xs.length - (i + 1), by omega, rfl, by omega, p⟩, fun x H2 y => ?_⟩
      have ex : xs[i]? = some xs[i] := List.getElem?_eq_getElem hlt
      have e : (xs.map enc)[i]? = some (enc xs[i]) := by rw [List.getElem?_map, ex]; rfl
      obtain ⟨G2, g2, r2⟩ := it.yld Gi H' i x H2 _ gi.g gi.w e y
      obtain ⟨ρ', Pt, hg, ht, hb1, hb2⟩ := hs i xs[i] ds ex pl
      have Si := S1.move gi (by have := S.u0; omega) lr
      have S2 := Si.go g2
      have S2w : Sta T G0 (upd H0 q (pen c ui ri)) G2 H2 (L2.wipe σ vs) (wipeE ρ vs) := S2.st.wipe vs
      refine hg _ _ G2 H2 _ x _ S2w r2 fun σ3 S3 l3 e3 => ⟨wipe_eq l3 e3 hw, ?_⟩
      have P3 : PSt T q c cs ui ri G0 H0 G2 H2 σ3 ρ' := ⟨S3, S2.g0, S2.hc, S2.u0, S2.r0⟩
      have hH2 : H2 Dl = some (.lst acc) := g2.h.at_ hH notT_lst
      have free : ∀ {Ga Ha : Hp} {ub rb : Int}, Go T G2 (upd H2 q (pen c ub rb)) Ga Ha → G2 Dl = none → Ga Dl = none := fun {Ga Ha ub rb} ga h2 => by
        cases qq : Ga Dl with
        | none => rfl
        | some w =>
          rcases ga.n Dl (by rw [qq]; simp) with z | z
          · exact absurd h2 z
          · rcases z with z | ⟨_, z⟩ <;> (rw [upd_ne hDq, hH2] at z; cases z)
      have hG2 : G2 Dl = none := by
        cases qq : G2 Dl with
        | none => rfl
        | some w =>
          rcases g2.n Dl (by rw [qq]; simp) with z | z
          · exact absurd hG z
          · rcases z with z | ⟨_, z⟩ <;> (rw [hH] at z; cases z)
      refine ht G0 H0 G2 H2 σ3 _ ui ri P3 (by omega) fun b u3 r3 G3 H3 a3 b3 e3' g3 pt => ?_
      have g23 := pgo (S2.same S2.st.wf.go) g3 S2.gq
      have gi3 : Go T G1 (upd H1 q (pen c u3 r3)) G3 H3 := pgo (gi.trans g2) g3 S1.gq
      have hH3 : H3 Dl = some (.lst acc) := g3.h.at_ (by rw [upd_ne hDq]; exact hH2) notT_lst
      have hG3 := free g3 hG2
      have P3' := P3.move g3 (by have := P3.u0; omega) e3'
      cases b with
      | true =>
        show te σ3 H3 _
        refine hb1 pt G0 H0 G3 H3 σ3 _ u3 r3 P3' (by omega) fun v d u4 r4 G4 H4 a4 b4 e4 g4 rr4 p4 => ?_
        have gi4 : Go T G1 (upd H1 q (pen c u4 r4)) G4 H4 := pgo gi3 g4 S1.gq
        have g24 : Go T G2 (upd H2 q (pen c u4 r4)) G4 H4 := pgo g3 g4 S2.gq
        have hH4 : H4 Dl = some (.lst acc) := g4.h.at_ (by rw [upd_ne hDq]; exact hH3) notT_lst
        have hG4 := free g24 hG2
        refine ⟨acc, hH4, ?_, G4, acc ++ [v], ds ++ [d], u4, r4, by omega, by omega, e4, ⟨gi4.g, fun a o w => ?_, ⟨fun a o w => ?_, tabs_set gi4.w.t hH4 True.intro, gi4.w.nt⟩, gi4.n⟩, upd_same, hG4, ?_, p4, ?_⟩
        · rw [ra.length]; omega
        · have z : a ≠ Dl := fun z => by subst z; rw [upd_ne hDq, hD] at w; cases w
          rw [upd_ne z]
          exact gi4.h a o w
        · have z : a ≠ Dl := fun z => by subst z; rw [hG4] at w; cases w
          rw [upd_ne z]
          exact gi4.w.s a o w
        · exact ((ra.mono g2.g).mono g24.g).append (.cons rr4 .nil)
        · rw [List.length_append, List.length_singleton]; omega
      | false =>
        exact ⟨G3, acc, ds, u3, r3, by omega, by omega, e3', gi3, hH3, hG3, (ra.mono g2.g).mono g3.g, hb2 pt, by omega⟩
    · have e : i = xs.length := by omega
      subst e
      refine .inl ⟨it.stop Gi H' _ gi.g gi.w (by omega), ?_⟩
      have gi' := pgo (S.same g1) gi S.gq
      refine kk (.ref Dl) (.list ds) ui ri (upd Gi Dl (.lst acc)) H' l1 (by omega) lr ?_ (.lst upd_same (ra.mono (sub_new hG))) ⟨ds, rfl, pl⟩
      exact gi'.take' (by rw [upd_ne hDq]; exact g1.h.free hD) hH hG notT_lst
end
end Pf
set_option Elab.async false
set_option linter.all false
set_option maxRecDepth 100000
set_option maxHeartbeats 4000000
namespace Pf
open PySem PySem.Spec L2
open PyProof.Rows PySem.Calls
/-! ### calls with the pen -/
abbrev SpM := List D → Nat → (D → Prop) → Prop
def spP (T : Tb) (F : SpM) : Sp := fun vs H Q _ => ∃ (G : Hp) (q c : Addr) (cs : List Int) (u r : Int) (vs' : List V) (ds : List D) (n : Nat) (P : D → Prop), vs = .ref q :: vs' ∧ Wf T G H ∧ H q = some (pen c u r) ∧ G q = none ∧ Rep G (.ref c) (.list (cs.map .int)) ∧
  0 ≤ u ∧ 0 ≤ r ∧ u + n ≤ lim ∧ cs.length ≤ 1000 ∧ Reps G vs' ds ∧ F ds n P ∧ ∀ (v : V) (d : D) (u' r' : Int) (G' H' : Hp), u ≤ u' → u' ≤ u + n → 0 ≤ r' → Go T G (upd H q (pen c u' r')) G' H' → Rep G' v d → P d → Q v H'
structure CalM (P : Program) (w : World) (K : PySem.W.Frag) (mg : Str → Option Value) (base : Heap) (T : Tb) (k : Nat) (x : Str) (ps : List Str) (F : SpM) : Prop where
  ex : ∃ f fd, mg x = some (.ref f) ∧ PySem.W.keepIn K (.ref f) = true ∧ Binds K fd ps [] ∧ FnOk P w K mg base CX0 k f fd ps (spP T F)
section
variable {X : Cx} {T : Tb} {F : SpM} {k k' : Nat} {x : Str} {ps : List Str} {e : Expr} {es : List Expr} {t : TA} {p pos : Pos}
theorem pe_calM (c : CalM X.prog X.w X.K X.mg X.base T k x ps F) (hr : Room k' X.A) (hk : k ≤ k') (hg : Gl X x) (ha : PA X (e :: es) t) (hdb : (x == ("__debug__" : Str)) = false := by decide)
    (he : starEach (e :: es) X.env = (false, eval e X.env) :: starEach es X.env := by rfl) (hpl : (backTo pos (starEach es X.env)).any (·.1) = false := by rfl) :
    PE X (.Call (.Name x p) (e :: es) [] pos) (tCall (spP T F) [] E0 t) := by
  obtain ⟨f, fd, hm, hkp, hb, G⟩ := c.ex
  exact pe_call G (hr.mono hk) hg hm hkp hb .nil pass0 ha hdb he hpl
end
theorem len_ofM {T : Tb} {F : SpM} {vs : List V} {H : Hp} {Q : VK} {E : XK} {n : Nat} (h : spP T F vs H Q E) (hl : ∀ ds m P, F ds m P → ds.length + 1 = n) : vs.length = n := by
  obtain ⟨G, q, c, cs, u, r, vs', ds, m, P, rfl, _, _, _, _, _, _, _, _, rr, hF, _⟩ := h
  rw [List.length_cons, rr.length]
  exact hl ds m P hF
theorem body_ofM {T : Tb} {F : SpM} {vs : List V} {H : Hp} {Q : VK} {E : XK} {Ns : List Str} {ts : TS} (h : spP T F vs H Q E)
    (hb : ∀ (q c : Addr) (cs : List Int) (ds : List D) (n : Nat) (P : D → Prop), cs.length ≤ 1000 → F ds n P → SvM T q c cs n ts ((ptrD q :: ds).map Sl.dat ++ List.replicate (Ns.length - (ptrD q :: ds).length) Sl.any) (fun _ => P .none) P) : ts { nx := fun _ H' => Q .non H', rt := Q } (L2.start Ns vs) H := by
  obtain ⟨G, q, c, cs, u, r, vs', ds, n, P, rfl, w, hq, gq, hc, u0, r0, hl, hcs, rr, hF, k⟩ := h
  have st := sta_start (Ns := Ns) w (show Reps G (.ref q :: vs') (ptrD q :: ds) from .cons (.ptr q) rr)
  refine hb q c cs ds n P hcs hF G H G H _ _ u r ⟨by rw [upd_id hq]; exact st, gq, hc, u0, r0⟩ hl (fun G' H' σ' ρ' u' r' a b s S' n => ?_) fun v d u' r' G' H' a b e g rr p => k v d u' r' G' H' a b e g rr p
  have := S'.st.go
  exact k .non .none u' r' G' H' a b S'.r0 this .non n
theorem calM_of {P : Program} {w : World} {K : PySem.W.Frag} {mg : Str → Option Value} {base : Heap} {T : Tb} {k : Nat} {x y : Str} {N ps : List Str} {F : SpM} {params : Arguments} {body : List Stmt} {scope : Scope} {f : Addr} {fd : FuncData}
    (D : FunD K y y params body scope [] [] f fd) (sc : FnScope N ps scope) (gm : mg x = some (.ref f))
    (hb : ∀ (kV doc pm : Value) (an : Option Addr) (cdv ct : Value) (us : List Value), us.length = ps.length → bindArgs (PySem.W.fnOf y y params body scope .none kV doc pm an cdv ct) ⟨us, []⟩ = pure (ps.zip us)) (hl : ∀ ds m P, F ds m P → ds.length + 1 = ps.length)
    (hbody : ∀ (cdv : Value) (A : Around) (outer : List Env) (s : Shared) (H : Hp) (vs : List V) (Q : VK) (E : XK), Room k (A.deeper (envOfC y scope s.heap.objs.size f cdv)) →
      ∃ t, PSs (cxOf CX0 P w K mg base N y scope f cdv A outer s H E) body t ∧ ∀ q c cs ds n P, cs.length ≤ 1000 → F ds n P → SvM T q c cs n t ((ptrD q :: ds).map Sl.dat ++ List.replicate (N.length - (ptrD q :: ds).length) Sl.any) (fun _ => P .none) P) : CalM P w K mg base T (k + 1) x ps F := by
  refine ⟨f, fd, gm, D.kp, D.bindsN hb, D.ok sc (fun vs H Q E h => len_ofM h hl) fun cdv A outer s H vs Q E hr h => ?_⟩
  obtain ⟨t, ht, hv⟩ := hbody cdv A outer s H vs Q E hr
  exact ⟨t, ht, body_ofM h hv⟩
def rng1 (j : Int) : List Int := (List.range j.toNat).map fun (i : Nat) => (0 : Int) + (i : Int)
section
variable {Pj : Int → Prop} {T : Tb} {K : PySem.W.Frag} {q c : Addr} {cs : List Int} {n m k : Nat} {te ta tb tc : TE} {t tr : TA} {tt : TT} {wi : TI} {ts us : TS} {ρ ρ' : En} {d x y z : D} {ds : List D} {P P' Pa Pb : D → Prop} {Ps Ps' : List D → Prop} {N N' : En → Prop} {R R' : D → Prop}
/-- a call that hands the pen on -/
theorem evm_call {F : SpM} {i : Nat} {E : XK} (hp : ρ[i]? = some (.dat (ptrD q))) (hcs : cs.length ≤ 1000) (h : EvA T t ρ ds) (hF : F ds m P) : EvM T q c cs m (tCall (spP T F) [] E (tCons (tVar i) t)) ρ P := fun G0 H0 G H σ Q u r S hl kk => by
  obtain ⟨v, e, rv⟩ := S.st.sl i _ hp
  cases rep_ptr rv
  refine ⟨_, look_some e, h _ _ G H σ _ S.st fun vs G1 H1 g1 rr1 => ?_⟩
  have S1 := S.go g1
  exact ⟨G1, q, c, cs, u, r, vs, ds, m, P, by rw [List.append_nil], g1.w, S1.hq, S1.gq, S1.hc, S.u0, S.r0, hl, hcs, rr1, hF, fun v d u' r' G' H' a b e g rr p => kk v d u' r' G' H' a b e (pgo (S.same g1) g S.gq) rr p⟩
/-! slices, texts put together, ranges, one's own dict -/
theorem evm_slL {lo hi : Option Int} {tl th : TO} (h : EvM T q c cs n ta ρ fun d => ∃ ds, d = .list ds ∧ Ps ds) (hl : ∀ {G0 H0 G H σ Q}, Sta T G0 H0 G H σ ρ → (∀ G' H', Go T G H G' H' → Q lo H') → tl σ H Q) (hh : ∀ {G0 H0 G H σ Q}, Sta T G0 H0 G H σ ρ → (∀ G' H', Go T G H G' H' → Q hi H') → th σ H Q) :
    EvM T q c cs n (L2.tSl (rSlL K) ta tl th) ρ (fun d => ∃ ds, d = .list (cutD ds lo hi) ∧ Ps ds) := fun G0 H0 G H σ Q u r S hlm kk =>
  h G0 H0 G H σ _ u r S hlm fun v d u1 r1 G1 H1 a1 b1 e1 g rr p1 => by
    obtain ⟨ds, rfl, p1⟩ := p1
    have S1 := S.move g (by have := S.u0; omega) e1
    cases rr with
    | lst hp r =>
      refine hl S1.st fun G2 H2 g2 => hh (S1.go g2).st fun G3 H3 g3 => ⟨_, _, rfl, SqL.of (g3.w.s _ _ (g3.g _ _ (g2.g _ _ hp))), fun p hq => ?_⟩
      obtain ⟨G', g4, q⟩ := g3.w.newL hq (((r.mono g2.g).mono g3.g).drop _ |>.take _)
      have g5 := ((g.trans g2).trans g3).trans g4
      refine kk _ _ u1 r1 _ _ a1 b1 e1 g5 ?_ ⟨ds, rfl, p1⟩
      unfold cutD
      rw [← r.length]
      exact q
theorem evm_join {a : Str} (ho : Ev T ta ρ (.str a)) (he : EvM T q c cs n tb ρ fun d => ∃ ys : List Str, d = .list (ys.map .str) ∧ P (.str (Txt.join a ys)) ∧ (ys.map (·.length)).sum + ys.length * a.length ≤ 16777216) :
    EvM T q c cs n (tM1 (fun x xs H Q => ∃ a p, ∃ ys : List Str, x = .str a ∧ xs = [.ref p] ∧ (SqL K H p (ys.map V.str) ∨ SqT K H p (ys.map V.str)) ∧ (ys.map (·.length)).sum + ys.length * a.length ≤ 16777216 ∧ Q (.str (Txt.join a ys)) H) ta tb) ρ P := fun G0 H0 G H σ Q u r S hl kk =>
  ho _ _ G H σ _ S.st fun v G1 H1 g rr => by
    cases rr
    have S1 := S.go g
    refine ⟨⟨a, rfl⟩, he G0 H0 G1 H1 σ _ u r S1 hl fun v2 d u2 r2 G2 H2 a2 b2 e2 g2 rr2 p2 => ?_⟩
    obtain ⟨ys, rfl, p2, hz⟩ := p2
    have g12 := pgo (S.same g) g2 S.gq
    cases rr2 with
    | lst hp r =>
      have e := r.strs
      subst e
      exact ⟨a, _, ys, rfl, rfl, .inl (SqL.of (g2.w.s _ _ hp)), hz, kk _ _ u2 r2 G2 H2 a2 b2 e2 g12 (.str _) p2⟩
theorem emi_rng1 (h : EvMA T q c cs n t ρ fun ds => ∃ j : Int, ds = [.int j] ∧ Pj j) (hj : ∀ j, Pj j → -1000 ≤ j ∧ j ≤ 1000) : EvMI T q c cs n (iRng1 t) ρ fun ds => ∃ xs : List Int, ds = xs.map .int ∧ ∃ j, Pj j ∧ xs = rng1 j := fun G0 H0 G H σ Q u r S hl kk =>
  h G0 H0 G H σ _ u r S hl fun vs ds u1 r1 G1 H1 a1 b1 e1 g1 rr p1 => by
    obtain ⟨j, rfl, pj⟩ := p1
    have hb := hj j pj
    cases rr with
    | cons q1 rr =>
      cases rr
      cases q1
      refine ⟨j, rfl, by omega, by omega, kk _ _ u1 r1 G1 H1 a1 b1 e1 g1 (it_rng G1 0 j.toNat) ⟨rng1 j, ?_, j, pj, rfl⟩⟩
      unfold rng1 rngD
      rw [List.map_map]
      rfl
/-- d[k] = v of one's own dict, v with draws -/
theorem svm_putT {i : Nat} {es : List (List Key × D)} {ks : List Key} (hi : ρ[i]? = some (.own (dT es))) (hv : EvM T q c cs n tc ρ P) (hk : Ev T tb ρ (keysD ks)) (hz : es.length < sizeLine) (hN : ∀ d, P d → N (ρ.set i (.own (dT (ptD es ks d))))) :
    SvM T q c cs n (sDPut (tVar i) tb tc) ρ N R := fun G0 H0 G H σ E u r S hl kn kr =>
  hv G0 H0 G H σ _ u r S hl fun v d u1 r1 G1 H1 a1 b1 e1 g1 rr1 p1 => by
    have S1 := S.move g1 (by have := S.u0; omega) e1
    obtain ⟨p, kvs, e, hh, rk⟩ := S1.st.ownT hi
    refine ⟨_, look_some e, hk _ _ G1 H1 σ _ S1.st fun w G2 H2 g2 r2 => ?_⟩
    obtain ⟨b, rfl, eb⟩ := rep_keysD r2
    have S2 := S1.go g2
    obtain ⟨p', kvs', e', hh', rk'⟩ := S2.st.ownT hi
    rw [e] at e'; cases e'
    exact ⟨p, _, rfl, DPut.t hh' (g2.w.s _ _ eb) (by rw [repT_len rk']; exact hz), kn _ _ _ _ u1 r1 a1 b1 (g1.g.trans g2.g) ⟨S2.st.put (o' := .dT (putK kvs' ks v)) (d' := dT (ptD es ks d)) hi e (repT_put (rr1.mono g2.g) rk'), S2.g0, S2.hc, S2.u0, S2.r0⟩ (hN d p1)⟩
end
end Pf
set_option Elab.async false
set_option linter.all false
set_option maxRecDepth 100000
set_option maxHeartbeats 4000000
namespace Pf
open PySem L2
/-! ### the pen read and written, its state known -/
abbrev penD (cs : List Int) (u r : Int) : D := .list [.list (cs.map .int), .int u, .int r]
def SvE (T : Tb) (q c : Addr) (cs : List Int) (u r : Int) (ts : TS) (ρ : En) (N : Int → Int → En → Prop) (R : Int → Int → D → Prop) : Prop := ∀ (G0 H0 G H : Hp) (σ : L2.St) (E : Ends), PSt T q c cs u r G0 H0 G H σ ρ →
  (∀ (G' H' : Hp) (σ' : L2.St) (ρ' : En) (u' r' : Int), Sub G G' → PSt T q c cs u' r' G0 H0 G' H' σ' ρ' → N u' r' ρ' → E.nx σ' H') →
  (∀ (v : V) (d : D) (u' r' : Int) (G' H' : Hp), 0 ≤ r' → Go T G0 (upd H0 q (pen c u' r')) G' H' → Rep G' v d → R u' r' d → E.rt v H') → ts E σ H
section
variable {T : Tb} {K : PySem.W.Frag} {q c : Addr} {cs : List Int} {u r : Int} {i j : Nat} {n : Nat} {te ta tb : TE} {tt : TT} {ts us : TS} {ρ : En} {z : D} {N : Int → Int → En → Prop} {R : Int → Int → D → Prop} {G0 H0 G H : Hp} {σ : L2.St}
theorem PSt.open_ (S : PSt T q c cs u r G0 H0 G H σ ρ) (hi : ρ[i]? = some (.dat (ptrD q))) : Sta T (upd G0 q (pen c u r)) (upd H0 q (pen c u r)) (upd G q (pen c u r)) H σ (ρ.set i (.dat (penD cs u r))) := by
  have gq := S.gq
  have hq := S.hq
  obtain ⟨v, e, rv⟩ := S.st.sl i _ hi
  cases rep_ptr rv
  refine ⟨⟨fun a o x => ?_, S.st.go.h, ⟨fun a o x => ?_, S.st.go.w.t, fun a ps x => ?_⟩, fun a x => ?_⟩, by rw [List.length_set]; exact S.st.len, fun k s x => ?_, fun k l d1 d2 x1 x2 => ?_⟩
  · by_cases y : a = q
    · subst y; rw [upd_same] at x ⊢; exact x
    · rw [upd_ne y] at x ⊢; exact S.st.go.g a o x
  · by_cases y : a = q
    · subst y; rw [upd_same] at x; cases x; exact hq
    · rw [upd_ne y] at x; exact S.st.go.w.s a o x
  · by_cases y : a = q
    · subst y; rw [upd_same] at x; cases x
    · rw [upd_ne y] at x; exact S.st.go.w.nt a ps x
  · by_cases y : a = q
    · subst y; exact .inl (by rw [upd_same]; simp)
    · rw [upd_ne y] at x
      rcases S.st.go.n a x with k | k
      · exact .inl (by rw [upd_ne y]; exact k)
      · exact .inr k
  · by_cases y : k = i
    · subst y
      have hl : k < ρ.length := (List.getElem?_eq_some_iff.mp hi).1
      rw [List.getElem?_set_self hl] at x
      cases x
      exact ⟨.ref q, e, .lst upd_same (.cons (S.hc.mono (sub_new gq)) (.cons (.int u) (.cons (.int r) .nil)))⟩
    · rw [List.getElem?_set_ne (Ne.symm y)] at x
      have a := S.st.sl k s x
      cases s with
      | any => exact True.intro
      | dat d => obtain ⟨v, e1, r1⟩ := a; exact ⟨v, e1, r1.mono (sub_new gq)⟩
      | own d =>
        obtain ⟨p, o, e1, e2, e3, e4, e5⟩ := a
        have w : p ≠ q := fun w => by subst w; rw [upd_same] at e2; cases e2
        refine ⟨p, o, e1, e2, by rw [upd_ne w]; exact e3, e4, ?_⟩
        exact e5.mono (sub_new gq)
  · have f : ∀ {k : Nat} {d : D}, (ρ.set i (.dat (penD cs u r)))[k]? = some (Sl.own d) → ρ[k]? = some (Sl.own d) := fun {k d} x => by
      by_cases y : k = i
      · subst y
        have hl : k < ρ.length := (List.getElem?_eq_some_iff.mp hi).1
        rw [List.getElem?_set_self hl] at x
        cases x
      · rwa [List.getElem?_set_ne (Ne.symm y)] at x
    exact S.st.one k l d1 d2 (f x1) (f x2)
theorem evp (S : PSt T q c cs u r G0 H0 G H σ ρ) (hi : ρ[i]? = some (.dat (ptrD q))) (h : Ev T te (ρ.set i (.dat (penD cs u r))) z) (s : scalD z = true) {Q : VK} (k : ∀ (v : V) (H' : Hp), Go T G H G H' → Rep G v z → Q v H') : te σ H Q :=
  h _ _ _ H σ Q (S.open_ hi) fun v G' H' g rr => k v H' ⟨Sub.refl G, g.h, S.st.wf.grow g.h g.w.t, fun _ q => .inl q⟩ (rep_scal rr s)
theorem evpT {b : Bool} (S : PSt T q c cs u r G0 H0 G H σ ρ) (hi : ρ[i]? = some (.dat (ptrD q))) (h : EvT T tt (ρ.set i (.dat (penD cs u r))) b) {Q : Bool → Hp → Prop} (k : ∀ (H' : Hp), Go T G H G H' → Q b H') : tt σ H Q :=
  h _ _ _ H σ Q (S.open_ hi) fun G' H' g => k H' ⟨Sub.refl G, g.h, S.st.wf.grow g.h g.w.t, fun _ q => .inl q⟩
theorem sve_next (h : N u r ρ) : SvE T q c cs u r tNext ρ N R := fun G0 H0 G H σ E S kn kr => kn G H σ ρ u r (Sub.refl G) S h
theorem sve_seq (h : SvE T q c cs u r ts ρ (fun u' r' ρ' => SvE T q c cs u' r' us ρ' N R) R) : SvE T q c cs u r (tSeq ts us) ρ N R := fun G0 H0 G H σ E S kn kr =>
  h G0 H0 G H σ _ S (fun G1 H1 σ1 ρ1 u1 r1 s1 S1 hs => hs G0 H0 G1 H1 σ1 E S1 (fun G2 H2 σ2 ρ2 u2 r2 s2 S2 nn => kn G2 H2 σ2 ρ2 u2 r2 (s1.trans s2) S2 nn) kr) kr
theorem sve_if {b : Bool} (hi : ρ[i]? = some (.dat (ptrD q))) (h : EvT T tt (ρ.set i (.dat (penD cs u r))) b) (h1 : b = true → SvE T q c cs u r ts ρ N R) (h2 : b = false → SvE T q c cs u r us ρ N R) : SvE T q c cs u r (tIfS tt ts us) ρ N R := fun G0 H0 G H σ E S kn kr =>
  evpT S hi h fun H' g => by
    cases b with
    | true => exact h1 rfl G0 H0 G H' σ E (S.go g) kn kr
    | false => exact h2 rfl G0 H0 G H' σ E (S.go g) kn kr
theorem sve_as (hi : ρ[i]? = some (.dat (ptrD q))) (h : Ev T te (ρ.set i (.dat (penD cs u r))) z) (k : N u r (ρ.set j (.dat z))) (s : scalD z = true := by rfl) (hb : Nat.blt j ρ.length = true := by rfl) : SvE T q c cs u r (tAsg te (gName j)) ρ N R := fun G0 H0 G H σ E S kn kr =>
  evp S hi h s fun v H' g rr => eg_n hb _ _ G H' σ v _ (S.go g).st rr fun σ' S' _ _ => kn G H' σ' _ u r (Sub.refl G) ⟨S', S.g0, S.hc, S.u0, S.r0⟩ k
theorem sve_ret (hi : ρ[i]? = some (.dat (ptrD q))) (h : Ev T te (ρ.set i (.dat (penD cs u r))) z) (k : R u r z) (s : scalD z = true := by rfl) : SvE T q c cs u r (tRet te) ρ N R := fun G0 H0 G H σ E S kn kr =>
  evp S hi h s fun v H' g rr => kr v z u r G H' S.r0 (S.go g).st.go rr k
/-- pen[k] = e -/
theorem sve_put {x u' r' : Int} {kk : Int} {jj : Nat} (hi : ρ[i]? = some (.dat (ptrD q))) (h : Ev T te (ρ.set i (.dat (penD cs u r))) (.int x)) (hk : ixN 3 kk = some jj) (hp : [V.ref c, .int u, .int r].set jj (.int x) = [V.ref c, .int u', .int r']) (h1 : 0 ≤ u') (h2 : 0 ≤ r') (k : N u' r' ρ) : SvE T q c cs u r (tAsg te (gSub (tVar i) (tC (.int kk)) rSetL)) ρ N R := fun G0 H0 G H σ E S kn kr =>
  evp S hi h rfl fun v H' g rr => by
    cases rr
    have S1 := S.go g
    obtain ⟨v, e, rv⟩ := S1.st.sl i _ hi
    cases rep_ptr rv
    refine ⟨_, look_some e, q, [.ref c, .int u, .int r], kk, jj, rfl, rfl, S1.hq, hk, ?_⟩
    rw [hp]
    have w := (S1.st.pput (o2 := pen c u' r') S1.gq True.intro True.intro)
    exact kn G _ σ ρ u' r' (Sub.refl G) ⟨w, S.g0, S.hc, h1, h2⟩ k
theorem svm_of {N : En → Prop} {R : D → Prop} (h : ∀ u r : Int, 0 ≤ u → u + n ≤ lim → 0 ≤ r → SvE T q c cs u r ts ρ (fun u' r' ρ' => u ≤ u' ∧ u' ≤ u + n ∧ N ρ') (fun u' r' d => u ≤ u' ∧ u' ≤ u + n ∧ R d)) : SvM T q c cs n ts ρ N R := fun G0 H0 G H σ E u r S hl kn kr =>
  h u r S.u0 hl S.r0 G0 H0 G H σ E S (fun G' H' σ' ρ' u' r' s S' nn => kn G' H' σ' ρ' u' r' nn.1 nn.2.1 s S' nn.2.2) fun v d u' r' G' H' e g rr p => kr v d u' r' G' H' p.1 p.2.1 e g rr p.2.2
end
end Pf
set_option Elab.async false
set_option linter.all false
set_option maxRecDepth 100000
set_option maxHeartbeats 4000000
namespace Pf
open PySem L2
def spDraw : SpM := fun ds n P => ∃ many : Int, ds = [.int many] ∧ n = 1 ∧ (1 ≤ many ∧ many ≤ 1000) ∧ ∀ d : Int, 0 ≤ d → d < many → P (.int d)
theorem eqv_ints (cs : List Int) : PyData.eqv (.list (cs.map .int)) (.list []) = decide (cs = []) := by
  cases cs <;> simp [PyData.eqv, PyData.eqvAll]
theorem sve_mid {T : Tb} {q c : Addr} {cs : List Int} {u r : Int} {ts us : TS} {ρ : En} {M N : Int → Int → En → Prop} {R : Int → Int → D → Prop} (h : SvE T q c cs u r ts ρ M R) (k : ∀ u' r' ρ', M u' r' ρ' → SvE T q c cs u' r' us ρ' N R) : SvE T q c cs u r (tSeq ts us) ρ N R := fun G0 H0 G H σ E S kn kr =>
  h G0 H0 G H σ _ S (fun G1 H1 σ1 ρ1 u1 r1 s1 S1 hs => k u1 r1 ρ1 hs G0 H0 G1 H1 σ1 E S1 (fun G2 H2 σ2 ρ2 u2 r2 s2 S2 nn => kn G2 H2 σ2 ρ2 u2 r2 (s1.trans s2) S2 nn) kr) kr
end Pf
set_option Elab.async false
set_option linter.all false
set_option maxRecDepth 100000
set_option maxHeartbeats 4000000
namespace Pf
open PySem PySem.Spec L2
open PyProof.Rows PySem.Calls
section
variable {P : Program} {w : World} {K : PySem.W.Frag} {mg : Str → Option Value} {base : Heap} {T : Tb} {L : Addr}
theorem sc_law_draw : FnScope (["_law_pen", "_law_many", "_law_digit", "_law_used", "_law_cell", "_law_low", "_law_high"] : List Str) (["_law_pen", "_law_many"] : List Str) (defScope (topS 55)) := ⟨rfl, rfl, rfl, by decide +kernel, rfl, by decide +kernel, by decide +kernel⟩
theorem ok_law_draw {f : Addr} {fd : FuncData} (t : Tx K mg L) (F : FnP K "_law_draw" 55 f fd) (gm : mg "_law_draw" = some (.ref f)) : CalM P w K mg base T 1 "_law_draw" ["_law_pen", "_law_many"] spDraw := by
  have sc := sc_law_draw
  refine calM_of F sc gm (fun _ _ _ _ _ _ us hl => match us, hl with | [_, _], _ => rfl) (fun ds n P hF => ?_) fun cdv A outer s H vs Q E hr => ?_
  · obtain ⟨_, rfl, _⟩ := hF; rfl
  · have hu := hu64 hr
    have hu1 := hu_of hr
    obtain ⟨tkM, hM⟩ := t.MOST
    refine ⟨_, PSs.nox (pss_cons (ps_if (pt_cmpR op_gt (pe_ix (k_ix_list K) (pv 0) pe_int (fun _ _ => rfl)) pe_int (nomark _)) (pss_cons (ps_set (i := 2) sc.nd rfl (.inl rfl) (pe_op op_modN (pe_ix (k_ix_list K) (pv 0) pe_int (fun _ _ => rfl)) (pv 1))) (pss_cons (ps_asg (pe_op op_fdivN (pe_ix (k_ix_list K) (pv 0) pe_int (fun _ _ => rfl)) (pv 1)) (pg_sub (pv 0) pe_int set_list (fun _ => rfl))) (pss_one (ps_ret (pv 2))))) pss_nil) (pss_cons (ps_set (i := 3) sc.nd rfl (.inl rfl) (pe_ix (k_ix_list K) (pv 0) pe_int (fun _ _ => rfl))) (pss_cons (ps_asg (pe_op op_add (pv 3) pe_int) (pg_sub (pv 0) pe_int set_list (fun _ => rfl))) (pss_cons (ps_set (i := 4) sc.nd rfl (.inl rfl) (pe_op op_add (pe_op op_add (pe_op op_mul (pe_op op_mul pe_int (pv 3)) (pv 3)) (pe_op op_mul pe_int (pv 3))) pe_int)) (pss_cons (ps_if (pt_cmpR (k_op_neD K hu) (pe_ix (k_ix_list K) (pv 0) pe_int (fun _ _ => rfl)) (pe_lst pa_nil) (nomark _)) (pss_one (ps_set (i := 4) sc.nd rfl (.inl rfl) (pe_ix (k_ix_list K) (pe_ix (k_ix_list K) (pv 0) pe_int (fun _ _ => rfl)) (pe_op op_modN (pv 3) (pe_callB (k_len K) (by rfl) t.len boot_len (pa_cons (pe_ix (k_ix_list K) (pv 0) pe_int (fun _ _ => rfl)) pa_nil))) (fun _ _ => rfl)))) pss_nil) (pss_cons (ps_if (PW.pt (pw_and (pt_cmpR op_lt (pv 3) (pe_callB (k_len K) (by rfl) t.len boot_len (pa_cons (pe_ix (k_ix_list K) (pv 0) pe_int (fun _ _ => rfl)) pa_nil)) (nomark _)) (pw_and1 (pt_cmpR op_ge (pe_callB call_abs (by rfl) t.abs boot_abs (pa_cons (pv 4) pa_nil)) (pe_op op_pow pe_int pe_int) (nomark _))))) (pss_cons (ps_asg (pe_op op_fdivN (pe_callB call_abs (by rfl) t.abs boot_abs (pa_cons (pv 4) pa_nil)) (pv 1)) (pg_sub (pv 0) pe_int set_list (fun _ => rfl))) (pss_one (ps_ret (pe_op op_modN (pe_callB call_abs (by rfl) t.abs boot_abs (pa_cons (pv 4) pa_nil)) (pv 1))))) pss_nil) (pss_cons (ps_set (i := 5) sc.nd rfl (.inl rfl) (pe_op op_modN (pe_op op_pow (pe_op op_add (pe_op op_add (pe_op op_modN (pv 4) pe_int) (pe_op op_mul pe_int (pv 3))) pe_int) pe_int) pe_int)) (pss_cons (ps_set (i := 6) sc.nd rfl (.inl rfl) (pe_op op_modN (pe_op op_pow (pe_op op_add (pe_op op_add (pe_op op_mul (pv 5) (pe_op op_add (pv 3) pe_int)) (pe_op op_mul (pe_op op_mul pe_int (pv 3)) (pv 3))) pe_int) pe_int) pe_int)) (pss_one (ps_ret (pe_op op_modN (pe_op op_fdivN (pe_op op_modN (pe_op op_add (pv 6) (pe_op op_mul (pe_op op_modN (pv 5) pe_int) pe_int)) pe_int) pe_int) (pv 1)))))))))))), fun q c cs ds n P hcs hF => ?_⟩
    obtain ⟨many, rfl, rfl, ⟨h1, h2⟩, hP⟩ := hF
    have fin : ∀ x : Int, P (.int (x.fmod many)) := fun x => hP _ (Int.fmod_nonneg_of_pos _ (by omega)) (Int.fmod_lt_of_pos _ (by omega))
    refine svm_of fun u r hu0 hul hr0 => ?_
    have hlim : u + 1 ≤ 1000000 := hul
    refine sve_seq (sve_if (i := 0) (b := decide (r > 0)) rfl (et_test (ev_op (ev_op ev_v ev_int (od_ixL (atI_nat (j := 2) rfl))) ev_int od_b)) (fun h => ?_) (fun h => sve_next ?_))
    · refine sve_seq (sve_as (i := 0) (j := 2) (z := .int (r.fmod many)) rfl (ev_op (ev_op ev_v ev_int (od_ixL (atI_nat (j := 2) rfl))) ev_v (od_iC (by omega))) ?_)
      refine sve_seq (sve_put (i := 0) (kk := 2) (jj := 2) (x := r.fdiv many) (u' := u) (r' := r.fdiv many) rfl (ev_op (ev_op ev_v ev_int (od_ixL (atI_nat (j := 2) rfl))) ev_v (od_iC ⟨by omega, by omega⟩)) rfl rfl hu0 (Int.fdiv_nonneg hr0 (by omega)) ?_)
      exact sve_ret (i := 0) (z := .int (r.fmod many)) rfl ev_v ⟨Int.le_refl _, by omega, fin _⟩
    refine sve_seq (sve_as (i := 0) (j := 3) (z := .int u) rfl (ev_op ev_v ev_int (od_ixL (atI_nat (j := 1) rfl))) ?_)
    refine sve_seq (sve_put (i := 0) (kk := 1) (jj := 1) (x := u + 1) (u' := u + 1) (r' := r) rfl (ev_op ev_v ev_int od_i) rfl rfl (by omega) hr0 ?_)
    refine sve_seq (sve_as (i := 0) (j := 4) (z := .int (53017 * u * u + 719 * u + 43)) rfl (ev_op (ev_op (ev_op (ev_op ev_int ev_v (od_iC (.inl (by omega)))) ev_v (od_iC (.inr (by omega)))) (ev_op ev_int ev_v (od_iC (.inl (by omega)))) od_i) ev_int od_i) ?_)
    have okc : okEq (.list (cs.map .int)) = true := okEq_ints cs id
    refine sve_mid (M := fun u' r' ρ' => u' = u + 1 ∧ r' = r ∧ ∃ cell : Int, ρ' = [.dat (ptrD q), .dat (.int many), .any, .dat (.int u), .dat (.int cell), .any, .any]) ?_ ?_
    · by_cases hc : cs = []
      · refine sve_if (i := 0) (b := !decide (cs = [])) rfl (et_to (et_test (ev_op (ev_op ev_v ev_int (od_ixL at0)) (ev_ls ea_nil) (od_neD okc okNil))) (by rw [eqv_ints])) (fun h => absurd hc (by simpa using h)) (fun h => sve_next ⟨rfl, rfl, _, rfl⟩)
      · have hl : 0 < cs.length := List.length_pos_iff.mpr hc
        have j1 := Int.fmod_nonneg_of_pos u (b := cs.length) (by omega)
        have j2 := Int.fmod_lt_of_pos u (b := cs.length) (by omega)
        obtain ⟨j, hj⟩ := Int.eq_ofNat_of_zero_le j1
        have hjl : j < cs.length := by omega
        refine sve_if (i := 0) (b := !decide (cs = [])) rfl (et_to (et_test (ev_op (ev_op ev_v ev_int (od_ixL at0)) (ev_ls ea_nil) (od_neD okc okNil))) (by rw [eqv_ints])) (fun h => ?_) (fun h => absurd hc (by simpa using h))
        refine sve_as (i := 0) (j := 4) (z := .int cs[j]) rfl (ev_op (ev_op ev_v ev_int (od_ixL at0)) (Ev.to (ev_op ev_v (Ev.to (ev_cb (ea_cons (ev_op ev_v ev_int (od_ixL at0)) ea_nil) cl_lenL) (by rw [List.length_map])) (od_iC (by omega))) (congrArg PyData.int hj)) (od_ixL (atI_nat (by rw [List.getElem?_map, List.getElem?_eq_getElem hjl]; rfl)))) ⟨rfl, rfl, _, rfl⟩
    · rintro _ _ _ ⟨rfl, rfl, cell, rfl⟩
      have hab : 0 ≤ (if cell < 0 then -cell else cell) := by split <;> omega
      refine sve_seq (sve_if (i := 0) (b := decide (u < (cs.length : Int)) && decide ((if cell < 0 then -cell else cell) ≥ (10 : Int) ^ (18 : Int).toNat)) rfl (et_and (et_test (Ev.to (ev_op ev_v (ev_cb (ea_cons (ev_op ev_v ev_int (od_ixL at0)) ea_nil) cl_lenL) od_b) (by rw [List.length_map]))) fun _ => et_test (ev_op (ev_cb (ea_cons ev_v ea_nil) cl_abs) (ev_op ev_int ev_int (od_iC ⟨by decide, by decide, by decide⟩)) od_b)) (fun h => ?_) (fun h => sve_next ?_))
      · refine sve_seq (sve_put (i := 0) (kk := 2) (jj := 2) (x := (if cell < 0 then -cell else cell).fdiv many) (u' := u + 1) (r' := (if cell < 0 then -cell else cell).fdiv many) rfl (ev_op (ev_cb (ea_cons ev_v ea_nil) cl_abs) ev_v (od_iC ⟨by omega, by omega⟩)) rfl rfl (by omega) (Int.fdiv_nonneg hab (by omega)) ?_)
        exact sve_ret (i := 0) (z := .int ((if cell < 0 then -cell else cell).fmod many)) rfl (ev_op (ev_cb (ea_cons ev_v ea_nil) cl_abs) ev_v (od_iC (by omega))) ⟨by omega, by omega, fin _⟩
      have m1 := Int.fmod_nonneg_of_pos cell (b := 2147483477) (by decide)
      have m2 := Int.fmod_lt_of_pos cell (b := 2147483477) (by decide)
      generalize hx : cell.fmod 2147483477 + 70001 * u + 541 = x
      have x1 : 0 ≤ x := by omega
      have x2 : x < 2 ^ 50 := by omega
      refine sve_seq (sve_as (i := 0) (j := 5) (z := .int ((x ^ (5 : Int).toNat).fmod 2147483629)) rfl (ev_op (ev_op (Ev.to (ev_op (ev_op (ev_op ev_v ev_int (od_iC (by decide))) (ev_op ev_int ev_v (od_iC (.inl (by omega)))) od_i) ev_int od_i) (congrArg PyData.int hx)) ev_int (od_iC ⟨by decide, by decide, by omega⟩)) ev_int (od_iC (by decide))) ?_)
      have l1 := Int.fmod_nonneg_of_pos (x ^ (5 : Int).toNat) (b := 2147483629) (by decide)
      have l2 := Int.fmod_lt_of_pos (x ^ (5 : Int).toNat) (b := 2147483629) (by decide)
      generalize (x ^ (5 : Int).toNat).fmod 2147483629 = low at l1 l2 ⊢
      generalize hy : low * (u + 9) + 91033 * u * u + 7 = y
      have ya : low * (u + 9) ≤ 2147483629 * 1000009 := Int.mul_le_mul (by omega) (by omega) (by omega) (by omega)
      have yb : 0 ≤ low * (u + 9) := Int.mul_nonneg l1 (by omega)
      have yc : u * u ≤ 1000000 * 1000000 := Int.mul_le_mul (by omega) (by omega) (by omega) (by omega)
      have yd : 0 ≤ u * u := Int.mul_nonneg hu0 hu0
      have ye : 91033 * u * u = 91033 * (u * u) := Int.mul_assoc _ _ _
      have y1 : 0 ≤ y := by omega
      have y2 : y < 2 ^ 62 := by omega
      refine sve_seq (sve_as (i := 0) (j := 6) (z := .int ((y ^ (3 : Int).toNat).fmod 2147483549)) rfl (ev_op (ev_op (Ev.to (ev_op (ev_op (ev_op ev_v (ev_op ev_v ev_int od_i) (od_iC (.inl (by omega)))) (ev_op (ev_op ev_int ev_v (od_iC (.inl (by omega)))) ev_v (od_iC (.inr (by omega)))) od_i) ev_int od_i) (congrArg PyData.int hy)) ev_int (od_iC ⟨by decide, by decide, by omega⟩)) ev_int (od_iC (by decide))) ?_)
      exact sve_ret (i := 0) rfl (ev_op (ev_op (ev_op (ev_op ev_v (ev_op (ev_op ev_v ev_int (od_iC (by decide))) ev_int (od_iC (.inr (by omega)))) od_i) ev_int (od_iC (by decide))) ev_int (od_iC ⟨by decide, by decide⟩)) ev_v (od_iC (by omega))) ⟨by omega, by omega, fin _⟩ rfl
end
end Pf
set_option Elab.async false
set_option linter.all false
set_option maxRecDepth 100000
set_option maxHeartbeats 4000000
namespace Pf
open PySem L2
/-! ### lists, the items under a word -/
def PL (k : Nat) (B : D → Prop) (ds : List D) : Prop := ds.length = k ∧ ∀ d ∈ ds, B d
def PI (lo hi : Int) (d : D) : Prop := ∃ i : Int, d = .int i ∧ lo ≤ i ∧ i < hi
section
variable {T : Tb} {K : PySem.W.Frag} {q c : Addr} {cs : List Int} {n m k : Nat} {te ta tb tc : TE} {t tr : TA} {ρ : En} {d : D} {B P : D → Prop}
theorem eap_nil : EvMA T q c cs 0 tNil ρ (PL 0 B) := eam_nil.imp (Nat.le_refl _) fun ds e => by subst e; exact ⟨rfl, fun d h => by cases h⟩
theorem eap_cons (h : EvM T q c cs n te ρ B) (hr : EvMA T q c cs m tr ρ (PL k B)) : EvMA T q c cs (n + m) (tCons te tr) ρ (PL (k + 1) B) := (eam_cons h hr).imp (Nat.le_refl _) fun ds e => by
  obtain ⟨d, es, rfl, hd, he, ha⟩ := e
  exact ⟨by rw [List.length_cons, he], fun x hx => by
    rcases List.mem_cons.mp hx with rfl | hx
    · exact hd
    · exact ha x hx⟩
theorem evm_pickL (h : EvM T q c cs n ta ρ fun d => ∃ ds, d = .list ds ∧ PL k B ds) (hb : EvM T q c cs m tb ρ (PI 0 k)) : EvM T q c cs (n + m) (tOp (rIxL K) ta tb) ρ B := evm_op h hb fun x y hx hy => by
  obtain ⟨ds, rfl, hl, ha⟩ := hx
  obtain ⟨i, rfl, h0, h1⟩ := hy
  obtain ⟨j, rfl⟩ := Int.eq_ofNat_of_zero_le h0
  have hj : j < ds.length := by omega
  exact ⟨ds[j], od_ixL (atI_nat (List.getElem?_eq_getElem hj)), ha _ (List.getElem_mem _)⟩
theorem evm_pick (h : EvMA T q c cs n t ρ (PL k B)) (hk : k ≤ 1000) (hb : EvM T q c cs m tb ρ (PI 0 k)) : EvM T q c cs (n + m) (tOp (rIxL K) (tLst t) tb) ρ B := evm_pickL (evm_lst h fun ds e => le16 (by have := e.1; omega)) hb
theorem evm_d (h : Ev T te ρ d) (hB : B d) : EvM T q c cs 0 te ρ B := (evm h).imp (Nat.le_refl _) fun x e => by subst e; exact hB
theorem evm_draw {i : Nat} {E : XK} {many : Int} (hp : ρ[i]? = some (.dat (ptrD q))) (hcs : cs.length ≤ 1000) (h : EvA T t ρ [.int many]) (h1 : 1 ≤ many ∧ many ≤ 1000) : EvM T q c cs 1 (tCall (spP T spDraw) [] E (tCons (tVar i) t)) ρ (PI 0 many) := evm_call hp hcs h ⟨many, rfl, rfl, h1, fun d a b => ⟨d, rfl, a, b⟩⟩
theorem evm_sub (ha : EvM T q c cs n ta ρ (PI 0 (k : Int))) {j : Int} (hb : Ev T tb ρ (.int j)) (hB : ∀ i : Int, 0 ≤ i → i < k → B (.int (i - j))) : EvM T q c cs n (tOp (rI0 fun i j => .int (i - j)) ta tb) ρ B := (evm_op ha (evm hb) fun x y hx hy => by
  obtain ⟨i, rfl, h0, h1⟩ := hx
  subst hy
  exact ⟨_, od_i, hB i h0 h1⟩).imp (Nat.le_refl _) fun _ h => h
end
def spWorth : SpM := fun ds n P => ds = [] ∧ n = 4 ∧ ∀ d, PI (-99) 100 d → P d
end Pf
set_option Elab.async false
set_option linter.all false
set_option maxRecDepth 100000
set_option maxHeartbeats 4000000
namespace Pf
open PySem PySem.Spec L2
open PyProof.Rows PySem.Calls
section
variable {P : Program} {w : World} {K : PySem.W.Frag} {mg : Str → Option Value} {base : Heap} {T : Tb} {L : Addr}
theorem sc_law_worth : FnScope (["_law_pen"] : List Str) (["_law_pen"] : List Str) (defScope (topS 56)) := ⟨rfl, rfl, rfl, by decide +kernel, rfl, by decide +kernel, by decide +kernel⟩
theorem ok_law_worth {f : Addr} {fd : FuncData} (t : Tx K mg L) (F : FnP K "_law_worth" 56 f fd) (gm : mg "_law_worth" = some (.ref f)) (c__law_draw : CalM P w K mg base T 1 "_law_draw" ["_law_pen", "_law_many"] spDraw) : CalM P w K mg base T 2 "_law_worth" ["_law_pen"] spWorth := by
  have sc := sc_law_worth
  refine calM_of F sc gm (fun _ _ _ _ _ _ us hl => match us, hl with | [_], _ => rfl) (fun ds n P hF => ?_) fun cdv A outer s H vs Q E hr => ?_
  · obtain ⟨rfl, _⟩ := hF; rfl
  · have hu := hu64 hr
    have hu1 := hu_of hr
    obtain ⟨tkM, hM⟩ := t.MOST
    refine ⟨_, PSs.nox (pss_one (ps_ret (pe_ix (k_ix_list K) (pe_lst (pa_cons pe_int (pa_cons pe_int (pa_cons (pe_un un_neg pe_int) (pa_cons pe_int (pa_cons (pe_op op_sub (pe_calM c__law_draw hr (by decide) (by rfl) (pa_cons (pv 0) (pa_cons pe_int pa_nil))) pe_int) (pa_cons (pe_op op_sub (pe_calM c__law_draw hr (by decide) (by rfl) (pa_cons (pv 0) (pa_cons pe_int pa_nil))) pe_int) (pa_cons (pe_op op_sub (pe_calM c__law_draw hr (by decide) (by rfl) (pa_cons (pv 0) (pa_cons pe_int pa_nil))) pe_int) (pa_cons (pe_un un_neg pe_int) pa_nil))))))))) (pe_calM c__law_draw hr (by decide) (by rfl) (pa_cons (pv 0) (pa_cons pe_int pa_nil))) (fun _ _ => rfl)))), fun q c cs ds n P hcs hF => ?_⟩
    obtain ⟨rfl, rfl, hP⟩ := hF
    refine svm_ret (EvM.imp (n := 4) (evm_pick (k := 8) (B := PI (-99) 100) (eap_cons (evm_d ev_int ⟨_, rfl, by decide, by decide⟩) (eap_cons (evm_d ev_int ⟨_, rfl, by decide, by decide⟩) (eap_cons (evm_d (ev_un ev_int ud_i) ⟨_, rfl, by decide, by decide⟩) (eap_cons (evm_d ev_int ⟨_, rfl, by decide, by decide⟩)
      (eap_cons (evm_sub (k := 9) (evm_draw rfl hcs (ea_cons ev_int ea_nil) (by decide)) ev_int fun i a b => ⟨_, rfl, by omega, by omega⟩) (eap_cons (evm_sub (k := 9) (evm_draw rfl hcs (ea_cons ev_int ea_nil) (by decide)) ev_int fun i a b => ⟨_, rfl, by omega, by omega⟩)
      (eap_cons (evm_sub (k := 199) (evm_draw rfl hcs (ea_cons ev_int ea_nil) (by decide)) ev_int fun i a b => ⟨_, rfl, by omega, by omega⟩) (eap_cons (evm_d (ev_un ev_int ud_i) ⟨_, rfl, by decide, by decide⟩) eap_nil)))))))) (by decide) (evm_draw rfl hcs (ea_cons ev_int ea_nil) (by decide))) (Nat.le_refl _) hP)
end
end Pf
set_option Elab.async false
set_option linter.all false
set_option maxRecDepth 100000
set_option maxHeartbeats 4000000
namespace Pf
open PySem L2
/-! ### texts of known letters -/
def Of (L : List Nat) (s : Str) : Prop := ∀ c ∈ s.cps.toList, c ∈ L
theorem len_cps (s : Str) : s.cps.toList.length = s.length := by rw [Array.length_toList]; rfl
theorem of_sok {b s : Str} (h : Sok b) (h2 : Of b.cps.toList s) : Sok s := by
  unfold Sok PyData.strOk at h ⊢
  rw [Array.all_eq_true_iff_forall_mem] at h ⊢
  intro x hx
  have := h2 x (by simpa using hx)
  exact h x (by simpa using this)
theorem join0 : ∀ ys : List Str, (Txt.join (Str.ofString "") ys).cps.toList = ys.flatMap fun y => y.cps.toList := fun ys => by
  rw [TL.join_eq]
  show TL.tl _ = _
  rw [TL.tl_join]
  have e : TL.tl (Str.ofString "") = [] := rfl
  rw [e]
  have : ∀ zs : List (List Nat), TL.joinL [] zs = zs.flatten := fun zs => by
    induction zs with
    | nil => rfl
    | cons p r ih =>
      cases r with
      | nil => simp [TL.joinL]
      | cons q r =>
        show p ++ ([] ++ TL.joinL [] (q :: r)) = _
        rw [ih, List.nil_append]
        rfl
  rw [this, List.flatMap_def]
theorem of_cut {L : List Nat} {s : Str} (lo hi : Option Int) (h : Of L s) : Of L (cutS s lo hi) := fun x hx => h x (by
  unfold cutS at hx
  exact List.mem_of_mem_drop (List.mem_of_mem_take (by simpa using hx)))
theorem rep_list (x : Array Nat) : ∀ (n : Nat) (a : Array Nat), ((List.replicate n x).foldl (· ++ ·) a).toList = a.toList ++ (List.replicate n x.toList).flatten
  | 0, a => by simp
  | n + 1, a => by
    rw [List.replicate_succ, List.foldl_cons, rep_list x n, List.replicate_succ, List.flatten_cons, Array.toList_append, List.append_assoc]
theorem of_rep {L : List Nat} {s : Str} {n : Int} (h : Of L s) : Of L (repS s n) := fun x hx => by
  unfold repS at hx
  split at hx
  · cases hx
  · split at hx
    · exact h x hx
    · rw [rep_list] at hx
      rw [Array.toList_empty, List.nil_append] at hx
      obtain ⟨l, hl, hx⟩ := List.mem_flatten.mp hx
      rw [(List.mem_replicate.mp hl).2] at hx
      exact h x hx
theorem len_rep {s : Str} {n : Int} (h : s.length ≤ 1) (h0 : 0 ≤ n) : ((repS s n).length : Int) ≤ n := by
  unfold repS
  split
  · exact h0
  · rename_i hn
    split
    · omega
    · rw [← len_cps, rep_list]
      have : ∀ (k : Nat) (l : List Nat), l.length ≤ 1 → (List.replicate k l).flatten.length ≤ k := fun k l hl => by
        induction k with
        | zero => simp
        | succ k ih => rw [List.replicate_succ, List.flatten_cons, List.length_append]; omega
      have := this n.toNat s.cps.toList (by rw [len_cps]; exact h)
      simp only [Array.toList_empty, List.nil_append]
      omega
/-- what is asked of the letters -/
structure LtOk (b : Book) : Prop where
  l1 : 1 ≤ b.letters.length
  l2 : b.letters.length ≤ 10
  ok : Sok b.letters
def spLawLetters : SpM := fun ds n P => ∃ b most, ds = [encB b, .int most] ∧ n = 13 ∧ (LtOk b ∧ 0 ≤ most ∧ most ≤ 8) ∧ ∀ s : Str, (s.length : Int) ≤ most → Of b.letters.cps.toList s → P (.str s)
theorem len_flat1 {α β : Type} (f : α → List β) : ∀ xs : List α, (∀ x ∈ xs, (f x).length = 1) → (xs.flatMap f).length = xs.length
  | [], _ => rfl
  | x :: xs, h => by
    rw [List.flatMap_cons, List.length_append, h x List.mem_cons_self, len_flat1 f xs fun y hy => h y (List.mem_cons_of_mem _ hy), List.length_cons]
    omega
/-- texts of one letter each -/
def Ones (L : List Nat) (ys : List Str) : Prop := ∀ y ∈ ys, ∃ c ∈ L, y = ⟨#[c]⟩
theorem ones_len {L : List Nat} {ys : List Str} (h : Ones L ys) : (Txt.join (Str.ofString "") ys).length = ys.length := by
  rw [← len_cps, join0]
  exact len_flat1 _ ys fun y hy => by obtain ⟨c, _, rfl⟩ := h y hy; rfl
theorem ones_of {L : List Nat} {ys : List Str} (h : Ones L ys) : Of L (Txt.join (Str.ofString "") ys) := fun x hx => by
  rw [join0] at hx
  obtain ⟨y, hy, hx⟩ := List.mem_flatMap.mp hx
  obtain ⟨c, hc, rfl⟩ := h y hy
  have : x = c := by simpa using hx
  rw [this]; exact hc
theorem ones_sum {L : List Nat} : ∀ {ys : List Str}, Ones L ys → (ys.map (·.length)).sum = ys.length
  | [], _ => rfl
  | y :: ys, h => by
    obtain ⟨c, _, rfl⟩ := h y List.mem_cons_self
    rw [List.map_cons, List.sum_cons, ones_sum fun z hz => h z (List.mem_cons_of_mem _ hz), List.length_cons]
    show 1 + ys.length = ys.length + 1
    omega
end Pf
set_option Elab.async false
set_option linter.all false
set_option maxRecDepth 100000
set_option maxHeartbeats 4000000
namespace Pf
open PySem PySem.Spec L2
open PyProof.Rows PySem.Calls
section
variable {P : Program} {w : World} {K : PySem.W.Frag} {mg : Str → Option Value} {base : Heap} {T : Tb} {L : Addr}
theorem sc_law_letters : FnScope (["_law_pen", "_law_book", "_law_most", "_law_size", "_law_found", "_law_k"] : List Str) (["_law_pen", "_law_book", "_law_most"] : List Str) (defScope (topS 58)) := ⟨rfl, rfl, rfl, by decide +kernel, rfl, by decide +kernel, by decide +kernel⟩
theorem ok_law_letters {f : Addr} {fd : FuncData} (t : Tx K mg L) (F : FnP K "_law_letters" 58 f fd) (gm : mg "_law_letters" = some (.ref f)) (c__law_draw : CalM P w K mg base T 1 "_law_draw" ["_law_pen", "_law_many"] spDraw) : CalM P w K mg base T 3 "_law_letters" ["_law_pen", "_law_book", "_law_most"] spLawLetters := by
  have sc := sc_law_letters
  refine calM_of F sc gm (fun _ _ _ _ _ _ us hl => match us, hl with | [_, _, _], _ => rfl) (fun ds n P hF => ?_) fun cdv A outer s H vs Q E hr => ?_
  · obtain ⟨_, _, rfl, _⟩ := hF; rfl
  · have hu := hu64 hr
    have hu1 := hu_of hr
    obtain ⟨tkM, hM⟩ := t.MOST
    refine ⟨_, PSs.nox (pss_cons (ps_set (i := 3) sc.nd rfl (.inl rfl) (pe_ix (k_ix_list K) (pe_lst (pa_cons (pe_calM c__law_draw hr (by decide) (by rfl) (pa_cons (pv 0) (pa_cons (pe_op op_add (pv 2) pe_int) pa_nil))) (pa_cons (pv 2) (pa_cons (pe_calM c__law_draw hr (by decide) (by rfl) (pa_cons (pv 0) (pa_cons (pe_op op_add (pv 2) pe_int) pa_nil))) (pa_cons (pe_callB (call_min2 rfl) (by rfl) t.min boot_min (pa_cons (pv 2) (pa_cons pe_int pa_nil))) pa_nil))))) (pe_calM c__law_draw hr (by decide) (by rfl) (pa_cons (pv 0) (pa_cons pe_int pa_nil))) (fun _ _ => rfl))) (pss_cons (ps_set (i := 4) sc.nd rfl (.inl rfl) (pe_join pe_str (pe_lc (own := [("_law_k", 5)]) rfl sc.nd (pi_range1 (by rfl) t.range (pa_cons (pv 3) pa_nil)) (blkOk_by (own := [("_law_k", 5)]) (N := (["_law_pen", "_law_book", "_law_most", "_law_size", "_law_found", "_law_k"] : List Str)) (sc := defScope (topS 58)) (by decide +kernel)) (fun _ _ _ _ _ => (pg_name (i := 5) sc.nd rfl (.inl rfl))) (fun _ _ _ _ _ => pts_nil) (fun _ _ _ _ _ => (pe_ix ix_str (pe_ix (k_ix_tup K) (pv 1) pe_int (fun _ _ => rfl)) (pe_calM c__law_draw hr (by decide) (by rfl) (pa_cons (pv 0) (pa_cons (pe_callB (k_len K) (by rfl) t.len boot_len (pa_cons (pe_ix (k_ix_tup K) (pv 1) pe_int (fun _ _ => rfl)) pa_nil)) pa_nil))) (fun _ _ => rfl)))))) (pss_cons (ps_if (pt_cmpR op_eq (pe_calM c__law_draw hr (by decide) (by rfl) (pa_cons (pv 0) (pa_cons pe_int pa_nil))) pe_int (nomark _)) (pss_one (ps_ret (pe_op op_mulS (pe_slice sl_str (pv 4) po_none (po_some pe_int)) (pv 3)))) pss_nil) (pss_one (ps_ret (pv 4)))))), fun q c cs ds n P hcs hF => ?_⟩
    obtain ⟨b, most, rfl, rfl, ⟨hb, hm0, hm8⟩, hP⟩ := hF
    have hb1 := hb.l1
    have hb2 := hb.l2
    refine SvM.imp (n := 3 + (8 + (1 + 0))) (svm_seq (n := 3) (m := 8 + (1 + 0)) (SvM.imp (svm_asg (evm_pick (k := 4) (B := PI 0 (most + 1)) (eap_cons (evm_draw rfl hcs (ea_cons (ev_op ev_v ev_int od_i) ea_nil) (by omega)) (eap_cons (evm_d ev_v ⟨_, rfl, by omega, by omega⟩) (eap_cons (evm_draw rfl hcs (ea_cons (ev_op ev_v ev_int od_i) ea_nil) (by omega)) (eap_cons (evm_d (ev_cb (ea_cons ev_v (ea_cons ev_int ea_nil)) cl_min2) ⟨_, rfl, by split <;> omega, by split <;> omega⟩) eap_nil)))) (by decide) (evm_draw rfl hcs (ea_cons ev_int ea_nil) (by decide))) ?_) (Nat.le_refl _) (fun _ h => h) (fun _ h => h))) (by decide) (fun _ h => h) (fun _ h => h)
    rintro d ⟨size, rfl, hs0, hs1⟩
    have hrl : (rng 0 size).length = size.toNat := by rw [len_rng, Int.sub_zero]
    refine svm_seq (n := 8) (m := 1 + 0) (svm_asg (P := fun d => ∃ s : Str, d = .str s ∧ (s.length : Int) = size ∧ Of b.letters.cps.toList s) (evm_join ev_str ((evm_lc (n := 0) (m := 1) (k := 8) (is := [5]) (rng 0 size) .int (fun i acc => ∃ ys : List Str, acc = ys.map .str ∧ ys.length = i ∧ Ones b.letters.cps.toList ys) (by decide) (ei_r1 (ea_cons ev_v ea_nil) (by omega)) (le16 (by omega)) ⟨[], rfl, rfl, fun y h => by cases h⟩ (fun i x acc hx hacc => ⟨_, (· = true), eg_n, etm et_yes, fun _ => (evm_op (P := fun d => ∃ c ∈ b.letters.cps.toList, d = .str ⟨#[c]⟩) (evm (ev_op ev_v ev_int (od_ixT rfl))) (evm_draw (many := (b.letters.length : Int)) rfl hcs (ea_cons (ev_cb (ea_cons (ev_op ev_v ev_int (od_ixT rfl)) ea_nil) (cl_lenS (le16 (by omega)))) ea_nil) (by omega)) fun y z hy hz => ?_).imp (Nat.le_refl _) fun d hd => ?_, fun h => nomatch h⟩) (by rw [hrl]; omega)).imp (Nat.le_refl _) fun d hd => ?_)) fun d hd => ?_)
    · subst hy
      obtain ⟨j, rfl, j0, j1⟩ := hz
      refine ⟨_, od_ixS (le16 (by omega)) (ch_at j0 j1), ch b.letters j, ?_, rfl⟩
      unfold ch
      have hj : j.toNat < b.letters.cps.toList.length := by rw [len_cps]; omega
      rw [List.getD_eq_getElem?_getD, List.getElem?_eq_getElem hj]
      exact List.getElem_mem _
    · obtain ⟨ys, rfl, hl, ho⟩ := hacc
      obtain ⟨c, hc, rfl⟩ := hd
      refine ⟨ys ++ [⟨#[c]⟩], by rw [List.map_append]; rfl, by rw [List.length_append, hl]; rfl, fun y hy => ?_⟩
      rcases List.mem_append.mp hy with hy | hy
      · exact ho y hy
      · rw [List.mem_singleton.mp hy]; exact ⟨c, hc, rfl⟩
    · obtain ⟨acc, rfl, ys, rfl, hl, ho⟩ := hd
      have := ones_sum ho
      refine ⟨ys, rfl, ⟨_, rfl, ?_, ones_of ho⟩, ?_⟩
      · rw [ones_len ho, hl, hrl]; omega
      · rw [this, hl, hrl]
        show size.toNat + size.toNat * 0 ≤ _
        omega
    obtain ⟨s, rfl, hsl, hof⟩ := hd
    refine svm_seq (n := 1) (m := 0) (svm_if (n := 1) (m := 0) (etm_test (P := fun _ => True) ((evm_op (evm_draw (many := 4) rfl hcs (ea_cons ev_int ea_nil) (by decide)) (evm ev_int) (P := fun d => ∃ b : Bool, d = .bool b ∧ True) fun x y hx hy => ?_).imp (Nat.le_refl _) fun _ h => h)) (fun _ => ?_) (fun _ => svm_next ?_))
    · obtain ⟨j, rfl, _, _⟩ := hx
      subst hy
      exact ⟨_, od_eq rfl, _, rfl, trivial⟩
    · have hcl : (cutS s none (some 1)).length ≤ 1 := by
        rw [← len_cps]
        unfold cutS
        simp [HT.sIx]
        omega
      refine svm_ret ((evm (ev_op (ev_slS ev_v to_no (to_ev ev_int) (le16 (by omega))) ev_v (od_mulS hs0 (by omega) (by omega)))).imp (Nat.le_refl _) fun d hd => ?_)
      subst hd
      have := len_rep (n := size) hcl hs0
      exact hP _ (by omega) (of_rep (of_cut _ _ hof))
    · exact svm_ret ((evm ev_v).imp (Nat.le_refl _) fun d hd => by subst hd; exact hP s (by omega) hof)
end
end Pf
set_option Elab.async false
set_option linter.all false
set_option maxRecDepth 100000
set_option maxHeartbeats 4000000
namespace Pf
open PySem L2
def spLawTwo : SpM := fun ds n P => ∃ b most, ds = [encB b, .int most] ∧ n = 20 ∧ (LtOk b ∧ 0 ≤ most ∧ most ≤ 8) ∧ ∀ s s2 : Str, (s.length + s2.length : Int) ≤ most → Of b.letters.cps.toList s → Of b.letters.cps.toList s2 → P (.tuple [.str s, .str s2])
theorem cut_two (s : Str) (i : Int) (h0 : 0 ≤ i) : (cutS s none (some i)).length + (cutS s (some i) none).length ≤ s.length := by
  rw [← len_cps, ← len_cps, ← len_cps]
  unfold cutS
  have hl := len_cps s
  simp [HT.sIx, show ¬ i < 0 by omega]
  omega
end Pf
set_option Elab.async false
set_option linter.all false
set_option maxRecDepth 100000
set_option maxHeartbeats 4000000
namespace Pf
open PySem PySem.Spec L2
open PyProof.Rows PySem.Calls
section
variable {P : Program} {w : World} {K : PySem.W.Frag} {mg : Str → Option Value} {base : Heap} {T : Tb} {L : Addr}
theorem sc_law_two : FnScope (["_law_pen", "_law_book", "_law_most", "_law_whole", "_law_at"] : List Str) (["_law_pen", "_law_book", "_law_most"] : List Str) (defScope (topS 65)) := ⟨rfl, rfl, rfl, by decide +kernel, rfl, by decide +kernel, by decide +kernel⟩
theorem ok_law_two {f : Addr} {fd : FuncData} (t : Tx K mg L) (F : FnP K "_law_two" 65 f fd) (gm : mg "_law_two" = some (.ref f)) (c__law_draw : CalM P w K mg base T 1 "_law_draw" ["_law_pen", "_law_many"] spDraw) (c__law_letters : CalM P w K mg base T 3 "_law_letters" ["_law_pen", "_law_book", "_law_most"] spLawLetters) : CalM P w K mg base T 4 "_law_two" ["_law_pen", "_law_book", "_law_most"] spLawTwo := by
  have sc := sc_law_two
  refine calM_of F sc gm (fun _ _ _ _ _ _ us hl => match us, hl with | [_, _, _], _ => rfl) (fun ds n P hF => ?_) fun cdv A outer s H vs Q E hr => ?_
  · obtain ⟨_, _, rfl, _⟩ := hF; rfl
  · have hu := hu64 hr
    have hu1 := hu_of hr
    obtain ⟨tkM, hM⟩ := t.MOST
    refine ⟨_, PSs.nox (pss_cons (ps_set (i := 3) sc.nd rfl (.inl rfl) (pe_calM c__law_letters hr (by decide) (by rfl) (pa_cons (pv 0) (pa_cons (pv 1) (pa_cons (pv 2) pa_nil))))) (pss_cons (ps_set (i := 4) sc.nd rfl (.inl rfl) (pe_ix (k_ix_list K) (pe_lst (pa_cons pe_int (pa_cons (pe_callB (k_len K) (by rfl) t.len boot_len (pa_cons (pv 3) pa_nil)) (pa_cons (pe_op op_fdivN (pe_callB (k_len K) (by rfl) t.len boot_len (pa_cons (pv 3) pa_nil)) pe_int) (pa_cons (pe_calM c__law_draw hr (by decide) (by rfl) (pa_cons (pv 0) (pa_cons (pe_op op_add (pe_callB (k_len K) (by rfl) t.len boot_len (pa_cons (pv 3) pa_nil)) pe_int) pa_nil))) pa_nil))))) (pe_calM c__law_draw hr (by decide) (by rfl) (pa_cons (pv 0) (pa_cons pe_int pa_nil))) (fun _ _ => rfl))) (pss_one (ps_ret (pe_tup (pa_cons (pe_slice sl_str (pv 3) po_none (po_some (pv 4))) (pa_cons (pe_slice sl_str (pv 3) (po_some (pv 4)) po_none) pa_nil))))))), fun q c cs ds n P hcs hF => ?_⟩
    obtain ⟨b, most, rfl, rfl, ⟨hb, hm0, hm8⟩, hP⟩ := hF
    refine SvM.imp (n := 13 + (2 + 0)) (svm_seq (n := 13) (m := 2 + 0) (svm_asg (P := fun d => ∃ s : Str, d = .str s ∧ (s.length : Int) ≤ most ∧ Of b.letters.cps.toList s) (evm_call rfl hcs (ea_cons ev_v (ea_cons ev_v ea_nil)) ⟨b, most, rfl, rfl, ⟨hb, hm0, hm8⟩, fun s h1 h2 => ⟨s, rfl, h1, h2⟩⟩) ?_)) (by decide) (fun _ h => h) (fun _ h => h)
    rintro d ⟨s, rfl, hs1, hs2⟩
    refine svm_seq (n := 2) (m := 0) (svm_asg (evm_pick (k := 4) (B := PI 0 (s.length + 1)) (eap_cons (evm_d ev_int ⟨_, rfl, by omega, by omega⟩) (eap_cons (evm_d (ev_cb (ea_cons ev_v ea_nil) (cl_lenS (le16 (by omega)))) ⟨_, rfl, by omega, by omega⟩) (eap_cons (evm_d (ev_op (ev_cb (ea_cons ev_v ea_nil) (cl_lenS (le16 (by omega)))) ev_int (od_iC ⟨by decide, by decide⟩)) ⟨_, rfl, ?_, ?_⟩) (eap_cons (evm_draw (many := (s.length : Int) + 1) rfl hcs (ea_cons (ev_op (ev_cb (ea_cons ev_v ea_nil) (cl_lenS (le16 (by omega)))) ev_int od_i) ea_nil) (by omega)) eap_nil)))) (by decide) (evm_draw rfl hcs (ea_cons ev_int ea_nil) (by decide))) ?_)
    · exact Int.fdiv_nonneg (by omega) (by decide)
    · rw [Int.fdiv_eq_ediv_of_nonneg _ (by decide)]; omega
    rintro d ⟨at', rfl, h0, h1⟩
    have hc := cut_two s at' h0
    refine svm_ret ((evm (ev_tp (ea_cons (ev_slS ev_v to_no (to_ev ev_v) (le16 (by omega))) (ea_cons (ev_slS ev_v (to_ev ev_v) to_no (le16 (by omega))) ea_nil)))).imp (Nat.le_refl _) fun d hd => ?_)
    subst hd
    exact hP _ _ (by omega) (of_cut _ _ hs2) (of_cut _ _ hs2)
end
end Pf
set_option Elab.async false
set_option linter.all false
set_option maxRecDepth 100000
set_option maxHeartbeats 4000000
namespace Pf
open PySem L2
def moved (F : Fo) (by_ : Int) : Fo := F.map fun p => (p.1 + by_, p.2 + by_)
def spMoved : SpF := fun ds P => ∃ F by_, ds = [encF F, .int by_] ∧ F.length ≤ 1000 ∧ P (encF (moved F by_))
def spLawNick : SpF := fun ds P => ∃ n F m, ds = [.int n, encF F] ∧ (Proper 0 m F ∧ 0 ≤ m ∧ m ≤ 100) ∧ P (optP (nick n F))
end Pf
set_option Elab.async false
set_option linter.all false
set_option maxRecDepth 100000
set_option maxHeartbeats 4000000
namespace Pf
open PySem PySem.Spec L2
open PyProof.Rows PySem.Calls
section
variable {P : Program} {w : World} {K : PySem.W.Frag} {mg : Str → Option Value} {base : Heap} {T : Tb} {L : Addr}
theorem sc_law_moved : FnScope (["_law_shape", "_law_by", "_law_i", "_law_j"] : List Str) (["_law_shape", "_law_by"] : List Str) (defScope (topS 66)) := ⟨rfl, rfl, rfl, by decide +kernel, rfl, by decide +kernel, by decide +kernel⟩
theorem ok_law_moved {f : Addr} {fd : FuncData} (t : Tx K mg L) (F : FnP K "_law_moved" 66 f fd) (gm : mg "_law_moved" = some (.ref f)) : Cal P w K mg base T 1 "_law_moved" ["_law_shape", "_law_by"] spMoved := by
  have sc := sc_law_moved
  refine cal_of F sc gm (fun _ _ _ _ _ _ us hl => match us, hl with | [_, _], _ => rfl) (fun ds P hF => ?_) fun cdv A outer s H vs Q E hr => ?_
  · obtain ⟨_, _, rfl, _⟩ := hF; rfl
  · have hu := hu64 hr
    have hu1 := hu_of hr
    obtain ⟨tkM, hM⟩ := t.MOST
    refine ⟨_, PSs.nox (pss_one (ps_ret (pe_callTy (k_tuple K) (by rfl) t.tuple boot_tuple (pa_cons (pe_lc (own := [("_law_i", 2), ("_law_j", 3)]) rfl sc.nd (k_pi_tup K (pv 0)) (blkOk_by (own := [("_law_i", 2), ("_law_j", 3)]) (N := (["_law_shape", "_law_by", "_law_i", "_law_j"] : List Str)) (sc := defScope (topS 66)) (by decide +kernel)) (fun _ _ _ _ _ => (k_pg_tup K (n := 2) rfl (pgs_cons (pg_name (i := 2) sc.nd rfl (.inl rfl)) (pgs_cons (pg_name (i := 3) sc.nd rfl (.inl rfl)) pgs_nil)))) (fun _ _ _ _ _ => pts_nil) (fun _ _ _ _ _ => (pe_tup (pa_cons (pe_op op_add (pv 2) (pv 1)) (pa_cons (pe_op op_add (pv 3) (pv 1)) pa_nil))))) pa_nil)))), fun ds P hF => ?_⟩
    obtain ⟨F, by_, rfl, hl, hP⟩ := hF
    exact sv_ret (Ev.to (ev_cb (ea_cons (ev_lcM (is := [2, 3]) F encP (fun p => encP (p.1 + by_, p.2 + by_)) (by decide) (ei_tup ev_v) (le16 (by omega)) fun p _ => ⟨_, eg_tup (egs_cons eg_n (egs_cons eg_n egs_nil)) rfl, ev_tp (ea_cons (ev_op ev_v ev_v od_i) (ea_cons (ev_op ev_v ev_v od_i) ea_nil))⟩) ea_nil) cl_tupL) (by unfold moved encF; rw [List.map_map]; rfl)) hP
theorem sc_law_nick : FnScope (["_law_at", "_law_shape", "_law_around", "_law_pair"] : List Str) (["_law_at", "_law_shape"] : List Str) (defScope (topS 62)) := ⟨rfl, rfl, rfl, by decide +kernel, rfl, by decide +kernel, by decide +kernel⟩
theorem ok_law_nick {f : Addr} {fd : FuncData} (t : Tx K mg L) (F : FnP K "_law_nick" 62 f fd) (gm : mg "_law_nick" = some (.ref f)) : Cal P w K mg base T 1 "_law_nick" ["_law_at", "_law_shape"] spLawNick := by
  have sc := sc_law_nick
  refine cal_of F sc gm (fun _ _ _ _ _ _ us hl => match us, hl with | [_, _], _ => rfl) (fun ds P hF => ?_) fun cdv A outer s H vs Q E hr => ?_
  · obtain ⟨_, _, _, rfl, _⟩ := hF; rfl
  · have hu := hu64 hr
    have hu1 := hu_of hr
    obtain ⟨tkM, hM⟩ := t.MOST
    refine ⟨_, PSs.nox (pss_cons (ps_setLc (i := 2) (own := [("_law_pair", 3)]) rfl sc.nd rfl rfl (sw_true rfl rfl rfl (by decide +kernel)) (k_pi_tup K (pv 1)) (blkOk_by (own := [("_law_pair", 3)]) (N := (["_law_at", "_law_shape", "_law_around", "_law_pair"] : List Str)) (sc := defScope (topS 62)) (by decide +kernel)) (fun _ _ _ _ _ => (pg_name (i := 3) sc.nd rfl (.inl rfl))) (fun _ _ _ _ _ => (pts_one (pt_chain op_lt op_le (pe_ix (k_ix_tup K) (pv 3) pe_int (fun _ _ => rfl)) (pv 0) (pe_ix (k_ix_tup K) (pv 3) pe_int (fun _ _ => rfl))))) (fun _ _ _ _ _ => (pv 3))) (pss_one (ps_ret (pe_ifExp (pt_cmpR (k_op_neD K hu) (pv 2) (pe_lst pa_nil) (nomark _)) (pe_ix (k_ix_list K) (pe_op op_cat (pe_callB (k_sortD K hu) (by rfl) t.sorted boot_sorted (pa_cons (pv 2) pa_nil)) (pe_lst (pa_cons pe_non pa_nil))) (pe_op op_sub (pe_callB (k_len K) (by rfl) t.len boot_len (pa_cons (pv 2) pa_nil)) pe_int) (fun _ _ => rfl)) pe_non)))), fun ds P hF => ?_⟩
    obtain ⟨n, F, m, rfl, ⟨hp, hm0, hm⟩, hP⟩ := hF
    have hl := hp.len hm0
    refine sv_seq (sv_lcFO (is := [3]) F encP (fun p => decide (p.1 < n) && decide (n ≤ p.2)) encP (by decide) (ei_tup ev_v) (le16 (by omega)) (fun p _ => ⟨_, eg_n, et_test (ev_chain (ev_op ev_v ev_int (od_ixT at0)) ev_v (ev_op ev_v ev_int (od_ixT (atI_nat (j := 1) rfl))) od_b od_b), fun _ => ev_v⟩) rfl ?_)
    unfold nick at hP
    have hup := last_up (c := fun p => decide (p.1 < n) && decide (n ≤ p.2)) hp.up
    have hgl := List.length_filter_le (fun p : Pr => decide (p.1 < n) && decide (n ≤ p.2)) F
    generalize (F.filter fun p => decide (p.1 < n) && decide (n ≤ p.2)) = G at hP hup hgl ⊢
    refine sv_froze (i := 2) rfl (sv_ret (ev_if (b := !decide (G = [])) (et_to (et_test (ev_op ev_v (ev_ls ea_nil) (od_neD (okEq_pairs G).1 okNil))) (by rw [eqv_nil])) (fun h => ?_) (fun h => ?_)) hP)
    · have hne : G ≠ [] := by simpa using h
      have hpos : 0 < G.length := List.length_pos_iff.mpr hne
      refine ev_op (ev_op (Ev.to (ev_cb (ea_cons ev_v ea_nil) (cl_sort (sortD_pairs G (by omega)))) (congrArg PyData.list (srt_up hup))) (ev_ls (ea_cons ev_non ea_nil)) (od_cat (le16 (by rw [List.length_map]; show G.length + 1 ≤ _; omega)))) (Ev.to (ev_op (ev_cb (ea_cons ev_v ea_nil) cl_lenL) ev_int od_i) (show _ = PyData.int ((G.length - 1 : Nat) : Int) by rw [List.length_map]; congr 1; omega)) (od_ixL (atI_nat ?_))
      rw [List.getElem?_append_left (by rw [List.length_map]; omega), List.getElem?_map, ← List.getLast?_eq_getElem?, List.getLast?_eq_some_getLast hne]
      rfl
    · have he : G = [] := by simpa using h
      subst he
      exact ev_non
end
end Pf
set_option Elab.async false
set_option linter.all false
set_option maxRecDepth 100000
set_option maxHeartbeats 4000000
namespace Pf
open PySem L2
def spRules : SpM := fun ds n P => ds = [] ∧ n = 400 ∧ ∀ b : Book, OkB b → LtOk b → P (encB b)
def SsOk (ss : List Str) : Prop := ∀ s ∈ ss, Sok s
theorem alike_str (a b : Str) : PySem.W.alike (.str a) (.str b) = true := by simp [PySem.W.alike]
theorem sok_alike {a : Str} (h : Sok a) : okEq (.str a) = true := by
  unfold Sok at h
  simp [h, okEq, SeqAt.shaped, PySem.W.alike, PyData.canLay0, PyData.depth]
theorem sortD_strs (ss : List Str) (h : ss.length ≤ 1000) : SortD (ss.map .str) := by
  refine ⟨fun d hd e he => ?_, .inl (.inr fun d hd => ?_), by rw [List.length_map]; exact le16 (by omega), fun d hd => ?_⟩
  · obtain ⟨x, _, rfl⟩ := List.mem_map.mp hd
    obtain ⟨y, _, rfl⟩ := List.mem_map.mp he
    exact alike_str x y
  · obtain ⟨x, _, rfl⟩ := List.mem_map.mp hd
    exact ⟨(fun e => nomatch e), (fun xs e => nomatch e)⟩
  · obtain ⟨x, _, rfl⟩ := List.mem_map.mp hd
    simp [PyData.depth]
theorem cutD_map {α : Type} (f : α → D) (xs : List α) (lo hi : Option Int) : ∃ ys : List α, cutD (xs.map f) lo hi = ys.map f ∧ (∀ y ∈ ys, y ∈ xs) ∧ ys.length ≤ HT.sIx (xs.map f).length (xs.map f).length hi := by
  unfold cutD
  rw [← List.map_drop, ← List.map_take]
  exact ⟨_, rfl, fun y hy => List.mem_of_mem_drop (List.mem_of_mem_take hy), by rw [List.length_take]; omega⟩
theorem sok_two {ls : Str} (h : Sok ls) {a c : Nat} (ha : a ∈ ls.cps.toList) (hc : c ∈ ls.cps.toList) : Sok (one1 a ++ one1 c) := by
  unfold Sok PyData.strOk at h ⊢
  rw [Array.all_eq_true_iff_forall_mem] at h ⊢
  have e : (one1 a ++ one1 c).cps = #[a, c] := rfl
  rw [e]
  intro x hx
  have hx' : x = a ∨ x = c := by simpa using hx
  rcases hx' with rfl | rfl
  · exact h _ (by simpa using ha)
  · exact h _ (by simpa using hc)
theorem texts_of {ls : Str} (h4 : ls.length ≤ 4) (h : Sok ls) : ∃ ts : List Str, (ls.cps.toList.flatMap fun c => ls.cps.toList.map fun c' => PyData.str (one1 c ++ one1 c')) = ts.map .str ∧ ts.length ≤ 16 ∧ SsOk ts := by
  refine ⟨ls.cps.toList.flatMap fun c => ls.cps.toList.map fun c' => one1 c ++ one1 c', by rw [List.map_flatMap]; simp only [List.map_map]; rfl, ?_, fun s hs => ?_⟩
  · have hl := len_cps ls
    have := len_flat (fun c : Nat => ls.cps.toList.map fun c' => one1 c ++ one1 c') 4 ls.cps.toList fun _ _ => by rw [List.length_map]; omega
    omega
  · obtain ⟨a, ha, hs⟩ := List.mem_flatMap.mp hs
    obtain ⟨c, hc, rfl⟩ := List.mem_map.mp hs
    exact sok_two h ha hc
end Pf
set_option Elab.async false
set_option linter.all false
set_option maxRecDepth 100000
set_option maxHeartbeats 4000000
namespace Pf
open PySem L2
section
variable {T : Tb} {q c : Addr} {cs : List Int} {n : Nat} {ts : TS} {ρ : En} {d : D} {N : En → Prop} {R : D → Prop}
theorem svm_froze {i : Nat} (hi : ρ[i]? = some (.own d)) (h : SvM T q c cs n ts (ρ.set i (.dat d)) N R) : SvM T q c cs n ts ρ N R := fun G0 H0 G H σ E u r S hl kn kr => by
  obtain ⟨Gp, sg, g0, _, S'⟩ := S.st.froze hi
  exact h G0 H0 Gp H σ E u r ⟨S', S.g0, S.hc.mono sg, S.u0, S.r0⟩ hl (fun G2 H2 σ2 ρ2 u2 r2 a2 b2 s2 S2 n2 => kn G2 H2 σ2 ρ2 u2 r2 a2 b2 (sg.trans s2) S2 n2) kr
end
theorem okEq_strs {ss : List Str} (h : SsOk ss) : okEq (.list (ss.map .str)) = true := by
  have h1 : PySem.W.alikeAll (ss.map PyData.str) (ss.map PyData.str) = true := alikeAll_self fun d hd => by
    obtain ⟨a, ha, rfl⟩ := List.mem_map.mp hd
    exact alike_str a a
  have h4 : PyData.canLayAll0 (ss.map PyData.str) = true := by
    clear h1
    induction ss with
    | nil => rfl
    | cons a r ih =>
      have ha := h a List.mem_cons_self
      unfold Sok at ha
      rw [List.map_cons, PyData.canLayAll0, ih fun s hs => h s (List.mem_cons_of_mem _ hs)]
      simp [PyData.canLay0, ha]
  have h5 : PyData.depthAll (ss.map PyData.str) ≤ 8 := by
    clear h1 h4 h
    induction ss with
    | nil => simp [PyData.depthAll]
    | cons a r ih =>
      rw [List.map_cons, PyData.depthAll]
      simp [PyData.depth]
      omega
  unfold okEq SeqAt.shaped
  simp [PySem.W.alike, PyData.canLay0, PyData.depth, h1, h4]
  omega
theorem eqv_strs (ss : List Str) : PyData.eqv (.list (ss.map .str)) (.list []) = decide (ss = []) := by
  cases ss <;> simp [PyData.eqv, PyData.eqvAll]
/-! the heights -/
abbrev Row : Type := Str × Str × Int
def rowE (r : Row) : List Key × D := ([.inr r.1, .inr r.2.1], .int r.2.2)
def RowsOk (rows : List Row) : Prop := ∀ r ∈ rows, Sok r.1 ∧ Sok r.2.1
theorem row_put {rows : List Row} {a c : Str} {v : Int} (h : RowsOk rows) (ha : Sok a) (hc : Sok c) : ∃ rows', ptD (rows.map rowE) [.inr a, .inr c] (.int v) = rows'.map rowE ∧ rows'.length ≤ rows.length + 1 ∧ RowsOk rows' := by
  unfold ptD
  split
  · refine ⟨rows.map fun r => if r.1 = a ∧ r.2.1 = c then (a, c, v) else r, ?_, by rw [List.length_map]; omega, fun r hr => ?_⟩
    · rw [List.map_map, List.map_map]
      refine List.map_congr_left fun r _ => ?_
      show (if (rowE r).1 = [.inr a, .inr c] then ((rowE r).1, PyData.int v) else rowE r) = rowE (if r.1 = a ∧ r.2.1 = c then (a, c, v) else r)
      have e : (rowE r).1 = [.inr a, .inr c] ↔ r.1 = a ∧ r.2.1 = c := by unfold rowE; simp
      by_cases q : r.1 = a ∧ r.2.1 = c
      · rw [if_pos (e.mpr q), if_pos q, e.mpr q]; rfl
      · rw [if_neg (fun z => q (e.mp z)), if_neg q]
    · obtain ⟨r', hr', rfl⟩ := List.mem_map.mp hr
      split
      · exact ⟨ha, hc⟩
      · exact h r' hr'
  · refine ⟨rows ++ [(a, c, v)], by rw [List.map_append]; rfl, by simp, fun r hr => ?_⟩
    rcases List.mem_append.mp hr with hr | hr
    · exact h r hr
    · rw [List.mem_singleton.mp hr]; exact ⟨ha, hc⟩
def rowK (r : Row) : D := .tuple [.str r.1, .str r.2.1]
theorem rows_keys (rows : List Row) : ((rows.map rowE).map fun e => keysD e.1) = rows.map rowK := by
  rw [List.map_map]
  rfl
theorem sortD_rows (rows : List Row) (h : rows.length ≤ 1000) : SortD (rows.map rowK) := by
  refine ⟨fun d hd e he => ?_, .inl (.inl ?_), by rw [List.length_map]; exact le16 (by omega), fun d hd => ?_⟩
  · obtain ⟨x, _, rfl⟩ := List.mem_map.mp hd
    obtain ⟨y, _, rfl⟩ := List.mem_map.mp he
    simp [rowK, PySem.W.alike, PySem.W.alikeAll]
  · intro d hd
    obtain ⟨x, _, rfl⟩ := List.mem_map.mp hd
    exact ⟨_, _, rfl⟩
  · obtain ⟨x, _, rfl⟩ := List.mem_map.mp hd
    simp [rowK, PyData.depth, PyData.depthAll]
def rowV (rows : List Row) (r : Row) : Int := match lkp (rows.map rowE) [.inr r.1, .inr r.2.1] with
  | some (.int v) => v
  | _ => 0
theorem rowV_at {rows : List Row} {r : Row} (h : r ∈ rows) : lkp (rows.map rowE) [.inr r.1, .inr r.2.1] = some (.int (rowV rows r)) := by
  unfold rowV
  cases q : lkp (rows.map rowE) [.inr r.1, .inr r.2.1] with
  | none => exact absurd rfl (lkp_none.mp q (rowE r) (List.mem_map.mpr ⟨r, h, rfl⟩))
  | some d =>
    unfold lkp at q
    obtain ⟨e, he, rfl⟩ := Option.map_eq_some_iff.mp q
    obtain ⟨r', _, rfl⟩ := List.mem_map.mp (List.mem_of_find?_eq_some he)
    rfl
end Pf
set_option Elab.async false
set_option linter.all false
set_option maxRecDepth 100000
set_option maxHeartbeats 4000000
namespace Pf
open PySem PySem.Spec L2
open PyProof.Rows PySem.Calls
section
variable {P : Program} {w : World} {K : PySem.W.Frag} {mg : Str → Option Value} {base : Heap} {T : Tb} {L : Addr}
theorem sc_law_rules : FnScope (["_law_pen", "_law_letters_here", "_law_texts", "_law_sign", "_law_share", "_law_some", "_law_couples", "_law_apart", "_law_heights", "_law_k", "_law_key", "_law_piles", "_law_other", "_law_text"] : List Str) (["_law_pen"] : List Str) (defScope (topS 57)) := ⟨rfl, rfl, rfl, by decide +kernel, rfl, by decide +kernel, by decide +kernel⟩
theorem ok_law_rules {f : Addr} {fd : FuncData} (t : Tx K mg L) (F : FnP K "_law_rules" 57 f fd) (gm : mg "_law_rules" = some (.ref f)) (c__law_draw : CalM P w K mg base T 1 "_law_draw" ["_law_pen", "_law_many"] spDraw) (c__law_worth : CalM P w K mg base T 2 "_law_worth" ["_law_pen"] spWorth) : CalM P w K mg base T 3 "_law_rules" ["_law_pen"] spRules := by
  have sc := sc_law_rules
  refine calM_of F sc gm (fun _ _ _ _ _ _ us hl => match us, hl with | [_], _ => rfl) (fun ds n P hF => ?_) fun cdv A outer s H vs Q E hr => ?_
  · obtain ⟨rfl, _⟩ := hF; rfl
  · have hu := hu64 hr
    have hu1 := hu_of hr
    obtain ⟨tkM, hM⟩ := t.MOST
    refine ⟨_, PSs.nox (pss_cons (ps_set (i := 1) sc.nd rfl (.inl rfl) (pe_ix (k_ix_list K) (pe_lst (pa_cons pe_str (pa_cons pe_str (pa_cons pe_str (pa_cons pe_str pa_nil))))) (pe_calM c__law_draw hr (by decide) (by rfl) (pa_cons (pv 0) (pa_cons pe_int pa_nil))) (fun _ _ => rfl))) (pss_cons (ps_set (i := 2) sc.nd rfl (.inl rfl) (pe_lst pa_nil)) (pss_cons (ps_for PassesOwn.never rfl (pi_str (pv 1)) (pg_name (i := 3) sc.nd rfl (.inr rfl)) (pss_one (ps_set (i := 2) sc.nd rfl (.inl rfl) (pe_op op_cat (pv 2) (pe_lc (own := [("_law_other", 12)]) rfl sc.nd (pi_str (pv 1)) (blkOk_by (own := [("_law_other", 12)]) (N := (["_law_pen", "_law_letters_here", "_law_texts", "_law_sign", "_law_share", "_law_some", "_law_couples", "_law_apart", "_law_heights", "_law_k", "_law_key", "_law_piles", "_law_other", "_law_text"] : List Str)) (sc := defScope (topS 57)) (by decide +kernel)) (fun _ _ _ _ _ => (pg_name (i := 12) sc.nd rfl (.inl rfl))) (fun _ _ _ _ _ => pts_nil) (fun _ _ _ _ _ => (pe_op op_add_str (pv 3) (pv 12)))))))) (pss_cons (ps_set (i := 4) sc.nd rfl (.inr rfl) (pe_ix (k_ix_list K) (pe_lst (pa_cons pe_int (pa_cons pe_int (pa_cons pe_int (pa_cons pe_int pa_nil))))) (pe_calM c__law_draw hr (by decide) (by rfl) (pa_cons (pv 0) (pa_cons pe_int pa_nil))) (fun _ _ => rfl))) (pss_cons (ps_set (i := 5) sc.nd rfl (.inl rfl) (pe_slice (k_sl_list K) (pe_lc (own := [("_law_text", 13)]) rfl sc.nd (k_pi_list K (pv 2)) (blkOk_by (own := [("_law_text", 13)]) (N := (["_law_pen", "_law_letters_here", "_law_texts", "_law_sign", "_law_share", "_law_some", "_law_couples", "_law_apart", "_law_heights", "_law_k", "_law_key", "_law_piles", "_law_other", "_law_text"] : List Str)) (sc := defScope (topS 57)) (by decide +kernel)) (fun _ _ _ _ _ => (pg_name (i := 13) sc.nd rfl (.inl rfl))) (fun _ _ _ _ _ => (pts_one (pt_cmpR op_eq (pe_calM c__law_draw hr (by decide) (by rfl) (pa_cons (pv 0) (pa_cons (pv 4) pa_nil))) pe_int (nomark _)))) (fun _ _ _ _ _ => (pv 13))) po_none (po_some pe_int))) (pss_cons (ps_set (i := 6) sc.nd rfl (.inl rfl) (pe_callTy (k_tupFz K) (by rfl) t.tuple boot_tuple (pa_cons (pe_lc (own := [("_law_text", 13)]) rfl sc.nd (k_pi_list K (pe_callB (k_sortD K hu) (by rfl) t.sorted boot_sorted (pa_cons (pv 5) pa_nil))) (blkOk_by (own := [("_law_text", 13)]) (N := (["_law_pen", "_law_letters_here", "_law_texts", "_law_sign", "_law_share", "_law_some", "_law_couples", "_law_apart", "_law_heights", "_law_k", "_law_key", "_law_piles", "_law_other", "_law_text"] : List Str)) (sc := defScope (topS 57)) (by decide +kernel)) (fun _ _ _ _ _ => (pg_name (i := 13) sc.nd rfl (.inl rfl))) (fun _ _ _ _ _ => pts_nil) (fun _ _ _ _ _ => (pe_tup (pa_cons (pv 13) (pa_cons (pe_calM c__law_worth hr (by decide) (by rfl) (pa_cons (pv 0) pa_nil)) pa_nil))))) pa_nil))) (pss_cons (ps_set (i := 7) sc.nd rfl (.inl rfl) (pe_ix (k_ix_list K) (pe_lst (pa_cons pe_int (pa_cons pe_int (pa_cons pe_int (pa_cons (pe_calM c__law_draw hr (by decide) (by rfl) (pa_cons (pv 0) (pa_cons pe_int pa_nil))) pa_nil))))) (pe_calM c__law_draw hr (by decide) (by rfl) (pa_cons (pv 0) (pa_cons pe_int pa_nil))) (fun _ _ => rfl))) (pss_cons (ps_set (i := 8) sc.nd rfl (.inr rfl) pe_dnewT) (pss_cons (ps_for PassesOwn.never rfl (pi_range1 (by rfl) t.range (pa_cons (pe_op op_mul (pe_ix (k_ix_list K) (pe_lst (pa_cons pe_int (pa_cons pe_int (pa_cons pe_int pa_nil)))) (pe_calM c__law_draw hr (by decide) (by rfl) (pa_cons (pv 0) (pa_cons pe_int pa_nil))) (fun _ _ => rfl)) (pe_callTy call_int1 (by rfl) t.int boot_int (pa_cons (pe_cmpR (k_op_neD K hu) (pv 5) (pe_lst pa_nil) (nomark _)) pa_nil))) pa_nil)) (pg_name (i := 9) sc.nd rfl (.inl rfl)) (pss_cons (ps_set (i := 10) sc.nd rfl (.inl rfl) (pe_tup (pa_cons (pe_ix (k_ix_list K) (pv 5) (pe_calM c__law_draw hr (by decide) (by rfl) (pa_cons (pv 0) (pa_cons (pe_callB (k_len K) (by rfl) t.len boot_len (pa_cons (pv 5) pa_nil)) pa_nil))) (fun _ _ => rfl)) (pa_cons (pe_ix (k_ix_list K) (pv 5) (pe_calM c__law_draw hr (by decide) (by rfl) (pa_cons (pv 0) (pa_cons (pe_callB (k_len K) (by rfl) t.len boot_len (pa_cons (pv 5) pa_nil)) pa_nil))) (fun _ _ => rfl)) pa_nil)))) (pss_one (ps_dput hu1 (pv 8) (pv 10) (pe_calM c__law_worth hr (by decide) (by rfl) (pa_cons (pv 0) pa_nil)) rfl)))) (pss_cons (ps_set (i := 11) sc.nd rfl (.inl rfl) (pe_callTy (k_tuple K) (by rfl) t.tuple boot_tuple (pa_cons (pe_lc (own := [("_law_key", 10)]) rfl sc.nd (k_pi_list K (pe_callB (cr_sortDT hu rfl) (by rfl) t.sorted boot_sorted (pa_cons (pv 8) pa_nil))) (blkOk_by (own := [("_law_key", 10)]) (N := (["_law_pen", "_law_letters_here", "_law_texts", "_law_sign", "_law_share", "_law_some", "_law_couples", "_law_apart", "_law_heights", "_law_k", "_law_key", "_law_piles", "_law_other", "_law_text"] : List Str)) (sc := defScope (topS 57)) (by decide +kernel)) (fun _ _ _ _ _ => (pg_name (i := 10) sc.nd rfl (.inl rfl))) (fun _ _ _ _ _ => pts_nil) (fun _ _ _ _ _ => (pe_op (k_op_catT K) (pv 10) (pe_tup (pa_cons (pe_dget hu1 (pv 8) (pv 10) (fun _ _ => rfl)) pa_nil))))) pa_nil))) (pss_one (ps_ret (pe_tup (pa_cons (pv 1) (pa_cons (pv 6) (pa_cons (pv 7) (pa_cons (pe_callTy (k_tuple K) (by rfl) t.tuple boot_tuple (pa_cons (pe_lc (own := [("_law_k", 9)]) rfl sc.nd (pi_range1 (by rfl) t.range (pa_cons pe_int pa_nil)) (blkOk_by (own := [("_law_k", 9)]) (N := (["_law_pen", "_law_letters_here", "_law_texts", "_law_sign", "_law_share", "_law_some", "_law_couples", "_law_apart", "_law_heights", "_law_k", "_law_key", "_law_piles", "_law_other", "_law_text"] : List Str)) (sc := defScope (topS 57)) (by decide +kernel)) (fun _ _ _ _ _ => (pg_name (i := 9) sc.nd rfl (.inl rfl))) (fun _ _ _ _ _ => pts_nil) (fun _ _ _ _ _ => (pe_calM c__law_worth hr (by decide) (by rfl) (pa_cons (pv 0) pa_nil)))) pa_nil)) (pa_cons (pv 11) pa_nil)))))))))))))))))), fun q c cs ds n P hcs hF => ?_⟩
    obtain ⟨rfl, rfl, hP⟩ := hF
    refine SvM.imp (n := 1 + 300) (svm_seq (n := 1) (m := 300) (svm_asg (evm_pick (k := 4) (B := fun d => ∃ s : Str, d = .str s ∧ 1 ≤ s.length ∧ s.length ≤ 4 ∧ Sok s) (eap_cons (evm_d ev_str ⟨_, rfl, by decide, by decide, (show PyData.strOk _ = true by decide +kernel)⟩) (eap_cons (evm_d ev_str ⟨_, rfl, by decide, by decide, (show PyData.strOk _ = true by decide +kernel)⟩) (eap_cons (evm_d ev_str ⟨_, rfl, by decide, by decide, (show PyData.strOk _ = true by decide +kernel)⟩) (eap_cons (evm_d ev_str ⟨_, rfl, by decide, by decide, (show PyData.strOk _ = true by decide +kernel)⟩) eap_nil)))) (by decide) (evm_draw rfl hcs (ea_cons ev_int ea_nil) (by decide))) ?_)) (by decide) (fun _ h => h) (fun _ h => h)
    rintro d ⟨ls, rfl, hl1, hl4, hlo⟩
    have hlc : ls.cps.toList.length ≤ 4 := by rw [len_cps]; exact hl4
    refine SvM.imp (n := 0 + 300) (svm_seq (n := 0) (m := 300) (svm (sv_as (ev_ls ea_nil) ?_))) (by decide) (fun _ h => h) (fun _ h => h)
    have hz := len_flat (fun c : Nat => ls.cps.toList.map fun c' => PyData.str (one1 c ++ one1 c')) 4 ls.cps.toList fun _ _ => by rw [List.length_map]; exact hlc
    refine SvM.imp (n := 0 + 300) (svm_seq (n := 0) (m := 300) (svm (sv_forCat (is := [3]) ls.cps.toList (fun c => .str (one1 c)) (fun c => ls.cps.toList.map fun c' => PyData.str (one1 c ++ one1 c')) [.dat (ptrD q), .dat (.str ls), .any, .any, .any, .any, .any, .any, .any, .any, .any, .any, .any, .any] 2 [] 16 (ei_str ev_v) (.same (.same (.same (.any (.any (.any (.any (.any (.any (.any (.any (.any (.any (.any .nil)))))))))))))) (by rw [List.length_nil]; omega) (fun a as ha has => ⟨_, eg_n, sv_as (ev_op ev_v (ev_lcM (is := [12]) ls.cps.toList (fun c => .str (one1 c)) (fun c' => .str (one1 a ++ one1 c')) (by decide) (ei_str ev_v) (le16 (by omega)) fun c' _ => ⟨_, eg_n, ev_op ev_v ev_v (od_str (ble16 rfl))⟩) (od_cat (le16 (Nat.le_trans has (by decide))))) (.same (.same (.same (.any (.any (.any (.any (.any (.any (.any (.any (.any (.any (.any .nil))))))))))))))⟩) ?_))) (by decide) (fun _ h => h) (fun _ h => h)
    rw [List.nil_append]
    obtain ⟨ts, hts, htl, hto⟩ := texts_of hl4 hlo
    rw [hts]
    refine SvM.imp (n := 1 + 290) (svm_seq (n := 1) (m := 290) (svm_asg (evm_pick (k := 4) (B := PI 1 4) (eap_cons (evm_d ev_int ⟨_, rfl, by decide, by decide⟩) (eap_cons (evm_d ev_int ⟨_, rfl, by decide, by decide⟩) (eap_cons (evm_d ev_int ⟨_, rfl, by decide, by decide⟩) (eap_cons (evm_d ev_int ⟨_, rfl, by decide, by decide⟩) eap_nil)))) (by decide) (evm_draw rfl hcs (ea_cons ev_int ea_nil) (by decide))) ?_)) (by decide) (fun _ h => h) (fun _ h => h)
    rintro d ⟨share, rfl, hs1, hs4⟩
    refine SvM.imp (n := 16 + 270) (svm_seq (n := 16) (m := 270) (svm_asg (P := fun d => ∃ ss : List Str, d = .list (ss.map .str) ∧ ss.length ≤ 12 ∧ SsOk ss) ((evm_slL (evm_lc (n := 1) (m := 0) (k := 16) (is := [13]) ts .str (fun i acc => ∃ ys : List Str, acc = ys.map .str ∧ SsOk ys) (by decide) (ei_list ev_v) (le16 (by omega)) ⟨[], rfl, fun y h => by cases h⟩ (fun i x acc hx hacc => ⟨_, fun _ => True, eg_n, etm_test (P := fun _ => True) ((evm_op (evm_draw (many := share) rfl hcs (ea_cons ev_v ea_nil) (by omega)) (evm ev_int) (P := fun d => ∃ b : Bool, d = .bool b ∧ True) fun y z hy hz => ?_).imp (Nat.le_refl _) fun _ h => h), fun _ => (evm ev_v).imp (Nat.le_refl _) fun d hd => ?_, fun _ => hacc⟩) (by omega)) to_no (to_ev ev_int)).imp (Nat.le_refl _) fun d hd => ?_) ?_)) (by decide) (fun _ h => h) (fun _ h => h)
    · obtain ⟨j, rfl, _, _⟩ := hy
      subst hz
      exact ⟨_, od_eq rfl, _, rfl, trivial⟩
    · obtain ⟨ys, rfl, ho⟩ := hacc
      subst hd
      refine ⟨ys ++ [x], by rw [List.map_append]; rfl, fun y hy => ?_⟩
      rcases List.mem_append.mp hy with hy | hy
      · exact ho y hy
      · rw [List.mem_singleton.mp hy]; exact hto x (List.mem_of_getElem? hx)
    · obtain ⟨ds, rfl, ys, rfl, ho⟩ := hd
      obtain ⟨zs, e, hm, hlen⟩ := cutD_map PyData.str ys none (some 12)
      refine ⟨zs, by rw [e], ?_, fun z hz => ho z (hm z hz)⟩
      have : HT.sIx (ys.map PyData.str).length (ys.map PyData.str).length (some 12) ≤ 12 := by simp [HT.sIx]; omega
      omega
    rintro d ⟨ss, rfl, hsl, hso⟩
    obtain ⟨zs, hze, hzp⟩ := srt_map PyData.str ss
    have hzl : zs.length ≤ 12 := by rw [hzp.length_eq]; exact hsl
    refine SvM.imp (n := 48 + 220) (svm_seq (n := 48) (m := 220) (svm_asg (P := fun d => ∃ kvs : List (Str × Int), d = fzD kvs ∧ kvs.length ≤ 12) ((evm_cb (P := fun d => ∃ kvs : List (Str × Int), d = fzD kvs ∧ kvs.length ≤ 12) (eam_cons (evm_lc (n := 0) (m := 4) (k := 48) (is := [13]) zs .str (fun i acc => ∃ kvs : List (Str × Int), acc = pairsD kvs ∧ kvs.length = i) (by decide) (ei_list (Ev.to (ev_cb (ea_cons ev_v ea_nil) (cl_sort (sortD_strs ss (by omega)))) (congrArg PyData.list hze))) (le16 (by omega)) ⟨[], rfl, rfl⟩ (fun i x acc hx hacc => ⟨_, (· = true), eg_n, etm et_yes, fun _ => (evm_tup (eam_cons (evm ev_v) (eam_cons (evm_call rfl hcs ea_nil ⟨rfl, rfl, fun d h => h⟩) eam_nil)) fun ds hds => ?_).imp (Nat.le_refl _) fun d hd => ?_, fun h => nomatch h⟩) (by omega)) eam_nil) fun ds hds => ?_).imp (Nat.le_refl _) fun d hd => hd) ?_)) (by decide) (fun _ h => h) (fun _ h => h)
    · obtain ⟨d1, es, rfl, _, d2, es2, rfl, _, rfl⟩ := hds
      exact ble16 rfl
    · obtain ⟨ds, rfl, d1, es, rfl, rfl, d2, es2, rfl, ⟨v, rfl, _, _⟩, rfl⟩ := hd
      obtain ⟨kvs, rfl, hl⟩ := hacc
      exact ⟨kvs ++ [(x, v)], by unfold pairsD; rw [List.map_append]; rfl, by rw [List.length_append, hl]; rfl⟩
    · obtain ⟨d1, es, rfl, ⟨acc, rfl, kvs, rfl, hl⟩, rfl⟩ := hds
      exact ⟨_, cl_tupFz, kvs, rfl, by omega⟩
    rintro d ⟨kvs, rfl, hkl⟩
    refine SvM.imp (n := 2 + 210) (svm_seq (n := 2) (m := 210) (svm_asg (evm_pick (k := 4) (B := PI 0 4) (eap_cons (evm_d ev_int ⟨_, rfl, by decide, by decide⟩) (eap_cons (evm_d ev_int ⟨_, rfl, by decide, by decide⟩) (eap_cons (evm_d ev_int ⟨_, rfl, by decide, by decide⟩) (eap_cons (evm_draw rfl hcs (ea_cons ev_int ea_nil) (by decide)) eap_nil)))) (by decide) (evm_draw rfl hcs (ea_cons ev_int ea_nil) (by decide))) ?_)) (by decide) (fun _ h => h) (fun _ h => h)
    rintro d ⟨apart, rfl, ha0, ha4⟩
    refine SvM.imp (n := 0 + 210) (svm_seq (n := 0) (m := 210) (svm (sv_newT (fun j e q => (noOwn_at (show noOwn _ = true by rfl) q).elim) ?_))) (by decide) (fun _ h => h) (fun _ h => h)
    refine SvM.imp (n := (1 + 12 * 6) + 100) (svm_seq (n := 1 + 12 * 6) (m := 100) (svm_for (n := 1) (k := 6) (is := [9]) PyData.int (fun xs => ∃ j : Int, (0 ≤ j ∧ j ≤ 12 ∧ (ss = [] → j = 0)) ∧ xs = rng1 j) 12 (fun i ρ => ∃ (rows : List Row) (s9 s10 : Sl), rows.length ≤ i ∧ RowsOk rows ∧ ρ = [.dat (ptrD q), .dat (.str ls), .dat (.list (ts.map .str)), .any, .dat (.int share), .dat (.list (ss.map .str)), .dat (fzD kvs), .dat (.int apart), .own (dT (rows.map rowE)), s9, s10, .any, .any, .any])
      (emi_rng1 (n := 1) (Pj := fun j => 0 ≤ j ∧ j ≤ 12 ∧ (ss = [] → j = 0)) ((eam_cons ((evm_op (evm_pick (k := 3) (B := PI 0 13) (eap_cons (evm_d ev_int ⟨_, rfl, by decide, by decide⟩) (eap_cons (evm_d ev_int ⟨_, rfl, by decide, by decide⟩) (eap_cons (evm_d ev_int ⟨_, rfl, by decide, by decide⟩) eap_nil))) (by decide) (evm_draw rfl hcs (ea_cons ev_int ea_nil) (by decide))) (evm (ev_cb (ea_cons (ev_op ev_v (ev_ls ea_nil) (od_neD (okEq_strs hso) okNil)) ea_nil) cl_intB)) (P := fun d => ∃ j : Int, d = .int j ∧ (0 ≤ j ∧ j ≤ 12 ∧ (ss = [] → j = 0))) fun x y hx hy => ?_)) eam_nil).imp (by decide) fun ds hds => ?_) (fun j hj => by omega)) (fun xs hxs => ?_) ⟨[], _, _, Nat.le_refl _, (fun r h => by cases h), rfl⟩ ?_ ?_)) (by decide) (fun _ h => h) (fun _ h => h)
    · obtain ⟨i, rfl, hi0, hi1⟩ := hx
      subst hy
      rw [eqv_strs]
      refine ⟨_, od_iC (.inl ⟨by omega, by omega⟩), _, rfl, ?_⟩
      by_cases q0 : ss = []
      · rw [decide_eq_true q0]
        refine ⟨?_, ?_, fun _ => ?_⟩ <;> simp
      · rw [decide_eq_false q0]
        refine ⟨?_, ?_, fun e => absurd e q0⟩ <;> simp <;> omega
    · obtain ⟨d1, es, rfl, ⟨j, rfl, hj⟩, rfl⟩ := hds
      exact ⟨j, rfl, hj⟩
    · obtain ⟨j, hj, rfl⟩ := hxs
      unfold rng1
      rw [List.length_map, List.length_range]
      omega
    · rintro xs i x ρi ⟨j, hj, rfl⟩ hx ⟨rows, s9, s10, hrl, hro, rfl⟩
      have hss : ss ≠ [] := fun e => by
        rw [hj.2.2 e] at hx
        cases hx
      have hpos : 0 < ss.length := List.length_pos_iff.mpr hss
      have hi12 : i < 12 := by
        have := (List.getElem?_eq_some_iff.mp hx).1
        unfold rng1 at this
        rw [List.length_map, List.length_range] at this
        omega
      have hPL : PL (ss.map PyData.str).length (fun d => ∃ s : Str, d = .str s ∧ Sok s) (ss.map PyData.str) := ⟨rfl, fun d hd => by
        obtain ⟨y, hy, rfl⟩ := List.mem_map.mp hd
        exact ⟨y, rfl, hso y hy⟩⟩
      have hml : (ss.map PyData.str).length = ss.length := List.length_map _
      refine ⟨_, eg_n, ?_⟩
      refine SvM.imp (n := 2 + 4) (svm_seq (n := 2) (m := 4) (svm_asg ((evm_tup (eam_cons (evm_pickL (n := 0) (evm_d ev_v ⟨_, rfl, hPL⟩) (evm_draw rfl hcs (ea_cons (ev_cb (ea_cons ev_v ea_nil) cl_lenL) ea_nil) (by omega))) (eam_cons (evm_pickL (n := 0) (evm_d ev_v ⟨_, rfl, hPL⟩) (evm_draw rfl hcs (ea_cons (ev_cb (ea_cons ev_v ea_nil) cl_lenL) ea_nil) (by omega))) eam_nil)) fun ds hds => ?_).imp (by decide) fun _ h => h) ?_)) (by decide) (fun _ h => h) (fun _ h => h)
      · obtain ⟨d1, es, rfl, _, d2, es2, rfl, _, rfl⟩ := hds
        exact ble16 rfl
      rintro d ⟨ds, rfl, d1, es, rfl, ⟨a, rfl, hao⟩, d2, es2, rfl, ⟨c2, rfl, hco⟩, rfl⟩
      refine svm_putT (i := 8) (es := rows.map rowE) (ks := [.inr a, .inr c2]) rfl (evm_call (F := spWorth) rfl hcs ea_nil ⟨rfl, rfl, fun d h => h⟩) ev_v (lt16 (by rw [List.length_map]; omega)) ?_
      rintro d ⟨v, rfl, _, _⟩
      obtain ⟨rows', e, hl', ho'⟩ := row_put (v := v) hro hao hco
      exact ⟨rows', _, _, by omega, ho', by rw [e]; rfl⟩
    · rintro xs ρ' ⟨j, hj, rfl⟩ ⟨rows, s9, s10, hrl, hro, rfl⟩
      have hj12 : (rng1 j).length ≤ 12 := by
        unfold rng1
        rw [List.length_map, List.length_range]
        omega
      obtain ⟨rs, hrs, hrp⟩ := srt_map rowK rows
      have hrsl : rs.length = rows.length := hrp.length_eq
      refine svm_froze (i := 8) rfl ?_
      refine SvM.imp (n := 0 + 36) (svm_seq (n := 0) (m := 36) (svm (sv_as (d := .tuple ((rs.map fun r => (r.1, r.2.1, rowV rows r)).map encPile)) (ev_cb (ea_cons (Ev.to (ev_lcM (is := [10]) rs rowK (fun r => encPile (r.1, r.2.1, rowV rows r)) (by decide) (ei_list (Ev.to (ev_cb (ea_cons ev_v ea_nil) (cl_sortDT (by rw [rows_keys]; exact sortD_rows rows (by omega)))) (show PyData.list _ = PyData.list (rs.map rowK) by rw [rows_keys, hrs]))) (le16 (by omega)) fun r hr => ⟨_, eg_n, ev_op ev_v (ev_tp (ea_cons (ev_getT (k := [.inr r.1, .inr r.2.1]) ev_v ev_v (rowV_at (hrp.mem_iff.mp hr))) ea_nil)) (od_catT (ds := [PyData.str r.1, PyData.str r.2.1]) (by simp) (ble16 rfl))⟩) (d' := .list ((rs.map fun r => (r.1, r.2.1, rowV rows r)).map encPile)) (by rw [List.map_map]; rfl)) ea_nil) cl_tupL) ?_))) (by decide) (fun _ h => h) (fun _ h => h)
      refine svm_ret ((evm_tup (eam_cons (evm ev_v) (eam_cons (evm ev_v) (eam_cons (evm ev_v) (eam_cons (evm_cb (P := fun d => ∃ zs : List Int, d = .tuple (zs.map .int) ∧ zs.length = 9) (eam_cons (evm_lc (n := 0) (m := 4) (k := 36) (is := [9]) (rng 0 9) .int (fun i acc => ∃ zs : List Int, acc = zs.map .int ∧ zs.length = i) (by decide) (ei_r1 (ea_cons ev_int ea_nil) (by decide)) (le16 (by rw [len_rng]; decide)) ⟨[], rfl, rfl⟩ (fun i x acc hx hacc => ⟨_, (· = true), eg_n, etm et_yes, fun _ => (evm_call (F := spWorth) rfl hcs ea_nil ⟨rfl, rfl, fun d h => h⟩).imp (Nat.le_refl _) fun d hd => ?_, fun h => nomatch h⟩) (by rw [len_rng]; decide)) eam_nil) fun ds hds => ?_) (eam_cons (evm ev_v) eam_nil))))) fun ds hds => ?_).imp (by decide) fun d hd => ?_)
      · obtain ⟨zs, rfl, hz⟩ := hacc
        obtain ⟨v, rfl, _, _⟩ := hd
        exact ⟨zs ++ [v], by rw [List.map_append]; rfl, by rw [List.length_append, hz]; rfl⟩
      · obtain ⟨d1, es, rfl, ⟨acc, rfl, zs, rfl, hz⟩, rfl⟩ := hds
        exact ⟨_, cl_tupL, zs, rfl, by rw [hz, len_rng]; rfl⟩
      · obtain ⟨d1, es, rfl, _, d2, es2, rfl, _, d3, es3, rfl, _, d4, es4, rfl, _, d5, es5, rfl, _, rfl⟩ := hds
        exact ble16 rfl
      · obtain ⟨ds, rfl, d1, es, rfl, rfl, d2, es2, rfl, rfl, d3, es3, rfl, rfl, d4, es4, rfl, ⟨zs, rfl, hz⟩, d5, es5, rfl, rfl, rfl⟩ := hd
        refine hP ⟨ls, kvs, apart, zs, rs.map fun r => (r.1, r.2.1, rowV rows r)⟩ ⟨by show ls.length ≤ 10; omega, by show kvs.length ≤ 100; omega, hz, by show (rs.map _).length ≤ 1000; rw [List.length_map]; omega, fun p hp => ?_, hlo⟩ ⟨hl1, by show ls.length ≤ 10; omega, hlo⟩
        obtain ⟨r, hr, rfl⟩ := List.mem_map.mp hp
        exact hro r (hrp.mem_iff.mp hr)
end
end Pf
set_option Elab.async false
set_option linter.all false
set_option maxRecDepth 100000
set_option maxHeartbeats 4000000
namespace Pf
open PySem L2
/-! ### foldings: all that are proper, each once -/
theorem mem_FL1 {m : Int → Int → Bool} {f e : Int} (h : f < e) {F : Fo} : F ∈ FL m f e ↔ F ∈ FL m (f + 1) e ∨ ∃ k, f + 1 ≤ k ∧ k < e ∧ m f k = true ∧ ∃ a ∈ FL m (f + 1) k, ∃ c ∈ FL m (k + 1) e, F = (f, k) :: (a ++ c) := by
  rw [mem_FL]
  constructor
  · rintro (⟨h1, rfl⟩ | ⟨_, h1⟩)
    · exact .inl (by rw [FL_small (by omega)]; exact List.mem_singleton.mpr rfl)
    · exact h1
  · intro h1
    by_cases h2 : e ≤ f + 1
    · rcases h1 with h1 | ⟨k, h3, h4, _⟩
      · rw [FL_small (by omega)] at h1
        exact .inl ⟨h2, List.mem_singleton.mp h1⟩
      · omega
    · exact .inr ⟨by omega, h1⟩
theorem nil_FL {m : Int → Int → Bool} (f e : Int) : [] ∈ FL m f e := List.mem_of_mem_head? (FL_head (m := m) f e ▸ rfl)
theorem split_at (k : Int) : ∀ r : Fo, r.Pairwise (fun p q => p.1 < q.1) → r = r.filter (fun q => decide (q.1 < k)) ++ r.filter (fun q => !decide (q.1 < k))
  | [], _ => rfl
  | p :: r, h => by
    obtain ⟨h1, h2⟩ := List.pairwise_cons.mp h
    by_cases q : p.1 < k
    · have ih := split_at k r h2
      simp only [List.filter_cons, q, decide_true, if_true, Bool.not_true]
      rw [List.cons_append]
      simpa using ih
    · have e1 : r.filter (fun q => decide (q.1 < k)) = [] := List.filter_eq_nil_iff.mpr fun x hx => by have := h1 x hx; simp; omega
      have e2 : r.filter (fun q => !decide (q.1 < k)) = r := List.filter_eq_self.mpr fun x hx => by have := h1 x hx; simp; omega
      simp only [List.filter_cons, q, decide_false, e1, e2, Bool.not_false, if_true]
      rfl
theorem flat_sub {α β : Type} (g : α → List β) {G F : List α} (hs : G.Sublist F) : (G.flatMap g).Sublist (F.flatMap g) := by
  induction hs with
  | slnil => exact List.Sublist.refl _
  | cons a _ ih => rw [List.flatMap_cons]; exact ih.trans (List.sublist_append_right _ _)
  | cons_cons a _ ih => rw [List.flatMap_cons, List.flatMap_cons]; exact (List.Sublist.refl _).append ih
theorem Proper.sub {f e f' e' : Int} {F G : Fo} (h : Proper f e F) (hs : G.Sublist F) (hr : ∀ p ∈ G, f' ≤ p.1 ∧ p.2 < e') : Proper f' e' G := ⟨fun p hp => by have := h.rg p (hs.subset hp); have := hr p hp; omega, h.up.sublist hs, h.ap.sublist (flat_sub _ hs), fun p hp q hq => h.nc p (hs.subset hp) q (hs.subset hq)⟩
theorem FL_all {m : Int → Int → Bool} : ∀ (f e : Int) (F : Fo), Proper f e F → (∀ p ∈ F, m p.1 p.2 = true) → F ∈ FL m f e := by
  refine FL_ind (m := m) (P := fun f e => ∀ F, Proper f e F → (∀ p ∈ F, m p.1 p.2 = true) → F ∈ FL m f e) (fun f e h F hF hm => ?_) (fun f e h ih F hF hm => ?_)
  · cases F with
    | nil => exact nil_FL f e
    | cons p r => have := hF.rg p List.mem_cons_self; omega
  · cases F with
    | nil => exact nil_FL f e
    | cons p r =>
      have hp := hF.rg p List.mem_cons_self
      obtain ⟨hu1, hu2⟩ := List.pairwise_cons.mp hF.up
      by_cases q : f < p.1
      · refine (mem_FL1 (by omega)).mpr (.inl (ih (f + 1) e (by omega) (by omega) _ ?_ hm))
        refine ⟨fun x hx => ?_, hF.up, hF.ap, hF.nc⟩
        have hx0 := hF.rg x hx
        rcases List.mem_cons.mp hx with rfl | hx
        · omega
        · have := hu1 x hx; omega
      · obtain ⟨p1, k⟩ := p
        have e0 : p1 = f := by have := hp.1; show p1 = f; simp only at this q; omega
        subst e0
        have hne : ∀ x ∈ r, x.1 ≠ k ∧ x.2 ≠ k := fun x hx => by
          have hn := hF.ap
          rw [List.flatMap_cons] at hn
          have := (List.nodup_append.mp hn).2.2 k (by simp)
          exact ⟨fun e => this x.1 (mem_places.mpr ⟨x, hx, .inl rfl⟩) e.symm, fun e => this x.2 (mem_places.mpr ⟨x, hx, .inr rfl⟩) e.symm⟩
        have hk : p1 < k ∧ k < e := ⟨hp.2.1, hp.2.2⟩
        refine (mem_FL1 (by omega)).mpr (.inr ⟨k, by omega, hk.2, hm _ List.mem_cons_self, r.filter (fun q => decide (q.1 < k)), ?_, r.filter (fun q => !decide (q.1 < k)), ?_, congrArg _ (split_at k r hu2)⟩)
        · refine ih (p1 + 1) k (by omega) (by omega) _ (hF.sub (List.filter_sublist.trans (List.sublist_cons_self _ _)) fun x hx => ?_) fun x hx => hm x (List.mem_cons_of_mem _ (List.mem_filter.mp hx).1)
          obtain ⟨hx1, hx2⟩ := List.mem_filter.mp hx
          have h1 := hu1 x hx1
          have h2 := hF.nc (p1, k) List.mem_cons_self x (List.mem_cons_of_mem _ hx1)
          have h3 := hne x hx1
          have h4 : x.1 < k := by simpa using hx2
          simp only at h1 h2
          omega
        · refine ih (k + 1) e (by omega) (by omega) _ (hF.sub (List.filter_sublist.trans (List.sublist_cons_self _ _)) fun x hx => ?_) fun x hx => hm x (List.mem_cons_of_mem _ (List.mem_filter.mp hx).1)
          obtain ⟨hx1, hx2⟩ := List.mem_filter.mp hx
          have h3 := hne x hx1
          have h4 : ¬ x.1 < k := by simpa using hx2
          have h5 := hF.rg x (List.mem_cons_of_mem _ hx1)
          omega
theorem FL_iff {m : Int → Int → Bool} {f e : Int} {F : Fo} : F ∈ FL m f e ↔ Proper f e F ∧ ∀ p ∈ F, m p.1 p.2 = true := ⟨FL_proper f e F, fun h => FL_all f e F h.1 h.2⟩
theorem nodup_flat {α β : Type} (f : α → List β) : ∀ xs : List α, (∀ x ∈ xs, (f x).Nodup) → xs.Pairwise (fun x y => ∀ z ∈ f x, z ∉ f y) → (xs.flatMap f).Nodup
  | [], _, _ => .nil
  | x :: xs, h, hp => by
    obtain ⟨h1, h2⟩ := List.pairwise_cons.mp hp
    rw [List.flatMap_cons]
    refine List.nodup_append.mpr ⟨h x List.mem_cons_self, nodup_flat f xs (fun y hy => h y (List.mem_cons_of_mem _ hy)) h2, fun a ha c hc e => ?_⟩
    subst e
    obtain ⟨y, hy, hc⟩ := List.mem_flatMap.mp hc
    exact h1 y hy a ha hc
theorem nodup_mapI {α β : Type} (f : α → β) : ∀ xs : List α, xs.Nodup → (∀ x ∈ xs, ∀ y ∈ xs, f x = f y → x = y) → (xs.map f).Nodup
  | [], _, _ => .nil
  | x :: xs, h, hi => by
    obtain ⟨h1, h2⟩ := List.nodup_cons.mp h
    rw [List.map_cons]
    refine List.nodup_cons.mpr ⟨fun hm => ?_, nodup_mapI f xs h2 fun a ha c hc => hi a (List.mem_cons_of_mem _ ha) c (List.mem_cons_of_mem _ hc)⟩
    obtain ⟨y, hy, e⟩ := List.mem_map.mp hm
    exact h1 (hi y (List.mem_cons_of_mem _ hy) x List.mem_cons_self e ▸ hy)
/-- two put one behind the other: where the places part, so do the foldings -/
theorem app_inj {k : Int} {a c a' c' : Fo} (ha : ∀ p ∈ a, p.1 < k) (ha' : ∀ p ∈ a', p.1 < k) (hc : ∀ p ∈ c, k ≤ p.1) (hc' : ∀ p ∈ c', k ≤ p.1) (h : a ++ c = a' ++ c') : a = a' ∧ c = c' := by
  have key : ∀ {a c : Fo}, (∀ p ∈ a, p.1 < k) → (∀ p ∈ c, k ≤ p.1) → (a ++ c).filter (fun q => decide (q.1 < k)) = a := fun {a c} ha hc => by
    rw [List.filter_append, List.filter_eq_self.mpr fun x hx => by simpa using ha x hx, List.filter_eq_nil_iff.mpr fun x hx => by have := hc x hx; simp; omega, List.append_nil]
  have e : a = a' := by rw [← key ha hc, h, key ha' hc']
  subst e
  exact ⟨rfl, List.append_cancel_left h⟩
theorem prod_nodup {k : Int} {As Cs : List Fo} (hA : As.Nodup) (hC : Cs.Nodup) (ha : ∀ a ∈ As, ∀ p ∈ a, p.1 < k) (hc : ∀ c ∈ Cs, ∀ p ∈ c, k ≤ p.1) (g : Fo → Fo) (hg : ∀ x y, g x = g y → x = y) : (As.flatMap fun a => Cs.map fun c => g (a ++ c)).Nodup := by
  refine nodup_flat _ _ (fun a ha' => nodup_mapI _ _ hC fun c hc1 c' hc2 e => ?_) (hA.imp_of_mem fun {a a'} ha1 ha2 hne z hz hz' => ?_)
  · exact (app_inj (ha a ha') (ha a ha') (hc c hc1) (hc c' hc2) (hg _ _ e)).2
  · obtain ⟨c, hc1, rfl⟩ := List.mem_map.mp hz
    obtain ⟨c', hc2, e⟩ := List.mem_map.mp hz'
    exact hne (app_inj (ha a ha1) (ha a' ha2) (hc c hc1) (hc c' hc2) (hg _ _ e.symm)).1
theorem FL_nodup {m : Int → Int → Bool} : ∀ (f e : Int), (FL m f e).Nodup := by
  refine FL_ind (m := m) (P := fun f e => (FL m f e).Nodup) (fun f e h => by rw [FL_small h]; simp) (fun f e h ih => ?_)
  rw [FL_step h]
  refine List.nodup_append.mpr ⟨ih (f + 1) e (by omega) (by omega), nodup_flat _ _ (fun k hk => ?_) ?_, fun x hx y hy e0 => ?_⟩
  · have hk := mem_rng.mp hk
    unfold grow
    split
    · refine prod_nodup (k := k) (g := fun x => (f, k) :: x) (ih (f + 1) k (by omega) (by omega)) (ih (k + 1) e (by omega) (by omega)) (fun a ha p hp => ?_) (fun c hc p hp => ?_) fun x y e => (List.cons.inj e).2
      · have := ((FL_proper _ _ a ha).1).rg p hp; omega
      · have := ((FL_proper _ _ c hc).1).rg p hp; omega
    · exact .nil
  · have : (rng (f + 1) e).Nodup := by
      unfold rng
      exact nodup_mapI _ _ List.nodup_range fun x _ y _ e => by omega
    refine this.imp fun {k k'} hne z hz hz' => ?_
    obtain ⟨_, a, _, c, _, rfl⟩ := mem_grow.mp hz
    obtain ⟨_, a', _, c', _, e⟩ := mem_grow.mp hz'
    exact hne (Prod.mk.inj (List.cons.inj e).1).2
  · subst e0
    obtain ⟨k, hk, hy⟩ := List.mem_flatMap.mp hy
    obtain ⟨_, a, _, c, _, rfl⟩ := mem_grow.mp hy
    have := ((FL_proper _ _ _ hx).1).rg (f, k) List.mem_cons_self
    simp only at this
    omega
theorem nodup_le {α : Type} [DecidableEq α] : ∀ (xs ys : List α), xs.Nodup → (∀ x ∈ xs, x ∈ ys) → xs.length ≤ ys.length
  | [], ys, _, _ => Nat.zero_le _
  | x :: xs, ys, h, hs => by
    obtain ⟨h1, h2⟩ := List.nodup_cons.mp h
    have hx := hs x List.mem_cons_self
    have := nodup_le xs (ys.erase x) h2 fun y hy => (List.mem_erase_of_ne (fun e => h1 (by rw [← e]; exact hy))).mpr (hs y (List.mem_cons_of_mem _ hy))
    rw [List.length_erase_of_mem hx] at this
    have := List.length_pos_of_mem hx
    rw [List.length_cons]
    omega
end Pf
set_option Elab.async false
set_option linter.all false
set_option maxRecDepth 100000
set_option maxHeartbeats 4000000
namespace Pf
open PySem L2
/-! ### straight within: how it goes over what is put together -/
theorem okIn_lo {x : Int} {l : Option Int} {p : Pr} (h : p.1 ≤ x) : okIn x l p = false := by
  unfold okIn
  rw [decide_eq_false (by omega), Bool.false_and]
theorem okIn_eq {x y : Int} {l : Option Int} {p : Pr} (h : x < p.1) (h2 : y < p.1) : okIn x l p = okIn y l p := by
  unfold okIn
  rw [decide_eq_true h, decide_eq_true h2]
theorem okIn_hi {x l : Int} {p : Pr} (h : l ≤ p.2) : okIn x (some l) p = false := by
  unfold okIn
  rw [show (some l).isNone = false from rfl, show (some l).getD 0 = l from rfl, decide_eq_false (show ¬ p.2 < l by omega), Bool.false_or, Bool.and_false]
theorem okIn_none {x l : Int} {p : Pr} (h : p.2 < l) : okIn x (some l) p = okIn x none p := by
  unfold okIn
  rw [show (some l).getD 0 = l from rfl, decide_eq_true h, Bool.or_true]
  rfl
theorem stw_low {l : Option Int} : ∀ {F : Fo} {x y : Int}, (∀ p ∈ F, x < p.1 ∧ y < p.1) → stw x l F = stw y l F
  | [], _, _, _ => rfl
  | p :: r, x, y, h => by
    have hp := h p List.mem_cons_self
    unfold stw
    rw [okIn_eq hp.1 hp.2, stw_low (F := r) fun q hq => h q (List.mem_cons_of_mem _ hq)]
theorem stw_skipL {l : Option Int} {x : Int} {C : Fo} : ∀ {A : Fo}, (∀ p ∈ A, p.1 ≤ x) → stw x l (A ++ C) = stw x l C
  | [], _ => rfl
  | p :: r, h => by
    rw [List.cons_append]
    show (if okIn x l p = true then _ else _) = _
    rw [okIn_lo (h p List.mem_cons_self), if_neg Bool.false_ne_true]
    exact stw_skipL fun q hq => h q (List.mem_cons_of_mem _ hq)
theorem stw_no {l : Int} : ∀ {C : Fo} {x : Int}, (∀ p ∈ C, l ≤ p.2) → stw x (some l) C = []
  | [], _, _ => rfl
  | p :: r, x, h => by
    unfold stw
    rw [okIn_hi (h p List.mem_cons_self), if_neg Bool.false_ne_true]
    exact stw_no fun q hq => h q (List.mem_cons_of_mem _ hq)
theorem stw_skipR {l : Int} {C : Fo} (hC : ∀ p ∈ C, l ≤ p.2) : ∀ {A : Fo} {x : Int}, stw x (some l) (A ++ C) = stw x (some l) A
  | [], _ => stw_no hC
  | p :: r, x => by
    rw [List.cons_append]
    show (if okIn x (some l) p = true then _ else _) = (if okIn x (some l) p = true then _ else _)
    rw [stw_skipR hC (A := r), stw_skipR hC (A := r)]
theorem stw_lim {l : Int} : ∀ {A : Fo} {x : Int}, (∀ p ∈ A, p.2 < l) → stw x (some l) A = stw x none A
  | [], _, _ => rfl
  | p :: r, x, h => by
    unfold stw
    rw [okIn_none (h p List.mem_cons_self), stw_lim (A := r) fun q hq => h q (List.mem_cons_of_mem _ hq), stw_lim (A := r) fun q hq => h q (List.mem_cons_of_mem _ hq)]
/-- the pairs that lie in no other -/
def top (F : Fo) : Fo := stw (-1) none F
theorem stw_app {k : Int} {C : Fo} (h0 : 0 ≤ k) (hC : ∀ p ∈ C, k ≤ p.1) : ∀ {A : Fo} {x : Int}, x < k → (∀ p ∈ A, p.2 < k) → stw x none (A ++ C) = stw x none A ++ top C
  | [], x, hx, _ => stw_low fun p hp => by have := hC p hp; omega
  | p :: r, x, hx, h => by
    have ih := fun x hx => stw_app h0 hC (A := r) (x := x) hx fun q hq => h q (List.mem_cons_of_mem _ hq)
    rw [List.cons_append]
    show (if okIn x none p = true then _ else _) = (if okIn x none p = true then _ else _) ++ _
    rw [ih _ (h p List.mem_cons_self), ih x hx]
    split <;> rfl
theorem stw_mv {n : Int} {l : Option Int} : ∀ {F : Fo} {x : Int}, stw (x + n) (l.map (· + n)) (moved F n) = moved (stw x l F) n
  | [], _ => rfl
  | p :: r, x => by
    have e : okIn (x + n) (l.map (· + n)) (p.1 + n, p.2 + n) = okIn x l p := by
      unfold okIn
      congr 1
      · exact decide_eq_decide.mpr (by omega)
      · cases l with
        | none => rfl
        | some l =>
          show (false || decide (p.2 + n < l + n)) = (false || decide (p.2 < l))
          congr 1
          exact decide_eq_decide.mpr (by omega)
    show (if okIn (x + n) (l.map (· + n)) (p.1 + n, p.2 + n) = true then (p.1 + n, p.2 + n) :: stw (p.2 + n) (l.map (· + n)) (moved r n) else stw (x + n) (l.map (· + n)) (moved r n)) = moved (if okIn x l p = true then p :: stw p.2 l r else stw x l r) n
    rw [e, stw_mv (F := r), stw_mv (F := r)]
    split <;> rfl
theorem top_mv {n : Int} (h0 : 0 ≤ n) {F : Fo} (h : ∀ p ∈ F, 0 ≤ p.1) : top (moved F n) = moved (top F) n := by
  unfold top
  rw [← stw_mv (l := none)]
  refine stw_low fun p hp => ?_
  unfold moved at hp
  obtain ⟨q, hq, rfl⟩ := List.mem_map.mp hp
  have := h q hq
  show -1 < q.1 + n ∧ -1 + n < q.1 + n
  omega
theorem straight_top (F : Fo) : straight F none = top F := rfl
/-! one pair, all within it, all behind it -/
section
variable {f k e : Int} {a c : Fo} (ha : Proper (f + 1) k a) (hc : Proper (k + 1) e c) (h0 : 0 ≤ f) (h1 : f < k)
include ha hc h0 h1
theorem top_cons : top ((f, k) :: (a ++ c)) = (f, k) :: top c := by
  have e1 : okIn (-1) none (f, k) = true := by unfold okIn; simp; omega
  show (if okIn (-1) none (f, k) = true then (f, k) :: stw k none (a ++ c) else _) = _
  rw [if_pos e1, stw_skipL fun p hp => by have := ha.rg p hp; omega]
  congr 1
  exact stw_low fun p hp => by have := hc.rg p hp; omega
theorem str_self : straight ((f, k) :: (a ++ c)) (some (f, k)) = top a := by
  show stw f (some k) ((f, k) :: (a ++ c)) = _
  have e1 : okIn f (some k) (f, k) = false := okIn_lo (Int.le_refl _)
  show (if okIn f (some k) (f, k) = true then _ else stw f (some k) (a ++ c)) = _
  rw [e1, if_neg Bool.false_ne_true, stw_skipR fun p hp => by have := hc.rg p hp; omega]
  rw [stw_lim fun p hp => by have := ha.rg p hp; omega]
  exact stw_low fun p hp => by have := ha.rg p hp; omega
theorem str_in {p : Pr} (hp : p ∈ a) : straight ((f, k) :: (a ++ c)) (some p) = straight a (some p) := by
  have h2 := ha.rg p hp
  show stw p.1 (some p.2) ([(f, k)] ++ (a ++ c)) = stw p.1 (some p.2) a
  rw [stw_skipL fun q hq => by rw [List.mem_singleton.mp hq]; show f ≤ p.1; omega, stw_skipR fun q hq => by have := hc.rg q hq; omega]
theorem str_be {p : Pr} (hp : p ∈ c) : straight ((f, k) :: (a ++ c)) (some p) = straight c (some p) := by
  have h2 := hc.rg p hp
  show stw p.1 (some p.2) ([(f, k)] ++ (a ++ c)) = stw p.1 (some p.2) c
  rw [stw_skipL fun q hq => by rw [List.mem_singleton.mp hq]; show f ≤ p.1; omega, stw_skipL fun q hq => by have := ha.rg q hq; omega]
end
/-- the worth of the pairs and of their loops -/
def bw (b : Book) (s : Str) (F : Fo) : Int := (F.map fun p => pwI b s p + loopW b s F p).sum
/-- one pair, its loop and all within it -/
def sh (b : Book) (s : Str) (p : Pr) (a : Fo) : Int := pwI b s p + loopK b s p (top a) (free p (top a)) + bw b s a
theorem sum_add (f g : Pr → Int) : ∀ F : Fo, (F.map fun p => f p + g p).sum = (F.map f).sum + (F.map g).sum
  | [] => rfl
  | p :: r => by
    have := sum_add f g r
    rw [List.map_cons, List.map_cons, List.map_cons, List.sum_cons, List.sum_cons, List.sum_cons]
    omega
theorem worthOf_bw (b : Book) (s : Str) (F : Fo) : worthOf b s F = bw b s F + cost b 8 * (top F).length := by
  unfold worthOf bw
  rw [sum_add]
  rfl
theorem bw_nil (b : Book) (s : Str) : bw b s [] = 0 := rfl
theorem map_sum_congr {f g : Pr → Int} {F : Fo} (h : ∀ p ∈ F, f p = g p) : (F.map f).sum = (F.map g).sum := by rw [List.map_congr_left h]
theorem loopW_eq {b : Book} {s : Str} {F G : Fo} {p : Pr} (h : straight F (some p) = straight G (some p)) : loopW b s F p = loopW b s G p := by
  unfold loopW
  rw [h]
theorem bw_cons {b : Book} {s : Str} {f k e : Int} {a c : Fo} (ha : Proper (f + 1) k a) (hc : Proper (k + 1) e c) (h0 : 0 ≤ f) (h1 : f < k) : bw b s ((f, k) :: (a ++ c)) = sh b s (f, k) a + bw b s c := by
  unfold bw sh
  rw [List.map_cons, List.sum_cons, List.map_append, List.sum_append]
  rw [map_sum_congr (F := a) fun p hp => by rw [loopW_eq (str_in ha hc h0 h1 hp)], map_sum_congr (F := c) fun p hp => by rw [loopW_eq (str_be ha hc h0 h1 hp)]]
  have e1 : loopW b s ((f, k) :: (a ++ c)) (f, k) = loopK b s (f, k) (top a) (free (f, k) (top a)) := by
    unfold loopW
    rw [str_self ha hc h0 h1]
  rw [e1]
  unfold bw
  omega
end Pf
set_option Elab.async false
set_option linter.all false
set_option maxRecDepth 100000
set_option maxHeartbeats 4000000
namespace Pf
open PySem L2
/-! ### two words side by side -/
theorem str_ext {x y : Str} (h : x.cps.toList = y.cps.toList) : x = y := PySem.W.str_of_cps h
theorem cps_app (s s2 : Str) : (s ++ s2).cps.toList = s.cps.toList ++ s2.cps.toList := by
  show (s.cps ++ s2.cps).toList = _
  rw [Array.toList_append]
theorem len_app (s s2 : Str) : ((s ++ s2).length : Int) = s.length + s2.length := by
  rw [← len_cps, cps_app, List.length_append, len_cps, len_cps]
  push_cast
  rfl
theorem app_emp {s s2 : Str} (h : s2.length = 0) : s ++ s2 = s := str_ext (by
  rw [cps_app, List.eq_nil_of_length_eq_zero (l := s2.cps.toList) (by rw [len_cps]; exact h), List.append_nil])
theorem emp_app {s s2 : Str} (h : s.length = 0) : s ++ s2 = s2 := str_ext (by
  rw [cps_app, List.eq_nil_of_length_eq_zero (l := s.cps.toList) (by rw [len_cps]; exact h), List.nil_append])
theorem ch_app1 {s s2 : Str} {i : Int} (h0 : 0 ≤ i) (h1 : i < s.length) : ch (s ++ s2) i = ch s i := by
  have hl := len_cps s
  unfold ch
  rw [cps_app, List.getD_eq_getElem?_getD, List.getD_eq_getElem?_getD, List.getElem?_append_left (by omega)]
theorem ch_app2 {s s2 : Str} {i : Int} (h0 : 0 ≤ i) : ch (s ++ s2) (i + s.length) = ch s2 i := by
  have hl := len_cps s
  unfold ch
  rw [cps_app, List.getD_eq_getElem?_getD, List.getD_eq_getElem?_getD, List.getElem?_append_right (by omega)]
  congr 2
  omega
theorem both_app1 {s s2 : Str} {i j : Int} (h0 : 0 ≤ i) (h1 : i < s.length) (h2 : 0 ≤ j) (h3 : j < s.length) : both (s ++ s2) i j = both s i j := by
  unfold both
  rw [ch_app1 h0 h1, ch_app1 h2 h3]
theorem both_app2 {s s2 : Str} {i j : Int} (h0 : 0 ≤ i) (h2 : 0 ≤ j) : both (s ++ s2) (i + s.length) (j + s.length) = both s2 i j := by
  unfold both
  rw [ch_app2 h0, ch_app2 h2]
theorem mp_app1 {b : Book} {s s2 : Str} {i j : Int} (h0 : 0 ≤ i) (h1 : i < s.length) (h2 : 0 ≤ j) (h3 : j < s.length) : mp b (s ++ s2) i j = mp b s i j := by
  unfold mp
  rw [both_app1 h0 h1 h2 h3]
theorem mp_app2 {b : Book} {s s2 : Str} {i j : Int} (h0 : 0 ≤ i) (h2 : 0 ≤ j) : mp b (s ++ s2) (i + s.length) (j + s.length) = mp b s2 i j := by
  unfold mp
  rw [both_app2 h0 h2, show j + (s.length : Int) - (i + s.length) = j - i by omega]
theorem mem_mv {F : Fo} {n : Int} {p : Pr} : p ∈ moved F n ↔ ∃ q ∈ F, p = (q.1 + n, q.2 + n) := by
  unfold moved
  rw [List.mem_map]
  exact ⟨fun ⟨q, h, e⟩ => ⟨q, h, e.symm⟩, fun ⟨q, h, e⟩ => ⟨q, h, e.symm⟩⟩
theorem Proper.mv {f e n : Int} {F : Fo} (h : Proper f e F) : Proper (f + n) (e + n) (moved F n) := by
  refine ⟨fun p hp => ?_, ?_, ?_, fun p hp q hq => ?_⟩
  · obtain ⟨q, hq, rfl⟩ := mem_mv.mp hp
    have := h.rg q hq
    show f + n ≤ q.1 + n ∧ q.1 + n < q.2 + n ∧ q.2 + n < e + n
    omega
  · unfold moved
    rw [List.pairwise_map]
    exact h.up.imp fun {p q} hpq => by show p.1 + n < q.1 + n; omega
  · have e : (moved F n).flatMap (fun p => [p.1, p.2]) = (F.flatMap fun p => [p.1, p.2]).map (· + n) := by
      unfold moved
      rw [List.flatMap_map, List.map_flatMap]
      rfl
    rw [e]
    exact nodup_mapI _ _ h.ap fun x _ y _ e => by omega
  · obtain ⟨p', hp', rfl⟩ := mem_mv.mp hp
    obtain ⟨q', hq', rfl⟩ := mem_mv.mp hq
    have := h.nc p' hp' q' hq'
    show ¬ (p'.1 + n < q'.1 + n ∧ q'.1 + n < p'.2 + n ∧ p'.2 + n < q'.2 + n)
    omega
theorem mv_len (F : Fo) (n : Int) : (moved F n).length = F.length := List.length_map _
theorem loopK_congr {b : Book} {s s' : Str} {p p' : Pr} {G G' : Fo} {f : Int} (h : both s p.1 p.2 = both s' p'.1 p'.2) (hl : G.length = G'.length) (hh : G ≠ [] → both s (hd0 G).1 (hd0 G).2 = both s' (hd0 G').1 (hd0 G').2) : loopK b s p G f = loopK b s' p' G' f := by
  unfold loopK
  rw [h, hl]
  by_cases e : G = []
  · subst e
    have : G' = [] := List.eq_nil_of_length_eq_zero hl.symm
    subst this
    rfl
  · have e' : G' ≠ [] := fun e' => by subst e'; exact e (List.eq_nil_of_length_eq_zero hl)
    rw [if_neg e, if_neg e', hh e]
theorem free_mv (p : Pr) (G : Fo) (n : Int) : free (p.1 + n, p.2 + n) (moved G n) = free p G := by
  unfold free moved
  rw [List.map_map]
  have : (G.map ((fun q : Pr => q.2 - q.1 + 1) ∘ fun p => (p.1 + n, p.2 + n))) = G.map fun q => q.2 - q.1 + 1 := List.map_congr_left fun q _ => by
    show q.2 + n - (q.1 + n) + 1 = _
    omega
  rw [this]
  show p.2 + n - (p.1 + n) - 1 - _ = _
  omega
theorem hd0_mem {G : Fo} (h : G ≠ []) : hd0 G ∈ G := by
  cases G with
  | nil => exact absurd rfl h
  | cons p r => exact List.mem_cons_self
theorem hd0_mv {G : Fo} {n : Int} (h : G ≠ []) : hd0 (moved G n) = ((hd0 G).1 + n, (hd0 G).2 + n) := by
  cases G with
  | nil => exact absurd rfl h
  | cons p r => rfl
section
variable {b : Book} {s s2 : Str} {A C : Fo} (hA : Proper 0 s.length A) (hC : Proper 0 s2.length C)
include hA hC
theorem side_proper : Proper 0 (s ++ s2).length (A ++ moved C s.length) := by
  rw [len_app]
  have := hC.mv (n := s.length)
  rw [Int.zero_add, Int.add_comm] at this
  exact hA.app this (by omega) (by omega)
theorem side_str1 {p : Pr} (hp : p ∈ A) : straight (A ++ moved C s.length) (some p) = straight A (some p) := by
  have h2 := hA.rg p hp
  show stw p.1 (some p.2) (A ++ moved C s.length) = stw p.1 (some p.2) A
  exact stw_skipR fun q hq => by
    obtain ⟨q', hq', rfl⟩ := mem_mv.mp hq
    have := hC.rg q' hq'
    show p.2 ≤ q'.2 + s.length
    omega
theorem side_str2 {p : Pr} (hp : p ∈ C) : straight (A ++ moved C s.length) (some (p.1 + s.length, p.2 + s.length)) = moved (straight C (some p)) s.length := by
  have h2 := hC.rg p hp
  show stw (p.1 + s.length) (some (p.2 + s.length)) (A ++ moved C s.length) = moved (stw p.1 (some p.2) C) s.length
  rw [stw_skipL fun q hq => by have := hA.rg q hq; omega, ← stw_mv]
  rfl
theorem side_top : top (A ++ moved C s.length) = top A ++ moved (top C) s.length := by
  unfold top
  rw [stw_app (k := s.length) (by omega) (fun p hp => by
    obtain ⟨q', hq', rfl⟩ := mem_mv.mp hp
    have := hC.rg q' hq'
    show (s.length : Int) ≤ q'.1 + s.length
    omega) (by omega) fun p hp => by have := hA.rg p hp; omega]
  congr 1
  exact top_mv (by omega) fun p hp => by have := hC.rg p hp; omega
theorem side_bw : bw b (s ++ s2) (A ++ moved C s.length) = bw b s A + bw b s2 C := by
  unfold bw
  rw [List.map_append, List.sum_append]
  congr 1
  · refine map_sum_congr fun p hp => ?_
    have h2 := hA.rg p hp
    have e1 : both (s ++ s2) p.1 p.2 = both s p.1 p.2 := both_app1 (by omega) (by omega) (by omega) (by omega)
    unfold pwI loopW
    rw [e1, side_str1 hA hC hp, loopK_congr (s' := s) (p' := p) (G' := straight A (some p)) e1 rfl fun hne => ?_]
    have h3 := hA.rg _ (straight_sub A (some p) _ (hd0_mem hne))
    exact both_app1 (by omega) (by omega) (by omega) (by omega)
  · unfold moved
    rw [List.map_map]
    refine map_sum_congr fun p hp => ?_
    have h2 := hC.rg p hp
    have e1 : both (s ++ s2) (p.1 + s.length) (p.2 + s.length) = both s2 p.1 p.2 := both_app2 (by omega) (by omega)
    have e2 := side_str2 hA hC hp
    show pwI b (s ++ s2) (p.1 + s.length, p.2 + s.length) + loopW b (s ++ s2) (A ++ moved C s.length) (p.1 + s.length, p.2 + s.length) = _
    unfold pwI loopW
    rw [e2, free_mv]
    show (pw b (both (s ++ s2) (p.1 + s.length) (p.2 + s.length))).getD 0 + _ = _
    rw [e1, loopK_congr (s' := s2) (p' := p) (G' := straight C (some p)) e1 (mv_len _ _) fun hne => ?_]
    have hne' : straight C (some p) ≠ [] := fun e => hne (by rw [e]; rfl)
    have h3 := hC.rg _ (straight_sub C (some p) _ (hd0_mem hne'))
    rw [hd0_mv hne']
    exact both_app2 (by omega) (by omega)
theorem side_worth : worthOf b (s ++ s2) (A ++ moved C s.length) = worthOf b s A + worthOf b s2 C := by
  rw [worthOf_bw, worthOf_bw, worthOf_bw, side_bw hA hC, side_top hA hC, List.length_append, mv_len]
  push_cast
  rw [Int.mul_add]
  omega
theorem side_nick : nick s.length (A ++ moved C s.length) = none := by
  unfold nick
  rw [List.filter_eq_nil_iff.mpr fun p hp => ?_]
  · rfl
  · rcases List.mem_append.mp hp with hp | hp
    · have := hA.rg p hp
      simp
      omega
    · obtain ⟨q', hq', rfl⟩ := mem_mv.mp hp
      have := hC.rg q' hq'
      simp
      omega
end
theorem mp_mh {b : Book} {s : Str} {i j : Int} : mp b s i j = true ↔ mh b s i j = true ∧ b.span < j - i := by
  unfold mp mh
  rw [Bool.and_eq_true, decide_eq_true_iff]
  exact And.comm
theorem held_of_mp {b : Book} {n : Int} {s : Str} {F : Fo} (h : ∀ p ∈ F, mp b s p.1 p.2 = true) : heldB b n F = true := by
  unfold heldB
  rw [List.all_eq_true]
  intro p hp
  exact decide_eq_true (mp_mh.mp (h p (List.mem_filter.mp hp).1)).2
theorem mp_of_held {b : Book} {n : Int} {s : Str} {F : Fo} (hn : nick n F = none) (hh : heldB b n F = true) (h : ∀ p ∈ F, mh b s p.1 p.2 = true) : ∀ p ∈ F, mp b s p.1 p.2 = true := fun p hp => by
  refine mp_mh.mpr ⟨h p hp, ?_⟩
  unfold heldB at hh
  rw [hn, List.all_eq_true] at hh
  have := hh p (List.mem_filter.mpr ⟨hp, by simp⟩)
  simpa using this
theorem mem_held {b : Book} {s s2 : Str} {F : Fo} : F ∈ heldKs b s s2 ↔ F ∈ FL (mh b (s ++ s2)) 0 (s ++ s2).length ∧ heldB b s.length F = true := by
  unfold heldKs
  rw [(sortF_perm _).mem_iff, List.mem_filter]
theorem mem_fold {b : Book} {s : Str} {F : Fo} : F ∈ foldKs b s ↔ F ∈ FL (mp b s) 0 s.length := by
  unfold foldKs
  rw [(sortF_perm _).mem_iff]
theorem len_fold (b : Book) (s : Str) : (foldKs b s).length = (FL (mp b s) 0 s.length).length := (sortF_perm _).length_eq
theorem held_nodup (b : Book) (s s2 : Str) : (heldKs b s s2).Nodup := by
  unfold heldKs
  exact (sortF_perm _).nodup_iff.mpr (FL_nodup _ _ |>.filter _)
theorem word_held {b : Book} {s s2 : Str} {F : Fo} (h : F ∈ FL (mp b (s ++ s2)) 0 (s ++ s2).length) : F ∈ heldKs b s s2 := by
  obtain ⟨h1, h2⟩ := FL_iff.mp h
  exact mem_held.mpr ⟨FL_iff.mpr ⟨h1, fun p hp => (mp_mh.mp (h2 p hp)).1⟩, held_of_mp h2⟩
theorem side_mp {b : Book} {s s2 : Str} {A C : Fo} (hA : A ∈ FL (mp b s) 0 s.length) (hC : C ∈ FL (mp b s2) 0 s2.length) : A ++ moved C s.length ∈ FL (mp b (s ++ s2)) 0 (s ++ s2).length := by
  obtain ⟨a1, a2⟩ := FL_iff.mp hA
  obtain ⟨c1, c2⟩ := FL_iff.mp hC
  refine FL_iff.mpr ⟨side_proper a1 c1, fun p hp => ?_⟩
  rcases List.mem_append.mp hp with hp | hp
  · have := a1.rg p hp
    rw [mp_app1 (by omega) (by omega) (by omega) (by omega)]
    exact a2 p hp
  · obtain ⟨q, hq, rfl⟩ := mem_mv.mp hp
    have := c1.rg q hq
    show mp b (s ++ s2) (q.1 + s.length) (q.2 + s.length) = true
    rw [mp_app2 (by omega) (by omega)]
    exact c2 q hq
theorem mv_inj {n : Int} : ∀ {x y : Fo}, moved x n = moved y n → x = y
  | [], [], _ => rfl
  | [], _ :: _, h => by cases h
  | _ :: _, [], h => by cases h
  | p :: x, q :: y, h => by
    obtain ⟨h1, h2⟩ := List.cons.inj h
    have h3 := Prod.mk.inj h1
    rw [mv_inj h2, show p = q from Prod.ext (by have := h3.1; omega) (by have := h3.2; omega)]
theorem many_word (b : Book) (s s2 : Str) : (FL (mp b (s ++ s2)) 0 (s ++ s2).length).length ≤ (heldKs b s s2).length := nodup_le _ _ (FL_nodup _ _) fun F hF => word_held hF
theorem many_side (b : Book) (s s2 : Str) : (FL (mp b s) 0 s.length).length * (FL (mp b s2) 0 s2.length).length ≤ (heldKs b s s2).length := by
  have e : ((FL (mp b s) 0 s.length).flatMap fun a => ((FL (mp b s2) 0 s2.length).map fun c => moved c s.length).map fun c => id (a ++ c)).length = (FL (mp b s) 0 s.length).length * (FL (mp b s2) 0 s2.length).length := by
    rw [List.length_flatMap]
    simp only [List.length_map]
    induction FL (mp b s) 0 s.length with
    | nil => simp
    | cons a r ih => rw [List.map_cons, List.sum_cons, ih, List.length_cons, Nat.succ_mul]; omega
  rw [← e]
  refine nodup_le _ _ (prod_nodup (k := s.length) (FL_nodup _ _) (nodup_mapI _ _ (FL_nodup _ _) fun x _ y _ e => mv_inj e) (fun a ha p hp => ?_) (fun c hc p hp => ?_) id fun x y e => e) fun F hF => ?_
  · have := ((FL_proper _ _ a ha).1).rg p hp; omega
  · obtain ⟨c', hc', rfl⟩ := List.mem_map.mp hc
    obtain ⟨q, hq, rfl⟩ := mem_mv.mp hp
    have := ((FL_proper _ _ c' hc').1).rg q hq
    show (s.length : Int) ≤ q.1 + s.length
    omega
  · obtain ⟨a, ha, hF⟩ := List.mem_flatMap.mp hF
    obtain ⟨c, hc, rfl⟩ := List.mem_map.mp hF
    obtain ⟨c', hc', rfl⟩ := List.mem_map.mp hc
    exact word_held (side_mp ha hc')
/-- with nothing on one side -/
theorem edge_nick {F : Fo} {n N : Int} (h : Proper 0 N F) (hn : n = 0 ∨ n = N) : nick n F = none := by
  unfold nick
  rw [List.filter_eq_nil_iff.mpr fun p hp => ?_]
  · rfl
  · have := h.rg p hp
    simp
    omega
theorem mem_edge {b : Book} {s s2 : Str} (h : s.length = 0 ∨ s2.length = 0) {F : Fo} : F ∈ heldKs b s s2 ↔ F ∈ FL (mp b (s ++ s2)) 0 (s ++ s2).length := by
  refine ⟨fun hF => ?_, word_held⟩
  obtain ⟨h1, h2⟩ := mem_held.mp hF
  obtain ⟨h3, h4⟩ := FL_iff.mp h1
  refine FL_iff.mpr ⟨h3, mp_of_held (edge_nick h3 ?_) h2 h4⟩
  have := len_app s s2
  omega
theorem len_edge {b : Book} {s s2 : Str} (h : s.length = 0 ∨ s2.length = 0) : (heldKs b s s2).length = (FL (mp b (s ++ s2)) 0 (s ++ s2).length).length :=
  Nat.le_antisymm (nodup_le _ _ (held_nodup b s s2) fun F hF => (mem_edge h).mp hF) (many_word b s s2)
theorem heldW_eq {b : Book} {s s2 : Str} {F : Fo} (hn : nick s.length F = none) : heldW b s s2 F = worthOf b (s ++ s2) F := by
  rw [worthOf_bw]
  unfold heldW
  rw [straight_top, map_sum_congr (F := F) (g := fun p => pwI b (s ++ s2) p + loopW b (s ++ s2) F p) fun p hp => by unfold heldP; rw [hn, if_neg (by simp)]]
  unfold bw
  omega
/-! the least of the held -/
theorem lt_T {b : Book} {s s2 : Str} {F G : Fo} : (PySem.W.dataLt (encT b s s2 G) (encT b s s2 F) = true → heldW b s s2 G ≤ heldW b s s2 F) ∧ (¬ PySem.W.dataLt (encT b s s2 G) (encT b s s2 F) = true → heldW b s s2 F ≤ heldW b s s2 G) := by
  have e := PySem.W.dataLt_pair (x := .int (heldW b s s2 G)) (x' := .int (heldW b s s2 F)) (y := encF G) (y' := encF F) (by simp [PySem.W.alike]) (alike_F G F)
  have e2 : PyData.eqv (.int (heldW b s s2 G)) (.int (heldW b s s2 F)) = decide (heldW b s s2 G = heldW b s s2 F) := by
    rw [Bool.eq_iff_iff]
    simp [PyData.eqv]
  unfold encT
  rw [e, e2, PySem.W.dataLt_int]
  by_cases h : heldW b s s2 G = heldW b s s2 F
  · exact ⟨fun _ => by omega, fun _ => by omega⟩
  · rw [decide_eq_false h, if_neg Bool.false_ne_true]
    simp
    omega
theorem minF_least {b : Book} {s s2 : Str} : ∀ (Fs : List Fo) (F : Fo), minF b s s2 (F :: Fs) ∈ F :: Fs ∧ ∀ G ∈ F :: Fs, heldW b s s2 (minF b s s2 (F :: Fs)) ≤ heldW b s s2 G
  | [], F => ⟨List.mem_cons_self, fun G hG => by rw [List.mem_singleton.mp hG]; exact Int.le_refl _⟩
  | G :: Fs, F => by
    have e : minF b s s2 (F :: G :: Fs) = minF b s s2 ((if PySem.W.dataLt (encT b s s2 G) (encT b s s2 F) = true then G else F) :: Fs) := rfl
    have h := lt_T (b := b) (s := s) (s2 := s2) (F := F) (G := G)
    rw [e]
    by_cases q : PySem.W.dataLt (encT b s s2 G) (encT b s s2 F) = true
    · rw [if_pos q]
      obtain ⟨h1, h2⟩ := minF_least Fs G
      refine ⟨List.mem_cons_of_mem _ h1, fun x hx => ?_⟩
      rcases List.mem_cons.mp hx with rfl | hx
      · exact Int.le_trans (h2 G List.mem_cons_self) (h.1 q)
      · exact h2 x hx
    · rw [if_neg q]
      obtain ⟨h1, h2⟩ := minF_least Fs F
      refine ⟨?_, fun x hx => ?_⟩
      · rcases List.mem_cons.mp h1 with h1 | h1
        · rw [h1]; exact List.mem_cons_self
        · exact List.mem_cons_of_mem _ (List.mem_cons_of_mem _ h1)
      · rcases List.mem_cons.mp hx with rfl | hx
        · exact h2 _ List.mem_cons_self
        · rcases List.mem_cons.mp hx with rfl | hx
          · exact Int.le_trans (h2 F List.mem_cons_self) (h.2 q)
          · exact h2 x (List.mem_cons_of_mem _ hx)
theorem leastF_ok (b : Book) (s s2 : Str) : leastF b s s2 ∈ heldKs b s s2 ∧ ∀ G ∈ heldKs b s s2, heldW b s s2 (leastF b s s2) ≤ heldW b s s2 G := by
  have hne := heldKs_ne b s s2
  unfold leastF
  cases q : heldKs b s s2 with
  | nil => exact absurd q hne
  | cons F Fs => exact minF_least Fs F
end Pf
set_option Elab.async false
set_option linter.all false
set_option maxRecDepth 100000
set_option maxHeartbeats 4000000
namespace Pf
open PySem L2
/-! ### what each row of the table stands for -/
def un (f l : Int) (G : Fo) : Int := l - f + 1 - (G.map fun q => q.2 - q.1 + 1).sum
def VSs (b : Book) (s : Str) (f l x : Int) : Prop := mp b s f l = true ∧ ∃ a ∈ FL (mp b s) (f + 1) l, x = sh b s (f, l) a
def VSm (b : Book) (s : Str) (j : Nat) (f l x : Int) : Prop := ∃ a ∈ FL (mp b s) f (l + 1), j ≤ (top a).length ∧ x = (top a).length * cost b 4 + un f l (top a) * cost b 5 + bw b s a
def VSo (b : Book) (s : Str) (f l x : Int) : Prop := ∃ a ∈ FL (mp b s) f (l + 1), x = cost b 8 * (top a).length + bw b s a
theorem top_nil : top [] = [] := rfl
theorem top_zero {f e : Int} {a : Fo} (h : Proper f e a) (h0 : 0 ≤ f) (hz : (top a).length = 0) : a = [] := by
  cases a with
  | nil => rfl
  | cons p r =>
    have := h.rg p List.mem_cons_self
    have e1 : okIn (-1) none p = true := by unfold okIn; simp; omega
    have : top (p :: r) = p :: stw p.2 none r := if_pos e1
    rw [this] at hz
    cases hz
theorem un_cons (f k l : Int) (G : Fo) : un f l ((f, k) :: G) = un (k + 1) l G := by
  unfold un
  rw [List.map_cons, List.sum_cons]
  show l - f + 1 - (k - f + 1 + _) = _
  omega
theorem un_next (f l : Int) (G : Fo) : un f l G = un (f + 1) l G + 1 := by unfold un; omega
section
variable {b : Book} {s : Str} {f l x : Int} {j : Nat}
theorem row_m (h0 : 0 ≤ f) (hfl : f ≤ l) : VSm b s j f l x ↔ VSm b s j (f + 1) l (x - cost b 5) ∨ ∃ k, f + 1 ≤ k ∧ k < l + 1 ∧ ∃ v u, VSs b s f k v ∧ VSm b s (j - 1) (k + 1) l u ∧ x = cost b 4 + v + u := by
  constructor
  · rintro ⟨F, hF, hj, rfl⟩
    rcases (mem_FL1 (by omega)).mp hF with hF | ⟨k, h1, h2, hm, a, ha, c, hc, rfl⟩
    · refine .inl ⟨F, hF, hj, ?_⟩
      rw [un_next, Int.add_mul]
      omega
    · have pa := (FL_proper _ _ a ha).1
      have pc := (FL_proper _ _ c hc).1
      rw [top_cons pa pc h0 (by omega)] at hj ⊢
      rw [bw_cons pa pc h0 (by omega), un_cons, List.length_cons] at *
      refine .inr ⟨k, h1, h2, _, _, ⟨hm, a, ha, rfl⟩, ⟨c, hc, by omega, rfl⟩, ?_⟩
      push_cast
      rw [Int.add_mul]
      omega
  · rintro (⟨F, hF, hj, e⟩ | ⟨k, h1, h2, v, u, ⟨hm, a, ha, rfl⟩, ⟨c, hc, hj, rfl⟩, rfl⟩)
    · refine ⟨F, (mem_FL1 (by omega)).mpr (.inl hF), hj, ?_⟩
      rw [un_next, Int.add_mul]
      omega
    · have pa := (FL_proper _ _ a ha).1
      have pc := (FL_proper _ _ c hc).1
      refine ⟨(f, k) :: (a ++ c), (mem_FL1 (by omega)).mpr (.inr ⟨k, h1, h2, hm, a, ha, c, hc, rfl⟩), ?_, ?_⟩
      · rw [top_cons pa pc h0 (by omega), List.length_cons]
        omega
      · rw [top_cons pa pc h0 (by omega), bw_cons pa pc h0 (by omega), un_cons, List.length_cons]
        push_cast
        rw [Int.add_mul]
        omega
theorem row_o (h0 : 0 ≤ f) (hfl : f ≤ l) : VSo b s f l x ↔ VSo b s (f + 1) l x ∨ ∃ k, f + 1 ≤ k ∧ k < l + 1 ∧ ∃ v u, VSs b s f k v ∧ VSo b s (k + 1) l u ∧ x = cost b 8 + v + u := by
  constructor
  · rintro ⟨F, hF, rfl⟩
    rcases (mem_FL1 (by omega)).mp hF with hF | ⟨k, h1, h2, hm, a, ha, c, hc, rfl⟩
    · exact .inl ⟨F, hF, rfl⟩
    · have pa := (FL_proper _ _ a ha).1
      have pc := (FL_proper _ _ c hc).1
      rw [top_cons pa pc h0 (by omega), bw_cons pa pc h0 (by omega), List.length_cons]
      refine .inr ⟨k, h1, h2, _, _, ⟨hm, a, ha, rfl⟩, ⟨c, hc, rfl⟩, ?_⟩
      push_cast
      rw [Int.mul_add]
      omega
  · rintro (⟨F, hF, e⟩ | ⟨k, h1, h2, v, u, ⟨hm, a, ha, rfl⟩, ⟨c, hc, rfl⟩, rfl⟩)
    · exact ⟨F, (mem_FL1 (by omega)).mpr (.inl hF), e⟩
    · have pa := (FL_proper _ _ a ha).1
      have pc := (FL_proper _ _ c hc).1
      refine ⟨(f, k) :: (a ++ c), (mem_FL1 (by omega)).mpr (.inr ⟨k, h1, h2, hm, a, ha, c, hc, rfl⟩), ?_⟩
      rw [top_cons pa pc h0 (by omega), bw_cons pa pc h0 (by omega), List.length_cons]
      push_cast
      rw [Int.mul_add]
      omega
theorem row_o0 (h : l < f) : VSo b s f l x ↔ x = 0 := by
  unfold VSo
  rw [FL_small (by omega)]
  constructor
  · rintro ⟨F, hF, rfl⟩
    rw [List.mem_singleton.mp hF, top_nil, bw_nil]
    simp
  · rintro rfl
    exact ⟨[], List.mem_singleton.mpr rfl, by rw [top_nil, bw_nil]; simp⟩
theorem row_none (h : l < f) (hj : 1 ≤ j) : ¬ VSm b s j f l x := by
  rintro ⟨F, hF, h1, _⟩
  rw [FL_small (by omega)] at hF
  rw [List.mem_singleton.mp hF, top_nil] at h1
  simp at h1
  omega
theorem m_zero (h0 : 0 ≤ f) : VSm b s 0 f l x ↔ x = (l - f + 1) * cost b 5 ∨ VSm b s 1 f l x := by
  constructor
  · rintro ⟨F, hF, _, rfl⟩
    by_cases q : (top F).length = 0
    · have := top_zero (FL_proper _ _ F hF).1 h0 q
      subst this
      exact .inl (by rw [top_nil, bw_nil]; unfold un; simp)
    · exact .inr ⟨F, hF, by omega, rfl⟩
  · rintro (rfl | ⟨F, hF, _, rfl⟩)
    · exact ⟨[], nil_FL _ _, Nat.zero_le _, by rw [top_nil, bw_nil]; unfold un; simp⟩
    · exact ⟨F, hF, Nat.zero_le _, rfl⟩
theorem one_top {m : Int → Int → Bool} : ∀ (f e : Int), 0 ≤ f → ∀ F ∈ FL m f e, (top F).length = 1 → ∃ st en a, f ≤ st ∧ st < en ∧ en < e ∧ m st en = true ∧ a ∈ FL m (st + 1) en ∧ F = (st, en) :: a := by
  refine FL_ind (m := m) (P := fun f e => 0 ≤ f → ∀ F ∈ FL m f e, (top F).length = 1 → ∃ st en a, f ≤ st ∧ st < en ∧ en < e ∧ m st en = true ∧ a ∈ FL m (st + 1) en ∧ F = (st, en) :: a) (fun f e h h0 F hF ht => ?_) (fun f e h ih h0 F hF ht => ?_)
  · rw [FL_small h] at hF
    rw [List.mem_singleton.mp hF, top_nil] at ht
    cases ht
  · rcases (mem_FL1 (by omega)).mp hF with hF | ⟨k, h1, h2, hm, a, ha, c, hc, rfl⟩
    · obtain ⟨st, en, a, h1, h2⟩ := ih (f + 1) e (by omega) (by omega) (by omega) F hF ht
      exact ⟨st, en, a, by omega, h2⟩
    · have pa := (FL_proper _ _ a ha).1
      have pc := (FL_proper _ _ c hc).1
      rw [top_cons pa pc h0 (by omega), List.length_cons] at ht
      have := top_zero pc (by omega) (by omega)
      subst this
      exact ⟨f, k, a, Int.le_refl _, by omega, h2, hm, ha, by rw [List.append_nil]⟩
theorem one_in {st en : Int} {a : Fo} (h0 : 0 ≤ st) (h1 : st < en) (ha : a ∈ FL (mp b s) (st + 1) en) : top ((st, en) :: a) = [(st, en)] ∧ bw b s ((st, en) :: a) = sh b s (st, en) a := by
  have pa := (FL_proper _ _ a ha).1
  have e1 := top_cons (e := en + 1) pa .nil h0 h1
  have e2 := bw_cons (b := b) (s := s) (e := en + 1) pa .nil h0 h1
  rw [List.append_nil] at e1 e2
  rw [bw_nil, Int.add_zero] at e2
  exact ⟨e1, e2⟩
theorem loopK_one (p q : Pr) (g : Int) : loopK b s p [q] g = if g = 0 then cost b 0 + sw b (both s p.1 p.2) (both s q.1 q.2) else cost b 1 + g * cost b 2 := by
  unfold loopK
  rw [if_neg (by simp), if_neg (by simp)]
  rfl
theorem sh_one {st en : Int} {a : Fo} (h0 : 0 ≤ st) (h1 : st < en) (ha : a ∈ FL (mp b s) (st + 1) en) : sh b s (f, l) ((st, en) :: a) = pwI b s (f, l) + (if st - f - 1 + l - en - 1 = 0 then cost b 0 + sw b (both s f l) (both s st en) else cost b 1 + (st - f - 1 + l - en - 1) * cost b 2) + sh b s (st, en) a := by
  obtain ⟨e1, e2⟩ := one_in (b := b) (s := s) h0 h1 ha
  have e3 : sh b s (f, l) ((st, en) :: a) = pwI b s (f, l) + loopK b s (f, l) [(st, en)] (free (f, l) [(st, en)]) + sh b s (st, en) a := by
    rw [← e2]
    unfold sh
    rw [e1]
  have ef : free (f, l) [(st, en)] = st - f - 1 + l - en - 1 := by
    unfold free
    show l - f - 1 - (en - st + 1 + 0) = _
    omega
  rw [e3, loopK_one, ef]
theorem row_s (h0 : 0 ≤ f) (hfl : f < l) : VSs b s f l x ↔ mp b s f l = true ∧ (x = pwI b s (f, l) + (cost b 6 + (l - f - 1) * cost b 7) ∨ (∃ st en, f + 1 ≤ st ∧ st < en ∧ en < l ∧ ∃ v, VSs b s st en v ∧ x = pwI b s (f, l) + (if st - f - 1 + l - en - 1 = 0 then cost b 0 + sw b (both s f l) (both s st en) else cost b 1 + (st - f - 1 + l - en - 1) * cost b 2) + v) ∨
    ∃ u, VSm b s 2 (f + 1) (l - 1) u ∧ x = pwI b s (f, l) + cost b 3 + u) := by
  constructor
  · rintro ⟨hm, F, hF, rfl⟩
    refine ⟨hm, ?_⟩
    have pF := (FL_proper _ _ F hF).1
    by_cases q0 : (top F).length = 0
    · have := top_zero pF (by omega) q0
      subst this
      left
      unfold sh
      rw [top_nil, bw_nil]
      unfold loopK free
      simp
    · by_cases q1 : (top F).length = 1
      · obtain ⟨st, en, a, h1, h2, h3, h4, h5, rfl⟩ := one_top (f + 1) l (by omega) F hF q1
        exact .inr (.inl ⟨st, en, h1, h2, h3, _, ⟨h4, a, h5, rfl⟩, sh_one (by omega) h2 h5⟩)
      · refine .inr (.inr ⟨_, ⟨F, by rw [show l - 1 + 1 = l by omega]; exact hF, by omega, rfl⟩, ?_⟩)
        unfold sh loopK
        rw [if_neg (fun e => q0 (by rw [e]; rfl)), if_pos (by omega)]
        have ef : free (f, l) (top F) = un (f + 1) (l - 1) (top F) := by unfold free un; show l - f - 1 - _ = _; omega
        rw [ef]
        omega
  · rintro ⟨hm, rfl | ⟨st, en, h1, h2, h3, v, ⟨h4, a, h5, rfl⟩, rfl⟩ | ⟨u, ⟨F, hF, hj, rfl⟩, rfl⟩⟩
    · refine ⟨hm, [], nil_FL _ _, ?_⟩
      unfold sh
      rw [top_nil, bw_nil]
      unfold loopK free
      simp
    · obtain ⟨p1, p2⟩ := FL_iff.mp h5
      refine ⟨hm, (st, en) :: a, FL_iff.mpr ⟨?_, fun p hp => ?_⟩, (sh_one (by omega) h2 h5).symm⟩
      · have := (Proper.cons (e := l) p1 .nil h2 h3).mono h1 (Int.le_refl _)
        rwa [List.append_nil] at this
      · rcases List.mem_cons.mp hp with rfl | hp
        · exact h4
        · exact p2 p hp
    · rw [show l - 1 + 1 = l by omega] at hF
      refine ⟨hm, F, hF, ?_⟩
      unfold sh loopK
      rw [if_neg (fun e => by rw [e] at hj; simp at hj), if_pos (by omega)]
      have ef : free (f, l) (top F) = un (f + 1) (l - 1) (top F) := by unfold free un; show l - f - 1 - _ = _; omega
      rw [ef]
      omega
end
end Pf
set_option Elab.async false
set_option linter.all false
set_option maxRecDepth 100000
set_option maxHeartbeats 4000000
namespace Pf
open PySem L2
/-! ### least of a set, ways -/
def IsMin (S : Int → Prop) : Option Int → Prop
  | none => ∀ x, ¬ S x
  | some v => S v ∧ ∀ x, S x → v ≤ x
theorem IsMin.congr {S S' : Int → Prop} {o : Option Int} (h : IsMin S o) (e : ∀ x, S' x ↔ S x) : IsMin S' o := by
  cases o with
  | none => exact fun x hx => h x ((e x).mp hx)
  | some v => exact ⟨(e v).mpr h.1, fun x hx => h.2 x ((e x).mp hx)⟩
def VS (b : Book) (s : Str) (k : K3) (x : Int) : Prop := if k.1 = "shut" then VSs b s k.2.1 k.2.2 x else if k.1 = "one" then VSm b s 1 k.2.1 k.2.2 x else if k.1 = "two" then VSm b s 2 k.2.1 k.2.2 x else VSo b s k.2.1 k.2.2 x
def KS (V : K3 → Int → Prop) : List K3 → Int → Prop
  | [], x => x = 0
  | k :: ks, x => ∃ v u, V k v ∧ KS V ks u ∧ x = v + u
def WS (V : K3 → Int → Prop) (w : Way) (x : Int) : Prop := ∃ u, KS V w.2 u ∧ x = w.1 + u
def cs (es : List (List Key × D)) : List K3 → Option Int
  | [] => some 0
  | k :: ks => match gt es k, cs es ks with
    | some v, some u => some (v + u)
    | _, _ => none
theorem comeTo_cs (es : List (List Key × D)) (o : Int) : ∀ ks : List K3, comeTo es (o, ks) = (cs es ks).map (o + ·) := by
  have key : ∀ ks : List K3, cs es ks = if ((ks.map (gt es)).any Option.isNone) = true then none else some (((ks.map (gt es)).filterMap id).sum) := by
    intro ks
    induction ks with
    | nil => rfl
    | cons k ks ih =>
      unfold cs
      rw [ih, List.map_cons, List.any_cons]
      cases gt es k with
      | none => simp
      | some v =>
        rw [show (some v : Option Int).isNone = false from rfl, Bool.false_or]
        by_cases q : ((ks.map (gt es)).any Option.isNone) = true
        · rw [if_pos q, if_pos q]
        · rw [if_neg q, if_neg q]
          simp [List.filterMap_cons]
  intro ks
  unfold comeTo
  rw [key ks]
  show (if ((ks.map (gt es)).any Option.isNone) = true then none else some (o + ((ks.map (gt es)).filterMap id).sum)) = _
  split <;> rfl
theorem ks_min {V : K3 → Int → Prop} {es : List (List Key × D)} : ∀ {ks : List K3}, (∀ k ∈ ks, IsMin (V k) (gt es k)) → IsMin (KS V ks) (cs es ks)
  | [], _ => ⟨rfl, fun x hx => by cases hx; exact Int.le_refl _⟩
  | k :: ks, h => by
    have h1 := h k List.mem_cons_self
    have h2 := ks_min (ks := ks) fun j hj => h j (List.mem_cons_of_mem _ hj)
    unfold cs
    cases q1 : gt es k with
    | none =>
      rw [q1] at h1
      rintro x ⟨v, u, hv, _, _⟩
      exact h1 v hv
    | some v =>
      rw [q1] at h1
      cases q2 : cs es ks with
      | none =>
        rw [q2] at h2
        rintro x ⟨v, u, _, hu, _⟩
        exact h2 u hu
      | some u =>
        rw [q2] at h2
        refine ⟨⟨v, u, h1.1, h2.1, rfl⟩, ?_⟩
        rintro x ⟨v', u', hv, hu, rfl⟩
        have := h1.2 v' hv
        have := h2.2 u' hu
        omega
theorem way_min {V : K3 → Int → Prop} {es : List (List Key × D)} {w : Way} (h : ∀ k ∈ w.2, IsMin (V k) (gt es k)) : IsMin (WS V w) (comeTo es w) := by
  have h1 := ks_min h
  obtain ⟨o, ks⟩ := w
  rw [comeTo_cs]
  cases q : cs es ks with
  | none =>
    rw [show cs es (o, ks).2 = none from q] at h1
    rintro x ⟨u, hu, _⟩
    exact h1 u hu
  | some u =>
    rw [show cs es (o, ks).2 = some u from q] at h1
    refine ⟨⟨u, h1.1, rfl⟩, ?_⟩
    rintro x ⟨u', hu, rfl⟩
    have := h1.2 u' hu
    show o + u ≤ o + u'
    omega
theorem minI_spec : ∀ xs : List Int, (minI xs = none ∧ xs = []) ∨ ∃ v, minI xs = some v ∧ v ∈ xs ∧ ∀ x ∈ xs, v ≤ x := by
  have key : ∀ (xs : List Int) (a : Int), (xs.foldl (fun a y => if y < a then y else a) a) ∈ a :: xs ∧ ∀ x ∈ a :: xs, xs.foldl (fun a y => if y < a then y else a) a ≤ x := by
    intro xs
    induction xs with
    | nil => intro a; exact ⟨List.mem_cons_self, fun x hx => by rw [List.mem_singleton.mp hx]; exact Int.le_refl _⟩
    | cons y xs ih =>
      intro a
      rw [List.foldl_cons]
      obtain ⟨h1, h2⟩ := ih (if y < a then y else a)
      refine ⟨?_, fun x hx => ?_⟩
      · rcases List.mem_cons.mp h1 with h1 | h1
        · rw [h1]
          split
          · exact List.mem_cons_of_mem _ List.mem_cons_self
          · exact List.mem_cons_self
        · exact List.mem_cons_of_mem _ (List.mem_cons_of_mem _ h1)
      · have h3 := h2 _ List.mem_cons_self
        have hm : (if y < a then y else a) ≤ a ∧ (if y < a then y else a) ≤ y := by split <;> omega
        rcases List.mem_cons.mp hx with rfl | hx
        · exact Int.le_trans h3 hm.1
        · rcases List.mem_cons.mp hx with rfl | hx
          · exact Int.le_trans h3 hm.2
          · exact h2 x (List.mem_cons_of_mem _ hx)
  intro xs
  cases xs with
  | nil => exact .inl ⟨rfl, rfl⟩
  | cons a xs => exact .inr ⟨_, rfl, key xs a⟩
theorem ways_min {V : K3 → Int → Prop} {es : List (List Key × D)} {ws : List Way} (h : ∀ w ∈ ws, ∀ k ∈ w.2, IsMin (V k) (gt es k)) : IsMin (fun x => ∃ w ∈ ws, WS V w x) (leastI (ws.map (comeTo es))) := by
  unfold leastI
  rcases minI_spec ((ws.map (comeTo es)).filterMap id) with ⟨h1, h2⟩ | ⟨v, h1, h2, h3⟩
  · rw [h1]
    rintro x ⟨w, hw, hx⟩
    have h4 := way_min (h w hw)
    cases q : comeTo es w with
    | none => rw [q] at h4; exact h4 x hx
    | some v =>
      have : v ∈ (ws.map (comeTo es)).filterMap id := List.mem_filterMap.mpr ⟨some v, List.mem_map.mpr ⟨w, hw, q⟩, rfl⟩
      rw [h2] at this
      cases this
  · rw [h1]
    refine ⟨?_, ?_⟩
    · obtain ⟨o, ho, e⟩ := List.mem_filterMap.mp h2
      obtain ⟨w, hw, e2⟩ := List.mem_map.mp ho
      have h4 := way_min (h w hw)
      rw [e2, show o = some v from e] at h4
      exact ⟨w, hw, h4.1⟩
    · rintro x ⟨w, hw, hx⟩
      have h4 := way_min (h w hw)
      cases q : comeTo es w with
      | none => rw [q] at h4; exact absurd hx (h4 x)
      | some u =>
        rw [q] at h4
        have := h3 u (List.mem_filterMap.mpr ⟨some u, List.mem_map.mpr ⟨w, hw, q⟩, rfl⟩)
        have := h4.2 x hx
        omega
theorem ks0 {V : K3 → Int → Prop} {x : Int} : WS V (x, []) = fun y => y = x := by
  funext y
  apply propext
  constructor
  · rintro ⟨u, rfl, rfl⟩; exact Int.add_zero _
  · rintro rfl; exact ⟨0, rfl, (Int.add_zero _).symm⟩
theorem ws0 {V : K3 → Int → Prop} {o x : Int} : WS V (o, []) x ↔ x = o := by rw [ks0]
theorem ws1 {V : K3 → Int → Prop} {o x : Int} {k : K3} : WS V (o, [k]) x ↔ ∃ v, V k v ∧ x = o + v := by
  constructor
  · rintro ⟨_, ⟨v, u, hv, rfl, rfl⟩, rfl⟩
    exact ⟨v, hv, by rw [Int.add_zero]⟩
  · rintro ⟨v, hv, rfl⟩
    exact ⟨v, ⟨v, 0, hv, rfl, (Int.add_zero _).symm⟩, rfl⟩
theorem ws2 {V : K3 → Int → Prop} {o x : Int} {k j : K3} : WS V (o, [k, j]) x ↔ ∃ v u, V k v ∧ V j u ∧ x = o + v + u := by
  constructor
  · rintro ⟨_, ⟨v, _, hv, ⟨u, _, hu, rfl, rfl⟩, rfl⟩, rfl⟩
    exact ⟨v, u, hv, hu, by show o + (v + (u + 0)) = _; omega⟩
  · rintro ⟨v, u, hv, hu, rfl⟩
    exact ⟨v + (u + 0), ⟨v, u + 0, hv, ⟨u, 0, hu, rfl, rfl⟩, rfl⟩, by show o + v + u = o + (v + (u + 0)); omega⟩
section
variable {b : Book} {s : Str} {f l x : Int}
theorem vs_shut : VS b s (k3 "shut" f l) x = VSs b s f l x := if_pos rfl
theorem vs_one : VS b s (k3 "one" f l) x = VSm b s 1 f l x := by
  unfold VS
  rw [if_neg (show ¬ ("one" : Str) = "shut" by decide), if_pos rfl]
theorem vs_two : VS b s (k3 "two" f l) x = VSm b s 2 f l x := by
  unfold VS
  rw [if_neg (show ¬ ("two" : Str) = "shut" by decide), if_neg (show ¬ ("two" : Str) = "one" by decide), if_pos rfl]
theorem vs_open : VS b s (k3 "open" f l) x = VSo b s f l x := by
  unfold VS
  rw [if_neg (show ¬ ("open" : Str) = "shut" by decide), if_neg (show ¬ ("open" : Str) = "one" by decide), if_neg (show ¬ ("open" : Str) = "two" by decide)]
theorem w_shut : waysOf b s (k3 "shut" f l) = shutW b s f l := if_pos rfl
theorem w_one : waysOf b s (k3 "one" f l) = oneW b f l := by
  unfold waysOf
  rw [if_neg (show ¬ ("one" : Str) = "shut" by decide), if_pos rfl]
theorem w_two : waysOf b s (k3 "two" f l) = twoW b f l := by
  unfold waysOf
  rw [if_neg (show ¬ ("two" : Str) = "shut" by decide), if_neg (show ¬ ("two" : Str) = "one" by decide), if_pos rfl]
theorem w_open : waysOf b s (k3 "open" f l) = openW b f l := by
  unfold waysOf
  rw [if_neg (show ¬ ("open" : Str) = "shut" by decide), if_neg (show ¬ ("open" : Str) = "one" by decide), if_neg (show ¬ ("open" : Str) = "two" by decide)]
theorem ways_one (h0 : 0 ≤ f) (hfl : f ≤ l) : VSm b s 1 f l x ↔ ∃ w ∈ oneW b f l, WS (VS b s) w x := by
  rw [row_m h0 hfl]
  unfold oneW
  constructor
  · rintro (h | ⟨k, h1, h2, v, u, hv, hu, rfl⟩)
    · exact ⟨_, List.mem_cons_self, ws1.mpr ⟨_, by rw [vs_one]; exact h, by omega⟩⟩
    · rcases (m_zero (by omega)).mp hu with rfl | hu
      · refine ⟨_, List.mem_cons_of_mem _ (List.mem_flatMap.mpr ⟨k, mem_rng.mpr ⟨h1, h2⟩, List.mem_cons_self⟩), ws1.mpr ⟨v, by rw [vs_shut]; exact hv, ?_⟩⟩
        rw [show l - (k + 1) + 1 = l - k by omega]
        omega
      · exact ⟨_, List.mem_cons_of_mem _ (List.mem_flatMap.mpr ⟨k, mem_rng.mpr ⟨h1, h2⟩, List.mem_cons_of_mem _ List.mem_cons_self⟩), ws2.mpr ⟨v, u, by rw [vs_shut]; exact hv, by rw [vs_one]; exact hu, rfl⟩⟩
  · rintro ⟨w, hw, hx⟩
    rcases List.mem_cons.mp hw with rfl | hw
    · obtain ⟨v, hv, rfl⟩ := ws1.mp hx
      rw [vs_one] at hv
      exact .inl (by rw [show cost b 5 + v - cost b 5 = v by omega]; exact hv)
    · obtain ⟨k, hk, hw⟩ := List.mem_flatMap.mp hw
      have hk := mem_rng.mp hk
      rcases List.mem_cons.mp hw with rfl | hw
      · obtain ⟨v, hv, rfl⟩ := ws1.mp hx
        rw [vs_shut] at hv
        refine .inr ⟨k, hk.1, hk.2, v, _, hv, (m_zero (by omega)).mpr (.inl rfl), ?_⟩
        rw [show l - (k + 1) + 1 = l - k by omega]
        omega
      · rw [List.mem_singleton.mp hw] at hx
        obtain ⟨v, u, hv, hu, rfl⟩ := ws2.mp hx
        rw [vs_shut] at hv
        rw [vs_one] at hu
        exact .inr ⟨k, hk.1, hk.2, v, u, hv, (m_zero (by omega)).mpr (.inr hu), rfl⟩
theorem ways_two (h0 : 0 ≤ f) (hfl : f ≤ l) : VSm b s 2 f l x ↔ ∃ w ∈ twoW b f l, WS (VS b s) w x := by
  rw [row_m h0 hfl]
  unfold twoW
  constructor
  · rintro (h | ⟨k, h1, h2, v, u, hv, hu, rfl⟩)
    · exact ⟨_, List.mem_cons_self, ws1.mpr ⟨_, by rw [vs_two]; exact h, by omega⟩⟩
    · exact ⟨_, List.mem_cons_of_mem _ (List.mem_map.mpr ⟨k, mem_rng.mpr ⟨h1, h2⟩, rfl⟩), ws2.mpr ⟨v, u, by rw [vs_shut]; exact hv, by rw [vs_one]; exact hu, rfl⟩⟩
  · rintro ⟨w, hw, hx⟩
    rcases List.mem_cons.mp hw with rfl | hw
    · obtain ⟨v, hv, rfl⟩ := ws1.mp hx
      rw [vs_two] at hv
      exact .inl (by rw [show cost b 5 + v - cost b 5 = v by omega]; exact hv)
    · obtain ⟨k, hk, rfl⟩ := List.mem_map.mp hw
      have hk := mem_rng.mp hk
      obtain ⟨v, u, hv, hu, rfl⟩ := ws2.mp hx
      rw [vs_shut] at hv
      rw [vs_one] at hu
      exact .inr ⟨k, hk.1, hk.2, v, u, hv, hu, rfl⟩
theorem ways_open (h0 : 0 ≤ f) : VSo b s f l x ↔ ∃ w ∈ openW b f l, WS (VS b s) w x := by
  unfold openW
  by_cases hlf : l < f
  · rw [row_o0 hlf, if_pos hlf]
    constructor
    · rintro rfl; exact ⟨_, List.mem_singleton.mpr rfl, ws0.mpr rfl⟩
    · rintro ⟨w, hw, hx⟩
      rw [List.mem_singleton.mp hw] at hx
      exact ws0.mp hx
  · rw [row_o h0 (by omega), if_neg hlf]
    constructor
    · rintro (h | ⟨k, h1, h2, v, u, hv, hu, rfl⟩)
      · exact ⟨_, List.mem_cons_self, ws1.mpr ⟨_, by rw [vs_open]; exact h, by omega⟩⟩
      · exact ⟨_, List.mem_cons_of_mem _ (List.mem_map.mpr ⟨k, mem_rng.mpr ⟨h1, h2⟩, rfl⟩), ws2.mpr ⟨v, u, by rw [vs_shut]; exact hv, by rw [vs_open]; exact hu, rfl⟩⟩
    · rintro ⟨w, hw, hx⟩
      rcases List.mem_cons.mp hw with rfl | hw
      · obtain ⟨v, hv, rfl⟩ := ws1.mp hx
        rw [vs_open] at hv
        exact .inl (by rw [Int.zero_add]; exact hv)
      · obtain ⟨k, hk, rfl⟩ := List.mem_map.mp hw
        have hk := mem_rng.mp hk
        obtain ⟨v, u, hv, hu, rfl⟩ := ws2.mp hx
        rw [vs_shut] at hv
        rw [vs_open] at hu
        exact .inr ⟨k, hk.1, hk.2, v, u, hv, hu, rfl⟩
theorem ways_shut (h0 : 0 ≤ f) (hfl : f < l) : VSs b s f l x ↔ ∃ w ∈ shutW b s f l, WS (VS b s) w x := by
  rw [row_s h0 hfl]
  unfold shutW
  by_cases hm : mp b s f l = true
  · rw [if_pos hm]
    have ep : (pw b (both s f l)).getD 0 = pwI b s (f, l) := rfl
    rw [ep]
    constructor
    · rintro ⟨_, rfl | ⟨st, en, h1, h2, h3, v, hv, rfl⟩ | ⟨u, hu, rfl⟩⟩
      · exact ⟨_, List.mem_map.mpr ⟨_, List.mem_append_left _ List.mem_cons_self, rfl⟩, ws0.mpr rfl⟩
      · refine ⟨_, List.mem_map.mpr ⟨_, List.mem_append_left _ (List.mem_cons_of_mem _ (List.mem_flatMap.mpr ⟨st, mem_rng.mpr ⟨h1, by omega⟩, List.mem_map.mpr ⟨en, mem_rng.mpr ⟨by omega, h3⟩, rfl⟩⟩)), rfl⟩, ws1.mpr ⟨v, by rw [vs_shut]; exact hv, rfl⟩⟩
      · exact ⟨_, List.mem_map.mpr ⟨_, List.mem_append_right _ (List.mem_singleton.mpr rfl), rfl⟩, ws1.mpr ⟨u, by rw [vs_two]; exact hu, rfl⟩⟩
    · rintro ⟨w, hw, hx⟩
      refine ⟨hm, ?_⟩
      obtain ⟨w', hw2, rfl⟩ := List.mem_map.mp hw
      rcases List.mem_append.mp hw2 with hw | hw
      · rcases List.mem_cons.mp hw with rfl | hw
        · exact .inl (ws0.mp hx)
        · obtain ⟨st, hst, hw⟩ := List.mem_flatMap.mp hw
          obtain ⟨en, hen, rfl⟩ := List.mem_map.mp hw
          have h1 := mem_rng.mp hst
          have h2 := mem_rng.mp hen
          obtain ⟨v, hv, rfl⟩ := ws1.mp hx
          rw [vs_shut] at hv
          exact .inr (.inl ⟨st, en, h1.1, by omega, h2.2, v, hv, rfl⟩)
      · rw [List.mem_singleton.mp hw] at hx
        obtain ⟨u, hu, rfl⟩ := ws1.mp hx
        rw [vs_two] at hu
        exact .inr (.inr ⟨u, hu, rfl⟩)
  · rw [if_neg hm]
    constructor
    · rintro ⟨h, _⟩; exact absurd h hm
    · rintro ⟨w, hw, _⟩; cases hw
end
end Pf
set_option Elab.async false
set_option linter.all false
set_option maxRecDepth 100000
set_option maxHeartbeats 4000000
namespace Pf
open PySem L2
/-! ### the order in which the table is filled -/
def ix (x : Str) : Int := (sorts3.idxOf x : Nat)
/-- y strictly ahead of x, both closed -/
def sbi (y x : K3) : Prop := x.2.1 < y.2.1 ∨ (x.2.1 = y.2.1 ∧ (y.2.2 < x.2.2 ∨ (y.2.2 = x.2.2 ∧ ix y.1 < ix x.1)))
theorem lt_iii (a b c a' b' c' : Int) : PySem.W.dataLt (.tuple [.int a, .int b, .int c]) (.tuple [.int a', .int b', .int c']) = decide (a < a' ∨ (a = a' ∧ (b < b' ∨ (b = b' ∧ c < c')))) := by
  have e : ∀ x y : Int, PyData.eqv (.int x) (.int y) = decide (x = y) := fun x y => by
    rw [Bool.eq_iff_iff]
    simp [PyData.eqv]
  have al : ∀ x y : Int, PySem.W.alike (.int x) (.int y) = true := fun x y => by simp [PySem.W.alike]
  have h2 := PySem.W.dataLt_ii b c b' c'
  rw [PySem.W.dataLt_tuple] at h2
  rw [PySem.W.dataLt_tuple, PySem.W.dataLt_cons (al _ _), e, PySem.W.dataLt_int]
  by_cases q : a = a'
  · rw [if_pos (decide_eq_true q), h2]
    exact decide_eq_decide.mpr (by omega)
  · rw [if_neg (by simpa using q)]
    exact decide_eq_decide.mpr (by omega)
theorem k3le_iff (x y : K3) : k3le x y = true ↔ ¬ sbi y x := by
  unfold k3le
  rw [show PySem.W.dataLe false keyK x y = !PySem.W.dataLt (keyK y) (keyK x) from rfl]
  unfold keyK sbi ix
  rw [lt_iii, Bool.not_eq_true', decide_eq_false_iff_not]
  constructor
  · intro h h2; exact h (by omega)
  · intro h h2; exact h (by omega)
def isOpen (k : K3) : Prop := k.1 = ("open" : Str)
/-- y strictly ahead of x -/
def sb (y x : K3) : Prop := (¬ isOpen y ∧ isOpen x) ∨ (¬ isOpen y ∧ ¬ isOpen x ∧ sbi y x) ∨ (isOpen y ∧ isOpen x ∧ x.2.1 < y.2.1)
theorem sb_irr (x : K3) : ¬ sb x x := by
  unfold sb sbi
  rintro (⟨h1, h2⟩ | ⟨_, _, h⟩ | ⟨_, _, h⟩)
  · exact h1 h2
  · omega
  · omega
theorem fill_ord (n : Int) : (fillKs n).Pairwise fun x y => ¬ sb y x := by
  unfold fillKs
  have hB : ∀ y ∈ (downs n).map (fun a => k3 "open" a (n - 1)), isOpen y := fun y hy => by
    obtain ⟨a, _, rfl⟩ := List.mem_map.mp hy
    rfl
  have hA : ∀ y ∈ ((rowKs n).filter fun (k : K3) => !decide (k.1 = ("open" : Str))).mergeSort k3le, ¬ isOpen y := fun y hy => by
    have h1 := (List.mem_filter.mp (List.mem_mergeSort.mp hy)).2
    unfold isOpen
    simpa using h1
  refine List.pairwise_append.mpr ⟨?_, ?_, fun x hx y hy => ?_⟩
  · have hs : (((rowKs n).filter fun (k : K3) => !decide (k.1 = ("open" : Str))).mergeSort k3le).Pairwise fun x y => k3le x y = true := by
      refine List.pairwise_mergeSort (fun x y z h1 h2 => ?_) (fun x y => ?_) _
      · rw [k3le_iff] at *
        unfold sbi at *
        omega
      · rw [Bool.or_eq_true, k3le_iff, k3le_iff]
        unfold sbi
        omega
    refine hs.imp_of_mem fun {x y} hx hy h => ?_
    have h1 := hA x hx
    have h2 := hA y hy
    rw [k3le_iff] at h
    rintro (⟨_, h3⟩ | ⟨_, _, h3⟩ | ⟨h3, _⟩)
    · exact h1 h3
    · exact h h3
    · exact h2 h3
  · rw [List.pairwise_map]
    unfold downs
    rw [List.pairwise_map]
    refine List.pairwise_lt_range.imp fun {i j} hij => ?_
    rintro (⟨h3, _⟩ | ⟨h3, _⟩ | ⟨_, _, h3⟩)
    · exact h3 rfl
    · exact h3 rfl
    · have : n + (i : Int) * (-1) < n + (j : Int) * (-1) := h3
      omega
  · rintro (⟨h3, _⟩ | ⟨h3, _⟩ | ⟨_, h3, _⟩)
    · exact h3 (hB y hy)
    · exact h3 (hB y hy)
    · exact hA x hx h3
theorem fill_mem {n : Int} (hn : 0 ≤ n) {k : K3} : k ∈ fillKs n ↔ (k.1 = "open" ∧ 0 ≤ k.2.1 ∧ k.2.1 ≤ n ∧ k.2.2 = n - 1) ∨ ((k.1 = "one" ∨ k.1 = "two" ∨ (k.1 = "shut" ∧ k.2.1 < k.2.2)) ∧ 0 ≤ k.2.1 ∧ k.2.1 ≤ k.2.2 ∧ k.2.2 < n) := by
  refine ⟨fun h => mem_fillKs h hn, fun h => ?_⟩
  obtain ⟨x, f, l⟩ := k
  unfold fillKs
  rcases h with ⟨rfl, h1, h2, h3⟩ | ⟨h0, h1, h2, h3⟩
  · refine List.mem_append_right _ (List.mem_map.mpr ⟨f, ?_, ?_⟩)
    · unfold downs
      exact List.mem_map.mpr ⟨(n - f).toNat, by rw [List.mem_range]; simp only at *; omega, by simp only at *; omega⟩
    · show k3 "open" f (n - 1) = k3 "open" f l
      rw [show l = n - 1 from h3]
  · refine List.mem_append_left _ (List.mem_mergeSort.mpr (List.mem_filter.mpr ⟨(rowKs_perm n).mem_iff.mpr ?_, ?_⟩))
    · unfold rowBase
      refine List.mem_append_right _ (List.mem_flatMap.mpr ⟨f, mem_rng.mpr ⟨h1, by simp only at *; omega⟩, List.mem_flatMap.mpr ⟨l, mem_rng.mpr ⟨h2, h3⟩, ?_⟩⟩)
      rcases h0 with rfl | rfl | ⟨rfl, h4⟩
      · exact List.mem_append_left _ List.mem_cons_self
      · exact List.mem_append_left _ (List.mem_cons_of_mem _ List.mem_cons_self)
      · exact List.mem_append_right _ (by rw [if_pos h4]; exact List.mem_cons_self)
    · have : x ≠ ("open" : Str) := by
        rcases h0 with rfl | rfl | ⟨rfl, _⟩ <;> decide
      simpa using this
theorem ix_shut_one : ix "shut" < ix "one" := by decide
theorem ix_shut_two : ix "shut" < ix "two" := by decide
/-- what a way asks for is there already, or it stands for nothing -/
theorem fill_dep {b : Book} {s : Str} {n : Int} (hn : 0 ≤ n) {k : K3} (hk : k ∈ fillKs n) {w : Way} (hw : w ∈ waysOf b s k) {d : K3} (hd : d ∈ w.2) : (d ∈ fillKs n ∧ sb d k) ∨ (d ∉ fillKs n ∧ ∀ x, ¬ VS b s d x) := by
  have no1 : ¬ isOpen (k3 "one" 0 0) := by unfold isOpen; decide
  have nshut : ∀ f l, ¬ isOpen (k3 "shut" f l) := fun f l => by show ¬ ("shut" : Str) = "open"; decide
  have none_ : ∀ f l, ¬ isOpen (k3 "one" f l) := fun f l => by show ¬ ("one" : Str) = "open"; decide
  have ntwo : ∀ f l, ¬ isOpen (k3 "two" f l) := fun f l => by show ¬ ("two" : Str) = "open"; decide
  have mshut : ∀ f l, 0 ≤ f → f < l → l < n → k3 "shut" f l ∈ fillKs n := fun f l h1 h2 h3 => (fill_mem hn).mpr (.inr ⟨.inr (.inr ⟨rfl, h2⟩), h1, by show f ≤ l; omega, h3⟩)
  have mone : ∀ f l, 0 ≤ f → f ≤ l → l < n → k3 "one" f l ∈ fillKs n := fun f l h1 h2 h3 => (fill_mem hn).mpr (.inr ⟨.inl rfl, h1, h2, h3⟩)
  have mtwo : ∀ f l, 0 ≤ f → f ≤ l → l < n → k3 "two" f l ∈ fillKs n := fun f l h1 h2 h3 => (fill_mem hn).mpr (.inr ⟨.inr (.inl rfl), h1, h2, h3⟩)
  have eone : ∀ f l, l < f → k3 "one" f l ∉ fillKs n ∧ ∀ x, ¬ VS b s (k3 "one" f l) x := fun f l h => ⟨fun hm => by
    rcases (fill_mem hn).mp hm with ⟨h1, _⟩ | ⟨_, _, h1, _⟩
    · exact none_ f l h1
    · have : f ≤ l := h1
      omega, fun x => by rw [vs_one]; exact row_none h (by omega)⟩
  have etwo : ∀ f l, l < f → k3 "two" f l ∉ fillKs n ∧ ∀ x, ¬ VS b s (k3 "two" f l) x := fun f l h => ⟨fun hm => by
    rcases (fill_mem hn).mp hm with ⟨h1, _⟩ | ⟨_, _, h1, _⟩
    · exact ntwo f l h1
    · have : f ≤ l := h1
      omega, fun x => by rw [vs_two]; exact row_none h (by omega)⟩
  obtain ⟨x, f, l⟩ := k
  rcases (fill_mem hn).mp hk with ⟨e, h1, h2, h3⟩ | ⟨h0, h1, h2, h3⟩
  · cases (show x = "open" from e)
    rw [w_open] at hw
    have h1 : 0 ≤ f := h1
    have h2 : f ≤ n := h2
    have h3 : l = n - 1 := h3
    have mopen : ∀ a, 0 ≤ a → a ≤ n → k3 "open" a l ∈ fillKs n := fun a g1 g2 => (fill_mem hn).mpr (.inl ⟨rfl, g1, g2, h3⟩)
    unfold openW at hw
    split at hw
    · rw [List.mem_singleton.mp hw] at hd; cases hd
    · rcases List.mem_cons.mp hw with rfl | hw
      · rw [List.mem_singleton.mp hd]
        exact .inl ⟨mopen _ (by omega) (by omega), .inr (.inr ⟨rfl, rfl, by show f < f + 1; omega⟩)⟩
      · obtain ⟨k, hk, rfl⟩ := List.mem_map.mp hw
        have hk := mem_rng.mp hk
        rcases List.mem_cons.mp hd with rfl | hd
        · exact .inl ⟨mshut _ _ h1 (by omega) (by omega), .inl ⟨nshut _ _, rfl⟩⟩
        · rw [List.mem_singleton.mp hd]
          exact .inl ⟨mopen _ (by omega) (by omega), .inr (.inr ⟨rfl, rfl, by show f < k + 1; omega⟩)⟩
  · have h1 : 0 ≤ f := h1
    have h2 : f ≤ l := h2
    have h3 : l < n := h3
    have h0 : x = "one" ∨ x = "two" ∨ (x = "shut" ∧ f < l) := h0
    rcases h0 with rfl | rfl | ⟨rfl, h4⟩
    · rw [w_one] at hw
      unfold oneW at hw
      rcases List.mem_cons.mp hw with rfl | hw
      · rw [List.mem_singleton.mp hd]
        by_cases q : f + 1 ≤ l
        · exact .inl ⟨mone _ _ (by omega) q h3, .inr (.inl ⟨none_ _ _, none_ _ _, .inl (by show f < f + 1; omega)⟩)⟩
        · exact .inr (eone _ _ (by omega))
      · obtain ⟨k, hk, hw⟩ := List.mem_flatMap.mp hw
        have hk := mem_rng.mp hk
        have hsh : k3 "shut" f k ∈ fillKs n ∧ sb (k3 "shut" f k) (k3 "one" f l) := ⟨mshut _ _ h1 (by omega) (by omega), .inr (.inl ⟨nshut _ _, none_ _ _, .inr ⟨rfl, by
          by_cases q : k < l
          · exact .inl q
          · exact .inr ⟨by show k = l; omega, ix_shut_one⟩⟩⟩)⟩
        rcases List.mem_cons.mp hw with rfl | hw
        · rw [List.mem_singleton.mp hd]
          exact .inl hsh
        · rw [List.mem_singleton.mp hw] at hd
          rcases List.mem_cons.mp hd with rfl | hd
          · exact .inl hsh
          · rw [List.mem_singleton.mp hd]
            by_cases q : k + 1 ≤ l
            · exact .inl ⟨mone _ _ (by omega) q h3, .inr (.inl ⟨none_ _ _, none_ _ _, .inl (by show f < k + 1; omega)⟩)⟩
            · exact .inr (eone _ _ (by omega))
    · rw [w_two] at hw
      unfold twoW at hw
      rcases List.mem_cons.mp hw with rfl | hw
      · rw [List.mem_singleton.mp hd]
        by_cases q : f + 1 ≤ l
        · exact .inl ⟨mtwo _ _ (by omega) q h3, .inr (.inl ⟨ntwo _ _, ntwo _ _, .inl (by show f < f + 1; omega)⟩)⟩
        · exact .inr (etwo _ _ (by omega))
      · obtain ⟨k, hk, rfl⟩ := List.mem_map.mp hw
        have hk := mem_rng.mp hk
        rcases List.mem_cons.mp hd with rfl | hd
        · exact .inl ⟨mshut _ _ h1 (by omega) (by omega), .inr (.inl ⟨nshut _ _, ntwo _ _, .inr ⟨rfl, by
            by_cases q : k < l
            · exact .inl q
            · exact .inr ⟨by show k = l; omega, ix_shut_two⟩⟩⟩)⟩
        · rw [List.mem_singleton.mp hd]
          by_cases q : k + 1 ≤ l
          · exact .inl ⟨mone _ _ (by omega) q h3, .inr (.inl ⟨none_ _ _, ntwo _ _, .inl (by show f < k + 1; omega)⟩)⟩
          · exact .inr (eone _ _ (by omega))
    · rw [w_shut] at hw
      unfold shutW at hw
      split at hw
      · obtain ⟨w', hw2, rfl⟩ := List.mem_map.mp hw
        rcases List.mem_append.mp hw2 with hw | hw
        · rcases List.mem_cons.mp hw with rfl | hw
          · cases hd
          · obtain ⟨st, hst, hw⟩ := List.mem_flatMap.mp hw
            obtain ⟨en, hen, rfl⟩ := List.mem_map.mp hw
            have g1 := mem_rng.mp hst
            have g2 := mem_rng.mp hen
            rw [List.mem_singleton.mp hd]
            exact .inl ⟨mshut _ _ (by omega) (by omega) (by omega), .inr (.inl ⟨nshut _ _, nshut _ _, .inl (by show f < st; omega)⟩)⟩
        · rw [List.mem_singleton.mp hw] at hd
          rw [List.mem_singleton.mp hd]
          by_cases q : f + 1 ≤ l - 1
          · exact .inl ⟨mtwo _ _ (by omega) q (by omega), .inr (.inl ⟨ntwo _ _, nshut _ _, .inl (by show f < f + 1; omega)⟩)⟩
          · exact .inr (etwo _ _ (by omega))
      · cases hw
theorem fill_row {b : Book} {s : Str} {n : Int} (hn : 0 ≤ n) {k : K3} (hk : k ∈ fillKs n) (x : Int) : VS b s k x ↔ ∃ w ∈ waysOf b s k, WS (VS b s) w x := by
  obtain ⟨y, f, l⟩ := k
  rcases (fill_mem hn).mp hk with ⟨e, h1, h2, h3⟩ | ⟨h0, h1, h2, h3⟩
  · cases (show y = "open" from e)
    rw [vs_open, w_open]
    exact ways_open h1
  · have h0 : y = "one" ∨ y = "two" ∨ (y = "shut" ∧ f < l) := h0
    rcases h0 with rfl | rfl | ⟨rfl, h4⟩
    · rw [vs_one, w_one]; exact ways_one h1 h2
    · rw [vs_two, w_two]; exact ways_two h1 h2
    · rw [vs_shut, w_shut]; exact ways_shut h1 h4
theorem kk_inj {k j : K3} (h : kk k = kk j) : k = j := by
  obtain ⟨x, f, l⟩ := k
  obtain ⟨y, g, m⟩ := j
  unfold kk at h
  simp at h
  obtain ⟨rfl, rfl, rfl⟩ := h
  rfl
theorem gt_pt (es : List (List Key × D)) (k d : K3) (o : Option Int) : gt (ptD es (kk k) (optD o)) d = if k = d then o else gt es d := by
  unfold gt
  rw [lkp_ptD]
  by_cases q : k = d
  · subst q
    rw [if_pos rfl, if_pos rfl]
    cases o <;> rfl
  · rw [if_neg (fun e => q (kk_inj e)), if_neg q]
/-- the table, filled -/
theorem fill_inv {b : Book} {s : Str} {n : Int} (hn : 0 ≤ n) : ∀ (post pre : List K3) (es : List (List Key × D)), fillKs n = pre ++ post → (∀ k ∈ pre, IsMin (VS b s k) (gt es k)) → (∀ k, k ∉ pre → gt es k = none) → ∀ k ∈ fillKs n, IsMin (VS b s k) (gt (post.foldl (fillStep b s) es) k)
  | [], pre, es, hks, h1, h2 => fun k hk => h1 k (by rw [hks, List.append_nil] at hk; exact hk)
  | k :: post, pre, es, hks, h1, h2 => by
    have hk : k ∈ fillKs n := by rw [hks]; exact List.mem_append_right _ List.mem_cons_self
    have hmin : IsMin (VS b s k) (leastI ((waysOf b s k).map (comeTo es))) := by
      refine (ways_min fun w hw d hd => ?_).congr (fill_row hn hk)
      rcases fill_dep (b := b) (s := s) hn hk hw hd with ⟨hd1, hd2⟩ | ⟨hd1, hd2⟩
      · refine h1 d ?_
        rw [hks] at hd1
        rcases List.mem_append.mp hd1 with hd1 | hd1
        · exact hd1
        · have ho := fill_ord n
          rw [hks] at ho
          have ho := (List.pairwise_append.mp ho).2.1
          rcases List.mem_cons.mp hd1 with rfl | hd1
          · exact absurd hd2 (sb_irr _)
          · exact absurd hd2 ((List.pairwise_cons.mp ho).1 d hd1)
      · rw [h2 d fun hp => hd1 (by rw [hks]; exact List.mem_append_left _ hp)]
        exact hd2
    rw [List.foldl_cons]
    refine fill_inv hn post (pre ++ [k]) _ (by rw [hks, List.append_assoc]; rfl) (fun d hd => ?_) fun d hd => ?_
    · unfold fillStep
      rw [gt_pt]
      by_cases q : k = d
      · subst q
        rw [if_pos rfl]
        exact hmin
      · rw [if_neg q]
        rcases List.mem_append.mp hd with hd | hd
        · exact h1 d hd
        · exact absurd (List.mem_singleton.mp hd).symm q
    · unfold fillStep
      rw [gt_pt, if_neg (fun e => hd (List.mem_append_right _ (by rw [e]; exact List.mem_singleton.mpr rfl)))]
      exact h2 d fun hp => hd (List.mem_append_left _ hp)
theorem gt_nil (k : K3) : gt [] k = none := rfl
/-- the least worth is the least of all foldings' worths -/
theorem least_min (b : Book) (s : Str) : IsMin (fun x => ∃ F ∈ FL (mp b s) 0 s.length, x = worthOf b s F) (leastOf b s) := by
  have hn : (0 : Int) ≤ s.length := by omega
  have h := fill_inv (b := b) (s := s) hn (fillKs s.length) [] [] rfl (fun k hk => by cases hk) (fun k _ => gt_nil k) (k3 "open" 0 (s.length - 1)) (open_mem hn)
  refine IsMin.congr (S := VS b s (k3 "open" 0 (s.length - 1))) h fun x => ?_
  rw [vs_open]
  unfold VSo
  rw [show (s.length : Int) - 1 + 1 = s.length by omega]
  constructor
  · rintro ⟨F, hF, rfl⟩
    exact ⟨F, hF, by rw [worthOf_bw]; omega⟩
  · rintro ⟨F, hF, rfl⟩
    exact ⟨F, hF, by rw [worthOf_bw]; omega⟩
theorem least_some (b : Book) (s : Str) : ∃ v, leastOf b s = some v ∧ (∃ F ∈ FL (mp b s) 0 s.length, v = worthOf b s F) ∧ ∀ F ∈ FL (mp b s) 0 s.length, v ≤ worthOf b s F := by
  have h := least_min b s
  cases q : leastOf b s with
  | none =>
    rw [q] at h
    exact absurd ⟨[], nil_FL _ _, rfl⟩ (h (worthOf b s []))
  | some v =>
    rw [q] at h
    exact ⟨v, rfl, h.1, fun F hF => h.2 _ ⟨F, hF, rfl⟩⟩
/-! the law's own questions -/
theorem law_least {b : Book} {s s2 : Str} {v v2 : Int} (h1 : leastOf b s = some v) (h2 : leastOf b s2 = some v2) : heldW b s s2 (leastF b s s2) ≤ v + v2 := by
  obtain ⟨u, e1, ⟨A, hA, ha⟩, _⟩ := least_some b s
  obtain ⟨u2, e2, ⟨C, hC, hc⟩, _⟩ := least_some b s2
  rw [h1] at e1
  rw [h2] at e2
  cases e1
  cases e2
  have pA := (FL_proper _ _ A hA).1
  have pC := (FL_proper _ _ C hC).1
  have := (leastF_ok b s s2).2 _ (word_held (side_mp hA hC))
  rw [heldW_eq (side_nick pA pC), side_worth pA pC] at this
  omega
theorem law_edge {b : Book} {s s2 w : Str} (h : s.length = 0 ∨ s2.length = 0) (hw : s ++ s2 = w) : leastOf b w = some (heldW b s s2 (leastF b s s2)) ∧ worthOf b w (leastF b s s2) = heldW b s s2 (leastF b s s2) := by
  subst hw
  obtain ⟨g1, g2⟩ := leastF_ok b s s2
  have pm : ∀ G ∈ heldKs b s s2, heldW b s s2 G = worthOf b (s ++ s2) G := fun G hG => heldW_eq (edge_nick (FL_proper _ _ G ((mem_edge h).mp hG)).1 (by have := len_app s s2; omega))
  obtain ⟨v, e1, ⟨A, hA, ha⟩, hle⟩ := least_some b (s ++ s2)
  have h3 := g2 A ((mem_edge h).mpr hA)
  have h4 := hle _ ((mem_edge h).mp g1)
  rw [pm _ g1] at h3 ⊢
  rw [pm A ((mem_edge h).mpr hA)] at h3
  refine ⟨?_, rfl⟩
  rw [e1]
  congr 1
  omega
end Pf
set_option Elab.async false
set_option linter.all false
set_option maxRecDepth 100000
set_option maxHeartbeats 4000000
namespace Pf
open PySem L2
/-- what the law's questions are asked of -/
structure LawOk (b : Book) (s s2 : Str) : Prop where
  h : HeldOk b s s2
  ok1 : Sok s
  ok2 : Sok s2
def spSide : SpM := fun ds n P => ∃ b s s2, ds = [encB b, .str s, .str s2] ∧ n = 10 ∧ LawOk b s s2 ∧ P (.bool true)
def spNickless : SpM := fun ds n P => ∃ b s s2, ds = [encB b, .str s, .str s2] ∧ n = 6 ∧ LawOk b s s2 ∧ P (.bool true)
def spEmpty : SpF := fun ds P => ∃ b s, ds = [encB b, .str s] ∧ (OkB b ∧ Word b s ∧ Sok s ∧ s.length ≤ 8) ∧ P (.bool true)
section
variable {T : Tb} {q c : Addr} {cs : List Int} {wi : TI} {ρ : En} {α : Type} {enc : α → D} {xs : List α}
theorem emi_fix (h : EvI T wi ρ (xs.map enc)) : EvMI T q c cs 0 wi ρ (fun ds => ∃ ys : List α, ds = ys.map enc ∧ ys = xs) := fun G0 H0 G H σ Q u r S hl kk => evmi h G0 H0 G H σ Q u r S hl fun J ds u' r' G' H' a b e g it p => kk J ds u' r' G' H' a b e g it ⟨xs, p, rfl⟩
end
section
variable {b : Book} {s s2 : Str}
theorem LawOk.l1 (h : LawOk b s s2) : (s.length : Int) ≤ 8 := by have := h.h.l8; have := len_app s s2; omega
theorem LawOk.l2 (h : LawOk b s s2) : (s2.length : Int) ≤ 8 := by have := h.h.l8; have := len_app s s2; omega
theorem LawOk.word (h : LawOk b s s2) : Word b (s ++ s2) := ⟨by have := h.h.l8; omega, fun c hc => by
  rw [cps_app] at hc
  rcases List.mem_append.mp hc with hc | hc
  · exact h.h.w.2 c hc
  · exact h.h.w2.2 c hc⟩
theorem fold_PL (b : Book) (s : Str) : PL (foldKs b s).length (fun d => ∃ F ∈ FL (mp b s) 0 s.length, d = encF F) ((foldKs b s).map encF) := ⟨List.length_map _, fun d hd => by
  obtain ⟨F, hF, rfl⟩ := List.mem_map.mp hd
  exact ⟨F, mem_fold.mp hF, rfl⟩⟩
theorem fold_len (h : (s.length : Int) ≤ 8) : 1 ≤ (foldKs b s).length ∧ (foldKs b s).length ≤ 323 := by
  rw [len_fold]
  exact ⟨List.length_pos_of_mem (nil_FL _ _), len_FL (by omega)⟩
theorem foOk (hs : Sok s) (hl : (s.length : Int) ≤ 8) {F : Fo} (h : F ∈ FL (mp b s) 0 s.length) : FoOk s F := ⟨by omega, hs, (FL_proper _ _ F h).1⟩
theorem allPw_mp {F : Fo} (h : F ∈ FL (mp b s) 0 s.length) : allPw b s F := fun p hp => (mp_mh.mp ((FL_proper _ _ F h).2 p hp)).1
theorem held_true {F : Fo} (h : F ∈ FL (mp b s) 0 s.length) (n : Int) : heldB b n F = true := held_of_mp (FL_proper _ _ F h).2
end
end Pf
set_option Elab.async false
set_option linter.all false
set_option maxRecDepth 100000
set_option maxHeartbeats 4000000
namespace Pf
open PySem PySem.Spec L2
open PyProof.Rows PySem.Calls
section
variable {P : Program} {w : World} {K : PySem.W.Frag} {mg : Str → Option Value} {base : Heap} {T : Tb} {L : Addr}
theorem sc_law_side_by_side : FnScope (["_law_pen", "_law_book", "_law_one", "_law_two_here", "_law_mine", "_law_yours", "_law_k", "_law_shape", "_law_other", "_law_both"] : List Str) (["_law_pen", "_law_book", "_law_one", "_law_two_here"] : List Str) (defScope (topS 67)) := ⟨rfl, rfl, rfl, by decide +kernel, rfl, by decide +kernel, by decide +kernel⟩
theorem ok_law_side_by_side {f : Addr} {fd : FuncData} (t : Tx K mg L) (F : FnP K "_law_side_by_side" 67 f fd) (gm : mg "_law_side_by_side" = some (.ref f)) (c__law_draw : CalM P w K mg base T 1 "_law_draw" ["_law_pen", "_law_many"] spDraw) (c__law_moved : Cal P w K mg base T 1 "_law_moved" ["_law_shape", "_law_by"] spMoved) (c_all_foldings : Cal P w K mg base T 12 "all_foldings" ["rules", "string"] spAllFold) (c_is_held : Cal P w K mg base T 3 "is_held" ["rules", "string", "string2", "thing"] spIsHeld) (c_held_worth : Cal P w K mg base T 4 "held_worth" ["rules", "string", "string2", "folding"] spHeldWorth) (c_worth_of : Cal P w K mg base T 4 "worth_of" ["rules", "string", "folding"] spWorthOf) (c_how_many_held : Cal P w K mg base T 13 "how_many_held" ["rules", "string", "string2"] spManyHeld) : CalM P w K mg base T 14 "_law_side_by_side" ["_law_pen", "_law_book", "_law_one", "_law_two_here"] spSide := by
  have sc := sc_law_side_by_side
  refine calM_of F sc gm (fun _ _ _ _ _ _ us hl => match us, hl with | [_, _, _, _], _ => rfl) (fun ds n P hF => ?_) fun cdv A outer s H vs Q E hr => ?_
  · obtain ⟨_, _, _, rfl, _⟩ := hF; rfl
  · have hu := hu64 hr
    have hu1 := hu_of hr
    obtain ⟨tkM, hM⟩ := t.MOST
    refine ⟨_, PSs.nox (pss_cons (ps_par (i := 4) (j := 5) rfl sc.nd rfl rfl (by decide) rfl rfl (pa_cons (pe_cal c_all_foldings hr (by decide) (by rfl) (pa_cons (pv 1) (pa_cons (pv 2) pa_nil))) (pa_cons (pe_cal c_all_foldings hr (by decide) (by rfl) (pa_cons (pv 1) (pa_cons (pv 3) pa_nil))) pa_nil)) rfl) (pss_cons (ps_for PassesOwn.never rfl (pi_range1 (by rfl) t.range (pa_cons pe_int pa_nil)) (pg_name (i := 6) sc.nd rfl (.inl rfl)) (pss_cons (ps_par (i := 7) (j := 8) rfl sc.nd rfl rfl (by decide) rfl rfl (pa_cons (pe_ix (k_ix_list K) (pv 4) (pe_calM c__law_draw hr (by decide) (by rfl) (pa_cons (pv 0) (pa_cons (pe_callB (k_len K) (by rfl) t.len boot_len (pa_cons (pv 4) pa_nil)) pa_nil))) (fun _ _ => rfl)) (pa_cons (pe_ix (k_ix_list K) (pv 5) (pe_calM c__law_draw hr (by decide) (by rfl) (pa_cons (pv 0) (pa_cons (pe_callB (k_len K) (by rfl) t.len boot_len (pa_cons (pv 5) pa_nil)) pa_nil))) (fun _ _ => rfl)) pa_nil)) rfl) (pss_cons (ps_set (i := 9) sc.nd rfl (.inl rfl) (pe_op (k_op_catA K) (pv 7) (pe_cal c__law_moved hr (by decide) (by rfl) (pa_cons (pv 8) (pa_cons (pe_callB (k_len K) (by rfl) t.len boot_len (pa_cons (pv 2) pa_nil)) pa_nil))))) (pss_cons (ps_if (pt_cmpR op_isnot_bl (pe_cal c_is_held hr (by decide) (by rfl) (pa_cons (pv 1) (pa_cons (pv 2) (pa_cons (pv 3) (pa_cons (pv 9) pa_nil))))) pe_bl (nomark _)) (pss_one (ps_ret pe_bl)) pss_nil) (pss_one (ps_if (pt_cmpR op_ne (pe_cal c_held_worth hr (by decide) (by rfl) (pa_cons (pv 1) (pa_cons (pv 2) (pa_cons (pv 3) (pa_cons (pv 9) pa_nil))))) (pe_op op_add (pe_cal c_worth_of hr (by decide) (by rfl) (pa_cons (pv 1) (pa_cons (pv 2) (pa_cons (pv 7) pa_nil)))) (pe_cal c_worth_of hr (by decide) (by rfl) (pa_cons (pv 1) (pa_cons (pv 3) (pa_cons (pv 8) pa_nil))))) (nomark _)) (pss_one (ps_ret pe_bl)) pss_nil)))))) (pss_one (ps_ret (pe_cmpR op_ge (pe_cal c_how_many_held hr (by decide) (by rfl) (pa_cons (pv 1) (pa_cons (pv 2) (pa_cons (pv 3) pa_nil)))) (pe_op op_mul (pe_callB (k_len K) (by rfl) t.len boot_len (pa_cons (pv 4) pa_nil)) (pe_callB (k_len K) (by rfl) t.len boot_len (pa_cons (pv 5) pa_nil))) (nomark _)))))), fun q c cs ds n P hcs hF => ?_⟩
    obtain ⟨b, s, s2, rfl, rfl, h, hP⟩ := hF
    have h1 := h.l1
    have h2 := h.l2
    have h8 := h.h.l8
    have m1 := fold_len (b := b) h1
    have m2 := fold_len (b := b) h2
    have hm1 : ((foldKs b s).map encF).length = (foldKs b s).length := List.length_map _
    have hm2 : ((foldKs b s2).map encF).length = (foldKs b s2).length := List.length_map _
    refine SvM.imp (n := 0 + (10 + 0)) (svm_seq (n := 0) (m := 10 + 0) (svm_par (eam (ea_cons (ev_call (ea_cons ev_v (ea_cons ev_v ea_nil)) ⟨b, s, rfl, ⟨h.h.bk, h.h.w, by omega⟩, rfl⟩) (ea_cons (ev_call (ea_cons ev_v (ea_cons ev_v ea_nil)) ⟨b, s2, rfl, ⟨h.h.bk, h.h.w2, by omega⟩, rfl⟩) ea_nil))) fun ds hds => ⟨_, _, hds, ?_⟩)) (by decide) (fun _ h => h) (fun _ h => h)
    refine svm_seq (n := 0 + 5 * 2) (m := 0) (svm_for (n := 0) (k := 2) (is := [6]) PyData.int (fun xs => xs = rng 0 5) 5 (fun i ρ => ∃ s6 s7 s8 s9 : Sl, ρ = [.dat (ptrD q), .dat (encB b), .dat (.str s), .dat (.str s2), .dat (.list ((foldKs b s).map encF)), .dat (.list ((foldKs b s2).map encF)), s6, s7, s8, s9]) (emi_fix (ei_r1 (ea_cons ev_int ea_nil) (by decide))) (fun xs e => by rw [e, len_rng]; decide) ⟨_, _, _, _, rfl⟩ ?_ ?_)
    · rintro xs i x ρi rfl hx ⟨s6, s7, s8, s9, rfl⟩
      refine ⟨_, eg_n, ?_⟩
      refine SvM.imp (n := 2 + 0) (svm_seq (n := 2) (m := 0) (SvM.imp (n := 2) (svm_par (eam_cons (evm_pickL (n := 0) (evm_d ev_v ⟨_, rfl, fold_PL b s⟩) (evm_draw (many := ((foldKs b s).length : Nat)) rfl hcs (ea_cons (Ev.to (ev_cb (ea_cons ev_v ea_nil) cl_lenL) (by rw [hm1])) ea_nil) (by omega))) (eam_cons (evm_pickL (n := 0) (evm_d ev_v ⟨_, rfl, fold_PL b s2⟩) (evm_draw (many := ((foldKs b s2).length : Nat)) rfl hcs (ea_cons (Ev.to (ev_cb (ea_cons ev_v ea_nil) cl_lenL) (by rw [hm2])) ea_nil) (by omega))) eam_nil)) fun ds hds => ?_) (by decide) (fun _ h => h) (fun _ h => h))) (by decide) (fun _ h => h) (fun _ h => h)
      obtain ⟨d1, es, rfl, ⟨A, hA, rfl⟩, d2, es2, rfl, ⟨C, hC, rfl⟩, rfl⟩ := hds
      refine ⟨_, _, rfl, ?_⟩
      have pA := (FL_proper _ _ A hA).1
      have pC := (FL_proper _ _ C hC).1
      have lA := pA.len (by omega)
      have lC := pC.len (by omega)
      have hAC := side_mp hA hC
      have hFo : FoOk (s ++ s2) (A ++ moved C s.length) := ⟨by omega, h.h.ok, (FL_proper _ _ _ hAC).1⟩
      have hn := side_nick pA pC
      refine svm (sv_seq (sv_as (d := encF (A ++ moved C s.length)) (Ev.to (ev_op ev_v (ev_call (ea_cons ev_v (ea_cons (ev_cb (ea_cons ev_v ea_nil) (cl_lenS (le16 (by omega)))) ea_nil)) ⟨C, s.length, rfl, by omega, rfl⟩) (od_catA (le16 (by rw [List.length_map, List.length_map, mv_len]; omega)))) (by rw [← List.map_append])) ?_))
      refine sv_seq (sv_ifF (et_to (et_test (ev_op (ev_call (ea_cons ev_v (ea_cons ev_v (ea_cons ev_v (ea_cons ev_v ea_nil)))) ⟨b, s, s2, _, rfl, ⟨h.h.bk, h.h.w, h.h.w2, hFo, allPw_mp hAC⟩, rfl⟩) ev_bl od_isnotBl)) (by rw [held_true hAC]; rfl)) (sv_next ?_))
      refine sv_ifF (et_to (et_test (ev_op (ev_call (ea_cons ev_v (ea_cons ev_v (ea_cons ev_v (ea_cons ev_v ea_nil)))) ⟨b, s, s2, _, rfl, ⟨h.h.bk, hFo, allPw_mp hAC⟩, rfl⟩) (ev_op (ev_call (ea_cons ev_v (ea_cons ev_v (ea_cons ev_v ea_nil))) ⟨b, s, A, rfl, ⟨h.h.bk, foOk h.ok1 h1 hA, allPw_mp hA⟩, rfl⟩) (ev_call (ea_cons ev_v (ea_cons ev_v (ea_cons ev_v ea_nil))) ⟨b, s2, C, rfl, ⟨h.h.bk, foOk h.ok2 h2 hC, allPw_mp hC⟩, rfl⟩) od_i) (od_ne rfl))) ?_) (sv_next ⟨_, _, _, _, rfl⟩)
      rw [heldW_eq hn, side_worth pA pC]
      simp [sclEq]
    · rintro xs ρ' rfl ⟨s6, s7, s8, s9, rfl⟩
      have hmany := many_side b s s2
      refine svm (sv_ret (ev_op (ev_call (ea_cons ev_v (ea_cons ev_v (ea_cons ev_v ea_nil))) ⟨b, s, s2, rfl, h.h, rfl⟩) (ev_op (ev_cb (ea_cons ev_v ea_nil) cl_lenL) (ev_cb (ea_cons ev_v ea_nil) cl_lenL) (od_iC (.inl ⟨by omega, by omega⟩))) od_b) ?_)
      rw [hm1, hm2, len_fold, len_fold, decide_eq_true (by push_cast at *; exact_mod_cast hmany)]
      exact hP
end
end Pf
set_option Elab.async false
set_option linter.all false
set_option maxRecDepth 100000
set_option maxHeartbeats 4000000
namespace Pf
open PySem PySem.Spec L2
open PyProof.Rows PySem.Calls
section
variable {P : Program} {w : World} {K : PySem.W.Frag} {mg : Str → Option Value} {base : Heap} {T : Tb} {L : Addr}
theorem sc_law_without_nick : FnScope (["_law_pen", "_law_book", "_law_one", "_law_two_here", "_law_word", "_law_shapes", "_law_k", "_law_shape"] : List Str) (["_law_pen", "_law_book", "_law_one", "_law_two_here"] : List Str) (defScope (topS 68)) := ⟨rfl, rfl, rfl, by decide +kernel, rfl, by decide +kernel, by decide +kernel⟩
theorem ok_law_without_nick {f : Addr} {fd : FuncData} (t : Tx K mg L) (F : FnP K "_law_without_nick" 68 f fd) (gm : mg "_law_without_nick" = some (.ref f)) (c__law_draw : CalM P w K mg base T 1 "_law_draw" ["_law_pen", "_law_many"] spDraw) (c__law_nick : Cal P w K mg base T 1 "_law_nick" ["_law_at", "_law_shape"] spLawNick) (c_all_foldings : Cal P w K mg base T 12 "all_foldings" ["rules", "string"] spAllFold) (c_is_held : Cal P w K mg base T 3 "is_held" ["rules", "string", "string2", "thing"] spIsHeld) (c_held_worth : Cal P w K mg base T 4 "held_worth" ["rules", "string", "string2", "folding"] spHeldWorth) (c_worth_of : Cal P w K mg base T 4 "worth_of" ["rules", "string", "folding"] spWorthOf) (c_how_many_held : Cal P w K mg base T 13 "how_many_held" ["rules", "string", "string2"] spManyHeld) : CalM P w K mg base T 14 "_law_without_nick" ["_law_pen", "_law_book", "_law_one", "_law_two_here"] spNickless := by
  have sc := sc_law_without_nick
  refine calM_of F sc gm (fun _ _ _ _ _ _ us hl => match us, hl with | [_, _, _, _], _ => rfl) (fun ds n P hF => ?_) fun cdv A outer s H vs Q E hr => ?_
  · obtain ⟨_, _, _, rfl, _⟩ := hF; rfl
  · have hu := hu64 hr
    have hu1 := hu_of hr
    obtain ⟨tkM, hM⟩ := t.MOST
    refine ⟨_, PSs.nox (pss_cons (ps_set (i := 4) sc.nd rfl (.inl rfl) (pe_op op_add_str (pv 2) (pv 3))) (pss_cons (ps_set (i := 5) sc.nd rfl (.inl rfl) (pe_cal c_all_foldings hr (by decide) (by rfl) (pa_cons (pv 1) (pa_cons (pv 4) pa_nil)))) (pss_cons (ps_for PassesOwn.never rfl (pi_range1 (by rfl) t.range (pa_cons pe_int pa_nil)) (pg_name (i := 6) sc.nd rfl (.inl rfl)) (pss_cons (ps_set (i := 7) sc.nd rfl (.inl rfl) (pe_ix (k_ix_list K) (pv 5) (pe_calM c__law_draw hr (by decide) (by rfl) (pa_cons (pv 0) (pa_cons (pe_callB (k_len K) (by rfl) t.len boot_len (pa_cons (pv 5) pa_nil)) pa_nil))) (fun _ _ => rfl))) (pss_cons (ps_if (pt_cmpR op_isnot_bl (pe_cal c_is_held hr (by decide) (by rfl) (pa_cons (pv 1) (pa_cons (pv 2) (pa_cons (pv 3) (pa_cons (pv 7) pa_nil))))) pe_bl (nomark _)) (pss_one (ps_ret pe_bl)) pss_nil) (pss_one (ps_if (pt_cmpR op_isN (pe_cal c__law_nick hr (by decide) (by rfl) (pa_cons (pe_callB (k_len K) (by rfl) t.len boot_len (pa_cons (pv 2) pa_nil)) (pa_cons (pv 7) pa_nil))) pe_non (nomark _)) (pss_one (ps_if (pt_cmpR op_ne (pe_cal c_held_worth hr (by decide) (by rfl) (pa_cons (pv 1) (pa_cons (pv 2) (pa_cons (pv 3) (pa_cons (pv 7) pa_nil))))) (pe_cal c_worth_of hr (by decide) (by rfl) (pa_cons (pv 1) (pa_cons (pv 4) (pa_cons (pv 7) pa_nil)))) (nomark _)) (pss_one (ps_ret pe_bl)) pss_nil)) pss_nil))))) (pss_one (ps_ret (pe_cmpR op_ge (pe_cal c_how_many_held hr (by decide) (by rfl) (pa_cons (pv 1) (pa_cons (pv 2) (pa_cons (pv 3) pa_nil)))) (pe_callB (k_len K) (by rfl) t.len boot_len (pa_cons (pv 5) pa_nil)) (nomark _))))))), fun q c cs ds n P hcs hF => ?_⟩
    obtain ⟨b, s, s2, rfl, rfl, h, hP⟩ := hF
    have h8 := h.h.l8
    have h1 := h.l1
    have h2 := h.l2
    have hl8 : ((s ++ s2).length : Int) ≤ 8 := by omega
    have m1 := fold_len (b := b) hl8
    have hm1 : ((foldKs b (s ++ s2)).map encF).length = (foldKs b (s ++ s2)).length := List.length_map _
    refine SvM.imp (n := 0 + (0 + (6 + 0))) (svm_seq (n := 0) (m := 0 + (6 + 0)) (svm (sv_as (ev_op ev_v ev_v (od_str (le16 (by omega)))) ?_))) (by decide) (fun _ h => h) (fun _ h => h)
    refine svm_seq (n := 0) (m := 6 + 0) (svm (sv_as (ev_call (ea_cons ev_v (ea_cons ev_v ea_nil)) ⟨b, s ++ s2, rfl, ⟨h.h.bk, h.word, by omega⟩, rfl⟩) ?_))
    refine svm_seq (n := 0 + 6 * 1) (m := 0) (svm_for (n := 0) (k := 1) (is := [6]) PyData.int (fun xs => xs = rng 0 6) 6 (fun i ρ => ∃ s6 s7 : Sl, ρ = [.dat (ptrD q), .dat (encB b), .dat (.str s), .dat (.str s2), .dat (.str (s ++ s2)), .dat (.list ((foldKs b (s ++ s2)).map encF)), s6, s7]) (emi_fix (ei_r1 (ea_cons ev_int ea_nil) (by decide))) (fun xs e => by rw [e, len_rng]; decide) ⟨_, _, rfl⟩ ?_ ?_)
    · rintro xs i x ρi rfl hx ⟨s6, s7, rfl⟩
      refine ⟨_, eg_n, ?_⟩
      refine SvM.imp (n := 1 + 0) (svm_seq (n := 1) (m := 0) (SvM.imp (n := 0 + 1) (svm_asg (evm_pickL (n := 0) (evm_d ev_v ⟨_, rfl, fold_PL b (s ++ s2)⟩) (evm_draw (many := ((foldKs b (s ++ s2)).length : Nat)) rfl hcs (ea_cons (Ev.to (ev_cb (ea_cons ev_v ea_nil) cl_lenL) (by rw [hm1])) ea_nil) (by omega))) ?_) (by decide) (fun _ h => h) (fun _ h => h))) (by decide) (fun _ h => h) (fun _ h => h)
      rintro d ⟨F, hF, rfl⟩
      have pF := (FL_proper _ _ F hF).1
      have hFo : FoOk (s ++ s2) F := ⟨by omega, h.h.ok, pF⟩
      refine svm (sv_seq (sv_ifF (et_to (et_test (ev_op (ev_call (ea_cons ev_v (ea_cons ev_v (ea_cons ev_v (ea_cons ev_v ea_nil)))) ⟨b, s, s2, _, rfl, ⟨h.h.bk, h.h.w, h.h.w2, hFo, allPw_mp hF⟩, rfl⟩) ev_bl od_isnotBl)) (by rw [held_true hF]; rfl)) (sv_next ?_)))
      refine sv_if (et_test (ev_op (ev_call (ea_cons (ev_cb (ea_cons ev_v ea_nil) (cl_lenS (le16 (by omega)))) (ea_cons ev_v ea_nil)) ⟨s.length, F, (s ++ s2).length, rfl, ⟨pF, by omega, by omega⟩, rfl⟩) ev_non od_isN)) (fun hn => ?_) (fun _ => sv_next ⟨_, _, rfl⟩)
      have hn' : nick s.length F = none := by
        cases q0 : nick s.length F with
        | none => rfl
        | some p => rw [q0] at hn; cases hn
      refine sv_ifF (et_to (et_test (ev_op (ev_call (ea_cons ev_v (ea_cons ev_v (ea_cons ev_v (ea_cons ev_v ea_nil)))) ⟨b, s, s2, _, rfl, ⟨h.h.bk, hFo, allPw_mp hF⟩, rfl⟩) (ev_call (ea_cons ev_v (ea_cons ev_v (ea_cons ev_v ea_nil))) ⟨b, s ++ s2, F, rfl, ⟨h.h.bk, hFo, allPw_mp hF⟩, rfl⟩) (od_ne rfl))) ?_) (sv_next ⟨_, _, rfl⟩)
      rw [heldW_eq hn']
      simp [sclEq]
    · rintro xs ρ' rfl ⟨s6, s7, rfl⟩
      have hmany := many_word b s s2
      refine svm (sv_ret (ev_op (ev_call (ea_cons ev_v (ea_cons ev_v (ea_cons ev_v ea_nil))) ⟨b, s, s2, rfl, h.h, rfl⟩) (ev_cb (ea_cons ev_v ea_nil) cl_lenL) od_b) ?_)
      rw [hm1, len_fold, decide_eq_true (by exact_mod_cast hmany)]
      exact hP
end
end Pf
set_option Elab.async false
set_option linter.all false
set_option maxRecDepth 100000
set_option maxHeartbeats 4000000
namespace Pf
open PySem L2
abbrev enc2 (p : Str × Str) : D := .tuple [.str p.1, .str p.2]
theorem empty_ok {b : Book} {s : Str} (hb : OkB b) (hw : Word b s) (hs : Sok s) (h8 : s.length ≤ 8) {p : Str × Str} (hp : p ∈ [(s, ("" : Str)), (("" : Str), s)]) : (p.1.length = 0 ∨ p.2.length = 0) ∧ p.1 ++ p.2 = s ∧ HeldOk b p.1 p.2 := by
  have he : Word b ("" : Str) := ⟨by decide, fun c hc => by cases hc⟩
  have e1 : s ++ ("" : Str) = s := app_emp rfl
  have e2 : ("" : Str) ++ s = s := emp_app rfl
  rcases List.mem_cons.mp hp with rfl | hp
  · exact ⟨.inr rfl, e1, ⟨hb, hw, he, by rw [e1]; exact h8, by rw [e1]; exact hs⟩⟩
  · rw [List.mem_singleton.mp hp]
    exact ⟨.inl rfl, e2, ⟨hb, he, hw, by rw [e2]; exact h8, by rw [e2]; exact hs⟩⟩
end Pf
set_option Elab.async false
set_option linter.all false
set_option maxRecDepth 100000
set_option maxHeartbeats 4000000
namespace Pf
open PySem PySem.Spec L2
open PyProof.Rows PySem.Calls
section
variable {P : Program} {w : World} {K : PySem.W.Frag} {mg : Str → Option Value} {base : Heap} {T : Tb} {L : Addr}
theorem sc_law_empty_right : FnScope (["_law_book", "_law_word", "_law_one", "_law_two_here", "_law_value", "_law_shape"] : List Str) (["_law_book", "_law_word"] : List Str) (defScope (topS 69)) := ⟨rfl, rfl, rfl, by decide +kernel, rfl, by decide +kernel, by decide +kernel⟩
theorem ok_law_empty_right {f : Addr} {fd : FuncData} (t : Tx K mg L) (F : FnP K "_law_empty_right" 69 f fd) (gm : mg "_law_empty_right" = some (.ref f)) (c_how_many_held : Cal P w K mg base T 13 "how_many_held" ["rules", "string", "string2"] spManyHeld) (c_how_many : Cal P w K mg base T 4 "how_many" ["rules", "string"] spHowMany) (c_least_together : Cal P w K mg base T 13 "least_together" ["rules", "string", "string2"] spLeastTogether) (c_least_worth : Cal P w K mg base T 6 "least_worth" ["rules", "string"] spLeastWorth) (c_worth_of : Cal P w K mg base T 4 "worth_of" ["rules", "string", "folding"] spWorthOf) : Cal P w K mg base T 14 "_law_empty_right" ["_law_book", "_law_word"] spEmpty := by
  have sc := sc_law_empty_right
  refine cal_of F sc gm (fun _ _ _ _ _ _ us hl => match us, hl with | [_, _], _ => rfl) (fun ds P hF => ?_) fun cdv A outer s H vs Q E hr => ?_
  · obtain ⟨_, _, rfl, _⟩ := hF; rfl
  · have hu := hu64 hr
    have hu1 := hu_of hr
    obtain ⟨tkM, hM⟩ := t.MOST
    refine ⟨_, PSs.nox (pss_cons (ps_for PassesOwn.never rfl (k_pi_list K (pe_lst (pa_cons (pe_tup (pa_cons (pv 1) (pa_cons pe_str pa_nil))) (pa_cons (pe_tup (pa_cons pe_str (pa_cons (pv 1) pa_nil))) pa_nil)))) (k_pg_tup K (n := 2) rfl (pgs_cons (pg_name (i := 2) sc.nd rfl (.inl rfl)) (pgs_cons (pg_name (i := 3) sc.nd rfl (.inl rfl)) pgs_nil))) (pss_cons (ps_if (pt_cmpR op_ne (pe_cal c_how_many_held hr (by decide) (by rfl) (pa_cons (pv 0) (pa_cons (pv 2) (pa_cons (pv 3) pa_nil)))) (pe_cal c_how_many hr (by decide) (by rfl) (pa_cons (pv 0) (pa_cons (pv 1) pa_nil))) (nomark _)) (pss_one (ps_ret pe_bl)) pss_nil) (pss_cons (ps_asg (pe_cal c_least_together hr (by decide) (by rfl) (pa_cons (pv 0) (pa_cons (pv 2) (pa_cons (pv 3) pa_nil)))) (k_pg_tup K (n := 2) rfl (pgs_cons (pg_name (i := 4) sc.nd rfl (.inl rfl)) (pgs_cons (pg_name (i := 5) sc.nd rfl (.inl rfl)) pgs_nil)))) (pss_one (ps_if (PW.pt (pw_or (pt_cmpR op_ne (pv 4) (pe_cal c_least_worth hr (by decide) (by rfl) (pa_cons (pv 0) (pa_cons (pv 1) pa_nil))) (nomark _)) (pw_or1 (pt_cmpR op_ne (pe_cal c_worth_of hr (by decide) (by rfl) (pa_cons (pv 0) (pa_cons (pv 1) (pa_cons (pv 5) pa_nil)))) (pv 4) (nomark _))))) (pss_one (ps_ret pe_bl)) pss_nil))))) (pss_one (ps_ret pe_bl))), fun ds P hF => ?_⟩
    obtain ⟨b, s, rfl, ⟨hb, hw, hs, h8⟩, hP⟩ := hF
    refine sv_seq (sv_for (is := [2, 3]) [(s, ("" : Str)), (("" : Str), s)] enc2 (fun i => [.dat (encB b), .dat (.str s), .any, .any, .any, .any]) (ei_list (ev_ls (ea_cons (ev_tp (ea_cons ev_v (ea_cons ev_str ea_nil))) (ea_cons (ev_tp (ea_cons ev_str (ea_cons ev_v ea_nil))) ea_nil)))) (.same (.same (.any (.any (.any (.any .nil)))))) (fun i p hp => ?_) (sv_ret ev_bl hP))
    have hmem := List.mem_of_getElem? hp
    obtain ⟨h1, h2, h3⟩ := empty_ok hb hw hs h8 hmem
    obtain ⟨one, two⟩ := p
    obtain ⟨w1, w2⟩ := law_edge (b := b) h1 h2
    have hlf : leastF b one two ∈ FL (mp b s) 0 s.length := by
      have := (mem_edge h1).mp (leastF_ok b one two).1
      rwa [h2] at this
    have hlen : (heldKs b one two).length = (FL (mp b s) 0 s.length).length := by
      have := len_edge (b := b) h1
      rwa [h2] at this
    refine ⟨_, eg_tup (egs_cons eg_n (egs_cons eg_n egs_nil)) rfl, ?_⟩
    refine sv_seq (sv_ifF (et_to (et_test (ev_op (ev_call (ea_cons ev_v (ea_cons ev_v (ea_cons ev_v ea_nil))) ⟨b, one, two, rfl, h3, rfl⟩) (ev_call (ea_cons ev_v (ea_cons ev_v ea_nil)) ⟨b, s, rfl, ⟨hb, hw, h8⟩, rfl⟩) (od_ne rfl))) (by rw [hlen]; simp [sclEq])) (sv_next ?_))
    refine sv_seq (sv_asgG (ev_call (ea_cons ev_v (ea_cons ev_v (ea_cons ev_v ea_nil))) ⟨b, one, two, rfl, h3, rfl⟩) (eg_tup (egs_cons eg_n (egs_cons eg_n egs_nil)) rfl) ?_)
    refine sv_ifF (et_to (et_or (et_test (ev_op ev_v (Ev.to (ev_call (ea_cons ev_v (ea_cons ev_v ea_nil)) ⟨b, s, rfl, ⟨hb, hw, hs⟩, rfl⟩) ((congrArg optD w1).trans (show optD (some (heldW b one two (leastF b one two))) = PyData.int (heldW b one two (leastF b one two)) from rfl))) (od_ne (x := PyData.int _) (y := PyData.int _) rfl))) fun _ => et_test (ev_op (ev_call (ea_cons ev_v (ea_cons ev_v (ea_cons ev_v ea_nil))) ⟨b, s, leastF b one two, rfl, ⟨hb, foOk hs (by omega) hlf, allPw_mp hlf⟩, rfl⟩) ev_v (od_ne rfl))) (by rw [w2]; simp [sclEq])) (sv_next (.same (.same (.any (.any (.any (.any .nil)))))))
end
end Pf
set_option Elab.async false
set_option linter.all false
set_option maxRecDepth 100000
set_option maxHeartbeats 4000000
namespace Pf
open PySem PySem.Spec L2
open PyProof.Rows PySem.Calls
/-! ### the law itself -/
structure CalS (P : Program) (w : World) (K : PySem.W.Frag) (mg : Str → Option Value) (base : Heap) (k : Nat) (x : Str) (ps : List Str) (sp : Sp) : Prop where
  ex : ∃ f fd, mg x = some (.ref f) ∧ PySem.W.keepIn K (.ref f) = true ∧ Binds K fd ps [] ∧ FnOk P w K mg base CX0 k f fd ps sp
section
variable {X : Cx} {sp : Sp} {k k' : Nat} {x : Str} {ps : List Str} {e : Expr} {es : List Expr} {t : TA} {p pos : Pos}
theorem pe_calS (c : CalS X.prog X.w X.K X.mg X.base k x ps sp) (hr : Room k' X.A) (hk : k ≤ k') (hg : Gl X x) (ha : PA X (e :: es) t) (hdb : (x == ("__debug__" : Str)) = false := by decide)
    (he : starEach (e :: es) X.env = (false, eval e X.env) :: starEach es X.env := by rfl) (hpl : (backTo pos (starEach es X.env)).any (·.1) = false := by rfl) :
    PE X (.Call (.Name x p) (e :: es) [] pos) (tCall sp [] E0 t) := by
  obtain ⟨f, fd, hm, hkp, hb, G⟩ := c.ex
  exact pe_call G (hr.mono hk) hg hm hkp hb .nil pass0 ha hdb he hpl
end
def spStart (K : PySem.W.Frag) (T : Tb) : Sp := fun vs H Q _ => ∃ (a : Addr) (ns : List Int), vs = [.ref a] ∧ SqL K H a (ns.map V.int) ∧ LamX.Tabs T H ∧
  ∀ (q c : Addr) (cs : List Int) (G' H' : Hp), cs.length ≤ 1000 → Wf T G' H' → H' q = some (pen c 0 0) → G' q = none → Rep G' (.ref c) (.list (cs.map .int)) → Q (.ref q) H'
def spLawS (K : PySem.W.Frag) (T : Tb) : Sp := fun vs H Q _ => ∃ (a : Addr) (ns : List Int), vs = [.ref a] ∧ SqL K H a (ns.map V.int) ∧ LamX.Tabs T H ∧ ∀ H', Q (.bl true) H'
theorem reps_ints (G : Hp) : ∀ ns : List Int, Reps G (ns.map V.int) (ns.map .int)
  | [] => .nil
  | n :: ns => .cons (.int n) (reps_ints G ns)
theorem cutV_ints (ns : List Int) : ∃ cs : List Int, cutV (ns.map V.int) none (some 63) = cs.map V.int ∧ cs.length ≤ 1000 := by
  refine ⟨(ns.drop (HT.sIx (ns.map V.int).length 0 none)).take (HT.sIx (ns.map V.int).length (ns.map V.int).length (some 63) - HT.sIx (ns.map V.int).length 0 none), ?_, ?_⟩
  · unfold cutV
    rw [← List.map_drop, ← List.map_take]
  · rw [List.length_take]
    have : HT.sIx (ns.map V.int).length (ns.map V.int).length (some 63) ≤ 63 := by simp [HT.sIx]; omega
    omega
section
variable {T : Tb} {q c : Addr} {cs : List Int} {n m : Nat} {te : TE} {tt tu : TT} {ρ : En}
theorem etm_notB (h : EvM T q c cs n te ρ (· = .bool true)) : EvMT T q c cs n (tNot (tB te)) ρ (· = false) := fun G0 H0 G H σ Q u r S hl kk =>
  h G0 H0 G H σ _ u r S hl fun v d u1 r1 G1 H1 a1 b1 e1 g1 rr1 p1 => by
    subst p1
    cases rr1
    exact ⟨true, rfl, kk false u1 r1 G1 H1 a1 b1 e1 g1 rfl⟩
theorem etm_or0 (h : EvMT T q c cs n tt ρ (· = false)) (h2 : EvMT T q c cs m tu ρ (· = false)) : EvMT T q c cs (n + m) (tOr tt tu) ρ (· = false) := fun G0 H0 G H σ Q u r S hl kk =>
  h G0 H0 G H σ _ u r S (by omega) fun b u1 r1 G1 H1 a1 b1 e1 g1 p1 => by
    subst p1
    show (if false = true then Q true H1 else tu σ H1 Q)
    rw [if_neg Bool.false_ne_true]
    refine h2 G0 H0 G1 H1 σ Q u1 r1 (S.move g1 (by have := S.u0; omega) e1) (by omega) fun b2 u2 r2 G2 H2 a2 b2' e2 g2 p2 => ?_
    subst p2
    exact kk false u2 r2 G2 H2 (by omega) (by omega) e2 (pgo g1 g2 S.gq) rfl
end
/-- the law's own start: the pen stands in slot 1 -/
theorem start_law {T : Tb} {q c a : Addr} {cs : List Int} {n : Nat} {ts : TS} {Ns : List Str} {G H : Hp} {E : Ends} (hn : (n : Int) ≤ lim) (hw : Wf T G H) (hq : H q = some (pen c 0 0)) (hg : G q = none) (hc : Rep G (.ref c) (.list (cs.map .int))) (hN : Ns.length = 6) (hk : ∀ H', E.rt (.bl true) H')
    (h : SvM T q c cs n ts [.any, .dat (ptrD q), .any, .any, .any, .any] (fun _ => False) (· = .bool true)) : gName 1 (.ref q) (L2.start Ns [.ref a]) H (ts E) := by
  have e : ∃ x0 x2 x3 x4 x5, (L2.start Ns [.ref a]).set 1 (some (.ref q)) = [x0, some (.ref q), x2, x3, x4, x5] := by
    have hl : (L2.start Ns [.ref a]).length = 6 := by unfold L2.start; simp; omega
    match L2.start Ns [.ref a], hl with
    | [x0, x1, x2, x3, x4, x5], _ => exact ⟨_, _, _, _, _, rfl⟩
  obtain ⟨x0, x2, x3, x4, x5, e⟩ := e
  show ts E ((L2.start Ns [.ref a]).set 1 (some (.ref q))) H
  rw [e]
  refine h G H G H _ E 0 0 ⟨⟨by rw [upd_id hq]; exact hw.go, rfl, fun i s e => ?_, fun i j d e z1 z2 => ?_⟩, hg, hc, Int.le_refl _, Int.le_refl _⟩ (by omega) (fun _ _ _ _ _ _ _ _ _ _ z => z.elim) fun v d u' r' G2 H2 _ _ _ _ rr z => ?_
  · match i, e with
    | 0, e => cases e; exact True.intro
    | 1, e => cases e; exact ⟨_, rfl, .ptr q⟩
    | 2, e => cases e; exact True.intro
    | 3, e => cases e; exact True.intro
    | 4, e => cases e; exact True.intro
    | 5, e => cases e; exact True.intro
    | n + 6, e => cases e
  · match i, z1 with
    | 0, z1 => cases z1
    | 1, z1 => cases z1
    | 2, z1 => cases z1
    | 3, z1 => cases z1
    | 4, z1 => cases z1
    | 5, z1 => cases z1
    | n + 6, z1 => cases z1
  · subst z
    cases rr
    exact hk H2
theorem lawOk_of {b : Book} {s s2 : Str} {m : Int} (hb : OkB b) (hl : LtOk b) (hm : m ≤ 8) (h : (s.length + s2.length : Int) ≤ m) (h1 : Of b.letters.cps.toList s) (h2 : Of b.letters.cps.toList s2) : LawOk b s s2 := by
  have e := len_app s s2
  refine ⟨⟨hb, ⟨by omega, h1⟩, ⟨by omega, h2⟩, by omega, of_sok hb.lk fun c hc => ?_⟩, of_sok hb.lk h1, of_sok hb.lk h2⟩
  rw [cps_app] at hc
  rcases List.mem_append.mp hc with hc | hc
  · exact h1 c hc
  · exact h2 c hc
theorem turn_at {x : Int} {i : Nat} (h : (rng 0 3)[i]? = some x) : ∃ m : Int, atI [PyData.int 8, .int 6, .int 7] x = some (.int m) ∧ 0 ≤ m ∧ m ≤ 8 := by
  have hx := mem_rng.mp (List.mem_of_getElem? h)
  rcases (by omega : x = 0 ∨ x = 1 ∨ x = 2) with rfl | rfl | rfl
  · exact ⟨8, atI_nat (j := 0) rfl, by decide, by decide⟩
  · exact ⟨6, atI_nat (j := 1) rfl, by decide, by decide⟩
  · exact ⟨7, atI_nat (j := 2) rfl, by decide, by decide⟩
end Pf
set_option Elab.async false
set_option linter.all false
set_option maxRecDepth 100000
set_option maxHeartbeats 4000000
namespace Pf
open PySem PySem.Spec L2
open PyProof.Rows PySem.Calls
section
variable {P : Program} {w : World} {K : PySem.W.Frag} {mg : Str → Option Value} {base : Heap} {T : Tb} {L : Addr}
theorem sc_law_start : FnScope (["_law_script"] : List Str) (["_law_script"] : List Str) (defScope (topS 54)) := ⟨rfl, rfl, rfl, by decide +kernel, rfl, by decide +kernel, by decide +kernel⟩
theorem ok_law_start {f : Addr} {fd : FuncData} (t : Tx K mg L) (F : FnP K "_law_start" 54 f fd) (gm : mg "_law_start" = some (.ref f)) : CalS P w K mg base 1 "_law_start" ["_law_script"] (spStart K T) := by
  have sc := sc_law_start
  refine ⟨f, fd, gm, F.kp, F.bindsN (fun _ _ _ _ _ _ us hl => match us, hl with | [_], _ => rfl), F.ok sc (fun vs H Q E h => by obtain ⟨a, ns, rfl, _⟩ := h; rfl) fun cdv A outer s H vs Q E hr h => ⟨_, PSs.nox (pss_one (ps_ret (pe_lst (pa_cons (pe_callTy (k_list K) (by rfl) t.list boot_list (pa_cons (pe_slice (k_sl_list K) (pv 0) po_none (po_some pe_int)) pa_nil)) (pa_cons pe_int (pa_cons pe_int pa_nil)))))), ?_⟩⟩
  obtain ⟨a, ns, rfl, hS, hT, hk⟩ := h
  obtain ⟨cs, hcs, hl⟩ := cutV_ints ns
  refine ⟨.ref a, rfl, 63, rfl, a, ns.map V.int, rfl, hS, fun l1 h1 => ?_⟩
  rw [hcs]
  refine ⟨l1, cs.map V.int, rfl, .inl (SqL.of upd_same), fun c h2 => ?_⟩
  refine ⟨ble16 rfl, fun q h3 => ?_⟩
  have hcq : c ≠ q := fun e => by subst e; rw [upd_same] at h3; cases h3
  refine hk q c cs (upd (fun _ => none) c (.lst (cs.map V.int))) _ hl ⟨fun x o e => ?_, tabs_new (tabs_new (tabs_new hT h1) h2) h3, fun x ps e => ?_⟩ upd_same ?_ (.lst upd_same (reps_ints _ cs))
  · by_cases z : x = c
    · subst z
      rw [upd_same] at e
      cases e
      rw [upd_ne hcq, upd_same]
    · rw [upd_ne z] at e; cases e
  · by_cases z : x = c
    · subst z
      rw [upd_same] at e
      cases e
    · rw [upd_ne z] at e; cases e
  · rw [upd_ne (Ne.symm hcq)]
theorem sc_law : FnScope (["_law_script", "_law_pen", "_law_turn", "_law_book", "_law_one", "_law_two_here"] : List Str) (["_law_script"] : List Str) (defScope (topS 70)) := ⟨rfl, rfl, rfl, by decide +kernel, rfl, by decide +kernel, by decide +kernel⟩
theorem ok_law {f : Addr} {fd : FuncData} (t : Tx K mg L) (F : FnP K "law" 70 f fd) (c__law_start : CalS P w K mg base 1 "_law_start" ["_law_script"] (spStart K T)) (c__law_rules : CalM P w K mg base T 3 "_law_rules" ["_law_pen"] spRules) (c__law_two : CalM P w K mg base T 4 "_law_two" ["_law_pen", "_law_book", "_law_most"] spLawTwo) (c__law_side_by_side : CalM P w K mg base T 14 "_law_side_by_side" ["_law_pen", "_law_book", "_law_one", "_law_two_here"] spSide) (c__law_without_nick : CalM P w K mg base T 14 "_law_without_nick" ["_law_pen", "_law_book", "_law_one", "_law_two_here"] spNickless)
    (c__law_empty_right : Cal P w K mg base T 14 "_law_empty_right" ["_law_book", "_law_word"] spEmpty) (c_least_together : Cal P w K mg base T 13 "least_together" ["rules", "string", "string2"] spLeastTogether) (c_least_worth : Cal P w K mg base T 6 "least_worth" ["rules", "string"] spLeastWorth) : FnOk P w K mg base CX0 15 f fd ["_law_script"] (spLawS K T) := by
  have sc := sc_law
  refine F.ok sc (fun vs H Q E h => by obtain ⟨a, ns, rfl, _⟩ := h; rfl) fun cdv A outer s H vs Q E hr h => ⟨_, PSs.nox (pss_cons (ps_set (i := 1) sc.nd rfl (.inl rfl) (pe_calS c__law_start hr (by decide) (by rfl) (pa_cons (pv 0) pa_nil))) (pss_cons (ps_for PassesOwn.never rfl (pi_range1 (by rfl) t.range (pa_cons pe_int pa_nil)) (pg_name (i := 2) sc.nd rfl (.inl rfl)) (pss_cons (ps_set (i := 3) sc.nd rfl (.inl rfl) (pe_calM c__law_rules hr (by decide) (by rfl) (pa_cons (pv 1) pa_nil))) (pss_cons (ps_asg (pe_calM c__law_two hr (by decide) (by rfl) (pa_cons (pv 1) (pa_cons (pv 3) (pa_cons (pe_ix (k_ix_list K) (pe_lst (pa_cons pe_int (pa_cons pe_int (pa_cons pe_int pa_nil)))) (pv 2) (fun _ _ => rfl)) pa_nil)))) (k_pg_tup K (n := 2) rfl (pgs_cons (pg_name (i := 4) sc.nd rfl (.inl rfl)) (pgs_cons (pg_name (i := 5) sc.nd rfl (.inl rfl)) pgs_nil)))) (pss_cons (ps_if (PW.pt (pw_or (pt_not (pt_val (pe_calM c__law_side_by_side hr (by decide) (by rfl) (pa_cons (pv 1) (pa_cons (pv 3) (pa_cons (pv 4) (pa_cons (pv 5) pa_nil))))))) (pw_or1 (pt_not (pt_val (pe_calM c__law_without_nick hr (by decide) (by rfl) (pa_cons (pv 1) (pa_cons (pv 3) (pa_cons (pv 4) (pa_cons (pv 5) pa_nil)))))))))) (pss_one (ps_ret pe_bl)) pss_nil) (pss_cons (ps_if (PW.pt (pw_or (pt_not (pt_val (pe_cal c__law_empty_right hr (by decide) (by rfl) (pa_cons (pv 3) (pa_cons (pv 4) pa_nil))))) (pw_or1 (pt_not (pt_val (pe_cal c__law_empty_right hr (by decide) (by rfl) (pa_cons (pv 3) (pa_cons (pv 5) pa_nil)))))))) (pss_one (ps_ret pe_bl)) pss_nil) (pss_one (ps_if (pt_cmpR op_gt (pe_ix (k_ix_tup K) (pe_cal c_least_together hr (by decide) (by rfl) (pa_cons (pv 3) (pa_cons (pv 4) (pa_cons (pv 5) pa_nil)))) pe_int (fun _ _ => rfl)) (pe_op op_add (pe_cal c_least_worth hr (by decide) (by rfl) (pa_cons (pv 3) (pa_cons (pv 4) pa_nil))) (pe_cal c_least_worth hr (by decide) (by rfl) (pa_cons (pv 3) (pa_cons (pv 5) pa_nil)))) (nomark _)) (pss_one (ps_ret pe_bl)) pss_nil))))))) (pss_one (ps_ret pe_bl)))), ?_⟩
  obtain ⟨a, ns, rfl, hS, hT, hk⟩ := h
  refine ⟨.ref a, rfl, a, ns, rfl, hS, hT, fun q c cs G' H' hcs hw hq hg hc => ?_⟩
  dsimp only
  refine start_law (n := (0 + 3 * 436) + 0) (by decide) hw hq hg hc rfl hk ?_
  refine svm_seq (n := 0 + 3 * 436) (m := 0) (svm_for (n := 0) (k := 436) (is := [2]) PyData.int (fun xs => xs = rng 0 3) 3 (fun i ρ => ∃ s2 s3 s4 s5 : Sl, ρ = [.any, .dat (ptrD q), s2, s3, s4, s5]) (emi_fix (ei_r1 (ea_cons ev_int ea_nil) (by decide))) (fun xs e => by rw [e, len_rng]; decide) ⟨_, _, _, _, rfl⟩ ?_ ?_)
  · rintro xs i x ρi rfl hx ⟨s2, s3, s4, s5, rfl⟩
    obtain ⟨most, hat, hm0, hm8⟩ := turn_at hx
    refine ⟨_, eg_n, ?_⟩
    refine SvM.imp (n := 400 + (20 + (16 + 0))) (svm_seq (n := 400) (m := 20 + (16 + 0)) (svm_asg (P := fun d => ∃ b : Book, d = encB b ∧ OkB b ∧ LtOk b) (evm_call (F := spRules) rfl hcs ea_nil ⟨rfl, rfl, fun b h1 h2 => ⟨b, rfl, h1, h2⟩⟩) ?_)) (by decide) (fun _ h => h) (fun _ h => h)
    rintro d ⟨b, rfl, hb, hlt⟩
    refine svm_seq (n := 20) (m := 16 + 0) (svm_asgG (is := [4, 5]) (P := fun d => ∃ s s2 : Str, d = .tuple [.str s, .str s2] ∧ LawOk b s s2) (evm_call (F := spLawTwo) rfl hcs (ea_cons ev_v (ea_cons (ev_op (ev_ls (ea_cons ev_int (ea_cons ev_int (ea_cons ev_int ea_nil)))) ev_v (od_ixL hat)) ea_nil)) ⟨b, most, rfl, rfl, ⟨hlt, hm0, hm8⟩, fun s s2 h1 h2 h3 => ⟨s, s2, rfl, lawOk_of hb hlt hm8 h1 h2 h3⟩⟩) fun d hd => ?_)
    obtain ⟨s, s2, rfl, hok⟩ := hd
    refine ⟨_, eg_tup (egs_cons eg_n (egs_cons eg_n egs_nil)) rfl, ?_⟩
    have h8 := hok.h.l8
    have h1 := hok.l1
    have h2 := hok.l2
    refine svm_seq (n := 16) (m := 0) (svm_if (n := 10 + 6) (m := 0) (Pt := (· = false)) (etm_or0 (etm_notB (evm_call (F := spSide) rfl hcs (ea_cons ev_v (ea_cons ev_v (ea_cons ev_v ea_nil))) ⟨b, s, s2, rfl, rfl, hok, rfl⟩)) (etm_notB (evm_call (F := spNickless) rfl hcs (ea_cons ev_v (ea_cons ev_v (ea_cons ev_v ea_nil))) ⟨b, s, s2, rfl, rfl, hok, rfl⟩))) (fun e => nomatch e) (fun _ => svm_next ?_))
    refine svm (sv_seq (sv_ifF (et_to (et_or (et_not (et_B (ev_call (ea_cons ev_v (ea_cons ev_v ea_nil)) ⟨b, s, rfl, ⟨hb, hok.h.w, hok.ok1, by omega⟩, rfl⟩))) fun _ => et_not (et_B (ev_call (ea_cons ev_v (ea_cons ev_v ea_nil)) ⟨b, s2, rfl, ⟨hb, hok.h.w2, hok.ok2, by omega⟩, rfl⟩))) rfl) (sv_next ?_)))
    obtain ⟨v, e1, _⟩ := least_some b s
    obtain ⟨v2, e2, _⟩ := least_some b s2
    have hle := law_least e1 e2
    exact sv_ifF (et_to (et_test (ev_op (ev_op (ev_call (ea_cons ev_v (ea_cons ev_v (ea_cons ev_v ea_nil))) ⟨b, s, s2, rfl, hok.h, rfl⟩) ev_int (od_ixT at0)) (ev_op (Ev.to (ev_call (ea_cons ev_v (ea_cons ev_v ea_nil)) ⟨b, s, rfl, ⟨hb, hok.h.w, hok.ok1⟩, rfl⟩) ((congrArg optD e1).trans (show optD (some v) = PyData.int v from rfl))) (Ev.to (ev_call (ea_cons ev_v (ea_cons ev_v ea_nil)) ⟨b, s2, rfl, ⟨hb, hok.h.w2, hok.ok2⟩, rfl⟩) ((congrArg optD e2).trans (show optD (some v2) = PyData.int v2 from rfl))) od_i) od_b)) (decide_eq_false (by omega))) (sv_next ⟨_, _, _, _, rfl⟩)
  · rintro xs ρ' rfl ⟨s2, s3, s4, s5, rfl⟩
    exact svm (sv_ret ev_bl rfl)
end
end Pf
set_option Elab.async false
set_option linter.all false
set_option maxRecDepth 100000
set_option maxHeartbeats 4000000
namespace Pf
open PySem PySem.Spec L2
open PyProof.Rows PySem.Calls
/-! ### the head: what stands where -/
def dd (g x : Str) (i : Nat) : He.DefD := ⟨(g, none), x, x, defArgs (topS i), defBody (topS i), defScope (topS i), [], []⟩
def fn0 : List He.DefD := [dd "_law_start" "_law_start" 54, dd "_law_draw" "_law_draw" 55, dd "_law_worth" "_law_worth" 56, dd "_law_rules" "_law_rules" 57, dd "_law_letters" "_law_letters" 58, dd "_law_two" "_law_two" 65, dd "_law_moved" "_law_moved" 66, dd "is_string" "is_string" 9, dd "need_string" "need_string" 10, dd "pair_worth" "pair_worth" 5, dd "both_of" "both_of" 11, dd "may_pair" "may_pair" 12, dd "foldings_from" "foldings_from" 51, dd "all_foldings" "all_foldings" 52, dd "is_whole" "is_whole" 38, dd "are_pairs" "are_pairs" 39, dd "nicked_pair" "nicked_pair" 40, dd "is_held" "is_held" 41, dd "straight_within" "straight_within" 30, dd "free_within" "free_within" 31]
def fn1 : List He.DefD := [dd "kind_of" "kind_of" 33, dd "stack_worth" "stack_worth" 6, dd "letters_of" "letters_of" 32, dd "loop_of" "loop_of" 34, dd "loops_of" "loops_of" 35, dd "held_worth" "held_worth" 42, dd "worth_of" "worth_of" 36, dd "held_from" "held_from" 43, dd "all_held" "all_held" 44, dd "how_many_held" "how_many_held" 45, dd "_law_side_by_side" "_law_side_by_side" 67, dd "_law_nick" "_law_nick" 62, dd "_law_without_nick" "_law_without_nick" 68, dd "ways_of_counts" "ways_of" 48, dd "how_many" "how_many" 50, dd "least_together" "least_together" 46, dd "row_keys" "row_keys" 14, dd "filling_order" "filling_order" 26, dd "least_of" "least_of" 25, dd "come_to" "come_to" 23]
def fn2 : List He.DefD := [dd "told_loops" "told_loops" 15, dd "within_ways" "within_ways" 16, dd "shut_ways" "shut_ways" 17, dd "one_ways" "one_ways" 18, dd "two_ways" "two_ways" 19, dd "open_ways" "open_ways" 20, dd "ways_of_bounds" "ways_of" 21, dd "known_rows" "known_rows" 27, dd "least_worth" "least_worth" 28, dd "_law_empty_right" "_law_empty_right" 69, dd "law" "law" 70]
def fnL : List He.DefD := fn0 ++ fn1 ++ fn2
def fa0 : List He.Fa := [.glo "_law_start", .glo "_law_draw", .glo "_law_worth", .glo "_law_rules", .glo "_law_letters", .glo "_law_two", .glo "_law_moved", .glo "is_string", .glo "need_string", .glo "pair_worth", .glo "both_of", .glo "may_pair", .glo "foldings_from", .glo "all_foldings", .glo "is_whole", .glo "are_pairs", .glo "nicked_pair", .glo "is_held", .glo "straight_within", .glo "free_within"]
def fa1 : List He.Fa := [.glo "kind_of", .glo "stack_worth", .glo "letters_of", .glo "loop_of", .glo "loops_of", .glo "held_worth", .glo "worth_of", .glo "held_from", .glo "all_held", .glo "how_many_held", .glo "_law_side_by_side", .glo "_law_nick", .glo "_law_without_nick", .glo "ways_of_counts", .glo "how_many", .glo "least_together", .glo "row_keys", .glo "filling_order", .glo "least_of", .glo "come_to"]
def fa2 : List He.Fa := [.glo "told_loops", .glo "within_ways", .glo "shut_ways", .glo "one_ways", .glo "two_ways", .glo "open_ways", .glo "ways_of_bounds", .glo "known_rows", .glo "least_worth", .glo "_law_empty_right", .glo "law", .free "len", .free "sum", .free "all", .free "any", .free "abs", .free "min", .free "max", .free "sorted", .free "isinstance"]
def fa3 : List He.Fa := [.free "list", .free "tuple", .free "dict", .free "int", .free "bool", .free "str", .free "range", .free "zip", .glo "LOOPS", .int "MOST_PLACES" 12]
def faL : List He.Fa := fa0 ++ fa1 ++ fa2 ++ fa3
def fo : He.Defn := ("filling_order", none)
def plainT (K : PySem.W.Frag) (a : Addr) : Bool := match K.lookup a with
  | some ⟨.type c, none, _, _⟩ => decide (c = "tuple")
  | _ => false
theorem plainT_ok {K : PySem.W.Frag} {a : Addr} (h : plainT K a = true) : ∃ o, K.lookup a = some o ∧ o.cls = .type "tuple" ∧ o.dict = none := by
  unfold plainT at h
  split at h
  · rename_i c d s q
    have e := of_decide_eq_true h
    subst e
    exact ⟨_, q, rfl, rfl⟩
  · cases h
def exL (K : PySem.W.Frag) : Bool := He.tupB K "LOOPS" (LOOPS.map He.Dv.str) && plainT K (He.ga K "LOOPS")
section
variable {P : Program} {w : World} {K : PySem.W.Frag} {mg : Str → Option Value} {h base : Heap}
theorem tx_ok (X : K.In h) (G : h.Ns mainGlobals mg) (c : He.SaysD faL fnL K) (hx : exL K = true) : Tx K mg (He.ga K "LOOPS") := by
  obtain ⟨h1, h2⟩ := He.ba hx
  refine ⟨He.free_ok X G (c.fact 51 (f := .free "len") rfl), He.free_ok X G (c.fact 52 (f := .free "sum") rfl), He.free_ok X G (c.fact 53 (f := .free "all") rfl), He.free_ok X G (c.fact 54 (f := .free "any") rfl), He.free_ok X G (c.fact 55 (f := .free "abs") rfl), He.free_ok X G (c.fact 56 (f := .free "min") rfl), He.free_ok X G (c.fact 57 (f := .free "max") rfl), He.free_ok X G (c.fact 58 (f := .free "sorted") rfl), He.free_ok X G (c.fact 59 (f := .free "isinstance") rfl), He.free_ok X G (c.fact 60 (f := .free "list") rfl), He.free_ok X G (c.fact 61 (f := .free "tuple") rfl), He.free_ok X G (c.fact 62 (f := .free "dict") rfl), He.free_ok X G (c.fact 63 (f := .free "int") rfl), He.free_ok X G (c.fact 64 (f := .free "bool") rfl), He.free_ok X G (c.fact 65 (f := .free "str") rfl), He.free_ok X G (c.fact 66 (f := .free "range") rfl), He.free_ok X G (c.fact 67 (f := .free "zip") rfl), He.glo_ok X G (c.fact 68 (f := .glo "LOOPS") rfl), fun H => ?_, plainT_ok h2, He.int_ok X G (c.fact 69 (f := .int "MOST_PLACES" 12) rfl)⟩
  have := He.tupB_ok h1 H
  rw [List.map_map] at this
  exact this
theorem law_ok (X : K.In h) (G : h.Ns mainGlobals mg) (c : He.SaysD faL fnL K) (hx : exL K = true) {fd : FuncData} (FL' : FnP K "law" 70 (He.fAd K ("law", none)) fd) (TB : LamX.TabB base mg (He.cT K fo).1 (He.cT K fo).2) : FnOk P w K mg base CX0 15 (He.fAd K ("law", none)) fd ["_law_script"] (spLawS K [((He.cT K fo).2, lamName)]) := by
  have t := tx_ok X G c hx
  obtain ⟨fd__law_start, F__law_start⟩ := c.def_ 0 (d := dd "_law_start" "_law_start" 54) rfl
  have c__law_start := ok_law_start (P := P) (w := w) (base := base) (T := [((He.cT K fo).2, lamName)]) t F__law_start (He.glo_ok X G (c.fact 0 (f := .glo "_law_start") rfl))
  obtain ⟨fd__law_draw, F__law_draw⟩ := c.def_ 1 (d := dd "_law_draw" "_law_draw" 55) rfl
  have c__law_draw := ok_law_draw (P := P) (w := w) (base := base) (T := [((He.cT K fo).2, lamName)]) t F__law_draw (He.glo_ok X G (c.fact 1 (f := .glo "_law_draw") rfl))
  obtain ⟨fd__law_worth, F__law_worth⟩ := c.def_ 2 (d := dd "_law_worth" "_law_worth" 56) rfl
  have c__law_worth := ok_law_worth (P := P) (w := w) (base := base) (T := [((He.cT K fo).2, lamName)]) t F__law_worth (He.glo_ok X G (c.fact 2 (f := .glo "_law_worth") rfl)) c__law_draw
  obtain ⟨fd__law_rules, F__law_rules⟩ := c.def_ 3 (d := dd "_law_rules" "_law_rules" 57) rfl
  have c__law_rules := ok_law_rules (P := P) (w := w) (base := base) (T := [((He.cT K fo).2, lamName)]) t F__law_rules (He.glo_ok X G (c.fact 3 (f := .glo "_law_rules") rfl)) c__law_draw c__law_worth
  obtain ⟨fd__law_letters, F__law_letters⟩ := c.def_ 4 (d := dd "_law_letters" "_law_letters" 58) rfl
  have c__law_letters := ok_law_letters (P := P) (w := w) (base := base) (T := [((He.cT K fo).2, lamName)]) t F__law_letters (He.glo_ok X G (c.fact 4 (f := .glo "_law_letters") rfl)) c__law_draw
  obtain ⟨fd__law_two, F__law_two⟩ := c.def_ 5 (d := dd "_law_two" "_law_two" 65) rfl
  have c__law_two := ok_law_two (P := P) (w := w) (base := base) (T := [((He.cT K fo).2, lamName)]) t F__law_two (He.glo_ok X G (c.fact 5 (f := .glo "_law_two") rfl)) c__law_draw c__law_letters
  obtain ⟨fd__law_moved, F__law_moved⟩ := c.def_ 6 (d := dd "_law_moved" "_law_moved" 66) rfl
  have c__law_moved := ok_law_moved (P := P) (w := w) (base := base) (T := [((He.cT K fo).2, lamName)]) t F__law_moved (He.glo_ok X G (c.fact 6 (f := .glo "_law_moved") rfl))
  obtain ⟨fd_is_string, F_is_string⟩ := c.def_ 7 (d := dd "is_string" "is_string" 9) rfl
  have c_is_string := ok_is_string (P := P) (w := w) (base := base) (T := [((He.cT K fo).2, lamName)]) t F_is_string (He.glo_ok X G (c.fact 7 (f := .glo "is_string") rfl))
  obtain ⟨fd_need_string, F_need_string⟩ := c.def_ 8 (d := dd "need_string" "need_string" 10) rfl
  have c_need_string := ok_need_string (P := P) (w := w) (base := base) (T := [((He.cT K fo).2, lamName)]) t F_need_string (He.glo_ok X G (c.fact 8 (f := .glo "need_string") rfl)) c_is_string
  obtain ⟨fd_pair_worth, F_pair_worth⟩ := c.def_ 9 (d := dd "pair_worth" "pair_worth" 5) rfl
  have c_pair_worth := ok_pair_worth (P := P) (w := w) (base := base) (T := [((He.cT K fo).2, lamName)]) t F_pair_worth (He.glo_ok X G (c.fact 9 (f := .glo "pair_worth") rfl))
  obtain ⟨fd_both_of, F_both_of⟩ := c.def_ 10 (d := dd "both_of" "both_of" 11) rfl
  have c_both_of := ok_both_of (P := P) (w := w) (base := base) (T := [((He.cT K fo).2, lamName)]) t F_both_of (He.glo_ok X G (c.fact 10 (f := .glo "both_of") rfl))
  obtain ⟨fd_may_pair, F_may_pair⟩ := c.def_ 11 (d := dd "may_pair" "may_pair" 12) rfl
  have c_may_pair := ok_may_pair (P := P) (w := w) (base := base) (T := [((He.cT K fo).2, lamName)]) t F_may_pair (He.glo_ok X G (c.fact 11 (f := .glo "may_pair") rfl)) c_pair_worth c_both_of
  obtain ⟨fd_foldings_from, F_foldings_from⟩ := c.def_ 12 (d := dd "foldings_from" "foldings_from" 51) rfl
  have c0_foldings_from := cal_none (P := P) (w := w) (mg := mg) (base := base) (T := [((He.cT K fo).2, lamName)]) (k := 1) (x := "foldings_from") (F := spFoldFrom 0) F_foldings_from sc_foldings_from (He.glo_ok X G (c.fact 12 (f := .glo "foldings_from") rfl)) (fun _ _ _ _ _ _ us hl => match us, hl with | [_, _, _, _], _ => rfl) (fun ds P hF => by obtain ⟨_, _, _, _, _, h⟩ := hF; exact absurd h.1.2.2.2.2 (by omega))
  have c1_foldings_from := ok_foldings_from (P := P) (w := w) (base := base) (T := [((He.cT K fo).2, lamName)]) (n := 0) t F_foldings_from (He.glo_ok X G (c.fact 12 (f := .glo "foldings_from") rfl)) c0_foldings_from c_may_pair
  have c2_foldings_from := ok_foldings_from (P := P) (w := w) (base := base) (T := [((He.cT K fo).2, lamName)]) (n := 1) t F_foldings_from (He.glo_ok X G (c.fact 12 (f := .glo "foldings_from") rfl)) c1_foldings_from c_may_pair
  have c3_foldings_from := ok_foldings_from (P := P) (w := w) (base := base) (T := [((He.cT K fo).2, lamName)]) (n := 2) t F_foldings_from (He.glo_ok X G (c.fact 12 (f := .glo "foldings_from") rfl)) c2_foldings_from c_may_pair
  have c4_foldings_from := ok_foldings_from (P := P) (w := w) (base := base) (T := [((He.cT K fo).2, lamName)]) (n := 3) t F_foldings_from (He.glo_ok X G (c.fact 12 (f := .glo "foldings_from") rfl)) c3_foldings_from c_may_pair
  have c5_foldings_from := ok_foldings_from (P := P) (w := w) (base := base) (T := [((He.cT K fo).2, lamName)]) (n := 4) t F_foldings_from (He.glo_ok X G (c.fact 12 (f := .glo "foldings_from") rfl)) c4_foldings_from c_may_pair
  have c6_foldings_from := ok_foldings_from (P := P) (w := w) (base := base) (T := [((He.cT K fo).2, lamName)]) (n := 5) t F_foldings_from (He.glo_ok X G (c.fact 12 (f := .glo "foldings_from") rfl)) c5_foldings_from c_may_pair
  have c7_foldings_from := ok_foldings_from (P := P) (w := w) (base := base) (T := [((He.cT K fo).2, lamName)]) (n := 6) t F_foldings_from (He.glo_ok X G (c.fact 12 (f := .glo "foldings_from") rfl)) c6_foldings_from c_may_pair
  have c8_foldings_from := ok_foldings_from (P := P) (w := w) (base := base) (T := [((He.cT K fo).2, lamName)]) (n := 7) t F_foldings_from (He.glo_ok X G (c.fact 12 (f := .glo "foldings_from") rfl)) c7_foldings_from c_may_pair
  have c9_foldings_from := ok_foldings_from (P := P) (w := w) (base := base) (T := [((He.cT K fo).2, lamName)]) (n := 8) t F_foldings_from (He.glo_ok X G (c.fact 12 (f := .glo "foldings_from") rfl)) c8_foldings_from c_may_pair
  have c_foldings_from := c9_foldings_from
  obtain ⟨fd_all_foldings, F_all_foldings⟩ := c.def_ 13 (d := dd "all_foldings" "all_foldings" 52) rfl
  have c_all_foldings := ok_all_foldings (P := P) (w := w) (base := base) (T := [((He.cT K fo).2, lamName)]) t F_all_foldings (He.glo_ok X G (c.fact 13 (f := .glo "all_foldings") rfl)) c_need_string c_foldings_from
  obtain ⟨fd_is_whole, F_is_whole⟩ := c.def_ 14 (d := dd "is_whole" "is_whole" 38) rfl
  have c_is_whole := ok_is_whole (P := P) (w := w) (base := base) (T := [((He.cT K fo).2, lamName)]) t F_is_whole (He.glo_ok X G (c.fact 14 (f := .glo "is_whole") rfl))
  obtain ⟨fd_are_pairs, F_are_pairs⟩ := c.def_ 15 (d := dd "are_pairs" "are_pairs" 39) rfl
  have c_are_pairs := ok_are_pairs (P := P) (w := w) (base := base) (T := [((He.cT K fo).2, lamName)]) t F_are_pairs (He.glo_ok X G (c.fact 15 (f := .glo "are_pairs") rfl)) c_is_whole
  obtain ⟨fd_nicked_pair, F_nicked_pair⟩ := c.def_ 16 (d := dd "nicked_pair" "nicked_pair" 40) rfl
  have c_nicked_pair := ok_nicked_pair (P := P) (w := w) (base := base) (T := [((He.cT K fo).2, lamName)]) t F_nicked_pair (He.glo_ok X G (c.fact 16 (f := .glo "nicked_pair") rfl))
  obtain ⟨fd_is_held, F_is_held⟩ := c.def_ 17 (d := dd "is_held" "is_held" 41) rfl
  have c_is_held := ok_is_held (P := P) (w := w) (base := base) (T := [((He.cT K fo).2, lamName)]) t F_is_held (He.glo_ok X G (c.fact 17 (f := .glo "is_held") rfl)) c_need_string c_are_pairs c_pair_worth c_nicked_pair
  obtain ⟨fd_straight_within, F_straight_within⟩ := c.def_ 18 (d := dd "straight_within" "straight_within" 30) rfl
  have c_straight_within := ok_straight_within (P := P) (w := w) (base := base) (T := [((He.cT K fo).2, lamName)]) t F_straight_within (He.glo_ok X G (c.fact 18 (f := .glo "straight_within") rfl))
  obtain ⟨fd_free_within, F_free_within⟩ := c.def_ 19 (d := dd "free_within" "free_within" 31) rfl
  have c_free_within := ok_free_within (P := P) (w := w) (base := base) (T := [((He.cT K fo).2, lamName)]) t F_free_within (He.glo_ok X G (c.fact 19 (f := .glo "free_within") rfl))
  obtain ⟨fd_kind_of, F_kind_of⟩ := c.def_ 20 (d := dd "kind_of" "kind_of" 33) rfl
  have c_kind_of := ok_kind_of (P := P) (w := w) (base := base) (T := [((He.cT K fo).2, lamName)]) t F_kind_of (He.glo_ok X G (c.fact 20 (f := .glo "kind_of") rfl))
  obtain ⟨fd_stack_worth, F_stack_worth⟩ := c.def_ 21 (d := dd "stack_worth" "stack_worth" 6) rfl
  have c_stack_worth := ok_stack_worth (P := P) (w := w) (base := base) (T := [((He.cT K fo).2, lamName)]) t F_stack_worth (He.glo_ok X G (c.fact 21 (f := .glo "stack_worth") rfl))
  obtain ⟨fd_letters_of, F_letters_of⟩ := c.def_ 22 (d := dd "letters_of" "letters_of" 32) rfl
  have c_letters_of := ok_letters_of (P := P) (w := w) (base := base) (T := [((He.cT K fo).2, lamName)]) t F_letters_of (He.glo_ok X G (c.fact 22 (f := .glo "letters_of") rfl))
  obtain ⟨fd_loop_of, F_loop_of⟩ := c.def_ 23 (d := dd "loop_of" "loop_of" 34) rfl
  have c_loop_of := ok_loop_of (P := P) (w := w) (base := base) (T := [((He.cT K fo).2, lamName)]) t F_loop_of (He.glo_ok X G (c.fact 23 (f := .glo "loop_of") rfl)) c_straight_within c_free_within c_kind_of c_stack_worth c_letters_of
  obtain ⟨fd_loops_of, F_loops_of⟩ := c.def_ 24 (d := dd "loops_of" "loops_of" 35) rfl
  have c_loops_of := ok_loops_of (P := P) (w := w) (base := base) (T := [((He.cT K fo).2, lamName)]) t F_loops_of (He.glo_ok X G (c.fact 24 (f := .glo "loops_of") rfl)) c_loop_of
  obtain ⟨fd_held_worth, F_held_worth⟩ := c.def_ 25 (d := dd "held_worth" "held_worth" 42) rfl
  have c_held_worth := ok_held_worth (P := P) (w := w) (base := base) (T := [((He.cT K fo).2, lamName)]) t F_held_worth (He.glo_ok X G (c.fact 25 (f := .glo "held_worth") rfl)) c_nicked_pair c_straight_within c_loops_of c_pair_worth
  obtain ⟨fd_worth_of, F_worth_of⟩ := c.def_ 26 (d := dd "worth_of" "worth_of" 36) rfl
  have c_worth_of := ok_worth_of (P := P) (w := w) (base := base) (T := [((He.cT K fo).2, lamName)]) t F_worth_of (He.glo_ok X G (c.fact 26 (f := .glo "worth_of") rfl)) c_pair_worth c_letters_of c_loops_of c_straight_within
  obtain ⟨fd_held_from, F_held_from⟩ := c.def_ 27 (d := dd "held_from" "held_from" 43) rfl
  have c0_held_from := cal_none (P := P) (w := w) (mg := mg) (base := base) (T := [((He.cT K fo).2, lamName)]) (k := 1) (x := "held_from") (F := spHeldFrom 0) F_held_from sc_held_from (He.glo_ok X G (c.fact 27 (f := .glo "held_from") rfl)) (fun _ _ _ _ _ _ us hl => match us, hl with | [_, _, _, _, _], _ => rfl) (fun ds P hF => by obtain ⟨_, _, _, _, _, _, h⟩ := hF; exact absurd h.1.2.2.2.2 (by omega))
  have c1_held_from := ok_held_from (P := P) (w := w) (base := base) (T := [((He.cT K fo).2, lamName)]) (n := 0) t F_held_from (He.glo_ok X G (c.fact 27 (f := .glo "held_from") rfl)) c0_held_from c_pair_worth
  have c2_held_from := ok_held_from (P := P) (w := w) (base := base) (T := [((He.cT K fo).2, lamName)]) (n := 1) t F_held_from (He.glo_ok X G (c.fact 27 (f := .glo "held_from") rfl)) c1_held_from c_pair_worth
  have c3_held_from := ok_held_from (P := P) (w := w) (base := base) (T := [((He.cT K fo).2, lamName)]) (n := 2) t F_held_from (He.glo_ok X G (c.fact 27 (f := .glo "held_from") rfl)) c2_held_from c_pair_worth
  have c4_held_from := ok_held_from (P := P) (w := w) (base := base) (T := [((He.cT K fo).2, lamName)]) (n := 3) t F_held_from (He.glo_ok X G (c.fact 27 (f := .glo "held_from") rfl)) c3_held_from c_pair_worth
  have c5_held_from := ok_held_from (P := P) (w := w) (base := base) (T := [((He.cT K fo).2, lamName)]) (n := 4) t F_held_from (He.glo_ok X G (c.fact 27 (f := .glo "held_from") rfl)) c4_held_from c_pair_worth
  have c6_held_from := ok_held_from (P := P) (w := w) (base := base) (T := [((He.cT K fo).2, lamName)]) (n := 5) t F_held_from (He.glo_ok X G (c.fact 27 (f := .glo "held_from") rfl)) c5_held_from c_pair_worth
  have c7_held_from := ok_held_from (P := P) (w := w) (base := base) (T := [((He.cT K fo).2, lamName)]) (n := 6) t F_held_from (He.glo_ok X G (c.fact 27 (f := .glo "held_from") rfl)) c6_held_from c_pair_worth
  have c8_held_from := ok_held_from (P := P) (w := w) (base := base) (T := [((He.cT K fo).2, lamName)]) (n := 7) t F_held_from (He.glo_ok X G (c.fact 27 (f := .glo "held_from") rfl)) c7_held_from c_pair_worth
  have c9_held_from := ok_held_from (P := P) (w := w) (base := base) (T := [((He.cT K fo).2, lamName)]) (n := 8) t F_held_from (He.glo_ok X G (c.fact 27 (f := .glo "held_from") rfl)) c8_held_from c_pair_worth
  have c_held_from := c9_held_from
  obtain ⟨fd_all_held, F_all_held⟩ := c.def_ 28 (d := dd "all_held" "all_held" 44) rfl
  have c_all_held := ok_all_held (P := P) (w := w) (base := base) (T := [((He.cT K fo).2, lamName)]) t F_all_held (He.glo_ok X G (c.fact 28 (f := .glo "all_held") rfl)) c_need_string c_held_from c_is_held
  obtain ⟨fd_how_many_held, F_how_many_held⟩ := c.def_ 29 (d := dd "how_many_held" "how_many_held" 45) rfl
  have c_how_many_held := ok_how_many_held (P := P) (w := w) (base := base) (T := [((He.cT K fo).2, lamName)]) t F_how_many_held (He.glo_ok X G (c.fact 29 (f := .glo "how_many_held") rfl)) c_all_held
  obtain ⟨fd__law_side_by_side, F__law_side_by_side⟩ := c.def_ 30 (d := dd "_law_side_by_side" "_law_side_by_side" 67) rfl
  have c__law_side_by_side := ok_law_side_by_side (P := P) (w := w) (base := base) (T := [((He.cT K fo).2, lamName)]) t F__law_side_by_side (He.glo_ok X G (c.fact 30 (f := .glo "_law_side_by_side") rfl)) c__law_draw c__law_moved c_all_foldings c_is_held c_held_worth c_worth_of c_how_many_held
  obtain ⟨fd__law_nick, F__law_nick⟩ := c.def_ 31 (d := dd "_law_nick" "_law_nick" 62) rfl
  have c__law_nick := ok_law_nick (P := P) (w := w) (base := base) (T := [((He.cT K fo).2, lamName)]) t F__law_nick (He.glo_ok X G (c.fact 31 (f := .glo "_law_nick") rfl))
  obtain ⟨fd__law_without_nick, F__law_without_nick⟩ := c.def_ 32 (d := dd "_law_without_nick" "_law_without_nick" 68) rfl
  have c__law_without_nick := ok_law_without_nick (P := P) (w := w) (base := base) (T := [((He.cT K fo).2, lamName)]) t F__law_without_nick (He.glo_ok X G (c.fact 32 (f := .glo "_law_without_nick") rfl)) c__law_draw c__law_nick c_all_foldings c_is_held c_held_worth c_worth_of c_how_many_held
  obtain ⟨fd_ways_of_counts, F_ways_of_counts⟩ := c.def_ 33 (d := dd "ways_of_counts" "ways_of" 48) rfl
  have c_ways_of_counts := ok_ways_ofC (P := P) (w := w) (base := base) (T := [((He.cT K fo).2, lamName)]) t F_ways_of_counts (He.glo_ok X G (c.fact 33 (f := .glo "ways_of_counts") rfl)) c_may_pair
  obtain ⟨fd_how_many, F_how_many⟩ := c.def_ 34 (d := dd "how_many" "how_many" 50) rfl
  have c_how_many := ok_how_many (P := P) (w := w) (base := base) (T := [((He.cT K fo).2, lamName)]) t F_how_many (He.glo_ok X G (c.fact 34 (f := .glo "how_many") rfl)) c_need_string c_ways_of_counts
  obtain ⟨fd_least_together, F_least_together⟩ := c.def_ 35 (d := dd "least_together" "least_together" 46) rfl
  have c_least_together := ok_least_together (P := P) (w := w) (base := base) (T := [((He.cT K fo).2, lamName)]) t F_least_together (He.glo_ok X G (c.fact 35 (f := .glo "least_together") rfl)) c_all_held c_held_worth
  obtain ⟨fd_row_keys, F_row_keys⟩ := c.def_ 36 (d := dd "row_keys" "row_keys" 14) rfl
  have c_row_keys := ok_row_keys (P := P) (w := w) (base := base) (T := [((He.cT K fo).2, lamName)]) t F_row_keys (He.glo_ok X G (c.fact 36 (f := .glo "row_keys") rfl))
  obtain ⟨fd_filling_order, F_filling_order⟩ := c.def_ 37 (d := dd "filling_order" "filling_order" 26) rfl
  have hfd : fd_filling_order.code = .ref (He.cT K fo).1 := by
    obtain ⟨oc, od, dV, kV, doc, pm, an, cdv, ct, osl, rfl, lk, hcd, _, _⟩ := id F_filling_order.ex
    obtain ⟨cc, hcc⟩ := He.codeIn_ref hcd
    have := He.codeOf_eq (p := fo) lk (c := cc) hcc
    show cdv = .ref (He.codeOf K fo)
    rw [this]
    exact hcc
  have c_filling_order := ok_filling_order (P := P) (w := w) (base := base) (T := [((He.cT K fo).2, lamName)]) t F_filling_order (He.glo_ok X G (c.fact 37 (f := .glo "filling_order") rfl)) hfd TB rfl c_row_keys
  obtain ⟨fd_least_of, F_least_of⟩ := c.def_ 38 (d := dd "least_of" "least_of" 25) rfl
  have c_least_of := ok_least_of (P := P) (w := w) (base := base) (T := [((He.cT K fo).2, lamName)]) t F_least_of (He.glo_ok X G (c.fact 38 (f := .glo "least_of") rfl))
  obtain ⟨fd_come_to, F_come_to⟩ := c.def_ 39 (d := dd "come_to" "come_to" 23) rfl
  have c_come_to := ok_come_to (P := P) (w := w) (base := base) (T := [((He.cT K fo).2, lamName)]) t F_come_to (He.glo_ok X G (c.fact 39 (f := .glo "come_to") rfl))
  obtain ⟨fd_told_loops, F_told_loops⟩ := c.def_ 40 (d := dd "told_loops" "told_loops" 15) rfl
  have c_told_loops := ok_told_loops (P := P) (w := w) (base := base) (T := [((He.cT K fo).2, lamName)]) t F_told_loops (He.glo_ok X G (c.fact 40 (f := .glo "told_loops") rfl))
  obtain ⟨fd_within_ways, F_within_ways⟩ := c.def_ 41 (d := dd "within_ways" "within_ways" 16) rfl
  have c_within_ways := ok_within_ways (P := P) (w := w) (base := base) (T := [((He.cT K fo).2, lamName)]) t F_within_ways (He.glo_ok X G (c.fact 41 (f := .glo "within_ways") rfl)) c_told_loops c_stack_worth
  obtain ⟨fd_shut_ways, F_shut_ways⟩ := c.def_ 42 (d := dd "shut_ways" "shut_ways" 17) rfl
  have c_shut_ways := ok_shut_ways (P := P) (w := w) (base := base) (T := [((He.cT K fo).2, lamName)]) t F_shut_ways (He.glo_ok X G (c.fact 42 (f := .glo "shut_ways") rfl)) c_told_loops c_may_pair c_within_ways c_pair_worth
  obtain ⟨fd_one_ways, F_one_ways⟩ := c.def_ 43 (d := dd "one_ways" "one_ways" 18) rfl
  have c_one_ways := ok_one_ways (P := P) (w := w) (base := base) (T := [((He.cT K fo).2, lamName)]) t F_one_ways (He.glo_ok X G (c.fact 43 (f := .glo "one_ways") rfl)) c_told_loops
  obtain ⟨fd_two_ways, F_two_ways⟩ := c.def_ 44 (d := dd "two_ways" "two_ways" 19) rfl
  have c_two_ways := ok_two_ways (P := P) (w := w) (base := base) (T := [((He.cT K fo).2, lamName)]) t F_two_ways (He.glo_ok X G (c.fact 44 (f := .glo "two_ways") rfl)) c_told_loops
  obtain ⟨fd_open_ways, F_open_ways⟩ := c.def_ 45 (d := dd "open_ways" "open_ways" 20) rfl
  have c_open_ways := ok_open_ways (P := P) (w := w) (base := base) (T := [((He.cT K fo).2, lamName)]) t F_open_ways (He.glo_ok X G (c.fact 45 (f := .glo "open_ways") rfl)) c_told_loops
  obtain ⟨fd_ways_of_bounds, F_ways_of_bounds⟩ := c.def_ 46 (d := dd "ways_of_bounds" "ways_of" 21) rfl
  have c_ways_of_bounds := ok_ways_of (P := P) (w := w) (base := base) (T := [((He.cT K fo).2, lamName)]) t F_ways_of_bounds (He.glo_ok X G (c.fact 46 (f := .glo "ways_of_bounds") rfl)) c_shut_ways c_one_ways c_two_ways c_open_ways
  obtain ⟨fd_known_rows, F_known_rows⟩ := c.def_ 47 (d := dd "known_rows" "known_rows" 27) rfl
  have c_known_rows := ok_known_rows (P := P) (w := w) (base := base) (T := [((He.cT K fo).2, lamName)]) t F_known_rows (He.glo_ok X G (c.fact 47 (f := .glo "known_rows") rfl)) c_filling_order c_least_of c_come_to c_ways_of_bounds
  obtain ⟨fd_least_worth, F_least_worth⟩ := c.def_ 48 (d := dd "least_worth" "least_worth" 28) rfl
  have c_least_worth := ok_least_worth (P := P) (w := w) (base := base) (T := [((He.cT K fo).2, lamName)]) t F_least_worth (He.glo_ok X G (c.fact 48 (f := .glo "least_worth") rfl)) c_need_string c_known_rows
  obtain ⟨fd__law_empty_right, F__law_empty_right⟩ := c.def_ 49 (d := dd "_law_empty_right" "_law_empty_right" 69) rfl
  have c__law_empty_right := ok_law_empty_right (P := P) (w := w) (base := base) (T := [((He.cT K fo).2, lamName)]) t F__law_empty_right (He.glo_ok X G (c.fact 49 (f := .glo "_law_empty_right") rfl)) c_how_many_held c_how_many c_least_together c_least_worth c_worth_of
  exact ok_law t FL' c__law_start c__law_rules c__law_two c__law_side_by_side c__law_without_nick c__law_empty_right c_least_together c_least_worth
theorem law_at {l : PySem.W.OpenLaw} {fa : Addr} (X : K.In h) (G : h.Ns mainGlobals mg) (hfa : mg ("law" : Str) = some (.ref fa)) (c : He.SaysX faL fnL [] [fo] exL w h K) : LamX.LawAtS l w K CX0 15 63 "_law_script" mg fa h := by
  obtain ⟨fd, F⟩ := c.t.d.def_ 50 (d := dd "law" "law" 70) rfl
  have e := hfa.symm.trans (He.glo_ok X G (c.t.d.fact 50 (f := .glo "law") rfl))
  cases e
  have b := FunD.bindsA (ps := ["_law_script"]) F fun _ _ _ _ _ _ us hl => match us, hl with | [_], _ => rfl
  refine ⟨fd, [He.cT K fo], spLawS K [((He.cT K fo).2, lamName)], fun p hp => ?_, fun p hp => ?_, fun p hp => ?_, fun s v => b s [v] rfl, fun H a ns hl _ hH hS => ⟨a, ns, rfl, hS, fun p hp => ?_, fun _ => rfl⟩, fun base KX G' hTB => law_ok KX G' c.t.d c.more F (hTB _ (List.mem_singleton.mpr rfl))⟩
  · rw [List.mem_singleton.mp hp]; exact c.empty fo (List.mem_singleton.mpr rfl)
  · rw [List.mem_singleton.mp hp]; exact c.out fo (List.mem_singleton.mpr rfl)
  · rw [List.mem_singleton.mp hp]; exact PySem.W.codeHd_of_K X (c.hd fo (List.mem_singleton.mpr rfl))
  · rw [List.mem_singleton.mp hp]; exact LamX.TabS.nil (hH _ (List.mem_singleton.mpr rfl))
end
end Pf
set_option Elab.async false
set_option linter.all false
set_option maxRecDepth 100000
set_option maxHeartbeats 0
namespace Pf
open PySem PySem.Spec L2
open PyProof.Rows PySem.Calls
abbrev R : PySem.W.OpenRow := PySem.W.OpenLaw.row PySem.Challenge.rw_pairfolds_k64_whole_alone_and_together
def nm0 : List Str := ["FoldError", "NoString", "LOOPS", "pair_worth", "stack_worth", "MOST_PLACES", "is_string", "need_string", "both_of", "may_pair", "row_keys", "told_loops", "within_ways", "shut_ways", "one_ways", "two_ways", "open_ways", "ways_of", "ways_of_bounds", "come_to", "least_of", "filling_order", "known_rows", "least_worth", "straight_within", "free_within", "letters_of", "kind_of", "loop_of", "loops_of"]
def nm1 : List Str := ["worth_of", "is_whole", "are_pairs", "nicked_pair", "is_held", "held_worth", "held_from", "all_held", "how_many_held", "least_together", "ways_of_counts", "how_many", "foldings_from", "all_foldings", "_law_start", "_law_draw", "_law_worth", "_law_rules", "_law_letters", "_law_may", "_law_ways", "_law_all", "_law_nick", "_law_stands", "_law_held", "_law_two", "_law_moved", "_law_side_by_side", "_law_without_nick", "_law_empty_right"]
def nmL : List Str := nm0 ++ nm1
abbrev hk : PySem.W.Hook := He.hookX 4 faL fnL [] [fo] exL
def ob (s : PySem.W.SharedT) : He.AlX := He.obsX 4 faL fnL [] [fo] exL (HandSHeadRun.getT s)
theorem ob_eq (s : PySem.W.SharedT) : ob s = hk.obs s.abs := He.obsX_eq (HandSHeadRun.getT_eq s)
theorem run_head (w : World) : HandSHeadRun.RunEq R (PySem.W.view R.prog [70]) hk ob 6000 nmL w := by
  intro os
  kernel_rfl
end Pf
set_option Elab.async false
set_option linter.all false
set_option maxRecDepth 100000
set_option maxHeartbeats 0
open PySem PySem.W PySem.Calls PyProof.Rows
theorem PySem.Challenge.cw_pairfolds_k64_whole_alone_and_together_holds : PySem.Challenge.rw_pairfolds_k64_whole_alone_and_together.Holds := by
  w_on; o_law
  refine HandSHeadRun.head_any (r := OpenLaw.row PySem.Challenge.rw_pairfolds_k64_whole_alone_and_together) (q := view (OpenLaw.row PySem.Challenge.rw_pairfolds_k64_whole_alone_and_together).prog [70]) (H := Pf.hk) (ob := Pf.ob) (M := 6000) (loose := Pf.nmL) (d := HandSHeadRun.topDef (OpenLaw.row PySem.Challenge.rw_pairfolds_k64_whole_alone_and_together).prog 70) (kwd := []) Pf.ob_eq
    (by kernel_rfl) (fun s => by kernel_rfl) Pf.run_head (by kernel_rfl) (by kernel_rfl) (by kernel_rfl) (by rfl) (by first | assumption | decide +kernel) (by decide +kernel) ⟨rfl, rfl, rfl, rfl, rfl, by decide +kernel⟩ ?hw ?hc
  case hw => w_witness2
  case hc =>
    refine LamX.walk_ofTsE (l := PySem.Challenge.rw_pairfolds_k64_whole_alone_and_together) (n := 63) (k := 15) (x := "_law_script") (CX := fun _ => L2.CX0) rfl (by decide) (by kernel_rfl) ⟨rfl, by decide, by decide⟩ ?F (fun _ _ _ _ _ z => z)
    intro w mg fa h Y G hmg0
    obtain ⟨K, KX, c⟩ := Y
    have hmg : mg ("law" : PySem.Str) = some (.ref fa) := by
      have e : (HandSHeadRun.topDef (OpenLaw.row PySem.Challenge.rw_pairfolds_k64_whole_alone_and_together).prog 70).name = ("law" : PySem.Str) := by kernel_rfl
      rw [← e]
      exact hmg0
    exact ⟨K, KX, Pf.law_at KX G hmg c⟩
