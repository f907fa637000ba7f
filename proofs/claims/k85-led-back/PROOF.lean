import PyProof.Rows.All
import Wide.All
import OpenK.AllK
import Wide.FinOn
import HandS.ForMost
import HandS.Wide
import HandS.WideBits
import HandS.IsInst
import HandS.Deep
import HandS.TupAny
import HandS.TupMul
import HandS.Style
import HandS.Zip
import HandS.HeadHook1
import HandS.Defaults
import KE.GoesEnum
import KE.GoesZip
import KE.GoesMore
import KE.SortData
import PyProof.ReprRoads
import HandS.Ends
import HandS.Head0
import HandS.Head1
import HandS.Head2
import HandS.HeadEnd
import HandS.HeadHook2
import KE.KRevSl
import HandS.CallLocal
import KE.KDictZip
import KE.KItemsList
import HandS.Conv
import PyProof.FitsInt
import PySem.Challenge.RW_boundedchance_k85_whole_chains_led_backw
set_option Elab.async false
set_option linter.all false
set_option maxRecDepth 100000
set_option maxHeartbeats 0
/-! Dv: data as values. The environment of a def by slots, each a datum (PyData), a list of the def's own that may still change, or the one mutable thing that was handed in; a rule a construct. -/
namespace Dv
open PySem PySem.Spec PyProof.Rows L2

/-! ### heaps -/
def Ex (H H' : Hp) : Prop := ∀ a o, H a = some o → H' a = some o
theorem Ex.refl (H : Hp) : Ex H H := fun _ _ h => h
theorem Ex.trans {H H1 H2 : Hp} (a : Ex H H1) (b : Ex H1 H2) : Ex H H2 := fun x o h => b x o (a x o h)
theorem Ex.new {H : Hp} {p : Addr} {o : HO} (h : H p = none) : Ex H (upd H p o) := fun a u e => by
  rw [upd_ne (ne_of_none e h)]
  exact e
theorem Ex.upd2 {G H : Hp} {p : Addr} {o : HO} (e : Ex G H) : Ex (upd G p o) (upd H p o) := fun a u h => by
  by_cases z : a = p
  · subst z
    rw [upd_same] at h ⊢
    exact h
  · rw [upd_ne z] at h ⊢
    exact e a u h
theorem Ex.mut {H H' : Hp} {p : Addr} {o : HO} (e : Ex H H') (h : H p = none) : Ex H (upd H' p o) := fun a u ha => by
  rw [upd_ne (ne_of_none ha h)]
  exact e a u ha
theorem Ex.none {G H : Hp} {p : Addr} (e : Ex G H) (h : H p = none) : G p = none := by
  cases q : G p with
  | none => rfl
  | some o =>
    rw [e p o q] at h
    cases h
theorem ex_rd {H H' : Hp} {a : Addr} {u : HO} (e : Ex H H') (h : Rd H a u) : Rd H' a u := by
  rcases h with h | ⟨o, h⟩
  · exact Or.inl (e a _ h)
  · exact Or.inr ⟨o, e a _ h⟩
theorem ex_l {K : PySem.W.Frag} {H H' : Hp} {a : Addr} {xs : List V} (e : Ex H H') (h : SqL K H a xs) : SqL K H' a xs := by
  rcases h with h | h
  · exact Or.inl (ex_rd e h)
  · exact Or.inr h
theorem ex_t {K : PySem.W.Frag} {H H' : Hp} {a : Addr} {xs : List V} (e : Ex H H') (h : SqT K H a xs) : SqT K H' a xs := by
  rcases h with h | h
  · exact Or.inl (ex_rd e h)
  · exact Or.inr h
mutual
/-- v, in the heap G, reads as the datum d: lists tracked, tuples tracked or written -/
inductive Dp (K : PySem.W.Frag) (H : Hp) : V → PyData → Prop
  | non : Dp K H .non .none
  | bl (b : Bool) : Dp K H (.bl b) (.bool b)
  | int (i : Int) : Dp K H (.int i) (.int i)
  | str (x : Str) : Dp K H (.str x) (.str x)
  | lst {a : Addr} {xs : List V} {ds : List PyData} : Rd H a (.lst xs) → DpAll K H xs ds → Dp K H (.ref a) (.list ds)
  | tup {a : Addr} {xs : List V} {ds : List PyData} : SqT K H a xs → DpAll K H xs ds → Dp K H (.ref a) (.tuple ds)
  | emp {a : Addr} : Rd H a (.dK []) → Dp K H (.ref a) (.dict [])
  | scr {a : Addr} {ns : List Int} : SqL K H a (ns.map V.int) → Dp K H (.ref a) (.dict [(.none, .list (ns.map .int))])
  | fn (x : Str) : Dp K H (.ref (He.ga K x)) (.dict [(.str x, .none)])
inductive DpAll (K : PySem.W.Frag) (H : Hp) : List V → List PyData → Prop
  | nil : DpAll K H [] []
  | cons {v : V} {vs : List V} {d : PyData} {ds : List PyData} : Dp K H v d → DpAll K H vs ds → DpAll K H (v :: vs) (d :: ds)
end
theorem lay_cons {d : PyData} {ds : List PyData} (h : PyData.canLayAll0 (d :: ds) = true) : d.canLay0 = true ∧ PyData.canLayAll0 ds = true := by
  simpa [PyData.canLayAll0, Bool.and_eq_true] using h
mutual
theorem dp_l2 {K : PySem.W.Frag} {G : Hp} : ∀ (d : PyData) (v : V), d.canLay0 = true → Dp K G v d → L2.Dp K G v d
  | .none, _, _, h => by cases h; exact .non
  | .bool b, _, _, h => by cases h; exact .bl b
  | .int i, _, _, h => by cases h; exact .int i
  | .str x, _, _, h => by cases h; exact .str x
  | .list ds, _, c, h => by
    cases h with
    | lst hs ha => exact .lst (.inl hs) (dpAll_l2 ds _ (by simpa [PyData.canLay0] using c) ha)
  | .tuple ds, _, c, h => by
    cases h with
    | tup hs ha => exact .tup hs (dpAll_l2 ds _ (by simpa [PyData.canLay0] using c) ha)
  | .dict _, _, c, _ => by cases c
theorem dpAll_l2 {K : PySem.W.Frag} {G : Hp} : ∀ (ds : List PyData) (vs : List V), PyData.canLayAll0 ds = true → DpAll K G vs ds → L2.DpAll K G vs ds
  | [], _, _, h => by cases h; exact .nil
  | d :: ds, _, c, h => by
    cases h with
    | cons h1 h2 => exact .cons (dp_l2 d _ (lay_cons c).1 h1) (dpAll_l2 ds _ (lay_cons c).2 h2)
end
mutual
theorem dp_ex {K : PySem.W.Frag} {G G' : Hp} (e : Ex G G') : ∀ (d : PyData) (v : V), Dp K G v d → Dp K G' v d
  | .none, _, h => by cases h; exact .non
  | .bool b, _, h => by cases h; exact .bl b
  | .int i, _, h => by cases h; exact .int i
  | .str x, _, h => by cases h; exact .str x
  | .list ds, _, h => by
    cases h with
    | lst hs ha => exact .lst (ex_rd e hs) (dpAll_ex e ds _ ha)
  | .tuple ds, _, h => by
    cases h with
    | tup hs ha => exact .tup (ex_t e hs) (dpAll_ex e ds _ ha)
  | .dict _, _, h => by
    cases h with
    | emp hs => exact .emp (ex_rd e hs)
    | scr hs => exact .scr (ex_l e hs)
    | fn x => exact .fn x
theorem dpAll_ex {K : PySem.W.Frag} {G G' : Hp} (e : Ex G G') : ∀ (ds : List PyData) (vs : List V), DpAll K G vs ds → DpAll K G' vs ds
  | [], _, h => by cases h; exact .nil
  | d :: ds, _, h => by
    cases h with
    | cons h1 h2 => exact .cons (dp_ex e d _ h1) (dpAll_ex e ds _ h2)
end
section
variable {K : PySem.W.Frag} {G G' H H' : Hp}
theorem Dp.ex {v : V} {d : PyData} (h : Dp K G v d) (e : Ex G G') : Dp K G' v d := dp_ex e d v h
theorem DpAll.ex {vs : List V} {ds : List PyData} (h : DpAll K G vs ds) (e : Ex G G') : DpAll K G' vs ds := dpAll_ex e ds vs h
theorem DpAll.length : ∀ {vs : List V} {ds : List PyData}, DpAll K G vs ds → vs.length = ds.length
  | _, _, .nil => rfl
  | _, _, .cons _ t => congrArg (· + 1) (DpAll.length t)
theorem DpAll.get : ∀ {vs : List V} {ds : List PyData} {i : Nat} {d : PyData}, DpAll K G vs ds → ds[i]? = some d → ∃ v, vs[i]? = some v ∧ Dp K G v d
  | _, _, _, _, .nil, e => by simp at e
  | _, _, 0, _, .cons r _, e => by
    simp at e
    subst e
    exact ⟨_, rfl, r⟩
  | _, _, i + 1, d, .cons _ t, e => by
    obtain ⟨u, h1, h2⟩ := DpAll.get (i := i) (d := d) t (by simpa using e)
    exact ⟨u, by simpa using h1, h2⟩
theorem DpAll.getV : ∀ {vs : List V} {ds : List PyData} {i : Nat} {v : V}, DpAll K G vs ds → vs[i]? = some v → ∃ d, ds[i]? = some d ∧ Dp K G v d
  | _, _, _, _, .nil, e => by simp at e
  | _, _, 0, _, .cons r _, e => by
    simp at e
    subst e
    exact ⟨_, rfl, r⟩
  | _, _, i + 1, d, .cons _ t, e => by
    obtain ⟨u, h1, h2⟩ := DpAll.getV (i := i) (v := d) t (by simpa using e)
    exact ⟨u, by simpa using h1, h2⟩
theorem DpAll.append : ∀ {vs us : List V} {ds es : List PyData}, DpAll K G vs ds → DpAll K G us es → DpAll K G (vs ++ us) (ds ++ es)
  | _, _, _, _, .nil, s => s
  | _, _, _, _, .cons r t, s => .cons r (DpAll.append t s)
theorem DpAll.take : ∀ {vs : List V} {ds : List PyData} (n : Nat), DpAll K G vs ds → DpAll K G (vs.take n) (ds.take n)
  | _, _, 0, _ => .nil
  | _, _, _ + 1, .nil => .nil
  | _, _, n + 1, .cons r t => .cons r (DpAll.take n t)
theorem DpAll.drop : ∀ {vs : List V} {ds : List PyData} (n : Nat), DpAll K G vs ds → DpAll K G (vs.drop n) (ds.drop n)
  | _, _, 0, r => r
  | _, _, _ + 1, .nil => .nil
  | _, _, n + 1, .cons _ t => DpAll.drop n t
theorem DpAll.set : ∀ {vs : List V} {ds : List PyData} {v : V} {d : PyData} (i : Nat), DpAll K G vs ds → Dp K G v d → DpAll K G (vs.set i v) (ds.set i d)
  | _, _, _, _, _, .nil, _ => .nil
  | _, _, _, _, 0, .cons _ t, q => .cons q t
  | _, _, _, _, i + 1, .cons r t, q => .cons r (DpAll.set i t q)
theorem DpAll.reverse {vs : List V} {ds : List PyData} (h : DpAll K G vs ds) : DpAll K G vs.reverse ds.reverse := by
  induction h using DpAll.rec (motive_1 := fun _ _ _ => True) with
  | nil => exact .nil
  | cons _ _ _ ih =>
    rw [List.reverse_cons, List.reverse_cons]
    exact ih.append (.cons (by assumption) .nil)
  | _ => trivial
theorem DpAll.rep {vs : List V} {ds : List PyData} (h : DpAll K G vs ds) : ∀ k : Nat, DpAll K G (List.replicate k vs).flatten (List.replicate k ds).flatten
  | 0 => .nil
  | k + 1 => by
    rw [List.replicate_succ, List.replicate_succ, List.flatten_cons, List.flatten_cons]
    exact h.append (DpAll.rep h k)
end

/-! ### the environment -/
inductive SV where
  | no
  | val (d : PyData)
  | own (ds : List PyData)
  | own1 (ds rs : List PyData)
  | reg
abbrev En := List SV
/-- the one mutable thing of a def: its address, its states, how a state lies in the heap (G: what is frozen; F: where it lies) -/
structure Rgn (K : PySem.W.Frag) (S : Type) where
  P : Addr
  rel : S → (Addr → Prop) → Hp → Hp → Prop
  mono : ∀ {s : S} {F : Addr → Prop} {G H G' H' : Hp}, rel s F G H → Ex G G' → (∀ a o, F a → H a = some o → H' a = some o) → rel s F G' H'
def noR (K : PySem.W.Frag) : Rgn K Unit := ⟨0, fun _ F _ _ => ∀ a, ¬ F a, fun h _ _ => h⟩
def potR (K : PySem.W.Frag) (P : Addr) : Rgn K (List PyData) :=
  ⟨P, fun s F G H => (∀ a, F a ↔ a = P) ∧ ∃ vs, H P = some (.lst vs) ∧ DpAll K G vs s, fun h e k => by
    obtain ⟨h1, vs, h2, h3⟩ := h
    exact ⟨h1, vs, k _ _ ((h1 _).mpr rfl) h2, h3.ex e⟩⟩
structure RgOk {K : PySem.W.Frag} {S : Type} (R : Rgn K S) (G : Hp) (F : Addr → Prop) (H : Hp) (s : S) : Prop where
  ex : Ex G H
  sep : ∀ a, F a → G a = none
  inn : ∀ a, F a → ∃ o, H a = some o
  rel : R.rel s F G H
/-- the heap moved on -/
structure Mv (G : Hp) (F : Addr → Prop) (H G' : Hp) (F' : Addr → Prop) (H' : Hp) : Prop where
  g : Ex G G'
  h : ∀ a o, ¬ F a → H a = some o → H' a = some o
  there : ∀ a o, H a = some o → ∃ o', H' a = some o'
  new : ∀ a o, G' a = some o → G a = some o ∨ H a = none
  newF : ∀ a, F' a → F a ∨ H a = none
theorem Mv.refl (G : Hp) (F : Addr → Prop) (H : Hp) : Mv G F H G F H := ⟨Ex.refl _, fun _ _ _ h => h, fun _ _ h => ⟨_, h⟩, fun _ _ h => .inl h, fun _ h => .inl h⟩
theorem none_back {H H' : Hp} (t : ∀ a o, H a = some o → ∃ o', H' a = some o') {a : Addr} (h : H' a = none) : H a = none := by
  cases q : H a with
  | none => rfl
  | some o =>
    obtain ⟨o', e⟩ := t a o q
    rw [e] at h
    cases h
theorem Mv.trans {G G1 G2 H H1 H2 : Hp} {F F1 F2 : Addr → Prop} (a : Mv G F H G1 F1 H1) (b : Mv G1 F1 H1 G2 F2 H2) : Mv G F H G2 F2 H2 := by
  refine ⟨a.g.trans b.g, fun x o hf h => ?_, fun x o h => ?_, fun x o h => ?_, fun x h => ?_⟩
  · refine b.h x o (fun z => ?_) (a.h x o hf h)
    rcases a.newF x z with q | q
    · exact hf q
    · rw [h] at q
      cases q
  · obtain ⟨o1, h1⟩ := a.there x o h
    exact b.there x o1 h1
  · rcases b.new x o h with q | q
    · exact a.new x o q
    · exact .inr (none_back a.there q)
  · rcases b.newF x h with q | q
    · exact a.newF x q
    · exact .inr (none_back a.there q)
/-- only new things came -/
structure Gr (G H G' H' : Hp) : Prop where
  g : Ex G G'
  h : Ex H H'
  ex : Ex G' H'
  new : ∀ a o, G' a = some o → G a = some o ∨ H a = none
theorem Gr.refl {G H : Hp} (e : Ex G H) : Gr G H G H := ⟨Ex.refl _, Ex.refl _, e, fun _ _ h => .inl h⟩
theorem Gr.trans {G G1 G2 H H1 H2 : Hp} (a : Gr G H G1 H1) (b : Gr G1 H1 G2 H2) : Gr G H G2 H2 := ⟨a.g.trans b.g, a.h.trans b.h, b.ex, fun x o h => by
  rcases b.new x o h with q | q
  · exact a.new x o q
  · exact .inr (a.h.none q)⟩
theorem Gr.laid {G H : Hp} {p : Addr} {o : HO} (e : Ex G H) (h : H p = none) : Gr G H (upd G p o) (upd H p o) := ⟨Ex.new (e.none h), Ex.new h, e.upd2, fun a u q => by
  by_cases z : a = p
  · subst z
    exact .inr h
  · rw [upd_ne z] at q
    exact .inl q⟩
/-- new, and not frozen -/
theorem Gr.hidden {G H : Hp} {p : Addr} {o : HO} (e : Ex G H) (h : H p = none) : Gr G H G (upd H p o) := ⟨Ex.refl _, Ex.new h, e.mut (e.none h), fun _ _ q => .inl q⟩
theorem Mv.of_gr {G H G' H' : Hp} {F : Addr → Prop} (g : Gr G H G' H') : Mv G F H G' F H' := ⟨g.g, fun a o _ h => g.h a o h, fun a o h => ⟨o, g.h a o h⟩, g.new, fun _ h => .inl h⟩
section
variable {K : PySem.W.Frag} {S : Type} {R : Rgn K S} {G H G' H' : Hp} {F F' : Addr → Prop} {s : S}
theorem RgOk.gr (r : RgOk R G F H s) (g : Gr G H G' H') : RgOk R G' F H' s := by
  refine ⟨g.ex, fun a h => ?_, fun a h => ?_, R.mono r.rel g.g fun a o _ e => g.h a o e⟩
  · cases q : G' a with
    | none => rfl
    | some o =>
      rcases g.new a o q with z | z
      · rw [r.sep a h] at z
        cases z
      · obtain ⟨o', e⟩ := r.inn a h
        rw [e] at z
        cases z
  · obtain ⟨o, e⟩ := r.inn a h
    exact ⟨o, g.h a o e⟩
end
/-- what may be read as d: frozen, or a list of one's own as it stands -/
def Dq (K : PySem.W.Frag) (G : Hp) (F : Addr → Prop) (H : Hp) (v : V) (d : PyData) : Prop :=
  Dp K G v d ∨ ∃ a vs ds, v = .ref a ∧ d = .list ds ∧ H a = some (.lst vs) ∧ ¬ F a ∧ DpAll K G vs ds
section
variable {K : PySem.W.Frag} {G H G' H' : Hp} {F F' : Addr → Prop} {v : V} {d : PyData}
theorem Dq.mv (h : Dq K G F H v d) (m : Mv G F H G' F' H') : Dq K G' F' H' v d := by
  rcases h with h | ⟨a, vs, ds, rfl, rfl, h1, h2, h3⟩
  · exact .inl (h.ex m.g)
  · refine .inr ⟨a, vs, ds, rfl, rfl, m.h _ _ h2 h1, fun z => ?_, h3.ex m.g⟩
    rcases m.newF a z with q | q
    · exact h2 q
    · rw [h1] at q
      cases q
theorem Dq.list {ds : List PyData} (h : Dq K G F H v (.list ds)) (e : Ex G H) : ∃ a vs, v = .ref a ∧ Rd H a (.lst vs) ∧ DpAll K G vs ds := by
  rcases h with h | ⟨a, vs, ds', rfl, z, h1, _, h3⟩
  · cases h with
    | lst hs ha => exact ⟨_, _, rfl, ex_rd e hs, ha⟩
  · cases z
    exact ⟨a, vs, rfl, .inl h1, h3⟩
theorem Dq.tuple {ds : List PyData} (h : Dq K G F H v (.tuple ds)) (e : Ex G H) : ∃ a vs, v = .ref a ∧ SqT K H a vs ∧ DpAll K G vs ds := by
  rcases h with h | ⟨a, vs, ds', _, z, _⟩
  · cases h with
    | tup hs ha => exact ⟨_, _, rfl, ex_t e hs, ha⟩
  · cases z
theorem Dq.int {i : Int} (h : Dq K G F H v (.int i)) : v = .int i := by
  rcases h with h | ⟨_, _, _, _, z, _⟩
  · cases h
    rfl
  · cases z
theorem Dq.bool {i : Bool} (h : Dq K G F H v (.bool i)) : v = .bl i := by
  rcases h with h | ⟨_, _, _, _, z, _⟩
  · cases h
    rfl
  · cases z
theorem Dq.str {i : Str} (h : Dq K G F H v (.str i)) : v = .str i := by
  rcases h with h | ⟨_, _, _, _, z, _⟩
  · cases h
    rfl
  · cases z
theorem Dq.non (h : Dq K G F H v .none) : v = .non := by
  rcases h with h | ⟨_, _, _, _, z, _⟩
  · cases h
    rfl
  · cases z
/-- read in the whole heap -/
theorem Dq.whole (h : Dq K G F H v d) (e : Ex G H) : Dp K H v d := by
  rcases h with h | ⟨a, vs, ds, rfl, rfl, h1, h2, h3⟩
  · exact h.ex e
  · exact .lst (.inl h1) (h3.ex e)
theorem Dp.q (h : Dp K G v d) : Dq K G F H v d := .inl h
end

/-! ### a state of a def's body -/
structure Ctx (K : PySem.W.Frag) (S : Type) where
  R : Rgn K S
  G0 : Hp
  F0 : Addr → Prop
  H0 : Hp
def SlotOk {K : PySem.W.Frag} {S : Type} (c : Ctx K S) (G : Hp) (F : Addr → Prop) (H : Hp) : SV → Option (Option V) → Prop
  | .no, _ => True
  | .val d, o => ∃ v, o = some (some v) ∧ Dp K G v d
  | .own ds, o => ∃ a vs, o = some (some (.ref a)) ∧ H a = some (.lst vs) ∧ DpAll K G vs ds ∧ G a = none ∧ ¬ F a ∧ c.H0 a = none
  | .own1 ds rs, o => ∃ t a vs us, o = some (some (.ref t)) ∧ H t = some (.lst (.ref a :: us)) ∧ H a = some (.lst vs) ∧ DpAll K G vs ds ∧ DpAll K G us rs ∧ (G t = none ∧ ¬ F t ∧ c.H0 t = none) ∧ (G a = none ∧ ¬ F a ∧ c.H0 a = none) ∧ t ≠ a
  | .reg, o => o = some (some (.ref c.R.P))
/-- the list at o2 is neither the list at o1 nor its first one -/
def Sep (H : Hp) (o1 o2 : Option (Option V)) : Prop := ∀ (t a : Addr) (us : List V) (l : Addr), o1 = some (some (V.ref t)) → H t = some (.lst (V.ref a :: us)) → o2 = some (some (V.ref l)) → l ≠ t ∧ l ≠ a
theorem Sep.to {H H' : Hp} {o1 o2 : Option (Option V)} (h : Sep H o1 o2) (e : ∀ (t a : Addr) (us : List V), o1 = some (some (V.ref t)) → H' t = some (.lst (V.ref a :: us)) → H t = some (.lst (V.ref a :: us))) : Sep H' o1 o2 := fun t a us l h1 h2 h3 => h t a us l h1 (e t a us h1 h2) h3
structure Rel {K : PySem.W.Frag} {S : Type} (c : Ctx K S) (σ : L2.St) (H G : Hp) (F : Addr → Prop) (env : En) (s : S) : Prop where
  rg : RgOk c.R G F H s
  mv : Mv c.G0 c.F0 c.H0 G F H
  len : env.length = σ.length
  slot : ∀ (i : Nat) (sv : SV), env[i]? = some sv → SlotOk c G F H sv σ[i]?
  inj : ∀ (i j : Nat) (ds es : List PyData), env[i]? = some (SV.own ds) → env[j]? = some (SV.own es) → σ[i]? = σ[j]? → i = j
  inj1 : ∀ (i j : Nat) (ds rs es : List PyData), env[i]? = some (SV.own1 ds rs) → env[j]? = some (SV.own es) → Sep H σ[i]? σ[j]?
section
variable {K : PySem.W.Frag} {S : Type} {c : Ctx K S} {σ : L2.St} {G H G' H' : Hp} {F F' : Addr → Prop} {env : En} {s s' : S}
theorem Mv.gn (m : Mv G F H G' F' H') {b : Addr} {o : HO} (g : G b = none) (h : H b = some o) : G' b = none := by
  cases q : G' b with
  | none => rfl
  | some o' =>
    rcases m.new b o' q with z | z
    · rw [g] at z
      cases z
    · rw [h] at z
      cases z
theorem Mv.fn (m : Mv G F H G' F' H') {b : Addr} {o : HO} (f : ¬ F b) (h : H b = some o) : ¬ F' b := fun z => by
  rcases m.newF b z with q | q
  · exact f q
  · rw [h] at q
    cases q
theorem sep_mv {ds rs : List PyData} {o1 o2 : Option (Option V)} (w : SlotOk c G F H (.own1 ds rs) o1) (m : Mv G F H G' F' H') (h : Sep H o1 o2) : Sep H' o1 o2 := by
  obtain ⟨t, a, vs, us, e, h1, _, _, _, ⟨_, f1, _⟩, _⟩ := w
  refine h.to fun t2 a2 us2 e2 h2 => ?_
  rw [e] at e2
  injection e2 with e2
  injection e2 with e2
  injection e2 with e2
  subst e2
  rw [m.h t _ f1 h1] at h2
  rw [h1]
  exact h2
theorem sep_fresh {ds rs : List PyData} {o1 : Option (Option V)} {p : Addr} (w : SlotOk c G F H (.own1 ds rs) o1) (m : Mv G F H G' F' H') (hn : H p = none) : Sep H' o1 (some (some (V.ref p))) := by
  obtain ⟨t, a, vs, us, e, h1, h2, _, _, ⟨_, f1, _⟩, _⟩ := w
  intro t2 a2 us2 l e1 e2 e3
  injection e3 with e3
  injection e3 with e3
  injection e3 with e3
  subst e3
  rw [e] at e1
  injection e1 with e1
  injection e1 with e1
  injection e1 with e1
  subst e1
  rw [m.h t _ f1 h1] at e2
  injection e2 with e2
  injection e2 with e2
  injection e2 with e2 e4
  injection e2 with e2
  subst e2
  refine ⟨fun z => ?_, fun z => ?_⟩
  · rw [z, h1] at hn
    cases hn
  · rw [z, h2] at hn
    cases hn
theorem SlotOk.mv {sv : SV} {o : Option (Option V)} (h : SlotOk c G F H sv o) (m : Mv G F H G' F' H') : SlotOk c G' F' H' sv o := by
  cases sv with
  | no => trivial
  | val d =>
    obtain ⟨v, e, h⟩ := h
    exact ⟨v, e, h.ex m.g⟩
  | own ds =>
    obtain ⟨a, vs, e, h1, h2, h3, h4, h5⟩ := h
    refine ⟨a, vs, e, m.h _ _ h4 h1, h2.ex m.g, ?_, fun z => ?_, h5⟩
    · cases q : G' a with
      | none => rfl
      | some o =>
        rcases m.new a o q with z | z
        · rw [h3] at z
          cases z
        · rw [h1] at z
          cases z
    · rcases m.newF a z with q | q
      · exact h4 q
      · rw [h1] at q
        cases q
  | own1 ds rs =>
    obtain ⟨t, a, vs, us, e, h1, h2, h3, h4, ⟨g1, f1, n1⟩, ⟨g2, f2, n2⟩, ne⟩ := h
    exact ⟨t, a, vs, us, e, m.h _ _ f1 h1, m.h _ _ f2 h2, h3.ex m.g, h4.ex m.g, ⟨m.gn g1 h1, m.fn f1 h1, n1⟩, ⟨m.gn g2 h2, m.fn f2 h2, n2⟩, ne⟩
  | reg => exact h
theorem Rel.to (r : Rel c σ H G F env s) (m : Mv G F H G' F' H') (o : RgOk c.R G' F' H' s') : Rel c σ H' G' F' env s' :=
  ⟨o, r.mv.trans m, r.len, fun i sv e => (r.slot i sv e).mv m, r.inj, fun i j ds rs es q1 q2 => sep_mv (r.slot i _ q1) m (r.inj1 i j ds rs es q1 q2)⟩
theorem Rel.gr (r : Rel c σ H G F env s) (g : Gr G H G' H') : Rel c σ H' G' F env s := r.to (Mv.of_gr g) (r.rg.gr g)
theorem Rel.ex (r : Rel c σ H G F env s) : Ex G H := r.rg.ex
end
end Dv

namespace L2
open PySem PySem.Spec
section
variable {X : Cx}
theorem PE.imp {e : Expr} {t t' : TE} (h : PE X e t) (i : ∀ σ H Q, t' σ H Q → t σ H Q) : PE X e t' := ⟨fun pins s σ H Q I q => h.run pins s σ H Q I (i σ H Q q)⟩
theorem PT.imp {e : Expr} {t t' : TT} (h : PT X e t) (i : ∀ σ H Q, t' σ H Q → t σ H Q) : PT X e t' := ⟨fun pins s σ H Q I q => h.run pins s σ H Q I (i σ H Q q)⟩
theorem PW.imp {e : Expr} {t t' : TT} (h : PW X e t) (i : ∀ σ H Q, t' σ H Q → t σ H Q) : PW X e t' := ⟨fun wh pins s σ H Q I q => h.run wh pins s σ H Q I (i σ H Q q)⟩
theorem PA.imp {e : List Expr} {t t' : TA} (h : PA X e t) (i : ∀ σ H Q, t' σ H Q → t σ H Q) : PA X e t' := ⟨fun pos pins s σ H Q I q => h.run pos pins s σ H Q I (i σ H Q q)⟩
theorem PK.imp {e : List Keyword} {t t' : TA} (h : PK X e t) (i : ∀ σ H Q, t' σ H Q → t σ H Q) : PK X e t' := ⟨fun p pins s σ H Q I q => h.run p pins s σ H Q I (i σ H Q q)⟩
theorem PO.imp {e : Option Expr} {t t' : TO} (h : PO X e t) (i : ∀ σ H Q, t' σ H Q → t σ H Q) : PO X e t' := ⟨fun pins s σ H Q I q => h.run pins s σ H Q I (i σ H Q q)⟩
theorem PS.imp {e : Stmt} {t t' : TS} (h : PS X e t) (i : ∀ D σ H, t' D σ H → t D σ H) : PS X e t' := ⟨fun pins s σ H D I q => h.run pins s σ H D I (i D σ H q)⟩
theorem PSs.imp {e : List Stmt} {t t' : TS} (h : PSs X e t) (i : ∀ D σ H, t' D σ H → t D σ H) : PSs X e t' := ⟨fun pins s σ H D I q => h.run pins s σ H D I (i D σ H q)⟩
theorem PG.imp {e : Expr} {t t' : TG} (h : PG X e t) (i : ∀ v σ H Q, t' v σ H Q → t v σ H Q) : PG X e t' := ⟨fun pins s σ H v u Q I r q => h.run pins s σ H v u Q I r (i v σ H Q q)⟩
theorem PGs.imp {e : List Expr} {t t' : TGs} (h : PGs X e t) (i : ∀ v σ H Q, t' v σ H Q → t v σ H Q) : PGs X e t' := ⟨fun pins s σ H v u Q I r q => h.run pins s σ H v u Q I r (i v σ H Q q)⟩
theorem PI.imp {tg e : Expr} {t t' : TI} (h : PI X tg e t) (i : ∀ σ H Q, t' σ H Q → t σ H Q) : PI X tg e t' := ⟨fun pins s σ H Q I q => h.run pins s σ H Q I (i σ H Q q)⟩
end
end L2
namespace Dv
open PySem PySem.Spec PyProof.Rows L2

/-! ### what is reckoned: from the state and the environment a value and a new state -/
abbrev M (S α : Type) := S → En → Option (α × S)
section
variable {K : PySem.W.Frag} {S : Type}
/-- a datum that is frozen | that is read | a new list | a test | several | what is walked -/
def tE (c : Ctx K S) (m : M S PyData) : TE := fun σ H Q => ∃ G F env s r s', Rel c σ H G F env s ∧ m s env = some (r, s') ∧
  ∀ v H' G' F', Rel c σ H' G' F' env s' → Mv G F H G' F' H' → Dp K G' v r → Q v H'
def tB (c : Ctx K S) (m : M S PyData) : TE := fun σ H Q => ∃ G F env s r s', Rel c σ H G F env s ∧ m s env = some (r, s') ∧
  ∀ v H' G' F', Rel c σ H' G' F' env s' → Mv G F H G' F' H' → Dq K G' F' H' v r → Q v H'
def tO (c : Ctx K S) (m : M S (List PyData)) : TE := fun σ H Q => ∃ G F env s r s', Rel c σ H G F env s ∧ m s env = some (r, s') ∧
  ∀ a vs H' G' F', Rel c σ H' G' F' env s' → Mv G F H G' F' H' → H' a = some (.lst vs) → DpAll K G' vs r → G' a = none → ¬ F' a → H a = none → Q (.ref a) H'
def tT (c : Ctx K S) (m : M S Bool) : TT := fun σ H Q => ∃ G F env s r s', Rel c σ H G F env s ∧ m s env = some (r, s') ∧
  ∀ H' G' F', Rel c σ H' G' F' env s' → Mv G F H G' F' H' → Q r H'
inductive DqAll (K : PySem.W.Frag) (G : Hp) (F : Addr → Prop) (H : Hp) : List V → List PyData → Prop
  | nil : DqAll K G F H [] []
  | cons {v : V} {vs : List V} {d : PyData} {ds : List PyData} : Dq K G F H v d → DqAll K G F H vs ds → DqAll K G F H (v :: vs) (d :: ds)
def tA (c : Ctx K S) (m : M S (List PyData)) : TA := fun σ H Q => ∃ G F env s r s', Rel c σ H G F env s ∧ m s env = some (r, s') ∧
  ∀ vs H' G' F', Rel c σ H' G' F' env s' → Mv G F H G' F' H' → DqAll K G' F' H' vs r → Q vs H'
/-- frozen ones -/
def tAE (c : Ctx K S) (m : M S (List PyData)) : TA := fun σ H Q => ∃ G F env s r s', Rel c σ H G F env s ∧ m s env = some (r, s') ∧
  ∀ vs H' G' F', Rel c σ H' G' F' env s' → Mv G F H G' F' H' → DpAll K G' vs r → Q vs H'
/-- J walks ds, as long as what is frozen stays -/
def Wk (K : PySem.W.Frag) (J : It) (ds : List PyData) (G0 : Hp) : Prop := ∀ G H, Ex G0 G → Ex G H →
  (∀ (i : Nat) d, ds[i]? = some d → J.go i H ∧ ∀ x H', J.yld i H x H' → ∃ G', Gr G H G' H' ∧ Dp K G' x d) ∧ J.stop ds.length H
def tI (c : Ctx K S) (m : M S (List PyData)) : TI := fun σ H R => ∃ G F env s r s', Rel c σ H G F env s ∧ m s env = some (r, s') ∧
  ∀ J H' G' F', Rel c σ H' G' F' env s' → Mv G F H G' F' H' → Wk K J r G' → R J H'
theorem DqAll.mv {G H G' H' : Hp} {F F' : Addr → Prop} {vs : List V} {ds : List PyData} (h : DqAll K G F H vs ds) (m : Mv G F H G' F' H') : DqAll K G' F' H' vs ds := by
  induction h with
  | nil => exact .nil
  | cons h1 _ ih => exact .cons (h1.mv m) ih
theorem DqAll.length {G H : Hp} {F : Addr → Prop} {vs : List V} {ds : List PyData} (h : DqAll K G F H vs ds) : vs.length = ds.length := by
  induction h with
  | nil => rfl
  | cons _ _ ih => exact congrArg (· + 1) ih
end

/-! ### combinators -/
section
variable {S : Type}
def eC (d : PyData) : M S PyData := fun s _ => some (d, s)
def eV (i : Nat) : M S PyData := fun s env => match env[i]? with
  | some (SV.val d) => some (d, s)
  | _ => none
def bV (i : Nat) : M S PyData := fun s env => match env[i]? with
  | some (SV.val d) => some (d, s)
  | some (SV.own ds) => some (.list ds, s)
  | _ => none
def e1 (f : PyData → Option PyData) (a : M S PyData) : M S PyData := fun s env => (a s env).bind fun p => (f p.1).map fun z => (z, p.2)
def e2 (f : PyData → PyData → Option PyData) (a b : M S PyData) : M S PyData := fun s env => (a s env).bind fun p => (b p.2 env).bind fun q => (f p.1 q.1).map fun z => (z, q.2)
def eN (f : List PyData → Option PyData) (a : M S (List PyData)) : M S PyData := fun s env => (a s env).bind fun p => (f p.1).map fun z => (z, p.2)
/-- a new list out of values -/
def oN (f : List PyData → Option (List PyData)) (a : M S (List PyData)) : M S (List PyData) := fun s env => (a s env).bind fun p => (f p.1).map fun z => (z, p.2)
def o2 (f : PyData → PyData → Option (List PyData)) (a b : M S PyData) : M S (List PyData) := fun s env => (a s env).bind fun p => (b p.2 env).bind fun q => (f p.1 q.1).map fun z => (z, q.2)
def aNil : M S (List PyData) := fun s _ => some ([], s)
def aCons (a : M S PyData) (r : M S (List PyData)) : M S (List PyData) := fun s env => (a s env).bind fun p => (r p.2 env).bind fun q => some (p.1 :: q.1, q.2)
def eL (a : M S (List PyData)) : M S PyData := fun s env => (a s env).map fun p => (.list p.1, p.2)
def eTup (a : M S (List PyData)) : M S PyData := fun s env => (a s env).map fun p => (.tuple p.1, p.2)
def tV (a : M S PyData) : M S Bool := fun s env => (a s env).bind fun p => match p.1 with
  | .bool b => some (b, p.2)
  | _ => none
def vT (a : M S Bool) : M S PyData := fun s env => (a s env).map fun p => (.bool p.1, p.2)
def tAnd (a b : M S Bool) : M S Bool := fun s env => (a s env).bind fun p => if p.1 = true then b p.2 env else some (false, p.2)
def tOr (a b : M S Bool) : M S Bool := fun s env => (a s env).bind fun p => if p.1 = true then some (true, p.2) else b p.2 env
def tNot (a : M S Bool) : M S Bool := fun s env => (a s env).map fun p => (!p.1, p.2)
def eIf {α : Type} (t : M S Bool) (a b : M S α) : M S α := fun s env => (t s env).bind fun p => if p.1 = true then a p.2 env else b p.2 env
/-- a < b < c and its like -/
def eChain (f g : PyData → PyData → Option PyData) (a b c : M S PyData) : M S PyData := fun s env => (a s env).bind fun p => (b p.2 env).bind fun q => (f p.1 q.1).bind fun z => match z with
  | .bool true => (c q.2 env).bind fun r => (g q.1 r.1).map fun z => (z, r.2)
  | .bool false => some (.bool false, q.2)
  | _ => none
end
section
variable {K : PySem.W.Frag} {S : Type} {X : Cx} {c : Ctx K S} {e a b : Expr} {pos : Pos} {m : M S PyData}
theorem some_bind {α β : Type} {o : Option α} {f : α → Option β} {z : β} (h : o.bind f = some z) : ∃ x, o = some x ∧ f x = some z := Option.bind_eq_some_iff.mp h
theorem some_map {α β : Type} {o : Option α} {f : α → β} {z : β} (h : o.map f = some z) : ∃ x, o = some x ∧ f x = z := Option.map_eq_some_iff.mp h

theorem e_b (h : PE X e (tE c m)) : PE X e (tB c m) := h.imp fun σ H Q ⟨G, F, env, s, r, s', R, hm, k⟩ => ⟨G, F, env, s, r, s', R, hm, fun v H' G' F' R' M' D => k v H' G' F' R' M' D.q⟩
theorem o_b {mo : M S (List PyData)} (h : PE X e (tO c mo)) : PE X e (tB c (eL mo)) := h.imp fun σ H Q ⟨G, F, env, s, r, s', R, hm, k⟩ => by
  obtain ⟨⟨r0, s0⟩, h0, e0⟩ := some_map hm
  injection e0 with e1 e2
  subst e1 e2
  exact ⟨G, F, env, s, r0, s0, R, h0, fun a vs H' G' F' R' M' ha hd hg hf hn => k (.ref a) H' G' F' R' M' (.inr ⟨a, vs, r0, rfl, rfl, ha, hf, hd⟩)⟩
theorem oe_run {mo : M S (List PyData)} {σ : L2.St} {H : Hp} {Q : VK} (h : tE c (eL mo) σ H Q) : tO c mo σ H Q := by
  obtain ⟨G, F, env, s, r, s', R, hm, k⟩ := h
  obtain ⟨⟨r0, s0⟩, h0, e0⟩ := some_map hm
  injection e0 with e1 e2
  subst e1 e2
  refine ⟨G, F, env, s, r0, s0, R, h0, fun a vs H' G' F' R' M' ha hd hg hf hn => ?_⟩
  have g1 : Ex G' (upd G' a (.lst vs)) := Ex.new hg
  have hn0 : c.H0 a = none := none_back R.mv.there hn
  have m2 : Mv G' F' H' (upd G' a (.lst vs)) F' H' → True := fun _ => trivial
  have ex2 : Ex (upd G' a (.lst vs)) H' := fun x o q => by
    by_cases z : x = a
    · subst z
      rw [upd_same] at q
      cases q
      exact ha
    · rw [upd_ne z] at q
      exact R'.ex x o q
  have newA : ∀ {G1 H1 : Hp}, (∀ x o, G' x = some o → G1 x = some o ∨ H1 x = none) → H1 a = none → ∀ x o, upd G' a (.lst vs) x = some o → G1 x = some o ∨ H1 x = none := fun n h1 x o q => by
    by_cases z : x = a
    · subst z
      exact .inr h1
    · rw [upd_ne z] at q
      exact n x o q
  refine k (.ref a) H' (upd G' a (.lst vs)) F' ⟨⟨ex2, fun x q => ?_, R'.rg.inn, c.R.mono R'.rg.rel g1 fun _ _ _ q => q⟩, ⟨R'.mv.g.trans g1, R'.mv.h, R'.mv.there, newA R'.mv.new hn0, R'.mv.newF⟩, R'.len, fun i sv q => ?_, R'.inj, R'.inj1⟩
    ⟨M'.g.trans g1, M'.h, M'.there, newA M'.new hn, M'.newF⟩ (.lst (.inl upd_same) (hd.ex g1))
  · rw [upd_ne (fun z => hf (by rw [← z]; exact q))]
    exact R'.rg.sep x q
  · have w := R'.slot i sv q
    have w0 := R.slot i sv q
    cases sv with
    | no => trivial
    | val d =>
      obtain ⟨v, e, h⟩ := w
      exact ⟨v, e, h.ex g1⟩
    | own ds =>
      obtain ⟨b, us, e, h1, h2, h3, h4, h5⟩ := w
      obtain ⟨b0, us0, e0, h10, _⟩ := w0
      rw [e] at e0
      injection e0 with e0
      injection e0 with e0
      injection e0 with e0
      subst e0
      have ne : b ≠ a := fun z => by
        subst z
        rw [hn] at h10
        cases h10
      exact ⟨b, us, e, h1, h2.ex g1, by rw [upd_ne ne]; exact h3, h4, h5⟩
    | own1 ds rs =>
      obtain ⟨t, b, us, ws, e, h1, h2, h3, h4, ⟨p1, f1, n1⟩, ⟨p2, f2, n2⟩, ne⟩ := w0
      have ne1 : t ≠ a := fun z => by rw [z, hn] at h1; cases h1
      have ne2 : b ≠ a := fun z => by rw [z, hn] at h2; cases h2
      exact ⟨t, b, us, ws, e, M'.h _ _ f1 h1, M'.h _ _ f2 h2, (h3.ex M'.g).ex g1, (h4.ex M'.g).ex g1, ⟨by rw [upd_ne ne1]; exact M'.gn p1 h1, M'.fn f1 h1, n1⟩, ⟨by rw [upd_ne ne2]; exact M'.gn p2 h2, M'.fn f2 h2, n2⟩, ne⟩
    | reg => exact w
theorem o_e {mo : M S (List PyData)} (h : PE X e (tO c mo)) : PE X e (tE c (eL mo)) := h.imp fun _ _ _ h => oe_run h
/-- a test out of a bool -/
theorem t_val (h : PE X e (tB c m)) (he : ∀ whole, isTrue e X.env whole = (do let v ← whole; standAt e.pos; holding [v] (truthy v)) := by intro _; rfl) : PT X e (tT c (tV m)) :=
  (pt_val h he).imp fun σ H Q ⟨G, F, env, s, r, s', R, hm, k⟩ => by
    obtain ⟨⟨r0, s0⟩, h0, e0⟩ := some_bind hm
    cases r0 with
    | bool b =>
      injection e0 with e0
      injection e0 with e1 e2
      subst e1 e2
      exact ⟨G, F, env, s, _, s0, R, h0, fun v H' G' F' R' M' D => ⟨b, D.bool, k H' G' F' R' M'⟩⟩
    | _ => cases e0

/-! ### constants and names -/
theorem k_int {i : Int} {j : Nat} : PE X (.Constant (.int i) j pos) (tE c (eC (.int i))) := pe_int.imp fun σ H Q ⟨G, F, env, s, r, s', R, hm, k⟩ => by
  cases hm
  exact k _ H G F R (Mv.refl _ _ _) (.int i)
theorem k_bl {i : Bool} {j : Nat} : PE X (.Constant (.bool i) j pos) (tE c (eC (.bool i))) := pe_bl.imp fun σ H Q ⟨G, F, env, s, r, s', R, hm, k⟩ => by
  cases hm
  exact k _ H G F R (Mv.refl _ _ _) (.bl i)
theorem k_non {j : Nat} : PE X (.Constant .none j pos) (tE c (eC .none)) := pe_non.imp fun σ H Q ⟨G, F, env, s, r, s', R, hm, k⟩ => by
  cases hm
  exact k _ H G F R (Mv.refl _ _ _) .non
theorem k_str {x : Str} {j : Nat} : PE X (.Constant (.str x) j pos) (tE c (eC (.str x))) := pe_str.imp fun σ H Q ⟨G, F, env, s, r, s', R, hm, k⟩ => by
  cases hm
  exact k _ H G F R (Mv.refl _ _ _) (.str x)
/-- a constant of the module -/
theorem k_glob {x : Str} {v : V} {u : Value} {d : PyData} (hg : Gl X x) (hm : X.mg x = some u) (r : RelV v u) (hd : ∀ G, Dp K G v d) (hdb : (x == ("__debug__" : Str)) = false := by decide) : PE X (.Name x pos) (tE c (eC d)) :=
  (pe_glob hg hm r hdb).imp fun σ H Q ⟨G, F, env, s, r, s', R, hm, k⟩ => by
    cases hm
    exact k _ H G F R (Mv.refl _ _ _) (hd G)
theorem Rel.val {σ : L2.St} {G H : Hp} {F : Addr → Prop} {env : En} {s : S} (R : Rel c σ H G F env s) {i : Nat} {d : PyData} (h : env[i]? = some (SV.val d)) : ∃ v, σ[i]? = some (some v) ∧ Dp K G v d := R.slot i _ h
theorem n_v (i : Nat) (h : PE X e (tVar i)) : PE X e (tE c (eV i)) := h.imp fun σ H Q ⟨G, F, env, s, r, s', R, hm, k⟩ => by
  unfold eV at hm
  split at hm
  · rename_i d hd
    cases hm
    obtain ⟨v, e, D⟩ := R.val hd
    exact ⟨v, e, k v H G F R (Mv.refl _ _ _) D⟩
  · cases hm
theorem n_b (i : Nat) (h : PE X e (tVar i)) : PE X e (tB c (bV i)) := h.imp fun σ H Q ⟨G, F, env, s, r, s', R, hm, k⟩ => by
  unfold bV at hm
  split at hm
  · rename_i d hd
    cases hm
    obtain ⟨v, e, D⟩ := R.val hd
    exact ⟨v, e, k v H G F R (Mv.refl _ _ _) D.q⟩
  · rename_i ds hd
    cases hm
    obtain ⟨a, vs, e, h1, h2, h3, h4, h5⟩ := R.slot i _ hd
    exact ⟨.ref a, e, k _ H G F R (Mv.refl _ _ _) (.inr ⟨a, vs, ds, rfl, rfl, h1, h4, h2⟩)⟩
  · cases hm

/-! ### operators by values -/
/-- r, by values, gives f -/
def D2 (K : PySem.W.Frag) (r : R2) (f : PyData → PyData → Option PyData) : Prop := ∀ {G : Hp} {F : Addr → Prop} {H : Hp} {x y : V} {d e z : PyData} {Q : VK}, Ex G H → Dq K G F H x d → Dq K G F H y e → f d e = some z →
  (∀ v H' G', Gr G H G' H' → Dp K G' v z → Q v H') → r x y H Q
/-- .. a new list -/
def D2o (K : PySem.W.Frag) (r : R2) (f : PyData → PyData → Option (List PyData)) : Prop := ∀ {G : Hp} {F : Addr → Prop} {H : Hp} {x y : V} {d e : PyData} {z : List PyData} {Q : VK}, Ex G H → Dq K G F H x d → Dq K G F H y e → f d e = some z →
  (∀ p vs, H p = none → DpAll K G vs z → Q (.ref p) (upd H p (.lst vs))) → r x y H Q
def D1 (K : PySem.W.Frag) (r : V → Hp → VK → Prop) (f : PyData → Option PyData) : Prop := ∀ {G : Hp} {F : Addr → Prop} {H : Hp} {x : V} {d z : PyData} {Q : VK}, Ex G H → Dq K G F H x d → f d = some z →
  (∀ v H' G', Gr G H G' H' → Dp K G' v z → Q v H') → r x H Q
def DN (K : PySem.W.Frag) (r : List V → Hp → VK → Prop) (f : List PyData → Option PyData) : Prop := ∀ {G : Hp} {F : Addr → Prop} {H : Hp} {xs : List V} {ds : List PyData} {z : PyData} {Q : VK}, Ex G H → DqAll K G F H xs ds → f ds = some z →
  (∀ v H' G', Gr G H G' H' → Dp K G' v z → Q v H') → r xs H Q
def DNo (K : PySem.W.Frag) (r : List V → Hp → VK → Prop) (f : List PyData → Option (List PyData)) : Prop := ∀ {G : Hp} {F : Addr → Prop} {H : Hp} {xs : List V} {ds z : List PyData} {Q : VK}, Ex G H → DqAll K G F H xs ds → f ds = some z →
  (∀ p vs, H p = none → DpAll K G vs z → Q (.ref p) (upd H p (.lst vs))) → r xs H Q
theorem rel_new {σ : L2.St} {G H : Hp} {F : Addr → Prop} {env : En} {s : S} (R : Rel c σ H G F env s) {p : Addr} {o : HO} (hp : H p = none) : Rel c σ (upd H p o) G F env s ∧ Mv G F H G F (upd H p o) ∧ G p = none ∧ ¬ F p :=
  ⟨R.gr (Gr.hidden R.ex hp), Mv.of_gr (Gr.hidden R.ex hp), R.ex.none hp, fun z => by
    obtain ⟨o, e⟩ := R.rg.inn p z
    rw [hp] at e
    cases e⟩
/-- two operands, one after the other -/
theorem two_run {σ : L2.St} {H : Hp} {Q : VK} {r : R2} {f : PyData → PyData → Option PyData} {ma mb : M S PyData} (hd : D2 K r f) (h : tE c (e2 f ma mb) σ H Q) : tOp r (tB c ma) (tB c mb) σ H Q := by
  obtain ⟨G, F, env, s, z, s', R, hm, k⟩ := h
  obtain ⟨⟨x, s1⟩, h1, hm⟩ := some_bind hm
  obtain ⟨⟨y, s2⟩, h2, hm⟩ := some_bind hm
  obtain ⟨z', hz, e⟩ := some_map hm
  injection e with e1 e2
  subst e1 e2
  refine ⟨G, F, env, s, x, s1, R, h1, fun v H1 G1 F1 R1 M1 D1 => ⟨G1, F1, env, s1, y, s2, R1, h2, fun u H2 G2 F2 R2 M2 D2 => ?_⟩⟩
  exact hd R2.ex (D1.mv M2) D2 hz fun w H3 G3 g D3 => k w H3 G3 F2 (R2.gr g) ((M1.trans M2).trans (Mv.of_gr g)) D3
theorem two_runo {σ : L2.St} {H : Hp} {Q : VK} {r : R2} {f : PyData → PyData → Option (List PyData)} {ma mb : M S PyData} (hd : D2o K r f) (h : tO c (o2 f ma mb) σ H Q) : tOp r (tB c ma) (tB c mb) σ H Q := by
  obtain ⟨G, F, env, s, z, s', R, hm, k⟩ := h
  obtain ⟨⟨x, s1⟩, h1, hm⟩ := some_bind hm
  obtain ⟨⟨y, s2⟩, h2, hm⟩ := some_bind hm
  obtain ⟨z', hz, e⟩ := some_map hm
  injection e with e1 e2
  subst e1 e2
  refine ⟨G, F, env, s, x, s1, R, h1, fun v H1 G1 F1 R1 M1 D1 => ⟨G1, F1, env, s1, y, s2, R1, h2, fun u H2 G2 F2 R2 M2 D2 => ?_⟩⟩
  refine hd R2.ex (D1.mv M2) D2 hz fun p vs hp D3 => ?_
  obtain ⟨R3, M3, g3, f3⟩ := rel_new R2 (o := .lst vs) hp
  have hn : H p = none := none_back (M1.trans M2).there hp
  exact k p vs _ _ _ R3 ((M1.trans M2).trans M3) upd_same D3 g3 f3 hn
variable {ma mb mc : M S PyData}
theorem x_op {op : Operator} {r : R2} {f : PyData → PyData → Option PyData} (ho : OpR X (binaryOp op) r) (hd : D2 K r f) (ha : PE X a (tB c ma)) (hb : PE X b (tB c mb)) : PE X (.BinOp a op b pos) (tE c (e2 f ma mb)) := (pe_op ho ha hb).imp fun _ _ _ h => two_run hd h
theorem x_opo {op : Operator} {r : R2} {f : PyData → PyData → Option (List PyData)} (ho : OpR X (binaryOp op) r) (hd : D2o K r f) (ha : PE X a (tB c ma)) (hb : PE X b (tB c mb)) : PE X (.BinOp a op b pos) (tO c (o2 f ma mb)) := (pe_op ho ha hb).imp fun _ _ _ h => two_runo hd h
theorem x_cmp {op : CmpOp} {r : R2} {f : PyData → PyData → Option PyData} (ho : OpR X (compareOp op) r) (hd : D2 K r f) (ha : PE X a (tB c ma)) (hb : PE X b (tB c mb)) (hm : behindInMarks op b = false) : PE X (.Compare a [op] [b] pos) (tE c (e2 f ma mb)) := (pe_cmpR ho ha hb hm).imp fun _ _ _ h => two_run hd h
theorem tt_run {σ : L2.St} {H : Hp} {Q : Bool → Hp → Prop} {te : TE} {m : M S PyData} (he : ∀ Q, tE c m σ H Q → te σ H Q) (h : tT c (tV m) σ H Q) : tTest te σ H Q := by
  obtain ⟨G, F, env, s, z, s', R, hm, k⟩ := h
  obtain ⟨⟨x, s1⟩, h1, hm⟩ := some_bind hm
  cases x with
  | bool b =>
    injection hm with e
    injection e with e1 e2
    subst e1 e2
    exact he _ ⟨G, F, env, s, _, s1, R, h1, fun v H' G' F' R' M' D => ⟨_, (Dq.bool (F := F') (H := H') D.q), k H' G' F' R' M'⟩⟩
  | _ => cases hm
theorem y_cmp {op : CmpOp} {r : R2} {f : PyData → PyData → Option PyData} (ho : OpR X (compareOp op) r) (hd : D2 K r f) (ha : PE X a (tB c ma)) (hb : PE X b (tB c mb)) (hm : behindInMarks op b = false) : PT X (.Compare a [op] [b] pos) (tT c (tV (e2 f ma mb))) :=
  (pt_cmpR ho ha hb hm).imp fun _ _ _ h => tt_run (fun _ h => two_run hd h) h
theorem chain_run {σ : L2.St} {H : Hp} {Q : VK} {r r' : R2} {f g : PyData → PyData → Option PyData} (hd : D2 K r f) (hd' : D2 K r' g) (h : tE c (eChain f g ma mb mc) σ H Q) : tChain r r' (tB c ma) (tB c mb) (tB c mc) σ H Q := by
  obtain ⟨G, F, env, s, z, s', R, hm, k⟩ := h
  obtain ⟨⟨x, s1⟩, h1, hm⟩ := some_bind hm
  obtain ⟨⟨y, s2⟩, h2, hm⟩ := some_bind hm
  obtain ⟨w, hw, hm⟩ := some_bind hm
  refine ⟨G, F, env, s, x, s1, R, h1, fun v H1 G1 F1 R1 M1 D1 => ⟨G1, F1, env, s1, y, s2, R1, h2, fun u H2 G2 F2 R2 M2 D2 => ?_⟩⟩
  refine hd R2.ex (D1.mv M2) D2 hw fun w' H3 G3 g3 D3 => ?_
  have R3 := R2.gr g3
  have M3 : Mv G2 F2 H2 G3 F2 H3 := Mv.of_gr g3
  cases w with
  | bool b =>
    cases b with
    | true =>
      obtain ⟨⟨z1, s3⟩, h3, hm⟩ := some_bind hm
      obtain ⟨z2, hz, e⟩ := some_map hm
      injection e with e1 e2
      subst e1 e2
      refine ⟨true, (Dq.bool (F := F2) (H := H3) D3.q), ?_⟩
      show tB c mc σ H3 _
      refine ⟨G3, F2, env, s2, z1, s3, R3, h3, fun u3 H4 G4 F4 R4 M4 D4 => ?_⟩
      exact hd' R4.ex ((D2.mv M3).mv M4) D4 hz fun w5 H5 G5 g5 D5 => k w5 H5 G5 F4 (R4.gr g5) ((((M1.trans M2).trans M3).trans M4).trans (Mv.of_gr g5)) D5
    | false =>
      injection hm with e
      injection e with e1 e2
      subst e1 e2
      refine ⟨false, (Dq.bool (F := F2) (H := H3) D3.q), ?_⟩
      exact k (.bl false) H3 G3 F2 R3 ((M1.trans M2).trans M3) (.bl false)
  | _ => cases hm
theorem x_chain {b2 : Expr} {op op' : CmpOp} {r r' : R2} {f g : PyData → PyData → Option PyData} (ho : OpR X (compareOp op) r) (ho' : OpR X (compareOp op') r') (hd : D2 K r f) (hd' : D2 K r' g) (ha : PE X a (tB c ma)) (hb : PE X b (tB c mb)) (hc : PE X b2 (tB c mc))
    (h : PE X (.Compare a [op, op'] [b, b2] pos) (tChain r r' (tB c ma) (tB c mb) (tB c mc))) : PE X (.Compare a [op, op'] [b, b2] pos) (tE c (eChain f g ma mb mc)) := h.imp fun _ _ _ h => chain_run hd hd' h
end
end Dv

namespace Dv
open PySem PySem.Spec PyProof.Rows L2

/-! ### several in a row -/
def aAll {S : Type} : List (M S PyData) → M S (List PyData)
  | [] => fun s _ => some ([], s)
  | m :: ms => fun s env => (m s env).bind fun p => (aAll ms p.2 env).bind fun q => some (p.1 :: q.1, q.2)
theorem aAll_len {S : Type} : ∀ {ms : List (M S PyData)} {s s' : S} {env : En} {r : List PyData}, aAll ms s env = some (r, s') → r.length = ms.length
  | [], _, _, _, _, h => by
    injection h with h
    injection h with h1 _
    rw [← h1]
    rfl
  | m :: ms, _, _, _, _, h => by
    obtain ⟨p, _, h⟩ := some_bind h
    obtain ⟨q, h2, h⟩ := some_bind h
    injection h with h
    injection h with h1 _
    rw [← h1]
    exact congrArg (· + 1) (aAll_len (ms := ms) (r := q.1) (s' := q.2) h2)
section
variable {K : PySem.W.Frag} {S : Type} {X : Cx} {c : Ctx K S} {e a b : Expr} {es : List Expr} {pos p : Pos} {m ma mb : M S PyData} {ms : List (M S PyData)} {x : Str}
theorem cons_run {σ : L2.St} {H : Hp} {Q : List V → Hp → Prop} (h : tA c (aAll (m :: ms)) σ H Q) : tCons (tB c m) (tA c (aAll ms)) σ H Q := by
  obtain ⟨G, F, env, s, z, s', R, hm, k⟩ := h
  obtain ⟨⟨x, s1⟩, h1, hm⟩ := some_bind hm
  obtain ⟨⟨y, s2⟩, h2, hm⟩ := some_bind hm
  injection hm with e
  injection e with e1 e2
  subst e1 e2
  refine ⟨G, F, env, s, x, s1, R, h1, fun v H1 G1 F1 R1 M1 D1 => ⟨G1, F1, env, s1, y, s2, R1, h2, fun u H2 G2 F2 R2 M2 D2 => ?_⟩⟩
  exact k (v :: u) H2 G2 F2 R2 (M1.trans M2) (.cons (D1.mv M2) D2)
theorem consE_run {σ : L2.St} {H : Hp} {Q : List V → Hp → Prop} (h : tAE c (aAll (m :: ms)) σ H Q) : tCons (tE c m) (tAE c (aAll ms)) σ H Q := by
  obtain ⟨G, F, env, s, z, s', R, hm, k⟩ := h
  obtain ⟨⟨x, s1⟩, h1, hm⟩ := some_bind hm
  obtain ⟨⟨y, s2⟩, h2, hm⟩ := some_bind hm
  injection hm with e
  injection e with e1 e2
  subst e1 e2
  refine ⟨G, F, env, s, x, s1, R, h1, fun v H1 G1 F1 R1 M1 D1 => ⟨G1, F1, env, s1, y, s2, R1, h2, fun u H2 G2 F2 R2 M2 D2 => ?_⟩⟩
  exact k (v :: u) H2 G2 F2 R2 (M1.trans M2) (.cons (D1.ex M2.g) D2)
theorem a_nil : PA X [] (tA c (aAll [])) := pa_nil.imp fun σ H Q ⟨G, F, env, s, r, s', R, hm, k⟩ => by
  cases hm
  exact k [] H G F R (Mv.refl _ _ _) .nil
theorem a_cons (ha : PE X e (tB c m)) (hr : PA X es (tA c (aAll ms))) (hs : starEach (e :: es) X.env = (false, eval e X.env) :: starEach es X.env := by rfl) : PA X (e :: es) (tA c (aAll (m :: ms))) := (pa_cons ha hr hs).imp fun _ _ _ h => cons_run h
theorem f_nil : PA X [] (tAE c (aAll [])) := pa_nil.imp fun σ H Q ⟨G, F, env, s, r, s', R, hm, k⟩ => by
  cases hm
  exact k [] H G F R (Mv.refl _ _ _) .nil
theorem f_cons (ha : PE X e (tE c m)) (hr : PA X es (tAE c (aAll ms))) (hs : starEach (e :: es) X.env = (false, eval e X.env) :: starEach es X.env := by rfl) : PA X (e :: es) (tAE c (aAll (m :: ms))) := (pa_cons ha hr hs).imp fun _ _ _ h => consE_run h
theorem kw_nil : PK X [] (tAE c (aAll [])) := pk_nil.imp fun σ H Q ⟨G, F, env, s, r, s', R, hm, k⟩ => by
  cases hm
  exact k [] H G F R (Mv.refl _ _ _) .nil
theorem kw_cons {kws : List Keyword} {nm : Option Str} {kpos : Pos} (ha : PE X e (tE c m)) (hr : PK X kws (tAE c (aAll ms))) : PK X (⟨nm, e, kpos⟩ :: kws) (tAE c (aAll (m :: ms))) := (pk_cons ha hr).imp fun _ _ _ h => consE_run h

/-! ### displays -/
theorem x_tup {x1} (h : PA X es (tAE c (aAll ms))) (hl : ms.length ≤ 1000 := by decide) : PE X (.Tuple es x1 pos) (tE c (eTup (aAll ms))) := (pe_tup h).imp fun σ H Q ⟨G, F, env, s, r, s', R, hm, k⟩ => by
  obtain ⟨⟨r0, s0⟩, h0, e0⟩ := some_map hm
  injection e0 with e1 e2
  subst e1 e2
  refine ⟨G, F, env, s, r0, s0, R, h0, fun vs H' G' F' R' M' D => ⟨?_, fun q hq => ?_⟩⟩
  · rw [D.length, aAll_len h0]
    exact Nat.le_of_lt (small1000 hl)
  · have g := Gr.laid R'.ex hq (o := .tup vs)
    exact k (.ref q) _ _ F' (R'.gr g) (M'.trans (Mv.of_gr g)) (.tup (.inl (.inl upd_same)) (D.ex g.g))
theorem x_lst (h : PA X es (tAE c (aAll ms))) (hl : ms.length ≤ 1000 := by decide) : PE X (.List es pos) (tO c (aAll ms)) := (pe_lst h).imp fun σ H Q ⟨G, F, env, s, r, s', R, hm, k⟩ => by
  refine ⟨G, F, env, s, r, s', R, hm, fun vs H' G' F' R' M' D => ⟨?_, fun q hq => ?_⟩⟩
  · rw [D.length, aAll_len hm]
    exact Nat.le_of_lt (small1000 hl)
  · obtain ⟨R3, M3, g3, f3⟩ := rel_new R' (o := .lst vs) hq
    exact k q vs _ _ _ R3 (M'.trans M3) upd_same D g3 f3 (none_back M'.there hq)

/-! ### built-ins by name, methods -/
theorem n_run {σ : L2.St} {H : Hp} {Q : VK} {r : List V → Hp → VK → Prop} {f : List PyData → Option PyData} (hd : DN K r f) (h : tE c (eN f (aAll ms)) σ H Q) : tCB r (tA c (aAll ms)) σ H Q := by
  obtain ⟨G, F, env, s, z, s', R, hm, k⟩ := h
  obtain ⟨⟨x, s1⟩, h1, hm⟩ := some_bind hm
  obtain ⟨z', hz, e⟩ := some_map hm
  injection e with e1 e2
  subst e1 e2
  exact ⟨G, F, env, s, x, s1, R, h1, fun vs H1 G1 F1 R1 M1 D1 => hd R1.ex D1 hz fun w H3 G3 g D3 => k w H3 G3 F1 (R1.gr g) (M1.trans (Mv.of_gr g)) D3⟩
theorem n_runo {σ : L2.St} {H : Hp} {Q : VK} {r : List V → Hp → VK → Prop} {f : List PyData → Option (List PyData)} (hd : DNo K r f) (h : tO c (oN f (aAll ms)) σ H Q) : tCB r (tA c (aAll ms)) σ H Q := by
  obtain ⟨G, F, env, s, z, s', R, hm, k⟩ := h
  obtain ⟨⟨x, s1⟩, h1, hm⟩ := some_bind hm
  obtain ⟨z', hz, e⟩ := some_map hm
  injection e with e1 e2
  subst e1 e2
  refine ⟨G, F, env, s, x, s1, R, h1, fun vs H1 G1 F1 R1 M1 D1 => hd R1.ex D1 hz fun q us hq D3 => ?_⟩
  obtain ⟨R3, M3, g3, f3⟩ := rel_new R1 (o := .lst us) hq
  exact k q us _ _ _ R3 (M1.trans M3) upd_same D3 g3 f3 (none_back M1.there hq)
theorem x_callB {id : String} {r : List V → Hp → VK → Prop} {f : List PyData → Option PyData} (hc : CallR X (.builtin id) r) (hd : DN K r f) (hg : Gl X x) (hm : X.mg x = none) (hv : bootBuiltins x = some (.builtin id)) (ha : PA X (e :: es) (tA c (aAll ms)))
    (h : ∀ t, PA X (e :: es) t → PE X (.Call (.Name x p) (e :: es) [] pos) (tCB r t)) : PE X (.Call (.Name x p) (e :: es) [] pos) (tE c (eN f (aAll ms))) := (h _ ha).imp fun _ _ _ h => n_run hd h
theorem x_callTo {r : List V → Hp → VK → Prop} {f : List PyData → Option (List PyData)} (hd : DNo K r f) (ha : PA X (e :: es) (tA c (aAll ms)))
    (h : ∀ t, PA X (e :: es) t → PE X (.Call (.Name x p) (e :: es) [] pos) (tCB r t)) : PE X (.Call (.Name x p) (e :: es) [] pos) (tO c (oN f (aAll ms))) := (h _ ha).imp fun _ _ _ h => n_runo hd h
theorem x_callT {r : List V → Hp → VK → Prop} {f : List PyData → Option PyData} (hd : DN K r f) (ha : PA X (e :: es) (tA c (aAll ms)))
    (h : ∀ t, PA X (e :: es) t → PE X (.Call (.Name x p) (e :: es) [] pos) (tCB r t)) : PE X (.Call (.Name x p) (e :: es) [] pos) (tE c (eN f (aAll ms))) := (h _ ha).imp fun _ _ _ h => n_run hd h

/-! ### subscripts -/
theorem atI_dp {G : Hp} {vs : List V} {ds : List PyData} {i : Int} {d : PyData} (h : DpAll K G vs ds) (e : atI ds i = some d) : ∃ v, atI vs i = some v ∧ Dp K G v d := by
  unfold atI at e ⊢
  rw [h.length]
  cases q : ixN ds.length i with
  | none =>
    rw [q] at e
    cases e
  | some j =>
    rw [q] at e
    exact h.get e
def dIx : PyData → PyData → Option PyData
  | .list ds, .int i => atI ds i
  | .tuple ds, .int i => atI ds i
  | .str z, .int i => if z.length ≤ 16777216 then (atI z.cps.toList i).map fun k => .str ⟨#[k]⟩ else none
  | .dict [(.none, .list ds)], .int i => atI ds i
  | _, _ => none
theorem ints_dp {G : Hp} : ∀ ns : List Int, DpAll K G (ns.map V.int) (ns.map PyData.int)
  | [] => .nil
  | n :: ns => .cons (.int n) (ints_dp ns)
theorem d2_ix : D2 K (rIx K) dIx := by
  intro G F H x y d e z Q ex hx hy hf k
  cases e with
  | int i =>
    have hy := hy.int
    subst hy
    cases d with
    | list ds =>
      obtain ⟨a, vs, rfl, hs, ha⟩ := hx.list ex
      obtain ⟨v, e1, e2⟩ := atI_dp ha hf
      exact .inl ⟨a, vs, i, v, rfl, rfl, .inl hs, e1, k v H G (Gr.refl ex) e2⟩
    | tuple ds =>
      obtain ⟨a, vs, rfl, hs, ha⟩ := hx.tuple ex
      obtain ⟨v, e1, e2⟩ := atI_dp ha hf
      exact .inr (.inl ⟨a, vs, i, v, rfl, rfl, hs, e1, k v H G (Gr.refl ex) e2⟩)
    | str w =>
      have hx := hx.str
      subst hx
      simp only [dIx] at hf
      split at hf
      · rename_i hl
        obtain ⟨n, e1, e2⟩ := some_map hf
        subst e2
        exact .inr (.inr ⟨w, i, n, rfl, rfl, by rw [sizeLine_eq]; exact hl, e1, k _ H G (Gr.refl ex) (.str _)⟩)
      · cases hf
    | dict kvs =>
      have hx := hx.whole ex
      cases hx with
      | emp _ => cases hf
      | fn x => cases hf
      | scr hs =>
        obtain ⟨v, e1, e2⟩ := atI_dp (K := K) (G := G) (ints_dp _) hf
        exact .inl ⟨_, _, i, v, rfl, rfl, hs, e1, k v H G (Gr.refl ex) e2⟩
    | _ => cases hf
  | _ => cases d <;> first | cases hf | (simp [dIx] at hf)
theorem x_ix (hr : IxR X (rIx K)) (ha : PE X a (tB c ma)) (hb : PE X b (tB c mb)) (hs : PlainIx b) : PE X (.Subscript a b pos) (tE c (e2 dIx ma mb)) := (pe_ix hr ha hb hs).imp fun _ _ _ h => two_run d2_ix h

/-! ### slices -/
def tP (c : Ctx K S) (m : M S (Option Int)) : TO := fun σ H Q => ∃ G F env s r s', Rel c σ H G F env s ∧ m s env = some (r, s') ∧ ∀ H' G' F', Rel c σ H' G' F' env s' → Mv G F H G' F' H' → Q r H'
def pN {S : Type} : M S (Option Int) := fun s _ => some (none, s)
def pS {S : Type} (m : M S PyData) : M S (Option Int) := fun s env => (m s env).bind fun p => match p.1 with
  | .int i => some (some i, p.2)
  | _ => none
theorem p_none : PO X none (tP c pN) := po_none.imp fun σ H Q ⟨G, F, env, s, r, s', R, hm, k⟩ => by
  cases hm
  exact k H G F R (Mv.refl _ _ _)
theorem p_some (h : PE X e (tB c m)) : PO X (some e) (tP c (pS m)) := (po_some h).imp fun σ H Q ⟨G, F, env, s, r, s', R, hm, k⟩ => by
  obtain ⟨⟨y, s1⟩, h1, hm⟩ := some_bind hm
  cases y with
  | int i =>
    injection hm with e
    injection e with e1 e2
    subst e1 e2
    exact ⟨G, F, env, s, _, s1, R, h1, fun v H' G' F' R' M' D => ⟨i, D.int, k H' G' F' R' M'⟩⟩
  | _ => cases hm
def cutD {α : Type} (xs : List α) (lo hi : Option Int) : List α := (xs.drop (HT.sIx xs.length 0 lo)).take (HT.sIx xs.length xs.length hi - HT.sIx xs.length 0 lo)
theorem cut_dp {G : Hp} {vs : List V} {ds : List PyData} (h : DpAll K G vs ds) (lo hi : Option Int) : DpAll K G (cutV vs lo hi) (cutD ds lo hi) := by
  unfold cutV cutD
  rw [h.length]
  exact (h.drop _).take _
def eSl {S : Type} (m : M S PyData) (l h : M S (Option Int)) : M S PyData := fun s env => (m s env).bind fun p => (l p.2 env).bind fun q => (h q.2 env).bind fun r => match p.1 with
  | .list ds => some (.list (cutD ds q.1 r.1), r.2)
  | .tuple ds => some (.tuple (cutD ds q.1 r.1), r.2)
  | _ => none
def oSl {S : Type} (m : M S PyData) (l h : M S (Option Int)) : M S (List PyData) := fun s env => (m s env).bind fun p => (l p.2 env).bind fun q => (h q.2 env).bind fun r => match p.1 with
  | .list ds => some (cutD ds q.1 r.1, r.2)
  | _ => none
def rSl (K : PySem.W.Frag) : V → Option Int → Option Int → Hp → VK → Prop := fun x lo hi H Q => rSlL K x lo hi H Q ∨ rSlA K x lo hi H Q
theorem sl_seq : SlR X (rSl X.K) := sl_list.or sl_tupA
theorem cutV_whole {α : Type} {xs : List α} {lo hi : Option Int} (h : HT.sIx xs.length 0 lo = 0 ∧ HT.sIx xs.length xs.length hi = xs.length) : cutD xs lo hi = xs := by
  unfold cutD
  rw [h.1, h.2]
  simp
theorem x_sl {lo hi : Option Expr} {p2 : Pos} {ml mh : M S (Option Int)} (hr : SlR X (rSl K)) (he : PE X e (tB c m)) (hl : PO X lo (tP c ml)) (hh : PO X hi (tP c mh)) : PE X (.Subscript e (.Slice lo hi none p2) pos) (tE c (eSl m ml mh)) :=
  (pe_slice hr he hl hh).imp fun σ H Q ⟨G, F, env, s, r, s', R, hm, k⟩ => by
    obtain ⟨⟨y, s1⟩, h1, hm⟩ := some_bind hm
    obtain ⟨⟨u, s2⟩, h2, hm⟩ := some_bind hm
    obtain ⟨⟨w, s3⟩, h3, hm⟩ := some_bind hm
    refine ⟨G, F, env, s, y, s1, R, h1, fun v H1 G1 F1 R1 M1 D1 => ⟨G1, F1, env, s1, u, s2, R1, h2, fun H2 G2 F2 R2 M2 => ⟨G2, F2, env, s2, w, s3, R2, h3, fun H3 G3 F3 R3 M3 => ?_⟩⟩⟩
    have D3 := (D1.mv M2).mv M3
    have M13 := (M1.trans M2).trans M3
    cases y with
    | list ds =>
      injection hm with e
      injection e with e1 e2
      subst e1 e2
      obtain ⟨a, vs, rfl, hs, ha⟩ := D3.list R3.ex
      refine .inl ⟨a, vs, rfl, .inl hs, fun q hq => ?_⟩
      have g := Gr.laid R3.ex hq (o := .lst (cutV vs u w))
      exact k (.ref q) _ _ F3 (R3.gr g) (M13.trans (Mv.of_gr g)) (.lst (.inl upd_same) ((cut_dp ha u w).ex g.g))
    | tuple ds =>
      injection hm with e
      injection e with e1 e2
      subst e1 e2
      have D4 : Dp K G3 v (.tuple ds) := by
        rcases D3 with z | ⟨_, _, _, _, z, _⟩
        · exact z
        · cases z
      obtain ⟨a, vs, rfl, hs, ha⟩ := D3.tuple R3.ex
      refine .inr ⟨a, vs, rfl, hs, fun hw => ?_, fun _ q hq => ?_⟩
      · have ew : cutD ds u w = ds := cutV_whole (by rw [← ha.length]; exact hw)
        rw [show cutD ds (u, s2).1 (w, s3).1 = ds from ew] at k
        exact k (.ref a) _ _ F3 R3 M13 D4
      · have g := Gr.laid R3.ex hq (o := .tup (cutV vs u w))
        exact k (.ref q) _ _ F3 (R3.gr g) (M13.trans (Mv.of_gr g)) (.tup (.inl (.inl upd_same)) ((cut_dp ha u w).ex g.g))
    | _ => cases hm
theorem x_slo {lo hi : Option Expr} {p2 : Pos} {ml mh : M S (Option Int)} (hr : SlR X (rSl K)) (he : PE X e (tB c m)) (hl : PO X lo (tP c ml)) (hh : PO X hi (tP c mh)) : PE X (.Subscript e (.Slice lo hi none p2) pos) (tO c (oSl m ml mh)) :=
  (pe_slice hr he hl hh).imp fun σ H Q ⟨G, F, env, s, r, s', R, hm, k⟩ => by
    obtain ⟨⟨y, s1⟩, h1, hm⟩ := some_bind hm
    obtain ⟨⟨u, s2⟩, h2, hm⟩ := some_bind hm
    obtain ⟨⟨w, s3⟩, h3, hm⟩ := some_bind hm
    refine ⟨G, F, env, s, y, s1, R, h1, fun v H1 G1 F1 R1 M1 D1 => ⟨G1, F1, env, s1, u, s2, R1, h2, fun H2 G2 F2 R2 M2 => ⟨G2, F2, env, s2, w, s3, R2, h3, fun H3 G3 F3 R3 M3 => ?_⟩⟩⟩
    have D3 := (D1.mv M2).mv M3
    have M13 := (M1.trans M2).trans M3
    cases y with
    | list ds =>
      injection hm with e
      injection e with e1 e2
      subst e1 e2
      obtain ⟨a, vs, rfl, hs, ha⟩ := D3.list R3.ex
      refine .inl ⟨a, vs, rfl, .inl hs, fun q hq => ?_⟩
      obtain ⟨R4, M4, g4, f4⟩ := rel_new R3 (o := .lst (cutV vs u w)) hq
      exact k q _ _ _ _ R4 (M13.trans M4) upd_same (cut_dp ha u w) g4 f4 (none_back M13.there hq)
    | _ => cases hm

/-! ### and, or, not, if -/
def eAnd {S : Type} (a b : M S PyData) : M S PyData := fun s env => (a s env).bind fun p => match p.1 with
  | .bool true => b p.2 env
  | .bool false => some (.bool false, p.2)
  | _ => none
def eOr {S : Type} (a b : M S PyData) : M S PyData := fun s env => (a s env).bind fun p => match p.1 with
  | .bool true => some (.bool true, p.2)
  | .bool false => b p.2 env
  | _ => none
def eNot {S : Type} (a : M S PyData) : M S PyData := fun s env => (a s env).bind fun p => match p.1 with
  | .bool b => some (.bool !b, p.2)
  | _ => none
theorem x_one {op} (h : PE X a (tE c m)) : PE X (.BoolOp op [a] pos) (tE c m) := pe_one h
theorem x_and {rest : List Expr} (ha : PE X a (tB c ma)) (hb : PE X (.BoolOp .And (b :: rest) pos) (tE c mb)) : PE X (.BoolOp .And (a :: b :: rest) pos) (tE c (eAnd ma mb)) := (pe_and ha hb).imp fun σ H Q ⟨G, F, env, s, r, s', R, hm, k⟩ => by
  obtain ⟨⟨y, s1⟩, h1, hm⟩ := some_bind hm
  refine ⟨G, F, env, s, y, s1, R, h1, fun v H1 G1 F1 R1 M1 D1 => ?_⟩
  cases y with
  | bool t =>
    refine ⟨t, D1.bool, ?_⟩
    cases t with
    | true =>
      show tE c mb σ H1 Q
      exact ⟨G1, F1, env, s1, r, s', R1, hm, fun v H' G' F' R' M' D => k v H' G' F' R' (M1.trans M') D⟩
    | false =>
      injection hm with e
      injection e with e1 e2
      subst e1 e2
      exact k _ H1 G1 F1 R1 M1 (.bl false)
  | _ => cases hm
theorem x_or {rest : List Expr} (ha : PE X a (tB c ma)) (hb : PE X (.BoolOp .Or (b :: rest) pos) (tE c mb)) : PE X (.BoolOp .Or (a :: b :: rest) pos) (tE c (eOr ma mb)) := (pe_or ha hb).imp fun σ H Q ⟨G, F, env, s, r, s', R, hm, k⟩ => by
  obtain ⟨⟨y, s1⟩, h1, hm⟩ := some_bind hm
  refine ⟨G, F, env, s, y, s1, R, h1, fun v H1 G1 F1 R1 M1 D1 => ?_⟩
  cases y with
  | bool t =>
    refine ⟨t, D1.bool, ?_⟩
    cases t with
    | false =>
      show tE c mb σ H1 Q
      exact ⟨G1, F1, env, s1, r, s', R1, hm, fun v H' G' F' R' M' D => k v H' G' F' R' (M1.trans M') D⟩
    | true =>
      injection hm with e
      injection e with e1 e2
      subst e1 e2
      exact k _ H1 G1 F1 R1 M1 (.bl true)
  | _ => cases hm
theorem x_not (ha : PE X a (tB c ma)) : PE X (.UnaryOp .Not a pos) (tE c (eNot ma)) := (pe_not ha).imp fun σ H Q ⟨G, F, env, s, r, s', R, hm, k⟩ => by
  obtain ⟨⟨y, s1⟩, h1, hm⟩ := some_bind hm
  refine ⟨G, F, env, s, y, s1, R, h1, fun v H1 G1 F1 R1 M1 D1 => ?_⟩
  cases y with
  | bool t =>
    injection hm with e
    injection e with e1 e2
    subst e1 e2
    exact ⟨t, D1.bool, k _ H1 G1 F1 R1 M1 (.bl _)⟩
  | _ => cases hm
variable {ta tb : M S Bool}
theorem and_run {σ : L2.St} {H : Hp} {Q : Bool → Hp → Prop} (h : tT c (tAnd ta tb) σ H Q) : L2.tAnd (tT c ta) (tT c tb) σ H Q := by
  obtain ⟨G, F, env, s, r, s', R, hm, k⟩ := h
  obtain ⟨⟨y, s1⟩, h1, hm⟩ := some_bind hm
  refine ⟨G, F, env, s, y, s1, R, h1, fun H1 G1 F1 R1 M1 => ?_⟩
  cases y with
  | true => exact ⟨G1, F1, env, s1, r, s', R1, hm, fun H' G' F' R' M' => k H' G' F' R' (M1.trans M')⟩
  | false =>
    injection hm with e
    injection e with e1 e2
    subst e1 e2
    exact k H1 G1 F1 R1 M1
theorem or_run {σ : L2.St} {H : Hp} {Q : Bool → Hp → Prop} (h : tT c (tOr ta tb) σ H Q) : L2.tOr (tT c ta) (tT c tb) σ H Q := by
  obtain ⟨G, F, env, s, r, s', R, hm, k⟩ := h
  obtain ⟨⟨y, s1⟩, h1, hm⟩ := some_bind hm
  refine ⟨G, F, env, s, y, s1, R, h1, fun H1 G1 F1 R1 M1 => ?_⟩
  cases y with
  | false => exact ⟨G1, F1, env, s1, r, s', R1, hm, fun H' G' F' R' M' => k H' G' F' R' (M1.trans M')⟩
  | true =>
    injection hm with e
    injection e with e1 e2
    subst e1 e2
    exact k H1 G1 F1 R1 M1
theorem y_and1 (h : PT X a (tT c ta)) : PW X (.BoolOp .And [a] pos) (tT c ta) := pw_and1 h
theorem y_or1 (h : PT X a (tT c ta)) : PW X (.BoolOp .Or [a] pos) (tT c ta) := pw_or1 h
theorem y_and {rest : List Expr} (ha : PT X a (tT c ta)) (hb : PW X (.BoolOp .And (b :: rest) pos) (tT c tb)) : PW X (.BoolOp .And (a :: b :: rest) pos) (tT c (tAnd ta tb)) := (pw_and ha hb).imp fun _ _ _ h => and_run h
theorem y_or {rest : List Expr} (ha : PT X a (tT c ta)) (hb : PW X (.BoolOp .Or (b :: rest) pos) (tT c tb)) : PW X (.BoolOp .Or (a :: b :: rest) pos) (tT c (tOr ta tb)) := (pw_or ha hb).imp fun _ _ _ h => or_run h
theorem y_not (ha : PT X a (tT c ta)) : PT X (.UnaryOp .Not a pos) (tT c (tNot ta)) := (pt_not ha).imp fun σ H Q ⟨G, F, env, s, r, s', R, hm, k⟩ => by
  obtain ⟨⟨y, s1⟩, h1, e0⟩ := some_map hm
  injection e0 with e1 e2
  subst e1 e2
  exact ⟨G, F, env, s, y, s1, R, h1, fun H1 G1 F1 R1 M1 => k H1 G1 F1 R1 M1⟩
theorem if_pre {α : Type} {t : M S Bool} {x y : M S α} {s s' : S} {env : En} {r : α} (h : eIf t x y s env = some (r, s')) : ∃ b s1, t s env = some (b, s1) ∧ (if b = true then x s1 env else y s1 env) = some (r, s') := by
  obtain ⟨⟨b, s1⟩, h1, h2⟩ := some_bind h
  exact ⟨b, s1, h1, h2⟩
theorem x_if {t : Expr} (ht : PT X t (tT c ta)) (ha : PE X a (tE c ma)) (hb : PE X b (tE c mb)) : PE X (.IfExp t a b pos) (tE c (eIf ta ma mb)) := (pe_ifExp ht ha hb).imp fun σ H Q ⟨G, F, env, s, r, s', R, hm, k⟩ => by
  obtain ⟨y, s1, h1, hm⟩ := if_pre hm
  refine ⟨G, F, env, s, y, s1, R, h1, fun H1 G1 F1 R1 M1 => ?_⟩
  cases y with
  | true =>
    show tE c ma σ H1 Q
    exact ⟨G1, F1, env, s1, r, s', R1, hm, fun v H' G' F' R' M' D => k v H' G' F' R' (M1.trans M') D⟩
  | false =>
    show tE c mb σ H1 Q
    exact ⟨G1, F1, env, s1, r, s', R1, hm, fun v H' G' F' R' M' D => k v H' G' F' R' (M1.trans M') D⟩
end
end Dv

namespace Dv
open PySem PySem.Spec PyProof.Rows L2

/-! ### room, with the guards known; a def's promise that nothing is raised -/
structure RoomG (k : Nat) (A : Around) : Prop where
  rm : Room k A
  gd : A.guards = some []
theorem RoomG.mono {j k : Nat} {A : Around} (r : RoomG k A) (h : j ≤ k) : RoomG j A := ⟨r.rm.mono h, r.gd⟩
theorem RoomG.deeper {k : Nat} {A : Around} (r : RoomG (k + 1) A) (env : Env) : RoomG k (A.deeper env) := ⟨r.rm.deeper env, r.gd⟩
structure FnG (P : Program) (w : World) (K : PySem.W.Frag) (mg : Str → Option Value) (base : Heap) (k : Nat) (f : Addr) (fd : FuncData) (ps : List Str) (sp : Sp) : Prop where
  len : ∀ vs H Q E, sp vs H Q E → vs.length = ps.length
  run : ∀ (A : Around) (outer : List Env) (s : Shared) (H : Hp) (args : Args) (us : List Value) (vs : List V) (Q : VK) (E : XK), RoomG k A → Env0 P w K mg base A outer s H → BindsTo s fd args (ps.zip us) → Vals vs us → sp vs H Q E →
    codeAny (model P w) A (.call (.ref f) args) (CR CX0 outer P w H s Q E) s
section
variable {X : Cx} {k n : Nat} {f : Addr} {fd : FuncData} {ps ks : List Str} {sp : Sp} {x : Str} {p pos q : Pos} {e : Expr} {es : List Expr} {kws : List Keyword} {t tk : TA} {E : XK} {g : List Value → List Value → List Value} {gV : List V → List V → List V}
theorem FnG.mono {P : Program} {w : World} {K : PySem.W.Frag} {mg : Str → Option Value} {base : Heap} {j : Nat} (F : FnG P w K mg base j f fd ps sp) (h : j ≤ k) : FnG P w K mg base k f fd ps sp := ⟨F.len, fun A outer s H args us vs Q E hr => F.run A outer s H args us vs Q E (hr.mono h)⟩
theorem FnG.imp {P : Program} {w : World} {K : PySem.W.Frag} {mg : Str → Option Value} {base : Heap} {sp' : Sp} (F : FnG P w K mg base k f fd ps sp) (h : ∀ vs H Q E, sp' vs H Q E → sp vs H Q E) : FnG P w K mg base k f fd ps sp' :=
  ⟨fun vs H Q E q => F.len vs H Q E (h _ _ _ _ q), fun A outer s H args us vs Q E hr he hb hv hs => F.run A outer s H args us vs Q E hr he hb hv (h _ _ _ _ hs)⟩
theorem run_G {pins : List (Addr × Obj)} {σ : L2.St} {H : Hp} {s : Shared} {Q : VK} {us : List Value} {vs : List V} {args : Args} (F : FnG X.prog X.w X.K X.mg X.base k f fd ps sp) (hr : RoomG k X.A) (I : Inv X pins σ H s) (hb : BindsTo s fd args (ps.zip us)) (r : Vals vs us) (h : sp vs H Q E) :
    codeAny (model X.prog X.w) X.A (.call (.ref f) args) (fun r s' => match r with | .ok (.ret u) => EP X pins σ Q u s' | .ok _ => False | .error e => X.xe e s') s :=
  codeAny_mono (F.run X.A X.stack s H args us vs Q E hr I.env0 hb r h) fun r s' hq => by
    cases r with
    | error e => exact False.elim hq
    | ok fl =>
      cases fl with
      | ret u => exact I.after hq
      | next => exact False.elim hq
      | brk => exact False.elim hq
      | cont => exact False.elim hq
theorem pe_callG (F : FnG X.prog X.w X.K X.mg X.base k f fd ps sp) (hr : RoomG k X.A) (hg : Gl X x) (hm : X.mg x = some (.ref f)) (hk : PySem.W.keepIn X.K (.ref f) = true) (hb : Binds X.K fd ps [])
    (ha : PA X (e :: es) t) (hdb : (x == ("__debug__" : Str)) = false := by decide) (he : starEach (e :: es) X.env = (false, eval e X.env) :: starEach es X.env := by rfl) (hpl : (backTo pos (starEach es X.env)).any (·.1) = false := by rfl) :
    PE X (.Call (.Name x p) (e :: es) [] pos) (tCall sp [] E t) := by
  refine ⟨fun pins s σ H Q I h => ?_⟩
  refine wpAny_Call_Name_kw (ld_glob I hg hm ?_ hdb)
  refine PySem.W.callWith_K (h₀ := X.base) I.ok.mod.kin hk (thn (ha.run pos pins s σ H _ I h) fun us s1 ⟨vs, H1, I1, r, q⟩ => ⟨I1.kIn, ?_⟩) he hpl
  have r2 : Vals vs us := r
  have q2 : sp vs H1 Q E := by simpa using q
  have hl : us.length = ps.length := by rw [← r2.length]; exact F.len _ _ _ _ q2
  have b := hb s1 us I1.kIn (by simpa using hl)
  rw [List.append_nil] at b
  exact wpAny_call (codeAny_mono (run_G F hr I1 b r2 q2) fun r s' hq => by
    cases r with
    | error e => exact hq
    | ok fl => cases fl <;> exact hq)
/-- f(k = v, ..): no positional value -/
theorem pe_callN0 (F : FnG X.prog X.w X.K X.mg X.base k f fd ps sp) (hr : RoomG k X.A) (hg : Gl X x) (hm : X.mg x = some (.ref f)) (hk : PySem.W.keepIn X.K (.ref f) = true) (hb : KBn X.K fd ps 0 ks g gV)
    (hkw : PK X kws tk) (hall : (backToKw q (keywordEach kws X.env)).all (·.1.isSome) = true := by rfl) (hks : (backToKw q (keywordEach kws X.env)).filterMap (·.1) = ks := by rfl)
    (hdb : (x == ("__debug__" : Str)) = false := by decide) (hpl : ((backTo q (starEach [] X.env)).any (·.1) || (backToKw q (keywordEach kws X.env)).any (·.1.isNone)) = false := by rfl) :
    PE X (.Call (.Name x p) [] kws q) (fun σ H Q => tk σ H fun zs H2 => zs.length = ks.length ∧ sp (gV [] zs) H2 Q E) := by
  refine ⟨fun pins s σ H Q I h => ?_⟩
  refine wpAny_Call_Name_kw (ld_glob I hg hm ?_ hdb)
  refine PySem.W.callWith_KW0 (h₀ := X.base) I.ok.mod.kin hk hall (thn (hkw.run q pins s σ H _ I h) fun ws s2 ⟨zs, H2, I2, rz, l2, q2⟩ => ⟨I2.kIn, ?_⟩) hpl
  rw [hks]
  have r2 := hb.rel .nil rz
  have b := hb.to s2 [] ws I2.kIn rfl (by rw [← rz.length]; exact l2)
  exact wpAny_call (codeAny_mono (run_G F hr I2 b r2 q2) fun r s' hq => by
    cases r with
    | error e => exact hq
    | ok fl => cases fl <;> exact hq)
/-- a def keeps its promise: by its body -/
theorem fn_G {P : Program} {w : World} {K : PySem.W.Frag} {mg : Str → Option Value} {base : Heap} {qual : Str} {params : Arguments} {body : List Stmt} {scope : Scope} {dvs : List V} {kwd : List (Str × V)} {N : List Str} (F : FunD K x qual params body scope dvs kwd f fd) (S : FnScope N ps scope)
    (len : ∀ vs H Q E, sp vs H Q E → vs.length = ps.length)
    (hbody : ∀ (cdv : Value) (A : Around) (outer : List Env) (s : Shared) (H : Hp) (vs : List V) (Q : VK) (E : XK), RoomG k (A.deeper (envOfC qual scope s.heap.objs.size f cdv)) → sp vs H Q E →
      ∃ t, PSs (cxOf CX0 P w K mg base N qual scope f cdv A outer s H E) body t ∧ t { nx := fun _ H' => Q .non H', rt := Q } (L2.start N vs) H) : FnG P w K mg base (k + 1) f fd ps sp := by
  obtain ⟨oc, od, dV, kV, doc, pm, an, cdv, ct, osl, rfl, lk, hcd, _, _⟩ := F.ex
  refine ⟨len, fun A outer s H args us vs Q E hr e0 hb r hsp => ?_⟩
  have hl := len _ _ _ _ hsp
  have KX : K.In s.heap := e0.mod.kin.keeps fun b o e => (e0.bs b o e).1
  have lim : s.heap.NoLimit := e0.mod.nolimit.keeps fun b o e => (e0.bs b o e).1
  have hkind : ∀ y ∈ ps.zip us, scope.names.lookup y.1 = some .local ∨ (scope.names.lookup y.1 = some .cell ∧ ((cellsFrom (s.heap.objs.size + 1) scope.names []).lookup y.1).isSome = true) := fun ⟨n, v⟩ hy => by
    rcases S.par n (List.of_mem_zip hy).1 with q | q
    · exact .inl q
    · exact .inr ⟨q, PySem.W.cellsFrom_some _ _ _ (.inl q)⟩
  refine codeAny_call_function hr.rm.depth (KX _ _ lk) rfl S.co S.gen rfl (PySem.W.codeRec_of KX hcd) (hb _ _ _ _ ?_)
  refine wpAny_newFunctionEnv_cells S.kind hkind fun env he s1 z => ?_
  subst he
  refine ⟨lim.keeps z.toInCall.keep, codeAny_func ?_⟩
  obtain ⟨t, ht, hq⟩ := hbody cdv A outer s H vs Q E (hr.deeper _) hsp
  have I : Inv (cxOf CX0 P w K mg base N qual scope f cdv A outer s H E) [] (L2.start N vs) H s1 := inv_start S hr.rm.hd e0 hl r z
  refine wpAny_mono (ht.run [] s1 (L2.start N vs) H _ I hq) (fun fl s' hs => ?_) fun e s' hs => hs
  have fin : ∀ {σ' : L2.St} {H' : Hp} {v : V} {u : Value}, Inv (cxOf CX0 P w K mg base N qual scope f cdv A outer s H E) [] σ' H' s' → RelV v u → Q v H' → CE outer P w H s Q u s' :=
    fun {σ' H' v u} J rv q => ⟨v, H', J.os, J.bare, J.base, J.hok, rv, q⟩
  cases fl with
  | ret u =>
    obtain ⟨v, σ', H', J, rv, q⟩ := hs
    exact fin J rv q
  | next =>
    obtain ⟨σ', H', J, q⟩ := hs
    exact fin (v := V.non) (u := Value.none) J rfl q
  | brk =>
    obtain ⟨_, _, _, q⟩ := hs
    exact False.elim q
  | cont =>
    obtain ⟨_, _, _, q⟩ := hs
    exact False.elim q
end

/-! ### what a def promises: it is the function F of its arguments' data -/
def spP (K : PySem.W.Frag) (n : Nat) (F : List PyData → Option PyData) : Sp := fun vs H Q _ => ∃ G ds r, Ex G H ∧ DpAll K G vs ds ∧ vs.length = n ∧ F ds = some r ∧ ∀ v H' G', Gr G H G' H' → Dp K G' v r → Q v H'
/-- .. it changes the one thing that it is handed first -/
def spR {S : Type} (K : PySem.W.Frag) (rr : Rgn K S → Prop) (n : Nat) (F : S → List PyData → Option (PyData × S)) : Sp := fun vs H Q _ => ∃ (R : Rgn K S) (G : Hp) (Fp : Addr → Prop) (s : S) (us : List V) (ds : List PyData) (r : PyData) (s' : S),
  rr R ∧ RgOk R G Fp H s ∧ vs = V.ref R.P :: us ∧ us.length = n ∧ DpAll K G us ds ∧ F s ds = some (r, s') ∧ ∀ v H' G' F', RgOk R G' F' H' s' → Mv G Fp H G' F' H' → Dp K G' v r → Q v H'
/-- its slots at the start -/
def env0 (n : Nat) (ds : List PyData) : En := ds.map SV.val ++ List.replicate (n - ds.length) SV.no
def envR (n : Nat) (ds : List PyData) : En := SV.reg :: (ds.map SV.val ++ List.replicate (n - ds.length) SV.no)

/-! ### statements -/
inductive Fl where
  | nx | rt (d : PyData) | bk | ct
abbrev SM (S : Type) := S → En → Option (Fl × S × En)
/-- what is wanted behind a statement, from a frozen heap on -/
def Post {K : PySem.W.Frag} {S : Type} (c : Ctx K S) (D : Ends) (G : Hp) (fl : Fl) (s' : S) (env' : En) : Prop := match fl with
  | .nx => ∀ σ' H' G' F', Rel c σ' H' G' F' env' s' → Ex G G' → D.nx σ' H'
  | .rt d => ∀ v H' G' F', RgOk c.R G' F' H' s' → Mv c.G0 c.F0 c.H0 G' F' H' → Dp K G' v d → D.rt v H'
  | .bk => ∀ σ' H' G' F', Rel c σ' H' G' F' env' s' → Ex G G' → D.bk σ' H'
  | .ct => ∀ σ' H' G' F', Rel c σ' H' G' F' env' s' → Ex G G' → D.ct σ' H'
theorem Post.mono {K : PySem.W.Frag} {S : Type} {c : Ctx K S} {D : Ends} {G G1 : Hp} {fl : Fl} {s' : S} {env' : En} (k : Post c D G fl s' env') (e : Ex G G1) : Post c D G1 fl s' env' := by
  cases fl with
  | nx => exact fun σ2 H2 G2 F2 R2 e2 => k σ2 H2 G2 F2 R2 (e.trans e2)
  | rt d => exact k
  | bk => exact fun σ2 H2 G2 F2 R2 e2 => k σ2 H2 G2 F2 R2 (e.trans e2)
  | ct => exact fun σ2 H2 G2 F2 R2 e2 => k σ2 H2 G2 F2 R2 (e.trans e2)
def tS {K : PySem.W.Frag} {S : Type} (c : Ctx K S) (m : SM S) : TS := fun D σ H => ∃ G F env s fl s' env', Rel c σ H G F env s ∧ m s env = some (fl, s', env') ∧ Post c D G fl s' env'
def sNx {S : Type} : SM S := fun s env => some (.nx, s, env)
def sSeq {S : Type} (a b : SM S) : SM S := fun s env => (a s env).bind fun p => match p.1 with
  | .nx => b p.2.1 p.2.2
  | f => some (f, p.2.1, p.2.2)
def sIf {S : Type} (t : M S Bool) (a b : SM S) : SM S := fun s env => (t s env).bind fun p => if p.1 = true then a p.2 env else b p.2 env
def sSet {S : Type} (i : Nat) (m : M S PyData) : SM S := fun s env => (m s env).map fun p => (.nx, p.2, env.set i (.val p.1))
def sOwn {S : Type} (i : Nat) (m : M S (List PyData)) : SM S := fun s env => (m s env).map fun p => (.nx, p.2, env.set i (.own p.1))
def sDrop {S : Type} (m : M S PyData) : SM S := fun s env => (m s env).map fun p => (.nx, p.2, env)
def sRet {S : Type} (m : M S PyData) : SM S := fun s env => (m s env).map fun p => (.rt p.1, p.2, env)
def sNo {S : Type} : SM S := fun _ _ => none
def sBk {S : Type} : SM S := fun s env => some (.bk, s, env)
def sCt {S : Type} : SM S := fun s env => some (.ct, s, env)
/-- all lists of one's own are frozen from here on -/
def frz1 : SV → SV
  | .own ds => .val (.list ds)
  | x => x
def sFrz {S : Type} (a : SM S) : SM S := fun s env => a s (env.map frz1)
/-- the result of a body -/
def outP (r : Option (Fl × Unit × En)) : Option PyData := match r with
  | some (.rt d, _, _) => some d
  | some (.nx, _, _) => some .none
  | _ => none
def outR {S : Type} (r : Option (Fl × S × En)) : Option (PyData × S) := match r with
  | some (.rt d, s, _) => some (d, s)
  | some (.nx, s, _) => some (.none, s)
  | _ => none
def fnP (n : Nat) (m : SM Unit) : List PyData → Option PyData := fun ds => outP (m () (env0 n ds))
def fnR {S : Type} (n : Nat) (m : SM S) : S → List PyData → Option (PyData × S) := fun s ds => outR (m s (envR n ds))

section
variable {K : PySem.W.Frag} {S : Type} {X : Cx} {c : Ctx K S} {e a b : Expr} {es : List Expr} {pos p : Pos} {m ma mb : M S PyData} {ms : List (M S PyData)} {x : Str} {st : Stmt} {rest : List Stmt} {u w : SM S}
/-! ### calls of the program's own defs -/
theorem callP_run {σ : L2.St} {H : Hp} {Q : VK} {n : Nat} {F : List PyData → Option PyData} (hn : ms.length = n) (h : tE c (eN F (aAll ms)) σ H Q) : tCall (spP K n F) [] E0 (tAE c (aAll ms)) σ H Q := by
  obtain ⟨G, Fp, env, s, z, s', R, hm, k⟩ := h
  obtain ⟨⟨x, s1⟩, h1, hm⟩ := some_bind hm
  obtain ⟨z', hz, e⟩ := some_map hm
  injection e with e1 e2
  subst e1 e2
  refine ⟨G, Fp, env, s, x, s1, R, h1, fun vs H1 G1 F1 R1 M1 D1 => ⟨G1, x, z', R1.ex, ?_, ?_, hz, fun w H3 G3 g D3 => k w H3 G3 F1 (R1.gr g) (M1.trans (Mv.of_gr g)) D3⟩⟩
  · rw [List.append_nil]
    exact D1
  · rw [List.append_nil, D1.length, aAll_len h1]
    exact hn
theorem x_callP {n : Nat} {F : List PyData → Option PyData} (ha : PA X (e :: es) (tAE c (aAll ms))) (h : ∀ {t : TA}, PA X (e :: es) t → PE X (.Call (.Name x p) (e :: es) [] pos) (tCall (spP K n F) [] E0 t)) (hn : ms.length = n := by rfl) :
    PE X (.Call (.Name x p) (e :: es) [] pos) (tE c (eN F (aAll ms))) := (h ha).imp fun _ _ _ h => callP_run hn h
/-- the state-changing ones: the first argument is the one mutable thing, in slot i -/
def eR {S : Type} (F : S → List PyData → Option (PyData × S)) (i : Nat) (a : M S (List PyData)) : M S PyData := fun s env => match env[i]? with
  | some SV.reg => (a s env).bind fun p => F p.2 p.1
  | _ => none
theorem callR_run {σ : L2.St} {H : Hp} {Q : VK} {n i : Nat} {rr : Rgn K S → Prop} {F : S → List PyData → Option (PyData × S)} (hrr : rr c.R) (hn : ms.length = n) (h : tE c (eR F i (aAll ms)) σ H Q) : tCall (spR K rr n F) [] E0 (tCons (tVar i) (tAE c (aAll ms))) σ H Q := by
  obtain ⟨G, Fp, env, s, z, s', R, hm, k⟩ := h
  unfold eR at hm
  split at hm
  · rename_i hi
    obtain ⟨⟨x, s1⟩, h1, hm⟩ := some_bind hm
    refine ⟨_, R.slot i _ hi, G, Fp, env, s, x, s1, R, h1, fun vs H1 G1 F1 R1 M1 D1 => ⟨c.R, G1, F1, s1, vs, x, z, s', hrr, R1.rg, ?_, ?_, D1, hm, fun w H3 G3 F3 r3 m3 D3 => k w H3 G3 F3 (R1.to m3 r3) (M1.trans m3) D3⟩⟩
    · rw [List.append_nil]
    · rw [D1.length, aAll_len h1]
      exact hn
  · cases hm
theorem x_callR {n i : Nat} {rr : Rgn K S → Prop} {F : S → List PyData → Option (PyData × S)} (hrr : rr c.R) (hv : PE X e (tVar i)) (ha : PA X es (tAE c (aAll ms))) (h : ∀ {t : TA}, PA X (e :: es) t → PE X (.Call (.Name x p) (e :: es) [] pos) (tCall (spR K rr n F) [] E0 t))
    (hs : starEach (e :: es) X.env = (false, eval e X.env) :: starEach es X.env := by rfl) (hn : ms.length = n := by rfl) : PE X (.Call (.Name x p) (e :: es) [] pos) (tE c (eR F i (aAll ms))) :=
  (h (pa_cons hv ha hs)).imp fun _ _ _ h => callR_run hrr hn h
def reorder {α : Type} (ix : List Nat) (l : List α) : List α := ix.filterMap fun i => l[i]?
theorem reorder_vals {vs : List V} {us : List Value} (r : Vals vs us) : ∀ ix : List Nat, Vals (reorder ix vs) (reorder ix us)
  | [] => .nil
  | i :: ix => by
    have ih := reorder_vals r ix
    unfold reorder at ih ⊢
    rw [List.filterMap_cons, List.filterMap_cons]
    cases e : vs[i]? with
    | none =>
      rw [r.none_of e]
      exact ih
    | some v =>
      obtain ⟨u, e2, q⟩ := r.get e
      rw [e2]
      exact .cons q ih
theorem reorder_dp {G : Hp} {vs : List V} {ds : List PyData} (r : DpAll K G vs ds) : ∀ ix : List Nat, DpAll K G (reorder ix vs) (reorder ix ds)
  | [] => .nil
  | i :: ix => by
    have ih := reorder_dp r ix
    unfold reorder at ih ⊢
    rw [List.filterMap_cons, List.filterMap_cons]
    cases e : ds[i]? with
    | none =>
      have e2 : vs[i]? = none := by
        have l := r.length
        exact List.getElem?_eq_none_iff.mpr (by have := List.getElem?_eq_none_iff.mp e; omega)
      rw [e2]
      exact ih
    | some v =>
      obtain ⟨u, e2, q⟩ := r.get e
      rw [e2]
      exact .cons q ih
theorem x_callK {n : Nat} {F : List PyData → Option PyData} {ks : List Str} {kws : List Keyword} {ix : List Nat} {q : Pos} (hkw : PK X kws (tAE c (aAll ms)))
    (h : ∀ {tk : TA}, PK X kws tk → PE X (.Call (.Name x p) [] kws q) (fun σ H Q => tk σ H fun zs H2 => zs.length = ks.length ∧ spP K n F (reorder ix zs) H2 Q E0)) (hn : ∀ l : List PyData, l.length = ms.length → (reorder ix l).length = n) (hl : ms.length = ks.length := by rfl) :
    PE X (.Call (.Name x p) [] kws q) (tE c (eN (fun ds => F (reorder ix ds)) (aAll ms))) := (h hkw).imp fun σ H Q ⟨G, Fp, env, s, z, s', R, hm, k⟩ => by
  obtain ⟨⟨x, s1⟩, h1, hm⟩ := some_bind hm
  obtain ⟨z', hz, e⟩ := some_map hm
  injection e with e1 e2
  subst e1 e2
  refine ⟨G, Fp, env, s, x, s1, R, h1, fun vs H1 G1 F1 R1 M1 D1 => ⟨?_, G1, reorder ix x, z', R1.ex, reorder_dp D1 ix, ?_, hz, fun w H3 G3 g D3 => k w H3 G3 F1 (R1.gr g) (M1.trans (Mv.of_gr g)) D3⟩⟩
  · rw [D1.length, aAll_len h1]
    exact hl
  · rw [(reorder_dp D1 ix).length]
    exact hn x (aAll_len h1)

/-! ### blocks -/
theorem b_nil : PSs X [] (tS c sNx) := pss_nil.imp fun D σ H ⟨G, F, env, s, fl, s', env', R, hm, k⟩ => by
  injection hm with e
  injection e with e1 e
  injection e with e2 e3
  subst e1 e2 e3
  exact k σ H G F R (Ex.refl _)
theorem seq_run {D : Ends} {σ : L2.St} {H : Hp} (h : tS c (sSeq u w) D σ H) : tSeq (tS c u) (tS c w) D σ H := by
  obtain ⟨G, F, env, s, fl, s', env', R, hm, k⟩ := h
  obtain ⟨⟨f1, s1, env1⟩, h1, hm⟩ := some_bind hm
  refine ⟨G, F, env, s, f1, s1, env1, R, h1, ?_⟩
  cases f1 with
  | nx =>
    exact fun σ' H' G' F' R' e' => ⟨G', F', env1, s1, fl, s', env', R', hm, k.mono e'⟩
  | rt d =>
    injection hm with e
    injection e with e1 e
    injection e with e2 e3
    subst e1 e2 e3
    exact k
  | bk =>
    injection hm with e
    injection e with e1 e
    injection e with e2 e3
    subst e1 e2 e3
    exact k
  | ct =>
    injection hm with e
    injection e with e1 e
    injection e with e2 e3
    subst e1 e2 e3
    exact k
theorem b_cons (h1 : PS X st (tS c u)) (h2 : PSs X rest (tS c w)) : PSs X (st :: rest) (tS c (sSeq u w)) := (pss_cons h1 h2).imp fun _ _ _ h => seq_run h
theorem b_one (h1 : PS X st (tS c u)) : PSs X [st] (tS c u) := pss_one h1
theorem b_frz (h : PSs X rest (tS c w)) : PSs X rest (tS c (sFrz w)) := h.imp fun D σ H ⟨G, F, env, s, fl, s', env', R, hm, k⟩ => by
  -- each list of one's own gets frozen: by induction over the slots
  have key : ∀ (n : Nat) (G : Hp) (env : En), Rel c σ H G F env s → ∃ G', Rel c σ H G' F ((env.take n).map frz1 ++ env.drop n) s ∧ Ex G G' := by
    intro n
    induction n with
    | zero =>
      intro G env R
      exact ⟨G, by simpa using R, Ex.refl _⟩
    | succ n ih =>
      intro G env R
      by_cases hn : n < env.length
      · obtain ⟨G1, R1, e1⟩ := ih G env R
        have split : env.drop n = env[n] :: env.drop (n + 1) := List.drop_eq_getElem_cons hn
        have take' : env.take (n + 1) = env.take n ++ [env[n]] := by rw [List.take_add_one, List.getElem?_eq_getElem hn]; rfl
        have lt : (env.take n).length = n := by rw [List.length_take]; omega
        rw [split] at R1
        have goalE : (env.take (n + 1)).map frz1 ++ env.drop (n + 1) = (env.take n).map frz1 ++ frz1 env[n] :: env.drop (n + 1) := by
          rw [take', List.map_append, List.append_assoc]
          rfl
        rw [goalE]
        have at_ : ∀ (y : SV) (i : Nat), ((env.take n).map frz1 ++ y :: env.drop (n + 1))[i]? = if i = n then some y else ((env.take n).map frz1 ++ env[n] :: env.drop (n + 1))[i]? := by
          intro y i
          have ll : ((env.take n).map frz1).length = n := by rw [List.length_map, lt]
          by_cases z : i = n
          · subst z
            rw [if_pos rfl, List.getElem?_append_right (by omega), ll, Nat.sub_self]
            rfl
          · rw [if_neg z]
            by_cases z2 : i < n
            · rw [List.getElem?_append_left (by omega), List.getElem?_append_left (by omega)]
            · rw [List.getElem?_append_right (by omega), List.getElem?_append_right (by omega), ll]
              obtain ⟨q, hq⟩ : ∃ q, i - n = q + 1 := ⟨i - n - 1, by omega⟩
              rw [hq]
              rfl
        cases hsv : env[n] with
        | own ds =>
          rw [hsv] at R1 at_
          have hs := R1.slot n (.own ds) (by rw [at_ (.own ds) n, if_pos rfl])
          obtain ⟨a, vs, e, h1, h2, h3, h4, h5⟩ := hs
          have g1 : Ex G1 (upd G1 a (.lst vs)) := Ex.new h3
          have ex2 : Ex (upd G1 a (.lst vs)) H := fun y o q => by
            by_cases z : y = a
            · subst z
              rw [upd_same] at q
              cases q
              exact h1
            · rw [upd_ne z] at q
              exact R1.ex y o q
          refine ⟨upd G1 a (.lst vs), ⟨⟨ex2, fun y q => ?_, R1.rg.inn, c.R.mono R1.rg.rel g1 fun _ _ _ q => q⟩, ⟨R1.mv.g.trans g1, R1.mv.h, R1.mv.there, fun y o q => ?_, R1.mv.newF⟩, ?_, fun i sv q => ?_, fun i j es fs q1 q2 => ?_, fun i j es rs fs q1 q2 => ?_⟩, e1.trans g1⟩
          · rw [upd_ne (fun z => h4 (by rw [← z]; exact q))]
            exact R1.rg.sep y q
          · by_cases z : y = a
            · subst z
              exact .inr h5
            · rw [upd_ne z] at q
              exact R1.mv.new y o q
          · have l := R1.len
            simpa using l
          · rw [at_ (frz1 (.own ds)) i] at q
            by_cases z : i = n
            · rw [if_pos z] at q
              injection q with q
              subst q
              subst z
              exact ⟨.ref a, e, .lst (.inl upd_same) (h2.ex g1)⟩
            · rw [if_neg z] at q
              have w := R1.slot i sv q
              cases sv with
              | no => trivial
              | val d =>
                obtain ⟨v, e, h⟩ := w
                exact ⟨v, e, h.ex g1⟩
              | own es =>
                obtain ⟨b, us, e', k1, k2, k3, k4, k5⟩ := w
                have ne : b ≠ a := fun zz => z (R1.inj i n es ds q (by rw [at_ (.own ds) n, if_pos rfl]) (by rw [e', e, zz]))
                exact ⟨b, us, e', k1, k2.ex g1, by rw [upd_ne ne]; exact k3, k4, k5⟩
              | own1 es rs =>
                obtain ⟨t, b, us, ws, e', k1, k2, k3, k4, ⟨p1, f1, n1⟩, ⟨p2, f2, n2⟩, ne⟩ := w
                obtain ⟨d1, d2⟩ := R1.inj1 i n es rs ds q (by rw [at_ (.own ds) n, if_pos rfl]) t b ws a e' k1 e
                exact ⟨t, b, us, ws, e', k1, k2, k3.ex g1, k4.ex g1, ⟨by rw [upd_ne (Ne.symm d1)]; exact p1, f1, n1⟩, ⟨by rw [upd_ne (Ne.symm d2)]; exact p2, f2, n2⟩, ne⟩
              | reg => exact w
          · rw [at_ (frz1 (.own ds)) i] at q1
            rw [at_ (frz1 (.own ds)) j] at q2
            by_cases z : i = n
            · rw [if_pos z] at q1
              cases q1
            · by_cases z2 : j = n
              · rw [if_pos z2] at q2
                cases q2
              · rw [if_neg z] at q1
                rw [if_neg z2] at q2
                exact R1.inj i j es fs q1 q2
          · rw [at_ (frz1 (.own ds)) i] at q1
            rw [at_ (frz1 (.own ds)) j] at q2
            by_cases z : i = n
            · rw [if_pos z] at q1
              cases q1
            · by_cases z2 : j = n
              · rw [if_pos z2] at q2
                cases q2
              · rw [if_neg z] at q1
                rw [if_neg z2] at q2
                exact R1.inj1 i j es rs fs q1 q2
        | no =>
          rw [hsv] at R1
          exact ⟨G1, R1, e1⟩
        | val d =>
          rw [hsv] at R1
          exact ⟨G1, R1, e1⟩
        | own1 ds rs =>
          rw [hsv] at R1
          exact ⟨G1, R1, e1⟩
        | reg =>
          rw [hsv] at R1
          exact ⟨G1, R1, e1⟩
      · have e1 : env.take (n + 1) = env.take n := by rw [List.take_of_length_le (by omega), List.take_of_length_le (by omega)]
        have e2 : env.drop (n + 1) = env.drop n := by rw [List.drop_eq_nil_of_le (by omega), List.drop_eq_nil_of_le (by omega)]
        rw [e1, e2]
        exact ih G env R
  obtain ⟨G', R', e'⟩ := key env.length G env R
  rw [List.take_length, List.drop_length, List.append_nil] at R'
  exact ⟨G', F, env.map frz1, s, fl, s', env', R', hm, k.mono e'⟩
theorem s_pass : PS X (.Pass pos) (tS c sNx) := ps_pass.imp fun D σ H ⟨G, F, env, s, fl, s', env', R, hm, k⟩ => by
  injection hm with e
  injection e with e1 e
  injection e with e2 e3
  subst e1 e2 e3
  exact k σ H G F R (Ex.refl _)
theorem s_break : PS X (.Break pos) (tS c sBk) := ps_break.imp fun D σ H ⟨G, F, env, s, fl, s', env', R, hm, k⟩ => by
  injection hm with e
  injection e with e1 e
  injection e with e2 e3
  subst e1 e2 e3
  exact k σ H G F R (Ex.refl _)
theorem s_cont : PS X (.Continue pos) (tS c sCt) := ps_continue.imp fun D σ H ⟨G, F, env, s, fl, s', env', R, hm, k⟩ => by
  injection hm with e
  injection e with e1 e
  injection e with e2 e3
  subst e1 e2 e3
  exact k σ H G F R (Ex.refl _)
theorem s_never : PS X st (tS c sNo) := ps_never.imp fun D σ H ⟨G, F, env, s, fl, s', env', R, hm, k⟩ => by cases hm
theorem b_never : PSs X rest (tS c sNo) := pss_never.imp fun D σ H ⟨G, F, env, s, fl, s', env', R, hm, k⟩ => by cases hm
theorem s_if {t : Expr} {p q : List Stmt} {ta : M S Bool} (ht : PT X t (tT c ta)) (ha : PSs X p (tS c u)) (hb : PSs X q (tS c w)) : PS X (.If t p q pos) (tS c (sIf ta u w)) := (ps_if ht ha hb).imp fun D σ H ⟨G, F, env, s, fl, s', env', R, hm, k⟩ => by
  obtain ⟨⟨y, s1⟩, h1, hm⟩ := some_bind hm
  refine ⟨G, F, env, s, y, s1, R, h1, fun H1 G1 F1 R1 M1 => ?_⟩
  cases y with
  | true =>
    show tS c u D σ H1
    exact ⟨G1, F1, env, s1, fl, s', env', R1, hm, k.mono M1.g⟩
  | false =>
    show tS c w D σ H1
    exact ⟨G1, F1, env, s1, fl, s', env', R1, hm, k.mono M1.g⟩
theorem s_ret (he : PE X e (tE c m)) : PS X (.Return (some e) pos) (tS c (sRet m)) := (ps_ret he).imp fun D σ H ⟨G, F, env, s, fl, s', env', R, hm, k⟩ => by
  obtain ⟨⟨y, s1⟩, h1, e⟩ := some_map hm
  injection e with e1 e
  injection e with e2 e3
  subst e1 e2 e3
  exact ⟨G, F, env, s, y, s1, R, h1, fun v H1 G1 F1 R1 M1 D1 => k v H1 G1 F1 R1.rg R1.mv D1⟩
theorem s_drop (he : PE X e (tE c m)) (hs : swapsWith e none pos.line X.env = pure false := by rfl) : PS X (.Expr e pos) (tS c (sDrop m)) := (ps_expr he hs).imp fun D σ H ⟨G, F, env, s, fl, s', env', R, hm, k⟩ => by
  obtain ⟨⟨y, s1⟩, h1, e⟩ := some_map hm
  injection e with e1 e
  injection e with e2 e3
  subst e1 e2 e3
  exact ⟨G, F, env, s, y, s1, R, h1, fun v H1 G1 F1 R1 M1 D1 => k σ H1 G1 F1 R1 M1.g⟩
theorem s_doc {x : Str} {j : Nat} {pos' : Pos} : PS X (.Expr (.Constant (.str x) j pos) pos') (tS c sNx) := ps_doc.imp fun D σ H ⟨G, F, env, s, fl, s', env', R, hm, k⟩ => by
  injection hm with e
  injection e with e1 e
  injection e with e2 e3
  subst e1 e2 e3
  exact k σ H G F R (Ex.refl _)

/-! ### stores -/
theorem Rel.set {σ : L2.St} {G H : Hp} {F : Addr → Prop} {env : En} {s : S} (R : Rel c σ H G F env s) (i : Nat) {v : V} {sv : SV} (h : SlotOk c G F H sv (some (some v)))
    (hi : ∀ ds, sv = .own ds → ∀ j es, j ≠ i → env[j]? = some (SV.own es) → σ[j]? ≠ some (some v))
    (hi1 : ∀ (ds : List PyData), sv = .own ds → ∀ (j : Nat) (es rs : List PyData), j ≠ i → env[j]? = some (SV.own1 es rs) → Sep H σ[j]? (some (some v)) := by intro _ z; cases z)
    (hi2 : ∀ (ds rs : List PyData), sv = .own1 ds rs → ∀ (j : Nat) (es : List PyData), j ≠ i → env[j]? = some (SV.own es) → Sep H (some (some v)) σ[j]? := by intro _ _ z; cases z) : Rel c (σ.set i (some v)) H G F (env.set i sv) s := by
  refine ⟨R.rg, R.mv, by rw [List.length_set, List.length_set]; exact R.len, fun j sv' q => ?_, fun j l ds es q1 q2 e => ?_, fun j l ds rs es q1 q2 => ?_⟩
  · by_cases z : j = i
    · subst z
      by_cases hl : j < env.length
      · rw [List.getElem?_set_self hl] at q
        injection q with q
        subst q
        rw [List.getElem?_set_self (by rw [← R.len]; exact hl)]
        exact h
      · rw [List.getElem?_eq_none (by simpa using hl)] at q
        cases q
    · rw [List.getElem?_set_ne (Ne.symm z)] at q
      rw [List.getElem?_set_ne (Ne.symm z)]
      exact R.slot j sv' q
  · have own_at : ∀ {j : Nat} {ds : List PyData}, (env.set i sv)[j]? = some (SV.own ds) → (j = i ∧ sv = .own ds ∧ (σ.set i (some v))[j]? = some (some v)) ∨ (j ≠ i ∧ env[j]? = some (SV.own ds) ∧ (σ.set i (some v))[j]? = σ[j]?) := by
      intro j ds q
      by_cases z : j = i
      · subst z
        by_cases hl : j < env.length
        · rw [List.getElem?_set_self hl] at q
          injection q with q
          exact .inl ⟨rfl, q, List.getElem?_set_self (by rw [← R.len]; exact hl)⟩
        · rw [List.getElem?_eq_none (by simpa using hl)] at q
          cases q
      · rw [List.getElem?_set_ne (Ne.symm z)] at q
        exact .inr ⟨z, q, List.getElem?_set_ne (Ne.symm z)⟩
    rcases own_at q1 with ⟨a1, a2, a3⟩ | ⟨a1, a2, a3⟩ <;> rcases own_at q2 with ⟨b1, b2, b3⟩ | ⟨b1, b2, b3⟩
    · rw [a1, b1]
    · exact absurd (by rw [← b3, ← e, a3]) (hi ds a2 l es b1 b2)
    · exact absurd (by rw [← a3, e, b3]) (hi es b2 j ds a1 a2)
    · exact R.inj j l ds es a2 b2 (by rw [← a3, ← b3]; exact e)
  · have sv_at : ∀ {j : Nat} {sw : SV}, (env.set i sv)[j]? = some sw → (j = i ∧ sv = sw ∧ (σ.set i (some v))[j]? = some (some v)) ∨ (j ≠ i ∧ env[j]? = some sw ∧ (σ.set i (some v))[j]? = σ[j]?) := by
      intro j sw q
      by_cases z : j = i
      · subst z
        by_cases hl : j < env.length
        · rw [List.getElem?_set_self hl] at q
          injection q with q
          exact .inl ⟨rfl, q, List.getElem?_set_self (by rw [← R.len]; exact hl)⟩
        · rw [List.getElem?_eq_none (by simpa using hl)] at q
          cases q
      · rw [List.getElem?_set_ne (Ne.symm z)] at q
        exact .inr ⟨z, q, List.getElem?_set_ne (Ne.symm z)⟩
    rcases sv_at q1 with ⟨a1, a2, a3⟩ | ⟨a1, a2, a3⟩ <;> rcases sv_at q2 with ⟨b1, b2, b3⟩ | ⟨b1, b2, b3⟩
    · rw [a2] at b2
      cases b2
    · rw [a3, b3]
      exact hi2 ds rs a2 l es b1 b2
    · rw [a3, b3]
      exact hi1 es b2 j ds rs a1 a2
    · rw [a3, b3]
      exact R.inj1 j l ds rs es a2 b2
theorem Rel.setV {σ : L2.St} {G H : Hp} {F : Addr → Prop} {env : En} {s : S} (R : Rel c σ H G F env s) (i : Nat) {v : V} {d : PyData} (h : Dp K G v d) : Rel c (σ.set i (some v)) H G F (env.set i (.val d)) s :=
  R.set i ⟨v, rfl, h⟩ fun _ z => nomatch z
theorem s_set {i : Nat} {pos' : Pos} (hN : X.N.Nodup) (hi : X.N[i]? = some x) (hx : Loc X.env.scope x) (he : PE X e (tE c m)) (hs : swapsWith e (some (.Name x pos')) pos.line X.env = pure false := by rfl)
    (hf : X.fn x = true ∨ X.env.scope.names.lookup x = some .local := by first | exact .inl rfl | exact .inr rfl | assumption) : PS X (.Assign [.Name x pos'] e pos) (tS c (sSet i m)) := (ps_set hN hi hx he hs hf).imp fun D σ H ⟨G, F, env, s, fl, s', env', R, hm, k⟩ => by
  obtain ⟨⟨y, s1⟩, h1, e⟩ := some_map hm
  injection e with e1 e
  injection e with e2 e3
  subst e1 e2 e3
  exact ⟨G, F, env, s, y, s1, R, h1, fun v H1 G1 F1 R1 M1 D1 => k _ H1 G1 F1 (R1.setV i D1) M1.g⟩
theorem own_run {D : Ends} {σ : L2.St} {H : Hp} {i : Nat} {mo : M S (List PyData)} (h : tS c (sOwn i mo) D σ H) : tAsg (tO c mo) (gName i) D σ H := by
  obtain ⟨G, F, env, s, fl, s', env', R, hm, k⟩ := h
  obtain ⟨⟨y, s1⟩, h1, e⟩ := some_map hm
  injection e with e1 e
  injection e with e2 e3
  subst e1 e2 e3
  refine ⟨G, F, env, s, y, s1, R, h1, fun a vs H1 G1 F1 R1 M1 ha hd hg hf hn => k _ H1 G1 F1 (R1.set i ⟨a, vs, rfl, ha, hd, hg, hf, none_back R.mv.there hn⟩ (fun ds z j es hj q e => ?_) fun ds z j es rs hj q => sep_fresh (R.slot j _ q) M1 hn) M1.g⟩
  obtain ⟨b, us, e', k1, _⟩ := R.slot j _ q
  rw [e] at e'
  injection e' with e'
  injection e' with e'
  injection e' with e'
  subst e'
  rw [hn] at k1
  cases k1
theorem s_own {i : Nat} {pos' : Pos} {mo : M S (List PyData)} (hN : X.N.Nodup) (hi : X.N[i]? = some x) (hx : Loc X.env.scope x) (he : PE X e (tO c mo)) (hs : swapsWith e (some (.Name x pos')) pos.line X.env = pure false := by rfl)
    (hf : X.fn x = true ∨ X.env.scope.names.lookup x = some .local := by first | exact .inl rfl | exact .inr rfl | assumption) : PS X (.Assign [.Name x pos'] e pos) (tS c (sOwn i mo)) := (ps_set hN hi hx he hs hf).imp fun _ _ _ h => own_run h
end
end Dv

/-! zip of any two of lists and tuples -/
namespace Dv
open PySem PySem.Spec PyProof.Rows L2
/-- a list (k) or a tuple -/
def SqK (k : Bool) (K : PySem.W.Frag) (H : Hp) (a : Addr) (xs : List V) : Prop := match k with
  | true => SqL K H a xs
  | false => SqT K H a xs
def ItK (k : Bool) (h : Heap) (i a : Addr) (n : Nat) : Prop := match k with
  | true => h.IsListIter i a n
  | false => h.IsTupleIter i a n
def IsK (k : Bool) (h : Heap) (a : Addr) (its : Array Value) : Prop := match k with
  | true => h.IsList a its
  | false => h.IsTuple a its
theorem ItK.obj {k : Bool} {h : Heap} {i a : Addr} {n : Nat} (st : ItK k h i a n) : ∃ o, h.get? i = some o ∧ ∀ v, o.data ≠ .cell v := by
  cases k with
  | true =>
    obtain ⟨o, e, _, d⟩ := st
    exact ⟨o, e, fun v q => by rw [d] at q; cases q⟩
  | false =>
    obtain ⟨o, e, _, d⟩ := st
    exact ⟨o, e, fun v q => by rw [d] at q; cases q⟩
theorem ItK.at {k : Bool} {h h' : Heap} {i a : Addr} {n : Nat} (st : ItK k h i a n) (f : ∀ o, h.get? i = some o → h'.get? i = some o) : ItK k h' i a n := by
  cases k with
  | true => exact Heap.IsListIter.at (show h.IsListIter i a n from st) f
  | false => exact Heap.IsTupleIter.at (show h.IsTupleIter i a n from st) f
theorem sqk_inj {k : Bool} {X : Cx} {pins : List (Addr × Obj)} {σ : L2.St} {H : Hp} {s : Shared} {a : Addr} {xs ys : List V} (I : Inv X pins σ H s) (h : SqK k X.K H a xs) (h' : SqK k X.K H a ys) : xs = ys := by
  cases k with
  | true => exact I.list_inj h h'
  | false => exact I.tuple_inj h h'
theorem sqk_is {k : Bool} {X : Cx} {pins : List (Addr × Obj)} {σ : L2.St} {H : Hp} {s : Shared} {a : Addr} {xs : List V} (I : Inv X pins σ H s) (h : SqK k X.K H a xs) : ∃ its : List Value, Vals xs its ∧ IsK k s.heap a its.toArray := by
  cases k with
  | true =>
    obtain ⟨its, rv, p, _⟩ := I.list h
    exact ⟨its, rv, p.isList⟩
  | false =>
    obtain ⟨its, rv, p, _⟩ := I.tuple h
    exact ⟨its, rv, p⟩
theorem IsK.lt {k : Bool} {h : Heap} {a : Addr} {its : Array Value} (p : IsK k h a its) : a < h.objs.size := by
  cases k with
  | true =>
    obtain ⟨o, e, _⟩ := p
    exact Heap.lt_size e
  | false =>
    obtain ⟨o, e, _⟩ := p
    exact Heap.lt_size e
theorem drawsK {prog : Program} {w : World} {A : Around} (hh : A.handled = none) (k : Bool) (it a : Addr) (hne : a ≠ it) (items : Array Value) :
    Draws prog w A it [it, a] items.size (fun i v => items[i]? = some v) (fun i h => ItK k h it a i ∧ IsK k h a items) := by
  cases k with
  | true => exact Draws.list hh it a hne items
  | false => exact Draws.tuple hh it a hne items
def objK (k : Bool) (a : Addr) : Obj := match k with
  | true => { cls := .type "list_iterator", data := .fields #[.ref a, .int 0 0] }
  | false => { cls := .type "tuple_iterator", data := .fields #[.ref a, .int 0 0] }
theorem beginsK (k : Bool) (a : Addr) (items : Array Value) : Begins (.ref a) (objK k a) fun h => IsK k h a items := by
  cases k with
  | true => exact begins_list a items
  | false => exact begins_tuple a items
theorem ItK.first {k : Bool} {h : Heap} {i a : Addr} (e : h.get? i = some (objK k a)) : ItK k h i a 0 := by
  cases k with
  | true => exact ⟨_, e, rfl, rfl⟩
  | false => exact ⟨_, e, rfl, rfl⟩
def Itzg (K : PySem.W.Frag) (k l : Bool) (a b : Addr) : It :=
  ⟨fun i H => ∃ (xs ys : List V) (x y : V), SqK k K H a xs ∧ SqK l K H b ys ∧ xs[i]? = some x ∧ ys[i]? = some y,
    fun i H v H' => ∃ T x y, v = .ref T ∧ H T = none ∧ H' = upd H T (.tup [x, y]) ∧ (∀ xs, SqK k K H a xs → xs[i]? = some x) ∧ ∀ ys, SqK l K H b ys → ys[i]? = some y,
    fun i H => ∃ xs ys : List V, SqK k K H a xs ∧ SqK l K H b ys ∧ i ≤ xs.length ∧ i ≤ ys.length ∧ (xs.length = i ∨ ys.length = i)⟩
/-- the cells lie apart -/
structure ZAp (z TI TO i1 i2 a b : Addr) : Prop where
  s : ZipSep2 z TI TO i1 i2 [i1, a] [i2, b]
  a1 : a ≠ i1
  b2 : b ≠ i2
theorem zAp {n a b : Addr} (ha : a < n) (hb : b < n) : ZAp (n + 4) (n + 2) (n + 3) n (n + 1) a b :=
  ⟨zip_sep2 (fp1 := [a]) (fp2 := [b]) (fun c h => by rw [List.mem_singleton.mp h]; exact ha) (fun c h => by rw [List.mem_singleton.mp h]; exact hb), Nat.ne_of_lt ha, Nat.ne_of_lt (Nat.lt_succ_of_lt hb)⟩
theorem turn_zipG {P : Program} {w : World} {K : PySem.W.Frag} {elts : List Expr} {kk : Nat} {tpos : Pos} {a b z TI TO i1 i2 : Addr} (k l : Bool) (D : ZAp z TI TO i1 i2 a b) :
    Turn P w K (.Tuple elts kk tpos) (Itzg K k l a b) [z, TI, TO, i1, i2] z (fun i h => IsZip h z TI TO .none ∧ IsPair h TI (.ref i1) (.ref i2) ∧ (∃ x y, IsPair h TO x y) ∧ ItK k h i1 a i ∧ ItK l h i2 b i) where
  mem := by simp
  obj := fun i h st c hc => by
    obtain ⟨hz, hTI, ⟨x, y, hTO⟩, h1, h2⟩ := st
    have e' : c = z ∨ c = TI ∨ c = TO ∨ c = i1 ∨ c = i2 := by simpa using hc
    rcases e' with q | q | q | q | q
    · rw [q]; exact ⟨_, hz, fun v q => nomatch q⟩
    · rw [q]; exact ⟨_, hTI, fun v q => nomatch q⟩
    · rw [q]; exact ⟨_, hTO, fun v q => nomatch q⟩
    · rw [q]; exact h1.obj
    · rw [q]; exact h2.obj
  keep := fun i h h' st k => by
    obtain ⟨hz, hTI, ⟨x, y, hTO⟩, h1, h2⟩ := st
    exact ⟨k z (by simp) _ hz, k TI (by simp) _ hTI, ⟨x, y, k TO (by simp) _ hTO⟩, h1.at fun o q => k i1 (by simp) o q, h2.at fun o q => k i2 (by simp) o q⟩
  item := by
    intro X hP hw hK hc i pins s σ H E I hf st hg
    subst hP hw hK
    obtain ⟨hz, hTI, ⟨x0, y0, hTO⟩, h1, h2⟩ := st
    obtain ⟨xs, ys, x, y, hqx, hqy, hx, hy⟩ := hg
    obtain ⟨its, rv, p⟩ := sqk_is I hqx
    obtain ⟨its2, rv2, p2⟩ := sqk_is I hqy
    obtain ⟨u, hu, ru⟩ := rv.get hx
    obtain ⟨u2, hu2, ru2⟩ := rv2.get hy
    have hzl : z < s.heap.objs.size := Heap.lt_size hz
    have hh : X.A.in1.handled = none := I.ok.hd hc
    have l1 : i < its.toArray.size := by simpa using (List.getElem?_eq_some_iff.mp hu).1
    have l2 : i < its2.toArray.size := by simpa using (List.getElem?_eq_some_iff.mp hu2).1
    refine wpAny_pyNext_zipD2_item D.s (drawsK hh k i1 a D.a1 its.toArray) (drawsK hh l i2 b D.b2 its2.toArray) hz hTI hTO ⟨h1, p⟩ ⟨h2, p2⟩ l1 l2 fun x1 x2 h' tk e1 e2 z' TO' st1' st2' hT hsz hk => ?_
    have eu : x1 = u := by
      have e1 : its.toArray[i]? = some x1 := e1
      rw [List.getElem?_toArray, hu] at e1
      exact (Option.some.inj e1).symm
    have eu2 : x2 = u2 := by
      have e2 : its2.toArray[i]? = some x2 := e2
      rw [List.getElem?_toArray, hu2] at e2
      exact (Option.some.inj e2).symm
    subst eu eu2
    refine ⟨_, rfl, wpAny_letOwnedTupleGo_zip (s := { s with heap := h', toks := tk }) z' fun h'' z'' sb => ?_⟩
    have hT2 : h''.get? s.heap.objs.size = some { cls := .type "tuple", data := .seq #[x1, x2] } := (sb.2 _ (Nat.ne_of_gt hzl)).trans hT
    have new : ObjOk X.prog X.w (upd H s.heap.objs.size (.tup [x, y])) h'' s.heap.objs.size (.tup [x, y]) :=
      ⟨by show 2 ≤ sizeLine; decide, [x1, x2], .cons ru (.cons ru2 .nil), ⟨_, hT2, rfl, _, rfl⟩⟩
    have I1 : Inv X pins σ (upd H s.heap.objs.size (.tup [x, y])) { s with heap := h'', toks := tk } :=
      I.turnedNew (t' := tk) (ch := [z, TI, TO, i1, i2]) (fun c o hb q => (sb.2 c (fun q' => hb (by simp [q']))).trans (hk c o (fun q' => hb (by simp [q'])) (fun q' => hb (by simp [q'])) (fun q' => hb (by simp [q'])) (fun q' => hb (by simp [q'])) q)) hf (Nat.le_refl _) new
    have i1z : i1 ≠ z := Ne.symm D.s.zi1
    have i2z : i2 ≠ z := Ne.symm D.s.zi2
    refine ⟨.ref s.heap.objs.size, _, I1, rfl, ⟨_, x, y, rfl, I.hok.fresh (Nat.le_refl _), rfl, fun l hl => by rw [sqk_inj I hl hqx]; exact hx, fun l hl => by rw [sqk_inj I hl hqy]; exact hy⟩, ⟨z'', ?_, ⟨x1, x2, ?_⟩, ?_, ?_⟩, fun c hcm => ?_⟩
    · exact (sb.2 _ D.s.TIz).trans (hk _ _ D.s.TIz D.s.TITO D.s.TIi1 D.s.TIi2 hTI)
    · exact (sb.2 _ D.s.TOz).trans TO'
    · exact st1'.1.at fun o q => (sb.2 _ i1z).trans q
    · exact st2'.1.at fun o q => (sb.2 _ i2z).trans q
    · have hlt : c < s.heap.objs.size := by
        have e' : c = z ∨ c = TI ∨ c = TO ∨ c = i1 ∨ c = i2 := by simpa using hcm
        rcases e' with q | q | q | q | q
        · rw [q]; exact hzl
        · rw [q]; exact Heap.lt_size hTI
        · rw [q]; exact Heap.lt_size hTO
        · rw [q]; obtain ⟨_, e1, _⟩ := h1.obj; exact Heap.lt_size e1
        · rw [q]; obtain ⟨_, e2, _⟩ := h2.obj; exact Heap.lt_size e2
      rw [upd_ne (Nat.ne_of_lt hlt)]
      exact (hf c hcm).1
  done := by
    intro X hP hw hK hc i pins s σ H E I hf st hg
    subst hP hw hK
    obtain ⟨hz, hTI, ⟨x0, y0, hTO⟩, h1, h2⟩ := st
    obtain ⟨xs, ys, hqx, hqy, hl1, hl2, hend⟩ := hg
    obtain ⟨its, rv, p⟩ := sqk_is I hqx
    obtain ⟨its2, rv2, p2⟩ := sqk_is I hqy
    have l1 := rv.length
    have l2 := rv2.length
    have s1 : its.toArray.size = xs.length := by simp [l1]
    have s2 : its2.toArray.size = ys.length := by simp [l2]
    have hh : X.A.in1.handled = none := I.ok.hd hc
    refine wpAny_pyNext_zipD2_end D.s (drawsK hh k i1 a D.a1 its.toArray) (drawsK hh l i2 b D.b2 its2.toArray) hz hTI hTO ⟨h1, p⟩ ⟨h2, p2⟩ (by omega) (by omega) (by omega) fun h' tk hk => ⟨rfl, I.turnedL (t' := tk) (ch := [z, TI, TO, i1, i2]) (fun c o hb q =>
      hk c o (fun q' => hb (by simp [q'])) (fun q' => hb (by simp [q'])) (fun q' => hb (by simp [q'])) (fun q' => hb (by simp [q'])) q) hf⟩
  self := fun A i s Q E st h => wpAny_pyIter_zip st.1 h
def iZipG (K : PySem.W.Frag) (ta : TA) : TI := fun σ H R => ta σ H fun vs H1 => ∃ k l a b xs ys, vs = [.ref a, .ref b] ∧ SqK k K H1 a xs ∧ SqK l K H1 b ys ∧ R (Itzg K k l a b) H1
theorem pi_zipG {X : Cx} {e e2 : Expr} {ta : TA} {p pos tpos : Pos} {elts : List Expr} {kk : Nat} (hg : Gl X "zip") (hm : X.mg "zip" = none) (ha : PA X [e, e2] ta)
    (hs : starEach [e, e2] X.env = (false, eval e X.env) :: starEach [e2] X.env := by rfl) (hpl : (backTo pos (starEach [e2] X.env)).any (·.1) = false := by rfl) :
    PI X (.Tuple elts kk tpos) (.Call (.Name "zip" p) [e, e2] [] pos) (iZipG X.K ta) := by
  refine ⟨fun pins s σ H R I h => ?_⟩
  refine Call_ (ld_blt I hg hm PyProof.Rows.boot_zip (PyProof.Rows.callWith_type1 (thn (ha.run pos pins s σ H _ I h) fun us s1 ⟨vs, H1, I1, r1, q1⟩ => ?_) hs hpl))
  obtain ⟨k, l, a, b, xs, ys, ex, hqx, hqy, q⟩ := q1
  subst ex
  cases r1 with
  | cons r rr =>
    cases rr with
    | cons r' rr =>
      cases rr
      cases r
      cases r'
      obtain ⟨its, rv, p1⟩ := sqk_is I1 hqx
      obtain ⟨its2, rv2, p2⟩ := sqk_is I1 hqy
      refine zip_begins2 (beginsK k a its.toArray) (beginsK l b its2.toArray) p1 p2 fun h' hz hTI hTO h1 h2 hsz hk => wpAny_pyIter_zip hz ?_
      have I2 : Inv X pins σ H1 { s1 with heap := h' } := I1.kept (t' := s1.toks) hk
      refine ⟨s1.heap.objs.size + 4, [s1.heap.objs.size + 4, s1.heap.objs.size + 2, s1.heap.objs.size + 3, s1.heap.objs.size, s1.heap.objs.size + 1], _, _, H1, rfl, I2, turn_zipG k l (zAp p1.lt p2.lt), ⟨hz, hTI, ⟨_, _, hTO⟩, ItK.first h1, ItK.first h2⟩, fun c hcm => ?_, q⟩
      have e' : c = s1.heap.objs.size + 4 ∨ c = s1.heap.objs.size + 2 ∨ c = s1.heap.objs.size + 3 ∨ c = s1.heap.objs.size ∨ c = s1.heap.objs.size + 1 := by simpa using hcm
      have hle : s1.heap.objs.size ≤ c := by
        rcases e' with z | z | z | z | z
        · rw [z]; exact Nat.le_add_right _ _
        · rw [z]; exact Nat.le_add_right _ _
        · rw [z]; exact Nat.le_add_right _ _
        · rw [z]; exact Nat.le_refl _
        · rw [z]; exact Nat.le_add_right _ _
      exact I1.fpOk hle (I1.hok.fresh hle)
end Dv

namespace Dv
open PySem PySem.Spec PyProof.Rows L2

/-! ### what is walked -/
def iSeq (K : PySem.W.Frag) (tl : TE) : TI := fun σ H R => tl σ H fun x H1 => (∃ a, x = .ref a ∧ (∃ xs, SqL K H1 a xs) ∧ R (Itl K a) H1) ∨ (∃ a, x = .ref a ∧ (∃ xs, SqT K H1 a xs) ∧ R (Itt K a) H1)
theorem pi_seq {X : Cx} {tg l : Expr} {tl : TE} (hl : PE X l tl) : PI X tg l (iSeq X.K tl) := by
  refine ⟨fun pins s σ H R I h => ?_⟩
  refine thn (hl.run pins s σ H _ I h) fun v s1 ⟨x, H1, I1, r1, q1⟩ => ?_
  rcases q1 with ⟨a, e, ⟨xs, hq⟩, q⟩ | ⟨a, e, ⟨xs, hq⟩, q⟩
  · subst e
    cases r1
    obtain ⟨its, rv, p, hz⟩ := I1.list hq
    refine wpAny_pyIter_list p.isList ?_
    refine ⟨s1.heap.objs.size, [s1.heap.objs.size], _, _, H1, rfl, I1.kept (t' := s1.toks) fun b o e => Heap.get?_push_of_some _ e, turn_list a _, ⟨_, Heap.get?_push_size _ rfl, rfl, rfl⟩, fun b hb => ?_, q⟩
    have e : b = s1.heap.objs.size := by simpa using hb
    subst e
    exact I1.fpOk (Nat.le_refl _) (I1.hok.fresh (Nat.le_refl _))
  · subst e
    cases r1
    obtain ⟨its, rv, p, hz⟩ := I1.tuple hq
    refine wpAny_pyIter_tuple (show s1.heap.IsTuple a its.toArray from p) ?_
    refine ⟨s1.heap.objs.size, [s1.heap.objs.size], _, _, H1, rfl, I1.kept (t' := s1.toks) fun b o e => Heap.get?_push_of_some _ e, turn_tuple a _, ⟨_, Heap.get?_push_size _ rfl, rfl, rfl⟩, fun b hb => ?_, q⟩
    have e : b = s1.heap.objs.size := by simpa using hb
    subst e
    exact I1.fpOk (Nat.le_refl _) (I1.hok.fresh (Nat.le_refl _))
def items : PyData → Option (List PyData)
  | .list ds => some ds
  | .tuple ds => some ds
  | _ => none
def iS {S : Type} (m : M S PyData) : M S (List PyData) := fun s env => (m s env).bind fun p => (items p.1).map fun ds => (ds, p.2)
def rangeD (lo hi : Int) : List PyData := (List.range (hi - lo).toNat).map fun k => .int (lo + (k : Nat))
def big : Int := 1000000000000
def iR1 {S : Type} (m : M S PyData) : M S (List PyData) := fun s env => (m s env).bind fun p => match p.1 with
  | .int j => if -big ≤ j ∧ j ≤ big then some (rangeD 0 j, p.2) else none
  | _ => none
def iR2 {S : Type} (m n : M S PyData) : M S (List PyData) := fun s env => (m s env).bind fun p => (n p.2 env).bind fun q => match p.1, q.1 with
  | .int i, .int j => if -big ≤ i ∧ i ≤ big ∧ -big ≤ j ∧ j ≤ big then some (rangeD i j, q.2) else none
  | _, _ => none
def zipD (xs ys : List PyData) : List PyData := List.zipWith (fun x y => .tuple [x, y]) xs ys
def iZ {S : Type} (m n : M S PyData) : M S (List PyData) := fun s env => (m s env).bind fun p => (n p.2 env).bind fun q => (items p.1).bind fun xs => (items q.1).map fun ys => (zipD xs ys, q.2)
section
variable {K : PySem.W.Frag} {S : Type} {X : Cx} {c : Ctx K S} {e e2 tg a b : Expr} {pos p tpos : Pos} {m mn : M S PyData}
theorem wk_list {G : Hp} {a : Addr} {vs : List V} {ds : List PyData} (hs : SqL K G a vs) (ha : DpAll K G vs ds) : Wk K (Itl K a) ds G := fun G1 H1 e ex => ⟨fun i d hd => by
  obtain ⟨v, hv, D⟩ := ha.get hd
  refine ⟨⟨vs, v, ex_l (e.trans ex) hs, hv⟩, fun x H' ⟨h1, h2⟩ => ?_⟩
  subst h1
  have hx := h2 vs (ex_l (e.trans ex) hs)
  rw [hv] at hx
  cases hx
  exact ⟨G1, Gr.refl ex, D.ex e⟩, ⟨vs, ex_l (e.trans ex) hs, Nat.le_of_eq ha.length⟩⟩
theorem wk_tup {G : Hp} {a : Addr} {vs : List V} {ds : List PyData} (hs : SqT K G a vs) (ha : DpAll K G vs ds) : Wk K (Itt K a) ds G := fun G1 H1 e ex => ⟨fun i d hd => by
  obtain ⟨v, hv, D⟩ := ha.get hd
  refine ⟨⟨vs, v, ex_t (e.trans ex) hs, hv⟩, fun x H' ⟨h1, h2⟩ => ?_⟩
  subst h1
  have hx := h2 vs (ex_t (e.trans ex) hs)
  rw [hv] at hx
  cases hx
  exact ⟨G1, Gr.refl ex, D.ex e⟩, ⟨vs, ex_t (e.trans ex) hs, Nat.le_of_eq ha.length⟩⟩
theorem wk_rng (G : Hp) (lo : Int) (n : Nat) : Wk K (Itr lo n) ((List.range n).map fun k => .int (lo + (k : Nat))) G := fun G1 H1 e ex => ⟨fun i d hd => by
  rw [List.getElem?_map] at hd
  obtain ⟨k, hk, e2⟩ := some_map hd
  obtain ⟨h1, h2⟩ := List.getElem?_eq_some_iff.mp hk
  rw [List.getElem_range] at h2
  subst h2
  rw [List.length_range] at h1
  refine ⟨h1, fun x H' ⟨h3, h4⟩ => ?_⟩
  subst h3 h4 e2
  exact ⟨G1, Gr.refl ex, .int _⟩, by
    show n ≤ _
    rw [List.length_map, List.length_range]
    exact Nat.le_refl _⟩
theorem sqk_ex {k : Bool} {H H' : Hp} {a : Addr} {xs : List V} (e : Ex H H') (h : SqK k K H a xs) : SqK k K H' a xs := by
  cases k with
  | true => exact ex_l e h
  | false => exact ex_t e h
theorem wk_zip {G : Hp} {k l : Bool} {a b : Addr} {vs us : List V} {ds es : List PyData} (hs : SqK k K G a vs) (ht : SqK l K G b us) (ha : DpAll K G vs ds) (hb : DpAll K G us es) : Wk K (Itzg K k l a b) (zipD ds es) G := fun G1 H1 e ex => ⟨fun i d hd => by
  unfold zipD at hd
  rw [List.getElem?_zipWith] at hd
  cases q1 : ds[i]? with
  | none => rw [q1] at hd; cases hd
  | some d1 =>
    cases q2 : es[i]? with
    | none => rw [q1, q2] at hd; cases hd
    | some d2 =>
      rw [q1, q2] at hd
      cases hd
      obtain ⟨v, hv, D1⟩ := ha.get q1
      obtain ⟨u, hu, D2⟩ := hb.get q2
      have s1 := sqk_ex (e.trans ex) hs
      have s2 := sqk_ex (e.trans ex) ht
      refine ⟨⟨vs, us, v, u, s1, s2, hv, hu⟩, fun x H' ⟨T, y, z, e1, hT, e2, f1, f2⟩ => ?_⟩
      subst e1 e2
      have g1 := f1 vs s1
      have g2 := f2 us s2
      rw [hv] at g1
      rw [hu] at g2
      cases g1
      cases g2
      have g := Gr.laid ex hT (o := .tup [v, u])
      exact ⟨_, g, .tup (.inl (.inl upd_same)) (.cons ((D1.ex e).ex g.g) (.cons ((D2.ex e).ex g.g) .nil))⟩, by
  have l1 := ha.length
  have l2 := hb.length
  have l3 : (zipD ds es).length = min ds.length es.length := List.length_zipWith
  exact ⟨vs, us, sqk_ex (e.trans ex) hs, sqk_ex (e.trans ex) ht, by omega, by omega, by omega⟩⟩
theorem i_seq (h : PE X e (tE c m)) (hp : PI X tg e (iSeq K (tE c m))) : PI X tg e (tI c (iS m)) := hp.imp fun σ H R ⟨G, F, env, s, r, s', Rl, hm, k⟩ => by
  obtain ⟨⟨y, s1⟩, h1, hm⟩ := some_bind hm
  obtain ⟨ds, h2, e0⟩ := some_map hm
  injection e0 with e1 e2
  subst e1 e2
  refine ⟨G, F, env, s, y, s1, Rl, h1, fun v H1 G1 F1 R1 M1 D1 => ?_⟩
  cases y with
  | list es =>
    cases h2
    cases D1 with
    | lst hs ha => exact .inl ⟨_, rfl, ⟨_, .inl (ex_rd R1.ex hs)⟩, k _ H1 G1 F1 R1 M1 (wk_list (.inl hs) ha)⟩
  | tuple es =>
    cases h2
    cases D1 with
    | tup hs ha => exact .inr ⟨_, rfl, ⟨_, ex_t R1.ex hs⟩, k _ H1 G1 F1 R1 M1 (wk_tup hs ha)⟩
  | _ => cases h2
theorem i_rng1 (ha : PE X a (tB c m)) (hp : ∀ ta, PA X [a] ta → PI X tg (.Call (.Name "range" p) [a] [] pos) (iRng1 ta)) (hs : starEach (a :: []) X.env = (false, eval a X.env) :: starEach [] X.env := by rfl) : PI X tg (.Call (.Name "range" p) [a] [] pos) (tI c (iR1 m)) :=
  (hp _ (a_cons ha a_nil hs)).imp fun σ H R ⟨G, F, env, s, r, s', Rl, hm, k⟩ => by
    obtain ⟨⟨y, s1⟩, h1, hm⟩ := some_bind hm
    cases y with
    | int j =>
      simp only at hm
      split at hm
      · rename_i hb
        injection hm with e0
        injection e0 with e1 e2
        subst e1 e2
        refine ⟨G, F, env, s, [.int j], s1, Rl, ?_, fun vs H1 G1 F1 R1 M1 D1 => ?_⟩
        · show (m s env).bind _ = _
          rw [h1]
          rfl
        · cases D1 with
          | cons D1 D2 =>
            cases D2
            have hv := D1.int
            subst hv
            have hb' : -1000000000000 ≤ j ∧ j ≤ 1000000000000 := hb
            refine ⟨j, rfl, by omega, by omega, k _ H1 G1 F1 R1 M1 ?_⟩
            have w := wk_rng (K := K) G1 0 j.toNat
            unfold rangeD
            rw [Int.sub_zero]
            exact w
      · cases hm
    | _ => cases hm
theorem i_rng2 (ha : PE X a (tB c m)) (hb : PE X b (tB c mn)) (hp : ∀ ta, PA X [a, b] ta → PI X tg (.Call (.Name "range" p) [a, b] [] pos) (iRng2 ta)) (hs : starEach (a :: [b]) X.env = (false, eval a X.env) :: starEach [b] X.env := by rfl) (hs2 : starEach (b :: []) X.env = (false, eval b X.env) :: starEach [] X.env := by rfl) :
    PI X tg (.Call (.Name "range" p) [a, b] [] pos) (tI c (iR2 m mn)) :=
  (hp _ (a_cons ha (a_cons hb a_nil hs2) hs)).imp fun σ H R ⟨G, F, env, s, r, s', Rl, hm, k⟩ => by
    obtain ⟨⟨y, s1⟩, h1, hm⟩ := some_bind hm
    obtain ⟨⟨z, s2⟩, h2, hm⟩ := some_bind hm
    cases y with
    | int i =>
      cases z with
      | int j =>
        simp only at hm
        split at hm
        · rename_i hb
          injection hm with e0
          injection e0 with e1 e2
          subst e1 e2
          refine ⟨G, F, env, s, [.int i, .int j], s2, Rl, ?_, fun vs H1 G1 F1 R1 M1 D1 => ?_⟩
          · show (m s env).bind _ = _
            rw [h1]
            show ((mn s1 env).bind _).bind _ = _
            rw [h2]
            rfl
          · cases D1 with
            | cons D1 D2 =>
              cases D2 with
              | cons D2 D3 =>
                cases D3
                have hv := D1.int
                have hu := D2.int
                subst hv hu
                have hb' : -1000000000000 ≤ i ∧ i ≤ 1000000000000 ∧ -1000000000000 ≤ j ∧ j ≤ 1000000000000 := hb
                exact ⟨i, j, rfl, ⟨by omega, by omega, by omega, by omega⟩, k _ H1 G1 F1 R1 M1 (wk_rng G1 i (j - i).toNat)⟩
        · cases hm
      | _ => cases hm
    | _ => cases hm
theorem sqk_of {G : Hp} {v : V} {d : PyData} {ds : List PyData} (D : Dp K G v d) (h : items d = some ds) : ∃ k a vs, v = .ref a ∧ SqK k K G a vs ∧ DpAll K G vs ds := by
  cases d with
  | list es =>
    cases h
    cases D with
    | lst hs ha => exact ⟨true, _, _, rfl, .inl hs, ha⟩
  | tuple es =>
    cases h
    cases D with
    | tup hs ha => exact ⟨false, _, _, rfl, hs, ha⟩
  | _ => cases h
theorem i_zip {elts : List Expr} {kk : Nat} (ha : PE X e (tE c m)) (hb : PE X e2 (tE c mn)) (hp : ∀ ta, PA X [e, e2] ta → PI X (.Tuple elts kk tpos) (.Call (.Name "zip" p) [e, e2] [] pos) (iZipG K ta)) (hs : starEach (e :: [e2]) X.env = (false, eval e X.env) :: starEach [e2] X.env := by rfl)
    (hs2 : starEach (e2 :: []) X.env = (false, eval e2 X.env) :: starEach [] X.env := by rfl) : PI X (.Tuple elts kk tpos) (.Call (.Name "zip" p) [e, e2] [] pos) (tI c (iZ m mn)) :=
  (hp _ (f_cons ha (f_cons hb f_nil hs2) hs)).imp fun σ H R ⟨G, F, env, s, r, s', Rl, hm, k⟩ => by
    obtain ⟨⟨y, s1⟩, h1, hm⟩ := some_bind hm
    obtain ⟨⟨z, s2⟩, h2, hm⟩ := some_bind hm
    obtain ⟨ds, h3, hm⟩ := some_bind hm
    obtain ⟨es, h4, e0⟩ := some_map hm
    injection e0 with e1 e2
    subst e1 e2
    refine ⟨G, F, env, s, [y, z], s2, Rl, ?_, fun vs H1 G1 F1 R1 M1 D1 => ?_⟩
    · show (m s env).bind _ = _
      rw [h1]
      show ((mn s1 env).bind _).bind _ = _
      rw [h2]
      rfl
    · cases D1 with
      | cons D1 D2 =>
        cases D2 with
        | cons D2 D3 =>
          cases D3
          obtain ⟨k1, a, us, rfl, hs1, ha1⟩ := sqk_of D1 h3
          obtain ⟨k2, b, ws, rfl, hs2, ha2⟩ := sqk_of D2 h4
          exact ⟨k1, k2, a, b, us, ws, rfl, sqk_ex R1.ex hs1, sqk_ex R1.ex hs2, k _ H1 G1 F1 R1 M1 (wk_zip hs1 hs2 ha1 ha2)⟩

/-! ### targets -/
abbrev GF (S : Type) := PyData → S → En → Option (S × En)
def tG (c : Ctx K S) (f : GF S) (is : List Nat) : TG := fun v σ H Q => ∃ G F env s d s' env', Rel c σ H G F env s ∧ Dp K G v d ∧ f d s env = some (s', env') ∧
  ∀ σ' H' G' F', Rel c σ' H' G' F' env' s' → Mv G F H G' F' H' → (∀ vs, (∀ i ∈ is, i ∈ vs) → wipe σ' vs = wipe σ vs) → Q σ' H'
def tGs (c : Ctx K S) (f : List PyData → S → En → Option (S × En)) (is : List Nat) : TGs := fun vs σ H Q => ∃ G F env s ds s' env', Rel c σ H G F env s ∧ DpAll K G vs ds ∧ f ds s env = some (s', env') ∧
  ∀ σ' H' G' F', Rel c σ' H' G' F' env' s' → Mv G F H G' F' H' → (∀ vs, (∀ i ∈ is, i ∈ vs) → wipe σ' vs = wipe σ vs) → Q σ' H'
def gN {S : Type} (i : Nat) : GF S := fun d s env => some (s, env.set i (.val d))
def gA {S : Type} : List (GF S) → List PyData → S → En → Option (S × En)
  | [], [], s, env => some (s, env)
  | f :: fs, d :: ds, s, env => (f d s env).bind fun p => gA fs ds p.1 p.2
  | _, _, _, _ => none
def gT {S : Type} (fs : List (GF S)) : GF S := fun d s env => match d with
  | .tuple ds => gA fs ds s env
  | _ => none
theorem wipe_set {σ : L2.St} {i : Nat} {o : Option V} : ∀ {vs : List Nat}, i ∈ vs → wipe (σ.set i o) vs = wipe σ vs
  | v :: vs, h => by
    unfold wipe
    by_cases e : i ∈ vs
    · rw [wipe_set e]
    · have ev : i = v := by
        rcases List.mem_cons.mp h with z | z
        · exact z
        · exact absurd z e
      subst ev
      have key : ∀ (ws : List Nat), i ∉ ws → wipe (σ.set i o) ws = (wipe σ ws).set i o := by
        intro ws
        induction ws with
        | nil => intro _; rfl
        | cons w ws ih =>
          intro hn
          unfold wipe
          rw [ih (fun z => hn (List.mem_cons_of_mem _ z)), List.set_comm]
          exact fun z => hn (z ▸ List.mem_cons_self)
      rw [key vs e, List.set_set]
theorem g_name {i : Nat} (h : PG X e (gName i)) : PG X e (tG c (gN i) [i]) := h.imp fun v σ H Q ⟨G, F, env, s, d, s', env', R, D, hf, k⟩ => by
  injection hf with e0
  injection e0 with e1 e2
  subst e1 e2
  exact k _ H G F (R.setV i D) (Mv.refl _ _ _) fun vs hv => wipe_set (hv i (List.mem_singleton.mpr rfl))
theorem gs_nil : PGs X [] (tGs c (gA []) []) := pgs_nil.imp fun v σ H Q ⟨G, F, env, s, d, s', env', R, D, hf, k⟩ => by
  cases D with
  | nil =>
    injection hf with e0
    injection e0 with e1 e2
    subst e1 e2
    exact ⟨rfl, k σ H G F R (Mv.refl _ _ _) fun _ _ => rfl⟩
  | cons _ _ => cases hf
theorem gs_cons {es : List Expr} {f : GF S} {fs : List (GF S)} {is js : List Nat} (h1 : PG X e (tG c f is)) (h2 : PGs X es (tGs c (gA fs) js)) (hs : (assignEach (e :: es) X.env).map (·.2) = assign e X.env :: (assignEach es X.env).map (·.2) := by rfl) :
    PGs X (e :: es) (tGs c (gA (f :: fs)) (is ++ js)) := (pgs_cons h1 h2 hs).imp fun v σ H Q ⟨G, F, env, s, d, s', env', R, D, hf, k⟩ => by
  cases D with
  | nil => cases hf
  | cons D1 D2 =>
    obtain ⟨⟨s1, env1⟩, h3, h4⟩ := some_bind hf
    refine ⟨_, _, rfl, G, F, env, s, _, s1, env1, R, D1, h3, fun σ1 H1 G1 F1 R1 M1 w1 => ⟨G1, F1, env1, s1, _, s', env', R1, D2.ex M1.g, h4, fun σ2 H2 G2 F2 R2 M2 w2 => ?_⟩⟩
    exact k σ2 H2 G2 F2 R2 (M1.trans M2) fun vs hv => (w2 vs fun i hi => hv i (List.mem_append_right _ hi)).trans (w1 vs fun i hi => hv i (List.mem_append_left _ hi))
theorem gA_len {S : Type} : ∀ {fs : List (GF S)} {ds : List PyData} {s : S} {env : En} {r : S × En}, gA fs ds s env = some r → ds.length = fs.length
  | [], [], _, _, _, _ => rfl
  | f :: fs, d :: ds, s, env, r, h => by
    obtain ⟨p, _, h2⟩ := some_bind h
    exact congrArg (· + 1) (gA_len h2)
  | [], _ :: _, _, _, _, h => by cases h
  | _ :: _, [], _, _, _, h => by cases h
theorem g_tup {es : List Expr} {kk n : Nat} {fs : List (GF S)} {is : List Nat} (h : PG X (.Tuple es kk pos) (gTup K n (tGs c (gA fs) is))) (hn : fs.length = n) : PG X (.Tuple es kk pos) (tG c (gT fs) is) := h.imp fun v σ H Q ⟨G, F, env, s, d, s', env', R, D, hf, k⟩ => by
  cases d with
  | tuple ds =>
    cases D with
    | tup hs ha => exact ⟨_, _, rfl, ex_t R.ex hs, by rw [ha.length, gA_len hf, hn], G, F, env, s, ds, s', env', R, ha, hf, k⟩
  | _ => cases hf
/-- target = e -/
def sBind {S : Type} (f : GF S) (m : M S PyData) : SM S := fun s env => (m s env).bind fun p => (f p.1 p.2 env).map fun q => (.nx, q.1, q.2)
theorem bind_run {D : Ends} {σ : L2.St} {H : Hp} {f : GF S} {is : List Nat} (h : tS c (sBind f m) D σ H) : tAsg (tE c m) (tG c f is) D σ H := by
  obtain ⟨G, F, env, s, fl, s', env', R, hm, k⟩ := h
  obtain ⟨⟨y, s1⟩, h1, hm⟩ := some_bind hm
  obtain ⟨⟨s2, env2⟩, h2, e0⟩ := some_map hm
  injection e0 with e1 e0
  injection e0 with e2 e3
  subst e1 e2 e3
  exact ⟨G, F, env, s, y, s1, R, h1, fun v H1 G1 F1 R1 M1 D1 => ⟨G1, F1, env, s1, y, s2, env2, R1, D1, h2, fun σ2 H2 G2 F2 R2 M2 _ => k σ2 H2 G2 F2 R2 (M1.g.trans M2.g)⟩⟩
theorem s_bind {f : GF S} {is : List Nat} (he : PE X e (tE c m)) (hg : PG X tg (tG c f is)) (hs : swapsWithSole [tg] e pos.line X.env = pure false := by rfl) (hw : swappedStores [tg] e X.env = pure none := by rfl)
    (h1 : (assignEach [tg] X.env).map (·.2) = [assign tg X.env] := by rfl) : PS X (.Assign [tg] e pos) (tS c (sBind f m)) := (ps_asg he hg hs hw h1).imp fun _ _ _ h => bind_run h
/-- a, b = x, y with plain local names -/
def sPar {S : Type} (is : List Nat) (ms : List (M S PyData)) : SM S := fun s env => (aAll ms s env).bind fun p => (gA (is.map gN) p.1 p.2 env).map fun q => (.nx, q.1, q.2)
theorem s_par {i j : Nat} {x y : Str} {px py pt : Pos} {kt k2 : Nat} {pt2 : Pos} (hc : X.calm = true) (hN : X.N.Nodup) (hi : X.N[i]? = some x) (hj : X.N[j]? = some y) (hij : i ≠ j) (hx : X.env.scope.names.lookup x = some .local) (hy : X.env.scope.names.lookup y = some .local)
    (ha : PA X [a, b] (tAE c (aAll [m, mn]))) (hw : swappedStores [.Tuple [.Name x px, .Name y py] kt pt] (.Tuple [a, b] k2 pt2) X.env = pure (some [x, y]) := by rfl)
    (hs : swapsWithSole [.Tuple [.Name x px, .Name y py] kt pt] (.Tuple [a, b] k2 pt2) pos.line X.env = pure false := by rfl) : PS X (.Assign [.Tuple [.Name x px, .Name y py] kt pt] (.Tuple [a, b] k2 pt2) pos) (tS c (sPar [i, j] [m, mn])) :=
  (ps_par hc hN hi hj hij hx hy ha hw hs).imp fun D σ H ⟨G, F, env, s, fl, s', env', R, hm, k⟩ => by
    obtain ⟨⟨ys, s1⟩, h1, hm⟩ := some_bind hm
    obtain ⟨⟨s2, env2⟩, h2, e0⟩ := some_map hm
    injection e0 with e1 e0
    injection e0 with e2 e3
    subst e1 e2 e3
    refine ⟨G, F, env, s, ys, s1, R, h1, fun vs H1 G1 F1 R1 M1 D1 => ?_⟩
    have hl := aAll_len h1
    match ys, hl, h2, D1 with
    | [d1, d2], _, h2, .cons D1 (.cons D2 .nil) =>
      cases h2
      exact ⟨_, _, rfl, k _ H1 G1 F1 ((R1.setV i D1).setV j D2) M1.g⟩
theorem s_par3 {i j l : Nat} {x y z : Str} {e3 : Expr} {mk : M S PyData} {px py pz pt : Pos} {kt k2 : Nat} {pt2 : Pos} (hc : X.calm = true) (hN : X.N.Nodup) (h : PS X (.Assign [.Tuple [.Name x px, .Name y py, .Name z pz] kt pt] (.Tuple [a, b, e3] k2 pt2) pos) (tPar3 i j l (tAE c (aAll [m, mn, mk])))) :
    PS X (.Assign [.Tuple [.Name x px, .Name y py, .Name z pz] kt pt] (.Tuple [a, b, e3] k2 pt2) pos) (tS c (sPar [i, j, l] [m, mn, mk])) :=
  h.imp fun D σ H ⟨G, F, env, s, fl, s', env', R, hm, k⟩ => by
    obtain ⟨⟨ys, s1⟩, h1, hm⟩ := some_bind hm
    obtain ⟨⟨s2, env2⟩, h2, e0⟩ := some_map hm
    injection e0 with e1 e0
    injection e0 with e2 e3
    subst e1 e2 e3
    refine ⟨G, F, env, s, ys, s1, R, h1, fun vs H1 G1 F1 R1 M1 D1 => ?_⟩
    have hl := aAll_len h1
    match ys, hl, h2, D1 with
    | [d1, d2, d3], _, h2, .cons D1 (.cons D2 (.cons D3 .nil)) =>
      cases h2
      exact ⟨_, _, _, rfl, k _ H1 G1 F1 (((R1.setV i D1).setV j D2).setV l D3) M1.g⟩
end
end Dv

namespace Dv
open PySem PySem.Spec PyProof.Rows L2
/-! ### for -/
def forL {S : Type} (g : GF S) (b : SM S) : List PyData → S → En → Option (Fl × S × En)
  | [], s, env => some (.nx, s, env)
  | d :: ds, s, env => (g d s env).bind fun p => (b p.1 p.2).bind fun q => match q.1 with
    | .nx => forL g b ds q.2.1 q.2.2
    | .ct => forL g b ds q.2.1 q.2.2
    | .bk => some (.nx, q.2.1, q.2.2)
    | .rt d => some (.rt d, q.2.1, q.2.2)
def sFor {S : Type} (mi : M S (List PyData)) (g : GF S) (b : SM S) : SM S := fun s env => (mi s env).bind fun p => forL g b p.1 p.2 env
/-! ### comprehensions -/
def wipeE (env : En) : List Nat → En
  | [] => env
  | v :: vs => (wipeE env vs).set v SV.no
def lcL {S : Type} (env : En) (g : GF S) (t : M S Bool) (e : M S PyData) : List PyData → S → Option (List PyData × S)
  | [], s => some ([], s)
  | d :: ds, s => (g d s env).bind fun p => (t p.1 p.2).bind fun q => if q.1 = true then (e q.2 p.2).bind fun y => (lcL env g t e ds y.2).map fun r => (y.1 :: r.1, r.2) else lcL env g t e ds q.2
def oLc {S : Type} (vs : List Nat) (mi : M S (List PyData)) (g : GF S) (t : M S Bool) (e : M S PyData) : M S (List PyData) := fun s env => (mi s env).bind fun p => if p.1.length ≤ 1000000 then lcL (wipeE env vs) g t e p.1 p.2 else none
def tYes {S : Type} : M S Bool := fun s _ => some (true, s)
/-! ### while: the turns are counted -/
def whL {S : Type} (t : M S Bool) (b : SM S) : Nat → S → En → Option (Fl × S × En)
  | 0, _, _ => none
  | n + 1, s, env => (t s env).bind fun p => if p.1 = true then (b p.2 env).bind fun q => match q.1 with
    | .nx => whL t b n q.2.1 q.2.2
    | .ct => whL t b n q.2.1 q.2.2
    | .bk => some (.nx, q.2.1, q.2.2)
    | .rt d => some (.rt d, q.2.1, q.2.2) else some (.nx, p.2, env)
def sWhile {S : Type} (n : S → En → Nat) (t : M S Bool) (b : SM S) : SM S := fun s env => whL t b (n s env) s env
section
variable {K : PySem.W.Frag} {S : Type} {X : Cx} {c : Ctx K S} {e e2 tg a b iter : Expr} {pos p tpos : Pos} {m mn : M S PyData} {mi : M S (List PyData)} {g : GF S} {is : List Nat} {body : List Stmt} {w : SM S} {tt : M S Bool} {D : Ends} {σ : L2.St} {H : Hp}
theorem for_run (h : tS c (sFor mi g w) D σ H) : tFor (tI c mi) (tG c g is) (tS c w) D σ H := by
  obtain ⟨G, F, env, s, fl, s', env', R, hm, k⟩ := h
  obtain ⟨⟨ds, s1⟩, h1, hm⟩ := some_bind hm
  refine ⟨G, F, env, s, ds, s1, R, h1, fun J H1 G1 F1 R1 M1 wk => ?_⟩
  refine ⟨fun i m σ H => ∃ G F env s, i + m = ds.length ∧ Ex G1 G ∧ Rel c σ H G F env s ∧ forL g w (ds.drop i) s env = some (fl, s', env'), ⟨ds.length, G1, F1, env, s1, Nat.zero_add _, Ex.refl _, R1, hm⟩, ?_⟩
  rintro i m σ2 H2 ⟨G2, F2, env2, s2, him, eG, R2, hf⟩
  obtain ⟨go, st⟩ := wk G2 H2 eG R2.ex
  by_cases hi : i < ds.length
  · obtain ⟨hgo, hy⟩ := go i ds[i] (List.getElem?_eq_getElem hi)
    rw [List.drop_eq_getElem_cons hi] at hf
    obtain ⟨⟨s3, env3⟩, h3, hf⟩ := some_bind hf
    obtain ⟨⟨f4, s4, env4⟩, h4, hf⟩ := some_bind hf
    refine .inr ⟨hgo, fun σ' H' => ∃ G F env s, (i + 1) + (m - 1) = ds.length ∧ Ex G1 G ∧ Rel c σ' H' G F env s ∧ forL g w (ds.drop (i + 1)) s env = some (fl, s', env'), fun σ' H' hN => ⟨m - 1, by omega, hN⟩, fun x H3 y => ?_⟩
    obtain ⟨G3, g3, D3⟩ := hy x H3 y
    refine ⟨G3, F2, env2, s2, ds[i], s3, env3, R2.gr g3, D3, h3, fun σ4 H4 G4 F4 R4 M4 _ => ⟨G4, F4, env3, s3, f4, s4, env4, R4, h4, ?_⟩⟩
    have e4 : Ex G1 G4 := (eG.trans g3.g).trans M4.g
    cases f4 with
    | nx => exact fun σ5 H5 G5 F5 R5 e5 => ⟨G5, F5, env4, s4, by omega, e4.trans e5, R5, hf⟩
    | ct => exact fun σ5 H5 G5 F5 R5 e5 => ⟨G5, F5, env4, s4, by omega, e4.trans e5, R5, hf⟩
    | bk =>
      injection hf with e0
      injection e0 with e1 e0
      injection e0 with e2 e3
      subst e1 e2 e3
      exact fun σ5 H5 G5 F5 R5 e5 => k σ5 H5 G5 F5 R5 ((M1.g.trans e4).trans e5)
    | rt d =>
      injection hf with e0
      injection e0 with e1 e0
      injection e0 with e2 e3
      subst e1 e2 e3
      exact k
  · have ei : i = ds.length := by omega
    subst ei
    rw [List.drop_length] at hf
    injection hf with e0
    injection e0 with e1 e0
    injection e0 with e2 e3
    subst e1 e2 e3
    exact .inl ⟨st, k σ2 H2 G2 F2 R2 (M1.g.trans eG)⟩
theorem s_for (hp : PassesOwn (model X.prog X.w) X.A X.env X.xe) (hc : X.calm = true) (hi : PI X tg iter (tI c mi)) (hg : PG X tg (tG c g is)) (hb : PSs X body (tS c w)) (hs : ∀ x, foldedSetIterable iter X.env x = pure x := by intro _; rfl) :
    PS X (.For tg iter body [] pos) (tS c (sFor mi g w)) := (ps_for hp hc hi hg hb hs).imp fun _ _ _ h => for_run h

theorem wipe_some' {σ : L2.St} {i : Nat} {o : Option V} : ∀ {vs : List Nat}, i ∉ vs → (wipe σ vs)[i]? = σ[i]? := fun h => wipe_out h
theorem wipeE_at {env : En} {i : Nat} {sv : SV} : ∀ {vs : List Nat}, (wipeE env vs)[i]? = some sv → (sv = SV.no ∧ i ∈ vs) ∨ (env[i]? = some sv ∧ i ∉ vs)
  | [], h => .inr ⟨h, by simp⟩
  | v :: vs, h => by
    unfold wipeE at h
    by_cases hi : v = i
    · subst hi
      by_cases hv : v < (wipeE env vs).length
      · rw [List.getElem?_set_self hv] at h
        cases h
        exact .inl ⟨rfl, List.mem_cons_self⟩
      · rw [List.getElem?_eq_none (by simpa using hv)] at h
        cases h
    · rw [List.getElem?_set_ne hi] at h
      rcases wipeE_at h with ⟨h1, h2⟩ | ⟨h1, h2⟩
      · exact .inl ⟨h1, List.mem_cons_of_mem _ h2⟩
      · exact .inr ⟨h1, by simp only [List.mem_cons, not_or]; exact ⟨fun e => hi e.symm, h2⟩⟩
theorem wipeE_len (env : En) : ∀ vs : List Nat, (wipeE env vs).length = env.length
  | [] => rfl
  | v :: vs => by unfold wipeE; rw [List.length_set, wipeE_len env vs]
theorem Rel.wipe {G : Hp} {F : Addr → Prop} {env : En} {s : S} (R : Rel c σ H G F env s) (vs : List Nat) : Rel c (L2.wipe σ vs) H G F (wipeE env vs) s := by
  refine ⟨R.rg, R.mv, by rw [wipeE_len, wipe_length]; exact R.len, fun i sv h => ?_, fun i j ds es h1 h2 h3 => ?_, fun i j ds rs es h1 h2 => ?_⟩
  · rcases wipeE_at h with ⟨h1, _⟩ | ⟨h1, h2⟩
    · subst h1
      trivial
    · rw [wipe_out h2]
      exact R.slot i sv h1
  · rcases wipeE_at h1 with ⟨q1, _⟩ | ⟨q1, q2⟩
    · cases q1
    · rcases wipeE_at h2 with ⟨q3, _⟩ | ⟨q3, q4⟩
      · cases q3
      · rw [wipe_out q2, wipe_out q4] at h3
        exact R.inj i j ds es q1 q3 h3
  · rcases wipeE_at h1 with ⟨q1, _⟩ | ⟨q1, q2⟩
    · cases q1
    · rcases wipeE_at h2 with ⟨q3, _⟩ | ⟨q3, q4⟩
      · cases q3
      · rw [wipe_out q2, wipe_out q4]
        exact R.inj1 i j ds rs es q1 q3
theorem lcL_len {env : En} {g : GF S} {t : M S Bool} {e : M S PyData} : ∀ {ds : List PyData} {s s' : S} {r : List PyData}, lcL env g t e ds s = some (r, s') → r.length ≤ ds.length
  | [], _, _, _, h => by
    injection h with h
    injection h with h1 _
    rw [← h1]
    exact Nat.le_refl _
  | d :: ds, s, s', r, h => by
    obtain ⟨p, _, h⟩ := some_bind h
    obtain ⟨q, _, h⟩ := some_bind h
    split at h
    · obtain ⟨y, _, h⟩ := some_bind h
      obtain ⟨z, h2, e0⟩ := some_map h
      injection e0 with e1 e2
      rw [← e1]
      exact Nat.succ_le_succ (lcL_len (r := z.1) (s' := z.2) h2)
    · exact Nat.le_succ_of_le (lcL_len h)
theorem lc_run {vs : List Nat} {te : M S PyData} {Q : VK} (hv : ∀ i ∈ is, i ∈ vs) (h : tO c (oLc vs mi g tt te) σ H Q) : tLc (tI c mi) (tG c g is) (tT c tt) (tE c te) vs σ H Q := by
  obtain ⟨G, F, env, s, z, s', R, hm, k⟩ := h
  obtain ⟨⟨ds, s1⟩, h1, hm⟩ := some_bind hm
  have hbig : ds.length ≤ 1000000 := by
    simp only at hm
    split at hm
    · assumption
    · cases hm
  rw [if_pos hbig] at hm
  refine ⟨G, F, env, s, ds, s1, R, h1, fun J H1 G1 F1 R1 M1 wk => fun D hD => ?_⟩
  -- W: behind i turns the new list holds acc, and the rest gives the rest
  refine ⟨fun i m H => ∃ G2 F2 s2 acc rest us, i + m = ds.length ∧ acc.length ≤ i ∧ Rel c σ H G2 F2 env s2 ∧ Mv G1 F1 H1 G2 F2 H ∧ H D = some (.lst us) ∧ DpAll K G2 us acc ∧ G2 D = none ∧ ¬ F2 D ∧ lcL (wipeE env vs) g tt te (ds.drop i) s2 = some (rest, s') ∧ z = acc ++ rest, ⟨ds.length, ?_⟩, ?_⟩
  · obtain ⟨R3, M3, g3, f3⟩ := rel_new R1 (o := .lst []) hD
    exact ⟨G1, F1, s1, [], z, [], Nat.zero_add _, Nat.zero_le _, R3, M3, upd_same, .nil, g3, f3, hm, rfl⟩
  · rintro i m H2 ⟨G2, F2, s2, acc, rest, us, him, hacc, R2, M2, hL, hA, hG, hF, hlc, hz⟩
    obtain ⟨go, st⟩ := wk G2 H2 M2.g R2.ex
    by_cases hi : i < ds.length
    · obtain ⟨hgo, hy⟩ := go i ds[i] (List.getElem?_eq_getElem hi)
      rw [List.drop_eq_getElem_cons hi] at hlc
      obtain ⟨⟨s3, env3⟩, h3, hlc⟩ := some_bind hlc
      obtain ⟨⟨t4, s4⟩, h4, hlc⟩ := some_bind hlc
      refine .inr ⟨hgo, fun H => ∃ G2 F2 s2 acc rest us, (i + 1) + (m - 1) = ds.length ∧ acc.length ≤ i + 1 ∧ Rel c σ H G2 F2 env s2 ∧ Mv G1 F1 H1 G2 F2 H ∧ H D = some (.lst us) ∧ DpAll K G2 us acc ∧ G2 D = none ∧ ¬ F2 D ∧ lcL (wipeE env vs) g tt te (ds.drop (i + 1)) s2 = some (rest, s') ∧ z = acc ++ rest, fun H' hN => ⟨m - 1, by omega, hN⟩, fun x H3 y => ?_⟩
      obtain ⟨G3, g3, D3⟩ := hy x H3 y
      have R3 := R2.gr g3
      refine ⟨G3, F2, wipeE env vs, s2, ds[i], s3, env3, R3.wipe vs, D3, h3, fun σ4 H4 G4 F4 R4 M4 w4 => ⟨?_, ?_⟩⟩
      · rw [w4 vs hv]
        have ww : ∀ ws : List Nat, (∀ i ∈ ws, i ∈ vs) → L2.wipe (L2.wipe σ vs) ws = L2.wipe σ vs := by
          intro ws
          induction ws with
          | nil => intro _; rfl
          | cons w ws ih =>
            intro hw
            show (L2.wipe (L2.wipe σ vs) ws).set w none = L2.wipe σ vs
            rw [ih fun i hi => hw i (List.mem_cons_of_mem _ hi)]
            have hwv := hw w List.mem_cons_self
            -- setting a wiped slot to none changes nothing
            have key : ∀ (us : List Nat), w ∈ us → (L2.wipe σ us).set w none = L2.wipe σ us := by
              intro us
              induction us with
              | nil => intro h; cases h
              | cons u us ih2 =>
                intro hu
                show ((L2.wipe σ us).set u none).set w none = (L2.wipe σ us).set u none
                by_cases e : w = u
                · subst e
                  rw [List.set_set]
                · rw [List.set_comm _ _ (Ne.symm e)]
                  rcases List.mem_cons.mp hu with z | z
                  · exact absurd z e
                  · rw [ih2 z]
            exact key vs hwv
        exact ww vs fun _ h => h
      · refine ⟨G4, F4, env3, s3, t4, s4, R4, h4, fun H5 G5 F5 R5 M5 => ?_⟩
        have back : ∀ {H6 G6 F6 s6}, RgOk c.R G6 F6 H6 s6 → Mv G3 F2 H3 G6 F6 H6 → Rel c σ H6 G6 F6 env s6 := fun r m => R3.to m r
        have M35 : Mv G3 F2 H3 G5 F5 H5 := M4.trans M5
        have keepD : ∀ {H6 G6 F6}, Mv G3 F2 H3 G6 F6 H6 → H6 D = some (.lst us) ∧ DpAll K G6 us acc ∧ G6 D = none ∧ ¬ F6 D := fun {H6 G6 F6} m6 => by
          have q3 : H3 D = some (.lst us) := g3.h D _ hL
          refine ⟨m6.h D _ hF q3, (hA.ex g3.g).ex m6.g, ?_, fun z => ?_⟩
          · cases q : G6 D with
            | none => rfl
            | some o =>
              rcases m6.new D o q with z | z
              · rcases g3.new D o z with z | z
                · rw [hG] at z
                  cases z
                · rw [hL] at z
                  cases z
              · rw [q3] at z
                cases z
          · rcases m6.newF D z with z | z
            · exact hF z
            · rw [q3] at z
              cases z
        cases t4 with
        | true =>
          rw [if_pos rfl] at hlc
          obtain ⟨⟨y6, s6⟩, h6, hlc⟩ := some_bind hlc
          obtain ⟨⟨r7, s7⟩, h7, e0⟩ := some_map hlc
          injection e0 with e1 e2
          subst e2
          show tE c te σ4 H5 _
          refine ⟨G5, F5, env3, s4, y6, s6, R5, h6, fun v H6 G6 F6 R6 M6 D6 => ?_⟩
          have M36 := M35.trans M6
          obtain ⟨k1, k2, k3, k4⟩ := keepD M36
          have R6' := back R6.rg M36
          refine ⟨us, k1, ?_, ?_⟩
          · rw [hA.length]
            have : acc.length ≤ 1000000 := by omega
            exact Nat.lt_of_le_of_lt this (by decide)
          · have eG : Ex G6 (upd H6 D (.lst (us ++ [v]))) := R6'.ex.mut k3
            have neD : ∀ b, F6 b → b ≠ D := fun b hb z => k4 (by rw [← z]; exact hb)
            refine ⟨G6, F6, s6, acc ++ [y6], r7, us ++ [v], by omega, by rw [List.length_append]; simp; omega, ⟨⟨eG, R6'.rg.sep, fun b hb => ?_, c.R.mono R6'.rg.rel (Ex.refl _) fun b o hb q => ?_⟩, ?_, R6'.len, fun j sv q => ?_, R6'.inj, fun i2 j2 ds2 rs2 es2 q1 q2 => (R6'.inj1 i2 j2 ds2 rs2 es2 q1 q2).to fun t2 a2 us2 e2 h2 => by
                obtain ⟨t0, a0, vs0, us0, e0', i1, _⟩ := R1.slot i2 _ q1
                rw [e2] at e0'
                injection e0' with e0'
                injection e0' with e0'
                injection e0' with e0'
                subst e0'
                rw [upd_ne (ne_of_none i1 hD)] at h2
                exact h2⟩, ?_, upd_same, k2.append (.cons D6 .nil), k3, k4, h7, ?_⟩
            · obtain ⟨o, q⟩ := R6'.rg.inn b hb
              exact ⟨o, by rw [upd_ne (neD b hb)]; exact q⟩
            · rw [upd_ne (neD b hb)]
              exact q
            · have hn0 : c.H0 D = none := none_back R1.mv.there hD
              refine ⟨R6'.mv.g, fun b o hb q => ?_, fun b o q => ?_, R6'.mv.new, R6'.mv.newF⟩
              · rw [upd_ne (ne_of_none q hn0)]
                exact R6'.mv.h b o hb q
              · rw [upd_ne (ne_of_none q hn0)]
                exact R6'.mv.there b o q
            · have q' := R6'.slot j sv q
              have q0 := R1.slot j sv q
              cases sv with
              | no => trivial
              | val d => exact q'
              | own es =>
                obtain ⟨b, ws, e, j1, j2, j3, j4, j5⟩ := q'
                obtain ⟨b0, ws0, e', i1, _⟩ := q0
                rw [e] at e'
                injection e' with e'
                injection e' with e'
                injection e' with e'
                subst e'
                exact ⟨b, ws, e, by rw [upd_ne (ne_of_none i1 hD)]; exact j1, j2, j3, j4, j5⟩
              | own1 es rs =>
                obtain ⟨t, b, us', ws, e, j1, j2, j3, j4, ⟨p1, f1, n1⟩, ⟨p2, f2, n2⟩, ne⟩ := q'
                have neD : ∀ x o, H6 x = some o → x ≠ D → upd H6 D (.lst (us ++ [v])) x = some o := fun x o q z => by rw [upd_ne z]; exact q
                obtain ⟨t0, b0, us0, ws0, e', i1, i2, _, _, ⟨_, f0, _⟩, _⟩ := q0
                rw [e] at e'
                injection e' with e'
                injection e' with e'
                injection e' with e'
                subst e'
                have M16 : Mv G1 F1 H1 G6 F6 H6 := (M2.trans (Mv.of_gr g3)).trans M36
                have i3 := M16.h _ _ f0 i1
                rw [j1] at i3
                injection i3 with i3
                injection i3 with i3
                injection i3 with i3 i4
                injection i3 with i3
                subst i3
                exact ⟨t, b, us', ws, e, neD _ _ j1 (ne_of_none i1 hD), neD _ _ j2 (ne_of_none i2 hD), j3, j4, ⟨p1, f1, n1⟩, ⟨p2, f2, n2⟩, ne⟩
              | reg => exact q'
            · have M16 : Mv G1 F1 H1 G6 F6 H6 := (M2.trans (Mv.of_gr g3)).trans M36
              refine ⟨M16.g, fun b o hb q => ?_, fun b o q => ?_, M16.new, M16.newF⟩
              · rw [upd_ne (ne_of_none q hD)]
                exact M16.h b o hb q
              · rw [upd_ne (ne_of_none q hD)]
                exact M16.there b o q
            · rw [hz, ← e1, List.append_assoc]
              rfl
        | false =>
          rw [if_neg Bool.false_ne_true] at hlc
          obtain ⟨k1, k2, k3, k4⟩ := keepD M35
          exact ⟨G5, F5, s4, acc, rest, us, by omega, by omega, back R5.rg M35, (M2.trans (Mv.of_gr g3)).trans M35, k1, k2, k3, k4, hlc, hz⟩
    · have ei : i = ds.length := by omega
      subst ei
      rw [List.drop_length] at hlc
      injection hlc with e0
      injection e0 with e1 e2
      subst e1 e2
      rw [List.append_nil] at hz
      subst hz
      exact .inl ⟨st, k D us H2 G2 F2 R2 (M1.trans M2) hL hA hG hF (none_back M1.there hD)⟩
end
end Dv

namespace L2
theorem PTs.imp {X : Cx} {e : List PySem.Expr} {t t' : TT} (h : PTs X e t) (i : ∀ σ H Q, t' σ H Q → t σ H Q) : PTs X e t' := ⟨fun pins s σ H Q I q => h.run pins s σ H Q I (i σ H Q q)⟩
end L2
namespace Dv
open PySem PySem.Spec PyProof.Rows L2
section
variable {K : PySem.W.Frag} {S : Type} {X : Cx} {c : Ctx K S} {e e2 tg a b iter elt : Expr} {pos p tpos : Pos} {m mn : M S PyData} {mi : M S (List PyData)} {g : GF S} {is : List Nat} {body : List Stmt} {w : SM S} {tt : M S Bool} {D : Ends} {σ : L2.St} {H : Hp} {te : M S PyData} {x y : Str}
theorem ts_nil : PTs X [] (tT c tYes) := pts_nil.imp fun σ H Q ⟨G, F, env, s, r, s', R, hm, k⟩ => by
  cases hm
  exact k H G F R (Mv.refl _ _ _)
theorem ts_one (h : PT X e (tT c tt)) : PTs X [e] (tT c tt) := pts_one h
theorem x_lc {ifs : List Expr} {scope : Scope} {own : List (Str × Nat)} (hc : X.calm = true) (hN : X.N.Nodup) (hi : PI X tg iter (tI c mi)) (ok : BlkOk X.N X.env.scope scope own)
    (hg : ∀ (s : Shared) (H : Hp) (C : Addr) (cl : List (Str × Addr)) (fp : List Addr), PG (X.blk s H scope (compEnvC scope cl C X.env) fp) tg (tG c g is)) (ht : ∀ (s : Shared) (H : Hp) (C : Addr) (cl : List (Str × Addr)) (fp : List Addr), PTs (X.blk s H scope (compEnvC scope cl C X.env) fp) ifs (tT c tt))
    (he : ∀ (s : Shared) (H : Hp) (C : Addr) (cl : List (Str × Addr)) (fp : List Addr), PE (X.blk s H scope (compEnvC scope cl C X.env) fp) elt (tE c te)) (hv : ∀ i ∈ is, i ∈ own.map (·.2)) (hs : ∀ x, foldedSetIterable iter X.env x = pure x := by intro _; rfl) :
    PE X (.ListComp elt [⟨tg, iter, ifs, 0⟩] scope pos) (tO c (oLc (own.map (·.2)) mi g tt te)) := (pe_lc hc hN hi ok hg ht he hs).imp fun _ _ _ h => lc_run hv h
theorem s_setLc {i : Nat} {py spos : Pos} {ifs : List Expr} {scope : Scope} {own : List (Str × Nat)} (hc : X.calm = true) (hN : X.N.Nodup) (hy : X.N[i]? = some y) (hyl : X.env.scope.names.lookup y = some .local)
    (hsw : swapsWith (.ListComp elt [⟨tg, iter, ifs, 0⟩] scope pos) (some (.Name y py)) spos.line X.env = pure true) (hi : PI X tg iter (tI c mi)) (ok : BlkOk X.N X.env.scope scope own)
    (hg : ∀ (s : Shared) (H : Hp) (C : Addr) (cl : List (Str × Addr)) (fp : List Addr), PG (X.blk s H scope (compEnvC scope cl C X.env) fp) tg (tG c g is)) (ht : ∀ (s : Shared) (H : Hp) (C : Addr) (cl : List (Str × Addr)) (fp : List Addr), PTs (X.blk s H scope (compEnvC scope cl C X.env) fp) ifs (tT c tt))
    (he : ∀ (s : Shared) (H : Hp) (C : Addr) (cl : List (Str × Addr)) (fp : List Addr), PE (X.blk s H scope (compEnvC scope cl C X.env) fp) elt (tE c te)) (hv : ∀ i ∈ is, i ∈ own.map (·.2)) (hs : ∀ x, foldedSetIterable iter X.env x = pure x := by intro _; rfl) :
    PS X (.Assign [.Name y py] (.ListComp elt [⟨tg, iter, ifs, 0⟩] scope pos) spos) (tS c (sSet i (eL (oLc (own.map (·.2)) mi g tt te)))) := (ps_setLc hc hN hy hyl hsw hi ok hg ht he hs).imp fun D σ H h => by
  have h2 : tE c (eL (oLc (own.map (·.2)) mi g tt te)) σ H (fun x H1 => gName i x σ H1 D.nx) := by
    obtain ⟨G, F, env, s, fl, s', env', R, hm, k⟩ := h
    obtain ⟨⟨y, s1⟩, h1, e⟩ := some_map hm
    injection e with e1 e
    injection e with e2 e3
    subst e1 e2 e3
    exact ⟨G, F, env, s, y, s1, R, h1, fun v H1 G1 F1 R1 M1 D1 => k _ H1 G1 F1 (R1.setV i D1) M1.g⟩
  exact lc_run hv (oe_run h2)
theorem s_ownLc {i : Nat} {py spos : Pos} {ifs : List Expr} {scope : Scope} {own : List (Str × Nat)} (hc : X.calm = true) (hN : X.N.Nodup) (hy : X.N[i]? = some y) (hyl : X.env.scope.names.lookup y = some .local)
    (hsw : swapsWith (.ListComp elt [⟨tg, iter, ifs, 0⟩] scope pos) (some (.Name y py)) spos.line X.env = pure true) (hi : PI X tg iter (tI c mi)) (ok : BlkOk X.N X.env.scope scope own)
    (hg : ∀ (s : Shared) (H : Hp) (C : Addr) (cl : List (Str × Addr)) (fp : List Addr), PG (X.blk s H scope (compEnvC scope cl C X.env) fp) tg (tG c g is)) (ht : ∀ (s : Shared) (H : Hp) (C : Addr) (cl : List (Str × Addr)) (fp : List Addr), PTs (X.blk s H scope (compEnvC scope cl C X.env) fp) ifs (tT c tt))
    (he : ∀ (s : Shared) (H : Hp) (C : Addr) (cl : List (Str × Addr)) (fp : List Addr), PE (X.blk s H scope (compEnvC scope cl C X.env) fp) elt (tE c te)) (hv : ∀ i ∈ is, i ∈ own.map (·.2)) (hs : ∀ x, foldedSetIterable iter X.env x = pure x := by intro _; rfl) :
    PS X (.Assign [.Name y py] (.ListComp elt [⟨tg, iter, ifs, 0⟩] scope pos) spos) (tS c (sOwn i (oLc (own.map (·.2)) mi g tt te))) := (ps_setLc hc hN hy hyl hsw hi ok hg ht he hs).imp fun D σ H h => by
  have h2 : tAsg (tO c (oLc (own.map (·.2)) mi g tt te)) (gName i) D σ H := own_run h
  exact lc_run hv h2

/-! ### while -/
theorem wh_run {n : S → En → Nat} (h : tS c (sWhile n tt w) D σ H) : tWhile (tT c tt) (tS c w) D σ H := by
  obtain ⟨G, F, env, s, fl, s', env', R, hm, k⟩ := h
  refine ⟨fun m σ H => ∃ G2 F env s, Ex G G2 ∧ Rel c σ H G2 F env s ∧ whL tt w m s env = some (fl, s', env'), ⟨n s env, G, F, env, s, Ex.refl _, R, hm⟩, ?_⟩
  rintro m σ2 H2 ⟨G2, F2, env2, s2, eG, R2, hf⟩
  cases m with
  | zero => cases hf
  | succ m =>
    obtain ⟨⟨b, s3⟩, h3, hf⟩ := some_bind hf
    refine ⟨G2, F2, env2, s2, b, s3, R2, h3, fun H3 G3 F3 R3 M3 => ?_⟩
    cases b with
    | true =>
      rw [if_pos rfl] at hf
      obtain ⟨⟨f4, s4, env4⟩, h4, hf⟩ := some_bind hf
      refine ⟨fun σ' H' => ∃ G5 F env s, Ex G G5 ∧ Rel c σ' H' G5 F env s ∧ whL tt w m s env = some (fl, s', env'), fun σ' H' hN => ⟨m, Nat.lt_succ_self _, hN⟩, G3, F3, env2, s3, f4, s4, env4, R3, h4, ?_⟩
      have e3 := eG.trans M3.g
      cases f4 with
      | nx => exact fun σ5 H5 G5 F5 R5 e5 => ⟨G5, F5, env4, s4, e3.trans e5, R5, hf⟩
      | ct => exact fun σ5 H5 G5 F5 R5 e5 => ⟨G5, F5, env4, s4, e3.trans e5, R5, hf⟩
      | bk =>
        injection hf with e0
        injection e0 with e1 e0
        injection e0 with e2 e3'
        subst e1 e2 e3'
        exact fun σ5 H5 G5 F5 R5 e5 => k σ5 H5 G5 F5 R5 (e3.trans e5)
      | rt d =>
        injection hf with e0
        injection e0 with e1 e0
        injection e0 with e2 e3'
        subst e1 e2 e3'
        exact k
    | false =>
      rw [if_neg Bool.false_ne_true] at hf
      injection hf with e0
      injection e0 with e1 e0
      injection e0 with e2 e3
      subst e1 e2 e3
      exact k σ2 H3 G3 F3 R3 (eG.trans M3.g)
theorem s_while (n : S → En → Nat) (hp : PassesOwn (model X.prog X.w) X.A X.env X.xe) (ht : PT X e (tT c tt)) (hb : PSs X body (tS c w)) : PS X (.While e body [] pos) (tS c (sWhile n tt w)) := (ps_while hp ht hb).imp fun _ _ _ h => wh_run h

/-! ### lists of one's own are changed -/
theorem Rel.chg {G : Hp} {F : Addr → Prop} {env : En} {s : S} (R : Rel c σ H G F env s) {i : Nat} {ds es : List PyData} {a : Addr} {us : List V} (h : env[i]? = some (SV.own ds)) (ha : σ[i]? = some (some (.ref a))) (hu : DpAll K G us es) :
    Rel c σ (upd H a (.lst us)) G F (env.set i (.own es)) s := by
  obtain ⟨a', vs, e, h1, h2, h3, h4, h5⟩ := R.slot i _ h
  rw [ha] at e
  injection e with e
  injection e with e
  injection e with e
  subst e
  have hi : i < env.length := (List.getElem?_eq_some_iff.mp h).1
  have neF : ∀ b, F b → b ≠ a := fun b hb z => h4 (by rw [← z]; exact hb)
  refine ⟨⟨R.ex.mut h3, R.rg.sep, fun b hb => ?_, c.R.mono R.rg.rel (Ex.refl _) fun b o hb q => ?_⟩, ⟨R.mv.g, fun b o hb q => ?_, fun b o q => ?_, R.mv.new, R.mv.newF⟩, by rw [List.length_set]; exact R.len, fun j sv q => ?_, fun j l xs ys q1 q2 q3 => ?_, fun j l xs rs ys q1 q2 => ?_⟩
  · obtain ⟨o, q⟩ := R.rg.inn b hb
    exact ⟨o, by rw [upd_ne (neF b hb)]; exact q⟩
  · rw [upd_ne (neF b hb)]
    exact q
  · rw [upd_ne (ne_of_none q h5)]
    exact R.mv.h b o hb q
  · rw [upd_ne (ne_of_none q h5)]
    exact R.mv.there b o q
  · by_cases z : j = i
    · subst z
      rw [List.getElem?_set_self hi] at q
      injection q with q
      subst q
      exact ⟨a, us, ha, upd_same, hu, h3, h4, h5⟩
    · rw [List.getElem?_set_ne (Ne.symm z)] at q
      have q' := R.slot j sv q
      cases sv with
      | no => trivial
      | val d => exact q'
      | own xs =>
        obtain ⟨b, ws, e, j1, j2, j3, j4, j5⟩ := q'
        have ne : b ≠ a := fun zz => z (R.inj j i xs ds q h (by rw [e, ha, zz]))
        exact ⟨b, ws, e, by rw [upd_ne ne]; exact j1, j2, j3, j4, j5⟩
      | own1 xs rs =>
        obtain ⟨t, b, us', ws, e, j1, j2, j3, j4, p1, p2, ne⟩ := q'
        obtain ⟨d1, d2⟩ := R.inj1 j i xs rs ds q h t b ws a e j1 ha
        exact ⟨t, b, us', ws, e, by rw [upd_ne (Ne.symm d1)]; exact j1, by rw [upd_ne (Ne.symm d2)]; exact j2, j3, j4, p1, p2, ne⟩
      | reg => exact q'
  · have own_at : ∀ {j : Nat} {xs : List PyData}, (env.set i (SV.own es))[j]? = some (SV.own xs) → ∃ zs, env[j]? = some (SV.own zs) := fun {j xs} q => by
      by_cases z : j = i
      · subst z
        exact ⟨ds, h⟩
      · rw [List.getElem?_set_ne (Ne.symm z)] at q
        exact ⟨xs, q⟩
    obtain ⟨z1, w1⟩ := own_at q1
    obtain ⟨z2, w2⟩ := own_at q2
    exact R.inj j l z1 z2 w1 w2 q3
  · have hj : env[j]? = some (SV.own1 xs rs) := by
      by_cases z : j = i
      · subst z
        rw [List.getElem?_set_self hi] at q1
        cases q1
      · rwa [List.getElem?_set_ne (Ne.symm z)] at q1
    obtain ⟨zs, hl⟩ : ∃ zs, env[l]? = some (SV.own zs) := by
      by_cases z : l = i
      · subst z
        exact ⟨ds, h⟩
      · rw [List.getElem?_set_ne (Ne.symm z)] at q2
        exact ⟨ys, q2⟩
    refine (R.inj1 j l xs rs zs hj hl).to fun t2 a2 us2 e2 h2 => ?_
    obtain ⟨t, b, us', ws, e, j1, _⟩ := R.slot j _ hj
    obtain ⟨d1, _⟩ := R.inj1 j i xs rs ds hj h t b ws a e j1 ha
    rw [e2] at e
    injection e with e
    injection e with e
    injection e with e
    subst e
    rw [upd_ne (Ne.symm d1)] at h2
    exact h2
def sApp {S : Type} (i : Nat) (m : M S PyData) : SM S := fun s env => match env[i]? with
  | some (SV.own ds) => (m s env).bind fun p => if ds.length < 1000000 then some (.nx, p.2, env.set i (.own (ds ++ [p.1]))) else none
  | _ => none
theorem app_run {i : Nat} (h : tS c (sApp i m) D σ H) : tDrop (tBM K "list" rAppend (tVar i) (tCons (tE c m) tNil)) D σ H := by
  obtain ⟨G, F, env, s, fl, s', env', R, hm, k⟩ := h
  unfold sApp at hm
  split at hm
  · rename_i ds hi
    obtain ⟨⟨y, s1⟩, h1, hm⟩ := some_bind hm
    obtain ⟨a, vs, e, k1, k2, k3, k4, k5⟩ := R.slot i _ hi
    simp only at hm
    split at hm
    · rename_i hl
      injection hm with e0
      injection e0 with e1 e0
      injection e0 with e2 e3
      subst e1 e2 e3
      refine ⟨.ref a, e, .inl ⟨rfl, vs, .inl (.inl k1)⟩, G, F, env, s, y, s1, R, h1, fun v H1 G1 F1 R1 M1 D1 => ?_⟩
      have q1 := M1.h a _ k4 k1
      refine ⟨a, vs, v, rfl, rfl, q1, ?_, ?_⟩
      · rw [k2.length]
        exact Nat.lt_trans hl (by decide)
      · exact k _ _ G1 F1 (R1.chg hi e ((k2.ex M1.g).append (.cons D1 .nil))) M1.g
    · cases hm
  · cases hm
theorem s_app {i : Nat} (h : PS X (.Expr e pos) (tDrop (tBM K "list" rAppend (tVar i) (tCons (tE c m) tNil)))) : PS X (.Expr e pos) (tS c (sApp i m)) := h.imp fun _ _ _ h => app_run h
/-- xs[k] = e, xs one's own -/
def sPut {S : Type} (i : Nat) (mk m : M S PyData) : SM S := fun s env => (m s env).bind fun p => match env[i]? with
  | some (SV.own ds) => (mk p.2 env).bind fun q => match q.1 with
    | .int k => (ixN ds.length k).map fun j => (.nx, q.2, env.set i (.own (ds.set j p.1)))
    | _ => none
  | _ => none
theorem put_run {i : Nat} {mk : M S PyData} (h : tS c (sPut i mk m) D σ H) : tAsg (tE c m) (gSub (tVar i) (tB c mk) rSetL) D σ H := by
  obtain ⟨G, F, env, s, fl, s', env', R, hm, k⟩ := h
  obtain ⟨⟨y, s1⟩, h1, hm⟩ := some_bind hm
  simp only at hm
  split at hm
  · rename_i ds hi
    obtain ⟨⟨z, s2⟩, h2, hm⟩ := some_bind hm
    cases z with
    | int n =>
      obtain ⟨j, h3, e0⟩ := some_map hm
      injection e0 with e1 e0
      injection e0 with e2 e3
      subst e1 e2 e3
      refine ⟨G, F, env, s, y, s1, R, h1, fun v H1 G1 F1 R1 M1 D1 => ?_⟩
      obtain ⟨a, vs, e, k1, k2, k3, k4, k5⟩ := R1.slot i _ hi
      refine ⟨.ref a, e, G1, F1, env, s1, _, s2, R1, h2, fun u H2 G2 F2 R2 M2 D2 => ?_⟩
      have hu := D2.int
      subst hu
      refine ⟨a, vs, n, j, rfl, rfl, M2.h a _ k4 k1, by rw [k2.length]; exact h3, ?_⟩
      exact k _ _ G2 F2 (R2.chg hi e ((k2.ex M2.g).set j (D1.ex M2.g))) (M1.g.trans M2.g)
    | _ => cases hm
  · cases hm
theorem s_put {i : Nat} {mk : M S PyData} (h : PS X (.Assign [tg] e pos) (tAsg (tE c m) (gSub (tVar i) (tB c mk) rSetL))) : PS X (.Assign [tg] e pos) (tS c (sPut i mk m)) := h.imp fun _ _ _ h => put_run h
end

/-! ### the pot: a list that is handed from def to def -/
section
variable {K : PySem.W.Frag} {X : Cx} {c : Ctx K (List PyData)} {e e2 tg a b : Expr} {pos : Pos} {m mk : M (List PyData) PyData} {σ : L2.St} {H : Hp}
abbrev IsPot (K : PySem.W.Frag) (R : Rgn K (List PyData)) : Prop := ∃ P, R = potR K P
theorem pot_at {P : Addr} {G : Hp} {F : Addr → Prop} {s : List PyData} {R : Rgn K (List PyData)} (hR : IsPot K R) (h : R.rel s F G H) : (∀ a, F a ↔ a = R.P) ∧ ∃ vs, H R.P = some (.lst vs) ∧ DpAll K G vs s := by
  obtain ⟨P, rfl⟩ := hR
  exact h
theorem pot_mk {G : Hp} {F : Addr → Prop} {s : List PyData} {R : Rgn K (List PyData)} (hR : IsPot K R) (h : (∀ a, F a ↔ a = R.P) ∧ ∃ vs, H R.P = some (.lst vs) ∧ DpAll K G vs s) : R.rel s F G H := by
  obtain ⟨P, rfl⟩ := hR
  exact h
def eReg (i : Nat) (mk : M (List PyData) PyData) : M (List PyData) PyData := fun s env => match env[i]? with
  | some SV.reg => (mk s env).bind fun p => match p.1 with
    | .int k => (atI p.2 k).map fun d => (d, p.2)
    | _ => none
  | _ => none
theorem x_reg {i : Nat} (hR : IsPot K c.R) (hr : IxR X (rIxL K)) (ha : PE X a (tVar i)) (hb : PE X b (tB c mk)) (hs : PlainIx b) : PE X (.Subscript a b pos) (tE c (eReg i mk)) := (pe_ix hr ha hb hs).imp fun σ H Q ⟨G, F, env, s, r, s', R, hm, k⟩ => by
  unfold eReg at hm
  split at hm
  · rename_i hi
    obtain ⟨⟨y, s1⟩, h1, hm⟩ := some_bind hm
    cases y with
    | int n =>
      obtain ⟨d, h2, e0⟩ := some_map hm
      injection e0 with e1 e2
      subst e1 e2
      refine ⟨_, R.slot i _ hi, G, F, env, s, _, s1, R, h1, fun u H1 G1 F1 R1 M1 D1 => ?_⟩
      have hu := D1.int
      subst hu
      obtain ⟨_, vs, q1, q2⟩ := pot_at (P := 0) hR R1.rg.rel
      obtain ⟨v, q3, q4⟩ := atI_dp q2 h2
      exact ⟨_, vs, n, v, rfl, rfl, .inl (.inl q1), q3, k v H1 G1 F1 R1 M1 q4⟩
    | _ => cases hm
  · cases hm
def gReg (i : Nat) (mk : M (List PyData) PyData) : GF (List PyData) := fun d s env => match env[i]? with
  | some SV.reg => (mk s env).bind fun p => match p.1 with
    | .int k => (ixN p.2.length k).map fun j => (p.2.set j d, env)
    | _ => none
  | _ => none
theorem g_reg {i : Nat} (hR : IsPot K c.R) (h : PG X tg (gSub (tVar i) (tB c mk) rSetL)) : PG X tg (tG c (gReg i mk) []) := h.imp fun v σ H Q ⟨G, F, env, s, d, s', env', R, D, hf, k⟩ => by
  unfold gReg at hf
  split at hf
  · rename_i hi
    obtain ⟨⟨y, s1⟩, h1, hm⟩ := some_bind hf
    cases y with
    | int n =>
      obtain ⟨j, h2, e0⟩ := some_map hm
      injection e0 with e1 e2
      subst e1 e2
      refine ⟨_, R.slot i _ hi, G, F, env, s, _, s1, R, h1, fun u H1 G1 F1 R1 M1 D1 => ?_⟩
      have hu := D1.int
      subst hu
      obtain ⟨q0, vs, q1, q2⟩ := pot_at (P := 0) hR R1.rg.rel
      refine ⟨_, vs, n, j, rfl, rfl, q1, by rw [q2.length]; exact h2, ?_⟩
      have hF : F1 c.R.P := (q0 _).mpr rfl
      have gP := R1.rg.sep _ hF
      have neP : ∀ b, ¬ F1 b → b ≠ c.R.P := fun b hb z => hb ((q0 b).mpr z)
      have m2 : Mv G1 F1 H1 G1 F1 (upd H1 c.R.P (.lst (vs.set j v))) := ⟨Ex.refl _, fun b o hb q => by rw [upd_ne (neP b hb)]; exact q, fun b o q => by
        by_cases z : b = c.R.P
        · exact ⟨_, by rw [z]; exact upd_same⟩
        · exact ⟨o, by rw [upd_ne z]; exact q⟩, fun b o q => .inl q, fun b q => .inl q⟩
      have r2 : RgOk c.R G1 F1 (upd H1 c.R.P (.lst (vs.set j v))) (s1.set j d) := ⟨R1.ex.mut gP, R1.rg.sep, fun b hb => ⟨.lst (vs.set j v), by rw [(q0 b).mp hb]; exact upd_same⟩, pot_mk hR ⟨q0, _, upd_same, q2.set j (D.ex M1.g)⟩⟩
      exact k σ _ G1 F1 (R1.to m2 r2) (M1.trans m2) fun _ _ => rfl
    | _ => cases hm
  · cases hf
end

/-! ### a def keeps its promise -/
section
variable {K : PySem.W.Frag} {P : Program} {w : World} {mg : Str → Option Value} {base : Heap}
theorem start_len (N : List Str) (vs : List V) (h : vs.length ≤ N.length) : (L2.start N vs).length = N.length := by
  unfold L2.start
  rw [List.length_append, List.length_map, List.length_replicate]
  omega
theorem start_at {N : List Str} {vs : List V} {i : Nat} {v : V} (h : vs[i]? = some v) : (L2.start N vs)[i]? = some (some v) := by
  unfold L2.start
  have hl := (List.getElem?_eq_some_iff.mp h).1
  rw [List.getElem?_append_left (by rw [List.length_map]; exact hl), List.getElem?_map, h]
  rfl
theorem env0_at {n : Nat} {ds : List PyData} {i : Nat} {sv : SV} (h : (env0 n ds)[i]? = some sv) : (∃ d, ds[i]? = some d ∧ sv = .val d) ∨ sv = .no := by
  unfold env0 at h
  by_cases hi : i < ds.length
  · rw [List.getElem?_append_left (by rw [List.length_map]; exact hi), List.getElem?_map] at h
    obtain ⟨d, h1, h2⟩ := some_map h
    exact .inl ⟨d, h1, h2.symm⟩
  · rw [List.getElem?_append_right (by rw [List.length_map]; omega)] at h
    exact .inr (List.eq_of_mem_replicate (List.mem_of_getElem? h))
theorem env0_no {n : Nat} {ds es : List PyData} {i : Nat} (h : (env0 n ds)[i]? = some (SV.own es)) : False := by
  rcases env0_at h with ⟨d, _, z⟩ | z
  · cases z
  · cases z
theorem env0_no1 {n : Nat} {ds es rs : List PyData} {i : Nat} (h : (env0 n ds)[i]? = some (SV.own1 es rs)) : False := by
  rcases env0_at h with ⟨d, _, z⟩ | z
  · cases z
  · cases z
/-- a def without a mutable thing -/
theorem fn_pure {x q : Str} {st : Stmt} {f : Addr} {fd : FuncData} {N ps : List Str} {k : Nat} {mb : SM Unit} (F : FunD K x q (defArgs st) (defBody st) (defScope st) [] [] f fd) (sc : FnScope N ps (defScope st)) (hn : ps.length ≤ N.length)
    (body : ∀ (c : Ctx K Unit) (cdv : Value) (A : Around) (outer : List Env) (s : Shared) (H : Hp) (E : XK), RoomG k (A.deeper (envOfC q (defScope st) s.heap.objs.size f cdv)) → PSs (cxOf CX0 P w K mg base N q (defScope st) f cdv A outer s H E).nox (defBody st) (tS c mb)) :
    FnG P w K mg base (k + 1) f fd ps (spP K ps.length (fnP N.length mb)) := by
  refine fn_G F sc (fun vs H Q E ⟨_, _, _, _, _, l, _⟩ => l) fun cdv A outer s H vs Q E hr h => ?_
  obtain ⟨G, ds, r, ex, hd, hl, hf, kq⟩ := h
  refine ⟨tS ⟨noR K, G, fun _ => False, H⟩ mb, (body ⟨noR K, G, fun _ => False, H⟩ cdv A outer s H E hr).nox, ?_⟩
  have hds : ds.length = ps.length := by rw [← hd.length]; exact hl
  have R0 : Rel (⟨noR K, G, fun _ => False, H⟩ : Ctx K Unit) (L2.start N vs) H G (fun _ => False) (env0 N.length ds) () := by
    refine ⟨⟨ex, fun _ z => z.elim, fun _ z => z.elim, fun _ z => z⟩, Mv.refl _ _ _, ?_, fun i sv q => ?_, fun i j es fs q => (env0_no q).elim, fun i j es rs fs q => (env0_no1 q).elim⟩
    · rw [start_len N vs (by omega)]
      unfold env0
      rw [List.length_append, List.length_map, List.length_replicate]
      omega
    · rcases env0_at q with ⟨d, h1, h2⟩ | h2
      · subst h2
        obtain ⟨v, h3, h4⟩ := hd.get h1
        exact ⟨v, start_at h3, h4⟩
      · subst h2
        trivial
  have gr : ∀ {H' G' : Hp} {F' : Addr → Prop}, RgOk (noR K) G' F' H' () → Mv G (fun _ => False) H G' F' H' → Gr G H G' H' := fun r m => ⟨m.g, fun a o q => m.h a o (fun z => z) q, r.ex, m.new⟩
  unfold fnP at hf
  cases hm : mb () (env0 N.length ds) with
  | none =>
    rw [hm] at hf
    cases hf
  | some o =>
    obtain ⟨fl, u, env'⟩ := o
    rw [hm] at hf
    refine ⟨G, _, _, (), fl, u, env', R0, hm, ?_⟩
    cases fl with
    | nx =>
      cases hf
      exact fun σ' H' G' F' R' _ => kq .non H' G' (gr R'.rg R'.mv) .non
    | rt d =>
      cases hf
      exact fun v H' G' F' r m D => kq v H' G' (gr r m) D
    | bk => cases hf
    | ct => cases hf
/-- a def that is handed a mutable thing first -/
theorem fn_reg {S : Type} {x q : Str} {st : Stmt} {f : Addr} {fd : FuncData} {N ps : List Str} {k n : Nat} {mb : SM S} {rr : Rgn K S → Prop} (F : FunD K x q (defArgs st) (defBody st) (defScope st) [] [] f fd) (sc : FnScope N ps (defScope st)) (hn : ps.length ≤ N.length) (hp : ps.length = n + 1)
    (body : ∀ (c : Ctx K S) (cdv : Value) (A : Around) (outer : List Env) (s : Shared) (H : Hp) (E : XK), rr c.R → RoomG k (A.deeper (envOfC q (defScope st) s.heap.objs.size f cdv)) → PSs (cxOf CX0 P w K mg base N q (defScope st) f cdv A outer s H E).nox (defBody st) (tS c mb)) :
    FnG P w K mg base (k + 1) f fd ps (spR K rr n (fnR (N.length - 1) mb)) := by
  refine fn_G F sc (fun vs H Q E ⟨_, _, _, _, us, _, _, _, _, _, e, l, _⟩ => by rw [e, List.length_cons, l, hp]) fun cdv A outer s H vs Q E hr h => ?_
  obtain ⟨R, G, Fp, s0, us, ds, r, s', hrr, rg, ev, hl, hd, hf, kq⟩ := h
  refine ⟨tS ⟨R, G, Fp, H⟩ mb, (body ⟨R, G, Fp, H⟩ cdv A outer s H E hrr hr).nox, ?_⟩
  have hds : ds.length = n := by rw [← hd.length]; exact hl
  have hvl : vs.length = ps.length := by rw [ev, List.length_cons, hl, hp]
  have R0 : Rel (⟨R, G, Fp, H⟩ : Ctx K S) (L2.start N vs) H G Fp (envR (N.length - 1) ds) s0 := by
    refine ⟨rg, Mv.refl _ _ _, ?_, fun i sv q => ?_, fun i j es fs q => ?_, fun i j es rs fs q => ?_⟩
    · rw [start_len N vs (by omega)]
      unfold envR
      rw [List.length_cons, List.length_append, List.length_map, List.length_replicate]
      omega
    · cases i with
      | zero =>
        cases q
        show _ = some (some (V.ref R.P))
        exact start_at (by rw [ev]; rfl)
      | succ i =>
        rcases env0_at (n := N.length - 1) (ds := ds) (i := i) (sv := sv) q with ⟨d, h1, h2⟩ | h2
        · subst h2
          obtain ⟨v, h3, h4⟩ := hd.get h1
          exact ⟨v, start_at (by rw [ev]; exact h3), h4⟩
        · subst h2
          trivial
    · cases i with
      | zero => cases q
      | succ i => exact (env0_no (n := N.length - 1) (ds := ds) (i := i) q).elim
    · cases i with
      | zero => cases q
      | succ i => exact (env0_no1 (n := N.length - 1) (ds := ds) (i := i) q).elim
  unfold fnR at hf
  cases hm : mb s0 (envR (N.length - 1) ds) with
  | none =>
    rw [hm] at hf
    cases hf
  | some o =>
    obtain ⟨fl, u, env'⟩ := o
    rw [hm] at hf
    refine ⟨G, _, _, s0, fl, u, env', R0, hm, ?_⟩
    cases fl with
    | nx =>
      cases hf
      exact fun σ' H' G' F' R' _ => kq .non H' G' F' R'.rg R'.mv .non
    | rt d =>
      cases hf
      exact fun v H' G' F' r m D => kq v H' G' F' r m D
    | bk => cases hf
    | ct => cases hf
/-- how keywords bind where all are written -/
theorem kbn_of {x q : Str} {params : Arguments} {body : List Stmt} {scope : Scope} {f : Addr} {fd : FuncData} {ps ks : List Str} {ix : List Nat} (F : FunD K x q params body scope [] [] f fd)
    (h : ∀ (kV doc pm : Value) (an : Option Addr) (cdv ct : Value) (ws : List Value), ws.length = ks.length → bindArgs (PySem.W.fnOf x q params body scope .none kV doc pm an cdv ct) ⟨[], ks.zip ws⟩ = pure (ps.zip (reorder ix ws))) :
    KBn K fd ps 0 ks (fun _ ws => reorder ix ws) (fun _ zs => reorder ix zs) := by
  obtain ⟨oc, od, dV, kV, doc, pm, an, cdv, ct, osl, rfl, lk, hcd, hD, hK⟩ := F.ex
  rcases hD with ⟨_, rfl⟩ | ⟨e, _⟩
  · exact ⟨fun s us ws _ l1 l2 => by
      have e : us = [] := List.length_eq_zero_iff.mp l1
      subst e
      exact .of_eq (h kV doc pm an cdv ct ws l2), fun _ r => reorder_vals r ix⟩
  · exact absurd rfl e
end
end Dv

namespace Dv
open PySem PySem.Spec PyProof.Rows L2
/-! ### operators and built-ins, by data -/
def lim : Nat := 16777216
theorem lim_ok {n : Nat} (h : n ≤ lim) : n ≤ sizeLine := by rw [sizeLine_eq]; exact h
section
variable {K : PySem.W.Frag} {X : Cx}
/-! #### + -/
def rCatL : R2 := fun x y H Q => ∃ l b xs zs, x = .ref l ∧ y = .ref b ∧ Rd H l (.lst xs) ∧ Rd H b (.lst zs) ∧ xs.length + zs.length ≤ sizeLine ∧ ∀ p, H p = none → Q (.ref p) (upd H p (.lst (xs ++ zs)))
theorem op_catL : OpR X (binaryOp .Add) rCatL := by
  intro pins s σ H x y v u Q I rx ry h
  obtain ⟨l, b, xs, zs, rfl, rfl, hH, hB, hz, q⟩ := h
  cases rx
  cases ry
  obtain ⟨z, its, n, r, e⟩ := hH.ok I.hok
  obtain ⟨z2, its2, n2, r2, e2⟩ := hB.ok I.hok
  have hl := r.length
  have hl2 := r2.length
  refine PySem.P.add_list e e2 ?_ (by rw [List.size_toArray, List.size_toArray]; omega)
  rw [show its.toArray ++ its2.toArray = (its ++ its2).toArray by simp]
  exact ⟨.ref _, _, I.lnew (t' := s.toks) (r.append r2) (by rw [List.length_append]; omega), rfl, q _ I.fresh⟩
def rAddA (K : PySem.W.Frag) : R2 := fun x y H Q => (rI0 fun i j => .int (i + j)) x y H Q ∨ rCatL x y H Q ∨ rCatA K x y H Q ∨ (∃ i j, x = .str i ∧ y = .str j ∧ i.length + j.length ≤ sizeLine ∧ Q (.str (i ++ j)) H)
theorem op_addA : OpR X (binaryOp .Add) (rAddA X.K) := op_add.or (op_catL.or (op_catA.or op_add_str))
def dAdd : PyData → PyData → Option PyData
  | .int i, .int j => some (.int (i + j))
  | .list xs, .list ys => if xs.length + ys.length ≤ lim then some (.list (xs ++ ys)) else none
  | .tuple xs, .tuple ys => if xs.length + ys.length ≤ lim then some (.tuple (xs ++ ys)) else none
  | .str x, .str y => if x.length + y.length ≤ lim then some (.str (x ++ y)) else none
  | _, _ => none
def dCat : PyData → PyData → Option (List PyData)
  | .list xs, .list ys => if xs.length + ys.length ≤ lim then some (xs ++ ys) else none
  | _, _ => none
theorem Dq.tup {G : Hp} {F : Addr → Prop} {H : Hp} {v : V} {ds : List PyData} (h : Dq K G F H v (.tuple ds)) : Dp K G v (.tuple ds) := by
  rcases h with h | ⟨_, _, _, _, z, _⟩
  · exact h
  · cases z
theorem d2_add : D2 K (rAddA K) dAdd := by
  intro G F H x y d e z Q ex hx hy hf k
  cases d with
  | int i =>
    cases e with
    | int j =>
      cases hf
      exact .inl ⟨i, j, hx.int, hy.int, k _ H G (Gr.refl ex) (.int _)⟩
    | _ => cases hf
  | list xs =>
    cases e with
    | list ys =>
      simp only [dAdd] at hf
      split at hf
      · rename_i hl
        cases hf
        obtain ⟨a, vs, rfl, hs, ha⟩ := hx.list ex
        obtain ⟨b, us, rfl, ht, hb⟩ := hy.list ex
        refine .inr (.inl ⟨a, b, vs, us, rfl, rfl, hs, ht, by rw [ha.length, hb.length]; exact lim_ok hl, fun p hp => ?_⟩)
        have g := Gr.laid ex hp (o := .lst (vs ++ us))
        exact k _ _ _ g (.lst (.inl upd_same) ((ha.append hb).ex g.g))
      · cases hf
    | _ => cases hf
  | tuple xs =>
    cases e with
    | tuple ys =>
      simp only [dAdd] at hf
      split at hf
      · rename_i hl
        cases hf
        have hx' := hx.tup
        have hy' := hy.tup
        obtain ⟨a, vs, rfl, hs, ha⟩ := hx.tuple ex
        obtain ⟨b, us, rfl, ht, hb⟩ := hy.tuple ex
        refine .inr (.inr (.inl ⟨a, b, vs, us, rfl, rfl, hs, ht, by rw [ha.length, hb.length]; exact lim_ok hl, fun e0 => ?_, fun _ e0 => ?_, fun _ _ p hp => ?_⟩))
        · subst e0
          cases ha
          exact k _ H G (Gr.refl ex) hy'
        · subst e0
          cases hb
          rw [List.append_nil] at k
          exact k _ H G (Gr.refl ex) hx'
        · have g := Gr.laid ex hp (o := .tup (vs ++ us))
          exact k _ _ _ g (.tup (.inl (.inl upd_same)) ((ha.append hb).ex g.g))
      · cases hf
    | _ => cases hf
  | str s =>
    cases e with
    | str t =>
      simp only [dAdd] at hf
      split at hf
      · rename_i hl
        cases hf
        exact .inr (.inr (.inr ⟨s, t, hx.str, hy.str, lim_ok hl, k _ H G (Gr.refl ex) (.str _)⟩))
      · cases hf
    | _ => cases hf
  | _ => cases hf
theorem d2_cat : D2o K (rAddA K) dCat := by
  intro G F H x y d e z Q ex hx hy hf k
  cases d with
  | list xs =>
    cases e with
    | list ys =>
      simp only [dCat] at hf
      split at hf
      · rename_i hl
        cases hf
        obtain ⟨a, vs, rfl, hs, ha⟩ := hx.list ex
        obtain ⟨b, us, rfl, ht, hb⟩ := hy.list ex
        exact .inr (.inl ⟨a, b, vs, us, rfl, rfl, hs, ht, by rw [ha.length, hb.length]; exact lim_ok hl, fun p hp => k p _ hp (ha.append hb)⟩)
      · cases hf
    | _ => cases hf
  | _ => cases hf
/-! #### -, *, //, %, ** of ints -/
def dSub : PyData → PyData → Option PyData
  | .int i, .int j => some (.int (i - j))
  | _, _ => none
def mulOk (i j : Int) : Bool := decide (i.natAbs.log2 + j.natAbs.log2 < 1000000)
def repS (k : Nat) (x : Str) : Str := ⟨(List.replicate k x.cps).foldl (· ++ ·) #[]⟩
def dMul : PyData → PyData → Option PyData
  | .int i, .int j => if mulOk i j then some (.int (i * j)) else none
  | .list xs, .int k => if xs.length * k.toNat ≤ 1000000 ∧ k ≤ 1000000 ∧ -1000000 ≤ k then some (.list (List.replicate k.toNat xs).flatten) else none
  | .tuple xs, .int k => if xs ≠ [] ∧ 1 ≤ k ∧ k ≤ 1000 ∧ xs.length ≤ 1000 then some (.tuple (List.replicate k.toNat xs).flatten) else none
  | .str x, .int k => if x.length ≠ 0 ∧ 1 ≤ k ∧ k ≤ 1000 ∧ x.length ≤ 1000 then some (.str (repS k.toNat x)) else none
  | _, _ => none
def dDiv : PyData → PyData → Option PyData
  | .int i, .int j => if 0 < j ∧ j.natAbs.log2 < 9000 then some (.int (i / j)) else none
  | _, _ => none
def dMod : PyData → PyData → Option PyData
  | .int i, .int j => if 0 < j then some (.int (i % j)) else none
  | _, _ => none
def dPow : PyData → PyData → Option PyData
  | .int i, .int j => if 0 ≤ j ∧ j ≤ 1000 ∧ i.natAbs < 1000000 then some (.int (i ^ j.toNat)) else none
  | _, _ => none
theorem d2_sub : D2 K (rI0 fun i j => .int (i - j)) dSub := by
  intro G F H x y d e z Q ex hx hy hf k
  cases d with
  | int i =>
    cases e with
    | int j =>
      cases hf
      exact ⟨i, j, hx.int, hy.int, k _ H G (Gr.refl ex) (.int _)⟩
    | _ => cases hf
  | _ => cases hf
def rRepL : R2 := fun x y H Q => ∃ l k xs, x = .ref l ∧ y = .int k ∧ Rd H l (.lst xs) ∧ -(2 ^ 63) ≤ k ∧ k < 2 ^ 63 ∧ xs.length * k.toNat ≤ sizeLine ∧
  ∀ p, H p = none → Q (.ref p) (upd H p (.lst (List.replicate k.toNat xs).flatten))
theorem op_repL : OpR X (binaryOp .Mult) rRepL := by
  intro pins s σ H x y v u Q I rx ry h
  obtain ⟨l, k, xs, rfl, rfl, hH, h1, h2, hz, q⟩ := h
  cases rx
  obtain ⟨t, rfl⟩ := ry
  obtain ⟨z, its, n, r, e⟩ := hH.ok I.hok
  have hl := r.length
  have hlen : its.toArray.size * k.toNat ≤ sizeLine := by rw [List.size_toArray, ← hl]; exact hz
  have hcap : ¬ its.toArray.size * k.toNat > (2 ^ 63 - 1) / 8 := by
    have : (sizeLine : Nat) ≤ (2 ^ 63 - 1) / 8 := by decide
    omega
  have hfit : ¬ (!Builtin.List.listFitsIndex k) = true := by
    rw [fitsIndex_both h1 h2]
    exact Bool.false_ne_true
  have hlong : ¬ Builtin.List.listTooLong (its.toArray.size * k.toNat) = true := by
    rw [notLongL hlen]
    exact Bool.false_ne_true
  have f0 : ∀ m : Nat, List.foldl (fun x1 x2 => x1 ++ x2) #[] (List.replicate m its.toArray) = (List.replicate m its).flatten.toArray := fun m => by
    have := foldl_rep its m []
    rw [List.nil_append] at this
    exact this
  have hnew : List.foldl (fun x1 x2 => x1 ++ x2) #[] (List.replicate (if its.toArray.isEmpty = true then 0 else k.toNat) its.toArray) = (List.replicate k.toNat its).flatten.toArray := by
    rw [f0]
    cases its with
    | nil => simp
    | cons a r' => rw [if_neg (by simp)]
  refine wpAny_binaryOp_repeat_ref (T := "list") (U := "int") (by decide) ⟨_, e, rfl⟩ (fun s' => typeIs_int s' k t) noFill_list_mul F.fills_int_mul F.slot_int_rmul repeat_list F.slot_int_index.lookup
    (call_meets F.slot_int_rmul (typeIs_int s k t) F.entry_int_rmul (F.args_int_rmul_2 _ _) (int___rmul___int_list k t l its.toArray n)
      ⟨e, rfl, ⟨_, e, rfl⟩, call_meets F.slot_list_mul ⟨_, e, rfl⟩ F.entry_list_mul (F.args_list_mul_2 _ _) (AutoListH.list___mul___list_int_3 l its.toArray n k t hfit hcap hlong) ⟨e, ?_⟩⟩)
  rw [hnew]
  exact ⟨.ref _, _, I.lnew (t' := s.toks) (r.rep k.toNat) (by rw [PyProof.Rows.lm_len_rep_flat, Nat.mul_comm]; exact hz), rfl, q _ I.fresh⟩
theorem tuple_mul1 (l : Addr) (items : Array Value) (n : Nat) (dd : Option Addr) (sl : Array (Option Value)) (u : Tok) :
    Meets (Builtin.«tuple.__mul__» ⟨[.ref l, .int 1 u], []⟩) (fun _ R s => s.heap.get? l = some { cls := .type "tuple", dict := dd, data := .seq items n, slots := sl } ∧ R (.ok (.ret (Value.ref l))) s) :=
  .of_wp fun prog w A R s h => by
    obtain ⟨hp, g, d, tk, os⟩ := s
    obtain ⟨hl, h⟩ := h
    have f1 := AutoSeq1.idx_int
    wp_walk using wpAny_loadPart' hl
    have c1 : (items.isEmpty || (1 : Int) == 1) = true := by
      rw [Bool.or_eq_true]
      exact .inr rfl
    repeat (first
      | (refine wpAny_ite_true (decide_eq_true c1) ?_; wp_walk using wpAny_loadPart' hl)
      | (refine wpAny_ite_true c1 ?_; wp_walk using wpAny_loadPart' hl)
      | (refine wpAny_ite_false (by decide) ?_; wp_walk using wpAny_loadPart' hl))
    exact ⟨_, rfl, h⟩
def rRepT1 (K : PySem.W.Frag) : R2 := fun x y H Q => ∃ l xs, x = .ref l ∧ y = .int 1 ∧ SqT K H l xs ∧ Q (.ref l) H
theorem op_repT1 : OpR X (binaryOp .Mult) (rRepT1 X.K) := by
  intro pins s σ H x y v u Q I rx ry h
  obtain ⟨l, xs, rfl, rfl, hT, q⟩ := h
  cases rx
  obtain ⟨t, rfl⟩ := ry
  obtain ⟨its, r, ⟨⟨cls, dd, data, sl⟩, ho, hc, n, hd⟩, hs⟩ := I.tuple hT
  simp only at hc hd
  subst hc hd
  refine wpAny_binaryOp_repeat_ref (T := "tuple") (U := "int") (by decide) ⟨_, ho, rfl⟩ (fun s' => typeIs_int s' 1 t) noFill_tuple_mul F.fills_int_mul F.slot_int_rmul repeat_tuple F.slot_int_index.lookup
    (call_meets F.slot_int_rmul (typeIs_int s 1 t) F.entry_int_rmul (F.args_int_rmul_2 _ _) (int_rmul_tuple 1 t l its.toArray n dd sl)
      ⟨ho, rfl, ⟨_, ho, rfl⟩, call_meets F.slot_tuple_mul ⟨_, ho, rfl⟩ F.entry_tuple_mul (F.args_tuple_mul_2 _ _) (tuple_mul1 l its.toArray n dd sl t) ⟨ho, ?_⟩⟩)
  exact ⟨.ref l, _, I, rfl, q⟩
def rRepS : R2 := fun x y H Q => ∃ (z : Str) (k : Int), x = .str z ∧ y = .int k ∧ z.length ≠ 0 ∧ 1 ≤ k ∧ k ≤ 1000 ∧ z.length ≤ 1000 ∧ Q (.str (repS k.toNat z)) H
theorem rep_len (z : Array Nat) : ∀ (k : Nat) (acc : Array Nat), ((List.replicate k z).foldl (· ++ ·) acc).size = acc.size + k * z.size
  | 0, acc => by simp
  | k + 1, acc => by
    rw [List.replicate_succ, List.foldl_cons, rep_len z k, Array.size_append, Nat.succ_mul]
    omega
theorem op_repS : OpR X (binaryOp .Mult) rRepS := by
  intro pins s σ H x y v u Q I rx ry h
  obtain ⟨z, k, rfl, rfl, h0, h1, h2, h3, q⟩ := h
  obtain ⟨t, rfl⟩ := rx
  obtain ⟨t2, rfl⟩ := ry
  have hm : z.length * k.toNat ≤ 1000 * 1000 := Nat.mul_le_mul h3 (by omega)
  refine PySem.P.mul_str (by rw [decide_eq_false (by omega), decide_eq_false (by omega)] <;> rfl) (fun _ _ => ?_) (fun _ _ => ?_) ?_
  · have : (1000 : Int) ≤ (2 ^ 63 - 1) / k := by
      rw [Int.le_ediv_iff_mul_le (by omega)]
      omega
    omega
  · unfold Builtin.Str.tooLong
    rw [sizeLine_eq]
    exact decide_eq_false (by omega)
  · rw [if_neg (by omega)]
    by_cases c : k = 1
    · subst c
      rw [if_pos (by simp)]
      refine ⟨.str _, H, I, ⟨t, ?_⟩, q⟩
      have : repS (1 : Int).toNat z = z := by
        show (⟨#[] ++ z.cps⟩ : Str) = z
        rw [Array.empty_append]
      rw [this]
    · rw [if_neg (by simp [c]; exact h0)]
      refine ⟨?_, ⟨.str _, H, I.tok _, ⟨_, rfl⟩, q⟩⟩
      show ((List.replicate k.toNat z.cps).foldl (· ++ ·) #[]).size ≤ sizeLine
      rw [rep_len, sizeLine_eq]
      have : z.cps.size = z.length := rfl
      rw [this, Nat.mul_comm]
      simp
      omega
def rMulA (K : PySem.W.Frag) : R2 := fun x y H Q => ((rI CMulW fun i j => .int (i * j)) x y H Q ∨ rRepL x y H Q) ∨ ((rRepT K x y H Q ∨ rRepT1 K x y H Q) ∨ rRepS x y H Q)
theorem op_mulA : OpR X (binaryOp .Mult) (rMulA X.K) := (op_mulW.or op_repL).or ((op_repT.or op_repT1).or op_repS)
theorem d2_mul : D2 K (rMulA K) dMul := by
  intro G F H x y d e z Q ex hx hy hf k
  cases d with
  | int i =>
    cases e with
    | int j =>
      simp only [dMul] at hf
      split at hf
      · rename_i hm
        cases hf
        exact .inl (.inl ⟨i, j, hx.int, hy.int, (show i.natAbs.log2 + j.natAbs.log2 < 1000000 from of_decide_eq_true (by unfold mulOk at hm; exact hm)), k _ H G (Gr.refl ex) (.int _)⟩)
      · cases hf
    | _ => cases hf
  | str s =>
    cases e with
    | int j =>
      simp only [dMul] at hf
      split at hf
      · rename_i hm
        cases hf
        exact .inr (.inr ⟨s, j, hx.str, hy.int, hm.1, hm.2.1, hm.2.2.1, hm.2.2.2, k _ H G (Gr.refl ex) (.str _)⟩)
      · cases hf
    | _ => cases hf
  | tuple xs =>
    cases e with
    | int j =>
      simp only [dMul] at hf
      split at hf
      · rename_i hm
        obtain ⟨h1, h2, h3, h4⟩ := hm
        cases hf
        obtain ⟨a, vs, rfl, hs, ha⟩ := hx.tuple ex
        by_cases c : j = 1
        · subst c
          have D : Dp K G (.ref a) (.tuple xs) := by
            rcases hx with z | ⟨_, _, _, _, z, _⟩
            · exact z
            · cases z
          refine .inr (.inl (.inr ⟨a, vs, rfl, hy.int, hs, k _ H G (Gr.refl ex) ?_⟩))
          have : (List.replicate (1 : Int).toNat xs).flatten = xs := by simp
          rw [this]
          exact D
        · have hne : vs ≠ [] := fun z => h1 (List.eq_nil_of_length_eq_zero (by rw [← ha.length, z]; rfl))
          refine .inr (.inl (.inl ⟨a, j, vs, rfl, hy.int, hs, hne, by omega, h3, by rw [ha.length]; exact h4, fun p hp => ?_⟩))
          have g := Gr.laid ex hp (o := .tup (List.replicate j.toNat vs).flatten)
          exact k _ _ _ g (.tup (.inl (.inl upd_same)) ((ha.rep _).ex g.g))
      · cases hf
    | _ => cases hf
  | list xs =>
    cases e with
    | int j =>
      simp only [dMul] at hf
      split at hf
      · rename_i hm
        cases hf
        obtain ⟨a, vs, rfl, hs, ha⟩ := hx.list ex
        refine .inl (.inr ⟨a, j, vs, rfl, hy.int, hs, by omega, by omega, ?_, fun p hp => ?_⟩)
        · rw [ha.length, sizeLine_eq]
          omega
        · have g := Gr.laid ex hp (o := .lst (List.replicate j.toNat vs).flatten)
          exact k _ _ _ g (.lst (.inl upd_same) ((ha.rep _).ex g.g))
      · cases hf
    | _ => cases hf
  | _ => cases hf
theorem d2_div : D2 K (rI CDivW fun i j => .int (i / j)) dDiv := by
  intro G F H x y d e z Q ex hx hy hf k
  cases d with
  | int i =>
    cases e with
    | int j =>
      simp only [dDiv] at hf
      split at hf
      · rename_i hm
        cases hf
        exact ⟨i, j, hx.int, hy.int, hm, k _ H G (Gr.refl ex) (.int _)⟩
      · cases hf
    | _ => cases hf
  | _ => cases hf
theorem d2_mod : D2 K (rI (fun _ j => 0 < j) fun i j => .int (i % j)) dMod := by
  intro G F H x y d e z Q ex hx hy hf k
  cases d with
  | int i =>
    cases e with
    | int j =>
      simp only [dMod] at hf
      split at hf
      · rename_i hm
        cases hf
        exact ⟨i, j, hx.int, hy.int, hm, k _ H G (Gr.refl ex) (.int _)⟩
      · cases hf
    | _ => cases hf
  | _ => cases hf
theorem d2_pow : D2 K (rI CPow fun i j => .int (i ^ j.toNat)) dPow := by
  intro G F H x y d e z Q ex hx hy hf k
  cases d with
  | int i =>
    cases e with
    | int j =>
      simp only [dPow] at hf
      split at hf
      · rename_i hm
        cases hf
        exact ⟨i, j, hx.int, hy.int, ⟨hm.1, by omega, Nat.lt_trans hm.2.2 (by decide)⟩, k _ H G (Gr.refl ex) (.int _)⟩
      · cases hf
    | _ => cases hf
  | _ => cases hf
/-- -x -/
def dNeg : PyData → Option PyData
  | .int i => some (.int (-i))
  | _ => none
theorem x_neg {S : Type} {c : Ctx K S} {e : Expr} {pos : Pos} {m : M S PyData} (h : PE X e (tB c m)) : PE X (.UnaryOp .USub e pos) (tE c (e1 dNeg m)) := (pe_un un_neg h).imp fun σ H Q ⟨G, F, env, s, r, s', R, hm, k⟩ => by
  obtain ⟨⟨y, s1⟩, h1, hm⟩ := some_bind hm
  obtain ⟨z, hz, e0⟩ := some_map hm
  injection e0 with e1 e2
  subst e1 e2
  refine ⟨G, F, env, s, y, s1, R, h1, fun v H1 G1 F1 R1 M1 D1 => ?_⟩
  cases y with
  | int i =>
    cases hz
    exact ⟨i, D1.int, k _ H1 G1 F1 R1 M1 (.int _)⟩
  | _ => cases hz
/-! #### comparisons -/
def rCmpD (K : PySem.W.Frag) (f : PyData → PyData → Bool) : R2 := fun x y H Q => ∃ d e, L2.Dp K H x d ∧ L2.Dp K H y e ∧ SeqAt.shaped d = true ∧ SeqAt.shaped e = true ∧ Q (.bl (f d e)) H
def eqD : PyData → PyData → Option Bool
  | .int i, .int j => some (decide (i = j))
  | .str x, .str y => some (decide (x = y))
  | d, e => if SeqAt.shaped d && SeqAt.shaped e then some (PyData.eqv d e) else none
def dEq (d e : PyData) : Option PyData := (eqD d e).map .bool
def dNe (d e : PyData) : Option PyData := (eqD d e).map fun b => .bool !b
def rEqA (K : PySem.W.Frag) : R2 := fun x y H Q => rEqD K x y H Q ∨ rEq x y H Q
def rNeA (K : PySem.W.Frag) : R2 := fun x y H Q => rNeD K x y H Q ∨ rNe x y H Q
theorem op_eqA (hu : X.A.units + 64 < cLine) : OpR X (compareOp .Eq) (rEqA X.K) := (op_eqD hu).or op_eq
theorem op_neA (hu : X.A.units + 64 < cLine) : OpR X (compareOp .NotEq) (rNeA X.K) := (op_neD hu).or op_ne
theorem eqD_run {G H : Hp} {F : Addr → Prop} {x y : V} {d e : PyData} {b : Bool} (ex : Ex G H) (hx : Dq K G F H x d) (hy : Dq K G F H y e) (h : eqD d e = some b) :
    (L2.Dp K H x d ∧ L2.Dp K H y e ∧ SeqAt.shaped d = true ∧ SeqAt.shaped e = true ∧ PyData.eqv d e = b) ∨ (scal x y = true ∧ decide (x = y) = b) := by
  unfold eqD at h
  split at h
  · rename_i i j
    injection h with h
    have h1 := hx.int
    have h2 := hy.int
    subst h1 h2 h
    exact .inr ⟨rfl, by rw [Bool.eq_iff_iff]; simp⟩
  · rename_i i j
    injection h with h
    have h1 := hx.str
    have h2 := hy.str
    subst h1 h2 h
    exact .inr ⟨rfl, by rw [Bool.eq_iff_iff]; simp⟩
  · split at h
    · rename_i hs
      injection h with h
      rw [Bool.and_eq_true] at hs
      exact .inl ⟨dp_l2 _ _ (SeqAt.canLay_of_shaped hs.1) (hx.whole ex), dp_l2 _ _ (SeqAt.canLay_of_shaped hs.2) (hy.whole ex), hs.1, hs.2, h⟩
    · cases h
theorem d2_eq : D2 K (rEqA K) dEq := by
  intro G F H x y d e z Q ex hx hy hf k
  obtain ⟨b, h1, h2⟩ := some_map hf
  subst h2
  rcases eqD_run ex hx hy h1 with ⟨h3, h4, h5, h6, h7⟩ | ⟨h3, h4⟩
  · exact .inl ⟨d, e, h3, h4, h5, h6, by rw [h7]; exact k _ H G (Gr.refl ex) (.bl _)⟩
  · exact .inr ⟨h3, by rw [h4]; exact k _ H G (Gr.refl ex) (.bl _)⟩
theorem d2_ne : D2 K (rNeA K) dNe := by
  intro G F H x y d e z Q ex hx hy hf k
  obtain ⟨b, h1, h2⟩ := some_map hf
  subst h2
  rcases eqD_run ex hx hy h1 with ⟨h3, h4, h5, h6, h7⟩ | ⟨h3, h4⟩
  · exact .inl ⟨d, e, h3, h4, h5, h6, by rw [h7]; exact k _ H G (Gr.refl ex) (.bl _)⟩
  · exact .inr ⟨h3, by rw [h4]; exact k _ H G (Gr.refl ex) (.bl _)⟩
def dI2 (g : Int → Int → Bool) : PyData → PyData → Option PyData
  | .int i, .int j => some (.bool (g i j))
  | _, _ => none
theorem d2_I {g : Int → Int → Bool} : D2 K (rI0 fun i j => .bl (g i j)) (dI2 g) := by
  intro G F H x y d e z Q ex hx hy hf k
  cases d with
  | int i =>
    cases e with
    | int j =>
      cases hf
      exact ⟨i, j, hx.int, hy.int, k _ H G (Gr.refl ex) (.bl _)⟩
    | _ => cases hf
  | _ => cases hf
abbrev dLt := dI2 fun i j => decide (i < j)
abbrev dLe := dI2 fun i j => decide (i ≤ j)
abbrev dGt := dI2 fun i j => decide (j < i)
abbrev dGe := dI2 fun i j => decide (j ≤ i)
/-! x in y, y a list, a tuple -/
def rInA (K : PySem.W.Frag) : R2 := fun x y H Q => ∃ d ds, L2.Dp K H x d ∧ (L2.Dp K H y (.list ds) ∨ L2.Dp K H y (.tuple ds)) ∧ SeqAt.shaped d = true ∧ SeqAt.shaped (.list ds) = true ∧ Q (.bl (ds.any fun z => PyData.eqv z d)) H
def rNinA (K : PySem.W.Frag) : R2 := fun x y H Q => ∃ d ds, L2.Dp K H x d ∧ (L2.Dp K H y (.list ds) ∨ L2.Dp K H y (.tuple ds)) ∧ SeqAt.shaped d = true ∧ SeqAt.shaped (.list ds) = true ∧ Q (.bl (!ds.any fun z => PyData.eqv z d)) H
theorem op_inA (hu : X.A.units + 65 < cLine) : OpR X (compareOp .In) (rInA X.K) := by
  intro pins s σ H x y v u Q I rx ry h
  obtain ⟨d, ds, hd, he, sd, se, q⟩ := h
  obtain ⟨as, r1⟩ := L2.Dp.reads I d x v hd rx
  rcases he with he | he
  · obtain ⟨bs, r2⟩ := L2.Dp.reads I (.list ds) y u he ry
    exact SeqAt.in_list_reads r2 r1 (SeqAt.canLay_of_shaped se) (SeqAt.canLay_of_shaped sd) (room_in_shaped sd hu) ⟨.bl _, H, I, rfl, q⟩
  · obtain ⟨bs, r2⟩ := L2.Dp.reads I (.tuple ds) y u he ry
    exact SeqAt.in_tuple_reads r2 r1 (SeqAt.canLay_of_shaped se) (SeqAt.canLay_of_shaped sd) (room_in_shaped sd hu) ⟨.bl _, H, I, rfl, q⟩
theorem op_ninA (hu : X.A.units + 65 < cLine) : OpR X (compareOp .NotIn) (rNinA X.K) := by
  intro pins s σ H x y v u Q I rx ry h
  obtain ⟨d, ds, hd, he, sd, se, q⟩ := h
  obtain ⟨as, r1⟩ := L2.Dp.reads I d x v hd rx
  rcases he with he | he
  · obtain ⟨bs, r2⟩ := L2.Dp.reads I (.list ds) y u he ry
    exact SeqAt.notIn_list_reads r2 r1 (SeqAt.canLay_of_shaped se) (SeqAt.canLay_of_shaped sd) (room_in_shaped sd hu) ⟨.bl _, H, I, rfl, q⟩
  · obtain ⟨bs, r2⟩ := L2.Dp.reads I (.tuple ds) y u he ry
    exact SeqAt.notIn_tuple_reads r2 r1 (SeqAt.canLay_of_shaped se) (SeqAt.canLay_of_shaped sd) (room_in_shaped sd hu) ⟨.bl _, H, I, rfl, q⟩
def dInB (d e : PyData) : Option Bool := (items e).bind fun ds => if SeqAt.shaped d && SeqAt.shaped (.list ds) then some (ds.any fun z => PyData.eqv z d) else none
def dIn (d e : PyData) : Option PyData := (dInB d e).map .bool
def dNin (d e : PyData) : Option PyData := (dInB d e).map fun b => .bool !b
theorem items_dp {H : Hp} {v : V} {e : PyData} {ds : List PyData} (h : items e = some ds) (sh : SeqAt.shaped (.list ds) = true) (D : Dp K H v e) : L2.Dp K H v (.list ds) ∨ L2.Dp K H v (.tuple ds) := by
  cases e with
  | list xs =>
    cases h
    exact .inl (dp_l2 _ _ (SeqAt.canLay_of_shaped sh) D)
  | tuple xs =>
    cases h
    exact .inr (dp_l2 _ _ (by have := SeqAt.canLay_of_shaped sh; simpa [PyData.canLay0] using this) D)
  | _ => cases h
theorem d2_in : D2 K (rInA K) dIn := by
  intro G F H x y d e z Q ex hx hy hf k
  obtain ⟨b, h1, h2⟩ := some_map hf
  subst h2
  obtain ⟨ds, h3, h4⟩ := some_bind h1
  split at h4
  · rename_i hs
    rw [Bool.and_eq_true] at hs
    cases h4
    exact ⟨d, ds, dp_l2 _ _ (SeqAt.canLay_of_shaped hs.1) (hx.whole ex), items_dp h3 hs.2 (hy.whole ex), hs.1, hs.2, k _ H G (Gr.refl ex) (.bl _)⟩
  · cases h4
theorem d2_nin : D2 K (rNinA K) dNin := by
  intro G F H x y d e z Q ex hx hy hf k
  obtain ⟨b, h1, h2⟩ := some_map hf
  subst h2
  obtain ⟨ds, h3, h4⟩ := some_bind h1
  split at h4
  · rename_i hs
    rw [Bool.and_eq_true] at hs
    cases h4
    exact ⟨d, ds, dp_l2 _ _ (SeqAt.canLay_of_shaped hs.1) (hx.whole ex), items_dp h3 hs.2 (hy.whole ex), hs.1, hs.2, k _ H G (Gr.refl ex) (.bl _)⟩
  · cases h4
/-! is None, is True -/
def isNone : PyData → Bool
  | .none => true
  | _ => false
theorem dq_none {G : Hp} {F : Addr → Prop} {H : Hp} {v : V} {d : PyData} (h : Dq K G F H v d) : decide (v = .non) = isNone d := by
  rcases h with h | ⟨a, vs, ds, rfl, rfl, _⟩
  · cases h <;> rfl
  · rfl
def dIs : PyData → PyData → Option PyData
  | d, .none => some (.bool (isNone d))
  | .bool a, .bool b => some (.bool (a == b))
  | _, _ => none
def dIsn : PyData → PyData → Option PyData
  | d, .none => some (.bool (!isNone d))
  | .bool a, .bool b => some (.bool (!(a == b)))
  | _, _ => none
def rIsA : R2 := fun x y H Q => (y = .non ∧ Q (.bl (decide (x = .non))) H) ∨ rIsB x y H Q
def rIsnA : R2 := fun x y H Q => (y = .non ∧ Q (.bl (!decide (x = .non))) H) ∨ rNotB x y H Q
theorem op_isA : OpR X (compareOp .Is) rIsA := op_isN.or op_isBl
theorem op_isnA : OpR X (compareOp .IsNot) rIsnA := op_notN.or op_notBl
theorem d2_is : D2 K rIsA dIs := by
  intro G F H x y d e z Q ex hx hy hf k
  cases e with
  | none =>
    have hz : z = .bool (isNone d) := by cases d <;> (cases hf; rfl)
    subst hz
    exact .inl ⟨hy.non, by rw [dq_none hx]; exact k _ H G (Gr.refl ex) (.bl _)⟩
  | bool b =>
    cases d with
    | bool a =>
      cases hf
      refine .inr ⟨a, b, hx.bool, hy.bool, ?_⟩
      rw [← Bool.beq_eq_decide_eq]
      exact k _ H G (Gr.refl ex) (.bl _)
    | _ => cases hf
  | _ => cases d <;> cases hf
theorem d2_isn : D2 K rIsnA dIsn := by
  intro G F H x y d e z Q ex hx hy hf k
  cases e with
  | none =>
    have hz : z = .bool (!isNone d) := by cases d <;> (cases hf; rfl)
    subst hz
    exact .inl ⟨hy.non, by rw [dq_none hx]; exact k _ H G (Gr.refl ex) (.bl _)⟩
  | bool b =>
    cases d with
    | bool a =>
      cases hf
      refine .inr ⟨a, b, hx.bool, hy.bool, ?_⟩
      rw [← Bool.beq_eq_decide_eq]
      exact k _ H G (Gr.refl ex) (.bl _)
    | _ => cases hf
  | _ => cases d <;> cases hf
end
end Dv

/-! sorted of alike data, the empty tuple ahead among them -/
namespace Dv
open PySem PySem.Spec PyProof.Rows PySem.W PySem.Calls
section
variable {prog : Program} {w : World} {A : Around} {E : Value → Shared → Prop} {s : Shared}
theorem call_tuple_lt {Q : Value → Shared → Prop} {l b : Addr} {items items2 : Array Value} {e r : Nat → Bool} (hl : s.heap.IsTuple l items) (hb : s.heap.IsTuple b items2)
    (he : ∀ j (h1 : j < items.size) (h2 : j < items2.size), SeqAt.EqAt A.in1 s items[j] items2[j] (e j)) (hr : ∀ j (h1 : j < items.size) (h2 : j < items2.size), e j = false → SeqAt.RcLt A.in1 s items[j] items2[j] (r j))
    (h : Q (.bool (SeqAt.firstLt e r (decide (items.size < items2.size)) (List.range (min items.size items2.size)))) s) : wpAny (model prog w) A (call (.builtin "tuple.__lt__") [.ref l, .ref b]) Q E s := by
  obtain ⟨⟨cls, dd, data, sl⟩, ho, hc, n, hd⟩ := id hl
  obtain ⟨⟨cls2, dd2, data2, sl2⟩, ho2, hc2, n2, hd2⟩ := id hb
  simp only at hc hd hc2 hd2
  subst hc hd hc2 hd2
  exact call_meets F.slot_tuple_lt ⟨_, ho, rfl⟩ F.entry_tuple_lt (F.args_tuple_lt_2 _ _) (SeqAt.tuple_ltAt l b items items2 n n2 dd dd2 sl sl2 e r) ⟨ho, ho2, he, hr, h⟩
theorem oneLt_tup {xs ys : List PyData} {a b : Value} {as bs : List Addr} {Q : Bool → Shared → Prop} (ra : Reads s.heap a (.tuple xs) as) (rb : Reads s.heap b (.tuple ys) bs) (h : alike (.tuple xs) (.tuple ys) = true)
    (hu : A.units + min (PyData.tuple xs).depth (PyData.tuple ys).depth < cLine) (hq : Q (dataLt (.tuple xs) (.tuple ys)) s) : wpAny (model prog w) A (oneLt' true a b) Q E s := by
  have hal : alikeAll xs ys = true := by simpa [alike] using h
  cases ra with
  | @tuple l o vs n _ as₁ h1 h2 h3 h4 =>
    cases rb with
    | @tuple l' o' vs' n' _ bs₁ k1 k2 k3 k4 =>
      have n1 : vs.size = xs.length := by simpa using SeqAt.ReadsAll.length _ _ _ h4
      have n2 : vs'.size = ys.length := by simpa using SeqAt.ReadsAll.length _ _ _ k4
      rw [dataLt_tuple, ← firstLt_toks xs ys hal, ← n1, ← n2] at hq
      rw [oneLt'_eq]
      simp only [if_true]
      refine wpAny_bind (wpAny_cRoomFor (SeqAt.room_here hu) ?_)
      refine wpAny_bind (wpAny_callSpecialIfBound?_slot (T := "tuple") ⟨_, h1, h2⟩ F.slot_tuple_lt (call_tuple_lt (e := SeqAt.pairEq xs ys) (r := fun j => dataLt (xs.getD j .none) (ys.getD j .none)) ⟨_, h1, h2, _, h3⟩ ⟨_, k1, k2, _, k3⟩ (fun j j1 j2 => ?_) (fun j j1 j2 hj => ?_) ?_))
      · have := eqAt_alikeAll xs ys A.in1 s vs.toList vs'.toList _ _ h4 k4 hal (SeqAt.room_in hu) j (by simpa using j1) (by simpa using j2)
        simpa using this
      · have := rcLt_alikeAll xs ys A.in1 s vs.toList vs'.toList _ _ h4 k4 hal (SeqAt.room_in hu) j (by simpa using j1) (by simpa using j2) hj
        simpa using this
      · exact wpAny_truthy_bool hq
theorem mapM_each {M : Model} {α β : Type} {f : α → Sem β} {P : α → β → Prop} : ∀ (l : List α) {Q : List β → Shared → Prop}, (∀ v ∈ l, ∀ (Q' : β → Shared → Prop), (∀ o, P v o → Q' o s) → wpAny M A (f v) Q' E s) → (∀ os, PySem.Paired P l os → Q os s) → wpAny M A (l.mapM f) Q E s
  | [], _, _, h => by rw [List.mapM_nil]; exact wpAny_pure (h [] .nil)
  | x :: l, Q, hf, h => by
    rw [List.mapM_cons]
    exact wpAny_bind (hf x (.head _) _ fun o ho => wpAny_bind (mapM_each l (fun v hv => hf v (.tail _ hv)) fun os hos => wpAny_pure (h _ (.cons ho hos))))
/-- tuples, the first of them empty: compared as wholes -/
theorem kind_nil {M : Model} {v₁ : Value} {rest : List Value} {Q : SortKind → Shared → Prop} (h2 : 2 ≤ (v₁ :: rest).length) (h1 : ∃ a, v₁ = .ref a ∧ s.heap.IsTuple a #[]) (hT : ∀ v ∈ v₁ :: rest, ∃ a xs, v = .ref a ∧ s.heap.IsTuple a xs) (h : Q oneType' s) :
    wpAny M A (keyKind' (v₁ :: rest).toArray) Q E s := by
  have first : ∀ v, v ∈ v₁ :: rest → ∀ (Q : Option Value → Shared → Prop), (∀ o, (v = v₁ → o = none) → Q o s) → wpAny M A (firstOfTuple' v) Q E s := by
    intro v hv Q hq
    obtain ⟨a, xs, rfl, ho⟩ := hT v hv
    obtain ⟨o, ho, hc, n, hd⟩ := ho
    rw [kas_first_eq]
    refine wpAny_bind (wpAny_typeOf ⟨o, ho, hc⟩ ?_)
    rw [if_neg (by simp)]
    refine wpAny_bind ?_
    unfold Builtin.List.listItems
    refine wpAny_bind (wpAny_seqItems ho hd (wpAny_pure (wpAny_pure (hq _ fun e => ?_))))
    obtain ⟨a', e', o', ho', _, n', hd'⟩ := h1
    rw [e'] at e
    cases e
    rw [ho] at ho'
    cases ho'
    rw [hd] at hd'
    cases hd'
    rfl
  have typ : ∀ v, v ∈ v₁ :: rest → ∀ (Q : Value → Shared → Prop), Q (.type "tuple") s → wpAny M A (typeOf v) Q E s := by
    intro v hv Q hq
    obtain ⟨a, xs, rfl, o, ho, hc, n, hd⟩ := hT v hv
    exact wpAny_typeOf ⟨o, ho, hc⟩ hq
  rw [keyKind'_eq, List.mapM_toArray, map_eq_pure_bind]
  refine wpAny_bind (wpAny_bind (mapM_each (P := fun v o => v = v₁ → o = none) _ (fun v hv Q' hq => first v hv Q' hq) fun os hos => wpAny_pure ?_))
  cases hos with
  | cons h0 _ =>
    rename_i o os'
    have e0 := h0 rfl
    subst e0
    rw [if_neg (by simp), if_neg (by simp)]
    rw [oneTypeOnly'_eq, List.mapM_toArray, map_eq_pure_bind]
    refine wpAny_bind (wpAny_bind (wpAny_bind (kas_mapM (r := Value.type "tuple") _ (fun v hv Q' hq => typ v hv Q' hq) (wpAny_pure ?_))))
    have hall : ((List.map (fun _ => Value.type "tuple") (v₁ :: rest)).toArray.all fun x => x == Value.type "tuple") = true := by
      simp only [List.all_toArray, List.all_map, List.all_eq_true]
      intro _ _
      rfl
    have hz : (List.map (fun _ => Value.type "tuple") (v₁ :: rest)).toArray[0]? = some (Value.type "tuple") := by simp
    rw [hz]
    simp only [hall, if_true]
    exact wpAny_pure (wpAny_pure h)
theorem eachIs_get {α β : Type} {R : α → β → Prop} : ∀ {as : List α} {bs : List β} {a : α}, EachIs R as bs → a ∈ as → ∃ b, b ∈ bs ∧ R a b
  | _, _, _, .nil, h => by cases h
  | _, _, a, .cons r t, h => by
    rcases List.mem_cons.mp h with e | h
    · subst e
      exact ⟨_, List.mem_cons_self, r⟩
    · obtain ⟨b, h1, h2⟩ := eachIs_get t h
      exact ⟨b, List.mem_cons_of_mem _ h1, h2⟩
theorem sortsAt_nil {vs : List Value} {ds : List PyData} (e : EachIs (fun v d => ∃ as, Reads s.heap v d as) vs (.tuple [] :: ds)) (hal : AllAlike (.tuple [] :: ds)) (hu : ∀ d, d ∈ PyData.tuple [] :: ds → A.units + d.depth < cLine) : SortsAt prog w A s (dataKind s.heap (.tuple [] :: ds)) vs := by
  have room : ∀ {d d' : PyData}, d ∈ PyData.tuple [] :: ds → A.units + min d.depth d'.depth < cLine := fun {d d'} hd => Nat.lt_of_le_of_lt (Nat.add_le_add_left (Nat.min_le_left _ _) _) (hu d hd)
  have tup : ∀ d, d ∈ PyData.tuple [] :: ds → ∃ xs, d = .tuple xs := fun d hd => by
    have h := hal (.tuple []) List.mem_cons_self d hd
    cases d with
    | tuple xs => exact ⟨xs, rfl⟩
    | _ => exact absurd h (by simp [alike])
  refine ⟨fun v hv => ?_, oneType', ?_, fun h2 E Q hq => ?_⟩
  · obtain ⟨d, hd, as, r⟩ := e.left v hv
    exact ⟨_, dataKind_some hal hd r⟩
  · intro E x y a b Q ha hb hq
    obtain ⟨d, as, hd, ra, rfl⟩ := dataKind_inv ha
    obtain ⟨d', as', hd', rb, rfl⟩ := dataKind_inv hb
    rw [keyLt'_oneType]
    obtain ⟨xs, rfl⟩ := tup d hd
    obtain ⟨ys, rfl⟩ := tup d' hd'
    exact oneLt_tup ra rb (hal _ hd _ hd') (room hd) hq
  · cases e with
    | cons r0 t =>
      rename_i v₁ rest
      obtain ⟨as, r0⟩ := r0
      refine kind_nil h2 ?_ (fun v hv => ?_) hq
      · cases r0 with
        | @tuple a o xs n _ _ ho hc hd hr =>
          refine ⟨a, rfl, o, ho, hc, n, ?_⟩
          have hx : xs.toList = [] := by
            cases q : xs.toList with
            | nil => rfl
            | cons y ys =>
              rw [q] at hr
              cases hr
          have hx' : xs = #[] := Array.toList_inj.mp (by rw [hx])
          rw [← hx']
          exact hd
      · have e' : EachIs (fun v d => ∃ as, Reads s.heap v d as) (v₁ :: rest) (.tuple [] :: ds) := .cons ⟨as, r0⟩ t
        obtain ⟨d, hd, as', r⟩ := eachIs_get e' hv
        obtain ⟨xs, rfl⟩ := tup d hd
        cases r with
        | @tuple a o ys n _ _ ho hc hd hr => exact ⟨a, ys, rfl, o, ho, hc, n, hd⟩
end
/-- may be sorted -/
def sortB (ds : List PyData) : Bool := (ds.all fun d => ds.all fun e => alike d e) && ((ds.all fun d => match d with | .tuple (_ :: _) => true | _ => false) || (ds.all fun d => match d with | .tuple _ => false | .none => false | _ => true) || match ds with | .tuple [] :: _ => true | _ => false) &&
  ds.all (fun d => SeqAt.shaped d) && decide (ds.length ≤ 1000000)
def sortD (ds : List PyData) : List PyData := ds.mergeSort fun a b => !dataLt b a
theorem dataLe_id : dataLe false (fun d : PyData => d) = fun a b => !dataLt b a := by
  funext a b
  rw [dataLe_eq]
  rfl
section
variable {prog : Program} {w : World} {A : Around} {E : Value → Shared → Prop} {s : Shared}
theorem sorted_any {l : Addr} {vs : List Value} {ds : List PyData} {R : Value → PyData → Prop} {Q : Value → Shared → Prop} (hl : s.heap.IsList l vs.toArray) (e : EachIs R vs ds) (er : EachIs (fun v d => ∃ as, Reads s.heap v d as) vs ds) (hb : sortB ds = true)
    (hu : A.units + 70 < cLine) (h : ∀ out, out.length = ds.length → EachIs R out (sortD ds) → Q (.ref (s.heap.objs.size + 1)) { s with heap := sortedAll s.heap vs (List.toArray out) }) : wpAny (model prog w) A (call (.builtin "sorted") [.ref l]) Q E s := by
  unfold sortB at hb
  simp only [Bool.and_eq_true, Bool.or_eq_true, List.all_eq_true, decide_eq_true_eq] at hb
  obtain ⟨⟨⟨hal, hk⟩, hsh⟩, hlen⟩ := hb
  have hAl : AllAlike ds := fun d hd d' hd' => hal d hd d' hd'
  have hL : ds.length ≤ sizeLine := by rw [sizeLine_eq]; omega
  have hdep : ∀ d, d ∈ ds → A.units + 2 + d.depth < cLine := fun d hd => by
    have := SeqAt.depth_of_shaped (hsh d hd)
    omega
  have er' : EachIs (fun v b => ∃ as, Reads (sortingHeap (copyHeap s.heap vs) (s.heap.objs.size + 1) vs) v b as) vs ds := er.mono fun _ _ ⟨as, r⟩ => ⟨as, PyProof.Rows.Reads.keeps (fun _ _ => sorting_copy_old) r⟩
  have S : SortsAt prog w A.in1.in1 { s with heap := sortingHeap (copyHeap s.heap vs) (s.heap.objs.size + 1) vs } (dataKind (sortingHeap (copyHeap s.heap vs) (s.heap.objs.size + 1) vs) ds) vs := by
    rcases hk with (hk | hk) | hk
    · refine SortsAt.data (s := { s with heap := sortingHeap (copyHeap s.heap vs) (s.heap.objs.size + 1) vs }) er' hAl (.inl fun d hd => ?_) fun d hd => hdep d hd
      have h1 := hk d hd
      split at h1
      · exact ⟨_, _, rfl⟩
      · cases h1
    · refine SortsAt.data (s := { s with heap := sortingHeap (copyHeap s.heap vs) (s.heap.objs.size + 1) vs }) er' hAl (.inr fun d hd => ?_) fun d hd => hdep d hd
      have h1 := hk d hd
      split at h1
      · cases h1
      · cases h1
      · rename_i n1 n2
        exact ⟨n2, n1⟩
    · split at hk
      · exact sortsAt_nil (s := { s with heap := sortingHeap (copyHeap s.heap vs) (s.heap.objs.size + 1) vs }) er' hAl fun d hd => hdep d hd
      · cases hk
  refine sorted_vals hl S (by rw [e.length]; exact hL) (h _ (by rw [sortVals_length false rfl]; exact e.length) ?_)
  have q := sortVals_data (R := R) (enc := fun d => d) (h' := sortingHeap (copyHeap s.heap vs) (s.heap.objs.size + 1) vs) false e er' (by rw [List.map_id']; exact hAl)
  rw [List.map_id', dataLe_id] at q
  exact q
end
end Dv

/-! built-in functions by data -/
namespace Dv
open PySem PySem.Spec PyProof.Rows L2
section
variable {K : PySem.W.Frag} {G H : Hp} {F : Addr → Prop} {v : V} {d : PyData} {vs : List V}
theorem dq1 (h : DqAll K G F H vs [d]) : ∃ v, vs = [v] ∧ Dq K G F H v d := by
  cases h with
  | cons h1 h2 =>
    cases h2
    exact ⟨_, rfl, h1⟩
theorem dq2 {e : PyData} (h : DqAll K G F H vs [d, e]) : ∃ v u, vs = [v, u] ∧ Dq K G F H v d ∧ Dq K G F H u e := by
  cases h with
  | cons h1 h2 =>
    obtain ⟨u, e, h3⟩ := dq1 h2
    exact ⟨_, _, by rw [e], h1, h3⟩

/-! ### types -/
def tyD : PyData → String
  | .none => "NoneType"
  | .bool _ => "bool"
  | .int _ => "int"
  | .str _ => "str"
  | .list _ => "list"
  | .tuple _ => "tuple"
  | .dict _ => "dict"
def isTy (t T : String) : Bool := t == T || (t == "bool" && T == "int")
def tyNames : List String := ["int", "bool", "str", "list", "tuple", "dict"]
theorem kit_all : ∀ t ∈ ["NoneType", "bool", "int", "str", "list", "tuple", "dict"], ∀ T ∈ tyNames, kitB t T = some (isTy t T) := by decide +kernel
theorem kit_d (d : PyData) {T : String} (hT : T ∈ tyNames) : kitB (tyD d) T = some (isTy (tyD d) T) := by
  refine kit_all _ ?_ T hT
  cases d <;> simp [tyD]
def tyOk : PyData → Bool
  | .dict (_ :: _) => false
  | _ => true
theorem dq_ty (h : Dq K G F H v d) (e : Ex G H) (ok : tyOk d = true) : TyX K H v (.type (tyD d)) := by
  cases d with
  | none =>
    have h := h.non
    subst h
    exact .base .non
  | bool b =>
    have h := h.bool
    subst h
    exact .base (.bl b)
  | int i =>
    have h := h.int
    subst h
    exact .base (.int i)
  | str x =>
    have h := h.str
    subst h
    exact .base (.str x)
  | list ds =>
    obtain ⟨a, us, rfl, h1, _⟩ := h.list e
    rcases h1 with h1 | ⟨o, h1⟩
    · exact .base (.lst h1)
    · exact .base (.frz h1)
  | tuple ds =>
    obtain ⟨a, us, rfl, h1, _⟩ := h.tuple e
    rcases h1 with (h1 | ⟨o, h1⟩) | ⟨o, its, n, h1, h2, _⟩
    · exact .base (.tup h1)
    · exact .fTuple h1
    · exact .kTuple h1 h2
  | dict kvs =>
    have hw := h.whole e
    cases kvs with
    | cons _ _ => cases ok
    | nil =>
    cases hw with
    | emp h1 =>
    rcases h1 with h1 | ⟨o, h1⟩
    · exact .base (.dK h1)
    · exact .fDict h1
end
section
variable {K : PySem.W.Frag} {S : Type} {X : Cx} {c : Ctx K S} {e : Expr} {es : List Expr} {p pos p2 : Pos} {m : M S PyData}
def tTys (Ts : List String) : TA := fun _ H Q => Q (Ts.map V.ty) H
theorem ty_nil : PA X [] (tTys []) := pa_nil
theorem ty_cons {x : Str} {T : String} {Ts : List String} (hg : Gl X x) (hm : X.mg x = none) (hv : bootBuiltins x = some (.type T)) (h : PA X es (tTys Ts)) (hn : x ≠ "__name__" := by decide) (hd : (x == ("__debug__" : Str)) = false := by decide)
    (hs : starEach (.Name x p :: es) X.env = (false, eval (.Name x p) X.env) :: starEach es X.env := by rfl) : PA X (.Name x p :: es) (tTys (T :: Ts)) := (pa_cons (pe_bltn (v := .ty T) (u := .type T) hg hm hv rfl hn hd) h hs).imp fun _ _ _ h => h
def dIsi (Ts : List String) (d : PyData) : Option PyData := if tyOk d then some (.bool (Ts.any fun T => isTy (tyD d) T)) else none
theorem paired_ty : ∀ Ts : List String, Paired ClsV (Ts.map V.ty) (Ts.map Value.type)
  | [] => .nil
  | T :: Ts => .cons (.ty T) (paired_ty Ts)
theorem kitAny_ty {t : String} : ∀ {Ts : List String}, (∀ T ∈ Ts, kitB t T = some (isTy t T)) → PySem.W.kitAny K (.type t) (Ts.map Value.type) = some (Ts.any fun T => isTy t T)
  | [], _ => kitAny_nil
  | T :: Ts, h => kitAny_cons (kit_ty (h T List.mem_cons_self)) (fun hb => by
      rw [kitAny_ty fun T hT => h T (List.mem_cons_of_mem _ hT), List.any_cons, hb, Bool.false_or]) (fun hb => by rw [List.any_cons, hb, Bool.true_or])
/-- isinstance(e, T) -/
theorem x_isi {x : Str} {T : String} (hg2 : Gl X x) (hm2 : X.mg x = none) (hv2 : bootBuiltins x = some (.type T)) (he : PE X e (tB c m)) (h : ∀ {t}, PA X [e, .Name x p2] t → PE X (.Call (.Name "isinstance" p) [e, .Name x p2] [] pos) (tCB (rIsi X.K) t))
    (hT : T ∈ tyNames := by decide) (hK : X.K = K := by rfl) (hn2 : x ≠ "__name__" := by decide) (hd2 : (x == ("__debug__" : Str)) = false := by decide)
    (hs : starEach (e :: [.Name x p2]) X.env = (false, eval e X.env) :: starEach [.Name x p2] X.env := by rfl) (hs2 : starEach [.Name x p2] X.env = (false, eval (.Name x p2) X.env) :: starEach [] X.env := by rfl) :
    PE X (.Call (.Name "isinstance" p) [e, .Name x p2] [] pos) (tE c (e1 (dIsi [T]) m)) :=
  (h (pa_cons he (ty_cons hg2 hm2 hv2 ty_nil hn2 hd2 hs2) hs)).imp fun σ H Q ⟨G, F, env, s, r, s', R, hm, k⟩ => by
    subst hK
    obtain ⟨⟨y, s1⟩, h1, hm⟩ := some_bind hm
    obtain ⟨z, hz, e0⟩ := some_map hm
    injection e0 with e1 e2
    unfold dIsi at hz
    split at hz
    rotate_left
    · cases hz
    rename_i ok
    injection hz with hz
    subst e1 e2 hz
    refine ⟨G, F, env, s, y, s1, R, h1, fun v H1 G1 F1 R1 M1 D1 => ?_⟩
    exact ⟨v, .ty T, .type (tyD y), .type T, isTy (tyD y) T, rfl, .ty T, dq_ty D1 R1.ex ok, kit_ty (kit_d y hT), by simpa using k (.bl _) H1 G1 F1 R1 M1 (.bl _)⟩
/-- isinstance(e, (T1, T2, ..)) -/
theorem x_isiT {k : Nat} {tpos : Pos} {tys : List Expr} {Ts : List String} (he : PE X e (tB c m)) (ht : PA X tys (tTys Ts)) (h : ∀ {t}, PA X [e, .Tuple tys k tpos] t → PE X (.Call (.Name "isinstance" p) [e, .Tuple tys k tpos] [] pos) (tCB (rIsiT X.K) t))
    (hT : ∀ T ∈ Ts, T ∈ tyNames := by decide) (hl : Ts.length ≤ 1000 := by decide) (hK : X.K = K := by rfl)
    (hs : starEach (e :: [.Tuple tys k tpos]) X.env = (false, eval e X.env) :: starEach [.Tuple tys k tpos] X.env := by rfl) (hs2 : starEach [.Tuple tys k tpos] X.env = (false, eval (.Tuple tys k tpos) X.env) :: starEach [] X.env := by rfl) :
    PE X (.Call (.Name "isinstance" p) [e, .Tuple tys k tpos] [] pos) (tE c (e1 (dIsi Ts) m)) :=
  (h (pa_cons he (pa_cons (pe_tup ht) pa_nil hs2) hs)).imp fun σ H Q ⟨G, F, env, s, r, s', R, hm, k⟩ => by
    subst hK
    obtain ⟨⟨y, s1⟩, h1, hm⟩ := some_bind hm
    obtain ⟨z, hz, e0⟩ := some_map hm
    injection e0 with e1 e2
    unfold dIsi at hz
    split at hz
    rotate_left
    · cases hz
    rename_i ok
    injection hz with hz
    subst e1 e2 hz
    refine ⟨G, F, env, s, y, s1, R, h1, fun v H1 G1 F1 R1 M1 D1 => ?_⟩
    refine ⟨?_, fun q hq => ?_⟩
    · rw [List.length_map]
      exact Nat.le_of_lt (small1000 hl)
    · obtain ⟨R2, M2, _, _⟩ := rel_new R1 (o := .tup (Ts.map V.ty)) hq
      exact ⟨v, q, Ts.map V.ty, .type (tyD y), Ts.map Value.type, _, rfl, upd_same, paired_ty Ts, dq_ty (D1.mv M2) R2.ex ok, kitAny_ty fun T h => kit_d y (hT T h), k (.bl _) _ G1 F1 R2 (M1.trans M2) (.bl _)⟩
/-- {} -/
theorem x_emp : PE X (.Dict [] [] pos) (tE c (eC (.dict []))) := pe_dnewK.imp fun σ H Q ⟨G, F, env, s, r, s', R, hm, k⟩ => by
  cases hm
  intro q hq
  have g := Gr.laid R.ex hq (o := .dK [])
  exact k (.ref q) _ _ F (R.gr g) (Mv.of_gr g) (.emp (.inl upd_same))
end

/-! ### the functions -/
section
variable {K : PySem.W.Frag} {X : Cx}
def rLenD (K : PySem.W.Frag) : List V → Hp → VK → Prop := fun xs H Q => (∃ p ys, xs = [.ref p] ∧ (SqL K H p ys ∨ SqT K H p ys) ∧ Q (.int ys.length) H) ∨ ∃ z, xs = [.str z] ∧ z.length ≤ sizeLine ∧ Q (.int z.length) H
theorem cr_lenD : CallR X (.builtin "len") (rLenD X.K) := call_len_seq.or call_len_str
def dLen : List PyData → Option PyData
  | [.list ds] => some (.int ds.length)
  | [.tuple ds] => some (.int ds.length)
  | [.str z] => if z.length ≤ lim then some (.int z.length) else none
  | [.dict [(.none, .list ds)]] => some (.int ds.length)
  | _ => none
theorem dn_len : DN K (rLenD K) dLen := by
  intro G F H xs ds z Q ex hx hf k
  match ds, hx, hf with
  | [.list ds], hx, hf =>
    obtain ⟨v, rfl, h⟩ := dq1 hx
    obtain ⟨a, us, rfl, h1, h2⟩ := h.list ex
    cases hf
    exact .inl ⟨a, us, rfl, .inl (.inl h1), by rw [h2.length]; exact k _ H G (Gr.refl ex) (.int _)⟩
  | [.tuple ds], hx, hf =>
    obtain ⟨v, rfl, h⟩ := dq1 hx
    obtain ⟨a, us, rfl, h1, h2⟩ := h.tuple ex
    cases hf
    exact .inl ⟨a, us, rfl, .inr h1, by rw [h2.length]; exact k _ H G (Gr.refl ex) (.int _)⟩
  | [.str y], hx, hf =>
    obtain ⟨v, rfl, h⟩ := dq1 hx
    have h := h.str
    subst h
    simp only [dLen] at hf
    split at hf
    · rename_i hl
      cases hf
      exact .inr ⟨y, rfl, lim_ok hl, k _ H G (Gr.refl ex) (.int _)⟩
    · cases hf
  | [.dict [(.none, .list ds)]], hx, hf =>
    obtain ⟨v, rfl, h⟩ := dq1 hx
    have hw := h.whole ex
    cases hw with
    | scr hs =>
      cases hf
      exact .inl ⟨_, _, rfl, .inl hs, by rw [List.length_map]; have q := k (.int _) H G (Gr.refl ex) (.int _); rw [List.length_map] at q; exact q⟩
def rAbsD : List V → Hp → VK → Prop := fun xs H Q => ∃ i : Int, xs = [.int i] ∧ Q (.int (if i < 0 then -i else i)) H
def dAbs : List PyData → Option PyData
  | [.int i] => some (.int (if i < 0 then -i else i))
  | _ => none
theorem dn_abs : DN K rAbsD dAbs := by
  intro G F H xs ds z Q ex hx hf k
  match ds, hx, hf with
  | [.int i], hx, hf =>
    obtain ⟨v, rfl, h⟩ := dq1 hx
    have h := h.int
    subst h
    cases hf
    exact ⟨i, rfl, k _ H G (Gr.refl ex) (.int _)⟩
def rIntD : List V → Hp → VK → Prop := fun xs H Q => (∃ i, xs = [.int i] ∧ Q (.int i) H) ∨ ∃ k, xs = [.bl k] ∧ Q (.int (if k then 1 else 0)) H
def dInt : List PyData → Option PyData
  | [.int i] => some (.int i)
  | [.bool b] => some (.int (if b then 1 else 0))
  | _ => none
theorem dn_int : DN K rIntD dInt := by
  intro G F H xs ds z Q ex hx hf k
  match ds, hx, hf with
  | [.int i], hx, hf =>
    obtain ⟨v, rfl, h⟩ := dq1 hx
    have h := h.int
    subst h
    cases hf
    exact .inl ⟨i, rfl, k _ H G (Gr.refl ex) (.int _)⟩
  | [.bool i], hx, hf =>
    obtain ⟨v, rfl, h⟩ := dq1 hx
    have h := h.bool
    subst h
    cases hf
    exact .inr ⟨i, rfl, k _ H G (Gr.refl ex) (.int _)⟩
def rMax2D : List V → Hp → VK → Prop := fun xs H Q => ∃ i j : Int, xs = [.int i, .int j] ∧ Q (.int (if j > i then j else i)) H
def rMin2D : List V → Hp → VK → Prop := fun xs H Q => ∃ i j : Int, xs = [.int i, .int j] ∧ Q (.int (if j < i then j else i)) H
def dMax2 : List PyData → Option PyData
  | [.int i, .int j] => some (.int (if j > i then j else i))
  | _ => none
def dMin2 : List PyData → Option PyData
  | [.int i, .int j] => some (.int (if j < i then j else i))
  | _ => none
theorem dn_max2 : DN K rMax2D dMax2 := by
  intro G F H xs ds z Q ex hx hf k
  match ds, hx, hf with
  | [.int i, .int j], hx, hf =>
    obtain ⟨v, u, rfl, h, h'⟩ := dq2 hx
    have h := h.int
    have h' := h'.int
    subst h h'
    cases hf
    exact ⟨i, j, rfl, k _ H G (Gr.refl ex) (.int _)⟩
theorem dn_min2 : DN K rMin2D dMin2 := by
  intro G F H xs ds z Q ex hx hf k
  match ds, hx, hf with
  | [.int i, .int j], hx, hf =>
    obtain ⟨v, u, rfl, h, h'⟩ := dq2 hx
    have h := h.int
    have h' := h'.int
    subst h h'
    cases hf
    exact ⟨i, j, rfl, k _ H G (Gr.refl ex) (.int _)⟩
def rDivmodD : List V → Hp → VK → Prop := fun xs H Q => ∃ i j, xs = [.int i, .int j] ∧ CDiv i j ∧ ∀ p, H p = none → Q (.ref p) (upd H p (.tup [.int (i / j), .int (i % j)]))
def dDivmod : List PyData → Option PyData
  | [.int i, .int j] => if 0 < j ∧ j < 1073741824 then some (.tuple [.int (i / j), .int (i % j)]) else none
  | _ => none
theorem dn_divmod : DN K rDivmodD dDivmod := by
  intro G F H xs ds z Q ex hx hf k
  match ds, hx, hf with
  | [.int i, .int j], hx, hf =>
    obtain ⟨v, u, rfl, h, h'⟩ := dq2 hx
    have h := h.int
    have h' := h'.int
    subst h h'
    simp only [dDivmod] at hf
    split at hf
    · rename_i hj
      cases hf
      refine ⟨i, j, rfl, hj, fun q hq => ?_⟩
      have g := Gr.laid ex hq (o := .tup [.int (i / j), .int (i % j)])
      exact k (.ref q) _ _ g (.tup (.inl (.inl upd_same)) (.cons (.int _) (.cons (.int _) .nil)))
    · cases hf
/-- a list of ints, of bools -/
def intsD : List PyData → Option (List Int)
  | [] => some []
  | .int i :: ds => (intsD ds).map (i :: ·)
  | _ :: _ => none
def boolsD : List PyData → Option (List Bool)
  | [] => some []
  | .bool i :: ds => (boolsD ds).map (i :: ·)
  | _ :: _ => none
theorem ints_vs {G : Hp} : ∀ {ds : List PyData} {vs : List V} {ns : List Int}, DpAll K G vs ds → intsD ds = some ns → vs = ns.map V.int
  | [], _, _, h, e => by
    cases h
    cases e
    rfl
  | .int i :: ds, _, _, h, e => by
    obtain ⟨ms, h1, h2⟩ := some_map e
    subst h2
    cases h with
    | cons h3 h4 =>
      cases h3
      rw [List.map_cons, ← ints_vs h4 h1]
  | .none :: _, _, _, _, e => by cases e
  | .bool _ :: _, _, _, _, e => by cases e
  | .str _ :: _, _, _, _, e => by cases e
  | .list _ :: _, _, _, _, e => by cases e
  | .tuple _ :: _, _, _, _, e => by cases e
  | .dict _ :: _, _, _, _, e => by cases e
theorem bools_vs {G : Hp} : ∀ {ds : List PyData} {vs : List V} {ns : List Bool}, DpAll K G vs ds → boolsD ds = some ns → vs = ns.map V.bl
  | [], _, _, h, e => by
    cases h
    cases e
    rfl
  | .bool i :: ds, _, _, h, e => by
    obtain ⟨ms, h1, h2⟩ := some_map e
    subst h2
    cases h with
    | cons h3 h4 =>
      cases h3
      rw [List.map_cons, ← bools_vs h4 h1]
  | .none :: _, _, _, _, e => by cases e
  | .int _ :: _, _, _, _, e => by cases e
  | .str _ :: _, _, _, _, e => by cases e
  | .list _ :: _, _, _, _, e => by cases e
  | .tuple _ :: _, _, _, _, e => by cases e
  | .dict _ :: _, _, _, _, e => by cases e
def dSum : List PyData → Option PyData
  | [.list ds] => (intsD ds).map fun ns => .int ns.sum
  | _ => none
def dAllB : List PyData → Option PyData
  | [.list ds] => (boolsD ds).map fun ns => .bool (ns.all id)
  | _ => none
def dAnyB : List PyData → Option PyData
  | [.list ds] => (boolsD ds).map fun ns => .bool (ns.any id)
  | _ => none
theorem dn_sum : DN K (rSum K) dSum := by
  intro G F H xs ds z Q ex hx hf k
  match ds, hx, hf with
  | [.list ds], hx, hf =>
    obtain ⟨v, rfl, h⟩ := dq1 hx
    obtain ⟨a, us, rfl, h1, h2⟩ := h.list ex
    obtain ⟨ns, h3, h4⟩ := some_map hf
    subst h4
    have e := ints_vs h2 h3
    subst e
    exact ⟨a, ns, rfl, .inl h1, k _ H G (Gr.refl ex) (.int _)⟩
theorem dn_all : DN K (rAll K) dAllB := by
  intro G F H xs ds z Q ex hx hf k
  match ds, hx, hf with
  | [.list ds], hx, hf =>
    obtain ⟨v, rfl, h⟩ := dq1 hx
    obtain ⟨a, us, rfl, h1, h2⟩ := h.list ex
    obtain ⟨ns, h3, h4⟩ := some_map hf
    subst h4
    have e := bools_vs h2 h3
    subst e
    exact ⟨a, ns, rfl, .inl h1, k _ H G (Gr.refl ex) (.bl _)⟩
theorem dn_any : DN K (rAny K) dAnyB := by
  intro G F H xs ds z Q ex hx hf k
  match ds, hx, hf with
  | [.list ds], hx, hf =>
    obtain ⟨v, rfl, h⟩ := dq1 hx
    obtain ⟨a, us, rfl, h1, h2⟩ := h.list ex
    obtain ⟨ns, h3, h4⟩ := some_map hf
    subst h4
    have e := bools_vs h2 h3
    subst e
    exact ⟨a, ns, rfl, .inl h1, k _ H G (Gr.refl ex) (.bl _)⟩
def rTupD (K : PySem.W.Frag) : List V → Hp → VK → Prop := fun xs H Q => ∃ p ys, xs = [.ref p] ∧ ((SqL K H p ys ∧ ∀ l, H l = none → Q (.ref l) (upd H l (.tup ys))) ∨ (SqT K H p ys ∧ Q (.ref p) H))
def dTup : List PyData → Option PyData
  | [.list ds] => some (.tuple ds)
  | [.tuple ds] => some (.tuple ds)
  | _ => none
theorem dn_tup : DN K (rTupD K) dTup := by
  intro G F H xs ds z Q ex hx hf k
  match ds, hx, hf with
  | [.list ds], hx, hf =>
    obtain ⟨v, rfl, h⟩ := dq1 hx
    obtain ⟨a, us, rfl, h1, h2⟩ := h.list ex
    cases hf
    refine ⟨a, us, rfl, .inl ⟨.inl h1, fun q hq => ?_⟩⟩
    have g := Gr.laid ex hq (o := .tup us)
    exact k (.ref q) _ _ g (.tup (.inl (.inl upd_same)) (h2.ex g.g))
  | [.tuple ds], hx, hf =>
    obtain ⟨v, rfl, h⟩ := dq1 hx
    have hd := h.tup
    cases hf
    cases hd with
    | tup hs ha => exact ⟨_, _, rfl, .inr ⟨ex_t ex hs, k _ H G (Gr.refl ex) (.tup hs ha)⟩⟩
def rListD (K : PySem.W.Frag) : List V → Hp → VK → Prop := fun xs H Q => ∃ p ys, xs = [.ref p] ∧ (SqL K H p ys ∨ SqT K H p ys) ∧ ∀ l, H l = none → Q (.ref l) (upd H l (.lst ys))
def dListO : List PyData → Option (List PyData)
  | [.list ds] => some ds
  | [.tuple ds] => some ds
  | _ => none
theorem dn_list : DNo K (rListD K) dListO := by
  intro G F H xs ds z Q ex hx hf k
  match ds, hx, hf with
  | [.list ds], hx, hf =>
    obtain ⟨v, rfl, h⟩ := dq1 hx
    obtain ⟨a, us, rfl, h1, h2⟩ := h.list ex
    cases hf
    exact ⟨a, us, rfl, .inl (.inl h1), fun l hl => k l us hl h2⟩
  | [.tuple ds], hx, hf =>
    obtain ⟨v, rfl, h⟩ := dq1 hx
    obtain ⟨a, us, rfl, h1, h2⟩ := h.tuple ex
    cases hf
    exact ⟨a, us, rfl, .inr h1, fun l hl => k l us hl h2⟩

/-! ### repr -/
def rRepr (K : PySem.W.Frag) : List V → Hp → VK → Prop := fun xs H Q => (∃ a d, xs = [.ref a] ∧ L2.Dp K H (.ref a) d ∧ SeqAt.shaped d = true ∧ d.showable = true ∧ d.shown.length ≤ lim ∧ Q (.str d.shown) H) ∨
  (∃ i : Int, xs = [.int i] ∧ i.natAbs.log2 < 1920 ∧ Q (.str (toString i)) H) ∨ (∃ b : Bool, xs = [.bl b] ∧ Q (.str (if b then "True" else "False")) H) ∨ (xs = [.non] ∧ Q (.str "None") H) ∨ (∃ x : Str, xs = [.str x] ∧ (reprText x).length ≤ lim ∧ Q (.str (reprText x)) H) ∨
  ∃ a, xs = [.ref a] ∧ Rd H a (.dK []) ∧ Q (.str "{}") H
theorem reads_emp {P : Program} {w : World} {H : Hp} {h : Heap} {a : Addr} (x : ObjOk P w H h a (.dK [])) : Reads h (.ref a) (.dict []) [a] ∧ sysModules ∉ [a] := by
  obtain ⟨_, hs, vs, kv, hd⟩ := x
  cases kv
  obtain ⟨o, ho, es, ep, hx, hdat, _, hp, _⟩ := Heap.dictOf_iff.mp hd
  have e0 : es.toList = [] := by
    cases q : es.toList with
    | nil => rfl
    | cons y ys =>
      rw [q] at hp
      cases hp
  refine ⟨.dict (as := []) (bs := []) ho hx.1 hdat ?_ ?_, fun z => ?_⟩
  · rw [e0]
    exact .nil
  · rw [e0]
    exact .nil
  · rw [List.mem_singleton.mp z] at hs
    simp at hs
theorem cr_repr (hg : X.A.guards = some []) (hu : X.A.units + 70 < cLine) : CallR X (.builtin "repr") (rRepr X.K) := by
  intro pins s σ H xs us Q I r h
  rcases h with ⟨a, d, rfl, hd, sh, hs, hl, q⟩ | ⟨i, rfl, hi, q⟩ | ⟨b, rfl, q⟩ | ⟨rfl, q⟩ | ⟨x, rfl, hl, q⟩ | ⟨a, rfl, hd, q⟩
  · obtain ⟨u, rfl, rx⟩ := vals1 r
    cases rx
    obtain ⟨as, r1⟩ := L2.Dp.reads I d _ _ hd rfl
    have hdep := SeqAt.depth_of_shaped sh
    have hnd : d.hasDict = false := PyData.hasDict_of_canLay d (SeqAt.canLay_of_shaped sh)
    exact repr_of_reads' (h₀ := s.heap) r1 hs (fun z => by rw [hnd] at z; cases z) hg (by omega) (fun _ _ e => e) (fun h' u tk hk => ⟨.str _, H, I.kept hk, ⟨_, rfl⟩, q⟩) (lim_ok hl)
  · obtain ⟨u, rfl, t, rfl⟩ := vals1 r
    exact PySem.P.repr_of_int hi ⟨.str _, H, I.tok _, ⟨_, rfl⟩, q⟩
  · obtain ⟨u, rfl, rx⟩ := vals1 r
    cases rx
    exact PySem.P.repr_of_bool ⟨.str _, H, I.tok _, ⟨_, rfl⟩, q⟩
  · obtain ⟨u, rfl, rx⟩ := vals1 r
    cases rx
    exact PySem.P.repr_of_none ⟨.str _, H, I.tok _, ⟨_, rfl⟩, q⟩
  · obtain ⟨u, rfl, t, rfl⟩ := vals1 r
    exact PySem.P.repr_of_str ⟨.str _, H, I.tok _, ⟨_, rfl⟩, q⟩ (lim_ok hl)
  · obtain ⟨u, rfl, rx⟩ := vals1 r
    cases rx
    obtain ⟨r1, hn⟩ : Reads s.heap (.ref a) (.dict []) [a] ∧ sysModules ∉ [a] := by
      rcases hd with hd | ⟨o, hd⟩
      · exact reads_emp (I.hok a _ hd)
      · exact reads_emp (I.hok a _ hd).2
    exact repr_of_reads' (h₀ := s.heap) r1 rfl (fun _ => hn) hg (by show X.A.units + 2 < cLine; omega) (fun _ _ e => e) (fun h' u tk hk => ⟨.str _, H, I.kept hk, ⟨_, rfl⟩, q⟩) (by show (_ : Nat) ≤ sizeLine; decide)
def isRefD : PyData → Bool
  | .list _ => true
  | .tuple _ => true
  | _ => false
def reprOk : PyData → Bool
  | .dict [] => true
  | d => SeqAt.shaped d && d.showable && decide (d.shown.length ≤ lim)
theorem reprOk_of {d : PyData} (h1 : SeqAt.shaped d = true) (h2 : d.showable = true) (h3 : d.shown.length ≤ lim) : reprOk d = true := by
  unfold reprOk
  split
  · rfl
  · rw [h1, h2, decide_eq_true h3] <;> rfl
def dRepr : List PyData → Option PyData
  | [d] => if reprOk d then some (.str d.shown) else none
  | _ => none
theorem dn_repr : DN K (rRepr K) dRepr := by
  intro G F H xs ds z Q ex hx hf k
  match ds, hx, hf with
  | [d], hx, hf =>
    obtain ⟨v, rfl, h⟩ := dq1 hx
    simp only [dRepr] at hf
    split at hf
    · rename_i hc
      cases hf
      cases d with
      | dict kvs =>
        cases kvs with
        | cons _ _ => simp [reprOk, SeqAt.shaped, PyData.canLay0] at hc
        | nil =>
          have hw := h.whole ex
          cases hw with
          | emp h1 => exact .inr (.inr (.inr (.inr (.inr ⟨_, rfl, h1, k _ H G (Gr.refl ex) (.str _)⟩))))
      | none =>
        have e := h.non
        subst e
        exact .inr (.inr (.inr (.inl ⟨rfl, k _ H G (Gr.refl ex) (.str _)⟩)))
      | bool b =>
        have e := h.bool
        subst e
        exact .inr (.inr (.inl ⟨b, rfl, k _ H G (Gr.refl ex) (.str _)⟩))
      | int i =>
        have e := h.int
        subst e
        simp only [reprOk, Bool.and_eq_true, decide_eq_true_eq] at hc
        have h2 : i.natAbs.log2 < 1920 := of_decide_eq_true hc.1.2
        exact .inr (.inl ⟨i, rfl, h2, k _ H G (Gr.refl ex) (.str _)⟩)
      | str x =>
        have e := h.str
        subst e
        simp only [reprOk, Bool.and_eq_true, decide_eq_true_eq] at hc
        exact .inr (.inr (.inr (.inr (.inl ⟨x, rfl, hc.2, k _ H G (Gr.refl ex) (.str _)⟩))))
      | list ds =>
        simp only [reprOk, Bool.and_eq_true, decide_eq_true_eq] at hc
        obtain ⟨⟨h2, h3⟩, h4⟩ := hc
        have D := dp_l2 _ _ (SeqAt.canLay_of_shaped h2) (h.whole ex)
        obtain ⟨a, us, rfl, _⟩ := h.list ex
        exact .inl ⟨a, _, rfl, D, h2, h3, h4, k _ H G (Gr.refl ex) (.str _)⟩
      | tuple ds =>
        simp only [reprOk, Bool.and_eq_true, decide_eq_true_eq] at hc
        obtain ⟨⟨h2, h3⟩, h4⟩ := hc
        have D := dp_l2 _ _ (SeqAt.canLay_of_shaped h2) (h.whole ex)
        obtain ⟨a, us, rfl, _⟩ := h.tuple ex
        exact .inl ⟨a, _, rfl, D, h2, h3, h4, k _ H G (Gr.refl ex) (.str _)⟩
    · cases hf

/-! ### sorted -/
def rSortedD (K : PySem.W.Frag) : List V → Hp → VK → Prop := fun vs H Q => ∃ (G : Hp) (a : Addr) (xs : List V) (ds : List PyData), Ex G H ∧ vs = [.ref a] ∧ SqL K H a xs ∧ DpAll K G xs ds ∧ sortB ds = true ∧
  ∀ us p, H p = none → DpAll K G us (sortD ds) → Q (.ref p) (upd H p (.lst us))
theorem each_of {G : Hp} : ∀ {xs : List V} {ds : List PyData} {us : List Value}, DpAll K G xs ds → Vals xs us → PySem.W.EachIs (fun v d => ∃ x, RelV x v ∧ Dp K G x d) us ds
  | _, _, _, .nil, .nil => .nil
  | _, _, _, .cons h t, .cons r q => .cons ⟨_, r, h⟩ (each_of t q)
theorem of_each {G : Hp} : ∀ {ds : List PyData} {us : List Value}, PySem.W.EachIs (fun v d => ∃ x, RelV x v ∧ Dp K G x d) us ds → ∃ xs, Vals xs us ∧ DpAll K G xs ds
  | _, _, .nil => ⟨[], .nil, .nil⟩
  | _, _, .cons ⟨x, r, h⟩ t => by
    obtain ⟨xs, h1, h2⟩ := of_each t
    exact ⟨x :: xs, .cons r h1, .cons h h2⟩
theorem each_reads {G : Hp} {pins : List (Addr × Obj)} {σ : L2.St} {H : Hp} {s : Shared} (I : Inv X pins σ H s) (ex : Ex G H) : ∀ {xs : List V} {ds : List PyData} {us : List Value}, DpAll X.K G xs ds → Vals xs us → (∀ d ∈ ds, SeqAt.shaped d = true) → PySem.W.EachIs (fun v d => ∃ as, Reads s.heap v d as) us ds
  | _, _, _, .nil, .nil, _ => .nil
  | _, _, _, .cons h t, .cons r q, c => .cons (L2.Dp.reads I _ _ _ (dp_l2 _ _ (SeqAt.canLay_of_shaped (c _ List.mem_cons_self)) (h.ex ex)) r) (each_reads I ex t q fun d hd => c d (List.mem_cons_of_mem _ hd))
theorem sortB_shaped {ds : List PyData} (h : sortB ds = true) : (∀ d ∈ ds, SeqAt.shaped d = true) ∧ ds.length ≤ 1000000 := by
  unfold sortB at h
  simp only [Bool.and_eq_true, List.all_eq_true, decide_eq_true_eq] at h
  exact ⟨h.1.2, h.2⟩
theorem cr_sortedD (hu : X.A.units + 70 < cLine) : CallR X (.builtin "sorted") (rSortedD X.K) := by
  intro pins s σ H vs us Q I r h
  obtain ⟨G, a, xs, ds, ex, rfl, hs, hd, hb, q⟩ := h
  obtain ⟨its, rv, hl, hz⟩ := I.list hs
  rw [Vals.ref1 r]
  refine sorted_any hl.isList (each_of hd rv) (each_reads I ex hd rv (sortB_shaped hb).1) hb hu fun out h1 h2 => ?_
  obtain ⟨ys, r2, h3⟩ := of_each h2
  obtain ⟨ep, he'⟩ := PyProof.Rows.sortedAll_at s.heap its out.toArray
  have hlen : ys.length ≤ sizeLine := by
    rw [r2.length, h1, sizeLine_eq]
    have := (sortB_shaped hb).2
    omega
  exact ⟨.ref _, upd H (s.heap.objs.size + 1) (.lst ys), I.laid (t' := s.toks) (fun _ _ => PyProof.Rows.sortedAll_old) (Nat.le_succ _) ⟨hlen, out, ep, r2, he'⟩, rfl, q ys _ (I.hok.fresh (Nat.le_succ _)) h3⟩
def dSortO : List PyData → Option (List PyData)
  | [.list ds] => if sortB ds then some (sortD ds) else none
  | _ => none
theorem dn_sorted : DNo K (rSortedD K) dSortO := by
  intro G F H xs ds z Q ex hx hf k
  match ds, hx, hf with
  | [.list ds], hx, hf =>
    obtain ⟨v, rfl, h⟩ := dq1 hx
    obtain ⟨a, us, rfl, h1, h2⟩ := h.list ex
    simp only [dSortO] at hf
    split at hf
    · rename_i hb
      cases hf
      exact ⟨G, a, us, ds, ex, rfl, .inl h1, h2, hb, fun ws p hp hw => k p ws hp hw⟩
    · cases hf
end
end Dv

/-! the program's text by facts; a new list handed on; the end of a law -/
namespace Dv
open PySem PySem.Spec PyProof.Rows L2
/-! ### facts -/
mutual
def rdB (K : PySem.W.Frag) : PyData → Value → Bool
  | .none, .none => true
  | .bool b, .bool c => b == c
  | .int i, .int j _ => decide (i = j)
  | .str x, .str y _ => decide (x = y)
  | .tuple ds, .ref a => match K.lookup a with
    | some ⟨.type c, _, .seq its _, _⟩ => decide (c = "tuple") && (decide (its.size ≤ sizeLine) && rdBs K ds its.toList)
    | _ => false
  | _, _ => false
def rdBs (K : PySem.W.Frag) : List PyData → List Value → Bool
  | [], [] => true
  | d :: ds, u :: us => rdB K d u && rdBs K ds us
  | _, _ => false
end
mutual
theorem rdB_ok {K : PySem.W.Frag} : ∀ (d : PyData) (u : Value), rdB K d u = true → ∃ v, RelV v u ∧ ∀ G, Dp K G v d
  | .none, u, h => by
    cases u <;> first | exact ⟨.non, rfl, fun _ => .non⟩ | (simp [rdB] at h)
  | .bool b, u, h => by
    cases u <;> first | (simp [rdB] at h; done) | skip
    rename_i c
    simp [rdB] at h
    subst h
    exact ⟨.bl b, rfl, fun _ => .bl b⟩
  | .int i, u, h => by
    cases u <;> first | (simp [rdB] at h; done) | skip
    rename_i c t
    simp [rdB] at h
    subst h
    exact ⟨.int i, ⟨t, rfl⟩, fun _ => .int i⟩
  | .str x, u, h => by
    cases u <;> first | (simp [rdB] at h; done) | skip
    rename_i c t
    simp [rdB] at h
    subst h
    exact ⟨.str x, ⟨t, rfl⟩, fun _ => .str x⟩
  | .list ds, u, h => by cases u <;> simp [rdB] at h
  | .dict ds, u, h => by cases u <;> simp [rdB] at h
  | .tuple ds, u, h => by
    cases u <;> first | (simp [rdB] at h; done) | skip
    rename_i a
    unfold rdB at h
    split at h
    · rename_i q
      simp only [Bool.and_eq_true, decide_eq_true_eq] at h
      obtain ⟨h1, h2, h3⟩ := h
      subst h1
      obtain ⟨vs, h4, h5⟩ := rdBs_ok ds _ h3
      exact ⟨.ref a, rfl, fun G => .tup (.inr ⟨_, _, _, q, rfl, rfl, h2, h4⟩) (h5 G)⟩
    · cases h
theorem rdBs_ok {K : PySem.W.Frag} : ∀ (ds : List PyData) (us : List Value), rdBs K ds us = true → ∃ vs, Vals vs us ∧ ∀ G, DpAll K G vs ds
  | [], [], _ => ⟨[], .nil, fun _ => .nil⟩
  | [], _ :: _, h => by simp [rdBs] at h
  | _ :: _, [], h => by simp [rdBs] at h
  | d :: ds, u :: us, h => by
    simp only [rdBs, Bool.and_eq_true] at h
    obtain ⟨v, h1, h2⟩ := rdB_ok d u h.1
    obtain ⟨vs, h3, h4⟩ := rdBs_ok ds us h.2
    exact ⟨v :: vs, .cons h1 h3, fun G => .cons (h2 G) (h4 G)⟩
end
def cnB (K : PySem.W.Frag) (q : Str × PyData) : Bool := match PySem.W.nsIn K mainGlobals q.1 with
  | some (some u) => rdB K q.2 u
  | _ => false
structure Tx (fa : List He.Fa) (fn : List He.DefD) (cs : List (Str × PyData)) (K : PySem.W.Frag) (mg : Str → Option Value) : Prop where
  kin : ∃ h : Heap, K.In h ∧ h.Ns mainGlobals mg
  d : He.SaysD fa fn K
  c : (cs.all fun q => cnB K q) = true
def fdOf (K : PySem.W.Frag) (x : Str) : FuncData := match K.lookup (He.ga K x) with
  | some ⟨_, _, .func fd, _⟩ => fd
  | _ => PySem.W.fnOf x x ⟨[], [], none, [], [], none, []⟩ [] ⟨.function, [], false, false, []⟩ .none .none .none .none none .none .none
abbrev mkD (x : Str) (st : Stmt) : He.DefD := ⟨(x, none), x, x, defArgs st, defBody st, defScope st, [], []⟩
abbrev FnP (K : PySem.W.Frag) (x : Str) (st : Stmt) : Prop := FunD K x x (defArgs st) (defBody st) (defScope st) [] [] (He.ga K x) (fdOf K x)
section
variable {fa : List He.Fa} {fn : List He.DefD} {cs : List (Str × PyData)} {K : PySem.W.Frag} {mg : Str → Option Value} {x : Str} {st : Stmt}
theorem Tx.df (T : Tx fa fn cs K mg) (k : Nat) (h : fn[k]? = some (mkD x st) := by rfl) : FnP K x st := by
  obtain ⟨fd, F⟩ := T.d.def_ k (d := mkD x st) h
  have F' : FunD K x x (defArgs st) (defBody st) (defScope st) [] [] (He.ga K x) fd := F
  obtain ⟨oc, od, dV, kV, doc, pm, an, cdv, ct, osl, e, lk, r⟩ := F'.ex
  have e2 : fdOf K x = fd := by
    unfold fdOf
    rw [lk]
  show FunD K x x (defArgs st) (defBody st) (defScope st) [] [] (He.ga K x) (fdOf K x)
  rw [e2]
  exact F'
theorem Tx.glo (T : Tx fa fn cs K mg) (k : Nat) (h : fa[k]? = some (.glo x) := by rfl) : mg x = some (.ref (He.ga K x)) := by
  obtain ⟨h0, X, G⟩ := T.kin
  exact He.glo_ok X G (T.d.fact k (f := .glo x) h)
theorem Tx.fre (T : Tx fa fn cs K mg) (k : Nat) (h : fa[k]? = some (.free x) := by rfl) : mg x = none := by
  obtain ⟨h0, X, G⟩ := T.kin
  exact He.free_ok X G (T.d.fact k (f := .free x) h)
theorem Tx.cn (T : Tx fa fn cs K mg) (k : Nat) {d : PyData} (h : cs[k]? = some (x, d) := by rfl) : ∃ v u, mg x = some u ∧ RelV v u ∧ ∀ G, Dp K G v d := by
  obtain ⟨h0, X, G⟩ := T.kin
  have c := List.all_eq_true.mp T.c _ (List.mem_of_getElem? h)
  unfold cnB at c
  split at c
  · rename_i u q
    obtain ⟨v, h1, h2⟩ := rdB_ok d u c
    exact ⟨v, u, PySem.W.mg_of X G q, h1, h2⟩
  · cases c
theorem x_con {S : Type} {X : Cx} {c : Ctx X.K S} {pos : Pos} (T : Tx fa fn cs X.K X.mg) (k : Nat) {d : PyData} (hg : Gl X x) (h : cs[k]? = some (x, d) := by rfl) (hdb : (x == ("__debug__" : Str)) = false := by decide) : PE X (.Name x pos) (tE c (eC d)) := by
  obtain ⟨v, u, h1, h2, h3⟩ := T.cn k h
  exact k_glob hg h1 h2 h3 hdb
end
abbrev AlV : Type := He.AlD × Bool
def obsV (fa : List He.Fa) (fn : List He.DefD) (cs : List (Str × PyData)) (K : PySem.W.Frag) : AlV := (He.obsD fa fn K, cs.all fun q => cnB K q)
def obsVG (n : Nat) (fa : List He.Fa) (fn : List He.DefD) (cs : List (Str × PyData)) (g : Addr → Option Obj) : AlV := obsV fa fn cs (He.frG g (He.asD g n))
def hookV (n : Nat) (fa : List He.Fa) (fn : List He.DefD) (cs : List (Str × PyData)) : PySem.W.Hook where
  α := AlV
  obs := fun s => obsVG n fa fn cs s.heap.get?
  val := fun _ => (He.valD fn, true)
  says := fun _ h => ∃ K : PySem.W.Frag, K.In h ∧ obsV fa fn cs K = (He.valD fn, true)
  of := fun _ _ e => ⟨_, He.frG_in, e⟩
  keeps := fun _ _ _ ⟨K, hK, c⟩ k => ⟨K, PySem.W.Frag.In.keeps hK k, c⟩
theorem obsVG_eq {n : Nat} {fa : List He.Fa} {fn : List He.DefD} {cs : List (Str × PyData)} {g : Addr → Option Obj} {s : Shared} (h : ∀ a, g a = s.heap.get? a) : obsVG n fa fn cs g = (hookV n fa fn cs).obs s := by
  have e : g = s.heap.get? := funext h
  rw [e] <;> rfl
theorem tx_of {fa : List He.Fa} {fn : List He.DefD} {cs : List (Str × PyData)} {K : PySem.W.Frag} {mg : Str → Option Value} {h : Heap} (X : K.In h) (G : h.Ns mainGlobals mg) (e : obsV fa fn cs K = (He.valD fn, true)) : Tx fa fn cs K mg :=
  ⟨⟨h, X, G⟩, congrArg (fun z : AlV => z.1) e, congrArg (fun z : AlV => z.2) e⟩

/-! ### small things -/
section
variable {K : PySem.W.Frag} {S : Type} {X : Cx} {c : Ctx K S} {e tg : Expr} {m : M S PyData} {k : Nat}
theorem i_sq {c : Ctx X.K S} (h : PE X e (tE c m)) : PI X tg e (tI c (iS m)) := i_seq h (pi_seq h)
theorem RoomG.u65 {A : Around} (r : RoomG k A) : A.units + 65 < cLine := by have := r.rm.un; omega
theorem RoomG.u64 {A : Around} (r : RoomG k A) : A.units + 64 < cLine := by have := r.rm.un; omega
theorem RoomG.u70 {A : Around} (r : RoomG k A) : A.units + 70 < cLine := by have := r.rm.un; omega
theorem y_chain {a b b2 : Expr} {op op' : CmpOp} {r r' : R2} {f g : PyData → PyData → Option PyData} {pos : Pos} {ma mb mc : M S PyData} (hd : D2 K r f) (hd' : D2 K r' g) (h : PT X (.Compare a [op, op'] [b, b2] pos) (tTest (tChain r r' (tB c ma) (tB c mb) (tB c mc)))) :
    PT X (.Compare a [op, op'] [b, b2] pos) (tT c (tV (eChain f g ma mb mc))) := h.imp fun _ _ _ h => tt_run (fun _ h => chain_run hd hd' h) h
/-- as many turns as the int in slot i, and one more -/
def fuelV {S : Type} (i : Nat) : S → En → Nat := fun _ env => match env[i]? with
  | some (.val (.int k)) => k.natAbs + 2
  | _ => 0
end

/-! ### a def that gives a new list -/
def spO (K : PySem.W.Frag) (n : Nat) (F : List PyData → Option (List PyData)) : Sp := fun vs H Q _ => ∃ G ds r, Ex G H ∧ DpAll K G vs ds ∧ vs.length = n ∧ F ds = some r ∧
  ∀ a us H' G', Gr G H G' H' → H' a = some (.lst us) → DpAll K G' us r → G' a = none → H a = none → Q (.ref a) H'
section
variable {K : PySem.W.Frag} {P : Program} {w : World} {mg : Str → Option Value} {base : Heap}
def tSO {S : Type} (c : Ctx K S) (u : SM S) (mo : M S (List PyData)) : TS := fun D σ H => ∃ G F env s s1 env1 r s', Rel c σ H G F env s ∧ u s env = some (.nx, s1, env1) ∧ mo s1 env1 = some (r, s') ∧
  ∀ a vs H' G' F', RgOk c.R G' F' H' s' → Mv c.G0 c.F0 c.H0 G' F' H' → H' a = some (.lst vs) → DpAll K G' vs r → G' a = none → ¬ F' a → c.H0 a = none → D.rt (.ref a) H'
theorem b_retO {S : Type} {X : Cx} {c : Ctx K S} {st : Stmt} {e : Expr} {pos : Pos} {u : SM S} {mo : M S (List PyData)} (h1 : PS X st (tS c u)) (h2 : PE X e (tO c mo)) : PSs X [st, .Return (some e) pos] (tSO c u mo) :=
  (pss_cons h1 (pss_one (ps_ret h2))).imp fun D σ H ⟨G, F, env, s, s1, env1, r, s', R, hu, hm, k⟩ => by
    refine ⟨G, F, env, s, .nx, s1, env1, R, hu, fun σ1 H1 G1 F1 R1 e1 => ?_⟩
    refine ⟨G1, F1, env1, s1, r, s', R1, hm, fun a vs H2 G2 F2 R2 M2 ha hd hg hf hn => ?_⟩
    exact k a vs H2 G2 F2 R2.rg R2.mv ha hd hg hf (none_back R1.mv.there hn)
def fnO (n : Nat) (u : SM Unit) (mo : M Unit (List PyData)) : List PyData → Option (List PyData) := fun ds => match u () (env0 n ds) with
  | some (.nx, s, env) => (mo s env).map (·.1)
  | _ => none
theorem fn_own {x q : Str} {st : Stmt} {f : Addr} {fd : FuncData} {N ps : List Str} {k : Nat} {u : SM Unit} {mo : M Unit (List PyData)} (F : FunD K x q (defArgs st) (defBody st) (defScope st) [] [] f fd) (sc : FnScope N ps (defScope st)) (hn : ps.length ≤ N.length)
    (body : ∀ (c : Ctx K Unit) (cdv : Value) (A : Around) (outer : List Env) (s : Shared) (H : Hp) (E : XK), RoomG k (A.deeper (envOfC q (defScope st) s.heap.objs.size f cdv)) → PSs (cxOf CX0 P w K mg base N q (defScope st) f cdv A outer s H E).nox (defBody st) (tSO c u mo)) :
    FnG P w K mg base (k + 1) f fd ps (spO K ps.length (fnO N.length u mo)) := by
  refine fn_G F sc (fun vs H Q E ⟨_, _, _, _, _, l, _⟩ => l) fun cdv A outer s H vs Q E hr h => ?_
  obtain ⟨G, ds, r, ex, hd, hl, hf, kq⟩ := h
  refine ⟨tSO ⟨noR K, G, fun _ => False, H⟩ u mo, (body ⟨noR K, G, fun _ => False, H⟩ cdv A outer s H E hr).nox, ?_⟩
  have hds : ds.length = ps.length := by rw [← hd.length]; exact hl
  have R0 : Rel (⟨noR K, G, fun _ => False, H⟩ : Ctx K Unit) (L2.start N vs) H G (fun _ => False) (env0 N.length ds) () := by
    refine ⟨⟨ex, fun _ z => z.elim, fun _ z => z.elim, fun _ z => z⟩, Mv.refl _ _ _, ?_, fun i sv q => ?_, fun i j es fs q => (env0_no q).elim, fun i j es rs fs q => (env0_no1 q).elim⟩
    · rw [start_len N vs (by omega)]
      unfold env0
      rw [List.length_append, List.length_map, List.length_replicate]
      omega
    · rcases env0_at q with ⟨d, h1, h2⟩ | h2
      · subst h2
        obtain ⟨v, h3, h4⟩ := hd.get h1
        exact ⟨v, start_at h3, h4⟩
      · subst h2
        trivial
  have gr : ∀ {H' G' : Hp} {F' : Addr → Prop}, RgOk (noR K) G' F' H' () → Mv G (fun _ => False) H G' F' H' → Gr G H G' H' := fun r m => ⟨m.g, fun a o q => m.h a o (fun z => z) q, r.ex, m.new⟩
  unfold fnO at hf
  cases hm : u () (env0 N.length ds) with
  | none =>
    rw [hm] at hf
    cases hf
  | some o =>
    obtain ⟨fl, v, env'⟩ := o
    rw [hm] at hf
    cases fl with
    | nx =>
      obtain ⟨⟨z, s2⟩, h5, h6⟩ := some_map hf
      subst h6
      exact ⟨G, _, _, (), v, env', _, s2, R0, hm, h5, fun a us H' G' F' r m ha hd hg _ hn => kq a us H' G' (gr r m) ha hd hg hn⟩
    | rt d => cases hf
    | bk => cases hf
    | ct => cases hf
end
/-- f(g(..)): g gives a new list, f is handed it as its own mutable thing -/
def eNew {S : Type} (F : List PyData → Option (List PyData)) (R : List PyData → List PyData → Option (PyData × List PyData)) (a : M S (List PyData)) : M S PyData := fun s env => (a s env).bind fun p => (F p.1).bind fun z => (R z []).map fun q => (q.1, p.2)
section
variable {K : PySem.W.Frag} {S : Type} {X : Cx} {c : Ctx K S} {e : Expr} {es : List Expr} {pos p pos2 p2 : Pos} {x y : Str} {ms : List (M S PyData)}
theorem new_run {σ : L2.St} {H : Hp} {Q : VK} {n : Nat} {F : List PyData → Option (List PyData)} {R : List PyData → List PyData → Option (PyData × List PyData)} {E E2 : XK} (hn : ms.length = n) (h : tE c (eNew F R (aAll ms)) σ H Q) :
    tCall (spR K (IsPot K) 0 R) [] E (tCons (tCall (spO K n F) [] E2 (tAE c (aAll ms))) tNil) σ H Q := by
  obtain ⟨G, Fp, env, s, z, s', Rl, hm, k⟩ := h
  obtain ⟨⟨ds, s1⟩, h1, hm⟩ := some_bind hm
  obtain ⟨st, h2, hm⟩ := some_bind hm
  obtain ⟨⟨r, st'⟩, h3, e0⟩ := some_map hm
  injection e0 with e1 e2
  subst e1 e2
  refine ⟨G, Fp, env, s, ds, s1, Rl, h1, fun vs H1 G1 F1 R1 M1 D1 => ?_⟩
  refine ⟨G1, ds, st, R1.ex, by rw [List.append_nil]; exact D1, by rw [List.append_nil, D1.length, aAll_len h1]; exact hn, h2, fun a us H2 G2 g2 ha hd hg hn1 => ?_⟩
  show spR K (IsPot K) 0 R ([V.ref a] ++ []) H2 Q E
  refine ⟨potR K a, G2, fun b => b = a, st, [], [], r, st', ⟨a, rfl⟩, ⟨g2.ex, fun b hb => by rw [hb]; exact hg, fun b hb => ⟨.lst us, by rw [hb]; exact ha⟩, fun _ => Iff.rfl, us, ha, hd⟩, rfl, rfl, .nil, h3, fun v H3 G3 F3 r3 m3 D3 => ?_⟩
  have g3 : Gr G1 H1 G3 H3 := ⟨g2.g.trans m3.g, fun b o q => m3.h b o (fun z => by rw [z] at q; rw [hn1] at q; cases q) (g2.h b o q), r3.ex, fun b o q => by
    rcases m3.new b o q with q | q
    · exact g2.new b o q
    · exact .inr (g2.h.none q)⟩
  exact k v H3 G3 F1 (R1.gr g3) (M1.trans (Mv.of_gr g3)) D3
end

/-! ### the end of a law -/
section
theorem law_callG {P : Program} {w : World} {K : PySem.W.Frag} {mg mb : Str → Option Value} {k : Nat} {fa a : Addr} {fd : FuncData} {x : Str} {sp : Sp} {s₁ : Shared} {vs : List Value} {ns : List Int}
    (KX : K.In s₁.heap) (hns : s₁.heap.Ns mainGlobals mg) (hb : s₁.heap.Ns builtinsNs mb) (hbb : ∀ x : Str, x ≠ "__name__" → mb x = bootBuiltins x) (hlim : s₁.heap.NoLimit) (hg : s₁.gens = #[])
    (ha : s₁.heap.get? a = some { cls := .type "list", data := .seq vs.toArray }) (hi : IntsAre vs ns) (hl : ns.length ≤ sizeLine) (hr : RoomG k callerA)
    (F : ∀ base : Heap, K.In base → base.Ns mainGlobals mg → FnG P w K mg base k fa fd [x] sp) (hbind : ∀ (s : Shared) (u : Value), BindsTo s fd ⟨[u], []⟩ [(x, u)])
    (hsp : ∀ H : Hp, SqL K H a (ns.map V.int) → sp [.ref a] H (fun v _ => v = .bl true) fun _ _ _ => False) :
    codeAny (model P w) callerA (.call (.ref fa) ⟨[.ref a], []⟩) (fun r s' => r = .ok (.ret (.bool true)) ∧ OldK s₁.heap s'.heap ∧ s'.os = s₁.os ∧ AllBare s'.gens) s₁ := by
  have rv := vals_ints hi
  have lenV := hi.length
  have core : ∀ H : Hp, Only H → SqL K H a (ns.map V.int) → HOk P w H s₁.heap → (∀ b, H b ≠ none → b = a) → (H a ≠ none → K.lookup a = none) →
      codeAny (model P w) callerA (.call (.ref fa) ⟨[.ref a], []⟩) (fun r s' => r = .ok (.ret (.bool true)) ∧ OldK s₁.heap s'.heap ∧ s'.os = s₁.os ∧ AllBare s'.gens) s₁ := by
    intro H hO hS hok hA hK
    have base_of : ∀ {b : Addr} {o : Obj}, s₁.heap.get? b = some o → H b = none → (hidT s₁.heap H).get? b = some o := fun e n => hidT_get e n
    have noA : ∀ {b : Addr} {o : Obj} {es : Array DictEntry} {ep : Nat}, s₁.heap.get? b = some o → o.data = .dict es ep → H b = none := fun {b o es ep} e d => by
      cases q : H b with
      | none => rfl
      | some u =>
        have e' : b = a := hA b (by rw [q]; simp)
        subst e'
        rw [ha] at e; cases e
        have d' : Data.seq vs.toArray _ = Data.dict es ep := d
        cases d'
    have nsK : ∀ {b : Addr} {m : Str → Option Value}, s₁.heap.Ns b m → (hidT s₁.heap H).Ns b m := fun {b m} ⟨o, es, ep, e, d, r⟩ => ⟨o, es, ep, base_of e (noA e d), d, r⟩
    have hKb : K.In (hidT s₁.heap H) := fun b o e => base_of (KX b o e) (by
      cases q : H b with
      | none => rfl
      | some u =>
        have e' : b = a := hA b (by rw [q]; simp)
        subst e'
        rw [hK (by rw [q]; simp)] at e; cases e)
    have hM : Mod K mg (hidT s₁.heap H) := ⟨hKb, nsK hns, ⟨mb, nsK hb, hbb⟩, let ⟨mc, h1, h2⟩ := hlim; ⟨mc, nsK h1, h2⟩⟩
    have e0 : Env0 P w K mg (hidT s₁.heap H) callerA [] s₁ H := ⟨rfl, hM, fun b o e => of_hidT e, Nat.le_of_eq (hidT_size _ _), trivial, fun b hb => absurd (show b ∈ ([] : List Addr) from hb) (by simp), hok, .of_eq hg⟩
    refine codeAny_mono ((F _ hKb (nsK hns)).run callerA [] s₁ H ⟨[.ref a], []⟩ [.ref a] [.ref a] _ _ hr e0 (hbind s₁ (.ref a)) (.cons rfl .nil) (hsp H hS)) fun r s' h => ?_
    cases r with
    | error e => exact False.elim h
    | ok fl =>
      cases fl with
      | next => exact False.elim h
      | brk => exact False.elim h
      | cont => exact False.elim h
      | ret u =>
        obtain ⟨v, H', os, bare, un, hok', r', q⟩ := h
        have q' : v = .bl true := q
        subst q'
        obtain rfl : u = Value.bool true := r'
        refine ⟨rfl, OldK.of_keep fun b o e => ?_, os, bare⟩
        cases q : H b with
        | none => exact un.keep b o e q (by intro z; exact absurd (show b ∈ ([] : List Addr) from z) (by simp)) (by simp)
        | some u =>
          rcases hO b with z | ⟨ob, xs, z⟩
          · rw [q] at z; cases z
          · have z2 := un.frzs b ob _ z
            obtain ⟨e1, _⟩ := hok b _ z
            obtain ⟨e2, _⟩ := hok' b _ z2
            rw [e] at e1; cases e1
            exact e2
  cases hk : K.lookup a with
  | some o =>
    have e := KX a o hk
    rw [ha] at e
    cases e
    refine core (fun _ => none) (fun _ => .inl rfl) (.inr ⟨_, vs.toArray, _, hk, rfl, rfl, rfl, by rw [List.size_toArray, lenV]; exact hl, by simpa using rv⟩) (fun b u z => by have z' : (none : Option HO) = some u := z; cases z') (fun b z => absurd rfl z) fun z => absurd rfl z
  | none =>
    refine core (fun b => if b = a then some (.frz { cls := .type "list", data := .seq vs.toArray } (.lst (ns.map V.int))) else none) (fun b => ?_) (.inl (.inr ⟨{ cls := .type "list", data := .seq vs.toArray }, if_pos rfl⟩)) (fun b u z => ?_) (fun b z => ?_) fun _ => hk
    · by_cases hb : b = a
      · exact .inr ⟨_, _, if_pos hb⟩
      · exact .inl (if_neg hb)
    · by_cases hb : b = a
      · have z' := (if_pos hb).symm.trans z
        cases z'
        subst hb
        exact ⟨ha, by rw [List.length_map]; exact hl, vs, _, rv, ha⟩
      · have z' := (if_neg hb).symm.trans z
        cases z'
    · by_cases hb : b = a
      · exact hb
      · exact absurd (if_neg hb) z
/-- the law's def f, its function G of the script: true at every script -/
theorem walk_G {l : PySem.W.OpenLaw} {n k : Nat} {q : Program} {loose : List Str} {XP : (Str → Option Value) → Heap → Prop} {d : DefRec} {fa : List He.Fa} {fn : List He.DefD} {cs : List (Str × PyData)} {nn : Nat} {x y : Str} {st : Stmt} {G : List PyData → Option PyData}
    (hn : l.most = some n) (hn2 : n ≤ sizeLine) (hdf : d.params.defaults = []) (hr : RoomG k callerA) (hx : d.name = x) (k1 : Nat) (h1 : fn[k1]? = some (mkD x st)) (k2 : Nat) (h2 : fa[k2]? = some (.glo x))
    (hb : ∀ (kV doc pm : Value) (an : Option Addr) (cdv ct : Value) (us : List Value), us.length = [y].length → bindArgs (PySem.W.fnOf x x (defArgs st) (defBody st) (defScope st) .none kV doc pm an cdv ct) ⟨us, []⟩ = pure ([y].zip us))
    (F : ∀ {K : PySem.W.Frag} {mg : Str → Option Value} {w : World} {base : Heap}, Tx fa fn cs K mg → FnG l.prog w K mg base k (He.ga K x) (fdOf K x) [y] (spP K 1 G))
    (hG : ∀ ns : List Int, ns.length ≤ n → G [.dict [(.none, .list (ns.map .int))]] = some (.bool true)) :
    PySem.W.WalkO q loose XP (hookV nn fa fn cs).says l.row.toRowW d [] (fun f vs => PySem.call f vs) := by
  refine Att.attach_call hn hdf fun w s₀ s₁ mg mb fad o pm cd doc a vs ns Gd Y ho hd hcd hmg hobj hints hlen hg => ?_
  obtain ⟨K, KX, e⟩ := Y
  have T : Tx fa fn cs K mg := tx_of KX Gd.T.g e
  have hm : mg x = some (.ref (He.ga K x)) := T.glo k2 h2
  rw [hx] at hmg
  have ea := hmg.symm.trans hm
  injection ea with ea
  injection ea with ea
  subst ea
  have FD : FnP K x st := T.df k1 h1
  refine law_callG (sp := spP K 1 G) KX Gd.T.g Gd.T.b Gd.T.builtins Gd.T.nolimit hg hobj hints (Nat.le_trans hlen hn2) hr (fun base _ _ => F T) (fun s v => FunD.bindsA (ps := [y]) FD hb s [v] rfl) fun H hS => ?_
  exact ⟨H, [.dict [(.none, .list (ns.map .int))]], .bool true, Ex.refl _, .cons (.scr hS) .nil, rfl, hG ns hlen, fun v H' G' _ D => by cases D; rfl⟩
end
end Dv

/-! enumerate of a list or a tuple -/
namespace Dv
open PySem PySem.Spec PyProof.Rows L2

theorem meets_enum1 {v : Value} {o : Obj} {H : Heap → Prop} (B : Begins v o H) : Meets (Builtin.«enumerate.__new__» ⟨[.type "enumerate", v], []⟩) (fun _ R s => H s.heap ∧
      R (.ok (.ret (.ref (s.heap.push o).objs.size))) { s with heap := (s.heap.push o).push { cls := .type "enumerate", data := .fields #[.none, .bool false, .ref s.heap.objs.size, rawInt 0, .none, .none] } }) :=
  .of_wp fun P w A R s hR => by
    obtain ⟨hp, g, d, tk, os⟩ := s
    obtain ⟨hH, hR⟩ := hR
    have sb := sub_enumerate
    have q1 : ∀ {A' : Around} {E Q : Value → Shared → Prop}, Q (.ref hp.objs.size) ⟨hp.push o, g, d, tk, os⟩ → wpAny (model P w) A' (pyIter v) Q E ⟨hp, g, d, tk, os⟩ := fun q => B.iter P w _ _ ⟨hp, g, d, tk, os⟩ _ hH q
    wp_walk using q1
    refine wpAny_stack_any fun _ => wpAny_pure ?_
    split
    · rename_i c _ _ _ _ _
      cases c == Value.type "enumerate" <;>
      · wp_walk using q1
        exact ⟨_, rfl, hR⟩
    · wp_walk using q1
      exact ⟨_, rfl, hR⟩
theorem enum_begins1 {P : Program} {w : World} {A : Around} {E : Value → Shared → Prop} {s : Shared} {v : Value} {o : Obj} {H : Heap → Prop} {Q : Value → Shared → Prop} (B : Begins v o H) (hH : H s.heap)
    (h : ∀ h', IsEnum h' (s.heap.objs.size + 1) s.heap.objs.size 0 .none → h'.get? s.heap.objs.size = some o → (∀ b u, s.heap.get? b = some u → h'.get? b = some u) → Q (.ref (s.heap.objs.size + 1)) { s with heap := h' }) :
    wpAny (model P w) A (call (.type "enumerate") [v]) Q E s := by
  refine callType_new F.called_enumerate (by decide) (F.typeCall_enumerate_1 _) (F.newCall_enumerate_1 _) (fun ob => F.args_object_init_2 ob _) F.entry_enumerate_new (meets_enum1 B) ⟨hH, ?_⟩
  have hz : (s.heap.push o).objs.size = s.heap.objs.size + 1 := Heap.size_push ..
  show _ ∧ _
  rw [hz]
  have he : IsEnum ((s.heap.push o).push { cls := .type "enumerate", data := .fields #[.none, .bool false, .ref s.heap.objs.size, rawInt 0, .none, .none] }) (s.heap.objs.size + 1) s.heap.objs.size 0 .none := by
    have t := Heap.get?_push_size (s.heap.push o) (o := { cls := .type "enumerate", data := .fields #[.none, .bool false, .ref s.heap.objs.size, rawInt 0, .none, .none] }) rfl
    rw [hz] at t
    exact t
  exact ⟨⟨_, he, rfl⟩, h _ he (Heap.get?_push_of_some _ (Heap.get?_push_size _ B.free)) fun b u x => Heap.get?_push_of_some _ (Heap.get?_push_of_some _ x)⟩

def Iteg (K : PySem.W.Frag) (k : Bool) (a : Addr) : It :=
  ⟨fun i H => ∃ (xs : List V) (x : V), SqK k K H a xs ∧ xs[i]? = some x,
    fun i H v H' => ∃ T x, v = .ref T ∧ H T = none ∧ H' = upd H T (.tup [.int (i : Nat), x]) ∧ ∀ xs, SqK k K H a xs → xs[i]? = some x,
    fun i H => ∃ xs : List V, SqK k K H a xs ∧ xs.length = i⟩
theorem turn_enumG {P : Program} {w : World} {K : PySem.W.Frag} {elts : List Expr} {kk : Nat} {tpos : Pos} (k : Bool) {a e it : Addr} (hne : e ≠ it) (hea : e ≠ a) (hai : a ≠ it) :
    Turn P w K (.Tuple elts kk tpos) (Iteg K k a) [e, it] e (fun i h => (∃ old, IsEnum h e it ((i : Nat) : Int) old) ∧ ItK k h it a i) where
  mem := by simp
  obj := fun i h st c hc => by
    obtain ⟨⟨old, he⟩, hit⟩ := st
    have e' : c = e ∨ c = it := by simpa using hc
    rcases e' with q | q
    · rw [q]; exact ⟨_, he, fun v q => nomatch q⟩
    · rw [q]; exact hit.obj
  keep := fun i h h' st k' => by
    obtain ⟨⟨old, he⟩, hit⟩ := st
    exact ⟨⟨old, k' e (by simp) _ he⟩, hit.at fun o q => k' it (by simp) o q⟩
  item := by
    intro X hP hw hK hc i pins s σ H E I hf st hg
    subst hP hw hK
    obtain ⟨⟨old, he⟩, hit⟩ := st
    obtain ⟨xs, x, hq, hx⟩ := hg
    obtain ⟨its, rv, p⟩ := sqk_is I hq
    obtain ⟨u, hu, ru⟩ := rv.get hx
    have hel : e < s.heap.objs.size := Heap.lt_size he
    have hh : X.A.in1.handled = none := I.ok.hd hc
    have l1 : i < its.toArray.size := by simpa using (List.getElem?_eq_some_iff.mp hu).1
    refine wpAny_pyNext_enum_itemD (drawsK hh k it a hai its.toArray) he ⟨hit, p⟩ l1 hne (by simp [hne, hea]) fun x1 h' tk e1 ho st' hT hsz hk => ?_
    have eu : x1 = u := by
      have e1 : its.toArray[i]? = some x1 := e1
      rw [List.getElem?_toArray, hu] at e1
      exact (Option.some.inj e1).symm
    subst eu
    refine ⟨_, rfl, wpAny_letOwnedTupleGo_enum (s := { s with heap := h', toks := tk + 1 }) ho fun h'' he' sb => ?_⟩
    have hT2 : h''.get? s.heap.objs.size = some { cls := .type "tuple", data := .seq #[.int i tk, x1] } := (sb.2 _ (Nat.ne_of_gt hel)).trans hT
    have new : ObjOk X.prog X.w (upd H s.heap.objs.size (.tup [.int (i : Nat), x])) h'' s.heap.objs.size (.tup [.int (i : Nat), x]) :=
      ⟨by show 2 ≤ sizeLine; decide, [.int i tk, x1], .cons ⟨_, rfl⟩ (.cons ru .nil), ⟨_, hT2, rfl, _, rfl⟩⟩
    have I1 : Inv X pins σ (upd H s.heap.objs.size (.tup [.int (i : Nat), x])) { s with heap := h'', toks := tk + 1 } :=
      I.turnedNew (t' := tk + 1) (ch := [e, it]) (fun c o hb q => (sb.2 c (fun q' => hb (by simp [q']))).trans (hk c o (fun q' => hb (by simp [q'])) (fun q' => hb (by simp [q'])) q)) hf (Nat.le_refl _) new
    refine ⟨.ref s.heap.objs.size, _, I1, rfl, ⟨_, x, rfl, I.hok.fresh (Nat.le_refl _), rfl, fun l hl => by rw [sqk_inj I hl hq]; exact hx⟩, ⟨⟨x1, ?_⟩, st'.1.at fun o q => (sb.2 _ (Ne.symm hne)).trans q⟩, fun c hcm => ?_⟩
    · have e2 : ((i + 1 : Nat) : Int) = (i : Int) + 1 := by omega
      rw [e2]
      exact he'
    · have hlt : c < s.heap.objs.size := by
        have e' : c = e ∨ c = it := by simpa using hcm
        rcases e' with q | q
        · rw [q]; exact hel
        · rw [q]; obtain ⟨_, e1, _⟩ := hit.obj; exact Heap.lt_size e1
      rw [upd_ne (Nat.ne_of_lt hlt)]
      exact (hf c hcm).1
  done := by
    intro X hP hw hK hc i pins s σ H E I hf st hg
    subst hP hw hK
    obtain ⟨⟨old, he⟩, hit⟩ := st
    obtain ⟨xs, hq, hend⟩ := hg
    obtain ⟨its, rv, p⟩ := sqk_is I hq
    have l1 := rv.length
    have s1 : its.toArray.size = i := by
      have s2 : its.toArray.size = xs.length := by simp [l1]
      exact s2.trans hend
    have hh : X.A.in1.handled = none := I.ok.hd hc
    have hit' : ItK k s.heap it a its.toArray.size := by rw [s1]; exact hit
    exact wpAny_pyNext_enum_endD (drawsK hh k it a hai its.toArray) he ⟨hit', p⟩ fun h' hk => ⟨rfl, I.turnedL (t' := s.toks) (ch := [e, it]) (fun c o hb q => hk c o (fun q' => hb (by simp [q'])) q) hf⟩
  self := fun A i s Q E st h => by
    obtain ⟨⟨_, he⟩, _⟩ := st
    exact wpAny_pyIter_enum he h
def iEnG (K : PySem.W.Frag) (ta : TA) : TI := fun σ H R => ta σ H fun vs H1 => ∃ k a xs, vs = [.ref a] ∧ SqK k K H1 a xs ∧ R (Iteg K k a) H1
theorem pi_enG {X : Cx} {e : Expr} {ta : TA} {p pos tpos : Pos} {elts : List Expr} {kk : Nat} (hg : Gl X "enumerate") (hm : X.mg "enumerate" = none) (ha : PA X [e] ta) (hs : starEach [e] X.env = [(false, eval e X.env)] := by rfl) :
    PI X (.Tuple elts kk tpos) (.Call (.Name "enumerate" p) [e] [] pos) (iEnG X.K ta) := by
  refine ⟨fun pins s σ H R I h => ?_⟩
  refine Call_ (ld_blt I hg hm boot_enumerate (PyProof.Rows.callWith_type1 (thn (ha.run pos pins s σ H _ I h) fun us s1 ⟨vs, H1, I1, r1, q1⟩ => ?_) hs rfl))
  obtain ⟨k, a, xs, ex, hq, q⟩ := q1
  subst ex
  cases r1 with
  | cons r rr =>
    cases rr
    cases r
    obtain ⟨its, rv, p1⟩ := sqk_is I1 hq
    refine enum_begins1 (beginsK k a its.toArray) p1 fun h' he hit hk => wpAny_pyIter_enum he ?_
    have I2 : Inv X pins σ H1 { s1 with heap := h' } := I1.kept (t' := s1.toks) hk
    have hlt : a < s1.heap.objs.size := p1.lt
    refine ⟨s1.heap.objs.size + 1, [s1.heap.objs.size + 1, s1.heap.objs.size], _, _, H1, rfl, I2, turn_enumG k (Nat.succ_ne_self _) (Nat.ne_of_gt (Nat.lt_succ_of_lt hlt)) (Nat.ne_of_lt hlt), ⟨⟨.none, he⟩, ItK.first hit⟩, fun c hcm => ?_, q⟩
    have e' : c = s1.heap.objs.size + 1 ∨ c = s1.heap.objs.size := by simpa using hcm
    have hle : s1.heap.objs.size ≤ c := by
      rcases e' with z | z
      · rw [z]; exact Nat.le_add_right _ _
      · rw [z]; exact Nat.le_refl _
    exact I1.fpOk hle (I1.hok.fresh hle)
def enumD (xs : List PyData) : List PyData := xs.mapIdx fun i x => .tuple [.int (i : Nat), x]
def iEn {S : Type} (m : M S PyData) : M S (List PyData) := fun s env => (m s env).bind fun p => (items p.1).map fun xs => (enumD xs, p.2)
theorem wk_enum {K : PySem.W.Frag} {G : Hp} {k : Bool} {a : Addr} {vs : List V} {ds : List PyData} (hs : SqK k K G a vs) (ha : DpAll K G vs ds) : Wk K (Iteg K k a) (enumD ds) G := fun G1 H1 e ex => ⟨fun i d hd => by
  unfold enumD at hd
  rw [List.getElem?_mapIdx] at hd
  obtain ⟨d1, q1, rfl⟩ := some_map hd
  obtain ⟨v, hv, D1⟩ := ha.get q1
  have s1 := sqk_ex (e.trans ex) hs
  refine ⟨⟨vs, v, s1, hv⟩, fun x H' ⟨T, y, e1, hT, e2, f1⟩ => ?_⟩
  subst e1 e2
  have g1 := f1 vs s1
  rw [hv] at g1
  cases g1
  have g := Gr.laid ex hT (o := .tup [.int (i : Nat), v])
  exact ⟨_, g, .tup (.inl (.inl upd_same)) (.cons (.int _) (.cons ((D1.ex e).ex g.g) .nil))⟩, by
  have l1 := ha.length
  have l3 : (enumD ds).length = ds.length := List.length_mapIdx
  exact ⟨vs, sqk_ex (e.trans ex) hs, by omega⟩⟩
theorem i_enum {K : PySem.W.Frag} {S : Type} {X : Cx} {c : Ctx K S} {e : Expr} {pos p tpos : Pos} {m : M S PyData} {elts : List Expr} {kk : Nat} (ha : PE X e (tE c m)) (hp : ∀ ta, PA X [e] ta → PI X (.Tuple elts kk tpos) (.Call (.Name "enumerate" p) [e] [] pos) (iEnG K ta))
    (hs : starEach (e :: []) X.env = (false, eval e X.env) :: starEach [] X.env := by rfl) : PI X (.Tuple elts kk tpos) (.Call (.Name "enumerate" p) [e] [] pos) (tI c (iEn m)) :=
  (hp _ (f_cons ha f_nil hs)).imp fun σ H R ⟨G, F, env, s, r, s', Rl, hm, k⟩ => by
    obtain ⟨⟨y, s1⟩, h1, hm⟩ := some_bind hm
    obtain ⟨ds, h3, e0⟩ := some_map hm
    injection e0 with e1 e2
    subst e1 e2
    refine ⟨G, F, env, s, [y], s1, Rl, ?_, fun vs H1 G1 F1 R1 M1 D1 => ?_⟩
    · show (m s env).bind _ = _
      rw [h1]
      rfl
    · cases D1 with
      | cons D1 D2 =>
        cases D2
        obtain ⟨k1, a, us, rfl, hs1, ha1⟩ := sqk_of D1 h3
        exact ⟨k1, a, us, rfl, sqk_ex R1.ex hs1, k _ H1 G1 F1 R1 M1 (wk_enum hs1 ha1)⟩
end Dv

/-! xs[::-1], xs a list -/
namespace Dv
open PySem PySem.Spec PyProof.Rows L2

section
variable {prog : Program} {w : World} {A : Around} {E : Value → Shared → Prop} {s : Shared}
open HT
theorem adjust_rev (n : Nat) : Builtin.Slice.sliceAdjust none none (-1) (n : Int) = ((n : Int) - 1, -1) := by
  first
  | rfl
  | simp [Builtin.Slice.sliceAdjust]
theorem places_rev (n : Nat) : Builtin.Slice.slicePlaces ((n : Int) - 1) (-1) (-1) = n := by
  unfold Builtin.Slice.slicePlaces
  have h1 : ¬ ((-1 : Int) > 0) := by decide
  simp only [h1, if_false, show (- -1 : Int) = 1 from by decide, Int.ediv_one]
  split <;> omega
theorem filterMap_same {α β : Type} {f g : α → Option β} : ∀ {l : List α}, (∀ k ∈ l, f k = g k) → l.filterMap f = l.filterMap g
  | [], _ => rfl
  | x :: l, h => by
    rw [List.filterMap_cons, List.filterMap_cons, h x List.mem_cons_self, filterMap_same fun k hk => h k (List.mem_cons_of_mem _ hk)]
theorem pick_rev (xs : Array Value) : ((List.range xs.size).filterMap fun (k : Nat) => xs[(((xs.size : Int) - 1) + (k : Int) * (-1)).toNat]?).toArray = xs.toList.reverse.toArray := by
  have h := PySem.W.krv_pick xs
  unfold slicePick at h
  rw [PySem.W.krv_bounds] at h
  have h2 : (List.range xs.size).filterMap (fun (k : Nat) => xs[(((xs.size : Int) - 1) + (k : Int) * (-1)).toNat]?) = (sliceRange ((xs.size : Int) - 1) (-1) (-1)).filterMap (xs[·]?) := by
    rw [PySem.W.krv_sliceRange, List.filterMap_map]
    refine filterMap_same fun k hk => ?_
    have := List.mem_range.mp hk
    show xs[(((xs.size : Int) - 1) + (k : Int) * (-1)).toNat]? = xs[xs.size - 1 - k]?
    congr 1
    omega
  rw [h2]
  exact h
theorem sliceApplied_rev {sl : Addr} {vk : Value} {n : Nat} {Q : Int × Int × Nat → Shared → Prop} (hs : s.heap.IsSliceOf sl .none .none vk) (pk : IsPart vk (some (-1))) (h : Q ((n : Int) - 1, -1, n) s) : wpAny (model prog w) A (Builtin.Slice.sliceApplied (.ref sl) (pure (n : Int))) Q E s := by
  obtain ⟨os, hos, hcs, hds⟩ := id hs
  unfold Builtin.Slice.sliceApplied Builtin.Slice.sliceFields
  refine wpAny_bind (wpAny_bind (wpAny_field hos hds (x := .none) rfl (wpAny_bind (wpAny_field hos hds (x := .none) rfl (wpAny_bind (wpAny_field hos hds (x := vk) rfl (wpAny_pure ?_)))))))
  refine wpAny_bind (slicePart_ pk ?_)
  show wpAny _ _ (if ((-1 : Int) == 0) = true then _ else _) _ _ s
  rw [if_neg (by decide)]
  refine wpAny_bind (slicePart_none (wpAny_bind (slicePart_none (wpAny_bind (wpAny_pure ?_)))))
  show wpAny _ _ (match Builtin.Slice.sliceAdjust none none (-1) (n : Int) with | (lo, hi) => pure (lo, (-1 : Int), Builtin.Slice.slicePlaces lo hi (-1))) _ _ s
  rw [adjust_rev n]
  show wpAny _ _ (pure ((n : Int) - 1, (-1 : Int), Builtin.Slice.slicePlaces ((n : Int) - 1) (-1) (-1))) _ _ s
  rw [places_rev]
  exact wpAny_pure h
theorem getItem_tuple_rev {t sl : Addr} {items : Array Value} {vk : Value} {Q : Value → Shared → Prop} (ht : IsTup s.heap t items) (hs : s.heap.IsSliceOf sl .none .none vk) (pk : IsPart vk (some (-1)))
    (h : Q (.ref s.heap.objs.size) { s with heap := s.heap.push { cls := .type "tuple", data := .seq items.toList.reverse.toArray } }) (hsz : items.size ≤ sizeLine) : wpAny (model prog w) A (getItem (.ref t) (.ref sl)) Q E s := by
  have htake : sizeOk (.seq items.toList.reverse.toArray) := by
    show items.toList.reverse.toArray.size ≤ sizeLine
    rw [List.size_toArray, List.length_reverse, Array.length_toList]
    exact hsz
  obtain ⟨os, hos, hcs, hds⟩ := id hs
  have hTs : s.TypeIs (.ref sl) "slice" := ⟨os, hos, hcs⟩
  unfold getItem
  try with_reducible refine wpAny_holding ?_
  first | refine wpAny_bind (wpAny_pure ?_) | skip
  refine wpAny_bind (wpAny_sequenceKey ht.typeIs (by decide) ?_)
  refine wpAny_bind (wpAny_callSpecial?_slot (name := Str.ofString "__getitem__") ht.typeIs PyProof.Rows.slot_tuple_getitem
    (wpAny_call_entry PyProof.Rows.slot_tuple_getitem ht.typeIs entry_tuple_getitem ?_ (args_tuple_getitem _ _)))
  show wpAny _ _ (Builtin.Tuple.tupleItemsOf (.ref t) >>= _) _ _ s
  refine wpAny_bind (tupleItemsOf_ ht ?_)
  refine wpAny_bind (wpAny_typeOf hTs ?_)
  rw [if_pos (by decide)]
  refine wpAny_bind (sliceApplied_rev hs pk ?_)
  have hno : ¬ ((((items.size : Int) - 1) == 0 && (-1 : Int) == 1 && items.size == items.size) = true) := by
    intro q
    rw [Bool.and_eq_true, Bool.and_eq_true] at q
    exact absurd q.1.2 (by decide)
  show wpAny _ _ (if (((items.size : Int) - 1) == 0 && (-1 : Int) == 1 && items.size == items.size) = true then _ else _) _ _ s
  rw [if_neg hno, pick_rev]
  first
    | exact wpAny_bind (m := Builtin.Tuple.tupleExact _) (wpAny_newObj_type (wpAny_pure ⟨_, rfl, wpAny_pure h⟩) htake)
    | exact wpAny_bind (m := Builtin.Tuple.tupleExact _) (wpAny_newObj_type (wpAny_bind (wpAny_pure (wpAny_pure ⟨_, rfl, wpAny_pure h⟩))) htake)
    | exact wpAny_bind (wpAny_bind (m := Builtin.Tuple.tupleExact _) (wpAny_newObj_type (wpAny_pure (wpAny_pure ⟨_, rfl, wpAny_pure h⟩)) htake))
    | exact wpAny_bind (wpAny_bind (m := Builtin.Tuple.tupleExact _) (wpAny_newObj_type (wpAny_pure ⟨_, rfl, wpAny_pure h⟩) htake))
end
def rRv (K : PySem.W.Frag) : V → Option Int → Hp → VK → Prop := fun x st H Q => st = some (-1) ∧ ((∃ a xs, x = .ref a ∧ SqL K H a xs ∧ ∀ p, H p = none → Q (.ref p) (upd H p (.lst xs.reverse))) ∨ ∃ a xs, x = .ref a ∧ SqT K H a xs ∧ ∀ p, H p = none → Q (.ref p) (upd H p (.tup xs.reverse)))
def tRv (K : PySem.W.Frag) (te : TE) (ts : TO) : TE := fun σ H Q => te σ H fun x H1 => ts σ H1 fun u H2 => rRv K x u H2 Q
theorem vals_reverse : ∀ {xs : List V} {us : List Value}, Vals xs us → Vals xs.reverse us.reverse
  | _, _, .nil => .nil
  | _, _, .cons h t => by
    rw [List.reverse_cons, List.reverse_cons]
    exact (vals_reverse t).append (.cons h .nil)
theorem pe_rev {X : Cx} {e st : Expr} {te : TE} {ts : TO} {p2 pos : Pos} (he : PE X e te) (hst : PO X (some st) ts) : PE X (.Subscript e (.Slice none none (some st) p2) pos) (tRv X.K te ts) := by
  refine ⟨fun pins s σ H Q I h => ?_⟩
  refine Subscript_ (thn (he.run pins s σ H _ I h) fun v s1 ⟨x, H1, I1, r1, q1⟩ => ?_)
  refine wpAny_Slice ?_
  rw [evalPart_none]
  refine wpAny_pure (wpAny_pure (thn (hst.run pins s1 σ H1 _ I1 q1) fun vs s2 ⟨l, H2, I2, pl, q2⟩ => ?_))
  obtain ⟨rfl, q2⟩ := q2
  have I4 : Inv X pins σ H2 { s2 with heap := s2.heap.push { cls := .type "slice", data := .fields #[.none, .none, vs] } } := I2.kept (t' := s2.toks) fun b ob q => Heap.get?_push_of_some _ q
  rcases q2 with ⟨a, xs, rfl, hx, q⟩ | ⟨a, xs, rfl, hx, q⟩
  · cases r1
    obtain ⟨its, r, ht, hz⟩ := I4.list hx
    have hlen := r.length
    show wpAny (model X.prog X.w) X.A (subscriptTail e (.Slice none none (some st) p2) (.ref a) (.ref s2.heap.objs.size)) (EP X pins σ Q) X.xe { s2 with heap := s2.heap.push { cls := .type "slice", data := .fields #[.none, .none, vs] } }
    refine tail_any (ops := [.ref a, .ref s2.heap.objs.size]) ht.isList.typeIs slot_list_getitem.lookup ?_ (by with_unfolding_all rfl)
    refine wpAny_getItem_list_slice ht.isList (Heap.IsSliceOf.new ..) .none .none pl (by simp) ?_ (by rw [List.size_toArray] <;> omega)
    rw [PySem.W.krv_pick]
    have e1 : its.toArray.toList = its := rfl
    rw [e1]
    exact ⟨.ref _, _, I4.laid (t' := s2.toks) (o := .lst xs.reverse) (fun b ob q => Heap.get?_push_of_some _ q) (Nat.le_refl _) ⟨by rw [List.length_reverse]; exact hz, _, 0, vals_reverse r, Heap.get?_push_size _ rfl⟩, rfl, q _ (I4.hok.fresh (Nat.le_refl _))⟩
  · cases r1
    obtain ⟨its, r, ht, hz⟩ := I4.tuple hx
    have hlen := r.length
    show wpAny (model X.prog X.w) X.A (subscriptTail e (.Slice none none (some st) p2) (.ref a) (.ref s2.heap.objs.size)) (EP X pins σ Q) X.xe { s2 with heap := s2.heap.push { cls := .type "slice", data := .fields #[.none, .none, vs] } }
    refine tail_any (ops := [.ref a, .ref s2.heap.objs.size]) ht.typeIs PyProof.Rows.slot_tuple_getitem.lookup ?_ (by with_unfolding_all rfl)
    refine getItem_tuple_rev ht (Heap.IsSliceOf.new ..) pl ?_ (by rw [List.size_toArray] <;> omega)
    have e1 : its.toArray.toList = its := rfl
    rw [e1]
    exact ⟨.ref _, _, I4.laid (t' := s2.toks) (o := .tup xs.reverse) (fun b ob q => Heap.get?_push_of_some _ q) (Nat.le_refl _) ⟨by rw [List.length_reverse]; exact hz, _, vals_reverse r, IsTup.new _ _⟩, rfl, q _ (I4.hok.fresh (Nat.le_refl _))⟩
section
variable {K : PySem.W.Frag} {S : Type} {X : Cx} {c : Ctx K S} {e : Expr} {pos p2 : Pos} {m : M S PyData} {st : Expr} {ms : M S (Option Int)}
def oRv {S : Type} (m : M S PyData) (t : M S (Option Int)) : M S (List PyData) := fun s env => (m s env).bind fun p => (t p.2 env).bind fun q => if q.1 = some (-1) then (match p.1 with
    | .list ds => some (ds.reverse, q.2)
    | _ => none) else none
def eRv {S : Type} (m : M S PyData) (t : M S (Option Int)) : M S PyData := fun s env => (m s env).bind fun p => (t p.2 env).bind fun q => if q.1 = some (-1) then (match p.1 with
    | .list ds => some (.list ds.reverse, q.2)
    | .tuple ds => some (.tuple ds.reverse, q.2)
    | _ => none) else none
theorem x_rvo (he : PE X e (tB c m)) (hs : PO X (some st) (tP c ms)) : PE X (.Subscript e (.Slice none none (some st) p2) pos) (tO c (oRv m ms)) :=
  (pe_rev he hs).imp fun σ H Q ⟨G, F, env, s, r, s', R, hm, k⟩ => by
    obtain ⟨⟨y, s1⟩, h1, hm⟩ := some_bind hm
    obtain ⟨⟨u, s2⟩, h2, hm⟩ := some_bind hm
    split at hm
    · rename_i eu
      have eu : u = some (-1) := eu
      subst eu
      cases y with
      | list ds =>
        injection hm with e
        injection e with e1 e2
        subst e1 e2
        refine ⟨G, F, env, s, .list ds, s1, R, h1, fun v H1 G1 F1 R1 M1 D1 => ⟨G1, F1, env, s1, some (-1), s2, R1, h2, fun H2 G2 F2 R2 M2 => ⟨rfl, .inl ?_⟩⟩⟩
        have D2 := D1.mv M2
        have M12 := M1.trans M2
        obtain ⟨a, vs, rfl, hs, ha⟩ := D2.list R2.ex
        refine ⟨a, vs, rfl, .inl hs, fun q hq => ?_⟩
        obtain ⟨R4, M4, g4, f4⟩ := rel_new R2 (o := .lst vs.reverse) hq
        exact k q _ _ _ _ R4 (M12.trans M4) upd_same ha.reverse g4 f4 (none_back M12.there hq)
      | _ => cases hm
    · cases hm
theorem x_rv {c : Ctx X.K S} (he : PE X e (tB c m)) (hs : PO X (some st) (tP c ms)) : PE X (.Subscript e (.Slice none none (some st) p2) pos) (tE c (eRv m ms)) :=
  (pe_rev he hs).imp fun σ H Q ⟨G, F, env, s, r, s', R, hm, k⟩ => by
    obtain ⟨⟨y, s1⟩, h1, hm2⟩ := some_bind hm
    obtain ⟨⟨u, s2⟩, h2, hm2⟩ := some_bind hm2
    split at hm2
    · rename_i eu
      have eu : u = some (-1) := eu
      subst eu
      cases y with
      | list ds =>
        injection hm2 with e
        injection e with e1 e2
        subst e1 e2
        refine ⟨G, F, env, s, .list ds, s1, R, h1, fun v H1 G1 F1 R1 M1 D1 => ⟨G1, F1, env, s1, some (-1), s2, R1, h2, fun H2 G2 F2 R2 M2 => ⟨rfl, .inl ?_⟩⟩⟩
        have D2 := D1.mv M2
        have M12 := M1.trans M2
        obtain ⟨a, vs, rfl, hs, ha⟩ := D2.list R2.ex
        refine ⟨a, vs, rfl, .inl hs, fun q hq => ?_⟩
        have g := Gr.laid R2.ex hq (o := .lst vs.reverse)
        exact k (.ref q) _ _ F2 (R2.gr g) (M12.trans (Mv.of_gr g)) (.lst (.inl upd_same) (ha.reverse.ex g.g))
      | tuple ds =>
        injection hm2 with e
        injection e with e1 e2
        subst e1 e2
        refine ⟨G, F, env, s, .tuple ds, s1, R, h1, fun v H1 G1 F1 R1 M1 D1 => ⟨G1, F1, env, s1, some (-1), s2, R1, h2, fun H2 G2 F2 R2 M2 => ⟨rfl, .inr ?_⟩⟩⟩
        have D2 := D1.mv M2
        have M12 := M1.trans M2
        obtain ⟨a, vs, rfl, hs, ha⟩ := D2.tuple R2.ex
        refine ⟨a, vs, rfl, hs, fun q hq => ?_⟩
        have g := Gr.laid R2.ex hq (o := .tup vs.reverse)
        exact k (.ref q) _ _ F2 (R2.gr g) (M12.trans (Mv.of_gr g)) (.tup (.inl (.inl upd_same)) (ha.reverse.ex g.g))
      | _ => cases hm2
    · cases hm2
end
end Dv

/-! xs.index(x): the place of the first equal one -/
namespace Dv
open PySem PySem.Spec PyProof.Rows L2
section
variable {K : PySem.W.Frag} {S : Type} {X : Cx} {c : Ctx K S} {e a : Expr} {apos cpos : Pos} {m ma : M S PyData}
def dIdx (d e : PyData) : Option PyData := match d with
  | .list ds => if SeqAt.shaped (.list ds) && SeqAt.shaped e then (ds.findIdx? fun z => PyData.eqv z e).map fun j => .int (j : Nat) else none
  | _ => none
theorem x_idx (hm : MtR X "list.index" (rIndexD K)) (he : PE X e (tB c m)) (ha : PE X a (tB c ma)) (hbase : attributeBase e "index" X.env (eval e X.env) = eval e X.env := by rfl)
    (hfew : ((backTo cpos (starEach [a] X.env)).all (fun x => !x.1) && (backToKw cpos (keywordEach [] X.env)).all (fun x => x.1.isSome)
      && decide (([a] : List Expr).length + ([] : List Keyword).length + (if ([] : List Keyword).isEmpty then 0 else 1) < 30)) = true := by rfl)
    (hline : (apos.endLine == cpos.line) = true := by rfl) (hs : starEach [a] X.env = (false, eval a X.env) :: starEach [] X.env := by rfl) : PE X (.Call (.Attribute e "index" apos) [a] [] cpos) (tE c (e2 dIdx m ma)) :=
  (pe_bm PySem.F.plainAttrs_list PySem.F.slot_list_index PySem.F.type_list_index hm he (a_cons ha a_nil hs) hbase hfew hline hs rfl).imp fun σ H Q ⟨G, F, env, s, z, s', R, hq, k⟩ => by
    obtain ⟨⟨x, s1⟩, h1, hq⟩ := some_bind hq
    obtain ⟨⟨y, s2⟩, h2, hq⟩ := some_bind hq
    obtain ⟨z', hz, e0⟩ := some_map hq
    injection e0 with e1 e2
    subst e1 e2
    refine ⟨G, F, env, s, x, s1, R, h1, fun v H1 G1 F1 R1 M1 D1 => ?_⟩
    unfold dIdx at hz
    cases x with
    | list ds =>
      simp only at hz
      split at hz
      · rename_i hsh
        rw [Bool.and_eq_true] at hsh
        obtain ⟨j, hj, rfl⟩ := some_map hz
        obtain ⟨b, vs, rfl, hl, hd⟩ := D1.list R1.ex
        refine ⟨?_, G1, F1, env, s1, [y], s2, R1, ?_, fun ws H2 G2 F2 R2 M2 D2 => ?_⟩
        · exact .inl ⟨rfl, _, .inl hl⟩
        · show (ma s1 env).bind _ = _
          rw [h2]
          rfl
        · cases D2 with
          | cons D2 D3 =>
            cases D3
            have DL := (D1.mv M2).whole R2.ex
            obtain ⟨hjl, hjt, hjf⟩ := List.findIdx?_eq_some_iff_getElem.mp hj
            refine ⟨b, _, y, ds, j, ds[j], rfl, rfl, dp_l2 _ _ (SeqAt.canLay_of_shaped hsh.1) DL, dp_l2 _ _ (SeqAt.canLay_of_shaped hsh.2) (D2.whole R2.ex), hsh.1, hsh.2, List.getElem?_eq_getElem hjl, hjt, fun i z' hi hz' => ?_, ?_⟩
            · obtain ⟨hil, rfl⟩ := List.getElem?_eq_some_iff.mp hz'
              simpa using hjf i hi
            · exact k _ H2 G2 F2 R2 (M1.trans M2) (.int _)
      · cases hz
    | _ => cases hz
end
end Dv

/-! zip of any three of lists and tuples -/
namespace Dv
open PySem PySem.Spec PyProof.Rows L2
def Itz3 (K : PySem.W.Frag) (k l m : Bool) (a b c : Addr) : It :=
  ⟨fun i H => ∃ (xs ys us : List V) (x y u : V), SqK k K H a xs ∧ SqK l K H b ys ∧ SqK m K H c us ∧ xs[i]? = some x ∧ ys[i]? = some y ∧ us[i]? = some u,
    fun i H v H' => ∃ T x y u, v = .ref T ∧ H T = none ∧ H' = upd H T (.tup [x, y, u]) ∧ (∀ xs, SqK k K H a xs → xs[i]? = some x) ∧ (∀ ys, SqK l K H b ys → ys[i]? = some y) ∧ ∀ us, SqK m K H c us → us[i]? = some u,
    fun i H => ∃ xs ys us : List V, SqK k K H a xs ∧ SqK l K H b ys ∧ SqK m K H c us ∧ i ≤ xs.length ∧ i ≤ ys.length ∧ i ≤ us.length ∧ (xs.length = i ∨ ys.length = i ∨ us.length = i)⟩
structure ZAp3 (z TI TO i1 i2 i3 a b c : Addr) : Prop where
  s : ZipSep3 z TI TO i1 i2 i3 [i1, a] [i2, b] [i3, c]
  a1 : a ≠ i1
  b2 : b ≠ i2
  c3 : c ≠ i3
theorem zAp3 {n a b c : Addr} (ha : a < n) (hb : b < n) (hc : c < n) : ZAp3 (n + 5) (n + 3) (n + 4) n (n + 1) (n + 2) a b c :=
  ⟨zip_sep3 (fp1 := [a]) (fp2 := [b]) (fp3 := [c]) (fun d h => by rw [List.mem_singleton.mp h]; exact ha) (fun d h => by rw [List.mem_singleton.mp h]; exact hb) (fun d h => by rw [List.mem_singleton.mp h]; exact hc),
    Nat.ne_of_lt ha, Nat.ne_of_lt (Nat.lt_succ_of_lt hb), Nat.ne_of_lt (Nat.lt_of_lt_of_le hc (Nat.le_add_right _ _))⟩
theorem turn_zip3 {P : Program} {w : World} {K : PySem.W.Frag} {elts : List Expr} {kk : Nat} {tpos : Pos} {a b c z TI TO i1 i2 i3 : Addr} (k l m : Bool) (D : ZAp3 z TI TO i1 i2 i3 a b c) :
    Turn P w K (.Tuple elts kk tpos) (Itz3 K k l m a b c) [z, TI, TO, i1, i2, i3] z (fun i h => IsZip h z TI TO .none ∧ IsTupOf3 h TI (.ref i1) (.ref i2) (.ref i3) ∧ (∃ x y u, IsTupOf3 h TO x y u) ∧ ItK k h i1 a i ∧ ItK l h i2 b i ∧ ItK m h i3 c i) where
  mem := by simp
  obj := fun i h st d hd => by
    obtain ⟨hz, hTI, ⟨x, y, u, hTO⟩, h1, h2, h3⟩ := st
    have e' : d = z ∨ d = TI ∨ d = TO ∨ d = i1 ∨ d = i2 ∨ d = i3 := by simpa using hd
    rcases e' with q | q | q | q | q | q
    · rw [q]; exact ⟨_, hz, fun v q => nomatch q⟩
    · rw [q]; exact ⟨_, hTI, fun v q => nomatch q⟩
    · rw [q]; exact ⟨_, hTO, fun v q => nomatch q⟩
    · rw [q]; exact h1.obj
    · rw [q]; exact h2.obj
    · rw [q]; exact h3.obj
  keep := fun i h h' st k => by
    obtain ⟨hz, hTI, ⟨x, y, u, hTO⟩, h1, h2, h3⟩ := st
    exact ⟨k z (by simp) _ hz, k TI (by simp) _ hTI, ⟨x, y, u, k TO (by simp) _ hTO⟩, h1.at fun o q => k i1 (by simp) o q, h2.at fun o q => k i2 (by simp) o q, h3.at fun o q => k i3 (by simp) o q⟩
  item := by
    intro X hP hw hK hc i pins s σ H E I hf st hg
    subst hP hw hK
    obtain ⟨hz, hTI, ⟨x0, y0, u0, hTO⟩, h1, h2, h3⟩ := st
    obtain ⟨xs, ys, us, x, y, u, hqx, hqy, hqu, hx, hy, hu⟩ := hg
    obtain ⟨its, rv, p⟩ := sqk_is I hqx
    obtain ⟨its2, rv2, p2⟩ := sqk_is I hqy
    obtain ⟨its3, rv3, p3⟩ := sqk_is I hqu
    obtain ⟨v, hv, rx⟩ := rv.get hx
    obtain ⟨v2, hv2, rx2⟩ := rv2.get hy
    obtain ⟨v3, hv3, rx3⟩ := rv3.get hu
    have hzl : z < s.heap.objs.size := Heap.lt_size hz
    have hh : X.A.in1.handled = none := I.ok.hd hc
    have l1 : i < its.toArray.size := by simpa using (List.getElem?_eq_some_iff.mp hv).1
    have l2 : i < its2.toArray.size := by simpa using (List.getElem?_eq_some_iff.mp hv2).1
    have l3 : i < its3.toArray.size := by simpa using (List.getElem?_eq_some_iff.mp hv3).1
    refine wpAny_pyNext_zipD3_item D.s (drawsK hh k i1 a D.a1 its.toArray) (drawsK hh l i2 b D.b2 its2.toArray) (drawsK hh m i3 c D.c3 its3.toArray) hz hTI hTO ⟨h1, p⟩ ⟨h2, p2⟩ ⟨h3, p3⟩ l1 l2 l3 fun x1 x2 x3 h' tk e1 e2 e3 z' TO' st1' st2' st3' hT hsz hk => ?_
    have eu : x1 = v := by
      have e1 : its.toArray[i]? = some x1 := e1
      rw [List.getElem?_toArray, hv] at e1
      exact (Option.some.inj e1).symm
    have eu2 : x2 = v2 := by
      have e2 : its2.toArray[i]? = some x2 := e2
      rw [List.getElem?_toArray, hv2] at e2
      exact (Option.some.inj e2).symm
    have eu3 : x3 = v3 := by
      have e3 : its3.toArray[i]? = some x3 := e3
      rw [List.getElem?_toArray, hv3] at e3
      exact (Option.some.inj e3).symm
    subst eu eu2 eu3
    refine ⟨_, rfl, wpAny_letOwnedTupleGo_zip (s := { s with heap := h', toks := tk }) z' fun h'' z'' sb => ?_⟩
    have hT2 : h''.get? s.heap.objs.size = some { cls := .type "tuple", data := .seq #[x1, x2, x3] } := (sb.2 _ (Nat.ne_of_gt hzl)).trans hT
    have new : ObjOk X.prog X.w (upd H s.heap.objs.size (.tup [x, y, u])) h'' s.heap.objs.size (.tup [x, y, u]) :=
      ⟨by show 3 ≤ sizeLine; decide, [x1, x2, x3], .cons rx (.cons rx2 (.cons rx3 .nil)), ⟨_, hT2, rfl, _, rfl⟩⟩
    have kp : ∀ d o, d ∉ [z, TI, TO, i1, i2, i3] → s.heap.get? d = some o → h''.get? d = some o := fun d o hb q => by
      simp only [List.mem_cons, List.not_mem_nil, or_false, not_or] at hb
      exact (sb.2 d hb.1).trans (hk d o hb.1 hb.2.2.1 hb.2.2.2.1 hb.2.2.2.2.1 hb.2.2.2.2.2 q)
    have I1 : Inv X pins σ (upd H s.heap.objs.size (.tup [x, y, u])) { s with heap := h'', toks := tk } := I.turnedNew (t' := tk) (ch := [z, TI, TO, i1, i2, i3]) kp hf (Nat.le_refl _) new
    have i1z : i1 ≠ z := Ne.symm D.s.zi1
    have i2z : i2 ≠ z := Ne.symm D.s.zi2
    have i3z : i3 ≠ z := Ne.symm D.s.zi3
    refine ⟨.ref s.heap.objs.size, _, I1, rfl, ⟨_, x, y, u, rfl, I.hok.fresh (Nat.le_refl _), rfl, fun l hl => by rw [sqk_inj I hl hqx]; exact hx, fun l hl => by rw [sqk_inj I hl hqy]; exact hy, fun l hl => by rw [sqk_inj I hl hqu]; exact hu⟩, ⟨z'', ?_, ⟨x1, x2, x3, ?_⟩, ?_, ?_, ?_⟩, fun d hcm => ?_⟩
    · exact (sb.2 _ D.s.TIz).trans (hk _ _ D.s.TIz D.s.TITO D.s.TIi1 D.s.TIi2 D.s.TIi3 hTI)
    · exact (sb.2 _ D.s.TOz).trans TO'
    · exact st1'.1.at fun o q => (sb.2 _ i1z).trans q
    · exact st2'.1.at fun o q => (sb.2 _ i2z).trans q
    · exact st3'.1.at fun o q => (sb.2 _ i3z).trans q
    · have hlt : d < s.heap.objs.size := by
        have e' : d = z ∨ d = TI ∨ d = TO ∨ d = i1 ∨ d = i2 ∨ d = i3 := by simpa using hcm
        rcases e' with q | q | q | q | q | q
        · rw [q]; exact hzl
        · rw [q]; exact Heap.lt_size hTI
        · rw [q]; exact Heap.lt_size hTO
        · rw [q]; obtain ⟨_, e1, _⟩ := h1.obj; exact Heap.lt_size e1
        · rw [q]; obtain ⟨_, e2, _⟩ := h2.obj; exact Heap.lt_size e2
        · rw [q]; obtain ⟨_, e3, _⟩ := h3.obj; exact Heap.lt_size e3
      rw [upd_ne (Nat.ne_of_lt hlt)]
      exact (hf d hcm).1
  done := by
    intro X hP hw hK hc i pins s σ H E I hf st hg
    subst hP hw hK
    obtain ⟨hz, hTI, ⟨x0, y0, u0, hTO⟩, h1, h2, h3⟩ := st
    obtain ⟨xs, ys, us, hqx, hqy, hqu, hl1, hl2, hl3, hend⟩ := hg
    obtain ⟨its, rv, p⟩ := sqk_is I hqx
    obtain ⟨its2, rv2, p2⟩ := sqk_is I hqy
    obtain ⟨its3, rv3, p3⟩ := sqk_is I hqu
    have l1 := rv.length
    have l2 := rv2.length
    have l3 := rv3.length
    have s1 : its.toArray.size = xs.length := by simp [l1]
    have s2 : its2.toArray.size = ys.length := by simp [l2]
    have s3 : its3.toArray.size = us.length := by simp [l3]
    have hh : X.A.in1.handled = none := I.ok.hd hc
    refine wpAny_pyNext_zipD3_end D.s (drawsK hh k i1 a D.a1 its.toArray) (drawsK hh l i2 b D.b2 its2.toArray) (drawsK hh m i3 c D.c3 its3.toArray) hz hTI hTO ⟨h1, p⟩ ⟨h2, p2⟩ ⟨h3, p3⟩ (by omega) (by omega) (by omega) (by omega) fun h' tk hk => ⟨rfl, I.turnedL (t' := tk) (ch := [z, TI, TO, i1, i2, i3]) (fun d o hb q => ?_) hf⟩
    simp only [List.mem_cons, List.not_mem_nil, or_false, not_or] at hb
    exact hk d o hb.1 hb.2.2.1 hb.2.2.2.1 hb.2.2.2.2.1 hb.2.2.2.2.2 q
  self := fun A i s Q E st h => wpAny_pyIter_zip st.1 h
def iZ3G (K : PySem.W.Frag) (ta : TA) : TI := fun σ H R => ta σ H fun vs H1 => ∃ k l m a b c xs ys us, vs = [.ref a, .ref b, .ref c] ∧ SqK k K H1 a xs ∧ SqK l K H1 b ys ∧ SqK m K H1 c us ∧ R (Itz3 K k l m a b c) H1
theorem pi_zip3 {X : Cx} {e e2 e3 : Expr} {ta : TA} {p pos tpos : Pos} {elts : List Expr} {kk : Nat} (hg : Gl X "zip") (hm : X.mg "zip" = none) (ha : PA X [e, e2, e3] ta)
    (hs : starEach [e, e2, e3] X.env = (false, eval e X.env) :: starEach [e2, e3] X.env := by rfl) (hpl : (backTo pos (starEach [e2, e3] X.env)).any (·.1) = false := by rfl) :
    PI X (.Tuple elts kk tpos) (.Call (.Name "zip" p) [e, e2, e3] [] pos) (iZ3G X.K ta) := by
  refine ⟨fun pins s σ H R I h => ?_⟩
  refine Call_ (ld_blt I hg hm PyProof.Rows.boot_zip (PyProof.Rows.callWith_type1 (thn (ha.run pos pins s σ H _ I h) fun us s1 ⟨vs, H1, I1, r1, q1⟩ => ?_) hs hpl))
  obtain ⟨k, l, m, a, b, c, xs, ys, zs, ex, hqx, hqy, hqu, q⟩ := q1
  subst ex
  cases r1 with
  | cons r rr =>
    cases rr with
    | cons r' rr =>
      cases rr with
      | cons r'' rr =>
        cases rr
        cases r
        cases r'
        cases r''
        obtain ⟨its, rv, p1⟩ := sqk_is I1 hqx
        obtain ⟨its2, rv2, p2⟩ := sqk_is I1 hqy
        obtain ⟨its3, rv3, p3⟩ := sqk_is I1 hqu
        refine zip_begins3 (beginsK k a its.toArray) (beginsK l b its2.toArray) (beginsK m c its3.toArray) p1 p2 p3 fun h' hz hTI hTO h1 h2 h3 hsz hk => wpAny_pyIter_zip hz ?_
        have I2 : Inv X pins σ H1 { s1 with heap := h' } := I1.kept (t' := s1.toks) hk
        refine ⟨s1.heap.objs.size + 5, [s1.heap.objs.size + 5, s1.heap.objs.size + 3, s1.heap.objs.size + 4, s1.heap.objs.size, s1.heap.objs.size + 1, s1.heap.objs.size + 2], _, _, H1, rfl, I2, turn_zip3 k l m (zAp3 p1.lt p2.lt p3.lt), ⟨hz, hTI, ⟨_, _, _, hTO⟩, ItK.first h1, ItK.first h2, ItK.first h3⟩, fun d hcm => ?_, q⟩
        have e' : d = s1.heap.objs.size + 5 ∨ d = s1.heap.objs.size + 3 ∨ d = s1.heap.objs.size + 4 ∨ d = s1.heap.objs.size ∨ d = s1.heap.objs.size + 1 ∨ d = s1.heap.objs.size + 2 := by simpa using hcm
        have hle : s1.heap.objs.size ≤ d := by
          rcases e' with z | z | z | z | z | z
          · rw [z]; exact Nat.le_add_right _ _
          · rw [z]; exact Nat.le_add_right _ _
          · rw [z]; exact Nat.le_add_right _ _
          · rw [z]; exact Nat.le_refl _
          · rw [z]; exact Nat.le_add_right _ _
          · rw [z]; exact Nat.le_add_right _ _
        exact I1.fpOk hle (I1.hok.fresh hle)
def zip3D : List PyData → List PyData → List PyData → List PyData
  | x :: xs, y :: ys, z :: zs => .tuple [x, y, z] :: zip3D xs ys zs
  | _, _, _ => []
theorem zip3D_get : ∀ {xs ys zs : List PyData} {i : Nat} {d : PyData}, (zip3D xs ys zs)[i]? = some d → ∃ x y z, xs[i]? = some x ∧ ys[i]? = some y ∧ zs[i]? = some z ∧ d = .tuple [x, y, z]
  | x :: xs, y :: ys, z :: zs, 0, d, h => by
    simp only [zip3D, List.getElem?_cons_zero, Option.some.injEq] at h
    exact ⟨x, y, z, rfl, rfl, rfl, h.symm⟩
  | x :: xs, y :: ys, z :: zs, i + 1, d, h => by
    simp only [zip3D, List.getElem?_cons_succ] at h
    obtain ⟨a, b, c, h1, h2, h3, h4⟩ := zip3D_get h
    exact ⟨a, b, c, by simpa using h1, by simpa using h2, by simpa using h3, h4⟩
  | [], _, _, _, _, h => by simp [zip3D] at h
  | _ :: _, [], _, _, _, h => by simp [zip3D] at h
  | _ :: _, _ :: _, [], _, _, h => by simp [zip3D] at h
theorem zip3D_len : ∀ (xs ys zs : List PyData), (zip3D xs ys zs).length = min (min xs.length ys.length) zs.length
  | x :: xs, y :: ys, z :: zs => by
    simp only [zip3D, List.length_cons, zip3D_len xs ys zs]
    omega
  | [], _, _ => by simp [zip3D]
  | _ :: _, [], _ => by simp [zip3D]
  | _ :: _, _ :: _, [] => by simp [zip3D]
def iZ3 {S : Type} (m n o : M S PyData) : M S (List PyData) := fun s env => (m s env).bind fun p => (n p.2 env).bind fun q => (o q.2 env).bind fun r => (items p.1).bind fun xs => (items q.1).bind fun ys => (items r.1).map fun zs => (zip3D xs ys zs, r.2)
theorem wk_zip3 {K : PySem.W.Frag} {G : Hp} {k l m : Bool} {a b c : Addr} {vs us ws : List V} {ds es fs : List PyData} (hs : SqK k K G a vs) (ht : SqK l K G b us) (hw : SqK m K G c ws) (ha : DpAll K G vs ds) (hb : DpAll K G us es) (hc : DpAll K G ws fs) :
    Wk K (Itz3 K k l m a b c) (zip3D ds es fs) G := fun G1 H1 e ex => ⟨fun i d hd => by
  obtain ⟨d1, d2, d3, q1, q2, q3, rfl⟩ := zip3D_get hd
  obtain ⟨v, hv, D1⟩ := ha.get q1
  obtain ⟨u, hu, D2⟩ := hb.get q2
  obtain ⟨w, hx, D3⟩ := hc.get q3
  have s1 := sqk_ex (e.trans ex) hs
  have s2 := sqk_ex (e.trans ex) ht
  have s3 := sqk_ex (e.trans ex) hw
  refine ⟨⟨vs, us, ws, v, u, w, s1, s2, s3, hv, hu, hx⟩, fun x H' ⟨T, y, z, t, e1, hT, e2, f1, f2, f3⟩ => ?_⟩
  subst e1 e2
  have g1 := f1 vs s1
  have g2 := f2 us s2
  have g3 := f3 ws s3
  rw [hv] at g1
  rw [hu] at g2
  rw [hx] at g3
  cases g1
  cases g2
  cases g3
  have g := Gr.laid ex hT (o := .tup [v, u, w])
  exact ⟨_, g, .tup (.inl (.inl upd_same)) (.cons ((D1.ex e).ex g.g) (.cons ((D2.ex e).ex g.g) (.cons ((D3.ex e).ex g.g) .nil)))⟩, by
  have l1 := ha.length
  have l2 := hb.length
  have l3 := hc.length
  have l4 := zip3D_len ds es fs
  exact ⟨vs, us, ws, sqk_ex (e.trans ex) hs, sqk_ex (e.trans ex) ht, sqk_ex (e.trans ex) hw, by omega, by omega, by omega, by omega⟩⟩
theorem i_zip3 {K : PySem.W.Frag} {S : Type} {X : Cx} {c : Ctx K S} {e e2 e3 : Expr} {pos p tpos : Pos} {m mn mo : M S PyData} {elts : List Expr} {kk : Nat} (ha : PE X e (tE c m)) (hb : PE X e2 (tE c mn)) (hc : PE X e3 (tE c mo))
    (hp : ∀ ta, PA X [e, e2, e3] ta → PI X (.Tuple elts kk tpos) (.Call (.Name "zip" p) [e, e2, e3] [] pos) (iZ3G K ta)) (hs : starEach (e :: [e2, e3]) X.env = (false, eval e X.env) :: starEach [e2, e3] X.env := by rfl)
    (hs2 : starEach (e2 :: [e3]) X.env = (false, eval e2 X.env) :: starEach [e3] X.env := by rfl) (hs3 : starEach (e3 :: []) X.env = (false, eval e3 X.env) :: starEach [] X.env := by rfl) :
    PI X (.Tuple elts kk tpos) (.Call (.Name "zip" p) [e, e2, e3] [] pos) (tI c (iZ3 m mn mo)) :=
  (hp _ (f_cons ha (f_cons hb (f_cons hc f_nil hs3) hs2) hs)).imp fun σ H R ⟨G, F, env, s, r, s', Rl, hm, k⟩ => by
    obtain ⟨⟨y, s1⟩, h1, hm⟩ := some_bind hm
    obtain ⟨⟨z, s2⟩, h2, hm⟩ := some_bind hm
    obtain ⟨⟨w, s3⟩, h3, hm⟩ := some_bind hm
    obtain ⟨ds, h4, hm⟩ := some_bind hm
    obtain ⟨es, h5, hm⟩ := some_bind hm
    obtain ⟨fs, h6, e0⟩ := some_map hm
    injection e0 with e1 e2
    subst e1 e2
    refine ⟨G, F, env, s, [y, z, w], s3, Rl, ?_, fun vs H1 G1 F1 R1 M1 D1 => ?_⟩
    · show (m s env).bind _ = _
      rw [h1]
      show ((mn s1 env).bind _).bind _ = _
      rw [h2]
      show (((mo s2 env).bind _).bind _).bind _ = _
      rw [h3]
      rfl
    · cases D1 with
      | cons D1 D2 =>
        cases D2 with
        | cons D2 D3 =>
          cases D3 with
          | cons D3 D4 =>
            cases D4
            obtain ⟨k1, a, us, rfl, hs1, ha1⟩ := sqk_of D1 h4
            obtain ⟨k2, b, ws, rfl, hs2, ha2⟩ := sqk_of D2 h5
            obtain ⟨k3, d, ts, rfl, hs3, ha3⟩ := sqk_of D3 h6
            exact ⟨k1, k2, k3, a, b, d, us, ws, ts, rfl, sqk_ex R1.ex hs1, sqk_ex R1.ex hs2, sqk_ex R1.ex hs3, k _ H1 G1 F1 R1 M1 (wk_zip3 hs1 hs2 hs3 ha1 ha2 ha3)⟩
end Dv

/-! one list of one's own frozen -/
namespace Dv
open PySem PySem.Spec PyProof.Rows L2
def sFz {S : Type} (n : Nat) (a : SM S) : SM S := fun s env => match env[n]? with
  | some (.own ds) => a s (env.set n (.val (.list ds)))
  | _ => none
section
variable {K : PySem.W.Frag} {S : Type} {X : Cx} {c : Ctx K S} {rest : List Stmt} {w : SM S}
theorem b_fz (n : Nat) (h : PSs X rest (tS c w)) : PSs X rest (tS c (sFz n w)) := h.imp fun D σ H ⟨G, F, env, s, fl, s', env', R, hm, k⟩ => by
  unfold sFz at hm
  split at hm
  · rename_i ds hn
    have hs := R.slot n (.own ds) hn
    obtain ⟨a, vs, e, h1, h2, h3, h4, h5⟩ := hs
    have g1 : Ex G (upd G a (.lst vs)) := Ex.new h3
    have hl : n < env.length := (List.getElem?_eq_some_iff.mp hn).1
    have ex2 : Ex (upd G a (.lst vs)) H := fun y o q => by
      by_cases z : y = a
      · subst z
        rw [upd_same] at q
        cases q
        exact h1
      · rw [upd_ne z] at q
        exact R.ex y o q
    have at_ : ∀ i, (env.set n (.val (.list ds)))[i]? = if n = i then some (.val (.list ds)) else env[i]? := fun i => by
      rw [List.getElem?_set]
      by_cases z : n = i
      · rw [if_pos z, if_pos z, if_pos hl]
      · rw [if_neg z, if_neg z]
    refine ⟨upd G a (.lst vs), F, env.set n (.val (.list ds)), s, fl, s', env', ⟨⟨ex2, fun y q => ?_, R.rg.inn, c.R.mono R.rg.rel g1 fun _ _ _ q => q⟩, ⟨R.mv.g.trans g1, R.mv.h, R.mv.there, fun y o q => ?_, R.mv.newF⟩, ?_, fun i sv q => ?_, fun i j es fs q1 q2 => ?_, fun i j es rs fs q1 q2 => ?_⟩, hm, k.mono g1⟩
    · rw [upd_ne (fun z => h4 (by rw [← z]; exact q))]
      exact R.rg.sep y q
    · by_cases z : y = a
      · subst z
        exact .inr h5
      · rw [upd_ne z] at q
        exact R.mv.new y o q
    · have l := R.len
      simpa using l
    · rw [at_ i] at q
      by_cases z : n = i
      · rw [if_pos z] at q
        injection q with q
        subst q
        subst z
        exact ⟨.ref a, e, .lst (.inl upd_same) (h2.ex g1)⟩
      · rw [if_neg z] at q
        have w := R.slot i sv q
        cases sv with
        | no => trivial
        | val d =>
          obtain ⟨v, e, h⟩ := w
          exact ⟨v, e, h.ex g1⟩
        | own es =>
          obtain ⟨b, us, e', k1, k2, k3, k4, k5⟩ := w
          have ne : b ≠ a := fun zz => z (R.inj i n es ds q hn (by rw [e', e, zz])).symm
          exact ⟨b, us, e', k1, k2.ex g1, by rw [upd_ne ne]; exact k3, k4, k5⟩
        | own1 es rs =>
          obtain ⟨t, b, us, ws, e', k1, k2, k3, k4, ⟨p1, f1, n1⟩, ⟨p2, f2, n2⟩, ne⟩ := w
          obtain ⟨d1, d2⟩ := R.inj1 i n es rs ds q hn t b ws a e' k1 e
          exact ⟨t, b, us, ws, e', k1, k2, k3.ex g1, k4.ex g1, ⟨by rw [upd_ne (Ne.symm d1)]; exact p1, f1, n1⟩, ⟨by rw [upd_ne (Ne.symm d2)]; exact p2, f2, n2⟩, ne⟩
        | reg => exact w
    · rw [at_ i] at q1
      rw [at_ j] at q2
      by_cases z : n = i
      · rw [if_pos z] at q1
        cases q1
      · by_cases z2 : n = j
        · rw [if_pos z2] at q2
          cases q2
        · rw [if_neg z] at q1
          rw [if_neg z2] at q2
          exact R.inj i j es fs q1 q2
    · rw [at_ i] at q1
      rw [at_ j] at q2
      by_cases z : n = i
      · rw [if_pos z] at q1
        cases q1
      · by_cases z2 : n = j
        · rw [if_pos z2] at q2
          cases q2
        · rw [if_neg z] at q1
          rw [if_neg z2] at q2
          exact R.inj1 i j es rs fs q1 q2
  · cases hm
end
end Dv

/-! x, y = (a new list, a value) -/
namespace Dv
open PySem PySem.Spec PyProof.Rows L2
section
variable {K : PySem.W.Frag} {S : Type} {X : Cx} {c : Ctx K S} {a b : Expr} {pos : Pos} {mo : M S (List PyData)} {m : M S PyData}
def sParO {S : Type} (i j : Nat) (mo : M S (List PyData)) (m : M S PyData) : SM S := fun s env => (mo s env).bind fun p => (m p.2 env).map fun q => (.nx, q.2, (env.set i (.own p.1)).set j (.val q.1))
theorem s_parO {i j : Nat} {x y : Str} {px py pt : Pos} {kt k2 : Nat} {pt2 : Pos} (hc : X.calm = true) (hN : X.N.Nodup) (hi : X.N[i]? = some x) (hj : X.N[j]? = some y) (hij : i ≠ j) (hx : X.env.scope.names.lookup x = some .local) (hy : X.env.scope.names.lookup y = some .local)
    (ha : PE X a (tO c mo)) (hb : PE X b (tE c m)) (hw : swappedStores [.Tuple [.Name x px, .Name y py] kt pt] (.Tuple [a, b] k2 pt2) X.env = pure (some [x, y]) := by rfl)
    (hs : swapsWithSole [.Tuple [.Name x px, .Name y py] kt pt] (.Tuple [a, b] k2 pt2) pos.line X.env = pure false := by rfl)
    (h1 : starEach (a :: [b]) X.env = (false, eval a X.env) :: starEach [b] X.env := by rfl) (h2 : starEach (b :: []) X.env = (false, eval b X.env) :: starEach [] X.env := by rfl) :
    PS X (.Assign [.Tuple [.Name x px, .Name y py] kt pt] (.Tuple [a, b] k2 pt2) pos) (tS c (sParO i j mo m)) :=
  (ps_par hc hN hi hj hij hx hy (pa_cons ha (pa_cons hb pa_nil h2) h1) hw hs).imp fun D σ H ⟨G, F, env, s, fl, s', env', R, hm, k⟩ => by
    obtain ⟨⟨ds, s1⟩, q1, hm⟩ := some_bind hm
    obtain ⟨⟨d, s2⟩, q2, e0⟩ := some_map hm
    injection e0 with e1 e0
    injection e0 with e2 e3
    subst e1 e2 e3
    refine ⟨G, F, env, s, ds, s1, R, q1, fun p vs H1 G1 F1 R1 M1 hp hd hg hf hn => ⟨G1, F1, env, s1, d, s2, R1, q2, fun v H2 G2 F2 R2 M2 D2 => ⟨_, _, rfl, ?_⟩⟩⟩
    have hp2 : H2 p = some (.lst vs) := M2.h p _ hf hp
    have hg2 : G2 p = none := by
      cases z : G2 p with
      | none => rfl
      | some o =>
        rcases M2.new p o z with w | w
        · rw [hg] at w
          cases w
        · rw [hp] at w
          cases w
    have hf2 : ¬ F2 p := fun z => by
      rcases M2.newF p z with w | w
      · exact hf w
      · rw [hp] at w
        cases w
    have Ro := R2.set i (v := .ref p) (sv := .own ds) ⟨p, vs, rfl, hp2, hd.ex M2.g, hg2, hf2, none_back R.mv.there hn⟩ (fun es z l fs hl q e => by
      obtain ⟨b, us, e', k1, _⟩ := R.slot l _ q
      rw [e] at e'
      injection e' with e'
      injection e' with e'
      injection e' with e'
      subst e'
      rw [hn] at k1
      cases k1) fun es z l fs rs hl q => sep_fresh (R.slot l _ q) (M1.trans M2) hn
    exact k _ H2 G2 F2 (Ro.setV j D2) (M1.g.trans M2.g)
end
end Dv

/-! defs as values: handed on, called by a local name -/
namespace Dv
open PySem PySem.Spec PyProof.Rows L2
/-- the datum of the def x -/
def fnD (x : Str) : PyData := .dict [(.str x, .none)]
section
variable {fa : List He.Fa} {fn : List He.DefD} {cs : List (Str × PyData)} {x : Str} {p pos : Pos}
theorem x_def {S : Type} {X : Cx} {c : Ctx X.K S} (T : Tx fa fn cs X.K X.mg) (k : Nat) (hg : Gl X x) (h : fa[k]? = some (.glo x) := by rfl) (hdb : (x == ("__debug__" : Str)) = false := by decide) : PE X (.Name x p) (tE c (eC (fnD x))) :=
  k_glob (v := .ref (He.ga X.K x)) hg (T.glo k h) rfl (fun G => .fn x) hdb
/-- a def that may be held: its promise -/
structure HeldP (P : Program) (w : World) (K : PySem.W.Frag) (mg : Str → Option Value) (base : Heap) (k : Nat) (x : Str) (n : Nat) (F : List PyData → Option PyData) : Prop where
  ex : ∃ (fd : FuncData) (ps : List Str), FnG P w K mg base k (He.ga K x) fd ps (spP K n F) ∧ PySem.W.keepIn K (.ref (He.ga K x)) = true ∧ Binds K fd ps []
def tCallV (K : PySem.W.Frag) (i : Nat) (n : Nat) (fs : Str → Option (List PyData → Option PyData)) (t : TA) : TE := fun σ H Q => ∃ x F, σ[i]? = some (some (.ref (He.ga K x))) ∧ fs x = some F ∧ t σ H fun vs H1 => spP K n F vs H1 Q (fun _ _ _ => False)
theorem pe_callV {X : Cx} {k i n : Nat} {e : Expr} {es : List Expr} {t : TA} {y : Str} {fs : Str → Option (List PyData → Option PyData)} (A : ∀ x F, fs x = some F → HeldP X.prog X.w X.K X.mg X.base k x n F) (hr : RoomG k X.A) (hN : X.N[i]? = some y) (hv : Vis X.env.scope y) (ha : PA X (e :: es) t)
    (hdb : (y == ("__debug__" : Str)) = false := by decide) (hcd : (y == ("__classdict__" : Str)) = false := by decide)
    (he : starEach (e :: es) X.env = (false, eval e X.env) :: starEach es X.env := by rfl) (hpl : (backTo pos (starEach es X.env)).any (·.1) = false := by rfl) : PE X (.Call (.Name y p) (e :: es) [] pos) (tCallV X.K i n fs t) := by
  refine ⟨fun pins s σ H Q I h => ?_⟩
  obtain ⟨x, F, hs, hS, ht⟩ := h
  obtain ⟨fd, ps, FF, hk, hb⟩ := (A x F hS).ex
  refine wpAny_Call_Name_kw (thn ((pe_var (pos := p) hN hv hdb hcd).run pins s σ H (fun v H1 => v = .ref (He.ga X.K x) ∧ H1 = H) I ⟨.ref (He.ga X.K x), hs, rfl, rfl⟩) fun u s1 ⟨v, H1, I1, r1, q1⟩ => ?_)
  obtain ⟨rfl, rfl⟩ := q1
  cases r1
  refine PySem.W.callWith_K (h₀ := X.base) I.ok.mod.kin hk (thn (ha.run pos pins s1 σ _ _ I1 ht) fun us s2 ⟨vs, H2, I2, r, q⟩ => ⟨I2.kIn, ?_⟩) he hpl
  have r2 : Vals vs us := r
  have hl : us.length = ps.length := by rw [← r2.length]; exact FF.len _ _ _ _ q
  have b := hb s2 us I2.kIn (by simpa using hl)
  rw [List.append_nil] at b
  exact wpAny_call (codeAny_mono (run_G FF hr I2 b r2 q) fun r s' hq => by
    cases r with
    | error e => exact hq
    | ok fl => cases fl <;> exact hq)
/-- f(..), f a local name that holds a def -/
def eCV {S : Type} (fs : Str → Option (List PyData → Option PyData)) (i : Nat) (a : M S (List PyData)) : M S PyData := fun s env => match env[i]? with
  | some (SV.val (.dict [(.str x, .none)])) => (fs x).bind fun F => (a s env).bind fun p => (F p.1).map fun z => (z, p.2)
  | _ => none
theorem x_callV {K : PySem.W.Frag} {S : Type} {X : Cx} {c : Ctx K S} {e : Expr} {es : List Expr} {i n : Nat} {y : Str} {ms : List (M S PyData)} {fs : Str → Option (List PyData → Option PyData)} (ha : PA X (e :: es) (tAE c (aAll ms)))
    (h : ∀ {t : TA}, PA X (e :: es) t → PE X (.Call (.Name y p) (e :: es) [] pos) (tCallV K i n fs t)) (hn : ms.length = n := by rfl) : PE X (.Call (.Name y p) (e :: es) [] pos) (tE c (eCV fs i (aAll ms))) :=
  (h ha).imp fun σ H Q ⟨G, Fp, env, s, r, s', R, hm, k⟩ => by
    unfold eCV at hm
    split at hm
    · rename_i x hi
      obtain ⟨F, hF, hm⟩ := some_bind hm
      obtain ⟨⟨ds, s1⟩, h1, hm⟩ := some_bind hm
      obtain ⟨z, hz, e0⟩ := some_map hm
      injection e0 with e1 e2
      subst e1 e2
      obtain ⟨v, hv, D⟩ := R.slot i _ hi
      have ev : v = .ref (He.ga K x) := by
        cases D
        rfl
      subst ev
      refine ⟨x, F, hv, hF, G, Fp, env, s, ds, s1, R, h1, fun vs H1 G1 F1 R1 M1 D1 => ⟨G1, ds, z, R1.ex, D1, ?_, hz, fun w H3 G3 g D3 => k w H3 G3 F1 (R1.gr g) (M1.trans (Mv.of_gr g)) D3⟩⟩
      rw [D1.length, aAll_len h1]
      exact hn
    · cases hm
end
theorem held_nil {P : Program} {w : World} {K : PySem.W.Frag} {mg : Str → Option Value} {base : Heap} {k n : Nat} : ∀ (x : Str) (F : List PyData → Option PyData), (none : Option (List PyData → Option PyData)) = some F → HeldP P w K mg base k x n F := fun _ _ h => nomatch h
theorem held_cons {P : Program} {w : World} {K : PySem.W.Frag} {mg : Str → Option Value} {base : Heap} {k n : Nat} {y : Str} {F0 : List PyData → Option PyData} {r : Str → Option (List PyData → Option PyData)} (h0 : HeldP P w K mg base k y n F0)
    (h : ∀ (x : Str) (F : List PyData → Option PyData), r x = some F → HeldP P w K mg base k x n F) : ∀ (x : Str) (F : List PyData → Option PyData), (if x = y then some F0 else r x) = some F → HeldP P w K mg base k x n F := fun x F e => by
  by_cases c : x = y
  · rw [if_pos c] at e
    cases e
    rw [c]
    exact h0
  · rw [if_neg c] at e
    exact h x F e
/-- a def that does nothing at all -/
theorem fn_none {S : Type} {P : Program} {w : World} {K : PySem.W.Frag} {mg : Str → Option Value} {base : Heap} {k n : Nat} {f : Addr} {fd : FuncData} {ps : List Str} {rr : Rgn K S → Prop} (hp : ps.length = n + 1) : FnG P w K mg base k f fd ps (spR K rr n (fun _ _ => none)) :=
  ⟨fun vs H Q E ⟨_, _, _, _, _, _, _, _, _, _, _, _, _, h, _⟩ => (nomatch h), fun A outer s H args us vs Q E hr e0 hb r h => by
    obtain ⟨_, _, _, _, _, _, _, _, _, _, _, _, _, h, _⟩ := h
    cases h⟩
end Dv

/-! enumerate of a zip of any two of lists and tuples -/
namespace Dv
open PySem PySem.Spec PyProof.Rows L2
/-- a zip, whether its tuple is out or not -/
abbrev IsZipG (h : Heap) (z TI TO : Addr) (f0 : Value) (f : Bool) : Prop :=
  h.get? z = some { cls := .type "zip", dict := none, data := .fields #[f0, .bool f, .bool false, .ref TI, .ref TO], slots := #[] }
def Fz (f0 : Value) : Prop := f0 = .none ∨ ∃ T : Addr, f0 = rawInt T
section
variable {prog : Program} {w : World} {A : Around} {E : Value → Shared → Prop} {s : Shared} {z TI TO i1 i2 : Addr} {fp1 fp2 : List Addr} {n1 n2 i : Nat} {P1 P2 : Nat → Value → Prop} {St1 St2 : Nat → Heap → Prop} {a1 a2 f0 : Value} {f : Bool}
theorem alive_any {a : Addr} {Q : Option Obj → Shared → Prop} (h : Q (s.heap.get? a) s) : wpAny (model prog w) A (loadIfAlive a) Q E s := fun _ _ _ => h
theorem tupleFree_zip {Q : Bool → Shared → Prop} (hz : IsZipG s.heap z TI TO f0 f) (h0 : Fz f0) (h1 : Q true s) (h2 : ∀ h', IsZipG h' z TI TO f0 true → Heap.SameBut z s.heap h' → Q false { s with heap := h' }) :
    wpAny (model prog w) A (Builtin.SmallTypes.ownedTupleIsFree (.ref z)) Q E s := by
  unfold Builtin.SmallTypes.ownedTupleIsFree
  rcases h0 with rfl | ⟨T, rfl⟩
  · exact wpAny_bind (wpAny_field hz rfl (x := .none) rfl (wpAny_pure h1))
  · refine wpAny_bind (wpAny_field hz rfl (x := rawInt T) rfl ?_)
    show wpAny _ _ (loadIfAlive ((T : Int).toNat) >>= _) _ _ _
    rw [Int.toNat_natCast]
    refine wpAny_bind (alive_any ?_)
    cases q : s.heap.get? T with
    | none =>
      simp only [Option.isNone_none, if_true]
      exact wpAny_pure h1
    | some oT =>
      simp only [Option.isNone_some, Bool.false_eq_true, if_false]
      refine wpAny_bind (wpAny_field hz rfl (x := .bool f) rfl ?_)
      cases f with
      | true =>
        rw [if_neg (show ¬ ((Value.bool true != Value.bool true) = true) from Bool.false_ne_true)]
        exact wpAny_pure (h2 s.heap hz (Heap.SameBut.refl _ _))
      | false =>
        rw [if_pos (show (Value.bool false != Value.bool true) = true from rfl)]
        exact wpAny_bind (wpAny_setField_rec hz (by simp) fun h₁ hz₁ hs₁ => wpAny_pure (h2 h₁ hz₁ hs₁))
theorem zipG_next_item {Q : Value → Shared → Prop} (S : ZipSep2 z TI TO i1 i2 fp1 fp2) (D1 : Draws prog w A i1 fp1 n1 P1 St1) (D2 : Draws prog w A i2 fp2 n2 P2 St2)
    (hz : IsZipG s.heap z TI TO f0 f) (h0 : Fz f0) (hTI : IsTupOf2 s.heap TI (.ref i1) (.ref i2)) (hTO : IsTupOf2 s.heap TO a1 a2) (st1 : St1 i s.heap) (st2 : St2 i s.heap) (hlt1 : i < n1) (hlt2 : i < n2)
    (hQ : ∀ x1 x2 h' tk f0' f', P1 i x1 → P2 i x2 → IsZipG h' z TI TO f0' f' → Fz f0' → (∃ b1 b2, IsTupOf2 h' TO b1 b2) → St1 (i + 1) h' → St2 (i + 1) h' → IsTupOf2 h' s.heap.objs.size x1 x2 → h'.objs.size = s.heap.objs.size + 1 →
      (∀ c o, c ≠ z → c ≠ TO → c ≠ i1 → c ≠ i2 → s.heap.get? c = some o → h'.get? c = some o) → Q (.ref s.heap.objs.size) { s with heap := h', toks := tk }) :
    wpAny (model prog w) A (Builtin.«zip.__next__» ⟨[.ref z], []⟩) (fun fin s' => ∃ v, fin = .done (.ret v) ∧ Q v s') E s := by
  obtain ⟨hp, g, d, tk0, os⟩ := s
  show wpAny _ _ (field (.ref z) 2 >>= _) _ _ _
  refine wpAny_bind (wpAny_field hz rfl (x := .bool false) rfl ?_)
  show wpAny _ _ (field (.ref z) 3 >>= _) _ _ _
  refine wpAny_bind (wpAny_field hz rfl (x := .ref TI) rfl ?_)
  refine wpAny_bind (wpAny_seqItems hTI rfl ?_)
  show wpAny _ _ (Builtin.SmallTypes.ownedTupleIsFree (.ref z) >>= _) _ _ _
  refine wpAny_bind (tupleFree_zip hz h0 ?_ fun g0 hz0 hs0 => ?_)
  · simp only [if_true]
    refine wpAny_bind (wpAny_rule ?_)
    refine wpAny_bind (wpAny_field hz rfl (x := .ref TO) rfl ?_)
    refine wpAny_bind (wpAny_setField_rec hz (by simp) fun g0 hz0 hs0 => ?_)
    replace hz0 : IsZipG g0 z TI TO .ellipsis f := hz0
    replace hs0 : Heap.SameBut z hp g0 := hs0
    refine wpAny_bind ?_
    simp only [List.zipIdx_cons, List.zipIdx_nil, List.forIn_cons, List.forIn_nil]
    refine wpAny_bind (wpAny_bind (wpAny_onRaise ?_))
    show wpAny _ _ (Builtin.SmallTypes.nextOf (.ref i1) >>= _) _ _ ⟨g0, g, d, tk0, os⟩
    refine wpAny_bind (D1.item i _ _ _ hlt1 (D1.over st1 hs0 S.zf1) fun x1 p1 tk1 hx1 sn1 hp1 => wpAny_pure ?_)
    replace hp1 : Heap.SameBut i1 g0 p1 := hp1
    have hU1 : IsTupOf2 p1 TO a1 a2 := hp1.extBut _ _ S.Ti1 (hs0.extBut _ _ S.TOz hTO)
    refine wpAny_bind (wpAny_seqItems (s := ⟨p1, g, d, tk1, os⟩) hU1 rfl ?_)
    refine wpAny_bind (updateSeq_IsTupOf2 (s := ⟨p1, g, d, tk1, os⟩) hU1 fun g1 hT1 hs1 => ?_)
    replace hT1 : IsTupOf2 g1 TO x1 a2 := hT1
    replace hs1 : Heap.SameBut TO p1 g1 := hs1
    refine wpAny_bind (wpAny_letGo (wpAny_pure ?_))
    refine wpAny_bind (wpAny_bind (wpAny_onRaise ?_))
    show wpAny _ _ (Builtin.SmallTypes.nextOf (.ref i2) >>= _) _ _ ⟨g1, g, d, tk1, os⟩
    refine wpAny_bind (D2.item i _ _ _ hlt2 (D2.over (D2.over (D2.over st2 hs0 S.zf2) hp1 S.sep1_2) hs1 S.Tf2) fun x2 p2 tk2 hx2 sn2 hp2 => wpAny_pure ?_)
    replace hp2 : Heap.SameBut i2 g1 p2 := hp2
    have hU2 : IsTupOf2 p2 TO x1 a2 := hp2.extBut _ _ S.Ti2 hT1
    refine wpAny_bind (wpAny_seqItems (s := ⟨p2, g, d, tk2, os⟩) hU2 rfl ?_)
    refine wpAny_bind (updateSeq_IsTupOf2 (s := ⟨p2, g, d, tk2, os⟩) hU2 fun g2 hT2 hs2 => ?_)
    replace hT2 : IsTupOf2 g2 TO x1 x2 := hT2
    replace hs2 : Heap.SameBut TO p2 g2 := hs2
    refine wpAny_bind (wpAny_letGo (wpAny_pure (wpAny_pure ?_)))
    refine wpAny_bind (wpAny_seqItems (s := ⟨g2, g, d, tk2, os⟩) hT2 rfl ?_)
    refine wpAny_bind (wpAny_newTuple ?_)
    have hsz : g2.objs.size = hp.objs.size := by rw [hs2.1, hp2.1, hs1.1, hp1.1, hs0.1]
    have hzz : IsZipG g2 z TI TO .ellipsis f := (hs2.extBut _ _ S.TOz.symm (hp2.extBut _ _ S.zi2 (hs1.extBut _ _ S.TOz.symm (hp1.extBut _ _ S.zi1 hz0))))
    have hkk : ∀ c o, c ≠ z → c ≠ TO → c ≠ i1 → c ≠ i2 → hp.get? c = some o → g2.get? c = some o := fun c o cz cT c1 c2 e =>
      (hs2.extBut _ _ cT (hp2.extBut _ _ c2 (hs1.extBut _ _ cT (hp1.extBut _ _ c1 (hs0.extBut _ _ cz e)))))
    have hj1 : St1 (i + 1) g2 := (D1.over (D1.over (D1.over sn1 hs1 S.Tf1) hp2 S.sep2_1) hs2 S.Tf1)
    have hj2 : St2 (i + 1) g2 := (D2.over sn2 hs2 S.Tf2)
    have hzlt : z < g2.objs.size := Heap.lt_size hzz
    show wpAny _ _ (Builtin.SmallTypes.ownedTupleHandOut (.ref z) (.ref g2.objs.size) >>= _) _ _ ⟨g2.push { cls := .type "tuple", data := .seq #[x1, x2] }, g, d, tk2, os⟩
    refine wpAny_bind ?_
    unfold Builtin.SmallTypes.ownedTupleHandOut
    have hz₆ : IsZipG (g2.push { cls := .type "tuple", data := .seq #[x1, x2] }) z TI TO .ellipsis f := Heap.get?_push_of_some _ hzz
    refine wpAny_bind (wpAny_setField_rec hz₆ (by simp) fun h₇ hz₇ hs₇ => ?_)
    replace hz₇ : IsZipG h₇ z TI TO (rawInt g2.objs.size) f := hz₇
    refine wpAny_setField_rec hz₇ (by simp) fun h₈ hz₈ hs₈ => ?_
    replace hz₈ : IsZipG h₈ z TI TO (rawInt g2.objs.size) false := hz₈
    replace hs₇ : Heap.SameBut z (g2.push { cls := .type "tuple", data := .seq #[x1, x2] }) h₇ := hs₇
    replace hs₈ : Heap.SameBut z h₇ h₈ := hs₈
    have up : ∀ c o, c ≠ z → g2.get? c = some o → h₈.get? c = some o := fun c o c1 e => hs₈.extBut _ _ c1 (hs₇.extBut _ _ c1 (Heap.get?_push_of_some _ e))
    have hT₈ : IsTupOf2 h₈ g2.objs.size x1 x2 := hs₈.extBut _ _ (Nat.ne_of_gt hzlt) (hs₇.extBut _ _ (Nat.ne_of_gt hzlt) (Heap.get?_push_size _ rfl))
    have hz8 : h₈.objs.size = g2.objs.size + 1 := by rw [hs₈.1, hs₇.1, Heap.size_push]
    have hF : Fz (rawInt g2.objs.size) := .inr ⟨_, rfl⟩
    rw [hsz] at hz₈ hT₈ hz8 hF
    refine wpAny_pure ⟨_, rfl, ?_⟩
    show Q (.ref g2.objs.size) ⟨h₈, g, d, tk2, os⟩
    rw [hsz]
    exact hQ x1 x2 h₈ tk2 _ _ hx1 hx2 hz₈ hF ⟨x1, x2, up _ _ S.TOz hT2⟩ (D1.frame _ _ _ hj1 fun b hb o e => up b o (fun q => S.zf1 (q ▸ hb)) e) (D2.frame _ _ _ hj2 fun b hb o e => up b o (fun q => S.zf2 (q ▸ hb)) e) hT₈ hz8 fun c o cz cT c1 c2 e => up c o cz (hkk c o cz cT c1 c2 e)
  · replace hz0 : IsZipG g0 z TI TO f0 true := hz0
    replace hs0 : Heap.SameBut z hp g0 := hs0
    simp only [Bool.false_eq_true, if_false]
    refine wpAny_bind ?_
    rw [← Array.forIn_toList]
    simp only [List.forIn_cons, List.forIn_nil]
    refine wpAny_bind (wpAny_bind (wpAny_holding ?_))
    show wpAny _ _ (Builtin.SmallTypes.nextOf (.ref i1) >>= _) _ _ ⟨g0, g, d, tk0, os⟩
    refine wpAny_bind (D1.item i _ _ _ hlt1 (D1.over st1 hs0 S.zf1) fun x1 p1 tk1 hx1 sn1 hp1 => wpAny_pure ?_)
    replace hp1 : Heap.SameBut i1 g0 p1 := hp1
    refine wpAny_pure ?_
    refine wpAny_bind (wpAny_bind (wpAny_holding ?_))
    show wpAny _ _ (Builtin.SmallTypes.nextOf (.ref i2) >>= _) _ _ ⟨p1, g, d, tk1, os⟩
    refine wpAny_bind (D2.item i _ _ _ hlt2 (D2.over (D2.over st2 hs0 S.zf2) hp1 S.sep1_2) fun x2 p2 tk2 hx2 sn2 hp2 => wpAny_pure ?_)
    replace hp2 : Heap.SameBut i2 p1 p2 := hp2
    refine wpAny_pure (wpAny_pure ?_)
    show wpAny _ _ (newTuple [x1, x2] >>= _) _ _ ⟨p2, g, d, tk2, os⟩
    refine wpAny_bind (wpAny_newTuple ?_)
    have hsz : p2.objs.size = hp.objs.size := by rw [hp2.1, hp1.1, hs0.1]
    have hz₃ : IsZipG p2 z TI TO f0 true := hp2.extBut _ _ S.zi2 (hp1.extBut _ _ S.zi1 hz0)
    have hTO3 : IsTupOf2 p2 TO a1 a2 := hp2.extBut _ _ S.Ti2 (hp1.extBut _ _ S.Ti1 (hs0.extBut _ _ S.TOz hTO))
    have hk : ∀ c o, c ≠ z → c ≠ i1 → c ≠ i2 → hp.get? c = some o → p2.get? c = some o := fun c o c1 c2 c3 e => hp2.extBut _ _ c3 (hp1.extBut _ _ c2 (hs0.extBut _ _ c1 e))
    have hj1 : St1 (i + 1) p2 := D1.over sn1 hp2 S.sep2_1
    refine wpAny_pure ⟨_, rfl, ?_⟩
    show Q (.ref p2.objs.size) ⟨p2.push { cls := .type "tuple", data := .seq #[x1, x2] }, g, d, tk2, os⟩
    have hpp : IsTupOf2 (p2.push { cls := .type "tuple", data := .seq #[x1, x2] }) p2.objs.size x1 x2 := Heap.get?_push_size _ rfl
    have hz4 : (p2.push { cls := .type "tuple", data := .seq #[x1, x2] }).objs.size = p2.objs.size + 1 := Heap.size_push ..
    rw [hsz] at hpp hz4 ⊢
    exact hQ x1 x2 _ tk2 _ _ hx1 hx2 (Heap.get?_push_of_some _ hz₃) h0 ⟨a1, a2, Heap.get?_push_of_some _ hTO3⟩ (D1.frame _ _ _ hj1 fun b hb o e => Heap.get?_push_of_some _ e) (D2.frame _ _ _ sn2 fun b hb o e => Heap.get?_push_of_some _ e) hpp hz4
      fun c o c1 c2 c3 c4 e => Heap.get?_push_of_some _ (hk c o c1 c3 c4 e)
theorem zipG_next_end {Q : Fin → Shared → Prop} (S : ZipSep2 z TI TO i1 i2 fp1 fp2) (D1 : Draws prog w A i1 fp1 n1 P1 St1) (D2 : Draws prog w A i2 fp2 n2 P2 St2)
    (hz : IsZipG s.heap z TI TO f0 f) (h0 : Fz f0) (hTI : IsTupOf2 s.heap TI (.ref i1) (.ref i2)) (hTO : IsTupOf2 s.heap TO a1 a2) (st1 : St1 i s.heap) (st2 : St2 i s.heap) (hle1 : i ≤ n1) (hle2 : i ≤ n2) (hend : i = n1 ∨ i = n2)
    (hE : ∀ h' tk e, (∀ c o, c ≠ z → c ≠ TO → c ≠ i1 → c ≠ i2 → s.heap.get? c = some o → h'.get? c = some o) → (∃ o, h'.get? e = some o ∧ o.cls = .type "StopIteration") → E (.ref e) { s with heap := h', toks := tk }) :
    wpAny (model prog w) A (Builtin.«zip.__next__» ⟨[.ref z], []⟩) Q E s := by
  obtain ⟨hp, g, d, tk0, os⟩ := s
  show wpAny _ _ (field (.ref z) 2 >>= _) _ _ _
  refine wpAny_bind (wpAny_field hz rfl (x := .bool false) rfl ?_)
  show wpAny _ _ (field (.ref z) 3 >>= _) _ _ _
  refine wpAny_bind (wpAny_field hz rfl (x := .ref TI) rfl ?_)
  refine wpAny_bind (wpAny_seqItems hTI rfl ?_)
  show wpAny _ _ (Builtin.SmallTypes.ownedTupleIsFree (.ref z) >>= _) _ _ _
  refine wpAny_bind (tupleFree_zip hz h0 ?_ fun g0 hz0 hs0 => ?_)
  · simp only [if_true]
    refine wpAny_bind (wpAny_rule ?_)
    refine wpAny_bind (wpAny_field hz rfl (x := .ref TO) rfl ?_)
    refine wpAny_bind (wpAny_setField_rec hz (by simp) fun g0 hz0 hs0 => ?_)
    replace hz0 : IsZipG g0 z TI TO .ellipsis f := hz0
    replace hs0 : Heap.SameBut z hp g0 := hs0
    refine wpAny_bind ?_
    simp only [List.zipIdx_cons, List.zipIdx_nil, List.forIn_cons, List.forIn_nil]
    refine wpAny_bind (wpAny_bind (wpAny_onRaise ?_))
    show wpAny _ _ (Builtin.SmallTypes.nextOf (.ref i1) >>= _) _ _ ⟨g0, g, d, tk0, os⟩
    by_cases hlt1 : i < n1
    · refine wpAny_bind (D1.item i _ _ _ hlt1 (D1.over st1 hs0 S.zf1) fun x1 p1 tk1 hx1 sn1 hp1 => wpAny_pure ?_)
      replace hp1 : Heap.SameBut i1 g0 p1 := hp1
      have hU1 : IsTupOf2 p1 TO a1 a2 := hp1.extBut _ _ S.Ti1 (hs0.extBut _ _ S.TOz hTO)
      refine wpAny_bind (wpAny_seqItems (s := ⟨p1, g, d, tk1, os⟩) hU1 rfl ?_)
      refine wpAny_bind (updateSeq_IsTupOf2 (s := ⟨p1, g, d, tk1, os⟩) hU1 fun g1 hT1 hs1 => ?_)
      replace hT1 : IsTupOf2 g1 TO x1 a2 := hT1
      replace hs1 : Heap.SameBut TO p1 g1 := hs1
      refine wpAny_bind (wpAny_letGo (wpAny_pure ?_))
      have hi2 : i = n2 := by omega
      refine wpAny_bind (wpAny_bind (wpAny_onRaise ?_))
      show wpAny _ _ (Builtin.SmallTypes.nextOf (.ref i2) >>= _) _ _ ⟨g1, g, d, tk1, os⟩
      refine wpAny_bind (D2.done ⟨g1, g, d, tk1, os⟩ _ _ (by rw [← hi2]; exact (D2.over (D2.over (D2.over st2 hs0 S.zf2) hp1 S.sep1_2) hs1 S.Tf2)) fun q e hq he => ?_)
      replace hq : Heap.ExtBut i2 g1 q := hq
      obtain ⟨oe, hoe, hce⟩ := he
      replace hoe : q.get? e = some oe := hoe
      have hzq : IsZipG q z TI TO .ellipsis f := hq _ _ S.zi2 (hs1.extBut _ _ S.TOz.symm (hp1.extBut _ _ S.zi1 hz0))
      have hez : e ≠ z := fun x => by subst x; rw [hzq] at hoe; cases hoe; simp at hce
      refine wpAny_setField_rec (s := ⟨q, g, d, tk1, os⟩) hzq (by simp) fun q' _ hq' => ?_
      replace hq' : Heap.SameBut z q q' := hq'
      exact hE q' tk1 e (fun c o cz cT c1 c2 x => hq'.extBut _ _ cz (hq _ _ c2 (hs1.extBut _ _ cT (hp1.extBut _ _ c1 (hs0.extBut _ _ cz x))))) ⟨oe, hq'.extBut _ _ hez hoe, hce⟩
    · have hi1 : i = n1 := by omega
      refine wpAny_bind (D1.done ⟨g0, g, d, tk0, os⟩ _ _ (by rw [← hi1]; exact (D1.over st1 hs0 S.zf1)) fun q e hq he => ?_)
      replace hq : Heap.ExtBut i1 g0 q := hq
      obtain ⟨oe, hoe, hce⟩ := he
      replace hoe : q.get? e = some oe := hoe
      have hzq : IsZipG q z TI TO .ellipsis f := hq _ _ S.zi1 hz0
      have hez : e ≠ z := fun x => by subst x; rw [hzq] at hoe; cases hoe; simp at hce
      refine wpAny_setField_rec (s := ⟨q, g, d, tk0, os⟩) hzq (by simp) fun q' _ hq' => ?_
      replace hq' : Heap.SameBut z q q' := hq'
      exact hE q' tk0 e (fun c o cz cT c1 c2 x => hq'.extBut _ _ cz (hq _ _ c1 (hs0.extBut _ _ cz x))) ⟨oe, hq'.extBut _ _ hez hoe, hce⟩
  · replace hz0 : IsZipG g0 z TI TO f0 true := hz0
    replace hs0 : Heap.SameBut z hp g0 := hs0
    simp only [Bool.false_eq_true, if_false]
    refine wpAny_bind ?_
    rw [← Array.forIn_toList]
    simp only [List.forIn_cons, List.forIn_nil]
    refine wpAny_bind (wpAny_bind (wpAny_holding ?_))
    show wpAny _ _ (Builtin.SmallTypes.nextOf (.ref i1) >>= _) _ _ ⟨g0, g, d, tk0, os⟩
    by_cases hlt1 : i < n1
    · refine wpAny_bind (D1.item i _ _ _ hlt1 (D1.over st1 hs0 S.zf1) fun x1 p1 tk1 hx1 sn1 hp1 => wpAny_pure ?_)
      replace hp1 : Heap.SameBut i1 g0 p1 := hp1
      have hi2 : i = n2 := by omega
      refine wpAny_pure ?_
      refine wpAny_bind (wpAny_bind (wpAny_holding ?_))
      show wpAny _ _ (Builtin.SmallTypes.nextOf (.ref i2) >>= _) _ _ ⟨p1, g, d, tk1, os⟩
      refine wpAny_bind (D2.done ⟨p1, g, d, tk1, os⟩ _ _ (by rw [← hi2]; exact (D2.over (D2.over st2 hs0 S.zf2) hp1 S.sep1_2)) fun q e hq he => ?_)
      replace hq : Heap.ExtBut i2 p1 q := hq
      exact hE q tk1 e (fun c o cz cT c1 c2 x => hq _ _ c2 (hp1.extBut _ _ c1 (hs0.extBut _ _ cz x))) he
    · have hi1 : i = n1 := by omega
      refine wpAny_bind (D1.done ⟨g0, g, d, tk0, os⟩ _ _ (by rw [← hi1]; exact (D1.over st1 hs0 S.zf1)) fun q e hq he => ?_)
      replace hq : Heap.ExtBut i1 g0 q := hq
      exact hE q tk0 e (fun c o cz cT c1 c2 x => hq _ _ c1 (hs0.extBut _ _ cz x)) he
end
end Dv

/-! enumerate(zip(xs, ys)) -/
namespace Dv
open PySem PySem.Spec PyProof.Rows L2
section
variable {prog : Program} {w : World} {A : Around} {E : Value → Shared → Prop} {s : Shared} {e z TI TO i1 i2 : Addr} {fp1 fp2 : List Addr} {n1 n2 i : Nat} {P1 P2 : Nat → Value → Prop} {St1 St2 : Nat → Heap → Prop} {a1 a2 f0 : Value} {f : Bool}
/-- the cell of the enumerate lies apart, too -/
structure EzAp (e z TI TO i1 i2 : Addr) (fp1 fp2 : List Addr) : Prop where
  s : ZipSep2 z TI TO i1 i2 fp1 fp2
  ez : e ≠ z
  eTO : e ≠ TO
  eTI : e ≠ TI
  e1 : e ∉ fp1
  e2 : e ∉ fp2
theorem EzAp.ei1 (D : EzAp e z TI TO i1 i2 fp1 fp2) : e ≠ i1 := fun q => D.e1 (q ▸ D.s.mem1)
theorem EzAp.ei2 (D : EzAp e z TI TO i1 i2 fp1 fp2) : e ≠ i2 := fun q => D.e2 (q ▸ D.s.mem2)
theorem enumZ_next_item {c : Int} {old : Value} {Q : Value → Shared → Prop} (S : EzAp e z TI TO i1 i2 fp1 fp2) (D1 : Draws prog w A.in1 i1 fp1 n1 P1 St1) (D2 : Draws prog w A.in1 i2 fp2 n2 P2 St2) (he : IsEnum s.heap e z c old)
    (hz : IsZipG s.heap z TI TO f0 f) (h0 : Fz f0) (hTI : IsTupOf2 s.heap TI (.ref i1) (.ref i2)) (hTO : IsTupOf2 s.heap TO a1 a2) (st1 : St1 i s.heap) (st2 : St2 i s.heap) (hlt1 : i < n1) (hlt2 : i < n2)
    (hQ : ∀ x1 x2 h' tk f0' f', P1 i x1 → P2 i x2 → IsEnumOut h' e z (c + 1) (.ref s.heap.objs.size) (s.heap.objs.size + 1) → IsZipG h' z TI TO f0' f' → Fz f0' → (∃ b1 b2, IsTupOf2 h' TO b1 b2) → St1 (i + 1) h' → St2 (i + 1) h' → IsTupOf2 h' s.heap.objs.size x1 x2 →
      h'.get? (s.heap.objs.size + 1) = some { cls := .type "tuple", data := .seq #[.int c tk, .ref s.heap.objs.size] } → h'.objs.size = s.heap.objs.size + 2 →
      (∀ c o, c ≠ e → c ≠ z → c ≠ TO → c ≠ i1 → c ≠ i2 → s.heap.get? c = some o → h'.get? c = some o) → Q (.ref (s.heap.objs.size + 1)) { s with heap := h', toks := tk + 1 }) :
    wpAny (model prog w) A (Builtin.«enumerate.__next__» ⟨[.ref e], []⟩) (fun fin s' => ∃ v, fin = .done (.ret v) ∧ Q v s') E s := by
  obtain ⟨hp, g, d, tk₀, os⟩ := s
  show wpAny _ _ (field (.ref e) 2 >>= _) _ _ _
  refine wpAny_bind (wpAny_field he rfl (x := .ref z) rfl ?_)
  have hTy : Shared.TypeIs ⟨hp, g, d, tk₀, os⟩ (.ref z) "zip" := ⟨_, hz, rfl⟩
  show wpAny _ _ (Builtin.SmallTypes.nextOf (.ref z) >>= _) _ _ _
  refine wpAny_bind ?_
  unfold Builtin.SmallTypes.nextOf
  refine wpAny_bind (wpAny_callSpecial?_slot (name := Str.ofString "__next__") hTy F.slot_zip_next (wpAny_call_entry F.slot_zip_next hTy F.entry_zip_next
    (zipG_next_item S.s D1 D2 hz h0 hTI hTO st1 st2 hlt1 hlt2 fun x1 x2 h₁ tk f0' f' hx1 hx2 hz1 hF hTO1 sn1 sn2 hT hsz1 hk1 => wpAny_pure ?_) (F.args_zip_next_1 _)))
  have he₁ : IsEnum h₁ e z c old := hk1 e _ S.ez S.eTO S.ei1 S.ei2 he
  show wpAny _ _ (field (.ref e) 3 >>= _) _ _ ⟨h₁, g, d, tk, os⟩
  refine wpAny_bind (wpAny_field he₁ rfl (x := rawInt c) rfl ?_)
  show wpAny _ _ (field (.ref e) 4 >>= _) _ _ ⟨h₁, g, d, tk, os⟩
  refine wpAny_bind (wpAny_field he₁ rfl (x := .none) rfl ?_)
  show wpAny _ _ (mkInt c >>= _) _ _ ⟨h₁, g, d, tk, os⟩
  refine wpAny_bind (wpAny_mkInt ?_)
  show wpAny _ _ (setField (.ref e) 3 (rawInt (c + 1)) >>= _) _ _ ⟨h₁, g, d, tk + 1, os⟩
  refine wpAny_bind (wpAny_setField_rec he₁ (by simp) fun h₂ he₂ hs₂ => ?_)
  replace hs₂ : Heap.SameBut e h₁ h₂ := hs₂
  replace he₂ : IsEnum h₂ e z (c + 1) old := he₂
  show wpAny _ _ (setField (.ref e) 4 .none >>= _) _ _ ⟨h₂, g, d, tk + 1, os⟩
  refine wpAny_bind (wpAny_setField_rec he₂ (by simp) fun h₃ he₃ hs₃ => ?_)
  replace hs₃ : Heap.SameBut e h₂ h₃ := hs₃
  replace he₃ : IsEnum h₃ e z (c + 1) old := he₃
  show wpAny _ _ (newTuple [.int c tk, .ref hp.objs.size] >>= _) _ _ ⟨h₃, g, d, tk + 1, os⟩
  refine wpAny_bind (wpAny_newTuple ?_)
  have hsz1' : h₁.objs.size = hp.objs.size + 1 := hsz1
  have hsz : h₃.objs.size = hp.objs.size + 1 := by rw [hs₃.1, hs₂.1, hsz1']
  have up3 : ∀ b o, b ≠ e → h₁.get? b = some o → h₃.get? b = some o := fun b o hbe hb => hs₃.extBut b o hbe (hs₂.extBut b o hbe hb)
  have he₄ : IsEnum (h₃.push { cls := .type "tuple", data := .seq #[.int c tk, .ref hp.objs.size] }) e z (c + 1) old := Heap.get?_push_of_some _ he₃
  have hel : e < hp.objs.size := Heap.lt_size he
  have ht₄ : (h₃.push { cls := .type "tuple", data := .seq #[.int c tk, .ref hp.objs.size] }).get? (hp.objs.size + 1) = some { cls := .type "tuple", data := .seq #[.int c tk, .ref hp.objs.size] } := by rw [← hsz]; exact Heap.get?_push_size _ rfl
  have hz₄ : (h₃.push { cls := .type "tuple", data := .seq #[.int c tk, .ref hp.objs.size] }).objs.size = hp.objs.size + 2 := by rw [Heap.size_push, hsz]
  have up4 : ∀ b o, b ≠ e → h₁.get? b = some o → (h₃.push { cls := .type "tuple", data := .seq #[.int c tk, .ref hp.objs.size] }).get? b = some o := fun b o hbe hb => Heap.get?_push_of_some _ (up3 b o hbe hb)
  generalize h₃.push { cls := .type "tuple", data := .seq #[.int c tk, .ref hp.objs.size] } = h₄ at he₄ ht₄ hz₄ up4
  show wpAny _ _ (Builtin.SmallTypes.ownedTupleIsFree (.ref e) >>= _) _ _ ⟨h₄, g, d, tk + 1, os⟩
  rw [hsz]
  refine wpAny_bind ?_
  · unfold Builtin.SmallTypes.ownedTupleIsFree
    refine wpAny_bind (wpAny_field he₄ rfl (x := .none) rfl (wpAny_pure ?_))
    simp only [if_true]
    refine wpAny_bind (wpAny_rule ?_)
    refine wpAny_bind (wpAny_field he₄ rfl (x := old) rfl ?_)
    refine wpAny_bind (wpAny_setField_rec he₄ (by simp) fun h₅ he₅ hs₅ => ?_)
    replace hs₅ : Heap.SameBut e h₄ h₅ := hs₅
    replace he₅ : IsEnum h₅ e z (c + 1) (.ref hp.objs.size) := he₅
    show wpAny _ _ (Builtin.SmallTypes.ownedTupleHandOut (.ref e) (.ref (hp.objs.size + 1)) >>= _) _ _ ⟨h₅, g, d, tk + 1, os⟩
    refine wpAny_bind ?_
    · unfold Builtin.SmallTypes.ownedTupleHandOut
      refine wpAny_bind (wpAny_setField_rec he₅ (by simp) fun h₆ he₆ hs₆ => ?_)
      replace hs₆ : Heap.SameBut e h₅ h₆ := hs₆
      replace he₆ : IsEnumOut h₆ e z (c + 1) (.ref hp.objs.size) (hp.objs.size + 1) := he₆
      refine wpAny_setField_rec he₆ (by simp) fun h₇ he₇ hs₇ => ?_
      replace hs₇ : Heap.SameBut e h₆ h₇ := hs₇
      replace he₇ : IsEnumOut h₇ e z (c + 1) (.ref hp.objs.size) (hp.objs.size + 1) := he₇
      have up7 : ∀ b o, b ≠ e → h₄.get? b = some o → h₇.get? b = some o := fun b o hbe hb => hs₇.extBut b o hbe (hs₆.extBut b o hbe (hs₅.extBut b o hbe hb))
      have up : ∀ b o, b ≠ e → h₁.get? b = some o → h₇.get? b = some o := fun b o hbe hb => up7 b o hbe (up4 b o hbe hb)
      refine wpAny_bind (wpAny_letGo (wpAny_pure ⟨_, rfl, ?_⟩))
      refine hQ x1 x2 h₇ tk f0' f' hx1 hx2 he₇ (up _ _ (Ne.symm S.ez) hz1) hF ?_ ?_ ?_ (up _ _ (Nat.ne_of_gt hel) hT) (up7 _ _ (Nat.ne_of_gt (Nat.lt_succ_of_lt hel)) ht₄) ?_ ?_
      · obtain ⟨b1, b2, hb⟩ := hTO1
        exact ⟨b1, b2, up _ _ (Ne.symm S.eTO) hb⟩
      · exact D1.frame _ _ _ sn1 fun b hb o y => up b o (fun q => S.e1 (q ▸ hb)) y
      · exact D2.frame _ _ _ sn2 fun b hb o y => up b o (fun q => S.e2 (q ▸ hb)) y
      · show h₇.objs.size = hp.objs.size + 2
        rw [hs₇.1, hs₆.1, hs₅.1, hz₄]
      · exact fun b o hbe hbz hbT hb1 hb2 hb => up b o hbe (hk1 b o hbz hbT hb1 hb2 hb)
theorem pyNext_enumZ_item {c : Int} {old : Value} {Q : Option Value → Shared → Prop} (S : EzAp e z TI TO i1 i2 fp1 fp2) (D1 : Draws prog w A.in1.in1 i1 fp1 n1 P1 St1) (D2 : Draws prog w A.in1.in1 i2 fp2 n2 P2 St2) (he : IsEnum s.heap e z c old)
    (hz : IsZipG s.heap z TI TO f0 f) (h0 : Fz f0) (hTI : IsTupOf2 s.heap TI (.ref i1) (.ref i2)) (hTO : IsTupOf2 s.heap TO a1 a2) (st1 : St1 i s.heap) (st2 : St2 i s.heap) (hlt1 : i < n1) (hlt2 : i < n2)
    (hQ : ∀ x1 x2 h' tk f0' f', P1 i x1 → P2 i x2 → IsEnumOut h' e z (c + 1) (.ref s.heap.objs.size) (s.heap.objs.size + 1) → IsZipG h' z TI TO f0' f' → Fz f0' → (∃ b1 b2, IsTupOf2 h' TO b1 b2) → St1 (i + 1) h' → St2 (i + 1) h' → IsTupOf2 h' s.heap.objs.size x1 x2 →
      h'.get? (s.heap.objs.size + 1) = some { cls := .type "tuple", data := .seq #[.int c tk, .ref s.heap.objs.size] } → h'.objs.size = s.heap.objs.size + 2 →
      (∀ c o, c ≠ e → c ≠ z → c ≠ TO → c ≠ i1 → c ≠ i2 → s.heap.get? c = some o → h'.get? c = some o) → Q (some (.ref (s.heap.objs.size + 1))) { s with heap := h', toks := tk + 1 }) :
    wpAny (model prog w) A (pyNext (.ref e)) Q E s := by
  have hT : s.TypeIs (.ref e) "enumerate" := ⟨_, he, rfl⟩
  unfold pyNext
  exact wpAny_bind (wpAny_attempt (wpAny_callSpecial?_slot (name := Str.ofString "__next__") hT F.slot_enumerate_next
    (wpAny_call_entry F.slot_enumerate_next hT F.entry_enumerate_next
      (enumZ_next_item S D1 D2 he hz h0 hTI hTO st1 st2 hlt1 hlt2 fun x1 x2 h' tk f0' f' b1 b2 b3 b4 b5 b6 b7 b8 b9 c1 c2 c3 => wpAny_pure (hQ x1 x2 h' tk f0' f' b1 b2 b3 b4 b5 b6 b7 b8 b9 c1 c2 c3)) (F.args_enumerate_next_1 _))))
theorem pyNext_enumZ_end {c : Int} {old : Value} {Q : Option Value → Shared → Prop} (S : EzAp e z TI TO i1 i2 fp1 fp2) (D1 : Draws prog w A.in1.in1 i1 fp1 n1 P1 St1) (D2 : Draws prog w A.in1.in1 i2 fp2 n2 P2 St2) (he : IsEnum s.heap e z c old)
    (hz : IsZipG s.heap z TI TO f0 f) (h0 : Fz f0) (hTI : IsTupOf2 s.heap TI (.ref i1) (.ref i2)) (hTO : IsTupOf2 s.heap TO a1 a2) (st1 : St1 i s.heap) (st2 : St2 i s.heap) (hle1 : i ≤ n1) (hle2 : i ≤ n2) (hend : i = n1 ∨ i = n2)
    (hQ : ∀ h' tk, (∀ c o, c ≠ z → c ≠ TO → c ≠ i1 → c ≠ i2 → s.heap.get? c = some o → h'.get? c = some o) → Q none { s with heap := h', toks := tk }) : wpAny (model prog w) A (pyNext (.ref e)) Q E s := by
  have hT : s.TypeIs (.ref e) "enumerate" := ⟨_, he, rfl⟩
  unfold pyNext
  refine wpAny_bind (wpAny_attempt (wpAny_callSpecial?_slot (name := Str.ofString "__next__") hT F.slot_enumerate_next
    (wpAny_call_entry F.slot_enumerate_next hT F.entry_enumerate_next ?_ (F.args_enumerate_next_1 _))))
  show wpAny _ _ (field (.ref e) 2 >>= _) _ _ _
  refine wpAny_bind (wpAny_field he rfl (x := .ref z) rfl ?_)
  have hTy : s.TypeIs (.ref z) "zip" := ⟨_, hz, rfl⟩
  show wpAny _ _ (Builtin.SmallTypes.nextOf (.ref z) >>= _) _ _ _
  refine wpAny_bind ?_
  unfold Builtin.SmallTypes.nextOf
  refine wpAny_bind (wpAny_callSpecial?_slot (name := Str.ofString "__next__") hTy F.slot_zip_next (wpAny_call_entry F.slot_zip_next hTy F.entry_zip_next
    (zipG_next_end S.s D1 D2 hz h0 hTI hTO st1 st2 hle1 hle2 hend fun h' tk x hk hx' => ?_) (F.args_zip_next_1 _)))
  obtain ⟨o, ho, hc⟩ := hx'
  refine wpAny_bind (wpAny_isInstance (T := "StopIteration") (b := true) ⟨o, ho, hc⟩ isSubtype_stop ?_)
  exact wpAny_pure (hQ _ _ hk)
/-! ### how it begins -/
theorem pyIter_zipG {Q : Value → Shared → Prop} (hz : IsZipG s.heap z TI TO f0 f) (h : Q (.ref z) s) : wpAny (model prog w) A (pyIter (.ref z)) Q E s := by
  have hT : s.TypeIs (.ref z) "zip" := ⟨_, hz, rfl⟩
  refine wpAny_pyIter_slot hT F.slot_zip_iter (wpAny_call_entry F.slot_zip_iter hT F.entry_zip_iter ?_ (F.args_zip_iter_1 _))
  show wpAny _ _ (ret (.ref z)) _ _ s
  exact wpAny_pure ⟨_, rfl, "zip", _, hT, F.slot_zip_next.lookup, h⟩
end
theorem meets_enumZ {z TI TO : Addr} : Meets (Builtin.«enumerate.__new__» ⟨[.type "enumerate", .ref z], []⟩) (fun _ R s => IsZip s.heap z TI TO .none ∧
      R (.ok (.ret (.ref s.heap.objs.size))) { s with heap := s.heap.push { cls := .type "enumerate", data := .fields #[.none, .bool false, .ref z, rawInt 0, .none, .none] } }) :=
  .of_wp fun P w A R s hR => by
    obtain ⟨hp, g, d, tk, os⟩ := s
    obtain ⟨hH, hR⟩ := hR
    have sb := sub_enumerate
    have q1 : ∀ {A' : Around} {E Q : Value → Shared → Prop}, Q (.ref z) ⟨hp, g, d, tk, os⟩ → wpAny (model P w) A' (pyIter (.ref z)) Q E ⟨hp, g, d, tk, os⟩ := fun q => pyIter_zipG (f := false) hH q
    wp_walk using q1
    refine wpAny_stack_any fun _ => wpAny_pure ?_
    split
    · rename_i c _ _ _ _ _
      cases c == Value.type "enumerate" <;>
      · wp_walk using q1
        exact ⟨_, rfl, hR⟩
    · wp_walk using q1
      exact ⟨_, rfl, hR⟩
theorem enum_beginsZ {P : Program} {w : World} {A : Around} {E : Value → Shared → Prop} {s : Shared} {z TI TO : Addr} {Q : Value → Shared → Prop} (hz : IsZip s.heap z TI TO .none)
    (h : ∀ h', IsEnum h' s.heap.objs.size z 0 .none → (∀ b u, s.heap.get? b = some u → h'.get? b = some u) → Q (.ref s.heap.objs.size) { s with heap := h' }) :
    wpAny (model P w) A (call (.type "enumerate") [.ref z]) Q E s := by
  refine callType_new F.called_enumerate (by decide) (F.typeCall_enumerate_1 _) (F.newCall_enumerate_1 _) (fun ob => F.args_object_init_2 ob _) F.entry_enumerate_new (meets_enumZ (TI := TI) (TO := TO)) ⟨hz, ?_⟩
  show _ ∧ _
  have he : IsEnum (s.heap.push { cls := .type "enumerate", data := .fields #[.none, .bool false, .ref z, rawInt 0, .none, .none] }) s.heap.objs.size z 0 .none := Heap.get?_push_size s.heap rfl
  exact ⟨⟨_, he, rfl⟩, h _ he fun b u x => Heap.get?_push_of_some _ x⟩

def Itez (K : PySem.W.Frag) (k l : Bool) (a b : Addr) : It :=
  ⟨fun i H => ∃ (xs ys : List V) (x y : V), SqK k K H a xs ∧ SqK l K H b ys ∧ xs[i]? = some x ∧ ys[i]? = some y,
    fun i H v H' => ∃ T T2 x y, v = .ref T2 ∧ H T = none ∧ H T2 = none ∧ T2 ≠ T ∧ H' = upd (upd H T (.tup [x, y])) T2 (.tup [.int (i : Nat), .ref T]) ∧ (∀ xs, SqK k K H a xs → xs[i]? = some x) ∧ ∀ ys, SqK l K H b ys → ys[i]? = some y,
    fun i H => ∃ xs ys : List V, SqK k K H a xs ∧ SqK l K H b ys ∧ i ≤ xs.length ∧ i ≤ ys.length ∧ (xs.length = i ∨ ys.length = i)⟩
structure EAp (e z TI TO i1 i2 a b : Addr) : Prop where
  s : EzAp e z TI TO i1 i2 [i1, a] [i2, b]
  a1 : a ≠ i1
  b2 : b ≠ i2
theorem eAp {n a b : Addr} (ha : a < n) (hb : b < n) : EAp (n + 5) (n + 4) (n + 2) (n + 3) n (n + 1) a b := by
  have Z := zAp ha hb
  have ha' : a ≠ n + 5 := Nat.ne_of_lt (Nat.lt_of_lt_of_le ha (Nat.le_add_right _ _))
  have hb' : b ≠ n + 5 := Nat.ne_of_lt (Nat.lt_of_lt_of_le hb (Nat.le_add_right _ _))
  refine ⟨⟨Z.s, Nat.ne_of_gt (Nat.add_lt_add_left (by decide) n), Nat.ne_of_gt (Nat.add_lt_add_left (by decide) n), Nat.ne_of_gt (Nat.add_lt_add_left (by decide) n), fun h => ?_, fun h => ?_⟩, Z.a1, Z.b2⟩
  · rcases List.mem_cons.mp h with q | q
    · exact absurd q (Nat.ne_of_gt (Nat.lt_add_of_pos_right (by decide)))
    · exact ha' (List.mem_singleton.mp q).symm
  · rcases List.mem_cons.mp h with q | q
    · exact absurd q (Nat.ne_of_gt (Nat.add_lt_add_left (by decide) n))
    · exact hb' (List.mem_singleton.mp q).symm
theorem turn_enumZ {P : Program} {w : World} {K : PySem.W.Frag} {elts : List Expr} {kk : Nat} {tpos : Pos} {a b e z TI TO i1 i2 : Addr} (k l : Bool) (D : EAp e z TI TO i1 i2 a b) :
    Turn P w K (.Tuple elts kk tpos) (Itez K k l a b) [e, z, TI, TO, i1, i2] e (fun i h => (∃ old, IsEnum h e z ((i : Nat) : Int) old) ∧ (∃ f0 f, IsZipG h z TI TO f0 f ∧ Fz f0) ∧ IsPair h TI (.ref i1) (.ref i2) ∧ (∃ x y, IsPair h TO x y) ∧ ItK k h i1 a i ∧ ItK l h i2 b i) where
  mem := by simp
  obj := fun i h st c hc => by
    obtain ⟨⟨_, he⟩, ⟨_, _, hz, _⟩, hTI, ⟨x, y, hTO⟩, h1, h2⟩ := st
    have e' : c = e ∨ c = z ∨ c = TI ∨ c = TO ∨ c = i1 ∨ c = i2 := by simpa using hc
    rcases e' with q | q | q | q | q | q
    · rw [q]; exact ⟨_, he, fun v q => nomatch q⟩
    · rw [q]; exact ⟨_, hz, fun v q => nomatch q⟩
    · rw [q]; exact ⟨_, hTI, fun v q => nomatch q⟩
    · rw [q]; exact ⟨_, hTO, fun v q => nomatch q⟩
    · rw [q]; exact h1.obj
    · rw [q]; exact h2.obj
  keep := fun i h h' st k => by
    obtain ⟨⟨o, he⟩, ⟨f0, f, hz, hF⟩, hTI, ⟨x, y, hTO⟩, h1, h2⟩ := st
    exact ⟨⟨o, k e (by simp) _ he⟩, ⟨f0, f, k z (by simp) _ hz, hF⟩, k TI (by simp) _ hTI, ⟨x, y, k TO (by simp) _ hTO⟩, h1.at fun o q => k i1 (by simp) o q, h2.at fun o q => k i2 (by simp) o q⟩
  item := by
    intro X hP hw hK hc i pins s σ H E I hf st hg
    subst hP hw hK
    obtain ⟨⟨old, he⟩, ⟨f0, f, hz, hF⟩, hTI, ⟨x0, y0, hTO⟩, h1, h2⟩ := st
    obtain ⟨xs, ys, x, y, hqx, hqy, hx, hy⟩ := hg
    obtain ⟨its, rv, p⟩ := sqk_is I hqx
    obtain ⟨its2, rv2, p2⟩ := sqk_is I hqy
    obtain ⟨u, hu, ru⟩ := rv.get hx
    obtain ⟨u2, hu2, ru2⟩ := rv2.get hy
    have hel : e < s.heap.objs.size := Heap.lt_size he
    have hh : X.A.in1.in1.handled = none := I.ok.hd hc
    have l1 : i < its.toArray.size := by simpa using (List.getElem?_eq_some_iff.mp hu).1
    have l2 : i < its2.toArray.size := by simpa using (List.getElem?_eq_some_iff.mp hu2).1
    refine pyNext_enumZ_item D.s (drawsK hh k i1 a D.a1 its.toArray) (drawsK hh l i2 b D.b2 its2.toArray) he hz hF hTI hTO ⟨h1, p⟩ ⟨h2, p2⟩ l1 l2 fun x1 x2 h' tk f0' f' e1 e2 ho z' hF' TO' st1' st2' hT hT2 hsz hk => ?_
    have eu : x1 = u := by
      have e1 : its.toArray[i]? = some x1 := e1
      rw [List.getElem?_toArray, hu] at e1
      exact (Option.some.inj e1).symm
    have eu2 : x2 = u2 := by
      have e2 : its2.toArray[i]? = some x2 := e2
      rw [List.getElem?_toArray, hu2] at e2
      exact (Option.some.inj e2).symm
    subst eu eu2
    refine ⟨_, rfl, wpAny_letOwnedTupleGo_enum (s := { s with heap := h', toks := tk + 1 }) ho fun h'' he' sb => ?_⟩
    have ne1 : s.heap.objs.size ≠ e := Nat.ne_of_gt hel
    have ne2 : s.heap.objs.size + 1 ≠ e := Nat.ne_of_gt (Nat.lt_succ_of_lt hel)
    have hTa : h''.get? s.heap.objs.size = some { cls := .type "tuple", data := .seq #[x1, x2] } := (sb.2 _ ne1).trans hT
    have hTb : h''.get? (s.heap.objs.size + 1) = some { cls := .type "tuple", data := .seq #[.int i tk, .ref s.heap.objs.size] } := (sb.2 _ ne2).trans hT2
    have hn1 : H s.heap.objs.size = none := I.hok.fresh (Nat.le_refl _)
    have hn2 : H (s.heap.objs.size + 1) = none := I.hok.fresh (Nat.le_add_right _ _)
    have kp : ∀ d o, d ∉ [e, z, TI, TO, i1, i2] → s.heap.get? d = some o → h''.get? d = some o := fun d o hb q => by
      simp only [List.mem_cons, List.not_mem_nil, or_false, not_or] at hb
      exact (sb.2 d hb.1).trans (hk d o hb.1 hb.2.1 hb.2.2.2.1 hb.2.2.2.2.1 hb.2.2.2.2.2 q)
    -- the pair ahead, then the outer tuple
    have I0 : Inv X pins σ (upd H s.heap.objs.size (.tup [x, y])) { s with heap := s.heap.push { cls := .type "tuple", data := .seq #[x1, x2] }, toks := tk } :=
      I.turnedNew (t' := tk) (ch := []) (fun d o _ q => Heap.get?_push_of_some _ q) (fun d hd => nomatch hd) (Nat.le_refl _) ⟨by show 2 ≤ sizeLine; decide, [x1, x2], .cons ru (.cons ru2 .nil), ⟨_, Heap.get?_push_size _ rfl, rfl, _, rfl⟩⟩
    have hlt : ∀ c ∈ [e, z, TI, TO, i1, i2], c < s.heap.objs.size := fun c hcm => by
      have e' : c = e ∨ c = z ∨ c = TI ∨ c = TO ∨ c = i1 ∨ c = i2 := by simpa using hcm
      rcases e' with q | q | q | q | q | q
      · rw [q]; exact hel
      · rw [q]; exact Heap.lt_size hz
      · rw [q]; exact Heap.lt_size hTI
      · rw [q]; exact Heap.lt_size hTO
      · rw [q]; obtain ⟨_, e1, _⟩ := h1.obj; exact Heap.lt_size e1
      · rw [q]; obtain ⟨_, e2, _⟩ := h2.obj; exact Heap.lt_size e2
    have hf0 : ∀ c ∈ [e, z, TI, TO, i1, i2], FpOk X pins (upd H s.heap.objs.size (.tup [x, y])) c := fun c hcm => by
      have q := hf c hcm
      exact ⟨by rw [upd_ne (Nat.ne_of_lt (hlt c hcm))]; exact q.1, q.2⟩
    have new : ObjOk X.prog X.w (upd (upd H s.heap.objs.size (.tup [x, y])) (s.heap.objs.size + 1) (.tup [.int (i : Nat), .ref s.heap.objs.size])) h'' (s.heap.objs.size + 1) (.tup [.int (i : Nat), .ref s.heap.objs.size]) :=
      ⟨by show 2 ≤ sizeLine; decide, [.int i tk, .ref s.heap.objs.size], .cons ⟨_, rfl⟩ (.cons rfl .nil), ⟨_, hTb, rfl, _, rfl⟩⟩
    have kp0 : ∀ d o, d ∉ [e, z, TI, TO, i1, i2] → (s.heap.push { cls := .type "tuple", data := .seq #[x1, x2] }).get? d = some o → h''.get? d = some o := fun d o hb q => by
      rcases Heap.get?_push_cases q with ⟨q1, q2⟩ | q2
      · rw [q1, q2]
        exact hTa
      · exact kp d o hb q2
    have I1 : Inv X pins σ (upd (upd H s.heap.objs.size (.tup [x, y])) (s.heap.objs.size + 1) (.tup [.int (i : Nat), .ref s.heap.objs.size])) { s with heap := h'', toks := tk + 1 } :=
      I0.turnedNew (t' := tk + 1) (ch := [e, z, TI, TO, i1, i2]) kp0 hf0 (Nat.le_of_eq (Heap.size_push ..)) new
    refine ⟨.ref (s.heap.objs.size + 1), _, I1, rfl, ⟨_, _, x, y, rfl, hn1, hn2, Nat.succ_ne_self _, rfl, fun l hl => by rw [sqk_inj I hl hqx]; exact hx, fun l hl => by rw [sqk_inj I hl hqy]; exact hy⟩, ⟨⟨.ref s.heap.objs.size, ?_⟩, ⟨f0', f', (sb.2 _ (Ne.symm D.s.ez)).trans z', hF'⟩, ?_, ?_, ?_, ?_⟩, fun c hcm => ?_⟩
    · have e2 : ((i + 1 : Nat) : Int) = (i : Int) + 1 := by omega
      rw [e2]
      exact he'
    · exact (sb.2 _ (Ne.symm D.s.eTI)).trans (hk _ _ (Ne.symm D.s.eTI) D.s.s.TIz D.s.s.TITO D.s.s.TIi1 D.s.s.TIi2 hTI)
    · obtain ⟨b1, b2, hb⟩ := TO'
      exact ⟨b1, b2, (sb.2 _ (Ne.symm D.s.eTO)).trans hb⟩
    · exact st1'.1.at fun o q => (sb.2 _ (Ne.symm D.s.ei1)).trans q
    · exact st2'.1.at fun o q => (sb.2 _ (Ne.symm D.s.ei2)).trans q
    · rw [upd_ne (Nat.ne_of_lt (Nat.lt_succ_of_lt (hlt c hcm))), upd_ne (Nat.ne_of_lt (hlt c hcm))]
      exact (hf c hcm).1
  done := by
    intro X hP hw hK hc i pins s σ H E I hf st hg
    subst hP hw hK
    obtain ⟨⟨old, he⟩, ⟨f0, f, hz, hF⟩, hTI, ⟨x0, y0, hTO⟩, h1, h2⟩ := st
    obtain ⟨xs, ys, hqx, hqy, hl1, hl2, hend⟩ := hg
    obtain ⟨its, rv, p⟩ := sqk_is I hqx
    obtain ⟨its2, rv2, p2⟩ := sqk_is I hqy
    have l1 := rv.length
    have l2 := rv2.length
    have s1 : its.toArray.size = xs.length := by simp [l1]
    have s2 : its2.toArray.size = ys.length := by simp [l2]
    have hh : X.A.in1.in1.handled = none := I.ok.hd hc
    refine pyNext_enumZ_end D.s (drawsK hh k i1 a D.a1 its.toArray) (drawsK hh l i2 b D.b2 its2.toArray) he hz hF hTI hTO ⟨h1, p⟩ ⟨h2, p2⟩ (by omega) (by omega) (by omega) fun h' tk hk => ⟨rfl, I.turnedL (t' := tk) (ch := [e, z, TI, TO, i1, i2]) (fun d o hb q => ?_) hf⟩
    simp only [List.mem_cons, List.not_mem_nil, or_false, not_or] at hb
    exact hk d o hb.2.1 hb.2.2.2.1 hb.2.2.2.2.1 hb.2.2.2.2.2 q
  self := fun A i s Q E st h => by
    obtain ⟨⟨_, he⟩, _⟩ := st
    exact wpAny_pyIter_enum he h
def iEzG (K : PySem.W.Frag) (ta : TA) : TI := fun σ H R => ta σ H fun vs H1 => ∃ k l a b xs ys, vs = [.ref a, .ref b] ∧ SqK k K H1 a xs ∧ SqK l K H1 b ys ∧ R (Itez K k l a b) H1
theorem pi_enZ {X : Cx} {e e2 : Expr} {ta : TA} {p pos p2 pos2 tpos : Pos} {elts : List Expr} {kk : Nat} (hg : Gl X "zip") (hm : X.mg "zip" = none) (hg0 : Gl X "enumerate") (hm0 : X.mg "enumerate" = none) (ha : PA X [e, e2] ta)
    (hs : starEach [e, e2] X.env = (false, eval e X.env) :: starEach [e2] X.env := by rfl) (hpl : (backTo pos (starEach [e2] X.env)).any (·.1) = false := by rfl)
    (hs0 : starEach [.Call (.Name "zip" p) [e, e2] [] pos] X.env = [(false, eval (.Call (.Name "zip" p) [e, e2] [] pos) X.env)] := by rfl) :
    PI X (.Tuple elts kk tpos) (.Call (.Name "enumerate" p2) [.Call (.Name "zip" p) [e, e2] [] pos] [] pos2) (iEzG X.K ta) := by
  refine ⟨fun pins s σ H R I h => ?_⟩
  refine Call_ (ld_blt I hg0 hm0 boot_enumerate (PyProof.Rows.callWith_type1 ?_ hs0 rfl))
  rw [hs0]
  show wpAny _ _ (spliced ((false, eval _ X.env) :: backTo pos2 [])) _ _ s
  refine Calls.spliced_cons ?_
  refine Call_ (ld_blt I hg hm PyProof.Rows.boot_zip (PyProof.Rows.callWith_type1 (thn (ha.run pos pins s σ H _ I h) fun us s1 ⟨vs, H1, I1, r1, q1⟩ => ?_) hs hpl))
  obtain ⟨k, l, a, b, xs, ys, ex, hqx, hqy, q⟩ := q1
  subst ex
  cases r1 with
  | cons r rr =>
    cases rr with
    | cons r' rr =>
      cases rr
      cases r
      cases r'
      obtain ⟨its, rv, p1⟩ := sqk_is I1 hqx
      obtain ⟨its2, rv2, p2⟩ := sqk_is I1 hqy
      refine zip_begins2 (beginsK k a its.toArray) (beginsK l b its2.toArray) p1 p2 fun h' hz hTI hTO h1 h2 hsz hk => ?_
      refine Calls.spliced_nil ?_
      have I2 : Inv X pins σ H1 { s1 with heap := h' } := I1.kept (t' := s1.toks) hk
      refine enum_beginsZ (s := { s1 with heap := h' }) hz fun h'' he hk2 => wpAny_pyIter_enum he ?_
      have hsz' : ({ s1 with heap := h' } : Shared).heap.objs.size = s1.heap.objs.size + 5 := hsz
      rw [hsz'] at he ⊢
      have I3 : Inv X pins σ H1 { s1 with heap := h'' } := I2.kept (t' := s1.toks) hk2
      refine ⟨s1.heap.objs.size + 5, [s1.heap.objs.size + 5, s1.heap.objs.size + 4, s1.heap.objs.size + 2, s1.heap.objs.size + 3, s1.heap.objs.size, s1.heap.objs.size + 1], _, _, H1, rfl, I3, turn_enumZ k l (eAp p1.lt p2.lt),
        ⟨⟨.none, he⟩, ⟨.none, false, hk2 _ _ hz, .inl rfl⟩, hk2 _ _ hTI, ⟨_, _, hk2 _ _ hTO⟩, (ItK.first h1).at fun o q => hk2 _ o q, (ItK.first h2).at fun o q => hk2 _ o q⟩, fun c hcm => ?_, q⟩
      have e' : c = s1.heap.objs.size + 5 ∨ c = s1.heap.objs.size + 4 ∨ c = s1.heap.objs.size + 2 ∨ c = s1.heap.objs.size + 3 ∨ c = s1.heap.objs.size ∨ c = s1.heap.objs.size + 1 := by simpa using hcm
      have hle : s1.heap.objs.size ≤ c := by
        rcases e' with z | z | z | z | z | z <;> rw [z] <;> first | exact Nat.le_refl _ | exact Nat.le_add_right _ _
      exact I1.fpOk hle (I1.hok.fresh hle)
def iEz {S : Type} (m n : M S PyData) : M S (List PyData) := fun s env => (iZ m n s env).map fun p => (enumD p.1, p.2)
theorem wk_enz {K : PySem.W.Frag} {G : Hp} {k l : Bool} {a b : Addr} {vs us : List V} {ds es : List PyData} (hs : SqK k K G a vs) (hs2 : SqK l K G b us) (ha : DpAll K G vs ds) (hb : DpAll K G us es) : Wk K (Itez K k l a b) (enumD (zipD ds es)) G := fun G1 H1 e ex => ⟨fun i d hd => by
  unfold enumD at hd
  rw [List.getElem?_mapIdx] at hd
  obtain ⟨d1, q1, rfl⟩ := some_map hd
  unfold zipD at q1
  rw [List.getElem?_zipWith] at q1
  cases qa : ds[i]? with
  | none =>
    rw [qa] at q1
    cases q1
  | some x =>
    cases qb : es[i]? with
    | none =>
      rw [qa, qb] at q1
      cases q1
    | some y =>
      rw [qa, qb] at q1
      injection q1 with q1
      subst q1
      obtain ⟨v, hv, D1⟩ := ha.get qa
      obtain ⟨u, hu, D2⟩ := hb.get qb
      have s1 := sqk_ex (e.trans ex) hs
      have s2 := sqk_ex (e.trans ex) hs2
      refine ⟨⟨vs, us, v, u, s1, s2, hv, hu⟩, fun z H' ⟨T, T2, y1, y2, e1, hT, hT2, hne, e2, f1, f2⟩ => ?_⟩
      subst e1 e2
      have g1 := f1 vs s1
      have g2 := f2 us s2
      rw [hv] at g1
      rw [hu] at g2
      cases g1
      cases g2
      have g := Gr.laid ex hT (o := .tup [v, u])
      have hT2' : upd H1 T (.tup [v, u]) T2 = none := by rw [upd_ne hne]; exact hT2
      have gg := Gr.laid g.ex hT2' (o := .tup [.int (i : Nat), .ref T])
      have eG := g.trans gg
      exact ⟨_, eG, .tup (.inl (.inl upd_same)) (.cons (.int _) (.cons (.tup (.inl (.inl (by rw [upd_ne (Ne.symm hne), upd_same]))) (.cons ((D1.ex e).ex eG.g) (.cons ((D2.ex e).ex eG.g) .nil))) .nil))⟩, by
  have l1 := ha.length
  have l2 := hb.length
  have l3 : (enumD (zipD ds es)).length = min ds.length es.length := by
    unfold enumD zipD
    rw [List.length_mapIdx, List.length_zipWith]
  exact ⟨vs, us, sqk_ex (e.trans ex) hs, sqk_ex (e.trans ex) hs2, by omega, by omega, by omega⟩⟩
theorem i_enz {K : PySem.W.Frag} {S : Type} {X : Cx} {c : Ctx K S} {e e2 : Expr} {pos p p2 pos2 tpos : Pos} {m mn : M S PyData} {elts : List Expr} {kk : Nat} (ha : PE X e (tE c m)) (hb : PE X e2 (tE c mn)) (hp : ∀ ta, PA X [e, e2] ta → PI X (.Tuple elts kk tpos) (.Call (.Name "enumerate" p2) [.Call (.Name "zip" p) [e, e2] [] pos] [] pos2) (iEzG K ta))
    (hs : starEach (e :: [e2]) X.env = (false, eval e X.env) :: starEach [e2] X.env := by rfl) (hs2 : starEach (e2 :: []) X.env = (false, eval e2 X.env) :: starEach [] X.env := by rfl) : PI X (.Tuple elts kk tpos) (.Call (.Name "enumerate" p2) [.Call (.Name "zip" p) [e, e2] [] pos] [] pos2) (tI c (iEz m mn)) :=
  (hp _ (f_cons ha (f_cons hb f_nil hs2) hs)).imp fun σ H R ⟨G, F, env, s, r, s', Rl, hm, k⟩ => by
    obtain ⟨⟨r0, s0⟩, hm1, e00⟩ := some_map hm
    injection e00 with e3 e4
    subst e3 e4
    obtain ⟨⟨y, s1⟩, h1, hm⟩ := some_bind hm1
    obtain ⟨⟨z, s2⟩, h2, hm⟩ := some_bind hm
    obtain ⟨ds, h3, hm⟩ := some_bind hm
    obtain ⟨es, h4, e0⟩ := some_map hm
    injection e0 with e1 e2
    subst e1 e2
    refine ⟨G, F, env, s, [y, z], s2, Rl, ?_, fun vs H1 G1 F1 R1 M1 D1 => ?_⟩
    · show (m s env).bind _ = _
      rw [h1]
      show ((mn s1 env).bind _).bind _ = _
      rw [h2]
      rfl
    · cases D1 with
      | cons D1 D2 =>
        cases D2 with
        | cons D2 D3 =>
          cases D3
          obtain ⟨k1, a, us, rfl, hs1, ha1⟩ := sqk_of D1 h3
          obtain ⟨k2, b, ws, rfl, hs2, ha2⟩ := sqk_of D2 h4
          exact ⟨k1, k2, a, b, us, ws, rfl, sqk_ex R1.ex hs1, sqk_ex R1.ex hs2, k _ H1 G1 F1 R1 M1 (wk_enz hs1 hs2 ha1 ha2)⟩
end Dv

/-! a if t else b as a test; xs.extend(ys) -/
namespace Dv
open PySem PySem.Spec PyProof.Rows L2
section
variable {K : PySem.W.Frag} {S : Type} {X : Cx} {c : Ctx K S} {t a b : Expr} {pos : Pos}
def tIfT (tA ta tb : TT) : TT := fun σ H Q => tA σ H fun c H1 => if c = true then ta σ H1 Q else tb σ H1 Q
theorem pt_ifx {tA ta tb : TT} (ht : PT X t tA) (ha : PT X a ta) (hb : PT X b tb) : PT X (.IfExp t a b pos) (tIfT tA ta tb) := by
  refine ⟨fun pins s σ H Q I h => ?_⟩
  have e : ∀ w, isTrue (.IfExp t a b pos) X.env w = (isTrue t X.env (eval t X.env) >>= fun c => if c = true then isTrue a X.env (eval a X.env) else isTrue b X.env (eval b X.env)) := fun w => by rfl
  rw [e]
  refine wpAny_bind (thn (ht.run pins s σ H _ I h) fun c s1 ⟨H1, I1, q1⟩ => ?_)
  cases c with
  | true => exact ha.run pins s1 σ H1 Q I1 q1
  | false => exact hb.run pins s1 σ H1 Q I1 q1
theorem y_ifx {tm ma mb : M S Bool} (ht : PT X t (tT c tm)) (ha : PT X a (tT c ma)) (hb : PT X b (tT c mb)) : PT X (.IfExp t a b pos) (tT c (eIf tm ma mb)) := (pt_ifx ht ha hb).imp fun σ H Q ⟨G, F, env, s, r, s', R, hm, k⟩ => by
  obtain ⟨y, s1, h1, hm⟩ := if_pre hm
  refine ⟨G, F, env, s, y, s1, R, h1, fun H1 G1 F1 R1 M1 => ?_⟩
  cases y with
  | true => exact ⟨G1, F1, env, s1, r, s', R1, hm, fun H' G' F' R' M' => k H' G' F' R' (M1.trans M')⟩
  | false => exact ⟨G1, F1, env, s1, r, s', R1, hm, fun H' G' F' R' M' => k H' G' F' R' (M1.trans M')⟩
end
end Dv

/-! [x] * k as a list of one's own; xs[i], xs[j] = a pair; xs.extend(..); tuple(range(n)) -/
namespace Dv
open PySem PySem.Spec PyProof.Rows L2
section
variable {K : PySem.W.Frag} {S : Type} {X : Cx} {c : Ctx K S} {e e2 tg a b : Expr} {pos p tpos : Pos} {m mn : M S PyData} {σ : L2.St} {H : Hp} {D : Ends}
def dRep : PyData → PyData → Option (List PyData)
  | .list xs, .int k => if xs.length * k.toNat ≤ 1000000 ∧ k ≤ 1000000 ∧ -1000000 ≤ k then some (List.replicate k.toNat xs).flatten else none
  | _, _ => none
theorem d2_rep : D2o K (rMulA K) dRep := by
  intro G F H x y d e z Q ex hx hy hf k
  cases d with
  | list xs =>
    cases e with
    | int j =>
      simp only [dRep] at hf
      split at hf
      · rename_i hm
        cases hf
        obtain ⟨a, vs, rfl, hs, ha⟩ := hx.list ex
        refine .inl (.inr ⟨a, j, vs, rfl, hy.int, hs, by omega, by omega, ?_, fun p hp => k p _ hp (ha.rep _)⟩)
        rw [ha.length, sizeLine_eq]
        omega
      · cases hf
    | _ => cases hf
  | _ => cases hf
/-- xs[i], xs[j] = a pair -/
def sPut2 {S : Type} (i : Nat) (mk mj m : M S PyData) : SM S := fun s env => (m s env).bind fun p => match p.1 with
  | .tuple [x, y] => match env[i]? with
    | some (SV.own ds) => (mk p.2 env).bind fun q => match q.1 with
      | .int k => (ixN ds.length k).bind fun j => (mj q.2 (env.set i (.own (ds.set j x)))).bind fun r => match r.1 with
        | .int k2 => (ixN ds.length k2).map fun j2 => (.nx, r.2, env.set i (.own ((ds.set j x).set j2 y)))
        | _ => none
      | _ => none
    | _ => none
  | _ => none
theorem put2_run {i : Nat} {mk mj : M S PyData} (h : tS c (sPut2 i mk mj m) D σ H) : tAsg (tE c m) (gTup K 2 (gCons (gSub (tVar i) (tB c mk) rSetL) (gCons (gSub (tVar i) (tB c mj) rSetL) gNil))) D σ H := by
  obtain ⟨G, F, env, s, fl, s', env', R, hm, k⟩ := h
  obtain ⟨⟨y, s1⟩, h1, hm⟩ := some_bind hm
  simp only at hm
  split at hm
  · rename_i d1 d2
    split at hm
    · rename_i ds hi
      obtain ⟨⟨z, s2⟩, h2, hm⟩ := some_bind hm
      cases z with
      | int n =>
        obtain ⟨j, h3, hm⟩ := some_bind hm
        obtain ⟨⟨z, s3⟩, h4, hm⟩ := some_bind hm
        cases z with
        | int n2 =>
          obtain ⟨j2, h5, e0⟩ := some_map hm
          injection e0 with e1 e0
          injection e0 with e2 e3
          subst e1 e2 e3
          refine ⟨G, F, env, s, _, s1, R, h1, fun v H1 G1 F1 R1 M1 D1 => ?_⟩
          cases D1 with
          | tup hs ha =>
            rename_i b us
            cases ha with
            | cons DA ha =>
              rename_i u1 us
              cases ha with
              | cons DB ha =>
                rename_i u2 us
                cases ha with
                | nil =>
                  refine ⟨b, _, rfl, ex_t R1.ex hs, rfl, u1, [u2], rfl, ?_⟩
                  obtain ⟨a, vs, e, k1, k2, k3, k4, k5⟩ := R1.slot i _ hi
                  refine ⟨.ref a, e, G1, F1, env, s1, _, s2, R1, h2, fun u H2 G2 F2 R2 M2 D2 => ?_⟩
                  have hu := D2.int
                  subst hu
                  refine ⟨a, vs, n, j, rfl, rfl, M2.h a _ k4 k1, by rw [k2.length]; exact h3, ?_⟩
                  have R3 := R2.chg hi e ((k2.ex M2.g).set j (DA.ex M2.g))
                  refine ⟨u2, [], rfl, ?_⟩
                  have hi3 : (env.set i (SV.own (ds.set j d1)))[i]? = some (SV.own (ds.set j d1)) := by
                    rw [List.getElem?_set_self (List.getElem?_eq_some_iff.mp hi).1]
                  obtain ⟨a', vs', e', k1', k2', k3', k4', k5'⟩ := R3.slot i _ hi3
                  have ea := e.symm.trans e'
                  injection ea with ea
                  injection ea with ea
                  injection ea with ea
                  subst ea
                  refine ⟨.ref a, e, G2, F2, _, s2, _, s3, R3, h4, fun u H4 G4 F4 R4 M4 D4 => ?_⟩
                  have hu := D4.int
                  subst hu
                  refine ⟨a, vs', n2, j2, rfl, rfl, M4.h a _ k4' k1', by rw [k2'.length, List.length_set]; exact h5, rfl, ?_⟩
                  have R5 := R4.chg hi3 e' ((k2'.ex M4.g).set j2 (DB.ex (M2.g.trans M4.g)))
                  rw [List.set_set] at R5
                  exact k _ _ G4 F4 R5 ((M1.g.trans M2.g).trans M4.g)
        | _ => cases hm
      | _ => cases hm
    · cases hm
  · cases hm
theorem s_put2 {i : Nat} {mk mj : M S PyData} (h : PS X (.Assign [tg] e pos) (tAsg (tE c m) (gTup K 2 (gCons (gSub (tVar i) (tB c mk) rSetL) (gCons (gSub (tVar i) (tB c mj) rSetL) gNil))))) : PS X (.Assign [tg] e pos) (tS c (sPut2 i mk mj m)) := h.imp fun _ _ _ h => put2_run h
/-- xs.extend(a new list) -/
def sExt {S : Type} (i : Nat) (m : M S (List PyData)) : SM S := fun s env => match env[i]? with
  | some (SV.own ds) => (m s env).bind fun p => if ds.length + p.1.length ≤ 1000000 then some (.nx, p.2, env.set i (.own (ds ++ p.1))) else none
  | _ => none
theorem ext_run {i : Nat} {m : M S (List PyData)} (h : tS c (sExt i m) D σ H) : tDrop (tBM K "list" rExtend (tVar i) (tCons (tO c m) tNil)) D σ H := by
  obtain ⟨G, F, env, s, fl, s', env', R, hm, k⟩ := h
  unfold sExt at hm
  split at hm
  · rename_i ds hi
    obtain ⟨⟨y, s1⟩, h1, hm⟩ := some_bind hm
    obtain ⟨a, vs, e, k1, k2, k3, k4, k5⟩ := R.slot i _ hi
    simp only at hm
    split at hm
    · rename_i hl
      injection hm with e0
      injection e0 with e1 e0
      injection e0 with e2 e3
      subst e1 e2 e3
      refine ⟨.ref a, e, .inl ⟨rfl, vs, .inl (.inl k1)⟩, G, F, env, s, y, s1, R, h1, fun p us H1 G1 F1 R1 M1 hp D1 gp fp np => ?_⟩
      have q1 := M1.h a _ k4 k1
      refine ⟨a, p, vs, us, rfl, rfl, q1, hp, ?_, ?_⟩
      · rw [k2.length, D1.length]
        exact Nat.le_trans hl (by decide)
      · exact k _ _ G1 F1 (R1.chg hi e ((k2.ex M1.g).append D1)) M1.g
    · cases hm
  · cases hm
theorem s_ext {i : Nat} {m : M S (List PyData)} (h : PS X (.Expr e pos) (tDrop (tBM K "list" rExtend (tVar i) (tCons (tO c m) tNil)))) : PS X (.Expr e pos) (tS c (sExt i m)) := h.imp fun _ _ _ h => ext_run h
/-- tuple(range(n)) -/
def eTr {S : Type} (m : M S PyData) : M S PyData := fun s env => (m s env).bind fun p => match p.1 with
  | .int j => if -1000000 ≤ j ∧ j ≤ 1000000 then some (.tuple (rangeD 0 j), p.2) else none
  | _ => none
theorem dp_rg {G : Hp} (lo hi : Int) : DpAll K G (rgV lo hi) (rangeD lo hi) := by
  unfold rgV rangeD
  induction List.range (hi - lo).toNat with
  | nil => exact .nil
  | cons k ks ih => exact .cons (.int _) ih
theorem x_tr (h : PE X e (tTupRg (tRg1 (tB c m)))) : PE X e (tE c (eTr m)) := h.imp fun σ H Q ⟨G, F, env, s, r, s', R, hm, k⟩ => by
  obtain ⟨⟨y, s1⟩, h1, hm⟩ := some_bind hm
  cases y with
  | int j =>
    simp only at hm
    split at hm
    · rename_i hb
      injection hm with e0
      injection e0 with e1 e2
      subst e1 e2
      refine ⟨G, F, env, s, _, s1, R, h1, fun v H1 G1 F1 R1 M1 D1 => ⟨j, D1.int, ⟨by omega, by omega, by omega, by omega, by omega⟩, fun q hq => ?_⟩⟩
      have g := Gr.laid R1.ex hq (o := .tup (rgV 0 j))
      exact k (.ref q) _ _ F1 (R1.gr g) (M1.trans (Mv.of_gr g)) (.tup (.inl (.inl upd_same)) (dp_rg 0 j))
    · cases hm
  | _ => cases hm
end
end Dv

/-! lists of one's own: given back by a def, handed to a def -/
namespace Dv
open PySem PySem.Spec PyProof.Rows L2
section
variable {K : PySem.W.Frag} {S : Type} {X : Cx} {c : Ctx K S} {e e1 e2 : Expr} {es : List Expr} {pos p : Pos} {x : Str} {ms : List (M S PyData)} {σ : L2.St} {H : Hp} {D : Ends} {st : Stmt} {rest : List Stmt} {u u1 u2 : SM S} {mo : M S (List PyData)} {m0 m2 : M S PyData}
theorem b_own0 (h : PE X e (tO c mo)) : PSs X [.Return (some e) pos] (tSO c sNx mo) :=
  (pss_one (ps_ret h)).imp fun D σ H ⟨G, F, env, s, s1, env1, r, s', R, hu, hm, k⟩ => by
    injection hu with e0
    injection e0 with _ e0
    injection e0 with e1 e2
    subst e1 e2
    exact ⟨G, F, env, s, r, s', R, hm, fun a vs H2 G2 F2 R2 M2 ha hd hg hf hn => k a vs H2 G2 F2 R2.rg R2.mv ha hd hg hf (none_back R.mv.there hn)⟩
/-- a list of one's own in a slot -/
def oV {S : Type} (i : Nat) : M S (List PyData) := fun s env => match env[i]? with
  | some (SV.own ds) => some (ds, s)
  | _ => none
theorem b_ownV {i : Nat} (h : PE X e (tVar i)) : PSs X [.Return (some e) pos] (tSO c sNx (oV i)) :=
  (pss_one (ps_ret h)).imp fun D σ H ⟨G, F, env, s, s1, env1, r, s', R, hu, hm, k⟩ => by
    injection hu with e0
    injection e0 with _ e0
    injection e0 with e1 e2
    subst e1 e2
    unfold oV at hm
    split at hm
    · rename_i ds hi
      injection hm with e0
      injection e0 with e1 e2
      subst e1 e2
      obtain ⟨a, vs, e, k1, k2, k3, k4, k5⟩ := R.slot i _ hi
      exact ⟨.ref a, e, k a vs H G F R.rg R.mv k1 k2 k3 k4 k5⟩
    · cases hm
theorem b_ownC (h1 : PS X st (tS c u1)) (h2 : PSs X rest (tSO c u2 mo)) : PSs X (st :: rest) (tSO c (sSeq u1 u2) mo) :=
  (pss_cons h1 h2).imp fun D σ H ⟨G, F, env, s, s1, env1, r, s', R, hu, hm, k⟩ => by
    obtain ⟨⟨f1, s2, env2⟩, h3, hu⟩ := some_bind hu
    cases f1 with
    | nx => exact ⟨G, F, env, s, .nx, s2, env2, R, h3, fun σ' H' G' F' R' e' => ⟨G', F', env2, s2, s1, env1, r, s', R', hu, hm, k⟩⟩
    | rt d =>
      injection hu with e0
      injection e0 with e0 _
      cases e0
    | bk =>
      injection hu with e0
      injection e0 with e0 _
      cases e0
    | ct =>
      injection hu with e0
      injection e0 with e0 _
      cases e0
theorem callO_run {Q : VK} {n : Nat} {F : List PyData → Option (List PyData)} {E : XK} (hn : ms.length = n) (h : tO c (oN F (aAll ms)) σ H Q) : tCall (spO K n F) [] E (tAE c (aAll ms)) σ H Q := by
  obtain ⟨G, Fp, env, s, z, s', R, hm, k⟩ := h
  obtain ⟨⟨ds, s1⟩, h1, hm⟩ := some_bind hm
  obtain ⟨r, h2, e0⟩ := some_map hm
  injection e0 with e1 e2
  subst e1 e2
  refine ⟨G, Fp, env, s, ds, s1, R, h1, fun vs H1 G1 F1 R1 M1 D1 => ?_⟩
  refine ⟨G1, ds, r, R1.ex, by rw [List.append_nil]; exact D1, by rw [List.append_nil, D1.length, aAll_len h1]; exact hn, h2, fun a us H2 G2 g2 ha hd hg hn1 => ?_⟩
  exact k a us H2 G2 F1 (R1.gr g2) (M1.trans (Mv.of_gr g2)) ha hd hg (fun z => by
    obtain ⟨o, q⟩ := R1.rg.inn a z
    rw [hn1] at q
    cases q) (none_back M1.there hn1)
theorem x_callO {n : Nat} {F : List PyData → Option (List PyData)} (ha : PA X (e :: es) (tAE c (aAll ms))) (h : ∀ {t : TA}, PA X (e :: es) t → PE X (.Call (.Name x p) (e :: es) [] pos) (tCall (spO K n F) [] E0 t)) (hn : ms.length = n := by rfl) :
    PE X (.Call (.Name x p) (e :: es) [] pos) (tO c (oN F (aAll ms))) := (h ha).imp fun _ _ _ h => callO_run hn h
/-! #### x = y, where y is given up -/
theorem Rel.drop {G : Hp} {F : Addr → Prop} {env : En} {s : S} (R : Rel c σ H G F env s) (j : Nat) : Rel c σ H G F (env.set j .no) s := by
  have at_ : ∀ {i : Nat} {sv : SV}, (env.set j .no)[i]? = some sv → (i = j ∧ sv = .no) ∨ (i ≠ j ∧ env[i]? = some sv) := fun {i sv} q => by
    by_cases z : i = j
    · subst z
      by_cases hl : i < env.length
      · rw [List.getElem?_set_self hl] at q
        injection q with q
        exact .inl ⟨rfl, q.symm⟩
      · rw [List.getElem?_eq_none (by simpa using hl)] at q
        cases q
    · rw [List.getElem?_set_ne (Ne.symm z)] at q
      exact .inr ⟨z, q⟩
  refine ⟨R.rg, R.mv, by rw [List.length_set]; exact R.len, fun i sv q => ?_, fun i l ds es q1 q2 q3 => ?_, fun i l ds rs es q1 q2 => ?_⟩
  · rcases at_ q with ⟨_, h⟩ | ⟨_, h⟩
    · rw [h]
      trivial
    · exact R.slot i sv h
  · rcases at_ q1 with ⟨_, h⟩ | ⟨_, h⟩
    · cases h
    · rcases at_ q2 with ⟨_, h2⟩ | ⟨_, h2⟩
      · cases h2
      · exact R.inj i l ds es h h2 q3
  · rcases at_ q1 with ⟨_, h⟩ | ⟨_, h⟩
    · cases h
    · rcases at_ q2 with ⟨_, h2⟩ | ⟨_, h2⟩
      · cases h2
      · exact R.inj1 i l ds rs es h h2
def sMov {S : Type} (i j : Nat) : SM S := fun s env => match env[j]? with
  | some (SV.own ds) => some (.nx, s, (env.set j .no).set i (.own ds))
  | _ => none
theorem s_mov {i j : Nat} {y : Str} {pos' : Pos} (hN : X.N.Nodup) (hi : X.N[i]? = some y) (hx : Loc X.env.scope y) (he : PE X e (tVar j)) (hs : swapsWith e (some (.Name y pos')) pos.line X.env = pure false := by rfl)
    (hf : X.fn y = true ∨ X.env.scope.names.lookup y = some .local := by first | exact .inl rfl | exact .inr rfl | assumption) : PS X (.Assign [.Name y pos'] e pos) (tS c (sMov i j)) := (ps_set hN hi hx he hs hf).imp fun D σ H ⟨G, F, env, s, fl, s', env', R, hm, k⟩ => by
  unfold sMov at hm
  split at hm
  · rename_i ds hj
    injection hm with e0
    injection e0 with e1 e0
    injection e0 with e2 e3
    subst e1 e2 e3
    obtain ⟨a, vs, e, k1, k2, k3, k4, k5⟩ := R.slot j _ hj
    refine ⟨.ref a, e, k _ H G F ((R.drop j).set i ⟨a, vs, rfl, k1, k2, k3, k4, k5⟩ (fun ds' z l es hl q z2 => ?_) fun ds' z l es rs hl q => ?_) (Ex.refl _)⟩
    · by_cases zz : l = j
      · subst zz
        by_cases hl2 : l < env.length
        · rw [List.getElem?_set_self hl2] at q
          cases q
        · rw [List.getElem?_eq_none (by simpa using hl2)] at q
          cases q
      · rw [List.getElem?_set_ne (Ne.symm zz)] at q
        exact zz (R.inj l j es ds q hj (by rw [z2, e]))
    · by_cases zz : l = j
      · subst zz
        by_cases hl2 : l < env.length
        · rw [List.getElem?_set_self hl2] at q
          cases q
        · rw [List.getElem?_eq_none (by simpa using hl2)] at q
          cases q
      · rw [List.getElem?_set_ne (Ne.symm zz)] at q
        have := R.inj1 l j es rs ds q hj
        rw [e] at this
        exact this
  · cases hm
/-! #### a def that is handed a list that is its own from then on -/
def del (H : Hp) (b : Addr) : Hp := fun x => if x = b then none else H x
theorem del_same {H : Hp} {b : Addr} : del H b b = none := if_pos rfl
theorem del_ne {H : Hp} {b x : Addr} (h : x ≠ b) : del H b x = H x := if_neg h
theorem del_some {H : Hp} {b x : Addr} {o : HO} (h : del H b x = some o) : x ≠ b ∧ H x = some o := by
  by_cases z : x = b
  · subst z
    rw [del_same] at h
    cases h
  · rw [del_ne z] at h
    exact ⟨z, h⟩
def spT (K : PySem.W.Frag) (n i : Nat) (F : List PyData → Option (List PyData)) : Sp := fun vs H Q _ => ∃ G ds r b ub eb, Ex G H ∧ vs.length = n ∧ ds.length = n ∧ (∀ j d, j ≠ i → ds[j]? = some d → ∃ v, vs[j]? = some v ∧ Dp K G v d) ∧
  vs[i]? = some (.ref b) ∧ ds[i]? = some (.list eb) ∧ H b = some (.lst ub) ∧ DpAll K G ub eb ∧ G b = none ∧ F ds = some r ∧
  ∀ a us H' G', Mv G (fun _ => False) (del H b) G' (fun _ => False) H' → Ex G' H' → H' a = some (.lst us) → DpAll K G' us r → G' a = none → del H b a = none → Q (.ref a) H'
def fnT (n i : Nat) (u : SM Unit) (mo : M Unit (List PyData)) : List PyData → Option (List PyData) := fun ds => match ds[i]? with
  | some (.list eb) => match u () ((env0 n ds).set i (.own eb)) with
    | some (.nx, s, env) => (mo s env).map (·.1)
    | _ => none
  | _ => none
def oT {S : Type} (F : List PyData → Option (List PyData)) (m0 : M S PyData) (mo : M S (List PyData)) (m2 : M S PyData) : M S (List PyData) := fun s env => (m0 s env).bind fun p => (mo p.2 env).bind fun q => (m2 q.2 env).bind fun r => (F [p.1, .list q.1, r.1]).map fun z => (z, r.2)
theorem Rel.hide {G : Hp} {F : Addr → Prop} {env : En} {s : S} (R : Rel c σ H G F env s) {b : Addr} (hg : G b = none) (hf : ¬ F b) (h0 : c.H0 b = none) (ho : ∀ (i : Nat) (ds : List PyData), env[i]? = some (SV.own ds) → σ[i]? ≠ some (some (V.ref b))) (ho1 : ∀ (i : Nat) (ds rs : List PyData), env[i]? = some (SV.own1 ds rs) → Sep H σ[i]? (some (some (V.ref b)))) : Rel c σ (del H b) G F env s := by
  have neF : ∀ x, F x → x ≠ b := fun x hx z => hf (z ▸ hx)
  refine ⟨⟨fun x o q => ?_, R.rg.sep, fun x hx => ?_, c.R.mono R.rg.rel (Ex.refl _) fun x o hx q => ?_⟩, ⟨R.mv.g, fun x o hx q => ?_, fun x o q => ?_, R.mv.new, R.mv.newF⟩, R.len, fun i sv q => ?_, R.inj, fun i j ds rs es q1 q2 => (R.inj1 i j ds rs es q1 q2).to fun t a us _ h => (del_some h).2⟩
  · rw [del_ne (ne_of_none q hg)]
    exact R.ex x o q
  · obtain ⟨o, q⟩ := R.rg.inn x hx
    exact ⟨o, by rw [del_ne (neF x hx)]; exact q⟩
  · rw [del_ne (neF x hx)]
    exact q
  · rw [del_ne (ne_of_none q h0)]
    exact R.mv.h x o hx q
  · rw [del_ne (ne_of_none q h0)]
    exact R.mv.there x o q
  · have w := R.slot i sv q
    cases sv with
    | no => trivial
    | val d => exact w
    | own ds =>
      obtain ⟨a, us, e, k1, k2, k3, k4, k5⟩ := w
      have ne : a ≠ b := fun z => ho i ds q (by rw [e, z])
      exact ⟨a, us, e, by rw [del_ne ne]; exact k1, k2, k3, k4, k5⟩
    | own1 ds rs =>
      obtain ⟨t, a, vs, us, e, k1, k2, k3⟩ := w
      obtain ⟨d1, d2⟩ := ho1 i ds rs q t a us b e k1 rfl
      exact ⟨t, a, vs, us, e, by rw [del_ne (Ne.symm d1)]; exact k1, by rw [del_ne (Ne.symm d2)]; exact k2, k3⟩
    | reg => exact w
theorem callT_run {Q : VK} {F : List PyData → Option (List PyData)} {E : XK} (h : tO c (oT F m0 mo m2) σ H Q) : tCall (spT K 3 1 F) [] E (tCons (tE c m0) (tCons (tO c mo) (tCons (tE c m2) tNil))) σ H Q := by
  obtain ⟨G, Fp, env, s, z, s', R, hm, k⟩ := h
  obtain ⟨⟨d0, s1⟩, h0, hm⟩ := some_bind hm
  obtain ⟨⟨eb, s2⟩, h1, hm⟩ := some_bind hm
  obtain ⟨⟨d2, s3⟩, h2, hm⟩ := some_bind hm
  obtain ⟨r, hF, e0⟩ := some_map hm
  injection e0 with e1 e2
  subst e1 e2
  refine ⟨G, Fp, env, s, d0, s1, R, h0, fun v0 H1 G1 F1 R1 M1 D0 => ⟨G1, F1, env, s1, eb, s2, R1, h1, fun b ub H2 G2 F2 R2 M2 hb hd hg hf hn => ⟨G2, F2, env, s2, d2, s3, R2, h2, fun v2 H3 G3 F3 R3 M3 D2 => ?_⟩⟩⟩
  have M13 := M1.trans (M2.trans M3)
  have hnb : H b = none := none_back M1.there hn
  have hb3 : H3 b = some (.lst ub) := M3.h b _ hf hb
  have hg3 : G3 b = none := by
    cases q : G3 b with
    | none => rfl
    | some o =>
      rcases M3.new b o q with z | z
      · rw [hg] at z; cases z
      · rw [hb] at z; cases z
  have hf3 : ¬ F3 b := fun z => by
    rcases M3.newF b z with q | q
    · exact hf q
    · rw [hb] at q; cases q
  show spT K 3 1 F ([v0, .ref b, v2] ++ []) H3 Q E
  refine ⟨G3, [d0, .list eb, d2], r, b, ub, eb, R3.ex, rfl, rfl, fun j d hj q => ?_, rfl, rfl, hb3, hd.ex M3.g, hg3, hF, fun a us H' G' m ex ha hd' hg' hn' => ?_⟩
  · match j, hj, q with
    | 0, _, q =>
      cases q
      exact ⟨v0, rfl, D0.ex (M2.g.trans M3.g)⟩
    | 1, hj, _ => exact absurd rfl hj
    | 2, _, q =>
      cases q
      exact ⟨v2, rfl, D2⟩
  · have R3' : Rel c σ (del H3 b) G3 F3 env s3 := by
      refine R3.hide hg3 hf3 (none_back R.mv.there hnb) (fun i ds q z => ?_) fun i ds rs q => sep_fresh (R1.slot i _ q) (M2.trans M3) hn
      obtain ⟨a0, us0, e, k1, _⟩ := R1.slot i _ q
      rw [e] at z
      injection z with z
      injection z with z
      injection z with z
      subst z
      rw [hn] at k1
      cases k1
    have neF : ∀ x, F3 x → x ≠ b := fun x hx z => hf3 (z ▸ hx)
    have in3 : ∀ x, F3 x → ∃ o, del H3 b x = some o := fun x hx => R3'.rg.inn x hx
    have m' : Mv G3 F3 (del H3 b) G' F3 H' := ⟨m.g, fun x o _ q => m.h x o (fun z => z) q, m.there, m.new, fun _ z => .inl z⟩
    have sep' : ∀ x, F3 x → G' x = none := fun x hx => by
      cases q : G' x with
      | none => rfl
      | some o =>
        obtain ⟨o2, q2⟩ := in3 x hx
        rcases m.new x o q with z | z
        · rw [R3.rg.sep x hx] at z
          cases z
        · rw [q2] at z
          cases z
    have inn' : ∀ x, F3 x → ∃ o, H' x = some o := fun x hx => by
      obtain ⟨o, q⟩ := in3 x hx
      exact ⟨o, m.h x o (fun z => z) q⟩
    have rg' : RgOk c.R G' F3 H' s3 := ⟨ex, sep', inn', c.R.mono R3'.rg.rel m.g fun x o hx q => m.h x o (fun z => z) q⟩
    refine k a us H' G' F3 (R3'.to m' rg') ⟨M13.g.trans m.g, fun x o hx q => ?_, fun x o q => ?_, fun x o q => ?_, M13.newF⟩ ha hd' hg' (fun z => ?_) ?_
    · exact m.h x o (fun z => z) (by rw [del_ne (ne_of_none q hnb)]; exact M13.h x o hx q)
    · obtain ⟨o', q'⟩ := M13.there x o q
      exact m.there x o' (by rw [del_ne (ne_of_none q hnb)]; exact q')
    · rcases m.new x o q with z | z
      · exact M13.new x o z
      · by_cases c : x = b
        · exact .inr (by rw [c]; exact hnb)
        · rw [del_ne c] at z
          exact .inr (none_back M13.there z)
    · obtain ⟨o, q⟩ := in3 a z
      rw [hn'] at q
      cases q
    · by_cases c : a = b
      · rw [c]
        exact hnb
      · rw [del_ne c] at hn'
        exact none_back M13.there hn'
end
section
variable {K : PySem.W.Frag} {P : Program} {w : World} {mg : Str → Option Value} {base : Heap}
theorem fn_tr {x q : Str} {st : Stmt} {f : Addr} {fd : FuncData} {N ps : List Str} {k i : Nat} {u : SM Unit} {mo : M Unit (List PyData)} (F : FunD K x q (defArgs st) (defBody st) (defScope st) [] [] f fd) (sc : FnScope N ps (defScope st)) (hn : ps.length ≤ N.length) (hip : i < ps.length)
    (body : ∀ (c : Ctx K Unit) (cdv : Value) (A : Around) (outer : List Env) (s : Shared) (H : Hp) (E : XK), RoomG k (A.deeper (envOfC q (defScope st) s.heap.objs.size f cdv)) → PSs (cxOf CX0 P w K mg base N q (defScope st) f cdv A outer s H E).nox (defBody st) (tSO c u mo)) :
    FnG P w K mg base (k + 1) f fd ps (spT K ps.length i (fnT N.length i u mo)) := by
  refine fn_G F sc (fun vs H Q E ⟨_, _, _, _, _, _, _, l, _⟩ => l) fun cdv A outer s H vs Q E hr h => ?_
  obtain ⟨G, ds, r, b, ub, eb, ex, hl, hdl, hd, hvi, hdi, hb, hub, hgb, hf, kq⟩ := h
  refine ⟨tSO ⟨noR K, G, fun _ => False, del H b⟩ u mo, (body ⟨noR K, G, fun _ => False, del H b⟩ cdv A outer s H E hr).nox, ?_⟩
  have hlen : (env0 N.length ds).length = N.length := by
    unfold env0
    rw [List.length_append, List.length_map, List.length_replicate]
    omega
  have hi : i < (env0 N.length ds).length := by omega
  have at_ : ∀ {j : Nat} {sv : SV}, ((env0 N.length ds).set i (.own eb))[j]? = some sv → (j = i ∧ sv = .own eb) ∨ (j ≠ i ∧ (env0 N.length ds)[j]? = some sv) := fun {j sv} q => by
    by_cases z : j = i
    · subst z
      rw [List.getElem?_set_self hi] at q
      injection q with q
      exact .inl ⟨rfl, q.symm⟩
    · rw [List.getElem?_set_ne (Ne.symm z)] at q
      exact .inr ⟨z, q⟩
  have R0 : Rel (⟨noR K, G, fun _ => False, del H b⟩ : Ctx K Unit) (L2.start N vs) H G (fun _ => False) ((env0 N.length ds).set i (.own eb)) () := by
    refine ⟨⟨ex, fun _ z => z.elim, fun _ z => z.elim, fun _ z => z⟩, ⟨Ex.refl _, fun a o _ q => (del_some q).2, fun a o q => ⟨o, (del_some q).2⟩, fun _ _ q => .inl q, fun _ z => .inl z⟩, ?_, fun j sv q => ?_, fun j l es fs q1 q2 _ => ?_, fun j l es rs fs q1 _ => ?_⟩
    · rw [start_len N vs (by omega), List.length_set, hlen]
    · rcases at_ q with ⟨z, h2⟩ | ⟨z, h2⟩
      · subst z h2
        exact ⟨b, ub, start_at hvi, hb, hub, hgb, fun z => z, del_same⟩
      · rcases env0_at h2 with ⟨d, h1, h3⟩ | h3
        · subst h3
          obtain ⟨v, h4, h5⟩ := hd j d z h1
          exact ⟨v, start_at h4, h5⟩
        · subst h3
          trivial
    · rcases at_ q1 with ⟨z, _⟩ | ⟨_, h2⟩
      · rcases at_ q2 with ⟨z2, _⟩ | ⟨_, h3⟩
        · rw [z, z2]
        · exact (env0_no h3).elim
      · exact (env0_no h2).elim
    · rcases at_ q1 with ⟨_, h2⟩ | ⟨_, h2⟩
      · cases h2
      · exact (env0_no1 h2).elim
  unfold fnT at hf
  rw [hdi] at hf
  simp only at hf
  cases hm : u () ((env0 N.length ds).set i (.own eb)) with
  | none =>
    rw [hm] at hf
    cases hf
  | some o =>
    obtain ⟨fl, v, env'⟩ := o
    rw [hm] at hf
    cases fl with
    | nx =>
      obtain ⟨⟨z, s2⟩, h5, h6⟩ := some_map hf
      subst h6
      exact ⟨G, _, _, (), v, env', _, s2, R0, hm, h5, fun a us H' G' F' r m ha hd hg _ hn => kq a us H' G' ⟨m.g, fun x o _ q => m.h x o (fun z => z) q, m.there, m.new, fun _ z => z.elim⟩ r.ex ha hd hg hn⟩
    | rt d => cases hf
    | bk => cases hf
    | ct => cases hf
end
end Dv

/-! xs = [own, ..]; repr(xs); xs[0].append(..) -/
namespace Dv
open PySem PySem.Spec PyProof.Rows L2
section
variable {K : PySem.W.Frag} {S : Type} {X : Cx} {c : Ctx K S} {e : Expr} {es : List Expr} {pos p lpos pos' : Pos} {x : Str} {ms : List (M S PyData)} {m : M S PyData} {σ : L2.St} {H : Hp} {D : Ends} {mo : M S (List PyData)} {i : Nat}
def eRepr1 {S : Type} (i : Nat) : M S PyData := fun s env => match env[i]? with
  | some (SV.own1 ds rs) => (dRepr [.list (.list ds :: rs)]).map fun z => (z, s)
  | _ => none
theorem repr1_run {Q : VK} (h : tE c (eRepr1 i) σ H Q) : tCB (rRepr K) (tCons (tVar i) tNil) σ H Q := by
  obtain ⟨G, F, env, s, r, s', R, hm, k⟩ := h
  unfold eRepr1 at hm
  split at hm
  · rename_i ds rs hi
    obtain ⟨z, hz, e0⟩ := some_map hm
    injection e0 with e1 e2
    subst e1 e2
    obtain ⟨t, a, vs, us, e, h1, h2, h3, h4, ⟨g1, f1, n1⟩, ⟨g2, f2, n2⟩, ne⟩ := R.slot i _ hi
    refine ⟨.ref t, e, ?_⟩
    have ga : Ex G (upd G a (.lst vs)) := Ex.new g2
    have gt : Ex (upd G a (.lst vs)) (upd (upd G a (.lst vs)) t (.lst (.ref a :: us))) := Ex.new (by rw [upd_ne ne]; exact g1)
    have exH : Ex (upd (upd G a (.lst vs)) t (.lst (.ref a :: us))) H := fun y o q => by
      by_cases z : y = t
      · subst z
        rw [upd_same] at q
        cases q
        exact h1
      · rw [upd_ne z] at q
        by_cases z2 : y = a
        · subst z2
          rw [upd_same] at q
          cases q
          exact h2
        · rw [upd_ne z2] at q
          exact R.ex y o q
    have DD : Dp K (upd (upd G a (.lst vs)) t (.lst (.ref a :: us))) (.ref t) (.list (.list ds :: rs)) := .lst (.inl upd_same) (.cons (.lst (.inl (by rw [upd_ne (Ne.symm ne)]; exact upd_same)) (h3.ex (ga.trans gt))) (h4.ex (ga.trans gt)))
    refine dn_repr (F := F) exH (.cons DD.q .nil) hz fun v H' G' g D' => ?_
    have gr : Gr G H G H' := ⟨Ex.refl _, g.h, fun x o q => g.h x o (R.ex x o q), fun _ _ q => .inl q⟩
    refine k v H' G F (R.gr gr) (Mv.of_gr gr) ?_
    simp only [dRepr] at hz
    split at hz
    · cases hz
      have hv := (Dq.str (F := F) (H := H') D'.q)
      subst hv
      exact .str _
    · cases hz
  · cases hm
theorem x_repr1 (ha : PA X [e] (tCons (tVar i) tNil)) (h : ∀ t, PA X [e] t → PE X (.Call (.Name x p) [e] [] pos) (tCB (rRepr K) t)) : PE X (.Call (.Name x p) [e] [] pos) (tE c (eRepr1 i)) := (h _ ha).imp fun _ _ _ h => repr1_run h
/-- xs = [a list of one's own, ..] -/
def sOwn1 {S : Type} (i : Nat) (mo : M S (List PyData)) (ms : M S (List PyData)) : SM S := fun s env => (mo s env).bind fun p => (ms p.2 env).map fun q => (.nx, q.2, env.set i (.own1 p.1 q.1))
theorem s_own1 (hN : X.N.Nodup) (hi : X.N[i]? = some x) (hx : Loc X.env.scope x) (he : PE X e (tO c mo)) (hes : PA X es (tAE c (aAll ms))) (hl : ms.length ≤ 100 := by decide) (hsp : starEach (e :: es) X.env = (false, eval e X.env) :: starEach es X.env := by rfl)
    (hs : swapsWith (.List (e :: es) lpos) (some (.Name x pos')) pos.line X.env = pure false := by rfl) (hf : X.fn x = true ∨ X.env.scope.names.lookup x = some .local := by first | exact .inl rfl | exact .inr rfl | assumption) :
    PS X (.Assign [.Name x pos'] (.List (e :: es) lpos) pos) (tS c (sOwn1 i mo (aAll ms))) := (ps_set hN hi hx (pe_lst (pa_cons he hes hsp)) hs hf).imp fun D σ H ⟨G, F, env, s, fl, s', env', R, hm, k⟩ => by
  obtain ⟨⟨ds, s1⟩, h1, hm⟩ := some_bind hm
  obtain ⟨⟨rs, s2⟩, h2, e0⟩ := some_map hm
  injection e0 with e1 e0
  injection e0 with e2 e3
  subst e1 e2 e3
  refine ⟨G, F, env, s, ds, s1, R, h1, fun a vs H1 G1 F1 R1 M1 ha hd hg hf hn => ⟨G1, F1, env, s1, rs, s2, R1, h2, fun us H2 G2 F2 R2 M2 D2 => ⟨?_, fun q hq => ?_⟩⟩⟩
  · rw [List.length_cons, D2.length, aAll_len h2]
    exact Nat.le_of_lt (small1000 (by omega))
  · obtain ⟨R3, M3, g3, f3⟩ := rel_new R2 (o := .lst (.ref a :: us)) hq
    have ha2 : H2 a = some (.lst vs) := M2.h a _ hf ha
    have neA : a ≠ q := fun z => by rw [z, hq] at ha2; cases ha2
    have hq0 : H q = none := none_back (M1.trans M2).there hq
    refine k _ _ G2 F2 (R3.set i (sv := .own1 ds rs) ⟨q, a, vs, us, rfl, upd_same, by rw [upd_ne neA]; exact ha2, hd.ex M2.g, D2, ⟨g3, f3, none_back R.mv.there hq0⟩, ⟨M2.gn hg ha, M2.fn hf ha, none_back R.mv.there hn⟩, Ne.symm neA⟩ (fun _ z => nomatch z) (fun _ z => nomatch z) fun _ _ _ j fs hj qj => ?_) (M1.g.trans M2.g)
    intro t a2 us2 l e1 e2 e3
    injection e1 with e1
    injection e1 with e1
    injection e1 with e1
    subst e1
    rw [upd_same] at e2
    injection e2 with e2
    injection e2 with e2
    injection e2 with e2 _
    injection e2 with e2
    subst e2
    obtain ⟨b, ws, e', k1, _⟩ := R.slot j _ qj
    rw [e3] at e'
    injection e' with e'
    injection e' with e'
    injection e' with e'
    subst e'
    refine ⟨fun z => ?_, fun z => ?_⟩
    · rw [z, hq0] at k1
      cases k1
    · rw [z, hn] at k1
      cases k1
/-! #### xs[0].append(d): behind it nothing is known of xs -/
def not1 : SV → Bool
  | .own1 _ _ => false
  | _ => true
def sSpo {S : Type} (i : Nat) (m : M S PyData) : SM S := fun s env => match env[i]? with
  | some (SV.own1 ds rs) => (m s env).bind fun p => if ds.length < 1000000 ∧ (env.set i .no).all not1 = true then some (.nx, p.2, env.set i .no) else none
  | _ => none
theorem Rel.spo {G : Hp} {F : Addr → Prop} {env : En} {s : S} (R : Rel c σ H G F env s) {ds rs : List PyData} {t a : Addr} {us ws : List V} (h : env[i]? = some (SV.own1 ds rs)) (hno : (env.set i .no).all not1 = true) (ht : σ[i]? = some (some (.ref t))) (h1 : H t = some (.lst (.ref a :: us)))
    (h3 : G a = none) (h4 : ¬ F a) (h5 : c.H0 a = none) : Rel c σ (upd H a (.lst ws)) G F (env.set i .no) s := by
  have hi : i < env.length := (List.getElem?_eq_some_iff.mp h).1
  have neF : ∀ b, F b → b ≠ a := fun b hb z => h4 (by rw [← z]; exact hb)
  have at_ : ∀ {j : Nat} {sv : SV}, (env.set i .no)[j]? = some sv → (j = i ∧ sv = .no) ∨ (j ≠ i ∧ env[j]? = some sv) := fun {j sv} q => by
    by_cases z : j = i
    · subst z
      rw [List.getElem?_set_self hi] at q
      injection q with q
      exact .inl ⟨rfl, q.symm⟩
    · rw [List.getElem?_set_ne (Ne.symm z)] at q
      exact .inr ⟨z, q⟩
  have no1 : ∀ {j : Nat} {ds rs : List PyData}, (env.set i .no)[j]? = some (SV.own1 ds rs) → False := fun {j ds rs} q => by
    have := List.all_eq_true.mp hno _ (List.mem_of_getElem? q)
    cases this
  refine ⟨⟨R.ex.mut h3, R.rg.sep, fun b hb => ?_, c.R.mono R.rg.rel (Ex.refl _) fun b o hb q => ?_⟩, ⟨R.mv.g, fun b o hb q => ?_, fun b o q => ?_, R.mv.new, R.mv.newF⟩, by rw [List.length_set]; exact R.len, fun j sv q => ?_, fun j l xs ys q1 q2 q3 => ?_, fun j l xs rs' ys q1 q2 => (no1 q1).elim⟩
  · obtain ⟨o, q⟩ := R.rg.inn b hb
    exact ⟨o, by rw [upd_ne (neF b hb)]; exact q⟩
  · rw [upd_ne (neF b hb)]
    exact q
  · rw [upd_ne (ne_of_none q h5)]
    exact R.mv.h b o hb q
  · rw [upd_ne (ne_of_none q h5)]
    exact R.mv.there b o q
  · rcases at_ q with ⟨_, z⟩ | ⟨z, q2⟩
    · rw [z]
      trivial
    · have q' := R.slot j sv q2
      cases sv with
      | no => trivial
      | val d => exact q'
      | own xs =>
        obtain ⟨b, us', e, j1, j2, j3, j4, j5⟩ := q'
        obtain ⟨_, d2⟩ := R.inj1 i j ds rs xs h q2 t a us b ht h1 e
        exact ⟨b, us', e, by rw [upd_ne d2]; exact j1, j2, j3, j4, j5⟩
      | own1 xs ys => exact (no1 q).elim
      | reg => exact q'
  · rcases at_ q1 with ⟨_, z⟩ | ⟨_, w1⟩
    · cases z
    · rcases at_ q2 with ⟨_, z⟩ | ⟨_, w2⟩
      · cases z
      · exact R.inj j l xs ys w1 w2 q3
theorem spo_run (h : tS c (sSpo i m) D σ H) : tDrop (tBM K "list" rAppend (tOp (rIxL K) (tVar i) (tB c (eC (.int 0)))) (tCons (tE c m) tNil)) D σ H := by
  obtain ⟨G, F, env, s, fl, s', env', R, hm, k⟩ := h
  unfold sSpo at hm
  split at hm
  · rename_i ds rs hi
    obtain ⟨⟨y, s1⟩, h1, hm⟩ := some_bind hm
    simp only at hm
    split at hm
    · rename_i hl
      injection hm with e0
      injection e0 with e1 e0
      injection e0 with e2 e3
      subst e1 e2 e3
      obtain ⟨t, a, vs, us, e, k1, k2, k3, k4, ⟨g1, f1, n1⟩, ⟨g2, f2, n2⟩, ne⟩ := R.slot i _ hi
      refine ⟨.ref t, e, G, F, env, s, _, s, R, rfl, fun u H1 G1 F1 R1 M1 D1 => ?_⟩
      have hu := D1.int
      subst hu
      have t1 := M1.h t _ f1 k1
      have a1 := M1.h a _ f2 k2
      refine ⟨t, .ref a :: us, 0, .ref a, rfl, rfl, .inl (.inl t1), by simp [atI, ixN], .inl ⟨rfl, vs, .inl (.inl a1)⟩, G1, F1, env, s, y, s1, R1, h1, fun v H2 G2 F2 R2 M2 D2 => ?_⟩
      have t2 := M2.h t _ (M1.fn f1 k1) t1
      have a2 := M2.h a _ (M1.fn f2 k2) a1
      refine ⟨a, vs, v, rfl, rfl, a2, ?_, ?_⟩
      · rw [k3.length]
        exact Nat.lt_trans hl.1 (by decide)
      · exact k _ _ G2 F2 (R2.spo hi hl.2 e t2 (M2.gn (M1.gn g2 k2) a1) (M2.fn (M1.fn f2 k2) a1) n2) (M1.g.trans M2.g)
    · cases hm
  · cases hm
theorem s_spo (h : PS X (.Expr e pos) (tDrop (tBM K "list" rAppend (tOp (rIxL K) (tVar i) (tB c (eC (.int 0)))) (tCons (tE c m) tNil)))) : PS X (.Expr e pos) (tS c (sSpo i m)) := h.imp fun _ _ _ h => spo_run h
end
end Dv

/-! what gives a list of one's own gives a list; min and max of a list of ints -/
namespace Dv
open PySem PySem.Spec PyProof.Rows L2
section
variable {K : PySem.W.Frag} {P : Program} {w : World} {mg : Str → Option Value} {base : Heap} {k : Nat} {f : Addr} {fd : FuncData} {ps : List Str}
theorem FnG.lst {n : Nat} {Fo : List PyData → Option (List PyData)} (F : FnG P w K mg base k f fd ps (spO K n Fo)) : FnG P w K mg base k f fd ps (spP K n fun ds => (Fo ds).map .list) := F.imp fun vs H Q E ⟨G, ds, r, ex, hd, hl, hf, kq⟩ => by
  obtain ⟨z, hz, e⟩ := some_map hf
  subst e
  refine ⟨G, ds, z, ex, hd, hl, hz, fun a us H' G' g ha hd' hg hn => ?_⟩
  have ex2 : Ex (upd G' a (.lst us)) H' := fun x o q => by
    by_cases c : x = a
    · subst c
      rw [upd_same] at q
      cases q
      exact ha
    · rw [upd_ne c] at q
      exact g.ex x o q
  refine kq (.ref a) H' (upd G' a (.lst us)) ⟨g.g.trans (Ex.new hg), g.h, ex2, fun x o q => ?_⟩ (.lst (.inl upd_same) (hd'.ex (Ex.new hg)))
  by_cases c : x = a
  · exact .inr (by rw [c]; exact hn)
  · rw [upd_ne c] at q
    exact g.new x o q
end
def maxI : List Int → Int
  | [] => 0
  | n :: ns => ns.foldl (fun a b => if a < b then b else a) n
def minI : List Int → Int
  | [] => 0
  | n :: ns => ns.foldl (fun a b => if b < a then b else a) n
theorem maxI_le : ∀ (ns : List Int) (n : Int), (ns.foldl (fun a b => if a < b then b else a) n ∈ n :: ns) ∧ ∀ y ∈ n :: ns, y ≤ ns.foldl (fun a b => if a < b then b else a) n
  | [], n => ⟨List.mem_singleton.mpr rfl, fun y hy => by rw [List.mem_singleton.mp hy]; exact Int.le_refl _⟩
  | m :: ns, n => by
    obtain ⟨h1, h2⟩ := maxI_le ns (if n < m then m else n)
    rw [List.foldl_cons]
    refine ⟨?_, fun y hy => ?_⟩
    · rcases List.mem_cons.mp h1 with z | z
      · rw [z]
        split
        · exact List.mem_cons_of_mem _ List.mem_cons_self
        · exact List.mem_cons_self
      · exact List.mem_cons_of_mem _ (List.mem_cons_of_mem _ z)
    · have h3 := h2 _ List.mem_cons_self
      have hh : n ≤ (if n < m then m else n) ∧ m ≤ (if n < m then m else n) := by split <;> omega
      rcases List.mem_cons.mp hy with z | z
      · rw [z]
        exact Int.le_trans hh.1 h3
      · rcases List.mem_cons.mp z with z | z
        · rw [z]
          exact Int.le_trans hh.2 h3
        · exact h2 y (List.mem_cons_of_mem _ z)
theorem minI_le : ∀ (ns : List Int) (n : Int), (ns.foldl (fun a b => if b < a then b else a) n ∈ n :: ns) ∧ ∀ y ∈ n :: ns, ns.foldl (fun a b => if b < a then b else a) n ≤ y
  | [], n => ⟨List.mem_singleton.mpr rfl, fun y hy => by rw [List.mem_singleton.mp hy]; exact Int.le_refl _⟩
  | m :: ns, n => by
    obtain ⟨h1, h2⟩ := minI_le ns (if m < n then m else n)
    rw [List.foldl_cons]
    refine ⟨?_, fun y hy => ?_⟩
    · rcases List.mem_cons.mp h1 with z | z
      · rw [z]
        split
        · exact List.mem_cons_of_mem _ List.mem_cons_self
        · exact List.mem_cons_self
      · exact List.mem_cons_of_mem _ (List.mem_cons_of_mem _ z)
    · have h3 := h2 _ List.mem_cons_self
      have hh : (if m < n then m else n) ≤ n ∧ (if m < n then m else n) ≤ m := by split <;> omega
      rcases List.mem_cons.mp hy with z | z
      · rw [z]
        exact Int.le_trans h3 hh.1
      · rcases List.mem_cons.mp z with z | z
        · rw [z]
          exact Int.le_trans h3 hh.2
        · exact h2 y (List.mem_cons_of_mem _ z)
theorem maxI_mem {ns : List Int} (h : ns ≠ []) : maxI ns ∈ ns ∧ ∀ y ∈ ns, y ≤ maxI ns := by
  cases ns with
  | nil => exact absurd rfl h
  | cons n ns => exact maxI_le ns n
theorem minI_mem {ns : List Int} (h : ns ≠ []) : minI ns ∈ ns ∧ ∀ y ∈ ns, minI ns ≤ y := by
  cases ns with
  | nil => exact absurd rfl h
  | cons n ns => exact minI_le ns n
def dMaxL : List PyData → Option PyData
  | [.list ds] => (intsD ds).bind fun ns => if ns = [] then none else some (.int (maxI ns))
  | _ => none
def dMinL : List PyData → Option PyData
  | [.list ds] => (intsD ds).bind fun ns => if ns = [] then none else some (.int (minI ns))
  | _ => none
section
variable {K : PySem.W.Frag}
theorem dn_maxL : DN K (rMax K) dMaxL := by
  intro G F H xs ds z Q ex hx hf k
  match ds, hx, hf with
  | [.list ds], hx, hf =>
    obtain ⟨v, rfl, h⟩ := dq1 hx
    obtain ⟨a, us, rfl, h1, h2⟩ := h.list ex
    obtain ⟨ns, h3, h4⟩ := some_bind hf
    have e := ints_vs h2 h3
    subst e
    split at h4
    · cases h4
    · rename_i hne
      cases h4
      obtain ⟨m1, m2⟩ := maxI_mem hne
      refine ⟨a, ns, rfl, .inl h1, by cases ns with | nil => exact absurd rfl hne | cons _ _ => simp, fun m hm hy => ?_⟩
      have : m = maxI ns := by
        have := m2 m hm
        have := hy _ m1
        omega
      subst this
      exact k _ H G (Gr.refl ex) (.int _)
theorem dn_minL : DN K (rMin K) dMinL := by
  intro G F H xs ds z Q ex hx hf k
  match ds, hx, hf with
  | [.list ds], hx, hf =>
    obtain ⟨v, rfl, h⟩ := dq1 hx
    obtain ⟨a, us, rfl, h1, h2⟩ := h.list ex
    obtain ⟨ns, h3, h4⟩ := some_bind hf
    have e := ints_vs h2 h3
    subst e
    split at h4
    · cases h4
    · rename_i hne
      cases h4
      obtain ⟨m1, m2⟩ := minI_mem hne
      refine ⟨a, ns, rfl, .inl h1, by cases ns with | nil => exact absurd rfl hne | cons _ _ => simp, fun m hm hy => ?_⟩
      have : m = minI ns := by
        have := m2 m hm
        have := hy _ m1
        omega
      subst this
      exact k _ H G (Gr.refl ex) (.int _)
end
end Dv

/-! what a mirror gives: plain Lean, no program in sight -/
namespace Dv
open PySem L2
/-- it gives something of which Q holds -/
def Ev {α : Type} (o : Option α) (Q : α → Prop) : Prop := ∃ r, o = some r ∧ Q r
section
variable {α β : Type} {o : _root_.Option α} {Q Q' : α → Prop} {R : β → Prop}
theorem ev_some {x : α} : Ev (some x) Q ↔ Q x := ⟨fun ⟨_, e, h⟩ => (by cases e; exact h), fun h => ⟨x, rfl, h⟩⟩
theorem ev_none : Ev (none : Option α) Q ↔ False := ⟨fun ⟨_, e, _⟩ => (by cases e), fun h => False.elim h⟩
theorem ev_bind {f : α → Option β} : Ev (o.bind f) R ↔ Ev o fun x => Ev (f x) R := by
  cases o with
  | none => simp [ev_none]
  | some x => simp [ev_some]
theorem ev_map {f : α → β} : Ev (o.map f) R ↔ Ev o fun x => R (f x) := by
  cases o with
  | none => simp [ev_none]
  | some x => simp [ev_some]
theorem ev_ite {c : Prop} [Decidable c] {a b : Option α} : Ev (if c then a else b) Q ↔ if c then Ev a Q else Ev b Q := by split <;> rfl
theorem ev_guard {c : Prop} [Decidable c] {a : Option α} : Ev (if c then a else none) Q ↔ c ∧ Ev a Q := by
  split
  · simp [*]
  · simp [*, ev_none]
theorem Ev.imp (h : Ev o Q) (i : ∀ x, Q x → Q' x) : Ev o Q' := by
  obtain ⟨r, e, q⟩ := h
  exact ⟨r, e, i r q⟩
theorem ev_eq {x : α} : Ev o (fun r => r = x) ↔ o = some x := ⟨fun ⟨_, e, h⟩ => by rw [e, h], fun h => ⟨x, h, rfl⟩⟩
theorem Ev.of {x : α} (e : o = some x) (h : Q x) : Ev o Q := ⟨x, e, h⟩
theorem Ev.get {x : α} (h : Ev o Q) (e : o = some x) : Q x := by
  obtain ⟨r, e', q⟩ := h
  rw [e] at e'
  cases e'
  exact q
end

/-! ### mirrors -/
section
variable {S : Type} {s : S} {env : En} {Q : PyData × S → Prop} {QL : List PyData × S → Prop} {QB : Bool × S → Prop} {QI : Option Int × S → Prop} {QS : Fl × S × En → Prop} {a b c : M S PyData} {ms : List (M S PyData)} {l : M S (List PyData)} {t u : M S Bool} {d : PyData} {i : Nat}
theorem ev_eC : Ev (eC d s env) Q ↔ Q (d, s) := ev_some
theorem ev_eV {e : PyData} (h : env[i]? = some (.val e)) : Ev (eV i s env) Q ↔ Q (e, s) := by
  unfold eV
  rw [h]
  exact ev_some
theorem ev_eV0 {env : En} : Ev (eV 0 s (.val d :: env)) Q ↔ Q (d, s) := ev_some
theorem ev_eVs {v : SV} {env : En} : Ev (eV (i + 1) s (v :: env)) Q ↔ Ev (eV i s env) Q := Iff.rfl
theorem ev_bV0 {env : En} : Ev (bV 0 s (.val d :: env)) Q ↔ Q (d, s) := ev_some
theorem ev_bO0 {env : En} {es : List PyData} : Ev (bV 0 s (.own es :: env)) Q ↔ Q (.list es, s) := ev_some
theorem ev_bVs {v : SV} {env : En} : Ev (bV (i + 1) s (v :: env)) Q ↔ Ev (bV i s env) Q := Iff.rfl
theorem ev_bV {e : PyData} (h : env[i]? = some (.val e)) : Ev (bV i s env) Q ↔ Q (e, s) := by
  unfold bV
  rw [h]
  exact ev_some
theorem ev_bO {es : List PyData} (h : env[i]? = some (.own es)) : Ev (bV i s env) Q ↔ Q (.list es, s) := by
  unfold bV
  rw [h]
  exact ev_some
theorem ev_e1 {f : PyData → Option PyData} : Ev (e1 f a s env) Q ↔ Ev (a s env) fun p => Ev (f p.1) fun z => Q (z, p.2) := by simp only [e1, ev_bind, ev_map]
theorem ev_e2 {f : PyData → PyData → Option PyData} : Ev (e2 f a b s env) Q ↔ Ev (a s env) fun p => Ev (b p.2 env) fun q => Ev (f p.1 q.1) fun z => Q (z, q.2) := by simp only [e2, ev_bind, ev_map]
theorem ev_eN {f : List PyData → Option PyData} : Ev (eN f l s env) Q ↔ Ev (l s env) fun p => Ev (f p.1) fun z => Q (z, p.2) := by simp only [eN, ev_bind, ev_map]
theorem ev_oN {f : List PyData → Option (List PyData)} : Ev (oN f l s env) QL ↔ Ev (l s env) fun p => Ev (f p.1) fun z => QL (z, p.2) := by simp only [oN, ev_bind, ev_map]
theorem ev_o2 {f : PyData → PyData → Option (List PyData)} : Ev (o2 f a b s env) QL ↔ Ev (a s env) fun p => Ev (b p.2 env) fun q => Ev (f p.1 q.1) fun z => QL (z, q.2) := by simp only [o2, ev_bind, ev_map]
theorem ev_nil : Ev (aAll ([] : List (M S PyData)) s env) QL ↔ QL ([], s) := ev_some
theorem ev_cons : Ev (aAll (a :: ms) s env) QL ↔ Ev (a s env) fun p => Ev (aAll ms p.2 env) fun q => QL (p.1 :: q.1, q.2) := by
  show Ev ((a s env).bind _) QL ↔ _
  simp only [ev_bind, ev_some]
theorem ev_eL : Ev (eL l s env) Q ↔ Ev (l s env) fun p => Q (.list p.1, p.2) := by simp only [eL, ev_map]
theorem ev_eTup : Ev (eTup l s env) Q ↔ Ev (l s env) fun p => Q (.tuple p.1, p.2) := by simp only [eTup, ev_map]
theorem ev_tV : Ev (tV a s env) QB ↔ Ev (a s env) fun p => ∃ k, p.1 = .bool k ∧ QB (k, p.2) := by
  unfold tV
  rw [ev_bind]
  constructor
  · intro h
    refine h.imp fun x hx => ?_
    split at hx
    · exact ⟨_, by assumption, ev_some.mp hx⟩
    · exact (ev_none.mp hx).elim
  · intro h
    refine h.imp fun x hx => ?_
    obtain ⟨k, e, q⟩ := hx
    rw [e]
    exact ev_some.mpr q
theorem ev_tAnd : Ev (tAnd t u s env) QB ↔ Ev (t s env) fun p => if p.1 = true then Ev (u p.2 env) QB else QB (false, p.2) := by simp only [tAnd, ev_bind, ev_ite, ev_some]
theorem ev_tOr : Ev (tOr t u s env) QB ↔ Ev (t s env) fun p => if p.1 = true then QB (true, p.2) else Ev (u p.2 env) QB := by simp only [tOr, ev_bind, ev_ite, ev_some]
theorem ev_tNot : Ev (tNot t s env) QB ↔ Ev (t s env) fun p => QB (!p.1, p.2) := by simp only [tNot, ev_map]
theorem ev_tYes : Ev (tYes s env) QB ↔ QB (true, s) := ev_some
theorem ev_eIf : Ev (eIf t a b s env) Q ↔ Ev (t s env) fun p => if p.1 = true then Ev (a p.2 env) Q else Ev (b p.2 env) Q := by simp only [eIf, ev_bind, ev_ite]
theorem ev_boolM {f : Bool → Option (PyData × S)} {x : PyData} : Ev (match x with
    | .bool k => f k
    | _ => none) Q ↔ ∃ k, x = .bool k ∧ Ev (f k) Q := by
  constructor
  · intro h
    split at h
    · exact ⟨_, rfl, h⟩
    · exact (ev_none.mp h).elim
  · intro ⟨k, e, h⟩
    rw [e]
    exact h
theorem ev_eNot : Ev (eNot a s env) Q ↔ Ev (a s env) fun p => ∃ k, p.1 = .bool k ∧ Q (.bool !k, p.2) := by
  unfold eNot
  rw [ev_bind]
  constructor
  · intro h
    refine h.imp fun p hp => ?_
    obtain ⟨k, e, h⟩ := ev_boolM.mp hp
    exact ⟨k, e, ev_some.mp h⟩
  · intro h
    refine h.imp fun p hp => ?_
    obtain ⟨k, e, h⟩ := hp
    rw [e]
    exact ev_some.mpr h
theorem ev_eAnd : Ev (eAnd a b s env) Q ↔ Ev (a s env) fun p => ∃ k, p.1 = .bool k ∧ if k = true then Ev (b p.2 env) Q else Q (.bool false, p.2) := by
  unfold eAnd
  rw [ev_bind]
  have key : ∀ p : PyData × S, Ev (match p.1 with
    | .bool true => b p.2 env
    | .bool false => some (.bool false, p.2)
    | _ => none) Q ↔ ∃ k, p.1 = .bool k ∧ if k = true then Ev (b p.2 env) Q else Q (.bool false, p.2) := fun p => by
    constructor
    · intro h
      split at h
      · exact ⟨true, by assumption, by rw [if_pos rfl]; exact h⟩
      · exact ⟨false, by assumption, by rw [if_neg (by decide)]; exact ev_some.mp h⟩
      · exact (ev_none.mp h).elim
    · intro ⟨k, e, h⟩
      rw [e]
      cases k with
      | true => rw [if_pos rfl] at h; exact h
      | false => rw [if_neg (by decide)] at h; exact ev_some.mpr h
  exact ⟨fun h => h.imp fun p hp => (key p).mp hp, fun h => h.imp fun p hp => (key p).mpr hp⟩
theorem ev_eOr : Ev (eOr a b s env) Q ↔ Ev (a s env) fun p => ∃ k, p.1 = .bool k ∧ if k = true then Q (.bool true, p.2) else Ev (b p.2 env) Q := by
  unfold eOr
  rw [ev_bind]
  have key : ∀ p : PyData × S, Ev (match p.1 with
    | .bool true => some (.bool true, p.2)
    | .bool false => b p.2 env
    | _ => none) Q ↔ ∃ k, p.1 = .bool k ∧ if k = true then Q (.bool true, p.2) else Ev (b p.2 env) Q := fun p => by
    constructor
    · intro h
      split at h
      · exact ⟨true, by assumption, by rw [if_pos rfl]; exact ev_some.mp h⟩
      · exact ⟨false, by assumption, by rw [if_neg (by decide)]; exact h⟩
      · exact (ev_none.mp h).elim
    · intro ⟨k, e, h⟩
      rw [e]
      cases k with
      | true => rw [if_pos rfl] at h; exact ev_some.mpr h
      | false => rw [if_neg (by decide)] at h; exact h
  exact ⟨fun h => h.imp fun p hp => (key p).mp hp, fun h => h.imp fun p hp => (key p).mpr hp⟩
theorem ev_eChain {f g : PyData → PyData → Option PyData} : Ev (eChain f g a b c s env) Q ↔ Ev (a s env) fun p => Ev (b p.2 env) fun q => Ev (f p.1 q.1) fun z => ∃ k, z = .bool k ∧ if k = true then Ev (c q.2 env) fun r => Ev (g q.1 r.1) fun z => Q (z, r.2) else Q (.bool false, q.2) := by
  unfold eChain
  simp only [ev_bind]
  have key : ∀ (p q : PyData × S) (z : PyData), Ev (match z with
    | .bool true => (c q.2 env).bind fun r => (g q.1 r.1).map fun z => (z, r.2)
    | .bool false => some (.bool false, q.2)
    | _ => none) Q ↔ ∃ k, z = .bool k ∧ if k = true then Ev (c q.2 env) fun r => Ev (g q.1 r.1) fun z => Q (z, r.2) else Q (.bool false, q.2) := fun p q z => by
    constructor
    · intro h
      split at h
      · exact ⟨true, rfl, by rw [if_pos rfl]; simpa only [ev_bind, ev_map] using h⟩
      · exact ⟨false, rfl, by rw [if_neg (by decide)]; exact ev_some.mp h⟩
      · exact (ev_none.mp h).elim
    · intro ⟨k, e, h⟩
      rw [e]
      cases k with
      | true => rw [if_pos rfl] at h; simpa only [ev_bind, ev_map] using h
      | false => rw [if_neg (by decide)] at h; exact ev_some.mpr h
  exact ⟨fun h => h.imp fun p hp => hp.imp fun q hq => hq.imp fun z hz => (key p q z).mp hz, fun h => h.imp fun p hp => hp.imp fun q hq => hq.imp fun z hz => (key p q z).mpr hz⟩
theorem ev_pN : Ev (pN s env) QI ↔ QI (none, s) := ev_some
theorem ev_pS : Ev (pS a s env) QI ↔ Ev (a s env) fun p => ∃ k, p.1 = .int k ∧ QI (some k, p.2) := by
  unfold pS
  rw [ev_bind]
  constructor
  · intro h
    refine h.imp fun x hx => ?_
    split at hx
    · exact ⟨_, by assumption, ev_some.mp hx⟩
    · exact (ev_none.mp hx).elim
  · intro h
    refine h.imp fun x hx => ?_
    obtain ⟨k, e, q⟩ := hx
    rw [e]
    exact ev_some.mpr q
theorem ev_eSl {lo hi : M S (Option Int)} : Ev (eSl a lo hi s env) Q ↔ Ev (a s env) fun p => Ev (lo p.2 env) fun q => Ev (hi q.2 env) fun r => Ev (match p.1 with
    | .list ds => some (.list (cutD ds q.1 r.1), r.2)
    | .tuple ds => some (.tuple (cutD ds q.1 r.1), r.2)
    | _ => none) Q := by
  unfold eSl
  simp only [ev_bind]
  try exact Iff.rfl
theorem ev_oSl {lo hi : M S (Option Int)} : Ev (oSl a lo hi s env) QL ↔ Ev (a s env) fun p => Ev (lo p.2 env) fun q => Ev (hi q.2 env) fun r => Ev (match p.1 with
    | .list ds => some (cutD ds q.1 r.1, r.2)
    | _ => none) QL := by
  unfold oSl
  simp only [ev_bind]
  try exact Iff.rfl
theorem ev_iS : Ev (iS a s env) QL ↔ Ev (a s env) fun p => Ev (items p.1) fun ds => QL (ds, p.2) := by simp only [iS, ev_bind, ev_map]
theorem ev_iZ : Ev (iZ a b s env) QL ↔ Ev (a s env) fun p => Ev (b p.2 env) fun q => Ev (items p.1) fun xs => Ev (items q.1) fun ys => QL (zipD xs ys, q.2) := by simp only [iZ, ev_bind, ev_map]
theorem ev_iR1 : Ev (iR1 a s env) QL ↔ Ev (a s env) fun p => ∃ j, p.1 = .int j ∧ (-big ≤ j ∧ j ≤ big) ∧ QL (rangeD 0 j, p.2) := by
  unfold iR1
  rw [ev_bind]
  constructor
  · intro h
    refine h.imp fun x hx => ?_
    split at hx
    · rename_i j e
      rw [ev_guard, ev_some] at hx
      exact ⟨j, e, hx⟩
    · exact (ev_none.mp hx).elim
  · intro h
    refine h.imp fun x hx => ?_
    obtain ⟨k, e, q⟩ := hx
    rw [e]
    simp only [ev_guard, ev_some]
    exact q
theorem ev_iR2 : Ev (iR2 a b s env) QL ↔ Ev (a s env) fun p => Ev (b p.2 env) fun q => ∃ i j, p.1 = .int i ∧ q.1 = .int j ∧ (-big ≤ i ∧ i ≤ big ∧ -big ≤ j ∧ j ≤ big) ∧ QL (rangeD i j, q.2) := by
  unfold iR2
  simp only [ev_bind]
  constructor
  · intro h
    refine h.imp fun x hx => hx.imp fun y hy => ?_
    split at hy
    · rename_i i j e1 e2
      rw [ev_guard, ev_some] at hy
      exact ⟨i, j, e1, e2, hy⟩
    · exact (ev_none.mp hy).elim
  · intro h
    refine h.imp fun x hx => hx.imp fun y hy => ?_
    obtain ⟨i, j, e1, e2, q⟩ := hy
    rw [e1, e2]
    simp only [ev_guard, ev_some]
    exact q
theorem ev_oLc {vs : List Nat} {mi : M S (List PyData)} {g : GF S} {e : M S PyData} : Ev (oLc vs mi g t e s env) QL ↔ Ev (mi s env) fun p => p.1.length ≤ 1000000 ∧ Ev (lcL (wipeE env vs) g t e p.1 p.2) QL := by simp only [oLc, ev_bind, ev_guard]
theorem ev_eR {F : S → List PyData → Option (PyData × S)} (h : env[i]? = some SV.reg) : Ev (eR F i l s env) Q ↔ Ev (l s env) fun p => Ev (F p.2 p.1) Q := by
  unfold eR
  rw [h]
  simp only [ev_bind]
theorem ev_eNew {F : List PyData → Option (List PyData)} {R : List PyData → List PyData → Option (PyData × List PyData)} : Ev (eNew F R l s env) Q ↔ Ev (l s env) fun p => Ev (F p.1) fun z => Ev (R z []) fun q => Q (q.1, p.2) := by simp only [eNew, ev_bind, ev_map]

theorem ev_eR0 {env : En} {F : S → List PyData → Option (PyData × S)} : Ev (eR F 0 l s (.reg :: env)) Q ↔ Ev (l s (.reg :: env)) fun p => Ev (F p.2 p.1) Q := ev_eR rfl

/-! ### statements -/
variable {x y : SM S}
theorem ev_sNx : Ev (sNx s env) QS ↔ QS (.nx, s, env) := ev_some
theorem ev_sBk : Ev (sBk s env) QS ↔ QS (.bk, s, env) := ev_some
theorem ev_sCt : Ev (sCt s env) QS ↔ QS (.ct, s, env) := ev_some
theorem ev_sNo : Ev (sNo s env) QS ↔ False := ev_none
/-- behind a statement: Q goes on, R is the end -/
def Nxt {S : Type} (k : S → En → Prop) (QS : Fl × S × En → Prop) : Fl × S × En → Prop
  | (.nx, s, env) => k s env
  | p => QS p
theorem nxt_nx {k : S → En → Prop} : Nxt k QS (.nx, s, env) ↔ k s env := Iff.rfl
theorem nxt_rt {k : S → En → Prop} : Nxt k QS (.rt d, s, env) ↔ QS (.rt d, s, env) := Iff.rfl
theorem nxt_bk {k : S → En → Prop} : Nxt k QS (.bk, s, env) ↔ QS (.bk, s, env) := Iff.rfl
theorem nxt_ct {k : S → En → Prop} : Nxt k QS (.ct, s, env) ↔ QS (.ct, s, env) := Iff.rfl
theorem ev_sSeq : Ev (sSeq x y s env) QS ↔ Ev (x s env) (Nxt (fun s env => Ev (y s env) QS) QS) := by
  unfold sSeq
  rw [ev_bind]
  constructor
  · intro h
    refine h.imp fun p hp => ?_
    obtain ⟨f, s, env⟩ := p
    cases f <;> first | exact hp | exact (ev_some (Q := QS)).mp hp
  · intro h
    refine h.imp fun p hp => ?_
    obtain ⟨f, s, env⟩ := p
    cases f <;> first | exact hp | exact (ev_some (Q := QS)).mpr hp
theorem ev_sIf : Ev (sIf t x y s env) QS ↔ Ev (t s env) fun p => if p.1 = true then Ev (x p.2 env) QS else Ev (y p.2 env) QS := by simp only [sIf, ev_bind, ev_ite]
theorem ev_sSet : Ev (sSet i a s env) QS ↔ Ev (a s env) fun p => QS (.nx, p.2, env.set i (.val p.1)) := by simp only [sSet, ev_map]
theorem ev_sOwn : Ev (sOwn i l s env) QS ↔ Ev (l s env) fun p => QS (.nx, p.2, env.set i (.own p.1)) := by simp only [sOwn, ev_map]
theorem ev_sDrop : Ev (sDrop a s env) QS ↔ Ev (a s env) fun p => QS (.nx, p.2, env) := by simp only [sDrop, ev_map]
theorem ev_sRet : Ev (sRet a s env) QS ↔ Ev (a s env) fun p => QS (.rt p.1, p.2, env) := by simp only [sRet, ev_map]
theorem ev_sFrz : Ev (sFrz x s env) QS ↔ Ev (x s (env.map frz1)) QS := Iff.rfl
theorem ev_sBind {f : GF S} : Ev (sBind f a s env) QS ↔ Ev (a s env) fun p => Ev (f p.1 p.2 env) fun q => QS (.nx, q.1, q.2) := by simp only [sBind, ev_bind, ev_map]
theorem ev_sPar {is : List Nat} : Ev (sPar is ms s env) QS ↔ Ev (aAll ms s env) fun p => Ev (gA (is.map gN) p.1 p.2 env) fun q => QS (.nx, q.1, q.2) := by simp only [sPar, ev_bind, ev_map]
theorem ev_sFor {mi : M S (List PyData)} {g : GF S} : Ev (sFor mi g x s env) QS ↔ Ev (mi s env) fun p => Ev (forL g x p.1 p.2 env) QS := by simp only [sFor, ev_bind]
theorem ev_sApp {es : List PyData} (h : env[i]? = some (.own es)) : Ev (sApp i a s env) QS ↔ Ev (a s env) fun p => es.length < 1000000 ∧ QS (.nx, p.2, env.set i (.own (es ++ [p.1]))) := by
  unfold sApp
  rw [h]
  simp only [ev_bind, ev_guard, ev_some]
theorem ev_sPut {k : M S PyData} {es : List PyData} (h : env[i]? = some (.own es)) : Ev (sPut i k a s env) QS ↔ Ev (a s env) fun p => Ev (k p.2 env) fun q => ∃ j, q.1 = .int j ∧ Ev (ixN es.length j) fun n => QS (.nx, q.2, env.set i (.own (es.set n p.1))) := by
  unfold sPut
  rw [h]
  simp only [ev_bind]
  constructor
  · intro h
    refine h.imp fun x hx => hx.imp fun y hy => ?_
    split at hy
    · rename_i j e
      exact ⟨j, e, ev_map.mp hy⟩
    · exact (ev_none.mp hy).elim
  · intro h
    refine h.imp fun x hx => hx.imp fun y hy => ?_
    obtain ⟨j, e, hy⟩ := hy
    rw [e]
    exact ev_map.mpr hy
theorem ev_sAppE : Ev (sApp i a s env) QS ↔ ∃ es, env[i]? = some (SV.own es) ∧ Ev (a s env) fun p => es.length < 1000000 ∧ QS (.nx, p.2, env.set i (.own (es ++ [p.1]))) := by
  constructor
  · intro h
    unfold sApp at h
    split at h
    · rename_i es e
      refine ⟨es, e, ?_⟩
      simp only [ev_bind, ev_guard, ev_some] at h
      exact h
    · exact (ev_none.mp h).elim
  · intro ⟨es, e, h⟩
    exact (ev_sApp e).mpr h
theorem ev_sPutE {k : M S PyData} : Ev (sPut i k a s env) QS ↔ Ev (a s env) fun p => ∃ es, env[i]? = some (SV.own es) ∧ Ev (k p.2 env) fun q => ∃ j, q.1 = .int j ∧ Ev (ixN es.length j) fun n => QS (.nx, q.2, env.set i (.own (es.set n p.1))) := by
  constructor
  · intro h
    unfold sPut at h
    rw [ev_bind] at h
    refine h.imp fun p hp => ?_
    split at hp
    · rename_i es e
      refine ⟨es, e, ?_⟩
      rw [ev_bind] at hp
      refine hp.imp fun q hq => ?_
      split at hq
      · rename_i j ej
        exact ⟨j, ej, ev_map.mp hq⟩
      · exact (ev_none.mp hq).elim
    · exact (ev_none.mp hp).elim
  · intro h
    unfold sPut
    rw [ev_bind]
    refine h.imp fun p hp => ?_
    obtain ⟨es, e, hq⟩ := hp
    rw [e]
    simp only [ev_bind]
    refine hq.imp fun q hq => ?_
    obtain ⟨j, ej, hq⟩ := hq
    rw [ej]
    exact ev_map.mpr hq
theorem ev_gN {QG : S × En → Prop} : Ev (gN i d s env) QG ↔ QG (s, env.set i (.val d)) := ev_some
theorem ev_gT {fs : List (GF S)} {ds : List PyData} {QG : S × En → Prop} : Ev (gT fs (.tuple ds) s env) QG ↔ Ev (gA fs ds s env) QG := Iff.rfl
theorem ev_gNil {QG : S × En → Prop} : Ev (gA ([] : List (GF S)) [] s env) QG ↔ QG (s, env) := ev_some
theorem ev_gCons {f : GF S} {fs : List (GF S)} {ds : List PyData} {QG : S × En → Prop} : Ev (gA (f :: fs) (d :: ds) s env) QG ↔ Ev (f d s env) fun p => Ev (gA fs ds p.1 p.2) QG := by
  show Ev ((f d s env).bind _) QG ↔ _
  rw [ev_bind]

/-! ### loops -/
theorem ev_for0 {g : GF S} : Ev (forL g x [] s env) QS ↔ QS (.nx, s, env) := ev_some
/-- behind a turn of a loop: k goes on; break, return end it -/
def Trn {S : Type} (k : S → En → Prop) (QS : Fl × S × En → Prop) : Fl × S × En → Prop
  | (.nx, s, env) => k s env
  | (.ct, s, env) => k s env
  | (.bk, s, env) => QS (.nx, s, env)
  | (.rt d, s, env) => QS (.rt d, s, env)
theorem trn_nx {k : S → En → Prop} : Trn k QS (.nx, s, env) ↔ k s env := Iff.rfl
theorem trn_ct {k : S → En → Prop} : Trn k QS (.ct, s, env) ↔ k s env := Iff.rfl
theorem trn_bk {k : S → En → Prop} : Trn k QS (.bk, s, env) ↔ QS (.nx, s, env) := Iff.rfl
theorem trn_rt {k : S → En → Prop} : Trn k QS (.rt d, s, env) ↔ QS (.rt d, s, env) := Iff.rfl
theorem ev_for1 {g : GF S} {ds : List PyData} : Ev (forL g x (d :: ds) s env) QS ↔ Ev (g d s env) fun p => Ev (x p.1 p.2) (Trn (fun s env => Ev (forL g x ds s env) QS) QS) := by
  show Ev ((g d s env).bind _) QS ↔ _
  simp only [ev_bind]
  constructor
  · intro h
    refine h.imp fun p hp => hp.imp fun q hq => ?_
    obtain ⟨f, s, env⟩ := q
    cases f <;> first | exact hq | exact (ev_some (Q := QS)).mp hq
  · intro h
    refine h.imp fun p hp => hp.imp fun q hq => ?_
    obtain ⟨f, s, env⟩ := q
    cases f <;> first | exact hq | exact (ev_some (Q := QS)).mpr hq
/-- a for by an invariant over what is left -/
theorem for_inv {g : GF S} (I : List PyData → S → En → Prop) (turn : ∀ d ds s env, I (d :: ds) s env → Ev (g d s env) fun p => Ev (x p.1 p.2) (Trn (fun s env => I ds s env) QS)) (fin : ∀ s env, I [] s env → QS (.nx, s, env)) :
    ∀ {ds : List PyData} {s : S} {env : En}, I ds s env → Ev (forL g x ds s env) QS
  | [], s, env, h => ev_for0.mpr (fin s env h)
  | d :: ds, s, env, h => ev_for1.mpr ((turn d ds s env h).imp fun p hp => hp.imp fun q hq => by
      obtain ⟨f, s, env⟩ := q
      cases f <;> first | exact for_inv I turn fin hq | exact hq)
theorem ev_wh0 {w : SM S} : Ev (whL t w 0 s env) QS ↔ False := ev_none
theorem ev_wh1 {w : SM S} {n : Nat} : Ev (whL t w (n + 1) s env) QS ↔ Ev (t s env) fun p => if p.1 = true then Ev (w p.2 env) (Trn (fun s env => Ev (whL t w n s env) QS) QS) else QS (.nx, p.2, env) := by
  show Ev ((t s env).bind _) QS ↔ _
  simp only [ev_bind, ev_ite, ev_some]
  constructor
  · intro h
    refine h.imp fun p hp => ?_
    split at hp
    · rename_i c
      rw [if_pos c]
      refine hp.imp fun q hq => ?_
      obtain ⟨f, s, env⟩ := q
      cases f <;> first | exact hq | exact (ev_some (Q := QS)).mp hq
    · rename_i c
      rw [if_neg c]
      exact hp
  · intro h
    refine h.imp fun p hp => ?_
    split at hp
    · rename_i c
      rw [if_pos c]
      refine hp.imp fun q hq => ?_
      obtain ⟨f, s, env⟩ := q
      cases f <;> first | exact hq | exact (ev_some (Q := QS)).mpr hq
    · rename_i c
      rw [if_neg c]
      exact hp
theorem ev_sWhile {w : SM S} {n : S → En → Nat} : Ev (sWhile n t w s env) QS ↔ Ev (whL t w (n s env) s env) QS := Iff.rfl
/-- a while by an invariant and a measure -/
theorem wh_inv {w : SM S} (I : Nat → S → En → Prop) (turn : ∀ n s env, I n s env → Ev (t s env) fun p => if p.1 = true then Ev (w p.2 env) (Trn (fun s env => ∃ m, m < n ∧ I m s env) QS) else QS (.nx, p.2, env)) : ∀ {k n : Nat} {s : S} {env : En}, I n s env → n < k → Ev (whL t w k s env) QS
  | 0, n, s, env, _, h => absurd h (Nat.not_lt_zero n)
  | k + 1, n, s, env, hI, h => ev_wh1.mpr ((turn n s env hI).imp fun p hp => by
      split at hp
      · rename_i c
        rw [if_pos c]
        refine hp.imp fun q hq => ?_
        obtain ⟨f, s, env⟩ := q
        cases f with
        | nx =>
          obtain ⟨m, h1, h2⟩ := hq
          exact wh_inv I turn h2 (by omega)
        | ct =>
          obtain ⟨m, h1, h2⟩ := hq
          exact wh_inv I turn h2 (by omega)
        | bk => exact hq
        | rt d => exact hq
      · rename_i c
        rw [if_neg c]
        exact hp)
theorem ev_lc0 {g : GF S} {e : M S PyData} : Ev (lcL env g t e [] s) QL ↔ QL ([], s) := ev_some
theorem ev_lc1 {g : GF S} {e : M S PyData} {ds : List PyData} : Ev (lcL env g t e (d :: ds) s) QL ↔ Ev (g d s env) fun p => Ev (t p.1 p.2) fun q => if q.1 = true then Ev (e q.2 p.2) fun y => Ev (lcL env g t e ds y.2) fun r => QL (y.1 :: r.1, r.2) else Ev (lcL env g t e ds q.2) QL := by
  show Ev ((g d s env).bind _) QL ↔ _
  simp only [ev_bind, ev_ite, ev_map]
inductive Each {α β : Type} (P : α → β → Prop) : List α → List β → Prop
  | nil : Each P [] []
  | cons {a b as bs} : P a b → Each P as bs → Each P (a :: as) (b :: bs)
/-- a comprehension without a test, by an invariant of the state -/
theorem lc_inv {g : GF S} {e : M S PyData} (I : S → Prop) (P : PyData → PyData → Prop) : ∀ {ds : List PyData} {s : S} {QL : List PyData × S → Prop}, (∀ d ∈ ds, ∀ s, I s → Ev (g d s env) fun p => Ev (e p.1 p.2) fun y => P d y.1 ∧ I y.2) → I s →
    (∀ rs s', Each P ds rs → I s' → QL (rs, s')) → Ev (lcL env g tYes e ds s) QL
  | [], s, QL, _, hs, k => ev_lc0.mpr (k [] s .nil hs)
  | d :: ds, s, QL, h, hs, k => ev_lc1.mpr ((h d List.mem_cons_self s hs).imp fun p hp => ev_tYes.mpr (by
      rw [if_pos rfl]
      exact hp.imp fun y hy => lc_inv I P (fun d hd => h d (List.mem_cons_of_mem _ hd)) hy.2 fun rs s' hr hi => k _ s' (.cons hy.1 hr) hi))
/-- a comprehension that reckons φ, where θ holds -/
theorem lc_filter {g : GF S} {e : M S PyData} (θ : PyData → Bool) (φ : PyData → PyData) : ∀ {ds : List PyData} {QL : List PyData × S → Prop}, (∀ d ∈ ds, Ev (g d s env) fun p => Ev (t p.1 p.2) fun q => q.1 = θ d ∧ q.2 = s ∧ (θ d = true → Ev (e q.2 p.2) fun y => y = (φ d, s))) →
    QL ((ds.filter θ).map φ, s) → Ev (lcL env g t e ds s) QL
  | [], QL, _, k => ev_lc0.mpr k
  | d :: ds, QL, h, k => ev_lc1.mpr ((h d List.mem_cons_self).imp fun p hp => hp.imp fun q hq => by
      obtain ⟨h1, h2, h3⟩ := hq
      rw [h1]
      by_cases c : θ d = true
      · rw [if_pos c]
        refine (h3 c).imp fun y hy => ?_
        subst hy
        refine lc_filter θ φ (QL := fun r => QL (φ d :: r.1, r.2)) (fun d hd => h d (List.mem_cons_of_mem _ hd)) ?_
        rw [List.filter_cons, if_pos c] at k
        exact k
      · rw [if_neg c, h2]
        refine lc_filter θ φ (fun d hd => h d (List.mem_cons_of_mem _ hd)) ?_
        rw [List.filter_cons, if_neg c] at k
        exact k)
theorem lc_map {g : GF S} {e : M S PyData} (φ : PyData → PyData) {ds : List PyData} (h : ∀ d ∈ ds, Ev (g d s env) fun p => Ev (e p.1 p.2) fun y => y = (φ d, s)) (hg : ∀ d ∈ ds, ∀ p, g d s env = some p → p.1 = s) (k : QL (ds.map φ, s)) : Ev (lcL env g tYes e ds s) QL := by
  refine lc_filter (fun _ => true) φ (fun d hd => ?_) (by rw [List.filter_eq_self.mpr fun _ _ => rfl]; exact k)
  obtain ⟨p, e1, hp⟩ := h d hd
  have e2 := hg d hd p e1
  refine ⟨p, e1, ev_tYes.mpr ⟨rfl, e2, fun _ => ?_⟩⟩
  exact hp
end

/-! ### the pot -/
section
variable {s : List PyData} {env : En} {mk : M (List PyData) PyData} {Q : PyData × List PyData → Prop} {QG : List PyData × En → Prop} {d : PyData}
theorem ev_eReg0 : Ev (eReg 0 mk s (.reg :: env)) Q ↔ Ev (mk s (.reg :: env)) fun p => ∃ k, p.1 = .int k ∧ Ev (atI p.2 k) fun d => Q (d, p.2) := by
  unfold eReg
  simp only [List.getElem?_cons_zero, ev_bind]
  constructor
  · intro h
    refine h.imp fun p hp => ?_
    split at hp
    · exact ⟨_, by assumption, ev_map.mp hp⟩
    · exact (ev_none.mp hp).elim
  · intro h
    refine h.imp fun p hp => ?_
    obtain ⟨k, e, hp⟩ := hp
    rw [e]
    exact ev_map.mpr hp
theorem ev_gReg0 : Ev (gReg 0 mk d s (.reg :: env)) QG ↔ Ev (mk s (.reg :: env)) fun p => ∃ k, p.1 = .int k ∧ Ev (ixN p.2.length k) fun j => QG (p.2.set j d, .reg :: env) := by
  unfold gReg
  simp only [List.getElem?_cons_zero, ev_bind]
  constructor
  · intro h
    refine h.imp fun p hp => ?_
    split at hp
    · exact ⟨_, by assumption, ev_map.mp hp⟩
    · exact (ev_none.mp hp).elim
  · intro h
    refine h.imp fun p hp => ?_
    obtain ⟨k, e, hp⟩ := hp
    rw [e]
    exact ev_map.mpr hp
theorem ev_ixN {n : Nat} {i : Int} {Q : Nat → Prop} (h1 : 0 ≤ i) (h2 : i < n) : Ev (ixN n i) Q ↔ Q i.toNat := by
  unfold ixN
  rw [if_pos h1, if_pos h2, ev_some]
theorem ev_ixN0 {α : Type} {x : α} {l : List α} {Q : Nat → Prop} : Ev (ixN (x :: l).length 0) Q ↔ Q 0 := ev_ixN (i := 0) (by decide) (by simp only [List.length_cons]; omega)
theorem ev_ixN1 {α : Type} {x y : α} {l : List α} {Q : Nat → Prop} : Ev (ixN (x :: y :: l).length 1) Q ↔ Q 1 := ev_ixN (i := 1) (by decide) (by simp only [List.length_cons]; omega)
theorem ev_atI {α : Type} {l : List α} {i : Int} {Q : α → Prop} (h1 : 0 ≤ i) (h2 : i.toNat < l.length) : Ev (atI l i) Q ↔ Q l[i.toNat] := by
  have e : atI l i = some l[i.toNat] := by
    unfold atI ixN
    rw [if_pos h1, if_pos (by omega)]
    exact List.getElem?_eq_getElem h2
  rw [e, ev_some]
end

/-! ### ends of defs -/
def OutP (Q : PyData → Prop) : Fl × Unit × En → Prop
  | (.rt d, _, _) => Q d
  | (.nx, _, _) => Q .none
  | _ => False
def OutR {S : Type} (Q : PyData × S → Prop) : Fl × S × En → Prop
  | (.rt d, s, _) => Q (d, s)
  | (.nx, s, _) => Q (.none, s)
  | _ => False
section
variable {n : Nat} {ds : List PyData}
theorem ev_fnP {m : SM Unit} {Q : PyData → Prop} : Ev (fnP n m ds) Q ↔ Ev (m () (env0 n ds)) (OutP Q) := by
  unfold fnP
  cases m () (env0 n ds) with
  | none => exact ⟨fun h => (ev_none.mp h).elim, fun h => (ev_none.mp h).elim⟩
  | some p =>
    obtain ⟨f, u, e⟩ := p
    rw [ev_some]
    cases f with
    | nx => exact ev_some
    | rt d => exact ev_some
    | bk => exact ev_none
    | ct => exact ev_none
theorem ev_fnR {S : Type} {s : S} {m : SM S} {Q : PyData × S → Prop} : Ev (fnR n m s ds) Q ↔ Ev (m s (envR n ds)) (OutR Q) := by
  unfold fnR
  cases m s (envR n ds) with
  | none => exact ⟨fun h => (ev_none.mp h).elim, fun h => (ev_none.mp h).elim⟩
  | some p =>
    obtain ⟨f, u, e⟩ := p
    rw [ev_some]
    cases f with
    | nx => exact ev_some
    | rt d => exact ev_some
    | bk => exact ev_none
    | ct => exact ev_none
theorem ev_fnO {u : SM Unit} {mo : M Unit (List PyData)} {Q : List PyData → Prop} : Ev (fnO n u mo ds) Q ↔ Ev (u () (env0 n ds)) (Nxt (fun s env => Ev (mo s env) fun p => Q p.1) fun _ => False) := by
  unfold fnO
  cases u () (env0 n ds) with
  | none => exact ⟨fun h => (ev_none.mp h).elim, fun h => (ev_none.mp h).elim⟩
  | some p =>
    obtain ⟨f, u, e⟩ := p
    rw [ev_some]
    cases f with
    | nx => exact ev_map
    | rt d => exact ev_none
    | bk => exact ev_none
    | ct => exact ev_none
variable {S : Type} {s : S} {env : En} {d : PyData}
theorem out_rt {Q : PyData → Prop} {u : Unit} : OutP Q (.rt d, u, env) ↔ Q d := Iff.rfl
theorem out_nx {Q : PyData → Prop} {u : Unit} : OutP Q (.nx, u, env) ↔ Q .none := Iff.rfl
theorem outr_rt {Q : PyData × S → Prop} : OutR Q (.rt d, s, env) ↔ Q (d, s) := Iff.rfl
theorem outr_nx {Q : PyData × S → Prop} : OutR Q (.nx, s, env) ↔ Q (.none, s) := Iff.rfl
end

/-! ### operations -/
section
variable {α : Type} {Q : α → Prop} {a b c : α} {l : List α}
theorem ev_at0 : Ev (atI (a :: l) 0) Q ↔ Q a := by
  have e : atI (a :: l) 0 = some a := by
    unfold atI ixN
    simp
  rw [e, ev_some]
theorem ev_at1 : Ev (atI (a :: b :: l) 1) Q ↔ Q b := by
  have e : atI (a :: b :: l) 1 = some b := by
    unfold atI ixN
    rw [if_pos (by decide), if_pos (by simp only [List.length_cons]; omega)]
    rfl
  rw [e, ev_some]
theorem ev_at2 : Ev (atI (a :: b :: c :: l) 2) Q ↔ Q c := by
  have e : atI (a :: b :: c :: l) 2 = some c := by
    unfold atI ixN
    rw [if_pos (by decide), if_pos (by simp only [List.length_cons]; omega)]
    rfl
  rw [e, ev_some]
end
section
variable {Q : PyData → Prop} {i j : Int}
theorem ev_addI : Ev (dAdd (.int i) (.int j)) Q ↔ Q (.int (i + j)) := ev_some
theorem ev_subI : Ev (dSub (.int i) (.int j)) Q ↔ Q (.int (i - j)) := ev_some
theorem ev_mulI : Ev (dMul (.int i) (.int j)) Q ↔ mulOk i j = true ∧ Q (.int (i * j)) := by
  show Ev (if _ then _ else _) _ ↔ _
  rw [ev_guard, ev_some]
theorem ev_divI : Ev (dDiv (.int i) (.int j)) Q ↔ (0 < j ∧ j.natAbs.log2 < 9000) ∧ Q (.int (i / j)) := by
  show Ev (if _ then _ else _) _ ↔ _
  rw [ev_guard, ev_some]
theorem ev_modI : Ev (dMod (.int i) (.int j)) Q ↔ 0 < j ∧ Q (.int (i % j)) := by
  show Ev (if _ then _ else _) _ ↔ _
  rw [ev_guard, ev_some]
theorem ev_negI : Ev (dNeg (.int i)) Q ↔ Q (.int (-i)) := ev_some
theorem ev_I2 {g : Int → Int → Bool} : Ev (dI2 g (.int i) (.int j)) Q ↔ Q (.bool (g i j)) := ev_some
theorem ev_absI : Ev (dAbs [.int i]) Q ↔ Q (.int (if i < 0 then -i else i)) := ev_some
theorem ev_intI : Ev (dInt [.int i]) Q ↔ Q (.int i) := ev_some
theorem ev_intB {b : Bool} : Ev (dInt [.bool b]) Q ↔ Q (.int (if b then 1 else 0)) := ev_some
theorem ev_lenL {ds : List PyData} : Ev (dLen [.list ds]) Q ↔ Q (.int ds.length) := ev_some
theorem ev_lenT {ds : List PyData} : Ev (dLen [.tuple ds]) Q ↔ Q (.int ds.length) := ev_some
theorem ev_ixL {ds : List PyData} : Ev (dIx (.list ds) (.int i)) Q ↔ Ev (atI ds i) Q := Iff.rfl
theorem ev_ixT {ds : List PyData} : Ev (dIx (.tuple ds) (.int i)) Q ↔ Ev (atI ds i) Q := Iff.rfl
theorem ev_addL {xs ys : List PyData} : Ev (dAdd (.list xs) (.list ys)) Q ↔ xs.length + ys.length ≤ lim ∧ Q (.list (xs ++ ys)) := by
  show Ev (if _ then _ else _) _ ↔ _
  rw [ev_guard, ev_some]
theorem ev_addT {xs ys : List PyData} : Ev (dAdd (.tuple xs) (.tuple ys)) Q ↔ xs.length + ys.length ≤ lim ∧ Q (.tuple (xs ++ ys)) := by
  show Ev (if _ then _ else _) _ ↔ _
  rw [ev_guard, ev_some]
theorem ev_mulL {xs : List PyData} : Ev (dMul (.list xs) (.int i)) Q ↔ (xs.length * i.toNat ≤ 1000000 ∧ i ≤ 1000000 ∧ -1000000 ≤ i) ∧ Q (.list (List.replicate i.toNat xs).flatten) := by
  show Ev (if _ then _ else _) _ ↔ _
  rw [ev_guard, ev_some]
theorem ev_catL {xs ys : List PyData} {QL : List PyData → Prop} : Ev (dCat (.list xs) (.list ys)) QL ↔ xs.length + ys.length ≤ lim ∧ QL (xs ++ ys) := by
  show Ev (if _ then _ else _) _ ↔ _
  rw [ev_guard, ev_some]
theorem ev_eqI : Ev (dEq (.int i) (.int j)) Q ↔ Q (.bool (decide (i = j))) := ev_some
theorem ev_neI : Ev (dNe (.int i) (.int j)) Q ↔ Q (.bool (!decide (i = j))) := ev_some
theorem ev_eqS {x y : Str} : Ev (dEq (.str x) (.str y)) Q ↔ Q (.bool (decide (x = y))) := ev_some
theorem ev_neS {x y : Str} : Ev (dNe (.str x) (.str y)) Q ↔ Q (.bool (!decide (x = y))) := ev_some
theorem ev_eqL {xs : List PyData} {e : PyData} : Ev (dEq (.list xs) e) Q ↔ (SeqAt.shaped (.list xs) = true ∧ SeqAt.shaped e = true) ∧ Q (.bool (PyData.eqv (.list xs) e)) := by
  show Ev (Option.map _ (if _ then _ else _)) _ ↔ _
  rw [ev_map, ev_guard, ev_some, Bool.and_eq_true]
theorem ev_neL {xs : List PyData} {e : PyData} : Ev (dNe (.list xs) e) Q ↔ (SeqAt.shaped (.list xs) = true ∧ SeqAt.shaped e = true) ∧ Q (.bool (!PyData.eqv (.list xs) e)) := by
  show Ev (Option.map _ (if _ then _ else _)) _ ↔ _
  rw [ev_map, ev_guard, ev_some, Bool.and_eq_true]
theorem ev_eqT {xs : List PyData} {e : PyData} : Ev (dEq (.tuple xs) e) Q ↔ (SeqAt.shaped (.tuple xs) = true ∧ SeqAt.shaped e = true) ∧ Q (.bool (PyData.eqv (.tuple xs) e)) := by
  show Ev (Option.map _ (if _ then _ else _)) _ ↔ _
  rw [ev_map, ev_guard, ev_some, Bool.and_eq_true]
theorem ev_neT {xs : List PyData} {e : PyData} : Ev (dNe (.tuple xs) e) Q ↔ (SeqAt.shaped (.tuple xs) = true ∧ SeqAt.shaped e = true) ∧ Q (.bool (!PyData.eqv (.tuple xs) e)) := by
  show Ev (Option.map _ (if _ then _ else _)) _ ↔ _
  rw [ev_map, ev_guard, ev_some, Bool.and_eq_true]
theorem ev_inL {d : PyData} {ds : List PyData} : Ev (dIn d (.list ds)) Q ↔ (SeqAt.shaped d = true ∧ SeqAt.shaped (.list ds) = true) ∧ Q (.bool (ds.any fun z => PyData.eqv z d)) := by
  simp only [dIn, dInB, items, Option.bind_some, ev_map, ev_guard, ev_some, Bool.and_eq_true]
theorem ev_inT {d : PyData} {ds : List PyData} : Ev (dIn d (.tuple ds)) Q ↔ (SeqAt.shaped d = true ∧ SeqAt.shaped (.list ds) = true) ∧ Q (.bool (ds.any fun z => PyData.eqv z d)) := by
  simp only [dIn, dInB, items, Option.bind_some, ev_map, ev_guard, ev_some, Bool.and_eq_true]
theorem ev_ninL {d : PyData} {ds : List PyData} : Ev (dNin d (.list ds)) Q ↔ (SeqAt.shaped d = true ∧ SeqAt.shaped (.list ds) = true) ∧ Q (.bool (!ds.any fun z => PyData.eqv z d)) := by
  simp only [dNin, dInB, items, Option.bind_some, ev_map, ev_guard, ev_some, Bool.and_eq_true]
theorem ev_ninT {d : PyData} {ds : List PyData} : Ev (dNin d (.tuple ds)) Q ↔ (SeqAt.shaped d = true ∧ SeqAt.shaped (.list ds) = true) ∧ Q (.bool (!ds.any fun z => PyData.eqv z d)) := by
  simp only [dNin, dInB, items, Option.bind_some, ev_map, ev_guard, ev_some, Bool.and_eq_true]
theorem ev_isi {Ts : List String} {d : PyData} : Ev (dIsi Ts d) Q ↔ tyOk d = true ∧ Q (.bool (Ts.any fun T => isTy (tyD d) T)) := by
  unfold dIsi
  rw [ev_guard, ev_some]
theorem ev_itL {ds : List PyData} {QL : List PyData → Prop} : Ev (items (.list ds)) QL ↔ QL ds := ev_some
theorem ev_itT {ds : List PyData} {QL : List PyData → Prop} : Ev (items (.tuple ds)) QL ↔ QL ds := ev_some
theorem ev_tupL {ds : List PyData} : Ev (dTup [.list ds]) Q ↔ Q (.tuple ds) := ev_some
theorem ev_tupT {ds : List PyData} : Ev (dTup [.tuple ds]) Q ↔ Q (.tuple ds) := ev_some
theorem ev_listL {ds : List PyData} {QL : List PyData → Prop} : Ev (dListO [.list ds]) QL ↔ QL ds := ev_some
theorem ev_listT {ds : List PyData} {QL : List PyData → Prop} : Ev (dListO [.tuple ds]) QL ↔ QL ds := ev_some
theorem ev_max {Q : PyData → Prop} : Ev (dMax2 [.int i, .int j]) Q ↔ Q (.int (if j > i then j else i)) := ev_some
theorem ev_min {Q : PyData → Prop} : Ev (dMin2 [.int i, .int j]) Q ↔ Q (.int (if j < i then j else i)) := ev_some
theorem ev_divmod : Ev (dDivmod [.int i, .int j]) Q ↔ (0 < j ∧ j < 1073741824) ∧ Q (.tuple [.int (i / j), .int (i % j)]) := by
  show Ev (if _ then _ else _) _ ↔ _
  rw [ev_guard, ev_some]
theorem ev_allB {ds : List PyData} {bs : List Bool} (h : ds = bs.map .bool) : Ev (dAllB [.list ds]) Q ↔ Q (.bool (bs.all id)) := by
  subst h
  have e : ∀ bs : List Bool, boolsD (bs.map .bool) = some bs := fun bs => by
    induction bs with
    | nil => rfl
    | cons b bs ih =>
      rw [List.map_cons]
      unfold boolsD
      rw [ih] <;> rfl
  show Ev ((boolsD _).map _) Q ↔ _
  rw [e]
  exact ev_some
theorem ev_anyB {ds : List PyData} {bs : List Bool} (h : ds = bs.map .bool) : Ev (dAnyB [.list ds]) Q ↔ Q (.bool (bs.any id)) := by
  subst h
  have e : ∀ bs : List Bool, boolsD (bs.map .bool) = some bs := fun bs => by
    induction bs with
    | nil => rfl
    | cons b bs ih =>
      rw [List.map_cons]
      unfold boolsD
      rw [ih] <;> rfl
  show Ev ((boolsD _).map _) Q ↔ _
  rw [e]
  exact ev_some
theorem ev_sumI {ds : List PyData} {ns : List Int} (h : ds = ns.map .int) : Ev (dSum [.list ds]) Q ↔ Q (.int ns.sum) := by
  subst h
  have e : ∀ bs : List Int, intsD (bs.map .int) = some bs := fun bs => by
    induction bs with
    | nil => rfl
    | cons b bs ih =>
      rw [List.map_cons]
      unfold intsD
      rw [ih] <;> rfl
  show Ev ((intsD _).map _) Q ↔ _
  rw [e]
  exact ev_some
theorem ev_repr {d : PyData} : Ev (dRepr [d]) Q ↔ reprOk d = true ∧ Q (.str d.shown) := by
  show Ev (if _ then _ else _) _ ↔ _
  rw [ev_guard, ev_some]
theorem ev_sorted {ds : List PyData} {QL : List PyData → Prop} : Ev (dSortO [.list ds]) QL ↔ sortB ds = true ∧ QL (sortD ds) := by
  show Ev (if _ then _ else _) _ ↔ _
  rw [ev_guard, ev_some]
end
end Dv

/-! fractions as pairs, their sizes -/
namespace Dv
open PySem L2
def fr (q : Rat) : PyData := .tuple [.int q.num, .int q.den]
/-- both parts below 2 ^ n -/
def Sz (n : Nat) (q : Rat) : Prop := q.num.natAbs < 2 ^ n ∧ q.den < 2 ^ n
theorem Sz.mono {n m : Nat} {q : Rat} (h : Sz n q) (l : n ≤ m) : Sz m q := ⟨Nat.lt_of_lt_of_le h.1 (Nat.pow_le_pow_right (by decide) l), Nat.lt_of_lt_of_le h.2 (Nat.pow_le_pow_right (by decide) l)⟩
theorem fr_inj {p q : Rat} (h : fr p = fr q) : p = q := by
  unfold fr at h
  simp only [PyData.tuple.injEq, List.cons.injEq, PyData.int.injEq, and_true] at h
  exact Rat.ext h.1 (by omega)
theorem mkRat_sz {N : Int} {D n : Nat} (hD : D ≠ 0) (h1 : N.natAbs < 2 ^ n) (h2 : D < 2 ^ n) : Sz n (mkRat N D) := by
  constructor
  · rw [Rat.num_mkRat, if_neg hD]
    refine Nat.lt_of_le_of_lt ?_ h1
    rw [Int.natAbs_ediv_of_dvd ?_]
    · exact Nat.div_le_self _ _
    · exact Int.ofNat_dvd_left.mpr (Nat.gcd_dvd_right _ _)
  · rw [Rat.den_mkRat, if_neg hD]
    exact Nat.lt_of_le_of_lt (Nat.div_le_self _ _) h2
theorem lt_pow_add {a b n m : Nat} (ha : a < 2 ^ n) (hb : b < 2 ^ m) : a * b < 2 ^ (n + m) := by
  rw [Nat.pow_add]
  by_cases h : b = 0
  · subst h
    rw [Nat.mul_zero]
    exact Nat.mul_pos (Nat.pow_pos (by decide)) (Nat.pow_pos (by decide))
  · exact Nat.lt_of_le_of_lt (Nat.mul_le_mul_left a (Nat.le_of_lt hb)) (Nat.mul_lt_mul_of_pos_right ha (Nat.pow_pos (by decide)))
theorem sz_add {n m : Nat} {p q : Rat} (hp : Sz n p) (hq : Sz m q) : Sz (n + m + 1) (p + q) := by
  rw [Rat.add_def']
  have h1 := lt_pow_add hp.1 hq.2
  have h2 := lt_pow_add hq.1 hp.2
  have h3 := lt_pow_add hp.2 hq.2
  rw [Nat.add_comm m n] at h2
  refine mkRat_sz (Nat.mul_ne_zero p.den_nz q.den_nz) ?_ ?_
  · have a := Int.natAbs_add_le (p.num * q.den) (q.num * p.den)
    rw [Int.natAbs_mul, Int.natAbs_mul, Int.natAbs_natCast, Int.natAbs_natCast] at a
    rw [Nat.pow_succ]
    omega
  · rw [Nat.pow_succ]
    omega
theorem sz_sub {n m : Nat} {p q : Rat} (hp : Sz n p) (hq : Sz m q) : Sz (n + m + 1) (p - q) := by
  rw [Rat.sub_def']
  have h1 := lt_pow_add hp.1 hq.2
  have h2 := lt_pow_add hq.1 hp.2
  have h3 := lt_pow_add hp.2 hq.2
  rw [Nat.add_comm m n] at h2
  refine mkRat_sz (Nat.mul_ne_zero p.den_nz q.den_nz) ?_ ?_
  · have a := Int.natAbs_sub_le (p.num * q.den) (q.num * p.den)
    rw [Int.natAbs_mul, Int.natAbs_mul, Int.natAbs_natCast, Int.natAbs_natCast] at a
    rw [Nat.pow_succ]
    omega
  · rw [Nat.pow_succ]
    omega
theorem sz_mul {n m : Nat} {p q : Rat} (hp : Sz n p) (hq : Sz m q) : Sz (n + m) (p * q) := by
  rw [Rat.mul_def']
  refine mkRat_sz (Nat.mul_ne_zero p.den_nz q.den_nz) ?_ (lt_pow_add hp.2 hq.2)
  rw [Int.natAbs_mul]
  exact lt_pow_add hp.1 hq.1
theorem sz_zero : Sz 1 0 := ⟨by decide, by decide⟩
theorem sz_one : Sz 1 1 := ⟨by decide, by decide⟩
/-- the sum of several -/
def sumQ : List Rat → Rat
  | [] => 0
  | q :: qs => q + sumQ qs
theorem sum_fold (a : Rat) : ∀ qs : List Rat, qs.foldl (· + ·) a = a + sumQ qs
  | [] => (Rat.add_zero a).symm
  | q :: qs => by rw [List.foldl_cons, sum_fold (a + q) qs, sumQ, Rat.add_assoc]
theorem sumQ_append : ∀ ps qs : List Rat, sumQ (ps ++ qs) = sumQ ps + sumQ qs
  | [], qs => by rw [List.nil_append, sumQ, Rat.zero_add]
  | p :: ps, qs => by rw [List.cons_append, sumQ, sumQ, sumQ_append ps qs, Rat.add_assoc]
theorem sz_sum {n : Nat} : ∀ {qs : List Rat}, (∀ q ∈ qs, Sz n q) → Sz ((n + 1) * qs.length + 1) (sumQ qs)
  | [], _ => sz_zero
  | q :: qs, h => by
    have h1 := sz_add (h q List.mem_cons_self) (sz_sum fun p hp => h p (List.mem_cons_of_mem _ hp))
    refine h1.mono ?_
    rw [List.length_cons, Nat.mul_succ]
    omega
theorem log2_lt {a n : Nat} (h : a < 2 ^ n) (hn : 0 < n) : a.log2 < n := by
  by_cases z : a = 0
  · subst z
    simpa using hn
  · exact (Nat.log2_lt z).mpr h
theorem mulOk_of {i j : Int} {n m : Nat} (hi : i.natAbs < 2 ^ n) (hj : j.natAbs < 2 ^ m) (h : n + m < 999998) : mulOk i j = true := by
  unfold mulOk
  have h1 := log2_lt (Nat.lt_of_lt_of_le hi (Nat.pow_le_pow_right (by decide) (Nat.le_succ n))) (Nat.succ_pos n)
  have h2 := log2_lt (Nat.lt_of_lt_of_le hj (Nat.pow_le_pow_right (by decide) (Nat.le_succ m))) (Nat.succ_pos m)
  exact decide_eq_true (by omega)
/-- what Euclid's steps give -/
theorem gcd_step {a b : Int} (ha : 0 ≤ a) (hb : 0 < b) : Int.gcd b (a % b) = Int.gcd a b := by
  have h := Int.gcd_add_mul_left_right b (a % b) (a / b)
  rw [show a % b + b * (a / b) = a by have := Int.mul_ediv_add_emod a b; omega] at h
  rw [Int.gcd_comm a b, h]
theorem divInt_pair {t b : Int} (hb : b ≠ 0) : fr (Rat.divInt t b) = .tuple [.int (b.sign * t / (Int.gcd t b : Nat)), .int ((b.natAbs : Int) / (Int.gcd t b : Nat))] := by
  unfold fr
  rw [Rat.num_divInt, Rat.den_divInt, if_neg hb, Int.gcd_comm t b, Int.natCast_ediv]
theorem gcd_le {t b : Int} (hb : b ≠ 0) : Int.gcd t b ≤ b.natAbs := Nat.le_of_dvd (by omega) (Nat.gcd_dvd_right _ _)
theorem gcd_pos {t b : Int} (hb : b ≠ 0) : 0 < Int.gcd t b := Int.gcd_pos_of_ne_zero_right _ hb
/-- may be divided by -/
theorem gcd_div {t b : Int} {n : Nat} (hb : b ≠ 0) (h : b.natAbs < 2 ^ n) (hn : n < 9000) : 0 < ((Int.gcd t b : Nat) : Int) ∧ ((Int.gcd t b : Nat) : Int).natAbs.log2 < 9000 := by
  have h1 := gcd_pos (t := t) hb
  have h2 := gcd_le (t := t) hb
  refine ⟨by omega, ?_⟩
  rw [Int.natAbs_natCast]
  have := log2_lt (Nat.lt_of_lt_of_le (Nat.lt_of_le_of_lt h2 h) (Nat.pow_le_pow_right (by decide) (Nat.le_succ n))) (Nat.succ_pos n)
  omega
theorem add_divInt (p q : Rat) : Rat.divInt (p.num * q.den + q.num * p.den) ((p.den : Int) * q.den) = p + q := by
  rw [Rat.add_def', ← Int.natCast_mul, Rat.divInt_ofNat]
theorem sub_divInt (p q : Rat) : Rat.divInt (p.num * q.den - q.num * p.den) ((p.den : Int) * q.den) = p - q := by
  rw [Rat.sub_def', ← Int.natCast_mul, Rat.divInt_ofNat]
theorem mul_divInt (p q : Rat) : Rat.divInt (p.num * q.num) ((p.den : Int) * q.den) = p * q := by
  rw [Rat.mul_def', ← Int.natCast_mul, Rat.divInt_ofNat]
theorem den_ne (p q : Rat) : (p.den : Int) * q.den ≠ 0 := by
  rw [← Int.natCast_mul]
  have := Nat.mul_ne_zero p.den_nz q.den_nz
  omega
theorem den_abs {n m : Nat} {p q : Rat} (hp : Sz n p) (hq : Sz m q) : ((p.den : Int) * q.den).natAbs < 2 ^ (n + m) := by
  rw [Int.natAbs_mul, Int.natAbs_natCast, Int.natAbs_natCast]
  exact lt_pow_add hp.2 hq.2
end Dv

/-! data of bounded size; when == is equality -/
namespace Dv
open PySem L2
def okD : Nat → PyData → Bool
  | _, .none => true
  | _, .bool _ => true
  | _, .int i => decide (i.natAbs < 1606938044258990275541962092341162602522202993782792835301376)
  | _, .str x => PyData.strOk x
  | n + 1, .list xs => decide (xs.length ≤ 1000) && xs.all (okD n)
  | n + 1, .tuple xs => decide (xs.length ≤ 1000) && xs.all (okD n)
  | _, _ => false
theorem canLayAll_of : ∀ {xs : List PyData}, (∀ x ∈ xs, x.canLay0 = true) → PyData.canLayAll0 xs = true
  | [], _ => rfl
  | x :: xs, h => by
    unfold PyData.canLayAll0
    rw [h x List.mem_cons_self, canLayAll_of fun y hy => h y (List.mem_cons_of_mem _ hy)] <;> rfl
theorem depthAll_of {n : Nat} : ∀ {xs : List PyData}, (∀ x ∈ xs, x.depth ≤ n) → PyData.depthAll xs ≤ n
  | [], _ => Nat.zero_le n
  | x :: xs, h => by
    unfold PyData.depthAll
    have h1 := h x List.mem_cons_self
    have h2 := depthAll_of (n := n) fun y hy => h y (List.mem_cons_of_mem _ hy)
    omega
theorem ok_lay : ∀ {n : Nat} {d : PyData}, okD n d = true → d.canLay0 = true ∧ d.depth ≤ n
  | n, .none, _ => ⟨rfl, Nat.zero_le n⟩
  | n, .bool _, _ => ⟨rfl, Nat.zero_le n⟩
  | n, .int _, _ => ⟨rfl, Nat.zero_le n⟩
  | n, .str x, h => ⟨by cases n <;> exact h, Nat.zero_le n⟩
  | n, .dict _, h => by cases n <;> cases h
  | 0, .list xs, h => by cases h
  | 0, .tuple xs, h => by cases h
  | n + 1, .list xs, h => by
    unfold okD at h
    simp only [Bool.and_eq_true, List.all_eq_true] at h
    refine ⟨canLayAll_of fun x hx => (ok_lay (h.2 x hx)).1, ?_⟩
    have := depthAll_of (n := n) fun x hx => (ok_lay (h.2 x hx)).2
    show PyData.depthAll xs + 1 ≤ n + 1
    omega
  | n + 1, .tuple xs, h => by
    unfold okD at h
    simp only [Bool.and_eq_true, List.all_eq_true] at h
    refine ⟨canLayAll_of fun x hx => (ok_lay (h.2 x hx)).1, ?_⟩
    have := depthAll_of (n := n) fun x hx => (ok_lay (h.2 x hx)).2
    show PyData.depthAll xs + 1 ≤ n + 1
    omega
theorem ok_shaped {n : Nat} {d : PyData} (h : okD n d = true) (hn : n ≤ 64 := by decide) : SeqAt.shaped d = true := by
  obtain ⟨h1, h2⟩ := ok_lay h
  unfold SeqAt.shaped
  rw [h1, Bool.true_and]
  exact decide_eq_true (by omega)
theorem ok_tyOk {n : Nat} {d : PyData} (h : okD n d = true) : tyOk d = true := by
  cases d with
  | dict _ => cases n <;> cases h
  | _ => rfl
theorem ok_list {n : Nat} {xs : List PyData} (h : okD (n + 1) (.list xs) = true) : xs.length ≤ 1000 ∧ ∀ x ∈ xs, okD n x = true := by
  unfold okD at h
  simpa only [Bool.and_eq_true, List.all_eq_true, decide_eq_true_eq] using h
theorem ok_tuple {n : Nat} {xs : List PyData} (h : okD (n + 1) (.tuple xs) = true) : xs.length ≤ 1000 ∧ ∀ x ∈ xs, okD n x = true := by
  unfold okD at h
  simpa only [Bool.and_eq_true, List.all_eq_true, decide_eq_true_eq] using h
theorem list_ok {n : Nat} {xs : List PyData} (h1 : xs.length ≤ 1000) (h2 : ∀ x ∈ xs, okD n x = true) : okD (n + 1) (.list xs) = true := by
  unfold okD
  simpa only [Bool.and_eq_true, List.all_eq_true, decide_eq_true_eq] using ⟨h1, h2⟩
theorem tuple_ok {n : Nat} {xs : List PyData} (h1 : xs.length ≤ 1000) (h2 : ∀ x ∈ xs, okD n x = true) : okD (n + 1) (.tuple xs) = true := by
  unfold okD
  simpa only [Bool.and_eq_true, List.all_eq_true, decide_eq_true_eq] using ⟨h1, h2⟩
theorem ok_mono : ∀ {n m : Nat} {d : PyData}, okD n d = true → n ≤ m → okD m d = true
  | n, m, .none, _, _ => by cases m <;> rfl
  | n, m, .bool _, _, _ => by cases m <;> rfl
  | n, m, .int _, h, _ => by cases n <;> cases m <;> exact h
  | n, m, .str _, h, _ => by cases n <;> cases m <;> exact h
  | n, m, .dict _, h, _ => by cases n <;> cases h
  | 0, m, .list xs, h, _ => by cases h
  | 0, m, .tuple xs, h, _ => by cases h
  | n + 1, 0, .list xs, h, l => by omega
  | n + 1, 0, .tuple xs, h, l => by omega
  | n + 1, m + 1, .list xs, h, l => list_ok (ok_list h).1 fun x hx => ok_mono ((ok_list h).2 x hx) (by omega)
  | n + 1, m + 1, .tuple xs, h, l => tuple_ok (ok_tuple h).1 fun x hx => ok_mono ((ok_tuple h).2 x hx) (by omega)
theorem ok_fr {q : Rat} {n : Nat} (h : Sz 200 q) : okD (n + 1) (fr q) = true := by
  refine tuple_ok (by simp) fun x hx => ?_
  have h1 := h.1
  have h2 := h.2
  have e : (2 : Nat) ^ 200 = 1606938044258990275541962092341162602522202993782792835301376 := by decide
  rw [e] at h1 h2
  rcases List.mem_cons.mp hx with z | z
  · rw [z]
    cases n <;> exact decide_eq_true h1
  · rcases List.mem_cons.mp z with z | z
    · rw [z]
      cases n <;> exact decide_eq_true (by rw [Int.natAbs_natCast]; exact h2)
    · cases z
theorem ok_int {i : Int} {n : Nat} (h : i.natAbs < 1606938044258990275541962092341162602522202993782792835301376) : okD n (.int i) = true := by cases n <;> exact decide_eq_true h

/-! ### == -/
mutual
/-- without bools, dicts -/
def nb : PyData → Bool
  | .bool _ => false
  | .dict _ => false
  | .list xs => nbs xs
  | .tuple xs => nbs xs
  | _ => true
def nbs : List PyData → Bool
  | [] => true
  | x :: xs => nb x && nbs xs
end
mutual
theorem eqv_nb : ∀ (d e : PyData), nb d = true → nb e = true → (PyData.eqv d e = true ↔ d = e)
  | .none, e, _, h => by cases e <;> simp_all [PyData.eqv, nb]
  | .bool _, _, h, _ => by simp [nb] at h
  | .dict _, _, h, _ => by simp [nb] at h
  | .int i, e, _, h => by cases e <;> simp_all [PyData.eqv, nb]
  | .str x, e, _, h => by cases e <;> simp_all [PyData.eqv, nb]
  | .list xs, e, h, h' => by
    cases e with
    | list ys =>
      have := eqvs_nb xs ys (by simpa [nb] using h) (by simpa [nb] using h')
      simpa [PyData.eqv] using this
    | _ => simp [PyData.eqv]
  | .tuple xs, e, h, h' => by
    cases e with
    | tuple ys =>
      have := eqvs_nb xs ys (by simpa [nb] using h) (by simpa [nb] using h')
      simpa [PyData.eqv] using this
    | _ => simp [PyData.eqv]
theorem eqvs_nb : ∀ (xs ys : List PyData), nbs xs = true → nbs ys = true → (PyData.eqvAll xs ys = true ↔ xs = ys)
  | [], ys, _, _ => by cases ys <;> simp [PyData.eqvAll]
  | x :: xs, ys, h, h' => by
    cases ys with
    | nil => simp [PyData.eqvAll]
    | cons y ys =>
      simp only [nbs, Bool.and_eq_true] at h h'
      have h1 := eqv_nb x y h.1 h'.1
      have h2 := eqvs_nb xs ys h.2 h'.2
      simp [PyData.eqvAll, h1, h2]
end
theorem nbs_of : ∀ {xs : List PyData}, (∀ x ∈ xs, nb x = true) → nbs xs = true
  | [], _ => rfl
  | x :: xs, h => by
    unfold nbs
    rw [h x List.mem_cons_self, nbs_of fun y hy => h y (List.mem_cons_of_mem _ hy)] <;> rfl
theorem nb_fr (q : Rat) : nb (fr q) = true := rfl
theorem eqv_self {d : PyData} (h : nb d = true) : PyData.eqv d d = true := (eqv_nb d d h h).mpr rfl
theorem eqv_ne {d e : PyData} (h : nb d = true) (h' : nb e = true) (n : d ≠ e) : PyData.eqv d e = false := by
  cases q : PyData.eqv d e with
  | false => rfl
  | true => exact absurd ((eqv_nb d e h h').mp q) n
/-- a list of ints, and items that are no bools -/
theorem eqv_ints : ∀ (is : List Int) (xs : List PyData), (∀ x ∈ xs, tyD x ≠ "bool") → (PyData.eqvAll (is.map .int) xs = true ↔ xs = is.map .int)
  | [], xs, _ => by cases xs <;> simp [PyData.eqvAll]
  | i :: is, xs, h => by
    cases xs with
    | nil => simp [PyData.eqvAll]
    | cons x xs =>
      have h1 := eqv_ints is xs fun y hy => h y (List.mem_cons_of_mem _ hy)
      have h2 : PyData.eqv (.int i) x = true ↔ x = .int i := by
        have hb := h x List.mem_cons_self
        cases x <;> simp_all [PyData.eqv, tyD]
        exact eq_comm
      simp [PyData.eqvAll, h1, h2]
/-! ### comprehensions by their sources -/
theorem lc_src {S α : Type} {s : S} {env : En} {g : GF S} {e : M S PyData} (src φ : α → PyData) : ∀ {xs : List α} {QL : List PyData × S → Prop}, (∀ x ∈ xs, Ev (g (src x) s env) fun p => Ev (e p.1 p.2) fun y => y = (φ x, s)) → QL (xs.map φ, s) → Ev (lcL env g tYes e (xs.map src) s) QL
  | [], QL, _, k => ev_lc0.mpr k
  | x :: xs, QL, h, k => ev_lc1.mpr ((h x List.mem_cons_self).imp fun p hp => ev_tYes.mpr (by
      rw [if_pos rfl]
      refine hp.imp fun y hy => ?_
      subst hy
      exact lc_src src φ (QL := fun r => QL (φ x :: r.1, r.2)) (fun z hz => h z (List.mem_cons_of_mem _ hz)) k))
/-- .. with a test -/
theorem lc_fsrc {S α : Type} {s : S} {env : En} {g : GF S} {t : M S Bool} {e : M S PyData} (src φ : α → PyData) (θ : α → Bool) : ∀ {xs : List α} {QL : List PyData × S → Prop}, (∀ x ∈ xs, Ev (g (src x) s env) fun p => Ev (t p.1 p.2) fun q => q.1 = θ x ∧ q.2 = s ∧ (θ x = true → Ev (e q.2 p.2) fun y => y = (φ x, s))) →
    QL ((xs.filter θ).map φ, s) → Ev (lcL env g t e (xs.map src) s) QL
  | [], QL, _, k => ev_lc0.mpr k
  | x :: xs, QL, h, k => ev_lc1.mpr ((h x List.mem_cons_self).imp fun p hp => hp.imp fun q hq => by
      obtain ⟨h1, h2, h3⟩ := hq
      rw [h1]
      by_cases c : θ x = true
      · rw [if_pos c]
        refine (h3 c).imp fun y hy => ?_
        subst hy
        refine lc_fsrc src φ θ (QL := fun r => QL (φ x :: r.1, r.2)) (fun z hz => h z (List.mem_cons_of_mem _ hz)) ?_
        rw [List.filter_cons, if_pos c] at k
        exact k
      · rw [if_neg c, h2]
        refine lc_fsrc src φ θ (fun z hz => h z (List.mem_cons_of_mem _ hz)) ?_
        rw [List.filter_cons, if_neg c] at k
        exact k)
/-- .. told by a relation -/
theorem lc_rel {S α β : Type} {s : S} {env : En} {g : GF S} {e : M S PyData} (src : α → PyData) (out : β → PyData) (P : α → β → Prop) : ∀ {xs : List α} {QL : List PyData × S → Prop}, (∀ x ∈ xs, ∃ y, P x y ∧ Ev (g (src x) s env) fun p => Ev (e p.1 p.2) fun z => z = (out y, s)) →
    (∀ ys, Each P xs ys → QL (ys.map out, s)) → Ev (lcL env g tYes e (xs.map src) s) QL
  | [], QL, _, k => ev_lc0.mpr (k [] .nil)
  | x :: xs, QL, h, k => by
    obtain ⟨y, hy, h1⟩ := h x List.mem_cons_self
    exact ev_lc1.mpr (h1.imp fun p hp => ev_tYes.mpr (by
      rw [if_pos rfl]
      refine hp.imp fun z hz => ?_
      subst hz
      exact lc_rel src out P (QL := fun r => QL (out y :: r.1, r.2)) (fun w hw => h w (List.mem_cons_of_mem _ hw)) fun ys hys => k (y :: ys) (.cons hy hys)))
theorem rangeD_nat (n : Nat) : rangeD 0 (n : Int) = (List.range n).map fun k => .int (k : Nat) := by
  unfold rangeD
  rw [show ((n : Int) - 0).toNat = n by omega]
  exact List.map_congr_left fun k _ => by rw [Int.zero_add]
theorem zipD_map {α β : Type} (f : α → PyData) (g : β → PyData) : ∀ (as : List α) (bs : List β), zipD (as.map f) (bs.map g) = (as.zip bs).map fun p => .tuple [f p.1, g p.2]
  | [], _ => rfl
  | _ :: _, [] => rfl
  | a :: as, b :: bs => by
    have := zipD_map f g as bs
    unfold zipD at this ⊢
    rw [List.map_cons, List.map_cons, List.zipWith_cons_cons, this, List.zip_cons_cons, List.map_cons]
theorem shaped_int (i : Int) : SeqAt.shaped (.int i) = true := rfl
theorem shaped_ints (is : List Int) : SeqAt.shaped (.list (is.map .int)) = true := by
  have h1 : PyData.canLayAll0 (is.map PyData.int) = true := canLayAll_of fun x hx => by
    obtain ⟨i, _, rfl⟩ := List.mem_map.mp hx
    rfl
  have h2 : PyData.depthAll (is.map PyData.int) ≤ 0 := depthAll_of fun x hx => by
    obtain ⟨i, _, rfl⟩ := List.mem_map.mp hx
    exact Nat.le_refl _
  unfold SeqAt.shaped
  rw [Bool.and_eq_true]
  exact ⟨h1, decide_eq_true (show PyData.depthAll (is.map PyData.int) + 1 ≤ 64 by omega)⟩
theorem any_int (is : List Int) (c : Int) : ((is.map PyData.int).any fun z => PyData.eqv z (.int c)) = decide (c ∈ is) := by
  rw [Bool.eq_iff_iff, List.any_eq_true, decide_eq_true_eq]
  constructor
  · rintro ⟨z, hz, he⟩
    obtain ⟨i, hi, rfl⟩ := List.mem_map.mp hz
    have : i = c := by simpa [PyData.eqv] using he
    rw [← this]
    exact hi
  · intro h
    exact ⟨.int c, List.mem_map.mpr ⟨c, h, rfl⟩, by simp [PyData.eqv]⟩
/-! ### all, any over what a comprehension gave -/
section
variable {Q : PyData → Prop} {ds : List PyData} {p : PyData → Bool}
theorem ev_allM : Ev (dAllB [.list (ds.map fun d => .bool (p d))]) Q ↔ Q (.bool (ds.all p)) := by
  rw [ev_allB (bs := ds.map p) (by rw [List.map_map]; rfl)]
  rw [List.all_map]
  rfl
theorem ev_anyM : Ev (dAnyB [.list (ds.map fun d => .bool (p d))]) Q ↔ Q (.bool (ds.any p)) := by
  rw [ev_anyB (bs := ds.map p) (by rw [List.map_map]; rfl)]
  rw [List.any_map]
  rfl
end
end Dv

/-! what may be shown by repr -/
namespace Dv
open PySem L2
/-- laid out plainly, nested n deep at most -/
def Dpt (n : Nat) (d : PyData) : Prop := d.canLay0 = true ∧ d.depth ≤ n
theorem Dpt.shaped {n : Nat} {d : PyData} (h : Dpt n d) (hn : n ≤ 64 := by decide) : SeqAt.shaped d = true := by
  unfold SeqAt.shaped
  have h2 := h.2
  rw [h.1, Bool.true_and]
  exact decide_eq_true (by omega)
theorem dpt_list {n : Nat} {ds : List PyData} (h : ∀ d ∈ ds, Dpt n d) : Dpt (n + 1) (.list ds) := ⟨canLayAll_of fun d hd => (h d hd).1, Nat.succ_le_succ (depthAll_of fun d hd => (h d hd).2)⟩
theorem dpt_tuple {n : Nat} {ds : List PyData} (h : ∀ d ∈ ds, Dpt n d) : Dpt (n + 1) (.tuple ds) := ⟨canLayAll_of fun d hd => (h d hd).1, Nat.succ_le_succ (depthAll_of fun d hd => (h d hd).2)⟩
theorem dpt_int {n : Nat} (i : Int) : Dpt n (.int i) := ⟨rfl, Nat.zero_le n⟩
theorem dpt_bool {n : Nat} (b : Bool) : Dpt n (.bool b) := ⟨rfl, Nat.zero_le n⟩
theorem dpt_none {n : Nat} : Dpt n .none := ⟨rfl, Nat.zero_le n⟩
theorem dpt_fr {n : Nat} (q : Rat) : Dpt (n + 1) (fr q) := dpt_tuple fun d hd => by
  simp only [List.mem_cons, List.not_mem_nil, or_false] at hd
  rcases hd with rfl | rfl
  · exact dpt_int _
  · exact dpt_int _
theorem dpt_frs {n : Nat} (qs : List Rat) : Dpt (n + 2) (.list (qs.map fr)) := dpt_list fun d hd => by
  obtain ⟨q, _, rfl⟩ := List.mem_map.mp hd
  exact dpt_fr q
theorem Dpt.mono {n m : Nat} {d : PyData} (h : Dpt n d) (l : n ≤ m) : Dpt m d := ⟨h.1, Nat.le_trans h.2 l⟩
/-- shown in at most n signs -/
def Shw (n : Nat) (d : PyData) : Prop := d.showable = true ∧ d.shown.length ≤ n
theorem Shw.mono {n m : Nat} {d : PyData} (h : Shw n d) (l : n ≤ m) : Shw m d := ⟨h.1, Nat.le_trans h.2 l⟩
theorem shw_int {i : Int} {m : Nat} (h : i.natAbs < 2 ^ m) (hm : m ≤ 1919) : Shw (m + 2) (.int i) := by
  have h1 := log2_lt (Nat.lt_of_lt_of_le h (Nat.pow_le_pow_right (by decide) (Nat.le_succ m))) (Nat.succ_pos m)
  refine ⟨decide_eq_true (by omega), ?_⟩
  have := int_text_length_le (Nat.succ_pos m) h1
  rw [← ofString_length] at this
  exact this
theorem shw_bool (b : Bool) : Shw 5 (.bool b) := ⟨rfl, by cases b <;> decide⟩
theorem textFrom_le {n : Nat} : ∀ (ts : List Str) (k : Nat) (acc : Str), (∀ t ∈ ts, t.length ≤ n) → (textFrom k acc ts).length ≤ acc.length + (n + 2) * ts.length
  | [], k, acc, _ => by
    show acc.length ≤ _
    omega
  | t :: r, k, acc, h => by
    have ih := textFrom_le (n := n) r (k + 1) (acc ++ (if k > 0 then ", " else "" : String) ++ t) fun u hu => h u (List.mem_cons_of_mem _ hu)
    have ht := h t List.mem_cons_self
    have e : (acc ++ (if k > 0 then ", " else "" : String) ++ t).length = acc.length + (if k > 0 then 2 else 0) + t.length := by
      rw [strLen_append, strLen_append]
      split <;> rfl
    rw [e] at ih
    show (textFrom (k + 1) _ r).length ≤ _
    rw [List.length_cons, Nat.mul_succ]
    have e2 : (if k > 0 then 2 else 0 : Nat) ≤ 2 := by split <;> omega
    omega
theorem shownAll_eq : ∀ ds : List PyData, PyData.shownAll ds = ds.map PyData.shown
  | [] => by simp [PyData.shownAll]
  | d :: ds => by rw [PyData.shownAll, shownAll_eq ds, List.map_cons]
theorem showAll_of : ∀ {ds : List PyData}, (∀ d ∈ ds, d.showable = true) → PyData.showableAll ds = true
  | [], _ => rfl
  | d :: ds, h => by
    unfold PyData.showableAll
    rw [h d List.mem_cons_self, showAll_of fun e he => h e (List.mem_cons_of_mem _ he)] <;> rfl
theorem shw_list {n : Nat} {ds : List PyData} (h : ∀ d ∈ ds, Shw n d) : Shw ((n + 2) * ds.length + 2) (.list ds) := by
  refine ⟨showAll_of fun d hd => (h d hd).1, ?_⟩
  have h1 := textFrom_le (n := n) (ds.map PyData.shown) 0 "[" fun t ht => by
    obtain ⟨d, hd, rfl⟩ := List.mem_map.mp ht
    exact (h d hd).2
  rw [List.length_map] at h1
  show (PyData.shown (.list ds)).length ≤ _
  rw [PyData.shown, shownAll_eq]
  unfold listText
  rw [strLen_append]
  have e1 : (("[" : String) : Str).length = 1 := rfl
  have e2 : (("]" : String) : Str).length = 1 := rfl
  rw [e1] at h1
  rw [e2]
  omega
theorem piled_le {n : Nat} : ∀ {ts : List Str}, (∀ t ∈ ts, t.length ≤ n) → piled ts ≤ (n + 2) * ts.length
  | [], _ => by simp [piled]
  | t :: ts, h => by
    have h1 := h t List.mem_cons_self
    have h2 := piled_le (n := n) fun u hu => h u (List.mem_cons_of_mem _ hu)
    rw [piled_cons, List.length_cons, Nat.mul_succ]
    omega
theorem shw_tuple {n : Nat} {ds : List PyData} (h : ∀ d ∈ ds, Shw n d) : Shw ((n + 2) * ds.length + 3) (.tuple ds) := by
  refine ⟨showAll_of fun d hd => (h d hd).1, ?_⟩
  have h1 := piled_le (n := n) (ts := ds.map PyData.shown) fun t ht => by
    obtain ⟨d, hd, rfl⟩ := List.mem_map.mp ht
    exact (h d hd).2
  rw [List.length_map] at h1
  rw [PyData.shown, shownAll_eq]
  unfold tupleText
  rw [strLen_append, strLen_append]
  have e1 : ((("(" : String) : Str)).length = 1 := rfl
  have e3 : (((if (ds.map PyData.shown).length == 1 then ",)" else ")" : String) : Str)).length ≤ 2 := by split <;> decide
  have e2 : (Str.join ", " (ds.map PyData.shown)).length ≤ piled (ds.map PyData.shown) := by
    by_cases z : ds.map PyData.shown = []
    · rw [z]
      decide
    · have := join_length_add _ z
      omega
  rw [e1]
  omega
theorem shw_fr {q : Rat} {m : Nat} (h : Sz m q) (hm : m ≤ 1919) : Shw (2 * m + 11) (fr q) := by
  refine (shw_tuple (n := m + 2) fun d hd => ?_).mono ?_
  · simp only [List.mem_cons, List.not_mem_nil, or_false] at hd
    rcases hd with rfl | rfl
    · exact shw_int h.1 hm
    · exact shw_int (by rw [Int.natAbs_natCast]; exact h.2) hm
  · simp only [List.length_cons, List.length_nil]
    omega
theorem shw_frs {qs : List Rat} {m : Nat} (h : ∀ q ∈ qs, Sz m q) (hm : m ≤ 1919) : Shw ((2 * m + 13) * qs.length + 2) (.list (qs.map fr)) := by
  refine (shw_list (n := 2 * m + 11) fun d hd => ?_).mono ?_
  · obtain ⟨q, hq, rfl⟩ := List.mem_map.mp hd
    exact shw_fr (h q hq) hm
  · rw [List.length_map]
    exact Nat.le_refl _
theorem repr_side {d : PyData} {n k : Nat} (h : Dpt k d) (hk : k ≤ 64) (hs : Shw n d) (hn : n ≤ 16777216) : reprOk d = true := reprOk_of (h.shaped hk) hs.1 (Nat.le_trans hs.2 hn)
theorem ev_neB {a b : Bool} {Q : PyData → Prop} : Ev (dNe (.bool a) (.bool b)) Q ↔ Q (.bool (!(a == b))) := ev_some
theorem ev_eqB {a b : Bool} {Q : PyData → Prop} : Ev (dEq (.bool a) (.bool b)) Q ↔ Q (.bool (a == b)) := ev_some
theorem nb_frs (qs : List Rat) : nb (.list (qs.map fr)) = true := nbs_of fun d hd => by
  obtain ⟨q, _, rfl⟩ := List.mem_map.mp hd
  exact nb_fr q
theorem frs_inj : ∀ {ps qs : List Rat}, ps.map fr = qs.map fr → ps = qs
  | [], [], _ => rfl
  | [], _ :: _, h => by cases h
  | _ :: _, [], h => by cases h
  | p :: ps, q :: qs, h => by
    injection h with h1 h2
    rw [fr_inj h1, frs_inj h2]
end Dv

/-! what the later mirrors give: enumerate, zip of three, a held def, [::-1] -/
namespace Dv
open PySem L2
section
variable {S : Type} {s : S} {env : En} {Q : PyData × S → Prop} {QL : List PyData × S → Prop} {QB : Bool × S → Prop} {QS : Fl × S × En → Prop} {a b c : M S PyData} {l : M S (List PyData)} {t u v : M S Bool} {i : Nat}
theorem ev_iEn : Ev (iEn a s env) QL ↔ Ev (a s env) fun p => Ev (items p.1) fun xs => QL (enumD xs, p.2) := by simp only [iEn, ev_bind, ev_map]
theorem ev_iEz : Ev (iEz a b s env) QL ↔ Ev (a s env) fun p => Ev (b p.2 env) fun q => Ev (items p.1) fun xs => Ev (items q.1) fun ys => QL (enumD (zipD xs ys), q.2) := by simp only [iEz, iZ, ev_bind, ev_map]
theorem ev_iZ3 : Ev (iZ3 a b c s env) QL ↔ Ev (a s env) fun p => Ev (b p.2 env) fun q => Ev (c q.2 env) fun r => Ev (items p.1) fun xs => Ev (items q.1) fun ys => Ev (items r.1) fun zs => QL (zip3D xs ys zs, r.2) := by simp only [iZ3, ev_bind, ev_map]
theorem ev_eRv {o : M S (Option Int)} : Ev (eRv a o s env) Q ↔ Ev (a s env) fun p => Ev (o p.2 env) fun q => q.1 = some (-1) ∧ Ev (match p.1 with
    | .list ds => some (.list ds.reverse, q.2)
    | .tuple ds => some (.tuple ds.reverse, q.2)
    | _ => none) Q := by
  unfold eRv
  simp only [ev_bind, ev_guard]
  try exact Iff.rfl
theorem ev_eIfT : Ev (eIf t u v s env) QB ↔ Ev (t s env) fun p => if p.1 = true then Ev (u p.2 env) QB else Ev (v p.2 env) QB := by simp only [eIf, ev_bind, ev_ite]
theorem ev_eCV {fs : Str → Option (List PyData → Option PyData)} {x : Str} (h : env[i]? = some (SV.val (fnD x))) : Ev (eCV fs i l s env) Q ↔ Ev (fs x) fun F => Ev (l s env) fun p => Ev (F p.1) fun z => Q (z, p.2) := by
  unfold eCV
  rw [h]
  simp only [fnD, ev_bind, ev_map]
end
/-! ### for with an early end -/
section
variable {S : Type} {s : S} {x : SM S}
/-- behind a turn: False returned where b denies, on otherwise -/
def Bdy {S : Type} (b : Bool) (s : S) (I : En → Prop) : Fl × S × En → Prop := fun r => (b = true ∧ (r.1 = .nx ∨ r.1 = .ct) ∧ r.2.1 = s ∧ I r.2.2) ∨ (b = false ∧ r.1 = .rt (.bool false) ∧ r.2.1 = s)
theorem bdy_nx {b : Bool} {I : En → Prop} {env : En} (h : b = true) (hI : I env) : Bdy b s I (.nx, s, env) := .inl ⟨h, .inl rfl, rfl, hI⟩
theorem bdy_ct {b : Bool} {I : En → Prop} {env : En} (h : b = true) (hI : I env) : Bdy b s I (.ct, s, env) := .inl ⟨h, .inr rfl, rfl, hI⟩
theorem bdy_rt {b : Bool} {I : En → Prop} {env : En} (h : b = false) : Bdy b s I (.rt (.bool false), s, env) := .inr ⟨h, rfl, rfl⟩
/-- a for that returns False at the first item that β denies -/
theorem for_all {g : GF S} (β : PyData → Bool) (I : En → Prop) {QS : Fl × S × En → Prop} : ∀ {ds : List PyData} {env : En},
    (∀ d ∈ ds, ∀ env, I env → Ev (g d s env) fun p => Ev (x p.1 p.2) (Bdy (β d) s I)) →
    I env → (ds.all β = true → ∀ e, I e → QS (.nx, s, e)) → (ds.all β = false → ∀ e, QS (.rt (.bool false), s, e)) → Ev (forL g x ds s env) QS
  | [], env, _, hI, k1, _ => ev_for0.mpr (k1 rfl env hI)
  | d :: ds, env, h, hI, k1, k2 => ev_for1.mpr ((h d List.mem_cons_self env hI).imp fun p hp => hp.imp fun r hr => by
      obtain ⟨f, s', e⟩ := r
      rcases hr with ⟨h1, h2, h3, h4⟩ | ⟨h1, h2, h3⟩
      · have h3' : s' = s := h3
        have go : Ev (forL g x ds s e) QS := for_all β I (fun d hd => h d (List.mem_cons_of_mem _ hd)) h4 (fun z => k1 (by rw [List.all_cons, h1, z] <;> rfl)) fun z => k2 (by rw [List.all_cons, h1, z] <;> rfl)
        rcases h2 with h2 | h2
        · have h2' : f = .nx := h2
          rw [h2', h3']
          exact go
        · have h2' : f = .ct := h2
          rw [h2', h3']
          exact go
      · have h3' : s' = s := h3
        have h2' : f = .rt (.bool false) := h2
        rw [h2', h3']
        exact k2 (by rw [List.all_cons, h1] <;> rfl) e)
/-- .. over what stands for some xs -/
theorem for_alls {α : Type} {g : GF S} (src : α → PyData) (β : α → Bool) (I : En → Prop) {QS : Fl × S × En → Prop} : ∀ {xs : List α} {env : En},
    (∀ d ∈ xs, ∀ env, I env → Ev (g (src d) s env) fun p => Ev (x p.1 p.2) (Bdy (β d) s I)) →
    I env → (xs.all β = true → ∀ e, I e → QS (.nx, s, e)) → (xs.all β = false → ∀ e, QS (.rt (.bool false), s, e)) → Ev (forL g x (xs.map src) s env) QS
  | [], env, _, hI, k1, _ => ev_for0.mpr (k1 rfl env hI)
  | d :: ds, env, h, hI, k1, k2 => ev_for1.mpr ((h d List.mem_cons_self env hI).imp fun p hp => hp.imp fun r hr => by
      obtain ⟨f, s', e⟩ := r
      rcases hr with ⟨h1, h2, h3, h4⟩ | ⟨h1, h2, h3⟩
      · have h3' : s' = s := h3
        have go : Ev (forL g x (ds.map src) s e) QS := for_alls src β I (fun d hd => h d (List.mem_cons_of_mem _ hd)) h4 (fun z => k1 (by rw [List.all_cons, h1, z] <;> rfl)) fun z => k2 (by rw [List.all_cons, h1, z] <;> rfl)
        rcases h2 with h2 | h2
        · have h2' : f = .nx := h2
          rw [h2', h3']
          exact go
        · have h2' : f = .ct := h2
          rw [h2', h3']
          exact go
      · have h3' : s' = s := h3
        have h2' : f = .rt (.bool false) := h2
        rw [h2', h3']
        exact k2 (by rw [List.all_cons, h1] <;> rfl) e)
end
/-- a comprehension that gives bools, then all of it -/
theorem all_bools {ds : List PyData} {β : PyData → Bool} {Q : PyData → Prop} : Ev (dAllB [.list (ds.map fun d => .bool (β d))]) Q ↔ Q (.bool (ds.all β)) := by
  rw [ev_allB (bs := ds.map β) (by rw [List.map_map]; rfl), List.all_map]
  rfl
theorem all_boolsS {α : Type} {xs : List α} {β : α → Bool} {Q : PyData → Prop} : Ev (dAllB [.list (xs.map fun d => .bool (β d))]) Q ↔ Q (.bool (xs.all β)) := by
  rw [ev_allB (bs := xs.map β) (by rw [List.map_map]; rfl), List.all_map]
  rfl
theorem any_boolsS {α : Type} {xs : List α} {β : α → Bool} {Q : PyData → Prop} : Ev (dAnyB [.list (xs.map fun d => .bool (β d))]) Q ↔ Q (.bool (xs.any β)) := by
  rw [ev_anyB (bs := xs.map β) (by rw [List.map_map]; rfl), List.any_map]
  rfl
theorem lc_mapS {S : Type} {s : S} {env : En} {g : GF S} {e : M S PyData} {QL : List PyData × S → Prop} (φ : PyData → PyData) {ds : List PyData} (h : ∀ d ∈ ds, Ev (g d s env) fun p => Ev (e p.1 p.2) fun y => y = (φ d, s)) (k : QL (ds.map φ, s)) : Ev (lcL env g tYes e ds s) QL := by
  have := lc_src (s := s) (env := env) (g := g) (e := e) (QL := QL) (fun d => d) φ (xs := ds) h k
  rwa [List.map_id'] at this
/-! ### loops by their sources, by place -/
section
variable {S : Type} {x : SM S} {QS : Fl × S × En → Prop}
theorem for_idx {α : Type} {g : GF S} (src : α → PyData) (xs : List α) (I : Nat → S → En → Prop) (turn : ∀ (j : Nat) (h : j < xs.length) (s : S) (env : En), I j s env → Ev (g (src xs[j]) s env) fun p => Ev (x p.1 p.2) (Trn (fun s env => I (j + 1) s env) QS))
    (fin : ∀ s env, I xs.length s env → QS (.nx, s, env)) {s : S} {env : En} (h0 : I 0 s env) : Ev (forL g x (xs.map src) s env) QS := by
  refine for_inv (fun ds s env => ∃ j, j ≤ xs.length ∧ ds = (xs.drop j).map src ∧ I j s env) ?_ ?_ ⟨0, Nat.zero_le _, rfl, h0⟩
  · rintro d ds s env ⟨j, hj, e, hI⟩
    by_cases h : j < xs.length
    · rw [List.drop_eq_getElem_cons h, List.map_cons] at e
      injection e with e1 e2
      subst e1
      refine (turn j h s env hI).imp fun p hp => hp.imp fun q hq => ?_
      obtain ⟨f, s', env'⟩ := q
      cases f with
      | nx => exact ⟨j + 1, h, e2, hq⟩
      | ct => exact ⟨j + 1, h, e2, hq⟩
      | bk => exact hq
      | rt d => exact hq
    · rw [List.drop_eq_nil_of_le (by omega)] at e
      cases e
  · rintro s env ⟨j, hj, e, hI⟩
    have : xs.drop j = [] := by
      cases q : xs.drop j with
      | nil => rfl
      | cons y ys =>
        rw [q] at e
        cases e
    have hl := List.drop_eq_nil_iff.mp this
    have : j = xs.length := by omega
    subst this
    exact fin s env hI
theorem for_range {g : GF S} (n : Nat) (I : Nat → S → En → Prop) (turn : ∀ (j : Nat), j < n → ∀ (s : S) (env : En), I j s env → Ev (g (.int (j : Nat)) s env) fun p => Ev (x p.1 p.2) (Trn (fun s env => I (j + 1) s env) QS))
    (fin : ∀ s env, I n s env → QS (.nx, s, env)) {s : S} {env : En} (h0 : I 0 s env) : Ev (forL g x (rangeD 0 (n : Int)) s env) QS := by
  rw [rangeD_nat]
  refine for_idx (fun k : Nat => .int (k : Nat)) (List.range n) I (fun j h s env hI => ?_) (fun s env hI => fin s env (by rwa [List.length_range] at hI)) h0
  rw [List.getElem_range]
  exact turn j (by rwa [List.length_range] at h) s env hI
end
/-! ### enumerate -/
def enI {α : Type} (xs : List α) : List (Nat × α) := xs.mapIdx fun i x => (i, x)
theorem enumD_map {α : Type} (f : α → PyData) (xs : List α) : enumD (xs.map f) = (enI xs).map fun p => .tuple [.int (p.1 : Nat), f p.2] := by
  refine List.ext_getElem? fun i => ?_
  unfold enumD enI
  rw [List.getElem?_mapIdx, List.getElem?_map, List.getElem?_map, List.getElem?_mapIdx]
  cases xs[i]? <;> rfl
theorem enI_len {α : Type} (xs : List α) : (enI xs).length = xs.length := List.length_mapIdx
theorem enI_get {α : Type} {xs : List α} {j : Nat} (h : j < (enI xs).length) : (enI xs)[j] = (j, xs[j]'(by rwa [enI_len] at h)) := by
  have h' : j < xs.length := by rwa [enI_len] at h
  have e : (enI xs)[j]? = some (j, xs[j]) := by
    unfold enI
    rw [List.getElem?_mapIdx, List.getElem?_eq_getElem h']
    rfl
  rw [List.getElem?_eq_getElem h] at e
  exact Option.some.inj e
theorem mem_enI {α : Type} {xs : List α} {p : Nat × α} : p ∈ enI xs ↔ ∃ h : p.1 < xs.length, xs[p.1] = p.2 := by
  rw [List.mem_iff_getElem]
  constructor
  · rintro ⟨j, h, e⟩
    rw [enI_get h] at e
    subst e
    exact ⟨by rwa [enI_len] at h, rfl⟩
  · rintro ⟨h, e⟩
    refine ⟨p.1, by rwa [enI_len], ?_⟩
    rw [enI_get]
    exact Prod.ext rfl e
/-! ### operations -/
section
variable {Q : PyData → Prop} {d : PyData} {i : Int}
theorem ev_mulT {xs : List PyData} : Ev (dMul (.tuple xs) (.int i)) Q ↔ (xs ≠ [] ∧ 1 ≤ i ∧ i ≤ 1000 ∧ xs.length ≤ 1000) ∧ Q (.tuple (List.replicate i.toNat xs).flatten) := by
  show Ev (if _ then _ else _) _ ↔ _
  rw [ev_guard, ev_some]
theorem ev_mulS {x : Str} : Ev (dMul (.str x) (.int i)) Q ↔ (x.length ≠ 0 ∧ 1 ≤ i ∧ i ≤ 1000 ∧ x.length ≤ 1000) ∧ Q (.str (repS i.toNat x)) := by
  show Ev (if _ then _ else _) _ ↔ _
  rw [ev_guard, ev_some]
theorem ev_isN : Ev (dIs d .none) Q ↔ Q (.bool (isNone d)) := by
  cases d <;> exact ev_some
theorem ev_isnN : Ev (dIsn d .none) Q ↔ Q (.bool (!isNone d)) := by
  cases d <;> exact ev_some
end
end Dv

/-! what Dv17's and Dv24's mirrors give -/
namespace Dv
open PySem L2
section
variable {S : Type} {s : S} {env : En} {Q : PyData × S → Prop} {QL : List PyData → Prop} {QS : Fl × S × En → Prop} {a b c : M S PyData} {l : M S (List PyData)} {i : Nat} {w : SM S}
theorem ev_repO {xs : List PyData} {k : Int} : Ev (dRep (.list xs) (.int k)) QL ↔ (xs.length * k.toNat ≤ 1000000 ∧ k ≤ 1000000 ∧ -1000000 ≤ k) ∧ QL (List.replicate k.toNat xs).flatten := by
  simp only [dRep, ev_guard, ev_some]
theorem ev_sExtE : Ev (sExt i l s env) QS ↔ ∃ es, env[i]? = some (SV.own es) ∧ Ev (l s env) fun p => es.length + p.1.length ≤ 1000000 ∧ QS (.nx, p.2, env.set i (.own (es ++ p.1))) := by
  constructor
  · intro h
    unfold sExt at h
    split at h
    · rename_i es e
      refine ⟨es, e, ?_⟩
      simp only [ev_bind, ev_guard, ev_some] at h
      exact h
    · exact (ev_none.mp h).elim
  · intro ⟨es, e, h⟩
    unfold sExt
    rw [e]
    simp only [ev_bind, ev_guard, ev_some]
    exact h
theorem ev_put2 {x y : PyData} {es : List PyData} {k j : Int} (h1 : a s env = some (.tuple [x, y], s)) (he : env[i]? = some (SV.own es)) (hk : b s env = some (.int k, s)) (k0 : 0 ≤ k) (k1 : k < es.length)
    (hj : c s (env.set i (.own (es.set k.toNat x))) = some (.int j, s)) (j0 : 0 ≤ j) (j1 : j < es.length) (hq : QS (.nx, s, env.set i (.own ((es.set k.toNat x).set j.toNat y)))) : Ev (sPut2 i b c a s env) QS := by
  unfold sPut2
  rw [h1]
  simp only [Option.bind_some, he, hk]
  rw [ev_bind, ev_ixN k0 k1, hj]
  simp only [Option.bind_some]
  rw [ev_map, ev_ixN j0 j1]
  exact hq
theorem ev_eTr : Ev (eTr a s env) Q ↔ Ev (a s env) fun p => ∃ j, p.1 = .int j ∧ (-1000000 ≤ j ∧ j ≤ 1000000) ∧ Q (.tuple (rangeD 0 j), p.2) := by
  unfold eTr
  rw [ev_bind]
  constructor
  · intro h
    refine h.imp fun p hp => ?_
    split at hp
    · rename_i j e
      rw [ev_guard, ev_some] at hp
      exact ⟨j, e, hp⟩
    · exact (ev_none.mp hp).elim
  · intro h
    refine h.imp fun p ⟨j, e, hp⟩ => ?_
    rw [e]
    simp only [ev_guard, ev_some]
    exact hp
theorem ev_sFzE {ds : List PyData} (h : env[i]? = some (SV.own ds)) : Ev (sFz i w s env) QS ↔ Ev (w s (env.set i (.val (.list ds)))) QS := by
  unfold sFz
  rw [h]
end
end Dv

namespace Dv
open PySem PySem.Spec PyProof.Rows L2
/-! printed by gen.py -/
section
abbrev topS (i : Nat) : Stmt := PySem.Challenge.pw_boundedchance_k85_whole_chains_led_backw.main.body.getD i (.Pass ⟨0, 0, 0, 0⟩)
def fnL : List He.DefD := [mkD "is_integer" (topS 9),
  mkD "is_within" (topS 10),
  mkD "is_list" (topS 11),
  mkD "check_number" (topS 12),
  mkD "divisor" (topS 13),
  mkD "is_fraction_of" (topS 14),
  mkD "is_short" (topS 15),
  mkD "reduced" (topS 19),
  mkD "add" (topS 20),
  mkD "multiply" (topS 21),
  mkD "is_below" (topS 22),
  mkD "lesser" (topS 23),
  mkD "greater" (topS 24),
  mkD "total" (topS 25),
  mkD "least_of" (topS 26),
  mkD "greatest_of" (topS 27),
  mkD "products_sum" (topS 28),
  mkD "is_lot_of" (topS 31),
  mkD "is_short_lot" (topS 32),
  mkD "sure_lot" (topS 33),
  mkD "mean_of" (topS 34),
  mkD "is_wish_of" (topS 37),
  mkD "check_wish" (topS 38),
  mkD "are_lots_of" (topS 43),
  mkD "is_chain_value" (topS 44),
  mkD "check_chain" (topS 45),
  mkD "check_state" (topS 46),
  mkD "check_steps" (topS 47),
  mkD "is_choice_of" (topS 48),
  mkD "check_choices" (topS 49),
  mkD "whole" (topS 50),
  mkD "back_by_one" (topS 51),
  mkD "up_by_one" (topS 52),
  mkD "back_by" (topS 53),
  mkD "first_least" (topS 54),
  mkD "choices_for" (topS 55),
  mkD "moved" (topS 56),
  mkD "led_back" (topS 57),
  mkD "led_up" (topS 58),
  mkD "told_choices" (topS 59),
  mkD "lot_behind" (topS 60),
  mkD "means_behind" (topS 61),
  mkD "_law_pot" (topS 63),
  mkD "_law_draw" (topS 64),
  mkD "_law_pick" (topS 65),
  mkD "_law_frac" (topS 66),
  mkD "_law_plus" (topS 67),
  mkD "_law_less" (topS 68),
  mkD "_law_times" (topS 69),
  mkD "_law_sum" (topS 70),
  mkD "_law_below" (topS 71),
  mkD "_law_lot" (topS 72),
  mkD "_law_chain" (topS 73),
  mkD "_law_by" (topS 74),
  mkD "_law_step" (topS 75),
  mkD "_law_led" (topS 76),
  mkD "_law_all_events" (topS 77),
  mkD "_law_chain_wish" (topS 78),
  mkD "_law_told" (topS 79),
  mkD "_law_behind" (topS 80),
  mkD "_law_choices_right" (topS 81),
  mkD "_law_right" (topS 82),
  mkD "law" (topS 83)]
def faL : List He.Fa := [.glo "is_integer", .glo "is_within", .glo "is_list", .glo "check_number", .glo "divisor", .glo "is_fraction_of", .glo "is_short", .glo "reduced", .glo "add", .glo "multiply", .glo "is_below", .glo "lesser", .glo "greater", .glo "total", .glo "least_of", .glo "greatest_of", .glo "products_sum", .glo "is_lot_of", .glo "is_short_lot", .glo "sure_lot", .glo "mean_of", .glo "is_wish_of", .glo "check_wish", .glo "are_lots_of", .glo "is_chain_value", .glo "check_chain", .glo "check_state", .glo "check_steps", .glo "is_choice_of", .glo "check_choices", .glo "whole", .glo "back_by_one", .glo "up_by_one", .glo "back_by", .glo "first_least", .glo "choices_for", .glo "moved", .glo "led_back", .glo "led_up", .glo "told_choices", .glo "lot_behind", .glo "means_behind", .glo "_law_pot", .glo "_law_draw", .glo "_law_pick", .glo "_law_frac", .glo "_law_plus", .glo "_law_less", .glo "_law_times", .glo "_law_sum", .glo "_law_below", .glo "_law_lot", .glo "_law_chain", .glo "_law_by", .glo "_law_step", .glo "_law_led", .glo "_law_all_events", .glo "_law_chain_wish", .glo "_law_told", .glo "_law_behind", .glo "_law_choices_right", .glo "_law_right", .glo "law", .free "bool", .free "isinstance", .free "int", .free "tuple", .free "list", .free "len", .free "abs", .free "zip", .free "all", .free "range", .free "max", .free "divmod", .free "sum", .free "sorted", .free "enumerate", .free "repr", .free "any", .free "min"]
def csL : List (Str × PyData) := [("MOST_DIGITS", (.int 1000000000000)), ("NOUGHT", (.tuple [(.int 0), (.int 1)])), ("ONE", (.tuple [(.int 1), (.int 1)])), ("MOST_PLACES", (.int 16)), ("MOST_WORTH", (.int 99)), ("MOST_STATES", (.int 4)), ("MOST_LOTS", (.int 3)), ("MOST_STEPS", (.int 8))]
abbrev TX := Tx faL fnL csL
abbrev fr_bool : Nat := 63
abbrev fr_isinstance : Nat := 64
abbrev fr_int : Nat := 65
abbrev fr_tuple : Nat := 66
abbrev fr_list : Nat := 67
abbrev fr_len : Nat := 68
abbrev fr_abs : Nat := 69
abbrev fr_zip : Nat := 70
abbrev fr_all : Nat := 71
abbrev fr_range : Nat := 72
abbrev fr_max : Nat := 73
abbrev fr_divmod : Nat := 74
abbrev fr_sum : Nat := 75
abbrev fr_sorted : Nat := 76
abbrev fr_enumerate : Nat := 77
abbrev fr_repr : Nat := 78
abbrev fr_any : Nat := 79
abbrev fr_min : Nat := 80
variable {K : PySem.W.Frag} {mg : Str → Option Value} {w : World} {base : Heap}
/-! is_integer -/
abbrev st_is_integer : Stmt := topS 9
theorem sc_is_integer : FnScope ["value"] ["value"] (defScope st_is_integer) := ⟨rfl, rfl, rfl, by decide +kernel, rfl, by decide +kernel, by decide +kernel⟩
theorem bd_is_integer (T : TX K mg) : Binds K (fdOf K "is_integer") ["value"] [] := (T.df 0).bindsN fun _ _ _ _ _ _ us hl => match us, hl with | [_], _ => rfl
def m_is_integer : SM Unit :=
  (sRet (eAnd (e1 (dIsi ["int"]) (eV 0)) (eNot (e1 (dIsi ["bool"]) (eV 0)))))
def f_is_integer : List PyData → Option PyData := fnP 1 m_is_integer
theorem ok_is_integer (T : TX K mg) : FnG PySem.Challenge.rw_boundedchance_k85_whole_chains_led_backw.prog w K mg base 1 (He.ga K "is_integer") (fdOf K "is_integer") ["value"] (spP K 1 f_is_integer) := fn_pure (T.df 0) sc_is_integer (by decide) fun c cdv A outer s H E hr => by
  have sc := sc_is_integer
  exact (b_one (s_ret (x_and (e_b (x_isi rfl (T.fre fr_int) PyProof.Rows.boot_int (e_b (n_v 0 (pv 0))) (fun h => pe_callB call_isi rfl (T.fre fr_isinstance) PyProof.Rows.boot_isinstance h))) (x_one (x_not (e_b (x_isi rfl (T.fre fr_bool) PyProof.Rows.boot_bool (e_b (n_v 0 (pv 0))) (fun h => pe_callB call_isi rfl (T.fre fr_isinstance) PyProof.Rows.boot_isinstance h))))))))
/-! is_within -/
abbrev st_is_within : Stmt := topS 10
theorem sc_is_within : FnScope ["value", "least", "most"] ["value", "least", "most"] (defScope st_is_within) := ⟨rfl, rfl, rfl, by decide +kernel, rfl, by decide +kernel, by decide +kernel⟩
theorem bd_is_within (T : TX K mg) : Binds K (fdOf K "is_within") ["value", "least", "most"] [] := (T.df 1).bindsN fun _ _ _ _ _ _ us hl => match us, hl with | [_, _, _], _ => rfl
def m_is_within : SM Unit :=
  (sRet (eAnd (eN f_is_integer (aAll [(eV 0)])) (eChain dLe dLe (eV 1) (eV 0) (eV 2))))
def f_is_within : List PyData → Option PyData := fnP 3 m_is_within
theorem ok_is_within (T : TX K mg) : FnG PySem.Challenge.rw_boundedchance_k85_whole_chains_led_backw.prog w K mg base 2 (He.ga K "is_within") (fdOf K "is_within") ["value", "least", "most"] (spP K 3 f_is_within) := fn_pure (T.df 1) sc_is_within (by decide) fun c cdv A outer s H E hr => by
  have sc := sc_is_within
  exact (b_one (s_ret (x_and (e_b (x_callP (f_cons (n_v 0 (pv 0)) f_nil) (fun h => pe_callG (ok_is_integer T) (hr.mono (by decide)) rfl (T.glo 0) (T.df 0).kp (bd_is_integer T) h))) (x_one (x_chain op_le op_le d2_I d2_I (e_b (n_v 1 (pv 1))) (e_b (n_v 0 (pv 0))) (e_b (n_v 2 (pv 2))) (pe_chain op_le op_le (e_b (n_v 1 (pv 1))) (e_b (n_v 0 (pv 0))) (e_b (n_v 2 (pv 2)))))))))
/-! is_list -/
abbrev st_is_list : Stmt := topS 11
theorem sc_is_list : FnScope ["value"] ["value"] (defScope st_is_list) := ⟨rfl, rfl, rfl, by decide +kernel, rfl, by decide +kernel, by decide +kernel⟩
theorem bd_is_list (T : TX K mg) : Binds K (fdOf K "is_list") ["value"] [] := (T.df 2).bindsN fun _ _ _ _ _ _ us hl => match us, hl with | [_], _ => rfl
def m_is_list : SM Unit :=
  (sRet (e1 (dIsi ["list", "tuple"]) (eV 0)))
def f_is_list : List PyData → Option PyData := fnP 1 m_is_list
theorem ok_is_list (T : TX K mg) : FnG PySem.Challenge.rw_boundedchance_k85_whole_chains_led_backw.prog w K mg base 1 (He.ga K "is_list") (fdOf K "is_list") ["value"] (spP K 1 f_is_list) := fn_pure (T.df 2) sc_is_list (by decide) fun c cdv A outer s H E hr => by
  have sc := sc_is_list
  exact (b_one (s_ret (x_isiT (e_b (n_v 0 (pv 0))) (ty_cons rfl (T.fre fr_list) PyProof.Rows.boot_list (ty_cons rfl (T.fre fr_tuple) PyProof.Rows.boot_tuple ty_nil)) (fun h => pe_callB call_isiT rfl (T.fre fr_isinstance) PyProof.Rows.boot_isinstance h))))
/-! check_number -/
abbrev st_check_number : Stmt := topS 12
theorem sc_check_number : FnScope ["value", "least", "most"] ["value", "least", "most"] (defScope st_check_number) := ⟨rfl, rfl, rfl, by decide +kernel, rfl, by decide +kernel, by decide +kernel⟩
theorem bd_check_number (T : TX K mg) : Binds K (fdOf K "check_number") ["value", "least", "most"] [] := (T.df 3).bindsN fun _ _ _ _ _ _ us hl => match us, hl with | [_, _, _], _ => rfl
def m_check_number : SM Unit :=
  (sIf (tNot (tV (eN f_is_within (aAll [(eV 0), (eV 1), (eV 2)])))) sNo sNx)
def f_check_number : List PyData → Option PyData := fnP 3 m_check_number
theorem ok_check_number (T : TX K mg) : FnG PySem.Challenge.rw_boundedchance_k85_whole_chains_led_backw.prog w K mg base 3 (He.ga K "check_number") (fdOf K "check_number") ["value", "least", "most"] (spP K 3 f_check_number) := fn_pure (T.df 3) sc_check_number (by decide) fun c cdv A outer s H E hr => by
  have sc := sc_check_number
  exact (b_one (s_if (y_not (t_val (e_b (x_callP (f_cons (n_v 0 (pv 0)) (f_cons (n_v 1 (pv 1)) (f_cons (n_v 2 (pv 2)) f_nil))) (fun h => pe_callG (ok_is_within T) (hr.mono (by decide)) rfl (T.glo 1) (T.df 1).kp (bd_is_within T) h))))) b_never b_nil))
/-! divisor -/
abbrev st_divisor : Stmt := topS 13
theorem sc_divisor : FnScope ["one", "late"] ["one", "late"] (defScope st_divisor) := ⟨rfl, rfl, rfl, by decide +kernel, rfl, by decide +kernel, by decide +kernel⟩
theorem bd_divisor (T : TX K mg) : Binds K (fdOf K "divisor") ["one", "late"] [] := (T.df 4).bindsN fun _ _ _ _ _ _ us hl => match us, hl with | [_, _], _ => rfl
def m_divisor : SM Unit :=
  (sSeq (sWhile (fuelV 1) (tV (e2 dGt (eV 1) (eC (.int 0)))) (sPar [0, 1] [(eV 1), (e2 dMod (eN dInt (aAll [(eV 0)])) (eV 1))]))
  (sRet (eV 0)))
def f_divisor : List PyData → Option PyData := fnP 2 m_divisor
theorem ok_divisor (T : TX K mg) : FnG PySem.Challenge.rw_boundedchance_k85_whole_chains_led_backw.prog w K mg base 1 (He.ga K "divisor") (fdOf K "divisor") ["one", "late"] (spP K 2 f_divisor) := fn_pure (T.df 4) sc_divisor (by decide) fun c cdv A outer s H E hr => by
  have sc := sc_divisor
  exact (b_cons (s_while (fuelV 1) PassesOwn.never (y_cmp op_gt d2_I (e_b (n_v 1 (pv 1))) (e_b k_int) (nomark _)) (b_one (s_par (i := 0) (j := 1) rfl sc.nd rfl rfl (by decide) rfl rfl (f_cons (n_v 1 (pv 1)) (f_cons (x_op op_mod d2_mod (e_b (x_callT dn_int (a_cons (e_b (n_v 0 (pv 0))) a_nil) (fun _ h => pe_callTy call_int1 rfl (T.fre fr_int) PyProof.Rows.boot_int h))) (e_b (n_v 1 (pv 1)))) f_nil)) rfl)))
  (b_one (s_ret (n_v 0 (pv 0)))))
/-! is_fraction_of -/
abbrev st_is_fraction_of : Stmt := topS 14
theorem sc_is_fraction_of : FnScope ["value"] ["value"] (defScope st_is_fraction_of) := ⟨rfl, rfl, rfl, by decide +kernel, rfl, by decide +kernel, by decide +kernel⟩
theorem bd_is_fraction_of (T : TX K mg) : Binds K (fdOf K "is_fraction_of") ["value"] [] := (T.df 5).bindsN fun _ _ _ _ _ _ us hl => match us, hl with | [_], _ => rfl
def m_is_fraction_of : SM Unit :=
  (sSeq (sIf (tOr (tNot (tV (e1 (dIsi ["tuple"]) (eV 0)))) (tOr (tV (e2 dNe (eN dLen (aAll [(eV 0)])) (eC (.int 2)))) (tOr (tNot (tV (eN f_is_integer (aAll [(e2 dIx (eV 0) (eC (.int 0)))])))) (tNot (tV (eN f_is_integer (aAll [(e2 dIx (eV 0) (eC (.int 1)))]))))))) (sRet (eC (.bool false))) sNx)
  (sRet (eAnd (e2 dGe (e2 dIx (eV 0) (eC (.int 1))) (eC (.int 1))) (e2 dEq (eN f_divisor (aAll [(eN dAbs (aAll [(e2 dIx (eV 0) (eC (.int 0)))])), (e2 dIx (eV 0) (eC (.int 1)))])) (eC (.int 1))))))
def f_is_fraction_of : List PyData → Option PyData := fnP 1 m_is_fraction_of
theorem ok_is_fraction_of (T : TX K mg) : FnG PySem.Challenge.rw_boundedchance_k85_whole_chains_led_backw.prog w K mg base 2 (He.ga K "is_fraction_of") (fdOf K "is_fraction_of") ["value"] (spP K 1 f_is_fraction_of) := fn_pure (T.df 5) sc_is_fraction_of (by decide) fun c cdv A outer s H E hr => by
  have sc := sc_is_fraction_of
  exact (b_cons (s_if (PW.pt (y_or (y_not (t_val (e_b (x_isi rfl (T.fre fr_tuple) PyProof.Rows.boot_tuple (e_b (n_v 0 (pv 0))) (fun h => pe_callB call_isi rfl (T.fre fr_isinstance) PyProof.Rows.boot_isinstance h))))) (y_or (y_cmp (op_neA hr.u64) d2_ne (e_b (x_callT dn_len (a_cons (e_b (n_v 0 (pv 0))) a_nil) (fun _ h => pe_callB cr_lenD rfl (T.fre fr_len) PySem.boot_len h))) (e_b k_int) (nomark _)) (y_or (y_not (t_val (e_b (x_callP (f_cons (x_ix ix_seq (e_b (n_v 0 (pv 0))) (e_b k_int) (fun _ _ => rfl)) f_nil) (fun h => pe_callG (ok_is_integer T) (hr.mono (by decide)) rfl (T.glo 0) (T.df 0).kp (bd_is_integer T) h))))) (y_or1 (y_not (t_val (e_b (x_callP (f_cons (x_ix ix_seq (e_b (n_v 0 (pv 0))) (e_b k_int) (fun _ _ => rfl)) f_nil) (fun h => pe_callG (ok_is_integer T) (hr.mono (by decide)) rfl (T.glo 0) (T.df 0).kp (bd_is_integer T) h)))))))))) (b_one (s_ret k_bl)) b_nil)
  (b_one (s_ret (x_and (e_b (x_cmp op_ge d2_I (e_b (x_ix ix_seq (e_b (n_v 0 (pv 0))) (e_b k_int) (fun _ _ => rfl))) (e_b k_int) (nomark _))) (x_one (x_cmp (op_eqA hr.u64) d2_eq (e_b (x_callP (f_cons (x_callT dn_abs (a_cons (e_b (x_ix ix_seq (e_b (n_v 0 (pv 0))) (e_b k_int) (fun _ _ => rfl))) a_nil) (fun _ h => pe_callB call_abs rfl (T.fre fr_abs) PyProof.Rows.boot_abs h)) (f_cons (x_ix ix_seq (e_b (n_v 0 (pv 0))) (e_b k_int) (fun _ _ => rfl)) f_nil)) (fun h => pe_callG (ok_divisor T) (hr.mono (by decide)) rfl (T.glo 4) (T.df 4).kp (bd_divisor T) h))) (e_b k_int) (nomark _)))))))
/-! is_short -/
abbrev st_is_short : Stmt := topS 15
theorem sc_is_short : FnScope ["value"] ["value"] (defScope st_is_short) := ⟨rfl, rfl, rfl, by decide +kernel, rfl, by decide +kernel, by decide +kernel⟩
theorem bd_is_short (T : TX K mg) : Binds K (fdOf K "is_short") ["value"] [] := (T.df 6).bindsN fun _ _ _ _ _ _ us hl => match us, hl with | [_], _ => rfl
def m_is_short : SM Unit :=
  (sRet (eAnd (eN f_is_fraction_of (aAll [(eV 0)])) (eAnd (e2 dLt (eN dAbs (aAll [(e2 dIx (eV 0) (eC (.int 0)))])) (eC (.int 1000000000000))) (e2 dLt (e2 dIx (eV 0) (eC (.int 1))) (eC (.int 1000000000000))))))
def f_is_short : List PyData → Option PyData := fnP 1 m_is_short
theorem ok_is_short (T : TX K mg) : FnG PySem.Challenge.rw_boundedchance_k85_whole_chains_led_backw.prog w K mg base 3 (He.ga K "is_short") (fdOf K "is_short") ["value"] (spP K 1 f_is_short) := fn_pure (T.df 6) sc_is_short (by decide) fun c cdv A outer s H E hr => by
  have sc := sc_is_short
  exact (b_one (s_ret (x_and (e_b (x_callP (f_cons (n_v 0 (pv 0)) f_nil) (fun h => pe_callG (ok_is_fraction_of T) (hr.mono (by decide)) rfl (T.glo 5) (T.df 5).kp (bd_is_fraction_of T) h))) (x_and (e_b (x_cmp op_lt d2_I (e_b (x_callT dn_abs (a_cons (e_b (x_ix ix_seq (e_b (n_v 0 (pv 0))) (e_b k_int) (fun _ _ => rfl))) a_nil) (fun _ h => pe_callB call_abs rfl (T.fre fr_abs) PyProof.Rows.boot_abs h))) (e_b (x_con T 0 rfl)) (nomark _))) (x_one (x_cmp op_lt d2_I (e_b (x_ix ix_seq (e_b (n_v 0 (pv 0))) (e_b k_int) (fun _ _ => rfl))) (e_b (x_con T 0 rfl)) (nomark _)))))))
/-! reduced -/
abbrev st_reduced : Stmt := topS 19
theorem sc_reduced : FnScope ["top", "bottom", "common"] ["top", "bottom"] (defScope st_reduced) := ⟨rfl, rfl, rfl, by decide +kernel, rfl, by decide +kernel, by decide +kernel⟩
theorem bd_reduced (T : TX K mg) : Binds K (fdOf K "reduced") ["top", "bottom"] [] := (T.df 7).bindsN fun _ _ _ _ _ _ us hl => match us, hl with | [_, _], _ => rfl
def m_reduced : SM Unit :=
  (sSeq (sIf (tV (e2 dLt (eV 1) (eC (.int 0)))) (sPar [0, 1] [(e2 dSub (eC (.int 0)) (eV 0)), (e2 dSub (eC (.int 0)) (eV 1))]) sNx)
  (sSeq (sSet 2 (eN f_divisor (aAll [(eN dAbs (aAll [(eV 0)])), (eV 1)])))
  (sRet (eTup (aAll [(e2 dDiv (eV 0) (eV 2)), (e2 dDiv (eV 1) (eV 2))])))))
def f_reduced : List PyData → Option PyData := fnP 3 m_reduced
theorem ok_reduced (T : TX K mg) : FnG PySem.Challenge.rw_boundedchance_k85_whole_chains_led_backw.prog w K mg base 2 (He.ga K "reduced") (fdOf K "reduced") ["top", "bottom"] (spP K 2 f_reduced) := fn_pure (T.df 7) sc_reduced (by decide) fun c cdv A outer s H E hr => by
  have sc := sc_reduced
  exact (b_cons (s_if (y_cmp op_lt d2_I (e_b (n_v 1 (pv 1))) (e_b k_int) (nomark _)) (b_one (s_par (i := 0) (j := 1) rfl sc.nd rfl rfl (by decide) rfl rfl (f_cons (x_op op_sub d2_sub (e_b k_int) (e_b (n_v 0 (pv 0)))) (f_cons (x_op op_sub d2_sub (e_b k_int) (e_b (n_v 1 (pv 1)))) f_nil)) rfl)) b_nil)
  (b_cons (s_set (i := 2) sc.nd rfl (Or.inl rfl) (x_callP (f_cons (x_callT dn_abs (a_cons (e_b (n_v 0 (pv 0))) a_nil) (fun _ h => pe_callB call_abs rfl (T.fre fr_abs) PyProof.Rows.boot_abs h)) (f_cons (n_v 1 (pv 1)) f_nil)) (fun h => pe_callG (ok_divisor T) (hr.mono (by decide)) rfl (T.glo 4) (T.df 4).kp (bd_divisor T) h)))
  (b_one (s_ret (x_tup (f_cons (x_op op_fdivW d2_div (e_b (n_v 0 (pv 0))) (e_b (n_v 2 (pv 2)))) (f_cons (x_op op_fdivW d2_div (e_b (n_v 1 (pv 1))) (e_b (n_v 2 (pv 2)))) f_nil)))))))
/-! add -/
abbrev st_add : Stmt := topS 20
theorem sc_add : FnScope ["one", "late"] ["one", "late"] (defScope st_add) := ⟨rfl, rfl, rfl, by decide +kernel, rfl, by decide +kernel, by decide +kernel⟩
theorem bd_add (T : TX K mg) : Binds K (fdOf K "add") ["one", "late"] [] := (T.df 8).bindsN fun _ _ _ _ _ _ us hl => match us, hl with | [_, _], _ => rfl
def m_add : SM Unit :=
  (sRet (eN f_reduced (aAll [(e2 dAdd (e2 dMul (e2 dIx (eV 0) (eC (.int 0))) (e2 dIx (eV 1) (eC (.int 1)))) (e2 dMul (e2 dIx (eV 1) (eC (.int 0))) (e2 dIx (eV 0) (eC (.int 1))))), (e2 dMul (e2 dIx (eV 0) (eC (.int 1))) (e2 dIx (eV 1) (eC (.int 1))))])))
def f_add : List PyData → Option PyData := fnP 2 m_add
theorem ok_add (T : TX K mg) : FnG PySem.Challenge.rw_boundedchance_k85_whole_chains_led_backw.prog w K mg base 3 (He.ga K "add") (fdOf K "add") ["one", "late"] (spP K 2 f_add) := fn_pure (T.df 8) sc_add (by decide) fun c cdv A outer s H E hr => by
  have sc := sc_add
  exact (b_one (s_ret (x_callP (f_cons (x_op op_addA d2_add (e_b (x_op op_mulA d2_mul (e_b (x_ix ix_seq (e_b (n_v 0 (pv 0))) (e_b k_int) (fun _ _ => rfl))) (e_b (x_ix ix_seq (e_b (n_v 1 (pv 1))) (e_b k_int) (fun _ _ => rfl))))) (e_b (x_op op_mulA d2_mul (e_b (x_ix ix_seq (e_b (n_v 1 (pv 1))) (e_b k_int) (fun _ _ => rfl))) (e_b (x_ix ix_seq (e_b (n_v 0 (pv 0))) (e_b k_int) (fun _ _ => rfl)))))) (f_cons (x_op op_mulA d2_mul (e_b (x_ix ix_seq (e_b (n_v 0 (pv 0))) (e_b k_int) (fun _ _ => rfl))) (e_b (x_ix ix_seq (e_b (n_v 1 (pv 1))) (e_b k_int) (fun _ _ => rfl)))) f_nil)) (fun h => pe_callG (ok_reduced T) (hr.mono (by decide)) rfl (T.glo 7) (T.df 7).kp (bd_reduced T) h))))
/-! multiply -/
abbrev st_multiply : Stmt := topS 21
theorem sc_multiply : FnScope ["one", "late"] ["one", "late"] (defScope st_multiply) := ⟨rfl, rfl, rfl, by decide +kernel, rfl, by decide +kernel, by decide +kernel⟩
theorem bd_multiply (T : TX K mg) : Binds K (fdOf K "multiply") ["one", "late"] [] := (T.df 9).bindsN fun _ _ _ _ _ _ us hl => match us, hl with | [_, _], _ => rfl
def m_multiply : SM Unit :=
  (sRet (eN f_reduced (aAll [(e2 dMul (e2 dIx (eV 0) (eC (.int 0))) (e2 dIx (eV 1) (eC (.int 0)))), (e2 dMul (e2 dIx (eV 0) (eC (.int 1))) (e2 dIx (eV 1) (eC (.int 1))))])))
def f_multiply : List PyData → Option PyData := fnP 2 m_multiply
theorem ok_multiply (T : TX K mg) : FnG PySem.Challenge.rw_boundedchance_k85_whole_chains_led_backw.prog w K mg base 3 (He.ga K "multiply") (fdOf K "multiply") ["one", "late"] (spP K 2 f_multiply) := fn_pure (T.df 9) sc_multiply (by decide) fun c cdv A outer s H E hr => by
  have sc := sc_multiply
  exact (b_one (s_ret (x_callP (f_cons (x_op op_mulA d2_mul (e_b (x_ix ix_seq (e_b (n_v 0 (pv 0))) (e_b k_int) (fun _ _ => rfl))) (e_b (x_ix ix_seq (e_b (n_v 1 (pv 1))) (e_b k_int) (fun _ _ => rfl)))) (f_cons (x_op op_mulA d2_mul (e_b (x_ix ix_seq (e_b (n_v 0 (pv 0))) (e_b k_int) (fun _ _ => rfl))) (e_b (x_ix ix_seq (e_b (n_v 1 (pv 1))) (e_b k_int) (fun _ _ => rfl)))) f_nil)) (fun h => pe_callG (ok_reduced T) (hr.mono (by decide)) rfl (T.glo 7) (T.df 7).kp (bd_reduced T) h))))
/-! is_below -/
abbrev st_is_below : Stmt := topS 22
theorem sc_is_below : FnScope ["one", "late"] ["one", "late"] (defScope st_is_below) := ⟨rfl, rfl, rfl, by decide +kernel, rfl, by decide +kernel, by decide +kernel⟩
theorem bd_is_below (T : TX K mg) : Binds K (fdOf K "is_below") ["one", "late"] [] := (T.df 10).bindsN fun _ _ _ _ _ _ us hl => match us, hl with | [_, _], _ => rfl
def m_is_below : SM Unit :=
  (sRet (e2 dLt (e2 dMul (e2 dIx (eV 0) (eC (.int 0))) (e2 dIx (eV 1) (eC (.int 1)))) (e2 dMul (e2 dIx (eV 1) (eC (.int 0))) (e2 dIx (eV 0) (eC (.int 1))))))
def f_is_below : List PyData → Option PyData := fnP 2 m_is_below
theorem ok_is_below (T : TX K mg) : FnG PySem.Challenge.rw_boundedchance_k85_whole_chains_led_backw.prog w K mg base 1 (He.ga K "is_below") (fdOf K "is_below") ["one", "late"] (spP K 2 f_is_below) := fn_pure (T.df 10) sc_is_below (by decide) fun c cdv A outer s H E hr => by
  have sc := sc_is_below
  exact (b_one (s_ret (x_cmp op_lt d2_I (e_b (x_op op_mulA d2_mul (e_b (x_ix ix_seq (e_b (n_v 0 (pv 0))) (e_b k_int) (fun _ _ => rfl))) (e_b (x_ix ix_seq (e_b (n_v 1 (pv 1))) (e_b k_int) (fun _ _ => rfl))))) (e_b (x_op op_mulA d2_mul (e_b (x_ix ix_seq (e_b (n_v 1 (pv 1))) (e_b k_int) (fun _ _ => rfl))) (e_b (x_ix ix_seq (e_b (n_v 0 (pv 0))) (e_b k_int) (fun _ _ => rfl))))) (nomark _))))
/-! lesser -/
abbrev st_lesser : Stmt := topS 23
theorem sc_lesser : FnScope ["one", "late"] ["one", "late"] (defScope st_lesser) := ⟨rfl, rfl, rfl, by decide +kernel, rfl, by decide +kernel, by decide +kernel⟩
theorem bd_lesser (T : TX K mg) : Binds K (fdOf K "lesser") ["one", "late"] [] := (T.df 11).bindsN fun _ _ _ _ _ _ us hl => match us, hl with | [_, _], _ => rfl
def m_lesser : SM Unit :=
  (sRet (eIf (tV (eN f_is_below (aAll [(eV 1), (eV 0)]))) (eV 1) (eV 0)))
def f_lesser : List PyData → Option PyData := fnP 2 m_lesser
theorem ok_lesser (T : TX K mg) : FnG PySem.Challenge.rw_boundedchance_k85_whole_chains_led_backw.prog w K mg base 2 (He.ga K "lesser") (fdOf K "lesser") ["one", "late"] (spP K 2 f_lesser) := fn_pure (T.df 11) sc_lesser (by decide) fun c cdv A outer s H E hr => by
  have sc := sc_lesser
  exact (b_one (s_ret (x_if (t_val (e_b (x_callP (f_cons (n_v 1 (pv 1)) (f_cons (n_v 0 (pv 0)) f_nil)) (fun h => pe_callG (ok_is_below T) (hr.mono (by decide)) rfl (T.glo 10) (T.df 10).kp (bd_is_below T) h)))) (n_v 1 (pv 1)) (n_v 0 (pv 0)))))
/-! greater -/
abbrev st_greater : Stmt := topS 24
theorem sc_greater : FnScope ["one", "late"] ["one", "late"] (defScope st_greater) := ⟨rfl, rfl, rfl, by decide +kernel, rfl, by decide +kernel, by decide +kernel⟩
theorem bd_greater (T : TX K mg) : Binds K (fdOf K "greater") ["one", "late"] [] := (T.df 12).bindsN fun _ _ _ _ _ _ us hl => match us, hl with | [_, _], _ => rfl
def m_greater : SM Unit :=
  (sRet (eIf (tV (eN f_is_below (aAll [(eV 0), (eV 1)]))) (eV 1) (eV 0)))
def f_greater : List PyData → Option PyData := fnP 2 m_greater
theorem ok_greater (T : TX K mg) : FnG PySem.Challenge.rw_boundedchance_k85_whole_chains_led_backw.prog w K mg base 2 (He.ga K "greater") (fdOf K "greater") ["one", "late"] (spP K 2 f_greater) := fn_pure (T.df 12) sc_greater (by decide) fun c cdv A outer s H E hr => by
  have sc := sc_greater
  exact (b_one (s_ret (x_if (t_val (e_b (x_callP (f_cons (n_v 0 (pv 0)) (f_cons (n_v 1 (pv 1)) f_nil)) (fun h => pe_callG (ok_is_below T) (hr.mono (by decide)) rfl (T.glo 10) (T.df 10).kp (bd_is_below T) h)))) (n_v 1 (pv 1)) (n_v 0 (pv 0)))))
/-! total -/
abbrev st_total : Stmt := topS 25
theorem sc_total : FnScope ["some", "found", "one"] ["some"] (defScope st_total) := ⟨rfl, rfl, rfl, by decide +kernel, rfl, by decide +kernel, by decide +kernel⟩
theorem bd_total (T : TX K mg) : Binds K (fdOf K "total") ["some"] [] := (T.df 13).bindsN fun _ _ _ _ _ _ us hl => match us, hl with | [_], _ => rfl
def m_total : SM Unit :=
  (sSeq (sSet 1 (eC (.tuple [(.int 0), (.int 1)])))
  (sSeq (sFor (iS (eV 0)) (gN 2) (sSet 1 (eN f_add (aAll [(eV 1), (eV 2)]))))
  (sRet (eV 1))))
def f_total : List PyData → Option PyData := fnP 3 m_total
theorem ok_total (T : TX K mg) : FnG PySem.Challenge.rw_boundedchance_k85_whole_chains_led_backw.prog w K mg base 4 (He.ga K "total") (fdOf K "total") ["some"] (spP K 1 f_total) := fn_pure (T.df 13) sc_total (by decide) fun c cdv A outer s H E hr => by
  have sc := sc_total
  exact (b_cons (s_set (i := 1) sc.nd rfl (Or.inl rfl) (x_con T 1 rfl))
  (b_cons (s_for PassesOwn.never rfl (i_sq (n_v 0 (pv 0))) (g_name (pg_name (i := 2) sc.nd rfl (Or.inl rfl))) (b_one (s_set (i := 1) sc.nd rfl (Or.inl rfl) (x_callP (f_cons (n_v 1 (pv 1)) (f_cons (n_v 2 (pv 2)) f_nil)) (fun h => pe_callG (ok_add T) (hr.mono (by decide)) rfl (T.glo 8) (T.df 8).kp (bd_add T) h)))))
  (b_one (s_ret (n_v 1 (pv 1))))))
/-! least_of -/
abbrev st_least_of : Stmt := topS 26
theorem sc_least_of : FnScope ["some", "found", "one"] ["some"] (defScope st_least_of) := ⟨rfl, rfl, rfl, by decide +kernel, rfl, by decide +kernel, by decide +kernel⟩
theorem bd_least_of (T : TX K mg) : Binds K (fdOf K "least_of") ["some"] [] := (T.df 14).bindsN fun _ _ _ _ _ _ us hl => match us, hl with | [_], _ => rfl
def m_least_of : SM Unit :=
  (sSeq (sSet 1 (e2 dIx (eV 0) (eC (.int 0))))
  (sSeq (sFor (iS (eSl (eV 0) (pS (eC (.int 1))) pN)) (gN 2) (sSet 1 (eN f_lesser (aAll [(eV 1), (eV 2)]))))
  (sRet (eV 1))))
def f_least_of : List PyData → Option PyData := fnP 3 m_least_of
theorem ok_least_of (T : TX K mg) : FnG PySem.Challenge.rw_boundedchance_k85_whole_chains_led_backw.prog w K mg base 3 (He.ga K "least_of") (fdOf K "least_of") ["some"] (spP K 1 f_least_of) := fn_pure (T.df 14) sc_least_of (by decide) fun c cdv A outer s H E hr => by
  have sc := sc_least_of
  exact (b_cons (s_set (i := 1) sc.nd rfl (Or.inl rfl) (x_ix ix_seq (e_b (n_v 0 (pv 0))) (e_b k_int) (fun _ _ => rfl)))
  (b_cons (s_for PassesOwn.never rfl (i_sq (x_sl sl_seq (e_b (n_v 0 (pv 0))) (p_some (e_b k_int)) p_none)) (g_name (pg_name (i := 2) sc.nd rfl (Or.inl rfl))) (b_one (s_set (i := 1) sc.nd rfl (Or.inl rfl) (x_callP (f_cons (n_v 1 (pv 1)) (f_cons (n_v 2 (pv 2)) f_nil)) (fun h => pe_callG (ok_lesser T) (hr.mono (by decide)) rfl (T.glo 11) (T.df 11).kp (bd_lesser T) h)))))
  (b_one (s_ret (n_v 1 (pv 1))))))
/-! greatest_of -/
abbrev st_greatest_of : Stmt := topS 27
theorem sc_greatest_of : FnScope ["some", "found", "one"] ["some"] (defScope st_greatest_of) := ⟨rfl, rfl, rfl, by decide +kernel, rfl, by decide +kernel, by decide +kernel⟩
theorem bd_greatest_of (T : TX K mg) : Binds K (fdOf K "greatest_of") ["some"] [] := (T.df 15).bindsN fun _ _ _ _ _ _ us hl => match us, hl with | [_], _ => rfl
def m_greatest_of : SM Unit :=
  (sSeq (sSet 1 (e2 dIx (eV 0) (eC (.int 0))))
  (sSeq (sFor (iS (eSl (eV 0) (pS (eC (.int 1))) pN)) (gN 2) (sSet 1 (eN f_greater (aAll [(eV 1), (eV 2)]))))
  (sRet (eV 1))))
def f_greatest_of : List PyData → Option PyData := fnP 3 m_greatest_of
theorem ok_greatest_of (T : TX K mg) : FnG PySem.Challenge.rw_boundedchance_k85_whole_chains_led_backw.prog w K mg base 3 (He.ga K "greatest_of") (fdOf K "greatest_of") ["some"] (spP K 1 f_greatest_of) := fn_pure (T.df 15) sc_greatest_of (by decide) fun c cdv A outer s H E hr => by
  have sc := sc_greatest_of
  exact (b_cons (s_set (i := 1) sc.nd rfl (Or.inl rfl) (x_ix ix_seq (e_b (n_v 0 (pv 0))) (e_b k_int) (fun _ _ => rfl)))
  (b_cons (s_for PassesOwn.never rfl (i_sq (x_sl sl_seq (e_b (n_v 0 (pv 0))) (p_some (e_b k_int)) p_none)) (g_name (pg_name (i := 2) sc.nd rfl (Or.inl rfl))) (b_one (s_set (i := 1) sc.nd rfl (Or.inl rfl) (x_callP (f_cons (n_v 1 (pv 1)) (f_cons (n_v 2 (pv 2)) f_nil)) (fun h => pe_callG (ok_greater T) (hr.mono (by decide)) rfl (T.glo 12) (T.df 12).kp (bd_greater T) h)))))
  (b_one (s_ret (n_v 1 (pv 1))))))
/-! products_sum -/
abbrev st_products_sum : Stmt := topS 28
theorem sc_products_sum : FnScope ["some", "others", "one", "late"] ["some", "others"] (defScope st_products_sum) := ⟨rfl, rfl, rfl, by decide +kernel, rfl, by decide +kernel, by decide +kernel⟩
theorem bd_products_sum (T : TX K mg) : Binds K (fdOf K "products_sum") ["some", "others"] [] := (T.df 16).bindsN fun _ _ _ _ _ _ us hl => match us, hl with | [_, _], _ => rfl
def m_products_sum : SM Unit :=
  (sRet (eN f_total (aAll [(eL (oLc [2, 3] (iZ (eV 0) (eV 1)) (gT [(gN 2), (gN 3)]) tYes (eN f_multiply (aAll [(eV 2), (eV 3)]))))])))
def f_products_sum : List PyData → Option PyData := fnP 4 m_products_sum
theorem ok_products_sum (T : TX K mg) : FnG PySem.Challenge.rw_boundedchance_k85_whole_chains_led_backw.prog w K mg base 5 (He.ga K "products_sum") (fdOf K "products_sum") ["some", "others"] (spP K 2 f_products_sum) := fn_pure (T.df 16) sc_products_sum (by decide) fun c cdv A outer s H E hr => by
  have sc := sc_products_sum
  exact (b_one (s_ret (x_callP (f_cons (o_e (x_lc rfl sc.nd (own := [("one", 2), ("late", 3)]) (i_zip (n_v 0 (pv 0)) (n_v 1 (pv 1)) (fun _ h => pi_zipG rfl (T.fre fr_zip) h)) (blkOk_by (by kernel_rfl)) (fun _ _ _ _ _ => (g_tup (pg_tup rfl (gs_cons (g_name (pg_name (i := 2) sc.nd rfl (Or.inl rfl))) (gs_cons (g_name (pg_name (i := 3) sc.nd rfl (Or.inl rfl))) gs_nil))) rfl)) (fun _ _ _ _ _ => ts_nil) (fun _ _ _ _ _ => (x_callP (f_cons (n_v 2 (pv 2)) (f_cons (n_v 3 (pv 3)) f_nil)) (fun h => pe_callG (ok_multiply T) (hr.mono (by decide)) rfl (T.glo 9) (T.df 9).kp (bd_multiply T) h))) (by decide))) f_nil) (fun h => pe_callG (ok_total T) (hr.mono (by decide)) rfl (T.glo 13) (T.df 13).kp (bd_total T) h))))
/-! is_lot_of -/
abbrev st_is_lot_of : Stmt := topS 31
theorem sc_is_lot_of : FnScope ["value", "one"] ["value"] (defScope st_is_lot_of) := ⟨rfl, rfl, rfl, by decide +kernel, rfl, by decide +kernel, by decide +kernel⟩
theorem bd_is_lot_of (T : TX K mg) : Binds K (fdOf K "is_lot_of") ["value"] [] := (T.df 17).bindsN fun _ _ _ _ _ _ us hl => match us, hl with | [_], _ => rfl
def m_is_lot_of : SM Unit :=
  (sSeq (sIf (tOr (tNot (tV (e1 (dIsi ["tuple"]) (eV 0)))) (tNot (tV (eChain dLe dLe (eC (.int 1)) (eN dLen (aAll [(eV 0)])) (eC (.int 16)))))) (sRet (eC (.bool false))) sNx)
  (sSeq (sIf (tNot (tV (eN dAllB (aAll [(eL (oLc [1] (iS (eV 0)) (gN 1) tYes (eAnd (eN f_is_fraction_of (aAll [(eV 1)])) (e2 dGe (e2 dIx (eV 1) (eC (.int 0))) (eC (.int 0))))))])))) (sRet (eC (.bool false))) sNx)
  (sRet (e2 dEq (eN f_total (aAll [(eV 0)])) (eC (.tuple [(.int 1), (.int 1)]))))))
def f_is_lot_of : List PyData → Option PyData := fnP 2 m_is_lot_of
theorem ok_is_lot_of (T : TX K mg) : FnG PySem.Challenge.rw_boundedchance_k85_whole_chains_led_backw.prog w K mg base 5 (He.ga K "is_lot_of") (fdOf K "is_lot_of") ["value"] (spP K 1 f_is_lot_of) := fn_pure (T.df 17) sc_is_lot_of (by decide) fun c cdv A outer s H E hr => by
  have sc := sc_is_lot_of
  exact (b_cons (s_if (PW.pt (y_or (y_not (t_val (e_b (x_isi rfl (T.fre fr_tuple) PyProof.Rows.boot_tuple (e_b (n_v 0 (pv 0))) (fun h => pe_callB call_isi rfl (T.fre fr_isinstance) PyProof.Rows.boot_isinstance h))))) (y_or1 (y_not (y_chain d2_I d2_I (pt_chain op_le op_le (e_b k_int) (e_b (x_callT dn_len (a_cons (e_b (n_v 0 (pv 0))) a_nil) (fun _ h => pe_callB cr_lenD rfl (T.fre fr_len) PySem.boot_len h))) (e_b (x_con T 3 rfl)))))))) (b_one (s_ret k_bl)) b_nil)
  (b_cons (s_if (y_not (t_val (e_b (x_callT dn_all (a_cons (o_b (x_lc rfl sc.nd (own := [("one", 1)]) (i_sq (n_v 0 (pv 0))) (blkOk_by (by kernel_rfl)) (fun _ _ _ _ _ => (g_name (pg_name (i := 1) sc.nd rfl (Or.inl rfl)))) (fun _ _ _ _ _ => ts_nil) (fun _ _ _ _ _ => (x_and (e_b (x_callP (f_cons (n_v 1 (pv 1)) f_nil) (fun h => pe_callG (ok_is_fraction_of T) (hr.mono (by decide)) rfl (T.glo 5) (T.df 5).kp (bd_is_fraction_of T) h))) (x_one (x_cmp op_ge d2_I (e_b (x_ix ix_seq (e_b (n_v 1 (pv 1))) (e_b k_int) (fun _ _ => rfl))) (e_b k_int) (nomark _))))) (by decide))) a_nil) (fun _ h => pe_callB (cr_all rfl) rfl (T.fre fr_all) PyProof.Rows.boot_all h))))) (b_one (s_ret k_bl)) b_nil)
  (b_one (s_ret (x_cmp (op_eqA hr.u64) d2_eq (e_b (x_callP (f_cons (n_v 0 (pv 0)) f_nil) (fun h => pe_callG (ok_total T) (hr.mono (by decide)) rfl (T.glo 13) (T.df 13).kp (bd_total T) h))) (e_b (x_con T 2 rfl)) (nomark _))))))
/-! is_short_lot -/
abbrev st_is_short_lot : Stmt := topS 32
theorem sc_is_short_lot : FnScope ["value", "one"] ["value"] (defScope st_is_short_lot) := ⟨rfl, rfl, rfl, by decide +kernel, rfl, by decide +kernel, by decide +kernel⟩
theorem bd_is_short_lot (T : TX K mg) : Binds K (fdOf K "is_short_lot") ["value"] [] := (T.df 18).bindsN fun _ _ _ _ _ _ us hl => match us, hl with | [_], _ => rfl
def m_is_short_lot : SM Unit :=
  (sRet (eAnd (eN f_is_lot_of (aAll [(eV 0)])) (eN dAllB (aAll [(eL (oLc [1] (iS (eV 0)) (gN 1) tYes (eN f_is_short (aAll [(eV 1)]))))]))))
def f_is_short_lot : List PyData → Option PyData := fnP 2 m_is_short_lot
theorem ok_is_short_lot (T : TX K mg) : FnG PySem.Challenge.rw_boundedchance_k85_whole_chains_led_backw.prog w K mg base 6 (He.ga K "is_short_lot") (fdOf K "is_short_lot") ["value"] (spP K 1 f_is_short_lot) := fn_pure (T.df 18) sc_is_short_lot (by decide) fun c cdv A outer s H E hr => by
  have sc := sc_is_short_lot
  exact (b_one (s_ret (x_and (e_b (x_callP (f_cons (n_v 0 (pv 0)) f_nil) (fun h => pe_callG (ok_is_lot_of T) (hr.mono (by decide)) rfl (T.glo 17) (T.df 17).kp (bd_is_lot_of T) h))) (x_one (x_callT dn_all (a_cons (o_b (x_lc rfl sc.nd (own := [("one", 1)]) (i_sq (n_v 0 (pv 0))) (blkOk_by (by kernel_rfl)) (fun _ _ _ _ _ => (g_name (pg_name (i := 1) sc.nd rfl (Or.inl rfl)))) (fun _ _ _ _ _ => ts_nil) (fun _ _ _ _ _ => (x_callP (f_cons (n_v 1 (pv 1)) f_nil) (fun h => pe_callG (ok_is_short T) (hr.mono (by decide)) rfl (T.glo 6) (T.df 6).kp (bd_is_short T) h))) (by decide))) a_nil) (fun _ h => pe_callB (cr_all rfl) rfl (T.fre fr_all) PyProof.Rows.boot_all h))))))
/-! sure_lot -/
abbrev st_sure_lot : Stmt := topS 33
theorem sc_sure_lot : FnScope ["many", "place", "one"] ["many", "place"] (defScope st_sure_lot) := ⟨rfl, rfl, rfl, by decide +kernel, rfl, by decide +kernel, by decide +kernel⟩
theorem bd_sure_lot (T : TX K mg) : Binds K (fdOf K "sure_lot") ["many", "place"] [] := (T.df 19).bindsN fun _ _ _ _ _ _ us hl => match us, hl with | [_, _], _ => rfl
def m_sure_lot : SM Unit :=
  (sRet (eN dTup (aAll [(eL (oLc [2] (iR1 (eV 0)) (gN 2) tYes (eIf (tV (e2 dEq (eV 2) (eV 1))) (eC (.tuple [(.int 1), (.int 1)])) (eC (.tuple [(.int 0), (.int 1)])))))])))
def f_sure_lot : List PyData → Option PyData := fnP 3 m_sure_lot
theorem ok_sure_lot (T : TX K mg) : FnG PySem.Challenge.rw_boundedchance_k85_whole_chains_led_backw.prog w K mg base 1 (He.ga K "sure_lot") (fdOf K "sure_lot") ["many", "place"] (spP K 2 f_sure_lot) := fn_pure (T.df 19) sc_sure_lot (by decide) fun c cdv A outer s H E hr => by
  have sc := sc_sure_lot
  exact (b_one (s_ret (x_callT dn_tup (a_cons (o_b (x_lc rfl sc.nd (own := [("one", 2)]) (i_rng1 (e_b (n_v 0 (pv 0))) (fun _ h => pi_range1 rfl (T.fre fr_range) h)) (blkOk_by (by kernel_rfl)) (fun _ _ _ _ _ => (g_name (pg_name (i := 2) sc.nd rfl (Or.inl rfl)))) (fun _ _ _ _ _ => ts_nil) (fun _ _ _ _ _ => (x_if (y_cmp (op_eqA hr.u64) d2_eq (e_b (n_v 2 (pv 2))) (e_b (n_v 1 (pv 1))) (nomark _)) (x_con T 2 rfl) (x_con T 1 rfl))) (by decide))) a_nil) (fun _ h => pe_callTy call_tuple_of rfl (T.fre fr_tuple) PyProof.Rows.boot_tuple h))))
/-! mean_of -/
abbrev st_mean_of : Stmt := topS 34
theorem sc_mean_of : FnScope ["lot", "worths"] ["lot", "worths"] (defScope st_mean_of) := ⟨rfl, rfl, rfl, by decide +kernel, rfl, by decide +kernel, by decide +kernel⟩
theorem bd_mean_of (T : TX K mg) : Binds K (fdOf K "mean_of") ["lot", "worths"] [] := (T.df 20).bindsN fun _ _ _ _ _ _ us hl => match us, hl with | [_, _], _ => rfl
def m_mean_of : SM Unit :=
  (sRet (eN f_products_sum (aAll [(eV 0), (eV 1)])))
def f_mean_of : List PyData → Option PyData := fnP 2 m_mean_of
theorem ok_mean_of (T : TX K mg) : FnG PySem.Challenge.rw_boundedchance_k85_whole_chains_led_backw.prog w K mg base 6 (He.ga K "mean_of") (fdOf K "mean_of") ["lot", "worths"] (spP K 2 f_mean_of) := fn_pure (T.df 20) sc_mean_of (by decide) fun c cdv A outer s H E hr => by
  have sc := sc_mean_of
  exact (b_one (s_ret (x_callP (f_cons (n_v 0 (pv 0)) (f_cons (n_v 1 (pv 1)) f_nil)) (fun h => pe_callG (ok_products_sum T) (hr.mono (by decide)) rfl (T.glo 16) (T.df 16).kp (bd_products_sum T) h))))
/-! is_wish_of -/
abbrev st_is_wish_of : Stmt := topS 37
theorem sc_is_wish_of : FnScope ["cases", "value", "one"] ["cases", "value"] (defScope st_is_wish_of) := ⟨rfl, rfl, rfl, by decide +kernel, rfl, by decide +kernel, by decide +kernel⟩
theorem bd_is_wish_of (T : TX K mg) : Binds K (fdOf K "is_wish_of") ["cases", "value"] [] := (T.df 21).bindsN fun _ _ _ _ _ _ us hl => match us, hl with | [_, _], _ => rfl
def m_is_wish_of : SM Unit :=
  (sSeq (sIf (tOr (tNot (tV (eN f_is_list (aAll [(eV 1)])))) (tV (e2 dNe (eN dLen (aAll [(eV 1)])) (eV 0)))) (sRet (eC (.bool false))) sNx)
  (sRet (eN dAllB (aAll [(eL (oLc [2] (iS (eV 1)) (gN 2) tYes (eN f_is_within (aAll [(eV 2), (e2 dSub (eC (.int 0)) (eC (.int 99))), (eC (.int 99))]))))]))))
def f_is_wish_of : List PyData → Option PyData := fnP 3 m_is_wish_of
theorem ok_is_wish_of (T : TX K mg) : FnG PySem.Challenge.rw_boundedchance_k85_whole_chains_led_backw.prog w K mg base 3 (He.ga K "is_wish_of") (fdOf K "is_wish_of") ["cases", "value"] (spP K 2 f_is_wish_of) := fn_pure (T.df 21) sc_is_wish_of (by decide) fun c cdv A outer s H E hr => by
  have sc := sc_is_wish_of
  exact (b_cons (s_if (PW.pt (y_or (y_not (t_val (e_b (x_callP (f_cons (n_v 1 (pv 1)) f_nil) (fun h => pe_callG (ok_is_list T) (hr.mono (by decide)) rfl (T.glo 2) (T.df 2).kp (bd_is_list T) h))))) (y_or1 (y_cmp (op_neA hr.u64) d2_ne (e_b (x_callT dn_len (a_cons (e_b (n_v 1 (pv 1))) a_nil) (fun _ h => pe_callB cr_lenD rfl (T.fre fr_len) PySem.boot_len h))) (e_b (n_v 0 (pv 0))) (nomark _))))) (b_one (s_ret k_bl)) b_nil)
  (b_one (s_ret (x_callT dn_all (a_cons (o_b (x_lc rfl sc.nd (own := [("one", 2)]) (i_sq (n_v 1 (pv 1))) (blkOk_by (by kernel_rfl)) (fun _ _ _ _ _ => (g_name (pg_name (i := 2) sc.nd rfl (Or.inl rfl)))) (fun _ _ _ _ _ => ts_nil) (fun _ _ _ _ _ => (x_callP (f_cons (n_v 2 (pv 2)) (f_cons (x_op op_sub d2_sub (e_b k_int) (e_b (x_con T 4 rfl))) (f_cons (x_con T 4 rfl) f_nil))) (fun h => pe_callG (ok_is_within T) (hr.mono (by decide)) rfl (T.glo 1) (T.df 1).kp (bd_is_within T) h))) (by decide))) a_nil) (fun _ h => pe_callB (cr_all rfl) rfl (T.fre fr_all) PyProof.Rows.boot_all h)))))
/-! check_wish -/
abbrev st_check_wish : Stmt := topS 38
theorem sc_check_wish : FnScope ["cases", "value"] ["cases", "value"] (defScope st_check_wish) := ⟨rfl, rfl, rfl, by decide +kernel, rfl, by decide +kernel, by decide +kernel⟩
theorem bd_check_wish (T : TX K mg) : Binds K (fdOf K "check_wish") ["cases", "value"] [] := (T.df 22).bindsN fun _ _ _ _ _ _ us hl => match us, hl with | [_, _], _ => rfl
def m_check_wish : SM Unit :=
  (sIf (tNot (tV (eN f_is_wish_of (aAll [(eV 0), (eV 1)])))) sNo sNx)
def f_check_wish : List PyData → Option PyData := fnP 2 m_check_wish
theorem ok_check_wish (T : TX K mg) : FnG PySem.Challenge.rw_boundedchance_k85_whole_chains_led_backw.prog w K mg base 4 (He.ga K "check_wish") (fdOf K "check_wish") ["cases", "value"] (spP K 2 f_check_wish) := fn_pure (T.df 22) sc_check_wish (by decide) fun c cdv A outer s H E hr => by
  have sc := sc_check_wish
  exact (b_one (s_if (y_not (t_val (e_b (x_callP (f_cons (n_v 0 (pv 0)) (f_cons (n_v 1 (pv 1)) f_nil)) (fun h => pe_callG (ok_is_wish_of T) (hr.mono (by decide)) rfl (T.glo 21) (T.df 21).kp (bd_is_wish_of T) h))))) b_never b_nil))
/-! are_lots_of -/
abbrev st_are_lots_of : Stmt := topS 43
theorem sc_are_lots_of : FnScope ["states", "value", "lot"] ["states", "value"] (defScope st_are_lots_of) := ⟨rfl, rfl, rfl, by decide +kernel, rfl, by decide +kernel, by decide +kernel⟩
theorem bd_are_lots_of (T : TX K mg) : Binds K (fdOf K "are_lots_of") ["states", "value"] [] := (T.df 23).bindsN fun _ _ _ _ _ _ us hl => match us, hl with | [_, _], _ => rfl
def m_are_lots_of : SM Unit :=
  (sSeq (sIf (tOr (tNot (tV (eN f_is_list (aAll [(eV 1)])))) (tNot (tV (eChain dLe dLe (eC (.int 1)) (eN dLen (aAll [(eV 1)])) (eC (.int 3)))))) (sRet (eC (.bool false))) sNx)
  (sRet (eN dAllB (aAll [(eL (oLc [2] (iS (eV 1)) (gN 2) tYes (eAnd (eN f_is_lot_of (aAll [(eV 2)])) (e2 dEq (eN dLen (aAll [(eV 2)])) (eV 0)))))]))))
def f_are_lots_of : List PyData → Option PyData := fnP 3 m_are_lots_of
theorem ok_are_lots_of (T : TX K mg) : FnG PySem.Challenge.rw_boundedchance_k85_whole_chains_led_backw.prog w K mg base 6 (He.ga K "are_lots_of") (fdOf K "are_lots_of") ["states", "value"] (spP K 2 f_are_lots_of) := fn_pure (T.df 23) sc_are_lots_of (by decide) fun c cdv A outer s H E hr => by
  have sc := sc_are_lots_of
  exact (b_cons (s_if (PW.pt (y_or (y_not (t_val (e_b (x_callP (f_cons (n_v 1 (pv 1)) f_nil) (fun h => pe_callG (ok_is_list T) (hr.mono (by decide)) rfl (T.glo 2) (T.df 2).kp (bd_is_list T) h))))) (y_or1 (y_not (y_chain d2_I d2_I (pt_chain op_le op_le (e_b k_int) (e_b (x_callT dn_len (a_cons (e_b (n_v 1 (pv 1))) a_nil) (fun _ h => pe_callB cr_lenD rfl (T.fre fr_len) PySem.boot_len h))) (e_b (x_con T 6 rfl)))))))) (b_one (s_ret k_bl)) b_nil)
  (b_one (s_ret (x_callT dn_all (a_cons (o_b (x_lc rfl sc.nd (own := [("lot", 2)]) (i_sq (n_v 1 (pv 1))) (blkOk_by (by kernel_rfl)) (fun _ _ _ _ _ => (g_name (pg_name (i := 2) sc.nd rfl (Or.inl rfl)))) (fun _ _ _ _ _ => ts_nil) (fun _ _ _ _ _ => (x_and (e_b (x_callP (f_cons (n_v 2 (pv 2)) f_nil) (fun h => pe_callG (ok_is_lot_of T) (hr.mono (by decide)) rfl (T.glo 17) (T.df 17).kp (bd_is_lot_of T) h))) (x_one (x_cmp (op_eqA hr.u64) d2_eq (e_b (x_callT dn_len (a_cons (e_b (n_v 2 (pv 2))) a_nil) (fun _ h => pe_callB cr_lenD rfl (T.fre fr_len) PySem.boot_len h))) (e_b (n_v 0 (pv 0))) (nomark _))))) (by decide))) a_nil) (fun _ h => pe_callB (cr_all rfl) rfl (T.fre fr_all) PyProof.Rows.boot_all h)))))
/-! is_chain_value -/
abbrev st_is_chain_value : Stmt := topS 44
theorem sc_is_chain_value : FnScope ["value", "lots"] ["value"] (defScope st_is_chain_value) := ⟨rfl, rfl, rfl, by decide +kernel, rfl, by decide +kernel, by decide +kernel⟩
theorem bd_is_chain_value (T : TX K mg) : Binds K (fdOf K "is_chain_value") ["value"] [] := (T.df 24).bindsN fun _ _ _ _ _ _ us hl => match us, hl with | [_], _ => rfl
def m_is_chain_value : SM Unit :=
  (sSeq (sIf (tOr (tNot (tV (eN f_is_list (aAll [(eV 0)])))) (tNot (tV (eChain dLe dLe (eC (.int 1)) (eN dLen (aAll [(eV 0)])) (eC (.int 4)))))) (sRet (eC (.bool false))) sNx)
  (sRet (eN dAllB (aAll [(eL (oLc [1] (iS (eV 0)) (gN 1) tYes (eN f_are_lots_of (aAll [(eN dLen (aAll [(eV 0)])), (eV 1)]))))]))))
def f_is_chain_value : List PyData → Option PyData := fnP 2 m_is_chain_value
theorem ok_is_chain_value (T : TX K mg) : FnG PySem.Challenge.rw_boundedchance_k85_whole_chains_led_backw.prog w K mg base 7 (He.ga K "is_chain_value") (fdOf K "is_chain_value") ["value"] (spP K 1 f_is_chain_value) := fn_pure (T.df 24) sc_is_chain_value (by decide) fun c cdv A outer s H E hr => by
  have sc := sc_is_chain_value
  exact (b_cons (s_if (PW.pt (y_or (y_not (t_val (e_b (x_callP (f_cons (n_v 0 (pv 0)) f_nil) (fun h => pe_callG (ok_is_list T) (hr.mono (by decide)) rfl (T.glo 2) (T.df 2).kp (bd_is_list T) h))))) (y_or1 (y_not (y_chain d2_I d2_I (pt_chain op_le op_le (e_b k_int) (e_b (x_callT dn_len (a_cons (e_b (n_v 0 (pv 0))) a_nil) (fun _ h => pe_callB cr_lenD rfl (T.fre fr_len) PySem.boot_len h))) (e_b (x_con T 5 rfl)))))))) (b_one (s_ret k_bl)) b_nil)
  (b_one (s_ret (x_callT dn_all (a_cons (o_b (x_lc rfl sc.nd (own := [("lots", 1)]) (i_sq (n_v 0 (pv 0))) (blkOk_by (by kernel_rfl)) (fun _ _ _ _ _ => (g_name (pg_name (i := 1) sc.nd rfl (Or.inl rfl)))) (fun _ _ _ _ _ => ts_nil) (fun _ _ _ _ _ => (x_callP (f_cons (x_callT dn_len (a_cons (e_b (n_v 0 (pv 0))) a_nil) (fun _ h => pe_callB cr_lenD rfl (T.fre fr_len) PySem.boot_len h)) (f_cons (n_v 1 (pv 1)) f_nil)) (fun h => pe_callG (ok_are_lots_of T) (hr.mono (by decide)) rfl (T.glo 23) (T.df 23).kp (bd_are_lots_of T) h))) (by decide))) a_nil) (fun _ h => pe_callB (cr_all rfl) rfl (T.fre fr_all) PyProof.Rows.boot_all h)))))
/-! check_chain -/
abbrev st_check_chain : Stmt := topS 45
theorem sc_check_chain : FnScope ["value", "lots", "lot"] ["value"] (defScope st_check_chain) := ⟨rfl, rfl, rfl, by decide +kernel, rfl, by decide +kernel, by decide +kernel⟩
theorem bd_check_chain (T : TX K mg) : Binds K (fdOf K "check_chain") ["value"] [] := (T.df 25).bindsN fun _ _ _ _ _ _ us hl => match us, hl with | [_], _ => rfl
def m_check_chain : SM Unit :=
  (sIf (tOr (tNot (tV (eN f_is_chain_value (aAll [(eV 0)])))) (tNot (tV (eN dAllB (aAll [(eL (oLc [1] (iS (eV 0)) (gN 1) tYes (eN dAllB (aAll [(eL (oLc [2] (iS (eV 1)) (gN 2) tYes (eN f_is_short_lot (aAll [(eV 2)]))))]))))]))))) sNo sNx)
def f_check_chain : List PyData → Option PyData := fnP 3 m_check_chain
theorem ok_check_chain (T : TX K mg) : FnG PySem.Challenge.rw_boundedchance_k85_whole_chains_led_backw.prog w K mg base 8 (He.ga K "check_chain") (fdOf K "check_chain") ["value"] (spP K 1 f_check_chain) := fn_pure (T.df 25) sc_check_chain (by decide) fun c cdv A outer s H E hr => by
  have sc := sc_check_chain
  exact (b_one (s_if (PW.pt (y_or (y_not (t_val (e_b (x_callP (f_cons (n_v 0 (pv 0)) f_nil) (fun h => pe_callG (ok_is_chain_value T) (hr.mono (by decide)) rfl (T.glo 24) (T.df 24).kp (bd_is_chain_value T) h))))) (y_or1 (y_not (t_val (e_b (x_callT dn_all (a_cons (o_b (x_lc rfl sc.nd (own := [("lots", 1)]) (i_sq (n_v 0 (pv 0))) (blkOk_by (by kernel_rfl)) (fun _ _ _ _ _ => (g_name (pg_name (i := 1) sc.nd rfl (Or.inl rfl)))) (fun _ _ _ _ _ => ts_nil) (fun _ _ _ _ _ => (x_callT dn_all (a_cons (o_b (x_lc rfl sc.nd (own := [("lot", 2)]) (i_sq (n_v 1 (pv 1))) (blkOk_by (by kernel_rfl)) (fun _ _ _ _ _ => (g_name (pg_name (i := 2) sc.nd rfl (Or.inl rfl)))) (fun _ _ _ _ _ => ts_nil) (fun _ _ _ _ _ => (x_callP (f_cons (n_v 2 (pv 2)) f_nil) (fun h => pe_callG (ok_is_short_lot T) (hr.mono (by decide)) rfl (T.glo 18) (T.df 18).kp (bd_is_short_lot T) h))) (by decide))) a_nil) (fun _ h => pe_callB (cr_all rfl) rfl (T.fre fr_all) PyProof.Rows.boot_all h))) (by decide))) a_nil) (fun _ h => pe_callB (cr_all rfl) rfl (T.fre fr_all) PyProof.Rows.boot_all h)))))))) b_never b_nil))
/-! check_state -/
abbrev st_check_state : Stmt := topS 46
theorem sc_check_state : FnScope ["chain", "value"] ["chain", "value"] (defScope st_check_state) := ⟨rfl, rfl, rfl, by decide +kernel, rfl, by decide +kernel, by decide +kernel⟩
theorem bd_check_state (T : TX K mg) : Binds K (fdOf K "check_state") ["chain", "value"] [] := (T.df 26).bindsN fun _ _ _ _ _ _ us hl => match us, hl with | [_, _], _ => rfl
def m_check_state : SM Unit :=
  (sIf (tNot (tV (eN f_is_within (aAll [(eV 1), (eC (.int 0)), (e2 dSub (eN dLen (aAll [(eV 0)])) (eC (.int 1)))])))) sNo sNx)
def f_check_state : List PyData → Option PyData := fnP 2 m_check_state
theorem ok_check_state (T : TX K mg) : FnG PySem.Challenge.rw_boundedchance_k85_whole_chains_led_backw.prog w K mg base 3 (He.ga K "check_state") (fdOf K "check_state") ["chain", "value"] (spP K 2 f_check_state) := fn_pure (T.df 26) sc_check_state (by decide) fun c cdv A outer s H E hr => by
  have sc := sc_check_state
  exact (b_one (s_if (y_not (t_val (e_b (x_callP (f_cons (n_v 1 (pv 1)) (f_cons k_int (f_cons (x_op op_sub d2_sub (e_b (x_callT dn_len (a_cons (e_b (n_v 0 (pv 0))) a_nil) (fun _ h => pe_callB cr_lenD rfl (T.fre fr_len) PySem.boot_len h))) (e_b k_int)) f_nil))) (fun h => pe_callG (ok_is_within T) (hr.mono (by decide)) rfl (T.glo 1) (T.df 1).kp (bd_is_within T) h))))) b_never b_nil))
/-! check_steps -/
abbrev st_check_steps : Stmt := topS 47
theorem sc_check_steps : FnScope ["value"] ["value"] (defScope st_check_steps) := ⟨rfl, rfl, rfl, by decide +kernel, rfl, by decide +kernel, by decide +kernel⟩
theorem bd_check_steps (T : TX K mg) : Binds K (fdOf K "check_steps") ["value"] [] := (T.df 27).bindsN fun _ _ _ _ _ _ us hl => match us, hl with | [_], _ => rfl
def m_check_steps : SM Unit :=
  (sDrop (eN f_check_number (aAll [(eV 0), (eC (.int 0)), (eC (.int 8))])))
def f_check_steps : List PyData → Option PyData := fnP 1 m_check_steps
theorem ok_check_steps (T : TX K mg) : FnG PySem.Challenge.rw_boundedchance_k85_whole_chains_led_backw.prog w K mg base 4 (He.ga K "check_steps") (fdOf K "check_steps") ["value"] (spP K 1 f_check_steps) := fn_pure (T.df 27) sc_check_steps (by decide) fun c cdv A outer s H E hr => by
  have sc := sc_check_steps
  exact (b_one (s_drop (x_callP (f_cons (n_v 0 (pv 0)) (f_cons k_int (f_cons (x_con T 7 rfl) f_nil))) (fun h => pe_callG (ok_check_number T) (hr.mono (by decide)) rfl (T.glo 3) (T.df 3).kp (bd_check_number T) h))))
/-! is_choice_of -/
abbrev st_is_choice_of : Stmt := topS 48
theorem sc_is_choice_of : FnScope ["chain", "value", "one", "lots"] ["chain", "value"] (defScope st_is_choice_of) := ⟨rfl, rfl, rfl, by decide +kernel, rfl, by decide +kernel, by decide +kernel⟩
theorem bd_is_choice_of (T : TX K mg) : Binds K (fdOf K "is_choice_of") ["chain", "value"] [] := (T.df 28).bindsN fun _ _ _ _ _ _ us hl => match us, hl with | [_, _], _ => rfl
def m_is_choice_of : SM Unit :=
  (sSeq (sIf (tOr (tNot (tV (eN f_is_list (aAll [(eV 1)])))) (tV (e2 dNe (eN dLen (aAll [(eV 1)])) (eN dLen (aAll [(eV 0)]))))) (sRet (eC (.bool false))) sNx)
  (sRet (eN dAllB (aAll [(eL (oLc [2, 3] (iZ (eV 1) (eV 0)) (gT [(gN 2), (gN 3)]) tYes (eN f_is_within (aAll [(eV 2), (eC (.int 0)), (e2 dSub (eN dLen (aAll [(eV 3)])) (eC (.int 1)))]))))]))))
def f_is_choice_of : List PyData → Option PyData := fnP 4 m_is_choice_of
theorem ok_is_choice_of (T : TX K mg) : FnG PySem.Challenge.rw_boundedchance_k85_whole_chains_led_backw.prog w K mg base 3 (He.ga K "is_choice_of") (fdOf K "is_choice_of") ["chain", "value"] (spP K 2 f_is_choice_of) := fn_pure (T.df 28) sc_is_choice_of (by decide) fun c cdv A outer s H E hr => by
  have sc := sc_is_choice_of
  exact (b_cons (s_if (PW.pt (y_or (y_not (t_val (e_b (x_callP (f_cons (n_v 1 (pv 1)) f_nil) (fun h => pe_callG (ok_is_list T) (hr.mono (by decide)) rfl (T.glo 2) (T.df 2).kp (bd_is_list T) h))))) (y_or1 (y_cmp (op_neA hr.u64) d2_ne (e_b (x_callT dn_len (a_cons (e_b (n_v 1 (pv 1))) a_nil) (fun _ h => pe_callB cr_lenD rfl (T.fre fr_len) PySem.boot_len h))) (e_b (x_callT dn_len (a_cons (e_b (n_v 0 (pv 0))) a_nil) (fun _ h => pe_callB cr_lenD rfl (T.fre fr_len) PySem.boot_len h))) (nomark _))))) (b_one (s_ret k_bl)) b_nil)
  (b_one (s_ret (x_callT dn_all (a_cons (o_b (x_lc rfl sc.nd (own := [("one", 2), ("lots", 3)]) (i_zip (n_v 1 (pv 1)) (n_v 0 (pv 0)) (fun _ h => pi_zipG rfl (T.fre fr_zip) h)) (blkOk_by (by kernel_rfl)) (fun _ _ _ _ _ => (g_tup (pg_tup rfl (gs_cons (g_name (pg_name (i := 2) sc.nd rfl (Or.inl rfl))) (gs_cons (g_name (pg_name (i := 3) sc.nd rfl (Or.inl rfl))) gs_nil))) rfl)) (fun _ _ _ _ _ => ts_nil) (fun _ _ _ _ _ => (x_callP (f_cons (n_v 2 (pv 2)) (f_cons k_int (f_cons (x_op op_sub d2_sub (e_b (x_callT dn_len (a_cons (e_b (n_v 3 (pv 3))) a_nil) (fun _ h => pe_callB cr_lenD rfl (T.fre fr_len) PySem.boot_len h))) (e_b k_int)) f_nil))) (fun h => pe_callG (ok_is_within T) (hr.mono (by decide)) rfl (T.glo 1) (T.df 1).kp (bd_is_within T) h))) (by decide))) a_nil) (fun _ h => pe_callB (cr_all rfl) rfl (T.fre fr_all) PyProof.Rows.boot_all h)))))
/-! check_choices -/
abbrev st_check_choices : Stmt := topS 49
theorem sc_check_choices : FnScope ["chain", "value", "one"] ["chain", "value"] (defScope st_check_choices) := ⟨rfl, rfl, rfl, by decide +kernel, rfl, by decide +kernel, by decide +kernel⟩
theorem bd_check_choices (T : TX K mg) : Binds K (fdOf K "check_choices") ["chain", "value"] [] := (T.df 29).bindsN fun _ _ _ _ _ _ us hl => match us, hl with | [_, _], _ => rfl
def m_check_choices : SM Unit :=
  (sIf (tOr (tNot (tV (eN f_is_list (aAll [(eV 1)])))) (tOr (tV (e2 dGt (eN dLen (aAll [(eV 1)])) (eC (.int 8)))) (tNot (tV (eN dAllB (aAll [(eL (oLc [2] (iS (eV 1)) (gN 2) tYes (eN f_is_choice_of (aAll [(eV 0), (eV 2)]))))])))))) sNo sNx)
def f_check_choices : List PyData → Option PyData := fnP 3 m_check_choices
theorem ok_check_choices (T : TX K mg) : FnG PySem.Challenge.rw_boundedchance_k85_whole_chains_led_backw.prog w K mg base 4 (He.ga K "check_choices") (fdOf K "check_choices") ["chain", "value"] (spP K 2 f_check_choices) := fn_pure (T.df 29) sc_check_choices (by decide) fun c cdv A outer s H E hr => by
  have sc := sc_check_choices
  exact (b_one (s_if (PW.pt (y_or (y_not (t_val (e_b (x_callP (f_cons (n_v 1 (pv 1)) f_nil) (fun h => pe_callG (ok_is_list T) (hr.mono (by decide)) rfl (T.glo 2) (T.df 2).kp (bd_is_list T) h))))) (y_or (y_cmp op_gt d2_I (e_b (x_callT dn_len (a_cons (e_b (n_v 1 (pv 1))) a_nil) (fun _ h => pe_callB cr_lenD rfl (T.fre fr_len) PySem.boot_len h))) (e_b (x_con T 7 rfl)) (nomark _)) (y_or1 (y_not (t_val (e_b (x_callT dn_all (a_cons (o_b (x_lc rfl sc.nd (own := [("one", 2)]) (i_sq (n_v 1 (pv 1))) (blkOk_by (by kernel_rfl)) (fun _ _ _ _ _ => (g_name (pg_name (i := 2) sc.nd rfl (Or.inl rfl)))) (fun _ _ _ _ _ => ts_nil) (fun _ _ _ _ _ => (x_callP (f_cons (n_v 0 (pv 0)) (f_cons (n_v 2 (pv 2)) f_nil)) (fun h => pe_callG (ok_is_choice_of T) (hr.mono (by decide)) rfl (T.glo 28) (T.df 28).kp (bd_is_choice_of T) h))) (by decide))) a_nil) (fun _ h => pe_callB (cr_all rfl) rfl (T.fre fr_all) PyProof.Rows.boot_all h))))))))) b_never b_nil))
/-! whole -/
abbrev st_whole : Stmt := topS 50
theorem sc_whole : FnScope ["wish", "one"] ["wish"] (defScope st_whole) := ⟨rfl, rfl, rfl, by decide +kernel, rfl, by decide +kernel, by decide +kernel⟩
theorem bd_whole (T : TX K mg) : Binds K (fdOf K "whole") ["wish"] [] := (T.df 30).bindsN fun _ _ _ _ _ _ us hl => match us, hl with | [_], _ => rfl
def u_whole : SM Unit :=
  sNx
def o_whole : M Unit (List PyData) :=
  (oLc [1] (iS (eV 0)) (gN 1) tYes (eTup (aAll [(eV 1), (eC (.int 1))])))
def fo_whole : List PyData → Option (List PyData) := fnO 2 u_whole o_whole
theorem oko_whole (T : TX K mg) : FnG PySem.Challenge.rw_boundedchance_k85_whole_chains_led_backw.prog w K mg base 1 (He.ga K "whole") (fdOf K "whole") ["wish"] (spO K 1 fo_whole) := fn_own (T.df 30) sc_whole (by decide) fun c cdv A outer s H E hr => by
  have sc := sc_whole
  exact (b_own0 (x_lc rfl sc.nd (own := [("one", 1)]) (i_sq (n_v 0 (pv 0))) (blkOk_by (by kernel_rfl)) (fun _ _ _ _ _ => (g_name (pg_name (i := 1) sc.nd rfl (Or.inl rfl)))) (fun _ _ _ _ _ => ts_nil) (fun _ _ _ _ _ => (x_tup (f_cons (n_v 1 (pv 1)) (f_cons k_int f_nil)))) (by decide)))
def m_whole : SM Unit :=
  (sRet (eL (oLc [1] (iS (eV 0)) (gN 1) tYes (eTup (aAll [(eV 1), (eC (.int 1))])))))
def f_whole : List PyData → Option PyData := fnP 2 m_whole
theorem ok_whole (T : TX K mg) : FnG PySem.Challenge.rw_boundedchance_k85_whole_chains_led_backw.prog w K mg base 1 (He.ga K "whole") (fdOf K "whole") ["wish"] (spP K 1 f_whole) := fn_pure (T.df 30) sc_whole (by decide) fun c cdv A outer s H E hr => by
  have sc := sc_whole
  exact (b_one (s_ret (o_e (x_lc rfl sc.nd (own := [("one", 1)]) (i_sq (n_v 0 (pv 0))) (blkOk_by (by kernel_rfl)) (fun _ _ _ _ _ => (g_name (pg_name (i := 1) sc.nd rfl (Or.inl rfl)))) (fun _ _ _ _ _ => ts_nil) (fun _ _ _ _ _ => (x_tup (f_cons (n_v 1 (pv 1)) (f_cons k_int f_nil)))) (by decide)))))
/-! back_by_one -/
abbrev st_back_by_one : Stmt := topS 51
theorem sc_back_by_one : FnScope ["chain", "numbers", "lots", "lot"] ["chain", "numbers"] (defScope st_back_by_one) := ⟨rfl, rfl, rfl, by decide +kernel, rfl, by decide +kernel, by decide +kernel⟩
theorem bd_back_by_one (T : TX K mg) : Binds K (fdOf K "back_by_one") ["chain", "numbers"] [] := (T.df 31).bindsN fun _ _ _ _ _ _ us hl => match us, hl with | [_, _], _ => rfl
def u_back_by_one : SM Unit :=
  sNx
def o_back_by_one : M Unit (List PyData) :=
  (oLc [2] (iS (eV 0)) (gN 2) tYes (eN f_least_of (aAll [(eL (oLc [3] (iS (eV 2)) (gN 3) tYes (eN f_mean_of (aAll [(eV 3), (eV 1)]))))])))
def fo_back_by_one : List PyData → Option (List PyData) := fnO 4 u_back_by_one o_back_by_one
theorem oko_back_by_one (T : TX K mg) : FnG PySem.Challenge.rw_boundedchance_k85_whole_chains_led_backw.prog w K mg base 7 (He.ga K "back_by_one") (fdOf K "back_by_one") ["chain", "numbers"] (spO K 2 fo_back_by_one) := fn_own (T.df 31) sc_back_by_one (by decide) fun c cdv A outer s H E hr => by
  have sc := sc_back_by_one
  exact (b_own0 (x_lc rfl sc.nd (own := [("lots", 2)]) (i_sq (n_v 0 (pv 0))) (blkOk_by (by kernel_rfl)) (fun _ _ _ _ _ => (g_name (pg_name (i := 2) sc.nd rfl (Or.inl rfl)))) (fun _ _ _ _ _ => ts_nil) (fun _ _ _ _ _ => (x_callP (f_cons (o_e (x_lc rfl sc.nd (own := [("lot", 3)]) (i_sq (n_v 2 (pv 2))) (blkOk_by (by kernel_rfl)) (fun _ _ _ _ _ => (g_name (pg_name (i := 3) sc.nd rfl (Or.inl rfl)))) (fun _ _ _ _ _ => ts_nil) (fun _ _ _ _ _ => (x_callP (f_cons (n_v 3 (pv 3)) (f_cons (n_v 1 (pv 1)) f_nil)) (fun h => pe_callG (ok_mean_of T) (hr.mono (by decide)) rfl (T.glo 20) (T.df 20).kp (bd_mean_of T) h))) (by decide))) f_nil) (fun h => pe_callG (ok_least_of T) (hr.mono (by decide)) rfl (T.glo 14) (T.df 14).kp (bd_least_of T) h))) (by decide)))
def m_back_by_one : SM Unit :=
  (sRet (eL (oLc [2] (iS (eV 0)) (gN 2) tYes (eN f_least_of (aAll [(eL (oLc [3] (iS (eV 2)) (gN 3) tYes (eN f_mean_of (aAll [(eV 3), (eV 1)]))))])))))
def f_back_by_one : List PyData → Option PyData := fnP 4 m_back_by_one
theorem ok_back_by_one (T : TX K mg) : FnG PySem.Challenge.rw_boundedchance_k85_whole_chains_led_backw.prog w K mg base 7 (He.ga K "back_by_one") (fdOf K "back_by_one") ["chain", "numbers"] (spP K 2 f_back_by_one) := fn_pure (T.df 31) sc_back_by_one (by decide) fun c cdv A outer s H E hr => by
  have sc := sc_back_by_one
  exact (b_one (s_ret (o_e (x_lc rfl sc.nd (own := [("lots", 2)]) (i_sq (n_v 0 (pv 0))) (blkOk_by (by kernel_rfl)) (fun _ _ _ _ _ => (g_name (pg_name (i := 2) sc.nd rfl (Or.inl rfl)))) (fun _ _ _ _ _ => ts_nil) (fun _ _ _ _ _ => (x_callP (f_cons (o_e (x_lc rfl sc.nd (own := [("lot", 3)]) (i_sq (n_v 2 (pv 2))) (blkOk_by (by kernel_rfl)) (fun _ _ _ _ _ => (g_name (pg_name (i := 3) sc.nd rfl (Or.inl rfl)))) (fun _ _ _ _ _ => ts_nil) (fun _ _ _ _ _ => (x_callP (f_cons (n_v 3 (pv 3)) (f_cons (n_v 1 (pv 1)) f_nil)) (fun h => pe_callG (ok_mean_of T) (hr.mono (by decide)) rfl (T.glo 20) (T.df 20).kp (bd_mean_of T) h))) (by decide))) f_nil) (fun h => pe_callG (ok_least_of T) (hr.mono (by decide)) rfl (T.glo 14) (T.df 14).kp (bd_least_of T) h))) (by decide)))))
/-! up_by_one -/
abbrev st_up_by_one : Stmt := topS 52
theorem sc_up_by_one : FnScope ["chain", "numbers", "lots", "lot"] ["chain", "numbers"] (defScope st_up_by_one) := ⟨rfl, rfl, rfl, by decide +kernel, rfl, by decide +kernel, by decide +kernel⟩
theorem bd_up_by_one (T : TX K mg) : Binds K (fdOf K "up_by_one") ["chain", "numbers"] [] := (T.df 32).bindsN fun _ _ _ _ _ _ us hl => match us, hl with | [_, _], _ => rfl
def m_up_by_one : SM Unit :=
  (sRet (eL (oLc [2] (iS (eV 0)) (gN 2) tYes (eN f_greatest_of (aAll [(eL (oLc [3] (iS (eV 2)) (gN 3) tYes (eN f_mean_of (aAll [(eV 3), (eV 1)]))))])))))
def f_up_by_one : List PyData → Option PyData := fnP 4 m_up_by_one
theorem ok_up_by_one (T : TX K mg) : FnG PySem.Challenge.rw_boundedchance_k85_whole_chains_led_backw.prog w K mg base 7 (He.ga K "up_by_one") (fdOf K "up_by_one") ["chain", "numbers"] (spP K 2 f_up_by_one) := fn_pure (T.df 32) sc_up_by_one (by decide) fun c cdv A outer s H E hr => by
  have sc := sc_up_by_one
  exact (b_one (s_ret (o_e (x_lc rfl sc.nd (own := [("lots", 2)]) (i_sq (n_v 0 (pv 0))) (blkOk_by (by kernel_rfl)) (fun _ _ _ _ _ => (g_name (pg_name (i := 2) sc.nd rfl (Or.inl rfl)))) (fun _ _ _ _ _ => ts_nil) (fun _ _ _ _ _ => (x_callP (f_cons (o_e (x_lc rfl sc.nd (own := [("lot", 3)]) (i_sq (n_v 2 (pv 2))) (blkOk_by (by kernel_rfl)) (fun _ _ _ _ _ => (g_name (pg_name (i := 3) sc.nd rfl (Or.inl rfl)))) (fun _ _ _ _ _ => ts_nil) (fun _ _ _ _ _ => (x_callP (f_cons (n_v 3 (pv 3)) (f_cons (n_v 1 (pv 1)) f_nil)) (fun h => pe_callG (ok_mean_of T) (hr.mono (by decide)) rfl (T.glo 20) (T.df 20).kp (bd_mean_of T) h))) (by decide))) f_nil) (fun h => pe_callG (ok_greatest_of T) (hr.mono (by decide)) rfl (T.glo 15) (T.df 15).kp (bd_greatest_of T) h))) (by decide)))))
/-! back_by -/
abbrev st_back_by : Stmt := topS 53
theorem sc_back_by : FnScope ["chain", "numbers", "steps", "found", "step"] ["chain", "numbers", "steps"] (defScope st_back_by) := ⟨rfl, rfl, rfl, by decide +kernel, rfl, by decide +kernel, by decide +kernel⟩
theorem bd_back_by (T : TX K mg) : Binds K (fdOf K "back_by") ["chain", "numbers", "steps"] [] := (T.df 33).bindsN fun _ _ _ _ _ _ us hl => match us, hl with | [_, _, _], _ => rfl
def u_back_by : SM Unit :=
  (sSeq (sMov 3 1)
  (sSeq (sFor (iR1 (eV 2)) (gN 4) (sFz 3 (sOwn 3 (oN fo_back_by_one (aAll [(eV 0), (eV 3)])))))
  sNx))
def o_back_by : M Unit (List PyData) :=
  (oV 3)
def fo_back_by : List PyData → Option (List PyData) := fnT 5 1 u_back_by o_back_by
theorem oko_back_by (T : TX K mg) : FnG PySem.Challenge.rw_boundedchance_k85_whole_chains_led_backw.prog w K mg base 8 (He.ga K "back_by") (fdOf K "back_by") ["chain", "numbers", "steps"] (spT K 3 1 fo_back_by) := fn_tr (T.df 33) sc_back_by (by decide) (by decide) fun c cdv A outer s H E hr => by
  have sc := sc_back_by
  exact (b_ownC (s_mov (i := 3) (j := 1) sc.nd rfl (Or.inl rfl) (pv 1))
    (b_ownC (s_for PassesOwn.never rfl (i_rng1 (e_b (n_v 2 (pv 2))) (fun _ h => pi_range1 rfl (T.fre fr_range) h)) (g_name (pg_name (i := 4) sc.nd rfl (Or.inl rfl))) (b_fz 3 (b_one (s_own (i := 3) sc.nd rfl (Or.inl rfl) (x_callO (f_cons (n_v 0 (pv 0)) (f_cons (n_v 3 (pv 3)) f_nil)) (fun h => pe_callG (oko_back_by_one T) (hr.mono (by decide)) rfl (T.glo 31) (T.df 31).kp (bd_back_by_one T) h))))))
    (b_ownV (pv 3))))
/-! first_least -/
abbrev st_first_least : Stmt := topS 54
theorem sc_first_least : FnScope ["chain", "numbers", "found", "lots", "means", "lot"] ["chain", "numbers"] (defScope st_first_least) := ⟨rfl, rfl, rfl, by decide +kernel, rfl, by decide +kernel, by decide +kernel⟩
theorem bd_first_least (T : TX K mg) : Binds K (fdOf K "first_least") ["chain", "numbers"] [] := (T.df 34).bindsN fun _ _ _ _ _ _ us hl => match us, hl with | [_, _], _ => rfl
def m_first_least : SM Unit :=
  (sSeq (sOwn 2 (aAll []))
  (sSeq (sFor (iS (eV 0)) (gN 3) (sSeq (sSet 4 (eL (oLc [5] (iS (eV 3)) (gN 5) tYes (eN f_mean_of (aAll [(eV 5), (eV 1)])))))
  (sApp 2 (e2 dIdx (eV 4) (eN f_least_of (aAll [(eV 4)]))))))
  (sFrz (sRet (eV 2)))))
def f_first_least : List PyData → Option PyData := fnP 6 m_first_least
theorem ok_first_least (T : TX K mg) : FnG PySem.Challenge.rw_boundedchance_k85_whole_chains_led_backw.prog w K mg base 7 (He.ga K "first_least") (fdOf K "first_least") ["chain", "numbers"] (spP K 2 f_first_least) := fn_pure (T.df 34) sc_first_least (by decide) fun c cdv A outer s H E hr => by
  have sc := sc_first_least
  exact (b_cons (s_own (i := 2) sc.nd rfl (Or.inl rfl) (x_lst f_nil))
  (b_cons (s_for PassesOwn.never rfl (i_sq (n_v 0 (pv 0))) (g_name (pg_name (i := 3) sc.nd rfl (Or.inl rfl))) (b_cons (s_setLc (i := 4) rfl sc.nd rfl rfl (sw_true rfl rfl rfl (by decide +kernel)) (own := [("lot", 5)]) (i_sq (n_v 3 (pv 3))) (blkOk_by (by kernel_rfl)) (fun _ _ _ _ _ => (g_name (pg_name (i := 5) sc.nd rfl (Or.inl rfl)))) (fun _ _ _ _ _ => ts_nil) (fun _ _ _ _ _ => (x_callP (f_cons (n_v 5 (pv 5)) (f_cons (n_v 1 (pv 1)) f_nil)) (fun h => pe_callG (ok_mean_of T) (hr.mono (by decide)) rfl (T.glo 20) (T.df 20).kp (bd_mean_of T) h))) (by decide))
  (b_one (s_app (ps_expr (pe_bm PySem.F.plainAttrs_list PySem.F.slot_list_append PySem.F.type_list_append mt_append (pv 2) (pa_cons (x_idx (mt_indexD hr.u65) (e_b (n_v 4 (pv 4))) (e_b (x_callP (f_cons (n_v 4 (pv 4)) f_nil) (fun h => pe_callG (ok_least_of T) (hr.mono (by decide)) rfl (T.glo 14) (T.df 14).kp (bd_least_of T) h)))) pa_nil)))))))
  (b_frz (b_one (s_ret (n_v 2 (pv 2)))))))
/-! choices_for -/
abbrev st_choices_for : Stmt := topS 55
theorem sc_choices_for : FnScope ["chain", "numbers", "steps", "found", "here", "step"] ["chain", "numbers", "steps"] (defScope st_choices_for) := ⟨rfl, rfl, rfl, by decide +kernel, rfl, by decide +kernel, by decide +kernel⟩
theorem bd_choices_for (T : TX K mg) : Binds K (fdOf K "choices_for") ["chain", "numbers", "steps"] [] := (T.df 35).bindsN fun _ _ _ _ _ _ us hl => match us, hl with | [_, _, _], _ => rfl
def m_choices_for : SM Unit :=
  (sSeq (sParO 3 4 (aAll []) (eV 1))
  (sSeq (sFor (iR1 (eV 2)) (gN 5) (sSeq (sApp 3 (eN f_first_least (aAll [(eV 0), (eV 4)])))
  (sSet 4 (eN f_back_by_one (aAll [(eV 0), (eV 4)])))))
  (sRet (eRv (bV 3) (pS (e1 dNeg (eC (.int 1))))))))
def f_choices_for : List PyData → Option PyData := fnP 6 m_choices_for
theorem ok_choices_for (T : TX K mg) : FnG PySem.Challenge.rw_boundedchance_k85_whole_chains_led_backw.prog w K mg base 8 (He.ga K "choices_for") (fdOf K "choices_for") ["chain", "numbers", "steps"] (spP K 3 f_choices_for) := fn_pure (T.df 35) sc_choices_for (by decide) fun c cdv A outer s H E hr => by
  have sc := sc_choices_for
  exact (b_cons (s_parO (i := 3) (j := 4) rfl sc.nd rfl rfl (by decide) rfl rfl (x_lst f_nil) (n_v 1 (pv 1)) rfl)
  (b_cons (s_for PassesOwn.never rfl (i_rng1 (e_b (n_v 2 (pv 2))) (fun _ h => pi_range1 rfl (T.fre fr_range) h)) (g_name (pg_name (i := 5) sc.nd rfl (Or.inl rfl))) (b_cons (s_app (ps_expr (pe_bm PySem.F.plainAttrs_list PySem.F.slot_list_append PySem.F.type_list_append mt_append (pv 3) (pa_cons (x_callP (f_cons (n_v 0 (pv 0)) (f_cons (n_v 4 (pv 4)) f_nil)) (fun h => pe_callG (ok_first_least T) (hr.mono (by decide)) rfl (T.glo 34) (T.df 34).kp (bd_first_least T) h)) pa_nil))))
  (b_one (s_set (i := 4) sc.nd rfl (Or.inl rfl) (x_callP (f_cons (n_v 0 (pv 0)) (f_cons (n_v 4 (pv 4)) f_nil)) (fun h => pe_callG (ok_back_by_one T) (hr.mono (by decide)) rfl (T.glo 31) (T.df 31).kp (bd_back_by_one T) h))))))
  (b_one (s_ret (x_rv (n_b 3 (pv 3)) (p_some (e_b (x_neg (e_b k_int)))))))))
/-! moved -/
abbrev st_moved : Stmt := topS 56
theorem sc_moved : FnScope ["chain", "choice", "lot", "found", "state", "some", "one", "lots", "at"] ["chain", "choice", "lot"] (defScope st_moved) := ⟨rfl, rfl, rfl, by decide +kernel, rfl, by decide +kernel, by decide +kernel⟩
theorem bd_moved (T : TX K mg) : Binds K (fdOf K "moved") ["chain", "choice", "lot"] [] := (T.df 36).bindsN fun _ _ _ _ _ _ us hl => match us, hl with | [_, _, _], _ => rfl
def m_moved : SM Unit :=
  (sSeq (sOwn 3 (aAll []))
  (sSeq (sFor (iR1 (eN dLen (aAll [(eV 0)]))) (gN 4) (sSeq (sSet 5 (eL (oLc [6, 7, 8] (iZ3 (eV 2) (eV 0) (eV 1)) (gT [(gN 6), (gN 7), (gN 8)]) tYes (eN f_multiply (aAll [(eV 6), (e2 dIx (e2 dIx (eV 7) (eV 8)) (eV 4))])))))
  (sApp 3 (eN f_total (aAll [(eV 5)])))))
  (sRet (eN dTup (aAll [(bV 3)])))))
def f_moved : List PyData → Option PyData := fnP 9 m_moved
theorem ok_moved (T : TX K mg) : FnG PySem.Challenge.rw_boundedchance_k85_whole_chains_led_backw.prog w K mg base 5 (He.ga K "moved") (fdOf K "moved") ["chain", "choice", "lot"] (spP K 3 f_moved) := fn_pure (T.df 36) sc_moved (by decide) fun c cdv A outer s H E hr => by
  have sc := sc_moved
  exact (b_cons (s_own (i := 3) sc.nd rfl (Or.inl rfl) (x_lst f_nil))
  (b_cons (s_for PassesOwn.never rfl (i_rng1 (e_b (x_callT dn_len (a_cons (e_b (n_v 0 (pv 0))) a_nil) (fun _ h => pe_callB cr_lenD rfl (T.fre fr_len) PySem.boot_len h))) (fun _ h => pi_range1 rfl (T.fre fr_range) h)) (g_name (pg_name (i := 4) sc.nd rfl (Or.inr rfl))) (b_cons (s_setLc (i := 5) rfl sc.nd rfl rfl (sw_true rfl rfl rfl (by decide +kernel)) (own := [("one", 6), ("lots", 7), ("at", 8)]) (i_zip3 (n_v 2 (pv 2)) (n_v 0 (pv 0)) (n_v 1 (pv 1)) (fun _ h => pi_zip3 rfl (T.fre fr_zip) h)) (blkOk_by (by kernel_rfl)) (fun _ _ _ _ _ => (g_tup (pg_tup rfl (gs_cons (g_name (pg_name (i := 6) sc.nd rfl (Or.inl rfl))) (gs_cons (g_name (pg_name (i := 7) sc.nd rfl (Or.inl rfl))) (gs_cons (g_name (pg_name (i := 8) sc.nd rfl (Or.inl rfl))) gs_nil)))) rfl)) (fun _ _ _ _ _ => ts_nil) (fun _ _ _ _ _ => (x_callP (f_cons (n_v 6 (pv 6)) (f_cons (x_ix ix_seq (e_b (x_ix ix_seq (e_b (n_v 7 (pv 7))) (e_b (n_v 8 (pv 8))) (fun _ _ => rfl))) (e_b (n_v 4 (pv 4))) (fun _ _ => rfl)) f_nil)) (fun h => pe_callG (ok_multiply T) (hr.mono (by decide)) rfl (T.glo 9) (T.df 9).kp (bd_multiply T) h))) (by decide))
  (b_one (s_app (ps_expr (pe_bm PySem.F.plainAttrs_list PySem.F.slot_list_append PySem.F.type_list_append mt_append (pv 3) (pa_cons (x_callP (f_cons (n_v 5 (pv 5)) f_nil) (fun h => pe_callG (ok_total T) (hr.mono (by decide)) rfl (T.glo 13) (T.df 13).kp (bd_total T) h)) pa_nil)))))))
  (b_one (s_ret (x_callT dn_tup (a_cons (n_b 3 (pv 3)) a_nil) (fun _ h => pe_callTy call_tuple_of rfl (T.fre fr_tuple) PyProof.Rows.boot_tuple h))))))
/-! led_back -/
abbrev st_led_back : Stmt := topS 57
theorem sc_led_back : FnScope ["chain", "wish", "steps"] ["chain", "wish", "steps"] (defScope st_led_back) := ⟨rfl, rfl, rfl, by decide +kernel, rfl, by decide +kernel, by decide +kernel⟩
theorem bd_led_back (T : TX K mg) : Binds K (fdOf K "led_back") ["chain", "wish", "steps"] [] := (T.df 37).bindsN fun _ _ _ _ _ _ us hl => match us, hl with | [_, _, _], _ => rfl
def u_led_back : SM Unit :=
  (sSeq (sDrop (eN f_check_chain (aAll [(eV 0)])))
  (sSeq (sDrop (eN f_check_wish (aAll [(eN dLen (aAll [(eV 0)])), (eV 1)])))
  (sSeq (sDrop (eN f_check_steps (aAll [(eV 2)])))
  sNx)))
def o_led_back : M Unit (List PyData) :=
  (oT fo_back_by (eV 0) (oN fo_whole (aAll [(eV 1)])) (eV 2))
def fo_led_back : List PyData → Option (List PyData) := fnO 3 u_led_back o_led_back
theorem oko_led_back (T : TX K mg) : FnG PySem.Challenge.rw_boundedchance_k85_whole_chains_led_backw.prog w K mg base 9 (He.ga K "led_back") (fdOf K "led_back") ["chain", "wish", "steps"] (spO K 3 fo_led_back) := fn_own (T.df 37) sc_led_back (by decide) fun c cdv A outer s H E hr => by
  have sc := sc_led_back
  exact (b_ownC (s_drop (x_callP (f_cons (n_v 0 (pv 0)) f_nil) (fun h => pe_callG (ok_check_chain T) (hr.mono (by decide)) rfl (T.glo 25) (T.df 25).kp (bd_check_chain T) h)))
    (b_ownC (s_drop (x_callP (f_cons (x_callT dn_len (a_cons (e_b (n_v 0 (pv 0))) a_nil) (fun _ h => pe_callB cr_lenD rfl (T.fre fr_len) PySem.boot_len h)) (f_cons (n_v 1 (pv 1)) f_nil)) (fun h => pe_callG (ok_check_wish T) (hr.mono (by decide)) rfl (T.glo 22) (T.df 22).kp (bd_check_wish T) h)))
    (b_ownC (s_drop (x_callP (f_cons (n_v 2 (pv 2)) f_nil) (fun h => pe_callG (ok_check_steps T) (hr.mono (by decide)) rfl (T.glo 27) (T.df 27).kp (bd_check_steps T) h)))
    (b_own0 (PE.imp (pe_callG (E := E0) (oko_back_by T) (hr.mono (by decide)) rfl (T.glo 33) (T.df 33).kp (bd_back_by T) (pa_cons (n_v 0 (pv 0)) (pa_cons (x_callO (f_cons (n_v 1 (pv 1)) f_nil) (fun h => pe_callG (oko_whole T) (hr.mono (by decide)) rfl (T.glo 30) (T.df 30).kp (bd_whole T) h)) (pa_cons (n_v 2 (pv 2)) pa_nil)))) (fun _ _ _ h => callT_run h))))))
def f_led_back : List PyData → Option PyData := fun ds => (fo_led_back ds).map PyData.list
theorem ok_led_back (T : TX K mg) : FnG PySem.Challenge.rw_boundedchance_k85_whole_chains_led_backw.prog w K mg base 9 (He.ga K "led_back") (fdOf K "led_back") ["chain", "wish", "steps"] (spP K 3 f_led_back) := (oko_led_back T).lst
/-! led_up -/
abbrev st_led_up : Stmt := topS 58
theorem sc_led_up : FnScope ["chain", "wish", "steps", "found", "step"] ["chain", "wish", "steps"] (defScope st_led_up) := ⟨rfl, rfl, rfl, by decide +kernel, rfl, by decide +kernel, by decide +kernel⟩
theorem bd_led_up (T : TX K mg) : Binds K (fdOf K "led_up") ["chain", "wish", "steps"] [] := (T.df 38).bindsN fun _ _ _ _ _ _ us hl => match us, hl with | [_, _, _], _ => rfl
def m_led_up : SM Unit :=
  (sSeq (sDrop (eN f_check_chain (aAll [(eV 0)])))
  (sSeq (sDrop (eN f_check_wish (aAll [(eN dLen (aAll [(eV 0)])), (eV 1)])))
  (sSeq (sDrop (eN f_check_steps (aAll [(eV 2)])))
  (sSeq (sSet 3 (eN f_whole (aAll [(eV 1)])))
  (sSeq (sFor (iR1 (eV 2)) (gN 4) (sSet 3 (eN f_up_by_one (aAll [(eV 0), (eV 3)]))))
  (sRet (eV 3)))))))
def f_led_up : List PyData → Option PyData := fnP 5 m_led_up
theorem ok_led_up (T : TX K mg) : FnG PySem.Challenge.rw_boundedchance_k85_whole_chains_led_backw.prog w K mg base 9 (He.ga K "led_up") (fdOf K "led_up") ["chain", "wish", "steps"] (spP K 3 f_led_up) := fn_pure (T.df 38) sc_led_up (by decide) fun c cdv A outer s H E hr => by
  have sc := sc_led_up
  exact (b_cons (s_drop (x_callP (f_cons (n_v 0 (pv 0)) f_nil) (fun h => pe_callG (ok_check_chain T) (hr.mono (by decide)) rfl (T.glo 25) (T.df 25).kp (bd_check_chain T) h)))
  (b_cons (s_drop (x_callP (f_cons (x_callT dn_len (a_cons (e_b (n_v 0 (pv 0))) a_nil) (fun _ h => pe_callB cr_lenD rfl (T.fre fr_len) PySem.boot_len h)) (f_cons (n_v 1 (pv 1)) f_nil)) (fun h => pe_callG (ok_check_wish T) (hr.mono (by decide)) rfl (T.glo 22) (T.df 22).kp (bd_check_wish T) h)))
  (b_cons (s_drop (x_callP (f_cons (n_v 2 (pv 2)) f_nil) (fun h => pe_callG (ok_check_steps T) (hr.mono (by decide)) rfl (T.glo 27) (T.df 27).kp (bd_check_steps T) h)))
  (b_cons (s_set (i := 3) sc.nd rfl (Or.inl rfl) (x_callP (f_cons (n_v 1 (pv 1)) f_nil) (fun h => pe_callG (ok_whole T) (hr.mono (by decide)) rfl (T.glo 30) (T.df 30).kp (bd_whole T) h)))
  (b_cons (s_for PassesOwn.never rfl (i_rng1 (e_b (n_v 2 (pv 2))) (fun _ h => pi_range1 rfl (T.fre fr_range) h)) (g_name (pg_name (i := 4) sc.nd rfl (Or.inl rfl))) (b_one (s_set (i := 3) sc.nd rfl (Or.inl rfl) (x_callP (f_cons (n_v 0 (pv 0)) (f_cons (n_v 3 (pv 3)) f_nil)) (fun h => pe_callG (ok_up_by_one T) (hr.mono (by decide)) rfl (T.glo 32) (T.df 32).kp (bd_up_by_one T) h)))))
  (b_one (s_ret (n_v 3 (pv 3)))))))))
/-! told_choices -/
abbrev st_told_choices : Stmt := topS 59
theorem sc_told_choices : FnScope ["chain", "wish", "steps"] ["chain", "wish", "steps"] (defScope st_told_choices) := ⟨rfl, rfl, rfl, by decide +kernel, rfl, by decide +kernel, by decide +kernel⟩
theorem bd_told_choices (T : TX K mg) : Binds K (fdOf K "told_choices") ["chain", "wish", "steps"] [] := (T.df 39).bindsN fun _ _ _ _ _ _ us hl => match us, hl with | [_, _, _], _ => rfl
def m_told_choices : SM Unit :=
  (sSeq (sDrop (eN f_check_chain (aAll [(eV 0)])))
  (sSeq (sDrop (eN f_check_wish (aAll [(eN dLen (aAll [(eV 0)])), (eV 1)])))
  (sSeq (sDrop (eN f_check_steps (aAll [(eV 2)])))
  (sRet (eN f_choices_for (aAll [(eV 0), (eN f_whole (aAll [(eV 1)])), (eV 2)]))))))
def f_told_choices : List PyData → Option PyData := fnP 3 m_told_choices
theorem ok_told_choices (T : TX K mg) : FnG PySem.Challenge.rw_boundedchance_k85_whole_chains_led_backw.prog w K mg base 9 (He.ga K "told_choices") (fdOf K "told_choices") ["chain", "wish", "steps"] (spP K 3 f_told_choices) := fn_pure (T.df 39) sc_told_choices (by decide) fun c cdv A outer s H E hr => by
  have sc := sc_told_choices
  exact (b_cons (s_drop (x_callP (f_cons (n_v 0 (pv 0)) f_nil) (fun h => pe_callG (ok_check_chain T) (hr.mono (by decide)) rfl (T.glo 25) (T.df 25).kp (bd_check_chain T) h)))
  (b_cons (s_drop (x_callP (f_cons (x_callT dn_len (a_cons (e_b (n_v 0 (pv 0))) a_nil) (fun _ h => pe_callB cr_lenD rfl (T.fre fr_len) PySem.boot_len h)) (f_cons (n_v 1 (pv 1)) f_nil)) (fun h => pe_callG (ok_check_wish T) (hr.mono (by decide)) rfl (T.glo 22) (T.df 22).kp (bd_check_wish T) h)))
  (b_cons (s_drop (x_callP (f_cons (n_v 2 (pv 2)) f_nil) (fun h => pe_callG (ok_check_steps T) (hr.mono (by decide)) rfl (T.glo 27) (T.df 27).kp (bd_check_steps T) h)))
  (b_one (s_ret (x_callP (f_cons (n_v 0 (pv 0)) (f_cons (x_callP (f_cons (n_v 1 (pv 1)) f_nil) (fun h => pe_callG (ok_whole T) (hr.mono (by decide)) rfl (T.glo 30) (T.df 30).kp (bd_whole T) h)) (f_cons (n_v 2 (pv 2)) f_nil))) (fun h => pe_callG (ok_choices_for T) (hr.mono (by decide)) rfl (T.glo 35) (T.df 35).kp (bd_choices_for T) h)))))))
/-! lot_behind -/
abbrev st_lot_behind : Stmt := topS 60
theorem sc_lot_behind : FnScope ["chain", "choices", "state", "found", "choice"] ["chain", "choices", "state"] (defScope st_lot_behind) := ⟨rfl, rfl, rfl, by decide +kernel, rfl, by decide +kernel, by decide +kernel⟩
theorem bd_lot_behind (T : TX K mg) : Binds K (fdOf K "lot_behind") ["chain", "choices", "state"] [] := (T.df 40).bindsN fun _ _ _ _ _ _ us hl => match us, hl with | [_, _, _], _ => rfl
def m_lot_behind : SM Unit :=
  (sSeq (sDrop (eN f_check_chain (aAll [(eV 0)])))
  (sSeq (sDrop (eN f_check_choices (aAll [(eV 0), (eV 1)])))
  (sSeq (sDrop (eN f_check_state (aAll [(eV 0), (eV 2)])))
  (sSeq (sSet 3 (eN f_sure_lot (aAll [(eN dLen (aAll [(eV 0)])), (eV 2)])))
  (sSeq (sFor (iS (eV 1)) (gN 4) (sSet 3 (eN f_moved (aAll [(eV 0), (eV 4), (eV 3)]))))
  (sRet (eV 3)))))))
def f_lot_behind : List PyData → Option PyData := fnP 5 m_lot_behind
theorem ok_lot_behind (T : TX K mg) : FnG PySem.Challenge.rw_boundedchance_k85_whole_chains_led_backw.prog w K mg base 9 (He.ga K "lot_behind") (fdOf K "lot_behind") ["chain", "choices", "state"] (spP K 3 f_lot_behind) := fn_pure (T.df 40) sc_lot_behind (by decide) fun c cdv A outer s H E hr => by
  have sc := sc_lot_behind
  exact (b_cons (s_drop (x_callP (f_cons (n_v 0 (pv 0)) f_nil) (fun h => pe_callG (ok_check_chain T) (hr.mono (by decide)) rfl (T.glo 25) (T.df 25).kp (bd_check_chain T) h)))
  (b_cons (s_drop (x_callP (f_cons (n_v 0 (pv 0)) (f_cons (n_v 1 (pv 1)) f_nil)) (fun h => pe_callG (ok_check_choices T) (hr.mono (by decide)) rfl (T.glo 29) (T.df 29).kp (bd_check_choices T) h)))
  (b_cons (s_drop (x_callP (f_cons (n_v 0 (pv 0)) (f_cons (n_v 2 (pv 2)) f_nil)) (fun h => pe_callG (ok_check_state T) (hr.mono (by decide)) rfl (T.glo 26) (T.df 26).kp (bd_check_state T) h)))
  (b_cons (s_set (i := 3) sc.nd rfl (Or.inl rfl) (x_callP (f_cons (x_callT dn_len (a_cons (e_b (n_v 0 (pv 0))) a_nil) (fun _ h => pe_callB cr_lenD rfl (T.fre fr_len) PySem.boot_len h)) (f_cons (n_v 2 (pv 2)) f_nil)) (fun h => pe_callG (ok_sure_lot T) (hr.mono (by decide)) rfl (T.glo 19) (T.df 19).kp (bd_sure_lot T) h)))
  (b_cons (s_for PassesOwn.never rfl (i_sq (n_v 1 (pv 1))) (g_name (pg_name (i := 4) sc.nd rfl (Or.inl rfl))) (b_one (s_set (i := 3) sc.nd rfl (Or.inl rfl) (x_callP (f_cons (n_v 0 (pv 0)) (f_cons (n_v 4 (pv 4)) (f_cons (n_v 3 (pv 3)) f_nil))) (fun h => pe_callG (ok_moved T) (hr.mono (by decide)) rfl (T.glo 36) (T.df 36).kp (bd_moved T) h)))))
  (b_one (s_ret (n_v 3 (pv 3)))))))))
/-! means_behind -/
abbrev st_means_behind : Stmt := topS 61
theorem sc_means_behind : FnScope ["chain", "choices", "wish", "found", "choice", "lots", "at"] ["chain", "choices", "wish"] (defScope st_means_behind) := ⟨rfl, rfl, rfl, by decide +kernel, rfl, by decide +kernel, by decide +kernel⟩
theorem bd_means_behind (T : TX K mg) : Binds K (fdOf K "means_behind") ["chain", "choices", "wish"] [] := (T.df 41).bindsN fun _ _ _ _ _ _ us hl => match us, hl with | [_, _, _], _ => rfl
def m_means_behind : SM Unit :=
  (sSeq (sDrop (eN f_check_chain (aAll [(eV 0)])))
  (sSeq (sDrop (eN f_check_choices (aAll [(eV 0), (eV 1)])))
  (sSeq (sDrop (eN f_check_wish (aAll [(eN dLen (aAll [(eV 0)])), (eV 2)])))
  (sSeq (sSet 3 (eN f_whole (aAll [(eV 2)])))
  (sSeq (sFor (iS (eRv (eL (oN dListO (aAll [(eV 1)]))) (pS (e1 dNeg (eC (.int 1)))))) (gN 4) (sSet 3 (eL (oLc [5, 6] (iZ (eV 0) (eV 4)) (gT [(gN 5), (gN 6)]) tYes (eN f_mean_of (aAll [(e2 dIx (eV 5) (eV 6)), (eV 3)]))))))
  (sRet (eV 3)))))))
def f_means_behind : List PyData → Option PyData := fnP 7 m_means_behind
theorem ok_means_behind (T : TX K mg) : FnG PySem.Challenge.rw_boundedchance_k85_whole_chains_led_backw.prog w K mg base 9 (He.ga K "means_behind") (fdOf K "means_behind") ["chain", "choices", "wish"] (spP K 3 f_means_behind) := fn_pure (T.df 41) sc_means_behind (by decide) fun c cdv A outer s H E hr => by
  have sc := sc_means_behind
  exact (b_cons (s_drop (x_callP (f_cons (n_v 0 (pv 0)) f_nil) (fun h => pe_callG (ok_check_chain T) (hr.mono (by decide)) rfl (T.glo 25) (T.df 25).kp (bd_check_chain T) h)))
  (b_cons (s_drop (x_callP (f_cons (n_v 0 (pv 0)) (f_cons (n_v 1 (pv 1)) f_nil)) (fun h => pe_callG (ok_check_choices T) (hr.mono (by decide)) rfl (T.glo 29) (T.df 29).kp (bd_check_choices T) h)))
  (b_cons (s_drop (x_callP (f_cons (x_callT dn_len (a_cons (e_b (n_v 0 (pv 0))) a_nil) (fun _ h => pe_callB cr_lenD rfl (T.fre fr_len) PySem.boot_len h)) (f_cons (n_v 2 (pv 2)) f_nil)) (fun h => pe_callG (ok_check_wish T) (hr.mono (by decide)) rfl (T.glo 22) (T.df 22).kp (bd_check_wish T) h)))
  (b_cons (s_set (i := 3) sc.nd rfl (Or.inr rfl) (x_callP (f_cons (n_v 2 (pv 2)) f_nil) (fun h => pe_callG (ok_whole T) (hr.mono (by decide)) rfl (T.glo 30) (T.df 30).kp (bd_whole T) h)))
  (b_cons (s_for PassesOwn.never rfl (i_sq (x_rv (o_b (x_callTo dn_list (a_cons (e_b (n_v 1 (pv 1))) a_nil) (fun _ h => pe_callTy call_list_of rfl (T.fre fr_list) PyProof.Rows.boot_list h))) (p_some (e_b (x_neg (e_b k_int)))))) (g_name (pg_name (i := 4) sc.nd rfl (Or.inl rfl))) (b_one (s_set (i := 3) sc.nd rfl (Or.inr rfl) (o_e (x_lc rfl sc.nd (own := [("lots", 5), ("at", 6)]) (i_zip (n_v 0 (pv 0)) (n_v 4 (pv 4)) (fun _ h => pi_zipG rfl (T.fre fr_zip) h)) (blkOk_by (by kernel_rfl)) (fun _ _ _ _ _ => (g_tup (pg_tup rfl (gs_cons (g_name (pg_name (i := 5) sc.nd rfl (Or.inl rfl))) (gs_cons (g_name (pg_name (i := 6) sc.nd rfl (Or.inl rfl))) gs_nil))) rfl)) (fun _ _ _ _ _ => ts_nil) (fun _ _ _ _ _ => (x_callP (f_cons (x_ix ix_seq (e_b (n_v 5 (pv 5))) (e_b (n_v 6 (pv 6))) (fun _ _ => rfl)) (f_cons (n_v 3 (pv 3)) f_nil)) (fun h => pe_callG (ok_mean_of T) (hr.mono (by decide)) rfl (T.glo 20) (T.df 20).kp (bd_mean_of T) h))) (by decide))))))
  (b_one (s_ret (n_v 3 (pv 3)))))))))
/-! _law_pot -/
abbrev st__law_pot : Stmt := topS 63
theorem sc__law_pot : FnScope ["script", "k", "cell"] ["script", "k"] (defScope st__law_pot) := ⟨rfl, rfl, rfl, by decide +kernel, rfl, by decide +kernel, by decide +kernel⟩
theorem bd__law_pot (T : TX K mg) : Binds K (fdOf K "_law_pot") ["script", "k"] [] := (T.df 42).bindsN fun _ _ _ _ _ _ us hl => match us, hl with | [_, _], _ => rfl
def u__law_pot : SM Unit :=
  (sSet 2 (eIf (tV (e2 dLt (eV 1) (eN dLen (aAll [(eV 0)])))) (eN dAbs (aAll [(e2 dIx (eV 0) (eV 1))])) (e2 dAdd (e2 dMul (eC (.int 3319)) (eV 1)) (eC (.int 1999)))))
def o__law_pot : M Unit (List PyData) :=
  (aAll [(eN dMax2 (aAll [(eC (.int 0)), (e2 dSub (eV 2) (e2 dPow (eC (.int 10)) (eC (.int 18))))])), (e2 dAdd (e2 dMod (eN dInt (aAll [(e2 dAdd (e2 dAdd (e2 dMul (e2 dMod (eN dInt (aAll [(eV 2)])) (eC (.int 2147483549))) (eC (.int 43999))) (e2 dMul (eC (.int 1999)) (eV 1))) (eC (.int 3319)))])) (eC (.int 2147483563))) (eC (.int 1)))])
def f__law_pot : List PyData → Option (List PyData) := fnO 3 u__law_pot o__law_pot
theorem ok__law_pot (T : TX K mg) : FnG PySem.Challenge.rw_boundedchance_k85_whole_chains_led_backw.prog w K mg base 1 (He.ga K "_law_pot") (fdOf K "_law_pot") ["script", "k"] (spO K 2 f__law_pot) := fn_own (T.df 42) sc__law_pot (by decide) fun c cdv A outer s H E hr => by
  have sc := sc__law_pot
  exact b_retO (u := u__law_pot) (mo := o__law_pot) (s_set (i := 2) sc.nd rfl (Or.inl rfl) (x_if (y_cmp op_lt d2_I (e_b (n_v 1 (pv 1))) (e_b (x_callT dn_len (a_cons (e_b (n_v 0 (pv 0))) a_nil) (fun _ h => pe_callB cr_lenD rfl (T.fre fr_len) PySem.boot_len h))) (nomark _)) (x_callT dn_abs (a_cons (e_b (x_ix ix_seq (e_b (n_v 0 (pv 0))) (e_b (n_v 1 (pv 1))) (fun _ _ => rfl))) a_nil) (fun _ h => pe_callB call_abs rfl (T.fre fr_abs) PyProof.Rows.boot_abs h)) (x_op op_addA d2_add (e_b (x_op op_mulA d2_mul (e_b k_int) (e_b (n_v 1 (pv 1))))) (e_b k_int))))
    (x_lst (f_cons (x_callT dn_max2 (a_cons (e_b k_int) (a_cons (e_b (x_op op_sub d2_sub (e_b (n_v 2 (pv 2))) (e_b (x_op op_pow d2_pow (e_b k_int) (e_b k_int))))) a_nil)) (fun _ h => pe_callB (call_max2 rfl) rfl (T.fre fr_max) PyProof.Rows.boot_max h)) (f_cons (x_op op_addA d2_add (e_b (x_op op_mod d2_mod (e_b (x_callT dn_int (a_cons (e_b (x_op op_addA d2_add (e_b (x_op op_addA d2_add (e_b (x_op op_mulA d2_mul (e_b (x_op op_mod d2_mod (e_b (x_callT dn_int (a_cons (e_b (n_v 2 (pv 2))) a_nil) (fun _ h => pe_callTy call_int1 rfl (T.fre fr_int) PyProof.Rows.boot_int h))) (e_b k_int))) (e_b k_int))) (e_b (x_op op_mulA d2_mul (e_b k_int) (e_b (n_v 1 (pv 1))))))) (e_b k_int))) a_nil) (fun _ h => pe_callTy call_int1 rfl (T.fre fr_int) PyProof.Rows.boot_int h))) (e_b k_int))) (e_b k_int)) f_nil)))
/-! _law_draw -/
abbrev st__law_draw : Stmt := topS 64
theorem sc__law_draw : FnScope ["pot", "many", "digit"] ["pot", "many"] (defScope st__law_draw) := ⟨rfl, rfl, rfl, by decide +kernel, rfl, by decide +kernel, by decide +kernel⟩
theorem bd__law_draw (T : TX K mg) : Binds K (fdOf K "_law_draw") ["pot", "many"] [] := (T.df 43).bindsN fun _ _ _ _ _ _ us hl => match us, hl with | [_, _], _ => rfl
def m__law_draw : SM (List PyData) :=
  (sSeq (sIf (tV (e2 dGt (eReg 0 (eC (.int 0))) (eC (.int 0)))) (sSeq (sBind (gT [(gReg 0 (eC (.int 0))), (gN 2)]) (eN dDivmod (aAll [(eReg 0 (eC (.int 0))), (eV 1)])))
  (sRet (eV 2))) sNx)
  (sSeq (sBind (gReg 0 (eC (.int 1))) (e2 dMod (eN dInt (aAll [(e2 dAdd (e2 dMul (eReg 0 (eC (.int 1))) (eC (.int 40014))) (eC (.int 2521)))])) (eC (.int 2147483563))))
  (sRet (e2 dMod (eN dInt (aAll [(e2 dDiv (e2 dMod (eN dInt (aAll [(e2 dMul (eReg 0 (eC (.int 1))) (eReg 0 (eC (.int 1))))])) (eC (.int 2147483549))) (eC (.int 17)))])) (eV 1)))))
def f__law_draw : List PyData → List PyData → Option (PyData × List PyData) := fnR 2 m__law_draw
theorem ok__law_draw (T : TX K mg) : FnG PySem.Challenge.rw_boundedchance_k85_whole_chains_led_backw.prog w K mg base 1 (He.ga K "_law_draw") (fdOf K "_law_draw") ["pot", "many"] (spR K (IsPot K) 1 f__law_draw) := fn_reg (T.df 43) sc__law_draw (by decide) rfl fun c cdv A outer s H E hrr hr => by
  have sc := sc__law_draw
  exact (b_cons (s_if (y_cmp op_gt d2_I (e_b (x_reg hrr ix_list (pv 0) (e_b k_int) (fun _ _ => rfl))) (e_b k_int) (nomark _)) (b_cons (s_bind (x_callT dn_divmod (a_cons (e_b (x_reg hrr ix_list (pv 0) (e_b k_int) (fun _ _ => rfl))) (a_cons (e_b (n_v 1 (pv 1))) a_nil)) (fun _ h => pe_callB call_divmod rfl (T.fre fr_divmod) PyProof.Rows.boot_divmod h)) (g_tup (pg_tup rfl (gs_cons (g_reg hrr (pg_sub (pv 0) (e_b k_int) set_list)) (gs_cons (g_name (pg_name (i := 2) sc.nd rfl (Or.inl rfl))) gs_nil))) rfl))
  (b_one (s_ret (n_v 2 (pv 2))))) b_nil)
  (b_cons (s_bind (x_op op_mod d2_mod (e_b (x_callT dn_int (a_cons (e_b (x_op op_addA d2_add (e_b (x_op op_mulA d2_mul (e_b (x_reg hrr ix_list (pv 0) (e_b k_int) (fun _ _ => rfl))) (e_b k_int))) (e_b k_int))) a_nil) (fun _ h => pe_callTy call_int1 rfl (T.fre fr_int) PyProof.Rows.boot_int h))) (e_b k_int)) (g_reg hrr (pg_sub (pv 0) (e_b k_int) set_list)))
  (b_one (s_ret (x_op op_mod d2_mod (e_b (x_callT dn_int (a_cons (e_b (x_op op_fdivW d2_div (e_b (x_op op_mod d2_mod (e_b (x_callT dn_int (a_cons (e_b (x_op op_mulA d2_mul (e_b (x_reg hrr ix_list (pv 0) (e_b k_int) (fun _ _ => rfl))) (e_b (x_reg hrr ix_list (pv 0) (e_b k_int) (fun _ _ => rfl))))) a_nil) (fun _ h => pe_callTy call_int1 rfl (T.fre fr_int) PyProof.Rows.boot_int h))) (e_b k_int))) (e_b k_int))) a_nil) (fun _ h => pe_callTy call_int1 rfl (T.fre fr_int) PyProof.Rows.boot_int h))) (e_b (n_v 1 (pv 1))))))))
/-! _law_pick -/
abbrev st__law_pick : Stmt := topS 65
theorem sc__law_pick : FnScope ["pot", "some"] ["pot", "some"] (defScope st__law_pick) := ⟨rfl, rfl, rfl, by decide +kernel, rfl, by decide +kernel, by decide +kernel⟩
theorem bd__law_pick (T : TX K mg) : Binds K (fdOf K "_law_pick") ["pot", "some"] [] := (T.df 44).bindsN fun _ _ _ _ _ _ us hl => match us, hl with | [_, _], _ => rfl
def m__law_pick : SM (List PyData) :=
  (sRet (e2 dIx (eV 1) (eR f__law_draw 0 (aAll [(eN dLen (aAll [(eV 1)]))]))))
def f__law_pick : List PyData → List PyData → Option (PyData × List PyData) := fnR 1 m__law_pick
theorem ok__law_pick (T : TX K mg) : FnG PySem.Challenge.rw_boundedchance_k85_whole_chains_led_backw.prog w K mg base 2 (He.ga K "_law_pick") (fdOf K "_law_pick") ["pot", "some"] (spR K (IsPot K) 1 f__law_pick) := fn_reg (T.df 44) sc__law_pick (by decide) rfl fun c cdv A outer s H E hrr hr => by
  have sc := sc__law_pick
  exact (b_one (s_ret (x_ix ix_seq (e_b (n_v 1 (pv 1))) (e_b (x_callR hrr (pv 0) (f_cons (x_callT dn_len (a_cons (e_b (n_v 1 (pv 1))) a_nil) (fun _ h => pe_callB cr_lenD rfl (T.fre fr_len) PySem.boot_len h)) f_nil) (fun h => pe_callG (ok__law_draw T) (hr.mono (by decide)) rfl (T.glo 43) (T.df 43).kp (bd__law_draw T) h))) (fun _ _ => rfl))))
/-! _law_frac -/
abbrev st__law_frac : Stmt := topS 66
theorem sc__law_frac : FnScope ["top", "bottom", "one", "late"] ["top", "bottom"] (defScope st__law_frac) := ⟨rfl, rfl, rfl, by decide +kernel, rfl, by decide +kernel, by decide +kernel⟩
theorem bd__law_frac (T : TX K mg) : Binds K (fdOf K "_law_frac") ["top", "bottom"] [] := (T.df 45).bindsN fun _ _ _ _ _ _ us hl => match us, hl with | [_, _], _ => rfl
def m__law_frac : SM Unit :=
  (sSeq (sIf (tV (e2 dLt (eV 1) (eC (.int 0)))) (sPar [0, 1] [(e2 dSub (eC (.int 0)) (eV 0)), (e2 dSub (eC (.int 0)) (eV 1))]) sNx)
  (sSeq (sPar [2, 3] [(eN dAbs (aAll [(eV 0)])), (eV 1)])
  (sSeq (sWhile (fuelV 3) (tV (e2 dGt (eV 3) (eC (.int 0)))) (sPar [2, 3] [(eV 3), (e2 dMod (eN dInt (aAll [(eV 2)])) (eV 3))]))
  (sRet (eTup (aAll [(e2 dDiv (eV 0) (eV 2)), (e2 dDiv (eV 1) (eV 2))]))))))
def f__law_frac : List PyData → Option PyData := fnP 4 m__law_frac
theorem ok__law_frac (T : TX K mg) : FnG PySem.Challenge.rw_boundedchance_k85_whole_chains_led_backw.prog w K mg base 1 (He.ga K "_law_frac") (fdOf K "_law_frac") ["top", "bottom"] (spP K 2 f__law_frac) := fn_pure (T.df 45) sc__law_frac (by decide) fun c cdv A outer s H E hr => by
  have sc := sc__law_frac
  exact (b_cons (s_if (y_cmp op_lt d2_I (e_b (n_v 1 (pv 1))) (e_b k_int) (nomark _)) (b_one (s_par (i := 0) (j := 1) rfl sc.nd rfl rfl (by decide) rfl rfl (f_cons (x_op op_sub d2_sub (e_b k_int) (e_b (n_v 0 (pv 0)))) (f_cons (x_op op_sub d2_sub (e_b k_int) (e_b (n_v 1 (pv 1)))) f_nil)) rfl)) b_nil)
  (b_cons (s_par (i := 2) (j := 3) rfl sc.nd rfl rfl (by decide) rfl rfl (f_cons (x_callT dn_abs (a_cons (e_b (n_v 0 (pv 0))) a_nil) (fun _ h => pe_callB call_abs rfl (T.fre fr_abs) PyProof.Rows.boot_abs h)) (f_cons (n_v 1 (pv 1)) f_nil)) rfl)
  (b_cons (s_while (fuelV 3) PassesOwn.never (y_cmp op_gt d2_I (e_b (n_v 3 (pv 3))) (e_b k_int) (nomark _)) (b_one (s_par (i := 2) (j := 3) rfl sc.nd rfl rfl (by decide) rfl rfl (f_cons (n_v 3 (pv 3)) (f_cons (x_op op_mod d2_mod (e_b (x_callT dn_int (a_cons (e_b (n_v 2 (pv 2))) a_nil) (fun _ h => pe_callTy call_int1 rfl (T.fre fr_int) PyProof.Rows.boot_int h))) (e_b (n_v 3 (pv 3)))) f_nil)) rfl)))
  (b_one (s_ret (x_tup (f_cons (x_op op_fdivW d2_div (e_b (n_v 0 (pv 0))) (e_b (n_v 2 (pv 2)))) (f_cons (x_op op_fdivW d2_div (e_b (n_v 1 (pv 1))) (e_b (n_v 2 (pv 2)))) f_nil))))))))
/-! _law_plus -/
abbrev st__law_plus : Stmt := topS 67
theorem sc__law_plus : FnScope ["one", "late"] ["one", "late"] (defScope st__law_plus) := ⟨rfl, rfl, rfl, by decide +kernel, rfl, by decide +kernel, by decide +kernel⟩
theorem bd__law_plus (T : TX K mg) : Binds K (fdOf K "_law_plus") ["one", "late"] [] := (T.df 46).bindsN fun _ _ _ _ _ _ us hl => match us, hl with | [_, _], _ => rfl
def m__law_plus : SM Unit :=
  (sRet (eN f__law_frac (aAll [(e2 dAdd (e2 dMul (e2 dIx (eV 0) (eC (.int 0))) (e2 dIx (eV 1) (eC (.int 1)))) (e2 dMul (e2 dIx (eV 1) (eC (.int 0))) (e2 dIx (eV 0) (eC (.int 1))))), (e2 dMul (e2 dIx (eV 0) (eC (.int 1))) (e2 dIx (eV 1) (eC (.int 1))))])))
def f__law_plus : List PyData → Option PyData := fnP 2 m__law_plus
theorem ok__law_plus (T : TX K mg) : FnG PySem.Challenge.rw_boundedchance_k85_whole_chains_led_backw.prog w K mg base 2 (He.ga K "_law_plus") (fdOf K "_law_plus") ["one", "late"] (spP K 2 f__law_plus) := fn_pure (T.df 46) sc__law_plus (by decide) fun c cdv A outer s H E hr => by
  have sc := sc__law_plus
  exact (b_one (s_ret (x_callP (f_cons (x_op op_addA d2_add (e_b (x_op op_mulA d2_mul (e_b (x_ix ix_seq (e_b (n_v 0 (pv 0))) (e_b k_int) (fun _ _ => rfl))) (e_b (x_ix ix_seq (e_b (n_v 1 (pv 1))) (e_b k_int) (fun _ _ => rfl))))) (e_b (x_op op_mulA d2_mul (e_b (x_ix ix_seq (e_b (n_v 1 (pv 1))) (e_b k_int) (fun _ _ => rfl))) (e_b (x_ix ix_seq (e_b (n_v 0 (pv 0))) (e_b k_int) (fun _ _ => rfl)))))) (f_cons (x_op op_mulA d2_mul (e_b (x_ix ix_seq (e_b (n_v 0 (pv 0))) (e_b k_int) (fun _ _ => rfl))) (e_b (x_ix ix_seq (e_b (n_v 1 (pv 1))) (e_b k_int) (fun _ _ => rfl)))) f_nil)) (fun h => pe_callG (ok__law_frac T) (hr.mono (by decide)) rfl (T.glo 45) (T.df 45).kp (bd__law_frac T) h))))
/-! _law_less -/
abbrev st__law_less : Stmt := topS 68
theorem sc__law_less : FnScope ["one", "late"] ["one", "late"] (defScope st__law_less) := ⟨rfl, rfl, rfl, by decide +kernel, rfl, by decide +kernel, by decide +kernel⟩
theorem bd__law_less (T : TX K mg) : Binds K (fdOf K "_law_less") ["one", "late"] [] := (T.df 47).bindsN fun _ _ _ _ _ _ us hl => match us, hl with | [_, _], _ => rfl
def m__law_less : SM Unit :=
  (sRet (eN f__law_frac (aAll [(e2 dSub (e2 dMul (e2 dIx (eV 0) (eC (.int 0))) (e2 dIx (eV 1) (eC (.int 1)))) (e2 dMul (e2 dIx (eV 1) (eC (.int 0))) (e2 dIx (eV 0) (eC (.int 1))))), (e2 dMul (e2 dIx (eV 0) (eC (.int 1))) (e2 dIx (eV 1) (eC (.int 1))))])))
def f__law_less : List PyData → Option PyData := fnP 2 m__law_less
theorem ok__law_less (T : TX K mg) : FnG PySem.Challenge.rw_boundedchance_k85_whole_chains_led_backw.prog w K mg base 2 (He.ga K "_law_less") (fdOf K "_law_less") ["one", "late"] (spP K 2 f__law_less) := fn_pure (T.df 47) sc__law_less (by decide) fun c cdv A outer s H E hr => by
  have sc := sc__law_less
  exact (b_one (s_ret (x_callP (f_cons (x_op op_sub d2_sub (e_b (x_op op_mulA d2_mul (e_b (x_ix ix_seq (e_b (n_v 0 (pv 0))) (e_b k_int) (fun _ _ => rfl))) (e_b (x_ix ix_seq (e_b (n_v 1 (pv 1))) (e_b k_int) (fun _ _ => rfl))))) (e_b (x_op op_mulA d2_mul (e_b (x_ix ix_seq (e_b (n_v 1 (pv 1))) (e_b k_int) (fun _ _ => rfl))) (e_b (x_ix ix_seq (e_b (n_v 0 (pv 0))) (e_b k_int) (fun _ _ => rfl)))))) (f_cons (x_op op_mulA d2_mul (e_b (x_ix ix_seq (e_b (n_v 0 (pv 0))) (e_b k_int) (fun _ _ => rfl))) (e_b (x_ix ix_seq (e_b (n_v 1 (pv 1))) (e_b k_int) (fun _ _ => rfl)))) f_nil)) (fun h => pe_callG (ok__law_frac T) (hr.mono (by decide)) rfl (T.glo 45) (T.df 45).kp (bd__law_frac T) h))))
/-! _law_times -/
abbrev st__law_times : Stmt := topS 69
theorem sc__law_times : FnScope ["one", "late"] ["one", "late"] (defScope st__law_times) := ⟨rfl, rfl, rfl, by decide +kernel, rfl, by decide +kernel, by decide +kernel⟩
theorem bd__law_times (T : TX K mg) : Binds K (fdOf K "_law_times") ["one", "late"] [] := (T.df 48).bindsN fun _ _ _ _ _ _ us hl => match us, hl with | [_, _], _ => rfl
def m__law_times : SM Unit :=
  (sRet (eN f__law_frac (aAll [(e2 dMul (e2 dIx (eV 0) (eC (.int 0))) (e2 dIx (eV 1) (eC (.int 0)))), (e2 dMul (e2 dIx (eV 0) (eC (.int 1))) (e2 dIx (eV 1) (eC (.int 1))))])))
def f__law_times : List PyData → Option PyData := fnP 2 m__law_times
theorem ok__law_times (T : TX K mg) : FnG PySem.Challenge.rw_boundedchance_k85_whole_chains_led_backw.prog w K mg base 2 (He.ga K "_law_times") (fdOf K "_law_times") ["one", "late"] (spP K 2 f__law_times) := fn_pure (T.df 48) sc__law_times (by decide) fun c cdv A outer s H E hr => by
  have sc := sc__law_times
  exact (b_one (s_ret (x_callP (f_cons (x_op op_mulA d2_mul (e_b (x_ix ix_seq (e_b (n_v 0 (pv 0))) (e_b k_int) (fun _ _ => rfl))) (e_b (x_ix ix_seq (e_b (n_v 1 (pv 1))) (e_b k_int) (fun _ _ => rfl)))) (f_cons (x_op op_mulA d2_mul (e_b (x_ix ix_seq (e_b (n_v 0 (pv 0))) (e_b k_int) (fun _ _ => rfl))) (e_b (x_ix ix_seq (e_b (n_v 1 (pv 1))) (e_b k_int) (fun _ _ => rfl)))) f_nil)) (fun h => pe_callG (ok__law_frac T) (hr.mono (by decide)) rfl (T.glo 45) (T.df 45).kp (bd__law_frac T) h))))
/-! _law_sum -/
abbrev st__law_sum : Stmt := topS 70
theorem sc__law_sum : FnScope ["some", "found", "one"] ["some"] (defScope st__law_sum) := ⟨rfl, rfl, rfl, by decide +kernel, rfl, by decide +kernel, by decide +kernel⟩
theorem bd__law_sum (T : TX K mg) : Binds K (fdOf K "_law_sum") ["some"] [] := (T.df 49).bindsN fun _ _ _ _ _ _ us hl => match us, hl with | [_], _ => rfl
def m__law_sum : SM Unit :=
  (sSeq (sSet 1 (eTup (aAll [(eC (.int 0)), (eC (.int 1))])))
  (sSeq (sFor (iS (eV 0)) (gN 2) (sSet 1 (eN f__law_plus (aAll [(eV 1), (eV 2)]))))
  (sRet (eV 1))))
def f__law_sum : List PyData → Option PyData := fnP 3 m__law_sum
theorem ok__law_sum (T : TX K mg) : FnG PySem.Challenge.rw_boundedchance_k85_whole_chains_led_backw.prog w K mg base 3 (He.ga K "_law_sum") (fdOf K "_law_sum") ["some"] (spP K 1 f__law_sum) := fn_pure (T.df 49) sc__law_sum (by decide) fun c cdv A outer s H E hr => by
  have sc := sc__law_sum
  exact (b_cons (s_set (i := 1) sc.nd rfl (Or.inl rfl) (x_tup (f_cons k_int (f_cons k_int f_nil))))
  (b_cons (s_for PassesOwn.never rfl (i_sq (n_v 0 (pv 0))) (g_name (pg_name (i := 2) sc.nd rfl (Or.inl rfl))) (b_one (s_set (i := 1) sc.nd rfl (Or.inl rfl) (x_callP (f_cons (n_v 1 (pv 1)) (f_cons (n_v 2 (pv 2)) f_nil)) (fun h => pe_callG (ok__law_plus T) (hr.mono (by decide)) rfl (T.glo 46) (T.df 46).kp (bd__law_plus T) h)))))
  (b_one (s_ret (n_v 1 (pv 1))))))
/-! _law_below -/
abbrev st__law_below : Stmt := topS 71
theorem sc__law_below : FnScope ["one", "late"] ["one", "late"] (defScope st__law_below) := ⟨rfl, rfl, rfl, by decide +kernel, rfl, by decide +kernel, by decide +kernel⟩
theorem bd__law_below (T : TX K mg) : Binds K (fdOf K "_law_below") ["one", "late"] [] := (T.df 50).bindsN fun _ _ _ _ _ _ us hl => match us, hl with | [_, _], _ => rfl
def m__law_below : SM Unit :=
  (sRet (e2 dLt (e2 dMul (e2 dIx (eV 0) (eC (.int 0))) (e2 dIx (eV 1) (eC (.int 1)))) (e2 dMul (e2 dIx (eV 1) (eC (.int 0))) (e2 dIx (eV 0) (eC (.int 1))))))
def f__law_below : List PyData → Option PyData := fnP 2 m__law_below
theorem ok__law_below (T : TX K mg) : FnG PySem.Challenge.rw_boundedchance_k85_whole_chains_led_backw.prog w K mg base 1 (He.ga K "_law_below") (fdOf K "_law_below") ["one", "late"] (spP K 2 f__law_below) := fn_pure (T.df 50) sc__law_below (by decide) fun c cdv A outer s H E hr => by
  have sc := sc__law_below
  exact (b_one (s_ret (x_cmp op_lt d2_I (e_b (x_op op_mulA d2_mul (e_b (x_ix ix_seq (e_b (n_v 0 (pv 0))) (e_b k_int) (fun _ _ => rfl))) (e_b (x_ix ix_seq (e_b (n_v 1 (pv 1))) (e_b k_int) (fun _ _ => rfl))))) (e_b (x_op op_mulA d2_mul (e_b (x_ix ix_seq (e_b (n_v 1 (pv 1))) (e_b k_int) (fun _ _ => rfl))) (e_b (x_ix ix_seq (e_b (n_v 0 (pv 0))) (e_b k_int) (fun _ _ => rfl))))) (nomark _))))
/-! _law_lot -/
abbrev st__law_lot : Stmt := topS 72
theorem sc__law_lot : FnScope ["pot", "many", "tops", "at", "place", "top"] ["pot", "many"] (defScope st__law_lot) := ⟨rfl, rfl, rfl, by decide +kernel, rfl, by decide +kernel, by decide +kernel⟩
theorem bd__law_lot (T : TX K mg) : Binds K (fdOf K "_law_lot") ["pot", "many"] [] := (T.df 51).bindsN fun _ _ _ _ _ _ us hl => match us, hl with | [_, _], _ => rfl
def m__law_lot : SM (List PyData) :=
  (sSeq (sOwn 2 (oLc [4] (iR1 (eV 1)) (gN 4) tYes (eIf (tV (e2 dGt (eR f__law_draw 0 (aAll [(eC (.int 3))])) (eC (.int 0)))) (eR f__law_draw 0 (aAll [(eC (.int 5))])) (eC (.int 0)))))
  (sSeq (sSet 3 (eR f__law_draw 0 (aAll [(eV 1)])))
  (sSeq (sPut 2 (eV 3) (e2 dAdd (e2 dAdd (e2 dIx (bV 2) (eV 3)) (eC (.int 1))) (eR f__law_draw 0 (aAll [(eC (.int 3))]))))
  (sFrz (sRet (eN dTup (aAll [(eL (oLc [5] (iS (eV 2)) (gN 5) tYes (eN f__law_frac (aAll [(eV 5), (eN dSum (aAll [(eV 2)]))]))))])))))))
def f__law_lot : List PyData → List PyData → Option (PyData × List PyData) := fnR 5 m__law_lot
theorem ok__law_lot (T : TX K mg) : FnG PySem.Challenge.rw_boundedchance_k85_whole_chains_led_backw.prog w K mg base 2 (He.ga K "_law_lot") (fdOf K "_law_lot") ["pot", "many"] (spR K (IsPot K) 1 f__law_lot) := fn_reg (T.df 51) sc__law_lot (by decide) rfl fun c cdv A outer s H E hrr hr => by
  have sc := sc__law_lot
  exact (b_cons (s_own (i := 2) sc.nd rfl (Or.inr rfl) (x_lc rfl sc.nd (own := [("place", 4)]) (i_rng1 (e_b (n_v 1 (pv 1))) (fun _ h => pi_range1 rfl (T.fre fr_range) h)) (blkOk_by (by kernel_rfl)) (fun _ _ _ _ _ => (g_name (pg_name (i := 4) sc.nd rfl (Or.inl rfl)))) (fun _ _ _ _ _ => ts_nil) (fun _ _ _ _ _ => (x_if (y_cmp op_gt d2_I (e_b (x_callR hrr (pv 0) (f_cons k_int f_nil) (fun h => pe_callG (ok__law_draw T) (hr.mono (by decide)) rfl (T.glo 43) (T.df 43).kp (bd__law_draw T) h))) (e_b k_int) (nomark _)) (x_callR hrr (pv 0) (f_cons k_int f_nil) (fun h => pe_callG (ok__law_draw T) (hr.mono (by decide)) rfl (T.glo 43) (T.df 43).kp (bd__law_draw T) h)) k_int)) (by decide)))
  (b_cons (s_set (i := 3) sc.nd rfl (Or.inl rfl) (x_callR hrr (pv 0) (f_cons (n_v 1 (pv 1)) f_nil) (fun h => pe_callG (ok__law_draw T) (hr.mono (by decide)) rfl (T.glo 43) (T.df 43).kp (bd__law_draw T) h)))
  (b_cons (s_put (ps_asg (x_op op_addA d2_add (e_b (x_op op_addA d2_add (e_b (x_ix ix_seq (n_b 2 (pv 2)) (e_b (n_v 3 (pv 3))) (fun _ _ => rfl))) (e_b k_int))) (e_b (x_callR hrr (pv 0) (f_cons k_int f_nil) (fun h => pe_callG (ok__law_draw T) (hr.mono (by decide)) rfl (T.glo 43) (T.df 43).kp (bd__law_draw T) h)))) (pg_sub (pv 2) (e_b (n_v 3 (pv 3))) set_list)))
  (b_frz (b_one (s_ret (x_callT dn_tup (a_cons (o_b (x_lc rfl sc.nd (own := [("top", 5)]) (i_sq (n_v 2 (pv 2))) (blkOk_by (by kernel_rfl)) (fun _ _ _ _ _ => (g_name (pg_name (i := 5) sc.nd rfl (Or.inl rfl)))) (fun _ _ _ _ _ => ts_nil) (fun _ _ _ _ _ => (x_callP (f_cons (n_v 5 (pv 5)) (f_cons (x_callT dn_sum (a_cons (e_b (n_v 2 (pv 2))) a_nil) (fun _ h => pe_callB (cr_sum rfl) rfl (T.fre fr_sum) PyProof.Rows.boot_sum h)) f_nil)) (fun h => pe_callG (ok__law_frac T) (hr.mono (by decide)) rfl (T.glo 45) (T.df 45).kp (bd__law_frac T) h))) (by decide))) a_nil) (fun _ h => pe_callTy call_tuple_of rfl (T.fre fr_tuple) PyProof.Rows.boot_tuple h))))))))
/-! _law_chain -/
abbrev st__law_chain : Stmt := topS 73
theorem sc__law_chain : FnScope ["pot", "states", "most", "found", "state", "turn"] ["pot", "states", "most"] (defScope st__law_chain) := ⟨rfl, rfl, rfl, by decide +kernel, rfl, by decide +kernel, by decide +kernel⟩
theorem bd__law_chain (T : TX K mg) : Binds K (fdOf K "_law_chain") ["pot", "states", "most"] [] := (T.df 52).bindsN fun _ _ _ _ _ _ us hl => match us, hl with | [_, _, _], _ => rfl
def m__law_chain : SM (List PyData) :=
  (sSeq (sOwn 3 (aAll []))
  (sSeq (sFor (iR1 (eV 1)) (gN 4) (sApp 3 (eL (oLc [5] (iR1 (e2 dAdd (eC (.int 1)) (eR f__law_draw 0 (aAll [(eV 2)])))) (gN 5) tYes (eR f__law_lot 0 (aAll [(eV 1)]))))))
  (sFrz (sRet (eV 3)))))
def f__law_chain : List PyData → List PyData → Option (PyData × List PyData) := fnR 5 m__law_chain
theorem ok__law_chain (T : TX K mg) : FnG PySem.Challenge.rw_boundedchance_k85_whole_chains_led_backw.prog w K mg base 3 (He.ga K "_law_chain") (fdOf K "_law_chain") ["pot", "states", "most"] (spR K (IsPot K) 2 f__law_chain) := fn_reg (T.df 52) sc__law_chain (by decide) rfl fun c cdv A outer s H E hrr hr => by
  have sc := sc__law_chain
  exact (b_cons (s_own (i := 3) sc.nd rfl (Or.inl rfl) (x_lst f_nil))
  (b_cons (s_for PassesOwn.never rfl (i_rng1 (e_b (n_v 1 (pv 1))) (fun _ h => pi_range1 rfl (T.fre fr_range) h)) (g_name (pg_name (i := 4) sc.nd rfl (Or.inl rfl))) (b_one (s_app (ps_expr (pe_bm PySem.F.plainAttrs_list PySem.F.slot_list_append PySem.F.type_list_append mt_append (pv 3) (pa_cons (o_e (x_lc rfl sc.nd (own := [("turn", 5)]) (i_rng1 (e_b (x_op op_addA d2_add (e_b k_int) (e_b (x_callR hrr (pv 0) (f_cons (n_v 2 (pv 2)) f_nil) (fun h => pe_callG (ok__law_draw T) (hr.mono (by decide)) rfl (T.glo 43) (T.df 43).kp (bd__law_draw T) h))))) (fun _ h => pi_range1 rfl (T.fre fr_range) h)) (blkOk_by (by kernel_rfl)) (fun _ _ _ _ _ => (g_name (pg_name (i := 5) sc.nd rfl (Or.inl rfl)))) (fun _ _ _ _ _ => ts_nil) (fun _ _ _ _ _ => (x_callR hrr (pv 0) (f_cons (n_v 1 (pv 1)) f_nil) (fun h => pe_callG (ok__law_lot T) (hr.mono (by decide)) rfl (T.glo 51) (T.df 51).kp (bd__law_lot T) h))) (by decide))) pa_nil))))))
  (b_frz (b_one (s_ret (n_v 3 (pv 3)))))))
/-! _law_by -/
abbrev st__law_by : Stmt := topS 74
theorem sc__law_by : FnScope ["lot", "numbers", "one", "late"] ["lot", "numbers"] (defScope st__law_by) := ⟨rfl, rfl, rfl, by decide +kernel, rfl, by decide +kernel, by decide +kernel⟩
theorem bd__law_by (T : TX K mg) : Binds K (fdOf K "_law_by") ["lot", "numbers"] [] := (T.df 53).bindsN fun _ _ _ _ _ _ us hl => match us, hl with | [_, _], _ => rfl
def m__law_by : SM Unit :=
  (sRet (eN f__law_sum (aAll [(eL (oLc [2, 3] (iZ (eV 0) (eV 1)) (gT [(gN 2), (gN 3)]) tYes (eN f__law_times (aAll [(eV 2), (eV 3)]))))])))
def f__law_by : List PyData → Option PyData := fnP 4 m__law_by
theorem ok__law_by (T : TX K mg) : FnG PySem.Challenge.rw_boundedchance_k85_whole_chains_led_backw.prog w K mg base 4 (He.ga K "_law_by") (fdOf K "_law_by") ["lot", "numbers"] (spP K 2 f__law_by) := fn_pure (T.df 53) sc__law_by (by decide) fun c cdv A outer s H E hr => by
  have sc := sc__law_by
  exact (b_one (s_ret (x_callP (f_cons (o_e (x_lc rfl sc.nd (own := [("one", 2), ("late", 3)]) (i_zip (n_v 0 (pv 0)) (n_v 1 (pv 1)) (fun _ h => pi_zipG rfl (T.fre fr_zip) h)) (blkOk_by (by kernel_rfl)) (fun _ _ _ _ _ => (g_tup (pg_tup rfl (gs_cons (g_name (pg_name (i := 2) sc.nd rfl (Or.inl rfl))) (gs_cons (g_name (pg_name (i := 3) sc.nd rfl (Or.inl rfl))) gs_nil))) rfl)) (fun _ _ _ _ _ => ts_nil) (fun _ _ _ _ _ => (x_callP (f_cons (n_v 2 (pv 2)) (f_cons (n_v 3 (pv 3)) f_nil)) (fun h => pe_callG (ok__law_times T) (hr.mono (by decide)) rfl (T.glo 48) (T.df 48).kp (bd__law_times T) h))) (by decide))) f_nil) (fun h => pe_callG (ok__law_sum T) (hr.mono (by decide)) rfl (T.glo 49) (T.df 49).kp (bd__law_sum T) h))))
/-! _law_step -/
abbrev st__law_step : Stmt := topS 75
theorem sc__law_step : FnScope ["chain", "numbers", "is_up", "found", "lots", "best", "lot", "own"] ["chain", "numbers", "is_up"] (defScope st__law_step) := ⟨rfl, rfl, rfl, by decide +kernel, rfl, by decide +kernel, by decide +kernel⟩
theorem bd__law_step (T : TX K mg) : Binds K (fdOf K "_law_step") ["chain", "numbers", "is_up"] [] := (T.df 54).bindsN fun _ _ _ _ _ _ us hl => match us, hl with | [_, _, _], _ => rfl
def m__law_step : SM Unit :=
  (sSeq (sOwn 3 (aAll []))
  (sSeq (sFor (iS (eV 0)) (gN 4) (sSeq (sSet 5 (eN f__law_by (aAll [(e2 dIx (eV 4) (eC (.int 0))), (eV 1)])))
  (sSeq (sFor (iS (eSl (eV 4) (pS (eC (.int 1))) pN)) (gN 6) (sSeq (sSet 7 (eN f__law_by (aAll [(eV 6), (eV 1)])))
  (sIf (tOr (tAnd (tV (eV 2)) (tV (eN f__law_below (aAll [(eV 5), (eV 7)])))) (tAnd (tNot (tV (eV 2))) (tV (eN f__law_below (aAll [(eV 7), (eV 5)]))))) (sSet 5 (eV 7)) sNx)))
  (sApp 3 (eV 5)))))
  (sFrz (sRet (eV 3)))))
def f__law_step : List PyData → Option PyData := fnP 8 m__law_step
theorem ok__law_step (T : TX K mg) : FnG PySem.Challenge.rw_boundedchance_k85_whole_chains_led_backw.prog w K mg base 5 (He.ga K "_law_step") (fdOf K "_law_step") ["chain", "numbers", "is_up"] (spP K 3 f__law_step) := fn_pure (T.df 54) sc__law_step (by decide) fun c cdv A outer s H E hr => by
  have sc := sc__law_step
  exact (b_cons (s_own (i := 3) sc.nd rfl (Or.inl rfl) (x_lst f_nil))
  (b_cons (s_for PassesOwn.never rfl (i_sq (n_v 0 (pv 0))) (g_name (pg_name (i := 4) sc.nd rfl (Or.inl rfl))) (b_cons (s_set (i := 5) sc.nd rfl (Or.inl rfl) (x_callP (f_cons (x_ix ix_seq (e_b (n_v 4 (pv 4))) (e_b k_int) (fun _ _ => rfl)) (f_cons (n_v 1 (pv 1)) f_nil)) (fun h => pe_callG (ok__law_by T) (hr.mono (by decide)) rfl (T.glo 53) (T.df 53).kp (bd__law_by T) h)))
  (b_cons (s_for PassesOwn.never rfl (i_sq (x_sl sl_seq (e_b (n_v 4 (pv 4))) (p_some (e_b k_int)) p_none)) (g_name (pg_name (i := 6) sc.nd rfl (Or.inl rfl))) (b_cons (s_set (i := 7) sc.nd rfl (Or.inl rfl) (x_callP (f_cons (n_v 6 (pv 6)) (f_cons (n_v 1 (pv 1)) f_nil)) (fun h => pe_callG (ok__law_by T) (hr.mono (by decide)) rfl (T.glo 53) (T.df 53).kp (bd__law_by T) h)))
  (b_one (s_if (PW.pt (y_or (PW.pt (y_and (t_val (e_b (n_v 2 (pv 2)))) (y_and1 (t_val (e_b (x_callP (f_cons (n_v 5 (pv 5)) (f_cons (n_v 7 (pv 7)) f_nil)) (fun h => pe_callG (ok__law_below T) (hr.mono (by decide)) rfl (T.glo 50) (T.df 50).kp (bd__law_below T) h))))))) (y_or1 (PW.pt (y_and (y_not (t_val (e_b (n_v 2 (pv 2))))) (y_and1 (t_val (e_b (x_callP (f_cons (n_v 7 (pv 7)) (f_cons (n_v 5 (pv 5)) f_nil)) (fun h => pe_callG (ok__law_below T) (hr.mono (by decide)) rfl (T.glo 50) (T.df 50).kp (bd__law_below T) h)))))))))) (b_one (s_set (i := 5) sc.nd rfl (Or.inl rfl) (n_v 7 (pv 7)))) b_nil))))
  (b_one (s_app (ps_expr (pe_bm PySem.F.plainAttrs_list PySem.F.slot_list_append PySem.F.type_list_append mt_append (pv 3) (pa_cons (n_v 5 (pv 5)) pa_nil))))))))
  (b_frz (b_one (s_ret (n_v 3 (pv 3)))))))
/-! _law_led -/
abbrev st__law_led : Stmt := topS 76
theorem sc__law_led : FnScope ["chain", "numbers", "steps", "is_up", "turn"] ["chain", "numbers", "steps", "is_up"] (defScope st__law_led) := ⟨rfl, rfl, rfl, by decide +kernel, rfl, by decide +kernel, by decide +kernel⟩
theorem bd__law_led (T : TX K mg) : Binds K (fdOf K "_law_led") ["chain", "numbers", "steps", "is_up"] [] := (T.df 55).bindsN fun _ _ _ _ _ _ us hl => match us, hl with | [_, _, _, _], _ => rfl
def m__law_led : SM Unit :=
  (sSeq (sFor (iR1 (eV 2)) (gN 4) (sSet 1 (eN f__law_step (aAll [(eV 0), (eV 1), (eV 3)]))))
  (sRet (eV 1)))
def f__law_led : List PyData → Option PyData := fnP 5 m__law_led
theorem ok__law_led (T : TX K mg) : FnG PySem.Challenge.rw_boundedchance_k85_whole_chains_led_backw.prog w K mg base 6 (He.ga K "_law_led") (fdOf K "_law_led") ["chain", "numbers", "steps", "is_up"] (spP K 4 f__law_led) := fn_pure (T.df 55) sc__law_led (by decide) fun c cdv A outer s H E hr => by
  have sc := sc__law_led
  exact (b_cons (s_for PassesOwn.never rfl (i_rng1 (e_b (n_v 2 (pv 2))) (fun _ h => pi_range1 rfl (T.fre fr_range) h)) (g_name (pg_name (i := 4) sc.nd rfl (Or.inl rfl))) (b_one (s_set (i := 1) sc.nd rfl (Or.inl rfl) (x_callP (f_cons (n_v 0 (pv 0)) (f_cons (n_v 1 (pv 1)) (f_cons (n_v 3 (pv 3)) f_nil))) (fun h => pe_callG (ok__law_step T) (hr.mono (by decide)) rfl (T.glo 54) (T.df 54).kp (bd__law_step T) h)))))
  (b_one (s_ret (n_v 1 (pv 1)))))
/-! _law_all_events -/
abbrev st__law_all_events : Stmt := topS 77
theorem sc__law_all_events : FnScope ["states", "found", "state", "event"] ["states"] (defScope st__law_all_events) := ⟨rfl, rfl, rfl, by decide +kernel, rfl, by decide +kernel, by decide +kernel⟩
theorem bd__law_all_events (T : TX K mg) : Binds K (fdOf K "_law_all_events") ["states"] [] := (T.df 56).bindsN fun _ _ _ _ _ _ us hl => match us, hl with | [_], _ => rfl
def m__law_all_events : SM Unit :=
  (sSeq (sSet 1 (eL (aAll [(eTup (aAll []))])))
  (sSeq (sFor (iR1 (eV 0)) (gN 2) (sSet 1 (e2 dAdd (eV 1) (eL (oLc [3] (iS (eV 1)) (gN 3) tYes (e2 dAdd (eV 3) (eTup (aAll [(eV 2)]))))))))
  (sRet (eL (oN dSortO (aAll [(eV 1)]))))))
def f__law_all_events : List PyData → Option PyData := fnP 4 m__law_all_events
theorem ok__law_all_events (T : TX K mg) : FnG PySem.Challenge.rw_boundedchance_k85_whole_chains_led_backw.prog w K mg base 1 (He.ga K "_law_all_events") (fdOf K "_law_all_events") ["states"] (spP K 1 f__law_all_events) := fn_pure (T.df 56) sc__law_all_events (by decide) fun c cdv A outer s H E hr => by
  have sc := sc__law_all_events
  exact (b_cons (s_set (i := 1) sc.nd rfl (Or.inl rfl) (o_e (x_lst (f_cons (x_tup f_nil) f_nil))))
  (b_cons (s_for PassesOwn.never rfl (i_rng1 (e_b (n_v 0 (pv 0))) (fun _ h => pi_range1 rfl (T.fre fr_range) h)) (g_name (pg_name (i := 2) sc.nd rfl (Or.inr rfl))) (b_one (s_set (i := 1) sc.nd rfl (Or.inl rfl) (x_op op_addA d2_add (e_b (n_v 1 (pv 1))) (o_b (x_lc rfl sc.nd (own := [("event", 3)]) (i_sq (n_v 1 (pv 1))) (blkOk_by (by kernel_rfl)) (fun _ _ _ _ _ => (g_name (pg_name (i := 3) sc.nd rfl (Or.inl rfl)))) (fun _ _ _ _ _ => ts_nil) (fun _ _ _ _ _ => (x_op op_addA d2_add (e_b (n_v 3 (pv 3))) (e_b (x_tup (f_cons (n_v 2 (pv 2)) f_nil))))) (by decide)))))))
  (b_one (s_ret (o_e (x_callTo dn_sorted (a_cons (e_b (n_v 1 (pv 1))) a_nil) (fun _ h => pe_callB (cr_sortedD hr.u70) rfl (T.fre fr_sorted) PyProof.Rows.boot_sorted h)))))))
/-! _law_chain_wish -/
abbrev st__law_chain_wish : Stmt := topS 78
theorem sc__law_chain_wish : FnScope ["pot", "states", "most", "state"] ["pot", "states"] (defScope st__law_chain_wish) := ⟨rfl, rfl, rfl, by decide +kernel, rfl, by decide +kernel, by decide +kernel⟩
theorem bd__law_chain_wish (T : TX K mg) : Binds K (fdOf K "_law_chain_wish") ["pot", "states"] [] := (T.df 57).bindsN fun _ _ _ _ _ _ us hl => match us, hl with | [_, _], _ => rfl
def m__law_chain_wish : SM (List PyData) :=
  (sSeq (sSet 2 (eR f__law_pick 0 (aAll [(eL (aAll [(eC (.int 1)), (eC (.int 4)), (eC (.int 99))]))])))
  (sRet (eL (oLc [3] (iR1 (eV 1)) (gN 3) tYes (e2 dSub (eR f__law_draw 0 (aAll [(e2 dAdd (e2 dMul (eC (.int 2)) (eV 2)) (eC (.int 1)))])) (eV 2))))))
def f__law_chain_wish : List PyData → List PyData → Option (PyData × List PyData) := fnR 3 m__law_chain_wish
theorem ok__law_chain_wish (T : TX K mg) : FnG PySem.Challenge.rw_boundedchance_k85_whole_chains_led_backw.prog w K mg base 3 (He.ga K "_law_chain_wish") (fdOf K "_law_chain_wish") ["pot", "states"] (spR K (IsPot K) 1 f__law_chain_wish) := fn_reg (T.df 57) sc__law_chain_wish (by decide) rfl fun c cdv A outer s H E hrr hr => by
  have sc := sc__law_chain_wish
  exact (b_cons (s_set (i := 2) sc.nd rfl (Or.inr rfl) (x_callR hrr (pv 0) (f_cons (o_e (x_lst (f_cons k_int (f_cons k_int (f_cons k_int f_nil))))) f_nil) (fun h => pe_callG (ok__law_pick T) (hr.mono (by decide)) rfl (T.glo 44) (T.df 44).kp (bd__law_pick T) h)))
  (b_one (s_ret (o_e (x_lc rfl sc.nd (own := [("state", 3)]) (i_rng1 (e_b (n_v 1 (pv 1))) (fun _ h => pi_range1 rfl (T.fre fr_range) h)) (blkOk_by (by kernel_rfl)) (fun _ _ _ _ _ => (g_name (pg_name (i := 3) sc.nd rfl (Or.inl rfl)))) (fun _ _ _ _ _ => ts_nil) (fun _ _ _ _ _ => (x_op op_sub d2_sub (e_b (x_callR hrr (pv 0) (f_cons (x_op op_addA d2_add (e_b (x_op op_mulA d2_mul (e_b k_int) (e_b (n_v 2 (pv 2))))) (e_b k_int)) f_nil) (fun h => pe_callG (ok__law_draw T) (hr.mono (by decide)) rfl (T.glo 43) (T.df 43).kp (bd__law_draw T) h))) (e_b (n_v 2 (pv 2))))) (by decide))))))
/-! _law_told -/
abbrev st__law_told : Stmt := topS 79
theorem sc__law_told : FnScope ["chain", "wish", "steps", "found", "step", "numbers", "row", "lots", "means", "best", "one", "lot"] ["chain", "wish", "steps"] (defScope st__law_told) := ⟨rfl, rfl, rfl, by decide +kernel, rfl, by decide +kernel, by decide +kernel⟩
theorem bd__law_told (T : TX K mg) : Binds K (fdOf K "_law_told") ["chain", "wish", "steps"] [] := (T.df 58).bindsN fun _ _ _ _ _ _ us hl => match us, hl with | [_, _, _], _ => rfl
def m__law_told : SM Unit :=
  (sSeq (sOwn 3 (aAll []))
  (sSeq (sFor (iR1 (eV 2)) (gN 4) (sSeq (sSet 5 (eN f__law_led (aAll [(eV 0), (eL (oLc [10] (iS (eV 1)) (gN 10) tYes (eTup (aAll [(eV 10), (eC (.int 1))])))), (e2 dSub (e2 dSub (eV 2) (eV 4)) (eC (.int 1))), (eC (.bool false))])))
  (sSeq (sOwn 6 (aAll []))
  (sSeq (sFor (iS (eV 0)) (gN 7) (sSeq (sSet 8 (eL (oLc [11] (iS (eV 7)) (gN 11) tYes (eN f__law_by (aAll [(eV 11), (eV 5)])))))
  (sSeq (sSet 9 (e2 dIx (eV 8) (eC (.int 0))))
  (sSeq (sFor (iS (eSl (eV 8) (pS (eC (.int 1))) pN)) (gN 10) (sSet 9 (eIf (tV (eN f__law_below (aAll [(eV 10), (eV 9)]))) (eV 10) (eV 9))))
  (sApp 6 (e2 dIdx (eV 8) (eV 9)))))))
  (sFz 6 (sApp 3 (eV 6)))))))
  (sFrz (sRet (eV 3)))))
def f__law_told : List PyData → Option PyData := fnP 12 m__law_told
theorem ok__law_told (T : TX K mg) : FnG PySem.Challenge.rw_boundedchance_k85_whole_chains_led_backw.prog w K mg base 7 (He.ga K "_law_told") (fdOf K "_law_told") ["chain", "wish", "steps"] (spP K 3 f__law_told) := fn_pure (T.df 58) sc__law_told (by decide) fun c cdv A outer s H E hr => by
  have sc := sc__law_told
  exact (b_cons (s_own (i := 3) sc.nd rfl (Or.inl rfl) (x_lst f_nil))
  (b_cons (s_for PassesOwn.never rfl (i_rng1 (e_b (n_v 2 (pv 2))) (fun _ h => pi_range1 rfl (T.fre fr_range) h)) (g_name (pg_name (i := 4) sc.nd rfl (Or.inl rfl))) (b_cons (s_set (i := 5) sc.nd rfl (Or.inr rfl) (x_callP (f_cons (n_v 0 (pv 0)) (f_cons (o_e (x_lc rfl sc.nd (own := [("one", 10)]) (i_sq (n_v 1 (pv 1))) (blkOk_by (by kernel_rfl)) (fun _ _ _ _ _ => (g_name (pg_name (i := 10) sc.nd rfl (Or.inl rfl)))) (fun _ _ _ _ _ => ts_nil) (fun _ _ _ _ _ => (x_tup (f_cons (n_v 10 (pv 10)) (f_cons k_int f_nil)))) (by decide))) (f_cons (x_op op_sub d2_sub (e_b (x_op op_sub d2_sub (e_b (n_v 2 (pv 2))) (e_b (n_v 4 (pv 4))))) (e_b k_int)) (f_cons k_bl f_nil)))) (fun h => pe_callG (ok__law_led T) (hr.mono (by decide)) rfl (T.glo 55) (T.df 55).kp (bd__law_led T) h)))
  (b_cons (s_own (i := 6) sc.nd rfl (Or.inl rfl) (x_lst f_nil))
  (b_cons (s_for PassesOwn.never rfl (i_sq (n_v 0 (pv 0))) (g_name (pg_name (i := 7) sc.nd rfl (Or.inl rfl))) (b_cons (s_setLc (i := 8) rfl sc.nd rfl rfl (sw_true rfl rfl rfl (by decide +kernel)) (own := [("lot", 11)]) (i_sq (n_v 7 (pv 7))) (blkOk_by (by kernel_rfl)) (fun _ _ _ _ _ => (g_name (pg_name (i := 11) sc.nd rfl (Or.inl rfl)))) (fun _ _ _ _ _ => ts_nil) (fun _ _ _ _ _ => (x_callP (f_cons (n_v 11 (pv 11)) (f_cons (n_v 5 (pv 5)) f_nil)) (fun h => pe_callG (ok__law_by T) (hr.mono (by decide)) rfl (T.glo 53) (T.df 53).kp (bd__law_by T) h))) (by decide))
  (b_cons (s_set (i := 9) sc.nd rfl (Or.inl rfl) (x_ix ix_seq (e_b (n_v 8 (pv 8))) (e_b k_int) (fun _ _ => rfl)))
  (b_cons (s_for PassesOwn.never rfl (i_sq (x_sl sl_seq (e_b (n_v 8 (pv 8))) (p_some (e_b k_int)) p_none)) (g_name (pg_name (i := 10) sc.nd rfl (Or.inl rfl))) (b_one (s_set (i := 9) sc.nd rfl (Or.inl rfl) (x_if (t_val (e_b (x_callP (f_cons (n_v 10 (pv 10)) (f_cons (n_v 9 (pv 9)) f_nil)) (fun h => pe_callG (ok__law_below T) (hr.mono (by decide)) rfl (T.glo 50) (T.df 50).kp (bd__law_below T) h)))) (n_v 10 (pv 10)) (n_v 9 (pv 9))))))
  (b_one (s_app (ps_expr (pe_bm PySem.F.plainAttrs_list PySem.F.slot_list_append PySem.F.type_list_append mt_append (pv 6) (pa_cons (x_idx (mt_indexD hr.u65) (e_b (n_v 8 (pv 8))) (e_b (n_v 9 (pv 9)))) pa_nil)))))))))
  (b_fz 6 (b_one (s_app (ps_expr (pe_bm PySem.F.plainAttrs_list PySem.F.slot_list_append PySem.F.type_list_append mt_append (pv 3) (pa_cons (n_v 6 (pv 6)) pa_nil))))))))))
  (b_frz (b_one (s_ret (n_v 3 (pv 3)))))))
/-! _law_behind -/
abbrev st__law_behind : Stmt := topS 80
theorem sc__law_behind : FnScope ["chain", "choices", "state", "here", "row", "one", "late", "share"] ["chain", "choices", "state"] (defScope st__law_behind) := ⟨rfl, rfl, rfl, by decide +kernel, rfl, by decide +kernel, by decide +kernel⟩
theorem bd__law_behind (T : TX K mg) : Binds K (fdOf K "_law_behind") ["chain", "choices", "state"] [] := (T.df 59).bindsN fun _ _ _ _ _ _ us hl => match us, hl with | [_, _, _], _ => rfl
def m__law_behind : SM Unit :=
  (sSeq (sSet 3 (eL (oLc [5] (iR1 (eN dLen (aAll [(eV 0)]))) (gN 5) tYes (eTup (aAll [(eN dInt (aAll [(e2 dEq (eV 5) (eV 2))])), (eC (.int 1))])))))
  (sSeq (sFor (iS (eV 1)) (gN 4) (sSet 3 (eL (oLc [6] (iR1 (eN dLen (aAll [(eV 0)]))) (gN 6) tYes (eN f__law_sum (aAll [(eL (oLc [5, 7] (iEn (eV 3)) (gT [(gN 5), (gN 7)]) tYes (eN f__law_times (aAll [(eV 7), (e2 dIx (e2 dIx (e2 dIx (eV 0) (eV 5)) (e2 dIx (eV 4) (eV 5))) (eV 6))]))))]))))))
  (sRet (eN dTup (aAll [(eV 3)])))))
def f__law_behind : List PyData → Option PyData := fnP 8 m__law_behind
theorem ok__law_behind (T : TX K mg) : FnG PySem.Challenge.rw_boundedchance_k85_whole_chains_led_backw.prog w K mg base 4 (He.ga K "_law_behind") (fdOf K "_law_behind") ["chain", "choices", "state"] (spP K 3 f__law_behind) := fn_pure (T.df 59) sc__law_behind (by decide) fun c cdv A outer s H E hr => by
  have sc := sc__law_behind
  exact (b_cons (s_set (i := 3) sc.nd rfl (Or.inr rfl) (o_e (x_lc rfl sc.nd (own := [("one", 5)]) (i_rng1 (e_b (x_callT dn_len (a_cons (e_b (n_v 0 (pv 0))) a_nil) (fun _ h => pe_callB cr_lenD rfl (T.fre fr_len) PySem.boot_len h))) (fun _ h => pi_range1 rfl (T.fre fr_range) h)) (blkOk_by (by kernel_rfl)) (fun _ _ _ _ _ => (g_name (pg_name (i := 5) sc.nd rfl (Or.inl rfl)))) (fun _ _ _ _ _ => ts_nil) (fun _ _ _ _ _ => (x_tup (f_cons (x_callT dn_int (a_cons (e_b (x_cmp (op_eqA hr.u64) d2_eq (e_b (n_v 5 (pv 5))) (e_b (n_v 2 (pv 2))) (nomark _))) a_nil) (fun _ h => pe_callTy call_int1 rfl (T.fre fr_int) PyProof.Rows.boot_int h)) (f_cons k_int f_nil)))) (by decide))))
  (b_cons (s_for PassesOwn.never rfl (i_sq (n_v 1 (pv 1))) (g_name (pg_name (i := 4) sc.nd rfl (Or.inr rfl))) (b_one (s_set (i := 3) sc.nd rfl (Or.inr rfl) (o_e (x_lc rfl sc.nd (own := [("late", 6)]) (i_rng1 (e_b (x_callT dn_len (a_cons (e_b (n_v 0 (pv 0))) a_nil) (fun _ h => pe_callB cr_lenD rfl (T.fre fr_len) PySem.boot_len h))) (fun _ h => pi_range1 rfl (T.fre fr_range) h)) (blkOk_by (by kernel_rfl)) (fun _ _ _ _ _ => (g_name (pg_name (i := 6) sc.nd rfl (Or.inr rfl)))) (fun _ _ _ _ _ => ts_nil) (fun _ _ _ _ _ => (x_callP (f_cons (o_e (x_lc rfl sc.nd (own := [("one", 5), ("share", 7)]) (i_enum (n_v 3 (pv 3)) (fun _ h => pi_enG rfl (T.fre fr_enumerate) h)) (blkOk_by (by kernel_rfl)) (fun _ _ _ _ _ => (g_tup (pg_tup rfl (gs_cons (g_name (pg_name (i := 5) sc.nd rfl (Or.inl rfl))) (gs_cons (g_name (pg_name (i := 7) sc.nd rfl (Or.inl rfl))) gs_nil))) rfl)) (fun _ _ _ _ _ => ts_nil) (fun _ _ _ _ _ => (x_callP (f_cons (n_v 7 (pv 7)) (f_cons (x_ix ix_seq (e_b (x_ix ix_seq (e_b (x_ix ix_seq (e_b (n_v 0 (pv 0))) (e_b (n_v 5 (pv 5))) (fun _ _ => rfl))) (e_b (x_ix ix_seq (e_b (n_v 4 (pv 4))) (e_b (n_v 5 (pv 5))) (fun _ _ => rfl))) (fun _ _ => rfl))) (e_b (n_v 6 (pv 6))) (fun _ _ => rfl)) f_nil)) (fun h => pe_callG (ok__law_times T) (hr.mono (by decide)) rfl (T.glo 48) (T.df 48).kp (bd__law_times T) h))) (by decide))) f_nil) (fun h => pe_callG (ok__law_sum T) (hr.mono (by decide)) rfl (T.glo 49) (T.df 49).kp (bd__law_sum T) h))) (by decide))))))
  (b_one (s_ret (x_callT dn_tup (a_cons (e_b (n_v 3 (pv 3))) a_nil) (fun _ h => pe_callTy call_tuple_of rfl (T.fre fr_tuple) PyProof.Rows.boot_tuple h))))))
/-! _law_choices_right -/
theorem kb_means_behind_wish_choices_chain (T : TX K mg) : KBn K (fdOf K "means_behind") ["chain", "choices", "wish"] 0 ["wish", "choices", "chain"] (fun _ ws => reorder [2, 1, 0] ws) (fun _ zs => reorder [2, 1, 0] zs) := kbn_of (T.df 41) fun _ _ _ _ _ _ ws hl => match ws, hl with | [_, _, _], _ => rfl
theorem kb_lot_behind_state_choices_chain (T : TX K mg) : KBn K (fdOf K "lot_behind") ["chain", "choices", "state"] 0 ["state", "choices", "chain"] (fun _ ws => reorder [2, 1, 0] ws) (fun _ zs => reorder [2, 1, 0] zs) := kbn_of (T.df 40) fun _ _ _ _ _ _ ws hl => match ws, hl with | [_, _, _], _ => rfl
abbrev st__law_choices_right : Stmt := topS 81
theorem sc__law_choices_right : FnScope ["chain", "choices", "wish", "lots", "state", "lot", "due", "low", "high", "one", "less", "more"] ["chain", "choices", "wish"] (defScope st__law_choices_right) := ⟨rfl, rfl, rfl, by decide +kernel, rfl, by decide +kernel, by decide +kernel⟩
theorem bd__law_choices_right (T : TX K mg) : Binds K (fdOf K "_law_choices_right") ["chain", "choices", "wish"] [] := (T.df 60).bindsN fun _ _ _ _ _ _ us hl => match us, hl with | [_, _, _], _ => rfl
def t5__law_choices_right : SM Unit :=
  (sRet (eNot (eN dAnyB (aAll [(eL (oLc [9, 10, 11] (iZ3 (eV 6) (eV 7) (eV 8)) (gT [(gN 9), (gN 10), (gN 11)]) tYes (eOr (eN f__law_below (aAll [(eV 9), (eV 10)])) (eN f__law_below (aAll [(eV 11), (eV 9)])))))]))))
def t4__law_choices_right : SM Unit :=
  (sSeq (sPar [7, 8] [(eN f_led_back (aAll [(eV 0), (eV 2), (eN dLen (aAll [(eV 1)]))])), (eN f_led_up (aAll [(eV 0), (eV 2), (eN dLen (aAll [(eV 1)]))]))])
  t5__law_choices_right)
def t3__law_choices_right : SM Unit :=
  (sSeq (sIf (tV (e2 dNe (eN dRepr (aAll [(eL (aAll [(eN f_means_behind (aAll [(eV 0), (eV 1), (eV 2)])), (eN (fun ds => f_means_behind (reorder [2, 1, 0] ds)) (aAll [(eV 2), (eV 1), (eV 0)]))]))])) (eN dRepr (aAll [(eL (aAll [(eV 6), (eV 6)]))])))) (sRet (eC (.bool false))) sNx)
  t4__law_choices_right)
def t2__law_choices_right : SM Unit :=
  (sSeq (sSet 6 (eL (oLc [5] (iS (eV 3)) (gN 5) tYes (eN f__law_by (aAll [(eV 5), (eL (oLc [9] (iS (eV 2)) (gN 9) tYes (eTup (aAll [(eV 9), (eC (.int 1))]))))])))))
  t3__law_choices_right)
def t1__law_choices_right : SM Unit :=
  (sSeq (sFor (iEn (eV 3)) (gT [(gN 4), (gN 5)]) (sIf (tV (e2 dNe (eN dRepr (aAll [(eL (aAll [(eN f_lot_behind (aAll [(eV 0), (eV 1), (eV 4)])), (eN (fun ds => f_lot_behind (reorder [2, 1, 0] ds)) (aAll [(eV 4), (eV 1), (eV 0)]))]))])) (eN dRepr (aAll [(eL (aAll [(eV 5), (eV 5)]))])))) (sRet (eC (.bool false))) sNx))
  t2__law_choices_right)
def m__law_choices_right : SM Unit :=
  (sSeq (sSet 3 (eL (oLc [4] (iR1 (eN dLen (aAll [(eV 0)]))) (gN 4) tYes (eN f__law_behind (aAll [(eV 0), (eV 1), (eV 4)])))))
  t1__law_choices_right)
def f__law_choices_right : List PyData → Option PyData := fnP 12 m__law_choices_right
theorem ok__law_choices_right (T : TX K mg) : FnG PySem.Challenge.rw_boundedchance_k85_whole_chains_led_backw.prog w K mg base 10 (He.ga K "_law_choices_right") (fdOf K "_law_choices_right") ["chain", "choices", "wish"] (spP K 3 f__law_choices_right) := fn_pure (T.df 60) sc__law_choices_right (by decide) fun c cdv A outer s H E hr => by
  have sc := sc__law_choices_right
  exact (b_cons (s_setLc (i := 3) rfl sc.nd rfl rfl (sw_true rfl rfl rfl (by decide +kernel)) (own := [("state", 4)]) (i_rng1 (e_b (x_callT dn_len (a_cons (e_b (n_v 0 (pv 0))) a_nil) (fun _ h => pe_callB cr_lenD rfl (T.fre fr_len) PySem.boot_len h))) (fun _ h => pi_range1 rfl (T.fre fr_range) h)) (blkOk_by (by kernel_rfl)) (fun _ _ _ _ _ => (g_name (pg_name (i := 4) sc.nd rfl (Or.inl rfl)))) (fun _ _ _ _ _ => ts_nil) (fun _ _ _ _ _ => (x_callP (f_cons (n_v 0 (pv 0)) (f_cons (n_v 1 (pv 1)) (f_cons (n_v 4 (pv 4)) f_nil))) (fun h => pe_callG (ok__law_behind T) (hr.mono (by decide)) rfl (T.glo 59) (T.df 59).kp (bd__law_behind T) h))) (by decide))
  (b_cons (s_for PassesOwn.never rfl (i_enum (n_v 3 (pv 3)) (fun _ h => pi_enG rfl (T.fre fr_enumerate) h)) (g_tup (pg_tup rfl (gs_cons (g_name (pg_name (i := 4) sc.nd rfl (Or.inl rfl))) (gs_cons (g_name (pg_name (i := 5) sc.nd rfl (Or.inl rfl))) gs_nil))) rfl) (b_one (s_if (y_cmp (op_neA hr.u64) d2_ne (e_b (x_callT dn_repr (a_cons (o_b (x_lst (f_cons (x_callP (f_cons (n_v 0 (pv 0)) (f_cons (n_v 1 (pv 1)) (f_cons (n_v 4 (pv 4)) f_nil))) (fun h => pe_callG (ok_lot_behind T) (hr.mono (by decide)) rfl (T.glo 40) (T.df 40).kp (bd_lot_behind T) h)) (f_cons (x_callK (kw_cons (n_v 4 (pv 4)) (kw_cons (n_v 1 (pv 1)) (kw_cons (n_v 0 (pv 0)) kw_nil))) (fun h => pe_callN0 (sp := spP _ 3 f_lot_behind) (gV := fun _ zs => reorder [2, 1, 0] zs) (ok_lot_behind T) (hr.mono (by decide)) rfl (T.glo 40) (T.df 40).kp (kb_lot_behind_state_choices_chain T) h) (fun l hl => match l, hl with | [_, _, _], _ => rfl)) f_nil)))) a_nil) (fun _ h => pe_callB (cr_repr hr.gd hr.u70) rfl (T.fre fr_repr) PyProof.Rows.boot_repr h))) (e_b (x_callT dn_repr (a_cons (o_b (x_lst (f_cons (n_v 5 (pv 5)) (f_cons (n_v 5 (pv 5)) f_nil)))) a_nil) (fun _ h => pe_callB (cr_repr hr.gd hr.u70) rfl (T.fre fr_repr) PyProof.Rows.boot_repr h))) (nomark _)) (b_one (s_ret k_bl)) b_nil)))
  (b_cons (s_setLc (i := 6) rfl sc.nd rfl rfl (sw_true rfl rfl rfl (by decide +kernel)) (own := [("lot", 5)]) (i_sq (n_v 3 (pv 3))) (blkOk_by (by kernel_rfl)) (fun _ _ _ _ _ => (g_name (pg_name (i := 5) sc.nd rfl (Or.inl rfl)))) (fun _ _ _ _ _ => ts_nil) (fun _ _ _ _ _ => (x_callP (f_cons (n_v 5 (pv 5)) (f_cons (o_e (x_lc rfl sc.nd (own := [("one", 9)]) (i_sq (n_v 2 (pv 2))) (blkOk_by (by kernel_rfl)) (fun _ _ _ _ _ => (g_name (pg_name (i := 9) sc.nd rfl (Or.inl rfl)))) (fun _ _ _ _ _ => ts_nil) (fun _ _ _ _ _ => (x_tup (f_cons (n_v 9 (pv 9)) (f_cons k_int f_nil)))) (by decide))) f_nil)) (fun h => pe_callG (ok__law_by T) (hr.mono (by decide)) rfl (T.glo 53) (T.df 53).kp (bd__law_by T) h))) (by decide))
  (b_cons (s_if (y_cmp (op_neA hr.u64) d2_ne (e_b (x_callT dn_repr (a_cons (o_b (x_lst (f_cons (x_callP (f_cons (n_v 0 (pv 0)) (f_cons (n_v 1 (pv 1)) (f_cons (n_v 2 (pv 2)) f_nil))) (fun h => pe_callG (ok_means_behind T) (hr.mono (by decide)) rfl (T.glo 41) (T.df 41).kp (bd_means_behind T) h)) (f_cons (x_callK (kw_cons (n_v 2 (pv 2)) (kw_cons (n_v 1 (pv 1)) (kw_cons (n_v 0 (pv 0)) kw_nil))) (fun h => pe_callN0 (sp := spP _ 3 f_means_behind) (gV := fun _ zs => reorder [2, 1, 0] zs) (ok_means_behind T) (hr.mono (by decide)) rfl (T.glo 41) (T.df 41).kp (kb_means_behind_wish_choices_chain T) h) (fun l hl => match l, hl with | [_, _, _], _ => rfl)) f_nil)))) a_nil) (fun _ h => pe_callB (cr_repr hr.gd hr.u70) rfl (T.fre fr_repr) PyProof.Rows.boot_repr h))) (e_b (x_callT dn_repr (a_cons (o_b (x_lst (f_cons (n_v 6 (pv 6)) (f_cons (n_v 6 (pv 6)) f_nil)))) a_nil) (fun _ h => pe_callB (cr_repr hr.gd hr.u70) rfl (T.fre fr_repr) PyProof.Rows.boot_repr h))) (nomark _)) (b_one (s_ret k_bl)) b_nil)
  (b_cons (s_par (i := 7) (j := 8) rfl sc.nd rfl rfl (by decide) rfl rfl (f_cons (x_callP (f_cons (n_v 0 (pv 0)) (f_cons (n_v 2 (pv 2)) (f_cons (x_callT dn_len (a_cons (e_b (n_v 1 (pv 1))) a_nil) (fun _ h => pe_callB cr_lenD rfl (T.fre fr_len) PySem.boot_len h)) f_nil))) (fun h => pe_callG (ok_led_back T) (hr.mono (by decide)) rfl (T.glo 37) (T.df 37).kp (bd_led_back T) h)) (f_cons (x_callP (f_cons (n_v 0 (pv 0)) (f_cons (n_v 2 (pv 2)) (f_cons (x_callT dn_len (a_cons (e_b (n_v 1 (pv 1))) a_nil) (fun _ h => pe_callB cr_lenD rfl (T.fre fr_len) PySem.boot_len h)) f_nil))) (fun h => pe_callG (ok_led_up T) (hr.mono (by decide)) rfl (T.glo 38) (T.df 38).kp (bd_led_up T) h)) f_nil)) rfl)
  (b_one (s_ret (x_not (e_b (x_callT dn_any (a_cons (o_b (x_lc rfl sc.nd (own := [("one", 9), ("less", 10), ("more", 11)]) (i_zip3 (n_v 6 (pv 6)) (n_v 7 (pv 7)) (n_v 8 (pv 8)) (fun _ h => pi_zip3 rfl (T.fre fr_zip) h)) (blkOk_by (by kernel_rfl)) (fun _ _ _ _ _ => (g_tup (pg_tup rfl (gs_cons (g_name (pg_name (i := 9) sc.nd rfl (Or.inl rfl))) (gs_cons (g_name (pg_name (i := 10) sc.nd rfl (Or.inl rfl))) (gs_cons (g_name (pg_name (i := 11) sc.nd rfl (Or.inl rfl))) gs_nil)))) rfl)) (fun _ _ _ _ _ => ts_nil) (fun _ _ _ _ _ => (x_or (e_b (x_callP (f_cons (n_v 9 (pv 9)) (f_cons (n_v 10 (pv 10)) f_nil)) (fun h => pe_callG (ok__law_below T) (hr.mono (by decide)) rfl (T.glo 50) (T.df 50).kp (bd__law_below T) h))) (x_one (x_callP (f_cons (n_v 11 (pv 11)) (f_cons (n_v 9 (pv 9)) f_nil)) (fun h => pe_callG (ok__law_below T) (hr.mono (by decide)) rfl (T.glo 50) (T.df 50).kp (bd__law_below T) h))))) (by decide))) a_nil) (fun _ h => pe_callB (cr_any rfl) rfl (T.fre fr_any) PyProof.Rows.boot_any h)))))))))))
/-! _law_right -/
theorem kb_told_choices_steps_wish_chain (T : TX K mg) : KBn K (fdOf K "told_choices") ["chain", "wish", "steps"] 0 ["steps", "wish", "chain"] (fun _ ws => reorder [2, 1, 0] ws) (fun _ zs => reorder [2, 1, 0] zs) := kbn_of (T.df 39) fun _ _ _ _ _ _ ws hl => match ws, hl with | [_, _, _], _ => rfl
theorem kb_led_up_steps_wish_chain (T : TX K mg) : KBn K (fdOf K "led_up") ["chain", "wish", "steps"] 0 ["steps", "wish", "chain"] (fun _ ws => reorder [2, 1, 0] ws) (fun _ zs => reorder [2, 1, 0] zs) := kbn_of (T.df 38) fun _ _ _ _ _ _ ws hl => match ws, hl with | [_, _, _], _ => rfl
theorem kb_led_back_steps_wish_chain (T : TX K mg) : KBn K (fdOf K "led_back") ["chain", "wish", "steps"] 0 ["steps", "wish", "chain"] (fun _ ws => reorder [2, 1, 0] ws) (fun _ zs => reorder [2, 1, 0] zs) := kbn_of (T.df 37) fun _ _ _ _ _ _ ws hl => match ws, hl with | [_, _, _], _ => rfl
abbrev st__law_right : Stmt := topS 82
theorem sc__law_right : FnScope ["pot", "states", "chain", "wish", "steps", "shown", "plain", "back", "up", "told", "turned", "one", "late", "due", "drawn", "step", "lots"] ["pot"] (defScope st__law_right) := ⟨rfl, rfl, rfl, by decide +kernel, rfl, by decide +kernel, by decide +kernel⟩
theorem bd__law_right (T : TX K mg) : Binds K (fdOf K "_law_right") ["pot"] [] := (T.df 61).bindsN fun _ _ _ _ _ _ us hl => match us, hl with | [_], _ => rfl
def t15__law_right : SM (List PyData) :=
  (sRet (eAnd (e2 dEq (eN f_led_back (aAll [(eV 2), (eV 3), (eV 4)])) (eV 7)) (e2 dEq (eN dRepr (aAll [(eL (aAll [(eV 2), (eV 3)]))])) (eV 5))))
def t14__law_right : SM (List PyData) :=
  (sSeq (sSpo 9 (eC .none))
  t15__law_right)
def t13__law_right : SM (List PyData) :=
  (sSeq (sIf (tNot (tV (eN f__law_choices_right (aAll [(eV 2), (eV 14), (eV 3)])))) (sRet (eC (.bool false))) sNx)
  t14__law_right)
def t12__law_right : SM (List PyData) :=
  (sSeq (sSet 14 (eL (oLc [15] (iR1 (eV 4)) (gN 15) tYes (eL (oLc [16] (iS (eV 2)) (gN 16) tYes (eR f__law_draw 0 (aAll [(eN dLen (aAll [(eV 16)]))])))))))
  t13__law_right)
def t11__law_right : SM (List PyData) :=
  (sSeq (sIf (tOr (tV (e2 dNe (eN f_means_behind (aAll [(eV 2), (eV 13), (eV 3)])) (eV 7))) (tNot (tV (eN f__law_choices_right (aAll [(eV 2), (eV 13), (eV 3)]))))) (sRet (eC (.bool false))) sNx)
  t12__law_right)
def t10__law_right : SM (List PyData) :=
  (sSeq (sIf (tV (e2 dNe (eN dRepr (aAll [(eL (aAll [(eN f_told_choices (aAll [(eV 2), (eV 3), (eV 4)])), (eN (fun ds => f_told_choices (reorder [2, 1, 0] ds)) (aAll [(eV 4), (eV 3), (eV 2)]))]))])) (eN dRepr (aAll [(eL (aAll [(eV 13), (eV 13)]))])))) (sRet (eC (.bool false))) sNx)
  t11__law_right)
def t9__law_right : SM (List PyData) :=
  (sSeq (sSet 13 (eN f__law_told (aAll [(eV 2), (eV 3), (eV 4)])))
  t10__law_right)
def t8__law_right : SM (List PyData) :=
  (sSeq (sFor (iZ (eV 7) (eV 8)) (gT [(gN 11), (gN 12)]) (sIf (tOr (tV (eN f__law_below (aAll [(eV 12), (eV 11)]))) (tOr (tV (eN f__law_below (aAll [(eV 11), (eTup (aAll [(eN dMinL (aAll [(eV 3)])), (eC (.int 1))]))]))) (tV (eN f__law_below (aAll [(eTup (aAll [(eN dMaxL (aAll [(eV 3)])), (eC (.int 1))])), (eV 12)]))))) (sRet (eC (.bool false))) sNx))
  t9__law_right)
def t7__law_right : SM (List PyData) :=
  (sSeq (sIf (tV (e2 dNe (eL (oLc [11] (iS (eV 10)) (gN 11) tYes (eTup (aAll [(e2 dSub (eC (.int 0)) (e2 dIx (eV 11) (eC (.int 0)))), (e2 dIx (eV 11) (eC (.int 1)))])))) (eV 8))) (sRet (eC (.bool false))) sNx)
  t8__law_right)
def t6__law_right : SM (List PyData) :=
  (sSeq (sSet 10 (eN f_led_back (aAll [(eV 2), (eL (oLc [11] (iS (eV 3)) (gN 11) tYes (e2 dSub (eC (.int 0)) (eV 11)))), (eV 4)])))
  t7__law_right)
def t5__law_right : SM (List PyData) :=
  (sSeq (sIf (tV (e2 dNe (eRepr1 9) (eN dRepr (aAll [(eL (aAll [(eV 7), (eV 7), (eV 8), (eV 8)]))])))) (sRet (eC (.bool false))) sNx)
  t6__law_right)
def t4__law_right : SM (List PyData) :=
  (sSeq (sOwn1 9 (oN fo_led_back (aAll [(eV 2), (eV 3), (eV 4)])) (aAll [(eN (fun ds => f_led_back (reorder [2, 1, 0] ds)) (aAll [(eV 4), (eN dTup (aAll [(eV 3)])), (eV 2)])), (eN f_led_up (aAll [(eV 2), (eV 3), (eV 4)])), (eN (fun ds => f_led_up (reorder [2, 1, 0] ds)) (aAll [(eV 4), (eV 3), (eV 2)]))]))
  t5__law_right)
def t3__law_right : SM (List PyData) :=
  (sSeq (sPar [7, 8] [(eN f__law_led (aAll [(eV 2), (eV 6), (eV 4), (eC (.bool false))])), (eN f__law_led (aAll [(eV 2), (eV 6), (eV 4), (eC (.bool true))]))])
  t4__law_right)
def t2__law_right : SM (List PyData) :=
  (sSeq (sPar [5, 6] [(eN dRepr (aAll [(eL (aAll [(eV 2), (eV 3)]))])), (eL (oLc [11] (iS (eV 3)) (gN 11) tYes (eTup (aAll [(eV 11), (eC (.int 1))]))))])
  t3__law_right)
def t1__law_right : SM (List PyData) :=
  (sSeq (sBind (gT [(gN 2), (gN 3), (gN 4)]) (eTup (aAll [(eR f__law_chain 0 (aAll [(eV 1), (eC (.int 3))])), (eR f__law_chain_wish 0 (aAll [(eV 1)])), (eR f__law_draw 0 (aAll [(eR f__law_pick 0 (aAll [(eL (aAll [(eC (.int 4)), (eC (.int 9))]))]))]))])))
  t2__law_right)
def m__law_right : SM (List PyData) :=
  (sSeq (sSet 1 (e2 dAdd (eC (.int 1)) (eR f__law_draw 0 (aAll [(eC (.int 4))]))))
  t1__law_right)
def f__law_right : List PyData → List PyData → Option (PyData × List PyData) := fnR 16 m__law_right
theorem ok__law_right (T : TX K mg) : FnG PySem.Challenge.rw_boundedchance_k85_whole_chains_led_backw.prog w K mg base 11 (He.ga K "_law_right") (fdOf K "_law_right") ["pot"] (spR K (IsPot K) 0 f__law_right) := fn_reg (T.df 61) sc__law_right (by decide) rfl fun c cdv A outer s H E hrr hr => by
  have sc := sc__law_right
  exact (b_cons (s_set (i := 1) sc.nd rfl (Or.inl rfl) (x_op op_addA d2_add (e_b k_int) (e_b (x_callR hrr (pv 0) (f_cons k_int f_nil) (fun h => pe_callG (ok__law_draw T) (hr.mono (by decide)) rfl (T.glo 43) (T.df 43).kp (bd__law_draw T) h)))))
  (b_cons (s_bind (x_tup (f_cons (x_callR hrr (pv 0) (f_cons (n_v 1 (pv 1)) (f_cons k_int f_nil)) (fun h => pe_callG (ok__law_chain T) (hr.mono (by decide)) rfl (T.glo 52) (T.df 52).kp (bd__law_chain T) h)) (f_cons (x_callR hrr (pv 0) (f_cons (n_v 1 (pv 1)) f_nil) (fun h => pe_callG (ok__law_chain_wish T) (hr.mono (by decide)) rfl (T.glo 57) (T.df 57).kp (bd__law_chain_wish T) h)) (f_cons (x_callR hrr (pv 0) (f_cons (x_callR hrr (pv 0) (f_cons (o_e (x_lst (f_cons k_int (f_cons k_int f_nil)))) f_nil) (fun h => pe_callG (ok__law_pick T) (hr.mono (by decide)) rfl (T.glo 44) (T.df 44).kp (bd__law_pick T) h)) f_nil) (fun h => pe_callG (ok__law_draw T) (hr.mono (by decide)) rfl (T.glo 43) (T.df 43).kp (bd__law_draw T) h)) f_nil)))) (g_tup (pg_tup rfl (gs_cons (g_name (pg_name (i := 2) sc.nd rfl (Or.inr rfl))) (gs_cons (g_name (pg_name (i := 3) sc.nd rfl (Or.inl rfl))) (gs_cons (g_name (pg_name (i := 4) sc.nd rfl (Or.inl rfl))) gs_nil)))) rfl))
  (b_cons (s_par (i := 5) (j := 6) rfl sc.nd rfl rfl (by decide) rfl rfl (f_cons (x_callT dn_repr (a_cons (o_b (x_lst (f_cons (n_v 2 (pv 2)) (f_cons (n_v 3 (pv 3)) f_nil)))) a_nil) (fun _ h => pe_callB (cr_repr hr.gd hr.u70) rfl (T.fre fr_repr) PyProof.Rows.boot_repr h)) (f_cons (o_e (x_lc rfl sc.nd (own := [("one", 11)]) (i_sq (n_v 3 (pv 3))) (blkOk_by (by kernel_rfl)) (fun _ _ _ _ _ => (g_name (pg_name (i := 11) sc.nd rfl (Or.inl rfl)))) (fun _ _ _ _ _ => ts_nil) (fun _ _ _ _ _ => (x_tup (f_cons (n_v 11 (pv 11)) (f_cons k_int f_nil)))) (by decide))) f_nil)) rfl)
  (b_cons (s_par (i := 7) (j := 8) rfl sc.nd rfl rfl (by decide) rfl rfl (f_cons (x_callP (f_cons (n_v 2 (pv 2)) (f_cons (n_v 6 (pv 6)) (f_cons (n_v 4 (pv 4)) (f_cons k_bl f_nil)))) (fun h => pe_callG (ok__law_led T) (hr.mono (by decide)) rfl (T.glo 55) (T.df 55).kp (bd__law_led T) h)) (f_cons (x_callP (f_cons (n_v 2 (pv 2)) (f_cons (n_v 6 (pv 6)) (f_cons (n_v 4 (pv 4)) (f_cons k_bl f_nil)))) (fun h => pe_callG (ok__law_led T) (hr.mono (by decide)) rfl (T.glo 55) (T.df 55).kp (bd__law_led T) h)) f_nil)) rfl)
  (b_cons (s_own1 (i := 9) sc.nd rfl (Or.inl rfl) (x_callO (f_cons (n_v 2 (pv 2)) (f_cons (n_v 3 (pv 3)) (f_cons (n_v 4 (pv 4)) f_nil))) (fun h => pe_callG (oko_led_back T) (hr.mono (by decide)) rfl (T.glo 37) (T.df 37).kp (bd_led_back T) h)) (f_cons (x_callK (kw_cons (n_v 4 (pv 4)) (kw_cons (x_callT dn_tup (a_cons (e_b (n_v 3 (pv 3))) a_nil) (fun _ h => pe_callTy call_tuple_of rfl (T.fre fr_tuple) PyProof.Rows.boot_tuple h)) (kw_cons (n_v 2 (pv 2)) kw_nil))) (fun h => pe_callN0 (sp := spP _ 3 f_led_back) (gV := fun _ zs => reorder [2, 1, 0] zs) (ok_led_back T) (hr.mono (by decide)) rfl (T.glo 37) (T.df 37).kp (kb_led_back_steps_wish_chain T) h) (fun l hl => match l, hl with | [_, _, _], _ => rfl)) (f_cons (x_callP (f_cons (n_v 2 (pv 2)) (f_cons (n_v 3 (pv 3)) (f_cons (n_v 4 (pv 4)) f_nil))) (fun h => pe_callG (ok_led_up T) (hr.mono (by decide)) rfl (T.glo 38) (T.df 38).kp (bd_led_up T) h)) (f_cons (x_callK (kw_cons (n_v 4 (pv 4)) (kw_cons (n_v 3 (pv 3)) (kw_cons (n_v 2 (pv 2)) kw_nil))) (fun h => pe_callN0 (sp := spP _ 3 f_led_up) (gV := fun _ zs => reorder [2, 1, 0] zs) (ok_led_up T) (hr.mono (by decide)) rfl (T.glo 38) (T.df 38).kp (kb_led_up_steps_wish_chain T) h) (fun l hl => match l, hl with | [_, _, _], _ => rfl)) f_nil))))
  (b_cons (s_if (y_cmp (op_neA hr.u64) d2_ne (e_b (x_repr1 (pa_cons (pv 9) pa_nil) (fun _ h => pe_callB (cr_repr hr.gd hr.u70) rfl (T.fre fr_repr) PyProof.Rows.boot_repr h))) (e_b (x_callT dn_repr (a_cons (o_b (x_lst (f_cons (n_v 7 (pv 7)) (f_cons (n_v 7 (pv 7)) (f_cons (n_v 8 (pv 8)) (f_cons (n_v 8 (pv 8)) f_nil)))))) a_nil) (fun _ h => pe_callB (cr_repr hr.gd hr.u70) rfl (T.fre fr_repr) PyProof.Rows.boot_repr h))) (nomark _)) (b_one (s_ret k_bl)) b_nil)
  (b_cons (s_set (i := 10) sc.nd rfl (Or.inl rfl) (x_callP (f_cons (n_v 2 (pv 2)) (f_cons (o_e (x_lc rfl sc.nd (own := [("one", 11)]) (i_sq (n_v 3 (pv 3))) (blkOk_by (by kernel_rfl)) (fun _ _ _ _ _ => (g_name (pg_name (i := 11) sc.nd rfl (Or.inl rfl)))) (fun _ _ _ _ _ => ts_nil) (fun _ _ _ _ _ => (x_op op_sub d2_sub (e_b k_int) (e_b (n_v 11 (pv 11))))) (by decide))) (f_cons (n_v 4 (pv 4)) f_nil))) (fun h => pe_callG (ok_led_back T) (hr.mono (by decide)) rfl (T.glo 37) (T.df 37).kp (bd_led_back T) h)))
  (b_cons (s_if (y_cmp (op_neA hr.u64) d2_ne (o_b (x_lc rfl sc.nd (own := [("one", 11)]) (i_sq (n_v 10 (pv 10))) (blkOk_by (by kernel_rfl)) (fun _ _ _ _ _ => (g_name (pg_name (i := 11) sc.nd rfl (Or.inl rfl)))) (fun _ _ _ _ _ => ts_nil) (fun _ _ _ _ _ => (x_tup (f_cons (x_op op_sub d2_sub (e_b k_int) (e_b (x_ix ix_seq (e_b (n_v 11 (pv 11))) (e_b k_int) (fun _ _ => rfl)))) (f_cons (x_ix ix_seq (e_b (n_v 11 (pv 11))) (e_b k_int) (fun _ _ => rfl)) f_nil)))) (by decide))) (e_b (n_v 8 (pv 8))) (nomark _)) (b_one (s_ret k_bl)) b_nil)
  (b_cons (s_for PassesOwn.never rfl (i_zip (n_v 7 (pv 7)) (n_v 8 (pv 8)) (fun _ h => pi_zipG rfl (T.fre fr_zip) h)) (g_tup (pg_tup rfl (gs_cons (g_name (pg_name (i := 11) sc.nd rfl (Or.inl rfl))) (gs_cons (g_name (pg_name (i := 12) sc.nd rfl (Or.inl rfl))) gs_nil))) rfl) (b_one (s_if (PW.pt (y_or (t_val (e_b (x_callP (f_cons (n_v 12 (pv 12)) (f_cons (n_v 11 (pv 11)) f_nil)) (fun h => pe_callG (ok__law_below T) (hr.mono (by decide)) rfl (T.glo 50) (T.df 50).kp (bd__law_below T) h)))) (y_or (t_val (e_b (x_callP (f_cons (n_v 11 (pv 11)) (f_cons (x_tup (f_cons (x_callT dn_minL (a_cons (e_b (n_v 3 (pv 3))) a_nil) (fun _ h => pe_callB (cr_min rfl) rfl (T.fre fr_min) PyProof.Rows.boot_min h)) (f_cons k_int f_nil))) f_nil)) (fun h => pe_callG (ok__law_below T) (hr.mono (by decide)) rfl (T.glo 50) (T.df 50).kp (bd__law_below T) h)))) (y_or1 (t_val (e_b (x_callP (f_cons (x_tup (f_cons (x_callT dn_maxL (a_cons (e_b (n_v 3 (pv 3))) a_nil) (fun _ h => pe_callB (cr_max rfl) rfl (T.fre fr_max) PyProof.Rows.boot_max h)) (f_cons k_int f_nil))) (f_cons (n_v 12 (pv 12)) f_nil)) (fun h => pe_callG (ok__law_below T) (hr.mono (by decide)) rfl (T.glo 50) (T.df 50).kp (bd__law_below T) h)))))))) (b_one (s_ret k_bl)) b_nil)))
  (b_cons (s_set (i := 13) sc.nd rfl (Or.inl rfl) (x_callP (f_cons (n_v 2 (pv 2)) (f_cons (n_v 3 (pv 3)) (f_cons (n_v 4 (pv 4)) f_nil))) (fun h => pe_callG (ok__law_told T) (hr.mono (by decide)) rfl (T.glo 58) (T.df 58).kp (bd__law_told T) h)))
  (b_cons (s_if (y_cmp (op_neA hr.u64) d2_ne (e_b (x_callT dn_repr (a_cons (o_b (x_lst (f_cons (x_callP (f_cons (n_v 2 (pv 2)) (f_cons (n_v 3 (pv 3)) (f_cons (n_v 4 (pv 4)) f_nil))) (fun h => pe_callG (ok_told_choices T) (hr.mono (by decide)) rfl (T.glo 39) (T.df 39).kp (bd_told_choices T) h)) (f_cons (x_callK (kw_cons (n_v 4 (pv 4)) (kw_cons (n_v 3 (pv 3)) (kw_cons (n_v 2 (pv 2)) kw_nil))) (fun h => pe_callN0 (sp := spP _ 3 f_told_choices) (gV := fun _ zs => reorder [2, 1, 0] zs) (ok_told_choices T) (hr.mono (by decide)) rfl (T.glo 39) (T.df 39).kp (kb_told_choices_steps_wish_chain T) h) (fun l hl => match l, hl with | [_, _, _], _ => rfl)) f_nil)))) a_nil) (fun _ h => pe_callB (cr_repr hr.gd hr.u70) rfl (T.fre fr_repr) PyProof.Rows.boot_repr h))) (e_b (x_callT dn_repr (a_cons (o_b (x_lst (f_cons (n_v 13 (pv 13)) (f_cons (n_v 13 (pv 13)) f_nil)))) a_nil) (fun _ h => pe_callB (cr_repr hr.gd hr.u70) rfl (T.fre fr_repr) PyProof.Rows.boot_repr h))) (nomark _)) (b_one (s_ret k_bl)) b_nil)
  (b_cons (s_if (PW.pt (y_or (y_cmp (op_neA hr.u64) d2_ne (e_b (x_callP (f_cons (n_v 2 (pv 2)) (f_cons (n_v 13 (pv 13)) (f_cons (n_v 3 (pv 3)) f_nil))) (fun h => pe_callG (ok_means_behind T) (hr.mono (by decide)) rfl (T.glo 41) (T.df 41).kp (bd_means_behind T) h))) (e_b (n_v 7 (pv 7))) (nomark _)) (y_or1 (y_not (t_val (e_b (x_callP (f_cons (n_v 2 (pv 2)) (f_cons (n_v 13 (pv 13)) (f_cons (n_v 3 (pv 3)) f_nil))) (fun h => pe_callG (ok__law_choices_right T) (hr.mono (by decide)) rfl (T.glo 60) (T.df 60).kp (bd__law_choices_right T) h)))))))) (b_one (s_ret k_bl)) b_nil)
  (b_cons (s_setLc (i := 14) rfl sc.nd rfl rfl (sw_true rfl rfl rfl (by decide +kernel)) (own := [("step", 15)]) (i_rng1 (e_b (n_v 4 (pv 4))) (fun _ h => pi_range1 rfl (T.fre fr_range) h)) (blkOk_by (by kernel_rfl)) (fun _ _ _ _ _ => (g_name (pg_name (i := 15) sc.nd rfl (Or.inl rfl)))) (fun _ _ _ _ _ => ts_nil) (fun _ _ _ _ _ => (o_e (x_lc rfl sc.nd (own := [("lots", 16)]) (i_sq (n_v 2 (pv 2))) (blkOk_by (by kernel_rfl)) (fun _ _ _ _ _ => (g_name (pg_name (i := 16) sc.nd rfl (Or.inl rfl)))) (fun _ _ _ _ _ => ts_nil) (fun _ _ _ _ _ => (x_callR hrr (pv 0) (f_cons (x_callT dn_len (a_cons (e_b (n_v 16 (pv 16))) a_nil) (fun _ h => pe_callB cr_lenD rfl (T.fre fr_len) PySem.boot_len h)) f_nil) (fun h => pe_callG (ok__law_draw T) (hr.mono (by decide)) rfl (T.glo 43) (T.df 43).kp (bd__law_draw T) h))) (by decide)))) (by decide))
  (b_cons (s_if (y_not (t_val (e_b (x_callP (f_cons (n_v 2 (pv 2)) (f_cons (n_v 14 (pv 14)) (f_cons (n_v 3 (pv 3)) f_nil))) (fun h => pe_callG (ok__law_choices_right T) (hr.mono (by decide)) rfl (T.glo 60) (T.df 60).kp (bd__law_choices_right T) h))))) (b_one (s_ret k_bl)) b_nil)
  (b_cons (s_spo (ps_expr (pe_bm PySem.F.plainAttrs_list PySem.F.slot_list_append PySem.F.type_list_append mt_append (pe_ix ix_list (pv 9) (e_b k_int) (fun _ _ => rfl)) (pa_cons k_non pa_nil))))
  (b_one (s_ret (x_and (e_b (x_cmp (op_eqA hr.u64) d2_eq (e_b (x_callP (f_cons (n_v 2 (pv 2)) (f_cons (n_v 3 (pv 3)) (f_cons (n_v 4 (pv 4)) f_nil))) (fun h => pe_callG (ok_led_back T) (hr.mono (by decide)) rfl (T.glo 37) (T.df 37).kp (bd_led_back T) h))) (e_b (n_v 7 (pv 7))) (nomark _))) (x_one (x_cmp (op_eqA hr.u64) d2_eq (e_b (x_callT dn_repr (a_cons (o_b (x_lst (f_cons (n_v 2 (pv 2)) (f_cons (n_v 3 (pv 3)) f_nil)))) a_nil) (fun _ h => pe_callB (cr_repr hr.gd hr.u70) rfl (T.fre fr_repr) PyProof.Rows.boot_repr h))) (e_b (n_v 5 (pv 5))) (nomark _)))))))))))))))))))))
/-! law -/
abbrev st_law : Stmt := topS 83
theorem sc_law : FnScope ["script", "k"] ["script"] (defScope st_law) := ⟨rfl, rfl, rfl, by decide +kernel, rfl, by decide +kernel, by decide +kernel⟩
theorem bd_law (T : TX K mg) : Binds K (fdOf K "law") ["script"] [] := (T.df 62).bindsN fun _ _ _ _ _ _ us hl => match us, hl with | [_], _ => rfl
def m_law : SM Unit :=
  (sRet (eN dAllB (aAll [(eL (oLc [1] (iR1 (eN dMax2 (aAll [(eC (.int 1)), (eN dMin2 (aAll [(eC (.int 2)), (eN dLen (aAll [(eV 0)]))]))]))) (gN 1) tYes (eNew f__law_pot f__law_right (aAll [(eV 0), (eV 1)]))))])))
def f_law : List PyData → Option PyData := fnP 2 m_law
theorem ok_law (T : TX K mg) : FnG PySem.Challenge.rw_boundedchance_k85_whole_chains_led_backw.prog w K mg base 12 (He.ga K "law") (fdOf K "law") ["script"] (spP K 1 f_law) := fn_pure (T.df 62) sc_law (by decide) fun c cdv A outer s H E hr => by
  have sc := sc_law
  exact (b_one (s_ret (x_callT dn_all (a_cons (o_b (x_lc rfl sc.nd (own := [("k", 1)]) (i_rng1 (e_b (x_callT dn_max2 (a_cons (e_b k_int) (a_cons (e_b (x_callT dn_min2 (a_cons (e_b k_int) (a_cons (e_b (x_callT dn_len (a_cons (e_b (n_v 0 (pv 0))) a_nil) (fun _ h => pe_callB cr_lenD rfl (T.fre fr_len) PySem.boot_len h))) a_nil)) (fun _ h => pe_callB (call_min2 rfl) rfl (T.fre fr_min) PyProof.Rows.boot_min h))) a_nil)) (fun _ h => pe_callB (call_max2 rfl) rfl (T.fre fr_max) PyProof.Rows.boot_max h))) (fun _ h => pi_range1 rfl (T.fre fr_range) h)) (blkOk_by (by kernel_rfl)) (fun _ _ _ _ _ => (g_name (pg_name (i := 1) sc.nd rfl (Or.inl rfl)))) (fun _ _ _ _ _ => ts_nil) (fun _ _ _ _ _ => (PE.imp (pe_callG (E := E0) (ok__law_right T) (hr.mono (by decide)) rfl (T.glo 61) (T.df 61).kp (bd__law_right T) (pa_cons (pe_callG (E := E0) (ok__law_pot T) (hr.mono (by decide)) rfl (T.glo 42) (T.df 42).kp (bd__law_pot T) (f_cons (n_v 0 (pv 0)) (f_cons (n_v 1 (pv 1)) f_nil))) pa_nil)) (fun _ _ _ h => new_run rfl h))) (by decide))) a_nil) (fun _ h => pe_callB (cr_all rfl) rfl (T.fre fr_all) PyProof.Rows.boot_all h))))
end
end Dv

namespace Dv
open PySem L2
local macro_rules | `(tactic| walk_at "ev") => `(tactic| simp only [ev_some, ev_none, ev_eC, ev_eV0, ev_eVs, ev_bV0, ev_bO0, ev_bVs, ev_e1, ev_e2, ev_eN, ev_oN, ev_o2, ev_nil, ev_cons, ev_eL, ev_eTup, ev_tV, ev_tAnd, ev_tOr, ev_tNot, ev_tYes, ev_eIf, ev_eNot, ev_eAnd, ev_eOr, ev_eChain, ev_pN, ev_pS, ev_eSl, ev_oSl, ev_iS, ev_iZ, ev_iR1, ev_iR2, ev_oLc, ev_iEn, ev_iEz, ev_iZ3, ev_eIfT, ev_eRv, ev_mulT, ev_mulS, ev_isN, ev_isnN, ev_repO, ev_sExtE, ev_eTr,
  ev_eNew, ev_eR0, ev_eReg0, ev_gReg0, ev_ixN0, ev_ixN1, ev_sAppE, ev_sPutE, Option.some.injEq, SV.own.injEq, SV.val.injEq, List.getElem?_cons_zero, List.getElem?_cons_succ, ev_sNx, ev_sBk, ev_sCt, ev_sNo, nxt_nx, nxt_rt, nxt_bk, nxt_ct, ev_sSeq, ev_sIf, ev_sSet, ev_sOwn, ev_sDrop, ev_sRet, ev_sFrz, ev_sBind, ev_sPar, ev_sFor, ev_gN, ev_gT, ev_gNil, ev_gCons, trn_nx, trn_ct, trn_bk, trn_rt, ev_sWhile, out_rt, out_nx, outr_rt, outr_nx, ev_at0, ev_at1, ev_at2,
  ev_addI, ev_subI, ev_mulI, ev_divI, ev_modI, ev_negI, ev_I2, ev_absI, ev_intI, ev_intB, ev_lenL, ev_lenT, ev_ixL, ev_ixT, ev_addL, ev_addT, ev_catL, ev_eqI, ev_neI, ev_eqS, ev_neS, ev_eqL, ev_neL, ev_eqT, ev_neT, ev_inL, ev_inT, ev_ninL, ev_ninT, ev_isi, ev_itL, ev_itT, ev_tupL, ev_tupT, ev_listL, ev_listT, ev_max, ev_min, ev_divmod, ev_repr, ev_sorted,
  List.set_cons_zero, List.set_cons_succ, List.map_cons, List.map_nil, wipeE, frz1, PyData.bool.injEq, PyData.int.injEq, exists_eq_left', exists_eq_left, decide_eq_true_eq, Bool.not_eq_true', decide_eq_false_iff_not, ite_true, ite_false, Bool.true_eq_false, Bool.false_eq_true, Bool.not_true, Bool.not_false, true_and, and_true, if_true, if_false])
/-! ### ints, lists, fractions of the package -/
theorem isint_eq (d : PyData) (ok : tyOk d = true) : f_is_integer [d] = some (.bool (tyD d == "int")) := by
  rw [← ev_eq]
  unfold f_is_integer
  rw [ev_fnP]
  show Ev (m_is_integer () [.val _]) _
  unfold m_is_integer
  walk_at "ev"
  refine ⟨ok, ?_⟩
  cases d <;> simp_all [isTy, tyD]
def inB (a b : Int) : PyData → Bool
  | .int v => decide (a ≤ v) && decide (v ≤ b)
  | _ => false
theorem within_gen (d : PyData) (a b : Int) (h : tyOk d = true) : f_is_within [d, .int a, .int b] = some (.bool (inB a b d)) := by
  rw [← ev_eq]
  unfold f_is_within
  rw [ev_fnP]
  show Ev (m_is_within () [.val _, .val _, .val _]) _
  unfold m_is_within
  walk_at "ev"
  rw [isint_eq _ h]
  walk_at "ev"
  cases d with
  | int v =>
    walk_at "ev"
    by_cases h : a ≤ v
    · simp [h, tyD, inB, ev_I2]
    · simp [h, tyD, inB, ev_I2]
  | _ => simp [tyD, inB]
def lstB : PyData → Bool
  | .list _ => true
  | .tuple _ => true
  | _ => false
theorem islist_eq (d : PyData) (h : tyOk d = true) : f_is_list [d] = some (.bool (lstB d)) := by
  rw [← ev_eq]
  unfold f_is_list
  rw [ev_fnP]
  show Ev (m_is_list () [.val _]) _
  unfold m_is_list
  walk_at "ev"
  refine ⟨h, ?_⟩
  cases d <;> simp [isTy, tyD, lstB]
theorem lst_items {x : PyData} (h : lstB x = true) : ∃ es, items x = some es ∧ dLen [x] = some (.int es.length) ∧ ∀ n, okD (n + 1) x = true → es.length ≤ 1000 ∧ ∀ e ∈ es, okD n e = true := by
  cases x with
  | list es => exact ⟨es, rfl, rfl, fun n h => ok_list h⟩
  | tuple es => exact ⟨es, rfl, rfl, fun n h => ok_tuple h⟩
  | _ => cases h
theorem lst_no {x : PyData} (h : lstB x = false) : items x = none := by
  cases x with
  | list es => cases h
  | tuple es => cases h
  | _ => rfl
theorem ty_lst (z : PyData) : (isTy (tyD z) "list" || (isTy (tyD z) "tuple" || false)) = lstB z := by cases z <;> simp [isTy, tyD, lstB]
theorem ok_tup {n : Nat} {d : PyData} (h : okD (n + 1) d = true) : ∀ x, .tuple x = d → x.length ≤ 1000 ∧ ∀ y ∈ x, tyOk y = true := fun x e => by
  subst e
  exact ⟨(ok_tuple h).1, fun y hy => ok_tyOk ((ok_tuple h).2 y hy)⟩
theorem divisor_eq (a b : Int) (ha : 0 ≤ a) (hb : 0 ≤ b) : f_divisor [.int a, .int b] = some (.int (Int.gcd a b)) := by
  rw [← ev_eq]
  unfold f_divisor
  rw [ev_fnP]
  show Ev (m_divisor () [.val _, .val _]) _
  unfold m_divisor
  walk_at "ev"
  refine wh_inv (fun n _ env => ∃ x y : Int, env = [.val (.int x), .val (.int y)] ∧ 0 ≤ x ∧ 0 ≤ y ∧ y.toNat = n ∧ Int.gcd x y = Int.gcd a b) ?_ ⟨a, b, rfl, ha, hb, rfl, rfl⟩ (show b.toNat < b.natAbs + 2 by omega)
  rintro n _ _ ⟨x, y, rfl, hx, hy, rfl, hg⟩
  walk_at "ev"
  split
  · rename_i h
    refine ⟨h, (x % y).toNat, ?_, y, x % y, rfl, by omega, Int.emod_nonneg _ (by omega), rfl, ?_⟩
    · have := Int.emod_lt_of_pos x h
      have := Int.emod_nonneg x (show y ≠ 0 by omega)
      omega
    · rw [gcd_step hx h, hg]
  · rename_i h
    have : y = 0 := by omega
    subst this
    rw [← hg, Int.gcd_zero_right, show ((x.natAbs : Nat) : Int) = x by omega]
theorem reduced_eq {t b : Int} {n : Nat} (hb : b ≠ 0) (h : b.natAbs < 2 ^ n) (hn : n ≤ 8999) : f_reduced [.int t, .int b] = some (fr (Rat.divInt t b)) := by
  rw [← ev_eq]
  unfold f_reduced
  rw [ev_fnP]
  show Ev (m_reduced () [.val _, .val _, .no]) _
  unfold m_reduced
  walk_at "ev"
  have g := gcd_div (t := t) hb h (by omega)
  rw [divInt_pair hb]
  split
  · rename_i hn
    rw [divisor_eq _ _ (by omega) (by omega)]
    walk_at "ev"
    have e : Int.gcd (if 0 - t < 0 then -(0 - t) else 0 - t) (0 - b) = Int.gcd t b := by
      unfold Int.gcd
      congr 1 <;> omega
    rw [e]
    refine ⟨g, g, ?_⟩
    rw [Int.sign_eq_neg_one_of_neg hn, show (b.natAbs : Int) = 0 - b by omega, show (-1 : Int) * t = 0 - t by omega]
  · rename_i hn
    rw [divisor_eq _ _ (by omega) (by omega)]
    walk_at "ev"
    have e : Int.gcd (if t < 0 then -t else t) b = Int.gcd t b := by
      unfold Int.gcd
      congr 1 <;> omega
    rw [e]
    refine ⟨g, g, ?_⟩
    rw [Int.sign_eq_one_of_pos (by omega), show (b.natAbs : Int) = b by omega, Int.one_mul]
theorem add_eq {n m : Nat} {p q : Rat} (hp : Sz n p) (hq : Sz m q) (h : n + m ≤ 8999) : f_add [fr p, fr q] = some (fr (p + q)) := by
  rw [← ev_eq]
  unfold f_add
  rw [ev_fnP]
  show Ev (m_add () [.val _, .val _]) _
  unfold m_add fr
  walk_at "ev"
  refine ⟨mulOk_of hp.1 (by rw [Int.natAbs_natCast]; exact hq.2) (by omega), mulOk_of hq.1 (by rw [Int.natAbs_natCast]; exact hp.2) (by omega), mulOk_of (by rw [Int.natAbs_natCast]; exact hp.2) (by rw [Int.natAbs_natCast]; exact hq.2) (by omega), ?_⟩
  rw [reduced_eq (den_ne p q) (den_abs hp hq) h, add_divInt, ev_eq]
  rfl
theorem mult_eq {n m : Nat} {p q : Rat} (hp : Sz n p) (hq : Sz m q) (h : n + m ≤ 8999) : f_multiply [fr p, fr q] = some (fr (p * q)) := by
  rw [← ev_eq]
  unfold f_multiply
  rw [ev_fnP]
  show Ev (m_multiply () [.val _, .val _]) _
  unfold m_multiply fr
  walk_at "ev"
  refine ⟨mulOk_of hp.1 hq.1 (by omega), mulOk_of (by rw [Int.natAbs_natCast]; exact hp.2) (by rw [Int.natAbs_natCast]; exact hq.2) (by omega), ?_⟩
  rw [reduced_eq (den_ne p q) (den_abs hp hq) h, mul_divInt, ev_eq]
  rfl
theorem nat_abs (n : Nat) : (n : Int).natAbs = n := Int.natAbs_natCast n
theorem lt_num (p q : Rat) : (p.num * q.den < q.num * p.den) ↔ p < q := by
  rw [Rat.lt_iff]
theorem below_eq {n m : Nat} {p q : Rat} (hp : Sz n p) (hq : Sz m q) (h : n + m ≤ 8999) : f_is_below [fr p, fr q] = some (.bool (decide (p < q))) := by
  rw [← ev_eq]
  unfold f_is_below
  rw [ev_fnP]
  show Ev (m_is_below () [.val _, .val _]) _
  unfold m_is_below fr
  walk_at "ev"
  refine ⟨mulOk_of hp.1 (by rw [nat_abs]; exact hq.2) (by omega), mulOk_of hq.1 (by rw [nat_abs]; exact hp.2) (by omega), ?_⟩
  rw [decide_eq_decide]
  exact lt_num p q
theorem lesser_eq {n m : Nat} {p q : Rat} (hp : Sz n p) (hq : Sz m q) (h : n + m ≤ 8999) : f_lesser [fr p, fr q] = some (fr (if q < p then q else p)) := by
  rw [← ev_eq]
  unfold f_lesser
  rw [ev_fnP]
  show Ev (m_lesser () [.val _, .val _]) _
  unfold m_lesser
  walk_at "ev"
  rw [below_eq hq hp (by omega)]
  walk_at "ev"
  by_cases c : q < p
  · rw [if_pos c, if_pos c]
  · rw [if_neg c, if_neg c]
theorem greater_eq {n m : Nat} {p q : Rat} (hp : Sz n p) (hq : Sz m q) (h : n + m ≤ 8999) : f_greater [fr p, fr q] = some (fr (if p < q then q else p)) := by
  rw [← ev_eq]
  unfold f_greater
  rw [ev_fnP]
  show Ev (m_greater () [.val _, .val _]) _
  unfold m_greater
  walk_at "ev"
  rw [below_eq hp hq (by omega)]
  walk_at "ev"
  by_cases c : p < q
  · rw [if_pos c, if_pos c]
  · rw [if_neg c, if_neg c]
theorem total_gen {n m : Nat} {d : PyData} {qs : List Rat} (hd : items d = some (qs.map fr)) (h : ∀ q ∈ qs, Sz n q) (hp : ∀ k, k ≤ qs.length → Sz m (sumQ (qs.take k))) (hl : m + n ≤ 8999) : f_total [d] = some (fr (sumQ qs)) := by
  rw [← ev_eq]
  unfold f_total
  rw [ev_fnP]
  show Ev (m_total () [.val _, .no, .no]) _
  unfold m_total
  walk_at "ev"
  rw [hd, ev_some]
  refine for_inv (fun ds _ env => ∃ (ps rs : List Rat) (z : SV), qs = ps ++ rs ∧ ds = rs.map fr ∧ env = [.val d, .val (fr (sumQ ps)), z]) ?_ ?_ ⟨[], qs, .no, rfl, rfl, rfl⟩
  · rintro d' ds _ _ ⟨ps, rs, z, e1, e2, rfl⟩
    cases rs with
    | nil => cases e2
    | cons r rs =>
      cases e2
      have hps : Sz m (sumQ ps) := by
        have := hp ps.length (by rw [e1, List.length_append]; omega)
        rwa [e1, List.take_left'] at this
        rfl
      have hr : Sz n r := h r (by rw [e1]; exact List.mem_append_right _ List.mem_cons_self)
      walk_at "ev"
      rw [add_eq hps hr hl]
      walk_at "ev"
      refine ⟨ps ++ [r], rs, .val (fr r), by rw [e1]; simp, rfl, ?_⟩
      rw [sumQ_append, sumQ, sumQ, Rat.add_zero]
  · rintro _ _ ⟨ps, rs, z, e1, e2, rfl⟩
    cases rs with
    | cons r rs => cases e2
    | nil =>
      walk_at "ev"
      rw [e1, List.append_nil]
theorem total_eq {n : Nat} {d : PyData} {qs : List Rat} (hd : items d = some (qs.map fr)) (h : ∀ q ∈ qs, Sz n q) (hl : (n + 1) * qs.length + n + 1 ≤ 8999) : f_total [d] = some (fr (sumQ qs)) :=
  total_gen (m := (n + 1) * qs.length + 1) hd h (fun k hk => (sz_sum (n := n) (qs := qs.take k) fun q hq => h q (List.mem_of_mem_take hq)).mono (by
    have := Nat.mul_le_mul_left (n + 1) hk
    rw [List.length_take, Nat.min_eq_left hk]
    omega)) (by omega)
def fracB : PyData → Bool
  | .tuple [.int a, .int b] => decide (1 ≤ b) && decide (Int.gcd a b = 1)
  | _ => false
theorem gcd_abs (a b : Int) : Int.gcd (if a < 0 then -a else a) b = Int.gcd a b := by
  unfold Int.gcd
  congr 1
  omega
theorem isfrac_gen (d : PyData) (h : ∀ x, .tuple x = d → ∀ y ∈ x, tyOk y = true) (ht : tyOk d = true) : f_is_fraction_of [d] = some (.bool (fracB d)) := by
  rw [← ev_eq]
  unfold f_is_fraction_of
  rw [ev_fnP]
  show Ev (m_is_fraction_of () [.val _]) _
  unfold m_is_fraction_of
  walk_at "ev"
  refine ⟨ht, ?_⟩
  cases d with
  | tuple xs =>
    have hx := h xs rfl
    match xs, hx with
    | [], _ => simp [isTy, tyD, fracB, ev_lenT, ev_neI]
    | [_], _ => simp [isTy, tyD, fracB, ev_lenT, ev_neI]
    | _ :: _ :: _ :: _, _ =>
      simp [isTy, tyD, fracB, ev_lenT, ev_neI]
      omega
    | [x, y], hx =>
      simp only [isTy, tyD, List.any_cons, List.any_nil]
      walk_at "ev"
      rw [isint_eq x (hx x (by simp)), isint_eq y (hx y (by simp))]
      walk_at "ev"
      cases x with
      | int a =>
        cases y with
        | int b =>
          simp [tyD, ev_neI]
          walk_at "ev"
          by_cases hb : 1 ≤ b
          · rw [divisor_eq _ _ (by split <;> omega) (by omega), gcd_abs]
            walk_at "ev"
            simp [hb, fracB]
            omega
          · simp [hb, fracB]
        | _ => simp [tyD, ev_neI, fracB]
      | _ => cases y <;> simp [tyD, ev_neI, fracB]
  | _ => simp [isTy, tyD, fracB]
theorem fracB_fr (q : Rat) : fracB (fr q) = true := by
  show (decide (1 ≤ (q.den : Int)) && decide (Int.gcd q.num q.den = 1)) = true
  have h := q.den_pos
  have e : Int.gcd q.num q.den = 1 := by
    rw [← q.reduced]
    rfl
  rw [e]
  simp
  omega
theorem isfrac_eq (q : Rat) : f_is_fraction_of [fr q] = some (.bool true) := by
  rw [isfrac_gen (fr q) (fun x e y hy => by
    unfold fr at e
    cases e
    simp only [List.mem_cons, List.not_mem_nil, or_false] at hy
    rcases hy with rfl | rfl <;> rfl) rfl, fracB_fr]
/-- what a fraction stands for -/
def toQ : PyData → Rat
  | .tuple [.int a, .int b] => Rat.divInt a b
  | _ => 0
theorem toQ_fr (q : Rat) : toQ (fr q) = q := by
  show Rat.divInt q.num q.den = q
  exact Rat.num_divInt_den q
theorem fracB_is {d : PyData} (h : fracB d = true) : fr (toQ d) = d := by
  unfold fracB at h
  split at h
  · rename_i a b
    simp only [Bool.and_eq_true, decide_eq_true_eq] at h
    show fr (Rat.divInt a b) = _
    rw [divInt_pair (by omega), h.2, Int.sign_eq_one_of_pos (by omega), Int.one_mul]
    have e1 : a / ((1 : Nat) : Int) = a := Int.ediv_one a
    have e2 : (b.natAbs : Int) / ((1 : Nat) : Int) = b := by
      rw [show ((1 : Nat) : Int) = 1 from rfl, Int.ediv_one]
      omega
    rw [e1, e2]
  · cases h
theorem toQ_sz {n : Nat} {d : PyData} (h : fracB d = true) (ok : okD (n + 1) d = true) : Sz 200 (toQ d) := by
  have e := fracB_is h
  rw [← e] at ok
  obtain ⟨_, h2⟩ := ok_tuple (n := n) (xs := [.int (toQ d).num, .int (toQ d).den]) ok
  have h3 := h2 (.int (toQ d).num) (by simp)
  have h4 := h2 (.int (toQ d).den) (by simp)
  have e : (2 : Nat) ^ 200 = 1606938044258990275541962092341162602522202993782792835301376 := by decide
  unfold Sz
  rw [e]
  cases n <;> exact ⟨of_decide_eq_true h3, by have := of_decide_eq_true h4; rwa [nat_abs] at this⟩
theorem top_fr (q : Rat) : 0 ≤ q.num ↔ 0 ≤ q := Rat.num_nonneg
theorem short_eq {q : Rat} (h : Sz 39 q) : f_is_short [fr q] = some (.bool true) := by
  rw [← ev_eq]
  unfold f_is_short
  rw [ev_fnP]
  show Ev (m_is_short () [.val _]) _
  unfold m_is_short
  walk_at "ev"
  rw [isfrac_eq]
  unfold fr
  walk_at "ev"
  have h1 := h.1
  have h2 := h.2
  have e : (2 : Nat) ^ 39 = 549755813888 := by decide
  rw [e] at h1 h2
  rw [if_pos (by split <;> omega)]
  omega

end Dv

namespace Dv
open PySem L2
local macro_rules | `(tactic| walk_at "ev") => `(tactic| simp only [ev_some, ev_none, ev_eC, ev_eV0, ev_eVs, ev_bV0, ev_bO0, ev_bVs, ev_e1, ev_e2, ev_eN, ev_oN, ev_o2, ev_nil, ev_cons, ev_eL, ev_eTup, ev_tV, ev_tAnd, ev_tOr, ev_tNot, ev_tYes, ev_eIf, ev_eNot, ev_eAnd, ev_eOr, ev_eChain, ev_pN, ev_pS, ev_eSl, ev_oSl, ev_iS, ev_iZ, ev_iR1, ev_iR2, ev_oLc, ev_iEn, ev_iEz, ev_iZ3, ev_eIfT, ev_eRv, ev_mulT, ev_mulS, ev_isN, ev_isnN, ev_repO, ev_sExtE, ev_eTr,
  ev_eNew, ev_eR0, ev_eReg0, ev_gReg0, ev_ixN0, ev_ixN1, ev_sAppE, ev_sPutE, Option.some.injEq, SV.own.injEq, SV.val.injEq, List.getElem?_cons_zero, List.getElem?_cons_succ, ev_sNx, ev_sBk, ev_sCt, ev_sNo, nxt_nx, nxt_rt, nxt_bk, nxt_ct, ev_sSeq, ev_sIf, ev_sSet, ev_sOwn, ev_sDrop, ev_sRet, ev_sFrz, ev_sBind, ev_sPar, ev_sFor, ev_gN, ev_gT, ev_gNil, ev_gCons, trn_nx, trn_ct, trn_bk, trn_rt, ev_sWhile, out_rt, out_nx, outr_rt, outr_nx, ev_at0, ev_at1, ev_at2,
  ev_addI, ev_subI, ev_mulI, ev_divI, ev_modI, ev_negI, ev_I2, ev_absI, ev_intI, ev_intB, ev_lenL, ev_lenT, ev_ixL, ev_ixT, ev_addL, ev_addT, ev_catL, ev_eqI, ev_neI, ev_eqS, ev_neS, ev_eqL, ev_neL, ev_eqT, ev_neT, ev_inL, ev_inT, ev_ninL, ev_ninT, ev_isi, ev_itL, ev_itT, ev_tupL, ev_tupT, ev_listL, ev_listT, ev_max, ev_min, ev_divmod, ev_repr, ev_sorted,
  List.set_cons_zero, List.set_cons_succ, List.map_cons, List.map_nil, wipeE, frz1, PyData.bool.injEq, PyData.int.injEq, exists_eq_left', exists_eq_left, decide_eq_true_eq, Bool.not_eq_true', decide_eq_false_iff_not, ite_true, ite_false, Bool.true_eq_false, Bool.false_eq_true, Bool.not_true, Bool.not_false, true_and, and_true, if_true, if_false])
/-! ### lots, chains: any value -/
def nnB (d : PyData) : Bool := fracB d && decide (0 ≤ toQ d)
theorem nn_ev {S : Type} {s : S} {env : En} {d : PyData} {i n : Nat} (hi : env[i]? = some (.val d)) (ok : okD (n + 1) d = true) : Ev (eAnd (eN f_is_fraction_of (aAll [eV i])) (e2 dGe (e2 dIx (eV i) (eC (.int 0))) (eC (.int 0))) s env) fun y => y = (.bool (nnB d), s) := by
  walk_at "ev"
  simp only [ev_eV hi]
  rw [isfrac_gen d (fun x e => (ok_tup ok x e).2) (ok_tyOk ok)]
  walk_at "ev"
  unfold nnB
  cases hf : fracB d with
  | false => simp
  | true =>
    have e := fracB_is hf
    generalize toQ d = q at e
    subst e
    unfold fr
    walk_at "ev"
    rw [Bool.true_and, decide_eq_decide.mpr (top_fr q)]
def lotB (n : Nat) : PyData → Bool
  | .tuple xs => decide (xs.length = n) && xs.all nnB && decide (sumQ (xs.map toQ) = 1)
  | _ => false
def plotB : PyData → Bool
  | .tuple xs => decide (1 ≤ xs.length) && decide (xs.length ≤ 16) && xs.all nnB && decide (sumQ (xs.map toQ) = 1)
  | _ => false
theorem nn_frs {n : Nat} {xs : List PyData} (h : xs.all nnB = true) (ok : ∀ x ∈ xs, okD (n + 1) x = true) : (xs.map toQ).map fr = xs ∧ ∀ q ∈ xs.map toQ, Sz 200 q ∧ 0 ≤ q := by
  rw [List.all_eq_true] at h
  refine ⟨?_, fun q hq => ?_⟩
  · rw [List.map_map]
    refine (List.map_congr_left fun x hx => ?_).trans (List.map_id xs)
    have := h x hx
    unfold nnB at this
    rw [Bool.and_eq_true] at this
    exact fracB_is this.1
  · obtain ⟨x, hx, rfl⟩ := List.mem_map.mp hq
    have := h x hx
    unfold nnB at this
    rw [Bool.and_eq_true, decide_eq_true_eq] at this
    exact ⟨toQ_sz this.1 (ok x hx), this.2⟩
theorem ev_eqF {p q : Rat} {Q : PyData → Prop} : Ev (dEq (fr p) (fr q)) Q ↔ Q (.bool (decide (p = q))) := by
  have e : PyData.eqv (fr p) (fr q) = decide (p = q) := by
    rw [Bool.eq_iff_iff, eqv_nb _ _ rfl rfl, decide_eq_true_eq]
    exact ⟨fr_inj, fun h => by rw [h]⟩
  rw [← e]
  unfold fr
  rw [ev_eqT]
  exact ⟨fun h => h.2, fun h => ⟨⟨rfl, rfl⟩, h⟩⟩
theorem ev_neF {p q : Rat} {Q : PyData → Prop} : Ev (dNe (fr p) (fr q)) Q ↔ Q (.bool (!decide (p = q))) := by
  have e : PyData.eqv (fr p) (fr q) = decide (p = q) := by
    rw [Bool.eq_iff_iff, eqv_nb _ _ rfl rfl, decide_eq_true_eq]
    exact ⟨fr_inj, fun h => by rw [h]⟩
  rw [← e]
  unfold fr
  rw [ev_neT]
  exact ⟨fun h => h.2, fun h => ⟨⟨rfl, rfl⟩, h⟩⟩
theorem one_fr : PyData.tuple [.int 1, .int 1] = fr 1 := rfl
theorem zero_fr : PyData.tuple [.int 0, .int 1] = fr 0 := rfl
theorem islot_gen {n : Nat} (d : PyData) (h : okD (n + 2) d = true) : f_is_lot_of [d] = some (.bool (plotB d)) := by
  rw [← ev_eq]
  unfold f_is_lot_of
  rw [ev_fnP]
  show Ev (m_is_lot_of () [.val _, .no]) _
  unfold m_is_lot_of
  walk_at "ev"
  refine ⟨ok_tyOk h, ?_⟩
  cases d with
  | tuple xs =>
    obtain ⟨hl, hx⟩ := ok_tuple h
    rw [if_neg (by simp [isTy, tyD])]
    walk_at "ev"
    by_cases c1 : 1 ≤ xs.length
    · rw [if_pos (by omega)]
      by_cases c2 : xs.length ≤ 16
      · rw [if_neg (by omega)]
        refine ⟨by omega, lc_mapS (fun d => .bool (nnB d)) (fun d hd => ?_) ?_⟩
        · rw [ev_gN]
          exact nn_ev rfl (hx d hd)
        · rw [all_bools]
          walk_at "ev"
          cases hA : xs.all nnB with
          | false =>
            rw [if_pos rfl]
            simp [plotB, hA]
          | true =>
            rw [if_neg (by decide)]
            obtain ⟨f1, f2⟩ := nn_frs hA hx
            rw [total_eq (n := 200) (qs := xs.map toQ) (by rw [f1]; rfl) (fun q hq => (f2 q hq).1) (by rw [List.length_map]; omega)]
            rw [ev_some, one_fr, ev_eqF]
            simp [plotB, hA, c1, c2]
      · rw [if_pos (by omega)]
        simp [plotB, c2]
    · rw [if_neg (by omega)]
      simp [plotB, c1]
  | _ => simp [isTy, tyD, plotB]
def lotsB (n : Nat) (d : PyData) : Bool := match items d with
  | some ys => decide (1 ≤ ys.length) && decide (ys.length ≤ 3) && ys.all (lotB n)
  | none => false
def chainB (d : PyData) : Bool := match items d with
  | some xs => decide (1 ≤ xs.length) && decide (xs.length ≤ 4) && xs.all (lotsB xs.length)
  | none => false
theorem lotB_plot {n : Nat} (h1 : 1 ≤ n) (h4 : n ≤ 16) (xs : List PyData) : lotB n (.tuple xs) = (plotB (.tuple xs) && decide (xs.length = n)) := by
  unfold lotB plotB
  by_cases c : xs.length = n
  · subst c
    simp [h1, h4]
  · simp [c]
theorem arelots_eq {n k : Nat} (h1 : 1 ≤ n) (h4 : n ≤ 16) (d : PyData) (h : okD (k + 3) d = true) : f_are_lots_of [.int n, d] = some (.bool (lotsB n d)) := by
  rw [← ev_eq]
  unfold f_are_lots_of
  rw [ev_fnP]
  show Ev (m_are_lots_of () [.val _, .val _, .no]) _
  unfold m_are_lots_of
  walk_at "ev"
  rw [islist_eq d (ok_tyOk h)]
  walk_at "ev"
  cases hl : lstB d with
  | false => simp [lotsB, lst_no hl]
  | true =>
    obtain ⟨es, e1, e2, e3⟩ := lst_items hl
    have he := e3 _ h
    have ef : lotsB n d = (decide (1 ≤ es.length) && decide (es.length ≤ 3) && es.all (lotB n)) := by simp only [lotsB, e1]
    rw [ef, e1, e2, if_neg (by decide)]
    walk_at "ev"
    by_cases c1 : 1 ≤ es.length
    · rw [if_pos (by omega)]
      by_cases c2 : es.length ≤ 3
      · rw [if_neg (by omega)]
        refine ⟨by omega, lc_mapS (fun d => .bool (lotB n d)) (fun d hd => ?_) ?_⟩
        · walk_at "ev"
          rw [islot_gen d (he.2 d hd)]
          walk_at "ev"
          cases d with
          | tuple xs =>
            rw [lotB_plot h1 h4]
            cases hp : plotB (.tuple xs) with
            | false => simp
            | true =>
              rw [if_pos rfl]
              walk_at "ev"
              rw [Bool.true_and, decide_eq_decide.mpr Int.natCast_inj]
          | _ => simp [plotB, lotB]
        · rw [all_bools, decide_eq_true c1, decide_eq_true c2]
          rfl
      · rw [if_pos (by omega)]
        simp [c2]
    · rw [if_neg (by omega)]
      simp [c1]
theorem ischain_gen {k : Nat} (d : PyData) (ht : tyOk d = true) (h : lstB d = true → okD (k + 4) d = true) : f_is_chain_value [d] = some (.bool (chainB d)) := by
  rw [← ev_eq]
  unfold f_is_chain_value
  rw [ev_fnP]
  show Ev (m_is_chain_value () [.val _, .no]) _
  unfold m_is_chain_value
  walk_at "ev"
  rw [islist_eq d ht]
  walk_at "ev"
  cases hl : lstB d with
  | false => simp [chainB, lst_no hl]
  | true =>
    obtain ⟨es, e1, e2, e3⟩ := lst_items hl
    have he := e3 _ (h hl)
    have ef : chainB d = (decide (1 ≤ es.length) && decide (es.length ≤ 4) && es.all (lotsB es.length)) := by simp only [chainB, e1]
    rw [ef, e1, e2, if_neg (by decide)]
    walk_at "ev"
    by_cases c1 : 1 ≤ es.length
    · rw [if_pos (by omega)]
      by_cases c2 : es.length ≤ 4
      · rw [if_neg (by omega)]
        refine ⟨by omega, lc_mapS (fun d => .bool (lotsB es.length d)) (fun d hd => ?_) ?_⟩
        · walk_at "ev"
          rw [e2]
          walk_at "ev"
          rw [arelots_eq c1 (by omega) d (he.2 d hd), ev_some]
        · rw [all_bools, decide_eq_true c1, decide_eq_true c2]
          rfl
      · rw [if_pos (by omega)]
        simp [c2]
    · rw [if_neg (by omega)]
      simp [c1]
theorem ischain_eq {k : Nat} (d : PyData) (h : okD (k + 4) d = true) : f_is_chain_value [d] = some (.bool (chainB d)) := ischain_gen d (ok_tyOk h) fun _ => h
end Dv

namespace Dv
open PySem L2
local macro_rules | `(tactic| walk_at "ev") => `(tactic| simp only [ev_some, ev_none, ev_eC, ev_eV0, ev_eVs, ev_bV0, ev_bO0, ev_bVs, ev_e1, ev_e2, ev_eN, ev_oN, ev_o2, ev_nil, ev_cons, ev_eL, ev_eTup, ev_tV, ev_tAnd, ev_tOr, ev_tNot, ev_tYes, ev_eIf, ev_eNot, ev_eAnd, ev_eOr, ev_eChain, ev_pN, ev_pS, ev_eSl, ev_oSl, ev_iS, ev_iZ, ev_iR1, ev_iR2, ev_oLc, ev_iEn, ev_iEz, ev_iZ3, ev_eIfT, ev_eRv, ev_mulT, ev_mulS, ev_isN, ev_isnN, ev_repO, ev_sExtE, ev_eTr,
  ev_eNew, ev_eR0, ev_eReg0, ev_gReg0, ev_ixN0, ev_ixN1, ev_sAppE, ev_sPutE, Option.some.injEq, SV.own.injEq, SV.val.injEq, List.getElem?_cons_zero, List.getElem?_cons_succ, ev_sNx, ev_sBk, ev_sCt, ev_sNo, nxt_nx, nxt_rt, nxt_bk, nxt_ct, ev_sSeq, ev_sIf, ev_sSet, ev_sOwn, ev_sDrop, ev_sRet, ev_sFrz, ev_sBind, ev_sPar, ev_sFor, ev_gN, ev_gT, ev_gNil, ev_gCons, trn_nx, trn_ct, trn_bk, trn_rt, ev_sWhile, out_rt, out_nx, outr_rt, outr_nx, ev_at0, ev_at1, ev_at2,
  ev_addI, ev_subI, ev_mulI, ev_divI, ev_modI, ev_negI, ev_I2, ev_absI, ev_intI, ev_intB, ev_lenL, ev_lenT, ev_ixL, ev_ixT, ev_addL, ev_addT, ev_catL, ev_eqI, ev_neI, ev_eqS, ev_neS, ev_eqL, ev_neL, ev_eqT, ev_neT, ev_inL, ev_inT, ev_ninL, ev_ninT, ev_isi, ev_itL, ev_itT, ev_tupL, ev_tupT, ev_listL, ev_listT, ev_max, ev_min, ev_divmod, ev_repr, ev_sorted,
  List.set_cons_zero, List.set_cons_succ, List.map_cons, List.map_nil, wipeE, frz1, PyData.bool.injEq, PyData.int.injEq, exists_eq_left', exists_eq_left, decide_eq_true_eq, Bool.not_eq_true', decide_eq_false_iff_not, ite_true, ite_false, Bool.true_eq_false, Bool.false_eq_true, Bool.not_true, Bool.not_false, true_and, and_true, if_true, if_false])
/-! ### the law's own fractions -/
theorem lfrac_eq {t b : Int} {n : Nat} (hb : b ≠ 0) (h : b.natAbs < 2 ^ n) (hn : n ≤ 8999) : f__law_frac [.int t, .int b] = some (fr (Rat.divInt t b)) := by
  rw [← ev_eq]
  unfold f__law_frac
  rw [ev_fnP]
  show Ev (m__law_frac () [.val _, .val _, .no, .no]) _
  unfold m__law_frac
  walk_at "ev"
  have g := gcd_div (t := t) hb h (by omega)
  rw [divInt_pair hb]
  have go : ∀ (t' b' : Int) (QS : Fl × Unit × En → Prop), 0 < b' → Int.gcd t' b' = Int.gcd t b → QS (.nx, (), [SV.val (.int t'), .val (.int b'), .val (.int (Int.gcd t b : Nat)), .val (.int 0)]) →
      Ev (whL (tV (e2 dGt (eV 3) (eC (.int 0)))) (sPar [2, 3] [eV 3, e2 dMod (eN dInt (aAll [eV 2])) (eV 3)]) (fuelV 3 () [SV.val (.int t'), .val (.int b'), .val (.int (if t' < 0 then -t' else t')), .val (.int b')]) () [SV.val (.int t'), .val (.int b'), .val (.int (if t' < 0 then -t' else t')), .val (.int b')]) QS := by
    intro t' b' QS hb' hg' hQ
    refine wh_inv (fun n _ env => ∃ x y : Int, env = [.val (.int t'), .val (.int b'), .val (.int x), .val (.int y)] ∧ 0 ≤ x ∧ 0 ≤ y ∧ y.toNat = n ∧ Int.gcd x y = Int.gcd t b) ?_ ⟨_, b', rfl, by split <;> omega, by omega, rfl, by rw [← hg']; unfold Int.gcd; congr 1 <;> omega⟩ (show b'.toNat < b'.natAbs + 2 by omega)
    rintro n _ _ ⟨x, y, rfl, hx, hy, rfl, hg⟩
    walk_at "ev"
    split
    · rename_i h
      have h : 0 < y := by omega
      refine ⟨h, (x % y).toNat, ?_, y, x % y, rfl, by omega, Int.emod_nonneg _ (by omega), rfl, ?_⟩
      · have := Int.emod_lt_of_pos x h
        have := Int.emod_nonneg x (show y ≠ 0 by omega)
        omega
      · rw [gcd_step hx h, hg]
    · rename_i h
      have : y = 0 := by omega
      subst this
      have ex : x = (Int.gcd t b : Nat) := by rw [← hg, Int.gcd_zero_right]; omega
      subst ex
      exact hQ
  split
  · rename_i hn
    rw [Int.sign_eq_neg_one_of_neg hn, show (b.natAbs : Int) = 0 - b by omega, show (-1 : Int) * t = 0 - t by omega]
    refine go (0 - t) (0 - b) _ (by omega) (by unfold Int.gcd; congr 1 <;> omega) ?_
    walk_at "ev"
    exact ⟨g, g⟩
  · rename_i hn
    rw [Int.sign_eq_one_of_pos (by omega), show (b.natAbs : Int) = b by omega, Int.one_mul]
    refine go t b _ (by omega) rfl ?_
    walk_at "ev"
    exact ⟨g, g⟩
theorem lplus_eq {n m : Nat} {p q : Rat} (hp : Sz n p) (hq : Sz m q) (h : n + m ≤ 8999) : f__law_plus [fr p, fr q] = some (fr (p + q)) := by
  rw [← ev_eq]
  unfold f__law_plus
  rw [ev_fnP]
  show Ev (m__law_plus () [.val _, .val _]) _
  unfold m__law_plus fr
  walk_at "ev"
  refine ⟨mulOk_of hp.1 (by rw [nat_abs]; exact hq.2) (by omega), mulOk_of hq.1 (by rw [nat_abs]; exact hp.2) (by omega), mulOk_of (by rw [nat_abs]; exact hp.2) (by rw [nat_abs]; exact hq.2) (by omega), ?_⟩
  rw [lfrac_eq (den_ne p q) (den_abs hp hq) h, add_divInt, ev_eq]
  rfl
theorem lless_eq {n m : Nat} {p q : Rat} (hp : Sz n p) (hq : Sz m q) (h : n + m ≤ 8999) : f__law_less [fr p, fr q] = some (fr (p - q)) := by
  rw [← ev_eq]
  unfold f__law_less
  rw [ev_fnP]
  show Ev (m__law_less () [.val _, .val _]) _
  unfold m__law_less fr
  walk_at "ev"
  refine ⟨mulOk_of hp.1 (by rw [nat_abs]; exact hq.2) (by omega), mulOk_of hq.1 (by rw [nat_abs]; exact hp.2) (by omega), mulOk_of (by rw [nat_abs]; exact hp.2) (by rw [nat_abs]; exact hq.2) (by omega), ?_⟩
  rw [lfrac_eq (den_ne p q) (den_abs hp hq) h, sub_divInt, ev_eq]
  rfl
theorem ltimes_eq {n m : Nat} {p q : Rat} (hp : Sz n p) (hq : Sz m q) (h : n + m ≤ 8999) : f__law_times [fr p, fr q] = some (fr (p * q)) := by
  rw [← ev_eq]
  unfold f__law_times
  rw [ev_fnP]
  show Ev (m__law_times () [.val _, .val _]) _
  unfold m__law_times fr
  walk_at "ev"
  refine ⟨mulOk_of hp.1 hq.1 (by omega), mulOk_of (by rw [nat_abs]; exact hp.2) (by rw [nat_abs]; exact hq.2) (by omega), ?_⟩
  rw [lfrac_eq (den_ne p q) (den_abs hp hq) h, mul_divInt, ev_eq]
  rfl
theorem lbelow_eq {n m : Nat} {p q : Rat} (hp : Sz n p) (hq : Sz m q) (h : n + m ≤ 8999) : f__law_below [fr p, fr q] = some (.bool (decide (p < q))) := by
  rw [← ev_eq]
  unfold f__law_below
  rw [ev_fnP]
  show Ev (m__law_below () [.val _, .val _]) _
  unfold m__law_below fr
  walk_at "ev"
  refine ⟨mulOk_of hp.1 (by rw [nat_abs]; exact hq.2) (by omega), mulOk_of hq.1 (by rw [nat_abs]; exact hp.2) (by omega), ?_⟩
  rw [decide_eq_decide]
  exact lt_num p q
theorem lsum_gen {n m : Nat} {d : PyData} {qs : List Rat} (hd : items d = some (qs.map fr)) (h : ∀ q ∈ qs, Sz n q) (hp : ∀ k, k ≤ qs.length → Sz m (sumQ (qs.take k))) (hl : m + n ≤ 8999) : f__law_sum [d] = some (fr (sumQ qs)) := by
  rw [← ev_eq]
  unfold f__law_sum
  rw [ev_fnP]
  show Ev (m__law_sum () [.val _, .no, .no]) _
  unfold m__law_sum
  walk_at "ev"
  rw [hd, ev_some]
  refine for_inv (fun ds _ env => ∃ (ps rs : List Rat) (z : SV), qs = ps ++ rs ∧ ds = rs.map fr ∧ env = [.val d, .val (fr (sumQ ps)), z]) ?_ ?_ ⟨[], qs, .no, rfl, rfl, rfl⟩
  · rintro d' ds _ _ ⟨ps, rs, z, e1, e2, rfl⟩
    cases rs with
    | nil => cases e2
    | cons r rs =>
      cases e2
      have hps : Sz m (sumQ ps) := by
        have := hp ps.length (by rw [e1, List.length_append]; omega)
        rwa [e1, List.take_left'] at this
        rfl
      have hr : Sz n r := h r (by rw [e1]; exact List.mem_append_right _ List.mem_cons_self)
      walk_at "ev"
      rw [lplus_eq hps hr hl]
      walk_at "ev"
      refine ⟨ps ++ [r], rs, .val (fr r), by rw [e1]; simp, rfl, ?_⟩
      rw [sumQ_append, sumQ, sumQ, Rat.add_zero]
  · rintro _ _ ⟨ps, rs, z, e1, e2, rfl⟩
    cases rs with
    | cons r rs => cases e2
    | nil =>
      walk_at "ev"
      rw [e1, List.append_nil]
theorem lsum_eq {n : Nat} {d : PyData} {qs : List Rat} (hd : items d = some (qs.map fr)) (h : ∀ q ∈ qs, Sz n q) (hl : (n + 1) * qs.length + n + 1 ≤ 8999) : f__law_sum [d] = some (fr (sumQ qs)) :=
  lsum_gen (m := (n + 1) * qs.length + 1) hd h (fun k hk => (sz_sum (n := n) (qs := qs.take k) fun q hq => h q (List.mem_of_mem_take hq)).mono (by
    have := Nat.mul_le_mul_left (n + 1) hk
    rw [List.length_take, Nat.min_eq_left hk]
    omega)) (by omega)
/-! ### the law's looks at any value -/
end Dv

namespace Dv
open PySem L2
local macro_rules | `(tactic| walk_at "ev") => `(tactic| simp only [ev_some, ev_none, ev_eC, ev_eV0, ev_eVs, ev_bV0, ev_bO0, ev_bVs, ev_e1, ev_e2, ev_eN, ev_oN, ev_o2, ev_nil, ev_cons, ev_eL, ev_eTup, ev_tV, ev_tAnd, ev_tOr, ev_tNot, ev_tYes, ev_eIf, ev_eNot, ev_eAnd, ev_eOr, ev_eChain, ev_pN, ev_pS, ev_eSl, ev_oSl, ev_iS, ev_iZ, ev_iR1, ev_iR2, ev_oLc, ev_iEn, ev_iEz, ev_iZ3, ev_eIfT, ev_eRv, ev_mulT, ev_mulS, ev_isN, ev_isnN, ev_repO, ev_sExtE, ev_eTr,
  ev_eNew, ev_eR0, ev_eReg0, ev_gReg0, ev_ixN0, ev_ixN1, ev_sAppE, ev_sPutE, Option.some.injEq, SV.own.injEq, SV.val.injEq, List.getElem?_cons_zero, List.getElem?_cons_succ, ev_sNx, ev_sBk, ev_sCt, ev_sNo, nxt_nx, nxt_rt, nxt_bk, nxt_ct, ev_sSeq, ev_sIf, ev_sSet, ev_sOwn, ev_sDrop, ev_sRet, ev_sFrz, ev_sBind, ev_sPar, ev_sFor, ev_gN, ev_gT, ev_gNil, ev_gCons, trn_nx, trn_ct, trn_bk, trn_rt, ev_sWhile, out_rt, out_nx, outr_rt, outr_nx, ev_at0, ev_at1, ev_at2,
  ev_addI, ev_subI, ev_mulI, ev_divI, ev_modI, ev_negI, ev_I2, ev_absI, ev_intI, ev_intB, ev_lenL, ev_lenT, ev_ixL, ev_ixT, ev_addL, ev_addT, ev_catL, ev_eqI, ev_neI, ev_eqS, ev_neS, ev_eqL, ev_neL, ev_eqT, ev_neT, ev_inL, ev_inT, ev_ninL, ev_ninT, ev_isi, ev_itL, ev_itT, ev_tupL, ev_tupT, ev_listL, ev_listT, ev_max, ev_min, ev_divmod, ev_repr, ev_sorted,
  List.set_cons_zero, List.set_cons_succ, List.map_cons, List.map_nil, wipeE, frz1, PyData.bool.injEq, PyData.int.injEq, exists_eq_left', exists_eq_left, decide_eq_true_eq, Bool.not_eq_true', decide_eq_false_iff_not, ite_true, ite_false, Bool.true_eq_false, Bool.false_eq_true, Bool.not_true, Bool.not_false, true_and, and_true, if_true, if_false])
/-! ### draws -/
def Pot (p : List PyData) : Prop := ∃ a b : Int, p = [.int a, .int b] ∧ 0 ≤ a ∧ 0 ≤ b ∧ b < 2147483648
theorem draw_ev {p : List PyData} {m : Int} (hp : Pot p) (h0 : 0 < m) (h1 : m < 1073741824) : Ev (f__law_draw p [.int m]) fun r => ∃ d : Int, r.1 = .int d ∧ 0 ≤ d ∧ d < m ∧ Pot r.2 := by
  obtain ⟨a, b, rfl, ha, hb, hb2⟩ := hp
  unfold f__law_draw
  rw [ev_fnR]
  show Ev (m__law_draw  _ [.reg, .val _, .no]) _
  unfold m__law_draw
  walk_at "ev"
  split
  · refine ⟨⟨h0, h1⟩, Int.emod_nonneg _ (by omega), Int.emod_lt_of_pos _ h0, _, b, rfl, Int.ediv_nonneg ha (by omega), hb, hb2⟩
  · have e1 := Int.emod_nonneg (b * 40014 + 2521) (show (2147483563 : Int) ≠ 0 by decide)
    have e2 := Int.emod_lt_of_pos (b * 40014 + 2521) (show (0 : Int) < 2147483563 by decide)
    refine ⟨mulOk_of (n := 31) (m := 17) (by omega) (by decide) (by decide), by decide, ?_⟩
    generalize (b * 40014 + 2521) % 2147483563 = c at e1 e2 ⊢
    refine ⟨mulOk_of (n := 31) (m := 31) (by omega) (by omega) (by decide), by decide, ⟨by decide, by decide⟩, h0, Int.emod_nonneg _ (by omega), Int.emod_lt_of_pos _ h0, a, c, rfl, ha, e1, by omega⟩
theorem pick_ev {p : List PyData} {ds : List PyData} (hp : Pot p) (h0 : ds ≠ []) (h1 : ds.length < 1073741824) : Ev (f__law_pick p [.list ds]) fun r => r.1 ∈ ds ∧ Pot r.2 := by
  unfold f__law_pick
  rw [ev_fnR]
  show Ev (m__law_pick  _ [.reg, .val _]) _
  unfold m__law_pick
  walk_at "ev"
  have hl : 0 < ds.length := List.length_pos_iff.mpr h0
  refine (draw_ev hp (by omega) (by omega)).imp fun r ⟨d, e, d0, d1, hr⟩ => ?_
  rw [e]
  rw [ev_ixL, ev_atI d0 (by omega)]
  exact ⟨List.getElem_mem _, hr⟩
theorem ev_lenS {ds : List PyData} {Q : PyData → Prop} : Ev (dLen [.dict [(.none, .list ds)]]) Q ↔ Q (.int ds.length) := ev_some
theorem ev_ixS {ds : List PyData} {i : Int} {Q : PyData → Prop} : Ev (dIx (.dict [(.none, .list ds)]) (.int i)) Q ↔ Ev (atI ds i) Q := Iff.rfl
theorem ev_powI {i j : Int} {Q : PyData → Prop} : Ev (dPow (.int i) (.int j)) Q ↔ (0 ≤ j ∧ j ≤ 1000 ∧ i.natAbs < 1000000) ∧ Q (.int (i ^ j.toNat)) := by
  show Ev (if _ then _ else _) _ ↔ _
  rw [ev_guard, ev_some]
theorem ev_atM {α : Type} {f : α → PyData} {l : List α} {k : Nat} {Q : PyData → Prop} (h : k < l.length) : Ev (atI (l.map f) (k : Int)) Q ↔ Q (f l[k]) := by
  rw [ev_atI (by omega) (by rw [List.length_map]; omega), List.getElem_map]
  exact Iff.rfl
theorem pot_ev (ns : List Int) {k : Nat} (hk : k < 3) : Ev (f__law_pot [.dict [(.none, .list (ns.map .int))], .int k]) Pot := by
  unfold f__law_pot
  rw [ev_fnO]
  show Ev (u__law_pot _ [.val _, .val _, .no]) _
  unfold u__law_pot
  walk_at "ev"
  simp only [ev_lenS, ev_ixS]
  walk_at "ev"
  have rest : ∀ c : Int, Ev (o__law_pot () [.val (.dict [(.none, .list (ns.map .int))]), .val (.int k), .val (.int c)]) fun p => Pot p.1 := by
    intro c
    unfold o__law_pot
    walk_at "ev"
    simp only [ev_powI]
    walk_at "ev"
    have e1 := Int.emod_nonneg c (show (2147483549 : Int) ≠ 0 by decide)
    have e2 := Int.emod_lt_of_pos c (show (0 : Int) < 2147483549 by decide)
    refine ⟨⟨by decide, by decide, by decide⟩, by decide, mulOk_of (n := 31) (m := 17) (by omega) (by decide) (by decide), mulOk_of (n := 12) (m := 2) (by decide) (by omega) (by decide), by decide, ?_⟩
    refine ⟨_, _, rfl, ?_, ?_, ?_⟩
    · split <;> omega
    · have := Int.emod_nonneg (c % 2147483549 * 43999 + 1999 * (k : Int) + 3319) (show (2147483563 : Int) ≠ 0 by decide)
      omega
    · have := Int.emod_lt_of_pos (c % 2147483549 * 43999 + 1999 * (k : Int) + 3319) (show (0 : Int) < 2147483563 by decide)
      omega
  split
  · rename_i h
    rw [List.length_map] at h
    rw [ev_atM (by omega)]
    walk_at "ev"
    exact rest _
  · refine ⟨mulOk_of (n := 12) (m := 2) (by decide) (by omega) (by decide), ?_⟩
    exact rest _
/-! ### lists, sums -/
theorem each_len {α β : Type} {P : α → β → Prop} {as : List α} {bs : List β} (h : Each P as bs) : as.length = bs.length := by
  induction h with
  | nil => rfl
  | cons _ _ ih => exact congrArg (· + 1) ih
theorem each_all {α β : Type} {P : β → Prop} {as : List α} {bs : List β} (h : Each (fun _ y => P y) as bs) : ∀ y ∈ bs, P y := by
  induction h with
  | nil => exact fun _ h => nomatch h
  | cons h1 _ ih =>
    intro y hy
    rcases List.mem_cons.mp hy with z | z
    · rw [z]
      exact h1
    · exact ih y z
/-- of things that stand for something -/
theorem each_src {α β : Type} {P : α → Prop} {src : α → PyData} {as : List β} {bs : List PyData} (h : Each (fun _ y => ∃ a, P a ∧ y = src a) as bs) : ∃ ts : List α, bs = ts.map src ∧ ts.length = as.length ∧ ∀ t ∈ ts, P t := by
  induction h with
  | nil => exact ⟨[], rfl, rfl, fun _ h => nomatch h⟩
  | cons h1 _ ih =>
    obtain ⟨d, hd, rfl⟩ := h1
    obtain ⟨ts, rfl, hl, ht⟩ := ih
    refine ⟨d :: ts, rfl, by rw [List.length_cons, hl]; rfl, fun t h => ?_⟩
    rcases List.mem_cons.mp h with z | z
    · rw [z]
      exact hd
    · exact ht t z
theorem range_len (n : Nat) : (rangeD 0 (n : Int)).length = n := by
  unfold rangeD
  rw [List.length_map, List.length_range]
  omega
theorem range_lc {S : Type} {s : S} {env : En} {i : Nat} {e : M S PyData} {n : Nat} {QL : List PyData × S → Prop} (φ : Nat → PyData) (h : ∀ k, k < n → Ev (e s (env.set i (.val (.int (k : Nat))))) fun y => y = (φ k, s)) (hq : QL ((List.range n).map φ, s)) : Ev (lcL env (gN i) tYes e (rangeD 0 n) s) QL := by
  rw [rangeD_nat]
  exact lc_src _ φ (fun k hk => ev_gN.mpr (h k (List.mem_range.mp hk))) hq
theorem big_nat {n : Nat} (h : n ≤ 1000000) : -big ≤ (n : Int) ∧ (n : Int) ≤ big := ⟨by unfold big; omega, by unfold big; omega⟩
theorem sum_nonneg : ∀ {ts : List Int}, (∀ t ∈ ts, 0 ≤ t) → 0 ≤ ts.sum
  | [], _ => by decide
  | t :: ts, h => by
    have h1 := h t List.mem_cons_self
    have h2 := sum_nonneg fun x hx => h x (List.mem_cons_of_mem _ hx)
    rw [List.sum_cons]
    omega
theorem sum_le {B : Int} : ∀ {ts : List Int}, (∀ t ∈ ts, t ≤ B) → ts.sum ≤ B * ts.length
  | [], _ => by simp
  | t :: ts, h => by
    have h1 := h t List.mem_cons_self
    have h2 := sum_le fun x hx => h x (List.mem_cons_of_mem _ hx)
    rw [List.sum_cons, List.length_cons]
    have : B * ((ts.length + 1 : Nat) : Int) = B * ts.length + B := by rw [Int.natCast_succ, Int.mul_add, Int.mul_one]
    omega
theorem sum_set_eq : ∀ {ts : List Int} {j : Nat} (v : Int) (h : j < ts.length), (ts.set j v).sum = ts.sum - ts[j] + v
  | [], _, _, h => by cases h
  | t :: ts, 0, v, _ => by
    rw [List.set_cons_zero, List.sum_cons, List.sum_cons, List.getElem_cons_zero]
    omega
  | t :: ts, j + 1, v, h => by
    have h2 := sum_set_eq (ts := ts) (j := j) v (by simpa using h)
    rw [List.set_cons_succ, List.sum_cons, List.sum_cons, h2, List.getElem_cons_succ]
    omega
theorem sum_get_le : ∀ {ts : List Int} {j : Nat} (h : j < ts.length), (∀ t ∈ ts, 0 ≤ t) → ts[j] ≤ ts.sum
  | [], _, h, _ => by cases h
  | t :: ts, 0, _, h => by
    have h2 := sum_nonneg fun x hx => h x (List.mem_cons_of_mem _ hx)
    rw [List.sum_cons, List.getElem_cons_zero]
    omega
  | t :: ts, j + 1, hj, h => by
    have h1 := h t List.mem_cons_self
    have h2 := sum_get_le (ts := ts) (j := j) (by simpa using hj) fun x hx => h x (List.mem_cons_of_mem _ hx)
    rw [List.sum_cons, List.getElem_cons_succ]
    omega
/-! ### lots -/
/-- so many times D it is whole, and of A at most -/
def IsB (D : Int) (A : Nat) (q : Rat) : Prop := ∃ z : Int, q * (D : Rat) = (z : Rat) ∧ z.natAbs ≤ A
abbrev LL : Int := 232792560
theorem IsB.mono {D : Int} {A B : Nat} {q : Rat} (h : IsB D A q) (l : A ≤ B) : IsB D B q := by
  obtain ⟨z, h1, h2⟩ := h
  exact ⟨z, h1, Nat.le_trans h2 l⟩
theorem isB_zero {D : Int} {A : Nat} : IsB D A 0 := ⟨0, by rw [Rat.zero_mul]; rfl, Nat.zero_le _⟩
theorem isB_add {D : Int} {A B : Nat} {p q : Rat} (hp : IsB D A p) (hq : IsB D B q) : IsB D (A + B) (p + q) := by
  obtain ⟨y, h1, h2⟩ := hp
  obtain ⟨z, h3, h4⟩ := hq
  refine ⟨y + z, by rw [Rat.add_mul, h1, h3, Rat.intCast_add], ?_⟩
  have := Int.natAbs_add_le y z
  omega
theorem isB_mul {D E : Int} {A B : Nat} {p q : Rat} (hp : IsB D A p) (hq : IsB E B q) : IsB (D * E) (A * B) (p * q) := by
  obtain ⟨y, h1, h2⟩ := hp
  obtain ⟨z, h3, h4⟩ := hq
  refine ⟨y * z, by rw [Rat.intCast_mul, Rat.intCast_mul, ← h1, ← h3]; grind, ?_⟩
  rw [Int.natAbs_mul]
  exact Nat.mul_le_mul h2 h4
theorem isB_int {i : Int} {A : Nat} (h : i.natAbs ≤ A) : IsB 1 A (i : Rat) := ⟨i, by rw [show ((1 : Int) : Rat) = 1 from rfl, Rat.mul_one], h⟩
theorem isB_sum {D : Int} {A : Nat} : ∀ {qs : List Rat}, (∀ q ∈ qs, IsB D A q) → IsB D (A * qs.length) (sumQ qs)
  | [], _ => isB_zero
  | q :: qs, h => by
    have h1 := isB_add (h q List.mem_cons_self) (isB_sum fun p hp => h p (List.mem_cons_of_mem _ hp))
    rw [List.length_cons, Nat.mul_succ, Nat.add_comm]
    exact h1
theorem isB_sz {D : Int} {A n : Nat} {q : Rat} (hD : 0 < D) (h : IsB D A q) (h1 : D.natAbs < 2 ^ n) (h2 : A < 2 ^ n) : Sz n q := by
  obtain ⟨z, h3, h4⟩ := h
  have hs : (D : Rat) ≠ 0 := by
    intro w
    have : D = 0 := by exact_mod_cast w
    omega
  have e : q = Rat.divInt z D := by
    rw [Rat.divInt_eq_div, ← h3]
    grind
  obtain ⟨k, rfl⟩ := Int.eq_ofNat_of_zero_le (Int.le_of_lt hD)
  rw [e, Rat.divInt_ofNat]
  exact mkRat_sz (by omega) (by omega) (by rwa [nat_abs] at h1)
structure Lot (n : Nat) (lot : List Rat) : Prop where
  len : lot.length = n
  nn : ∀ q ∈ lot, 0 ≤ q
  sz : ∀ q ∈ lot, Sz 6 q
  one : sumQ lot = 1
  whole : ∀ q ∈ lot, IsB LL 232792560 q
def lotD (lot : List Rat) : PyData := .tuple (lot.map fr)
def lotQ (ts : List Int) : List Rat := ts.map fun t => Rat.divInt t ts.sum
theorem divInt_add_same (a b : Int) {s : Int} (hs : s ≠ 0) : Rat.divInt a s + Rat.divInt b s = Rat.divInt (a + b) s := by
  rw [Rat.divInt_add_divInt _ _ hs hs, ← Int.add_mul, Rat.divInt_mul_right hs]
theorem sum_divInt {s : Int} (hs : s ≠ 0) : ∀ l : List Int, sumQ (l.map fun t => Rat.divInt t s) = Rat.divInt l.sum s
  | [] => by rw [List.map_nil, List.sum_nil, Rat.zero_divInt]; rfl
  | t :: l => by rw [List.map_cons, List.sum_cons, sumQ, sum_divInt hs l, divInt_add_same _ _ hs]
theorem sz_divInt {t s : Int} {n : Nat} (h0 : 0 < s) (ht : t.natAbs < 2 ^ n) (hs : s.natAbs < 2 ^ n) : Sz n (Rat.divInt t s) := by
  obtain ⟨k, rfl⟩ := Int.eq_ofNat_of_zero_le (Int.le_of_lt h0)
  rw [Rat.divInt_ofNat]
  exact mkRat_sz (by omega) ht (by rw [Int.natAbs_natCast] at hs; exact hs)
theorem isB_divInt {t s D : Int} {A : Nat} (h0 : 0 < s) (hd : s ∣ D) (h : (t * (D / s)).natAbs ≤ A) : IsB D A (Rat.divInt t s) := by
  obtain ⟨k, rfl⟩ := hd
  refine ⟨t * k, ?_, by rwa [Int.mul_ediv_cancel_left _ (by omega)] at h⟩
  have hs : (s : Rat) ≠ 0 := by
    intro z
    have : s = 0 := by exact_mod_cast z
    omega
  rw [Rat.divInt_eq_div, Rat.intCast_mul, Rat.intCast_mul]
  grind
theorem dvd_LL {s : Int} (h0 : 0 < s) (h : s ≤ 19) : s ∣ LL := by
  obtain ⟨k, rfl⟩ := Int.eq_ofNat_of_zero_le (Int.le_of_lt h0)
  have key : ∀ k : Nat, k < 20 → 0 < k → k ∣ 232792560 := by decide
  have := key k (by omega) (by omega)
  exact Int.ofNat_dvd.mpr this
/-- tops of a lot -/
structure Tops (n : Nat) (ts : List Int) : Prop where
  len : ts.length = n
  lo : ∀ t ∈ ts, 0 ≤ t
  pos : 0 < ts.sum
  le : ts.sum ≤ 19
theorem mem_le_sum {ts : List Int} (h : ∀ t ∈ ts, 0 ≤ t) {t : Int} (ht : t ∈ ts) : t ≤ ts.sum := by
  obtain ⟨i, hi, rfl⟩ := List.mem_iff_getElem.mp ht
  exact sum_get_le hi h
theorem lot_of {n : Nat} {ts : List Int} (h : Tops n ts) : Lot n (lotQ ts) := by
  have hs := h.pos
  have hle := h.le
  refine ⟨?_, fun q hq => ?_, fun q hq => ?_, ?_, fun q hq => ?_⟩
  · unfold lotQ
    rw [List.length_map, h.len]
  · obtain ⟨t, ht, rfl⟩ := List.mem_map.mp hq
    exact Rat.divInt_nonneg (h.lo t ht) (by omega)
  · obtain ⟨t, ht, rfl⟩ := List.mem_map.mp hq
    have := h.lo t ht
    have := mem_le_sum h.lo ht
    exact sz_divInt hs (by omega) (by omega)
  · unfold lotQ
    rw [sum_divInt (by omega), Rat.divInt_self' (by omega)]
  · obtain ⟨t, ht, rfl⟩ := List.mem_map.mp hq
    have h1 := h.lo t ht
    have h2 := mem_le_sum h.lo ht
    obtain ⟨k, hk⟩ := dvd_LL hs hle
    refine isB_divInt hs ⟨k, hk⟩ ?_
    rw [hk, Int.mul_ediv_cancel_left _ (by omega)]
    have hk : (232792560 : Int) = ts.sum * k := hk
    have hk0 : 0 < k := by
      rcases Int.lt_trichotomy k 0 with z | z | z
      · have := Int.mul_neg_of_pos_of_neg hs z
        omega
      · rw [z, Int.mul_zero] at hk
        omega
      · exact z
    have h3 : t * k ≤ ts.sum * k := Int.mul_le_mul_of_nonneg_right h2 (by omega)
    have h4 : 0 ≤ t * k := Int.mul_nonneg h1 (by omega)
    omega
theorem lot_ev {p : List PyData} {n : Nat} (hp : Pot p) (h0 : 0 < n) (h4 : n ≤ 4) : Ev (f__law_lot p [.int n]) fun r => (∃ lot, Lot n lot ∧ r.1 = lotD lot) ∧ Pot r.2 := by
  unfold f__law_lot
  rw [ev_fnR]
  show Ev (m__law_lot  _ [.reg, .val _, .no, .no, .no, .no]) _
  unfold m__law_lot
  walk_at "ev"
  refine ⟨big_nat (by omega), by rw [range_len]; omega, ?_⟩
  refine lc_inv Pot (fun _ y => ∃ d : Int, (0 ≤ d ∧ d ≤ 4) ∧ y = .int d) (fun d _ s hs => ?_) hp fun rs s' hE hs' => ?_
  · walk_at "ev"
    refine (draw_ev hs (by omega) (by omega)).imp fun r ⟨x, e, x0, x1, hr⟩ => ?_
    rw [e]
    walk_at "ev"
    split
    · exact (draw_ev hr (by omega) (by omega)).imp fun r ⟨x, e, x0, x1, hr⟩ => ⟨⟨x, ⟨x0, by omega⟩, e⟩, hr⟩
    · exact ⟨⟨0, ⟨by omega, by omega⟩, rfl⟩, hr⟩
  obtain ⟨ts, rfl, hl, ht⟩ := each_src hE
  rw [range_len] at hl
  walk_at "ev"
  refine (draw_ev hs' (by omega) (by omega)).imp fun r ⟨d, e, d0, d1, hr⟩ => ?_
  rw [e]
  walk_at "ev"
  obtain ⟨k, rfl⟩ := Int.eq_ofNat_of_zero_le d0
  have hk : k < ts.length := by omega
  rw [ev_atM hk]
  walk_at "ev"
  refine (draw_ev hr (by omega) (by omega)).imp fun r2 ⟨d2, e2, d20, d21, hr2⟩ => ?_
  rw [e2]
  walk_at "ev"
  rw [ev_ixN d0 (by rw [List.length_map]; omega), Int.toNat_natCast]
  have e3 : (ts.map PyData.int).set k (.int (ts[k] + 1 + d2)) = (ts.set k (ts[k] + 1 + d2)).map .int := by rw [List.map_set]
  rw [e3]
  have hsum := sum_set_eq (ts := ts) (ts[k] + 1 + d2) hk
  have hnn := sum_nonneg fun t h => (ht t h).1
  have hle := sum_le fun t h => (ht t h).2
  have hT : Tops n (ts.set k (ts[k] + 1 + d2)) := ⟨by rw [List.length_set, hl], fun t h => by
    rcases List.mem_or_eq_of_mem_set h with z | z
    · exact (ht t z).1
    · have := (ht _ (List.getElem_mem hk)).1
      omega, by omega, by omega⟩
  generalize ts.set k (ts[k] + 1 + d2) = us at hT
  have hle := hT.le
  have hpos := hT.pos
  refine ⟨by rw [List.length_map, hT.len]; omega, lc_src _ (fun t => fr (Rat.divInt t us.sum)) (fun t ht => ?_) ?_⟩
  · walk_at "ev"
    simp only [ev_sumI rfl]
    rw [lfrac_eq (n := 6) (by omega) (by omega) (by decide), ev_some]
  · walk_at "ev"
    refine ⟨⟨lotQ us, lot_of hT, ?_⟩, hr2⟩
    unfold lotD lotQ
    rw [List.map_map]
    rfl
/-! ### chains -/
structure Chain (n : Nat) (ch : List (List (List Rat))) : Prop where
  n1 : 1 ≤ n
  n4 : n ≤ 4
  len : ch.length = n
  l1 : ∀ lots ∈ ch, 1 ≤ lots.length
  l3 : ∀ lots ∈ ch, lots.length ≤ 3
  lot : ∀ lots ∈ ch, ∀ lot ∈ lots, Lot n lot
def lotsD (lots : List (List Rat)) : PyData := .list (lots.map lotD)
def chD (ch : List (List (List Rat))) : PyData := .list (ch.map lotsD)
theorem chain_ev {p : List PyData} {n : Nat} (hp : Pot p) (h0 : 0 < n) (h4 : n ≤ 4) : Ev (f__law_chain p [.int n, .int 3]) fun r => (∃ ch, Chain n ch ∧ r.1 = chD ch) ∧ Pot r.2 := by
  unfold f__law_chain
  rw [ev_fnR]
  show Ev (m__law_chain  _ [.reg, .val _, .val _, .no, .no, .no]) _
  unfold m__law_chain
  walk_at "ev"
  refine ⟨big_nat (by omega), ?_⟩
  rw [rangeD_nat]
  refine for_inv (fun ds s env => Pot s ∧ ∃ (ch : List (List (List Rat))) (z : SV), ds.length + ch.length = n ∧ (∀ lots ∈ ch, 1 ≤ lots.length ∧ lots.length ≤ 3 ∧ ∀ lot ∈ lots, Lot n lot) ∧ (∀ d ∈ ds, ∃ k : Nat, d = .int k) ∧ env = [.reg, .val (.int n), .val (.int 3), .own (ch.map lotsD), z, .no]) ?_ ?_ ⟨hp, [], .no, by simp, fun _ h => (nomatch h), fun d hd => ?_, rfl⟩
  · rintro d ds s _ ⟨hs, ch, z, hl, hc, hd, rfl⟩
    walk_at "ev"
    refine (draw_ev hs (by omega) (by omega)).imp fun r ⟨x, e, x0, x1, hr⟩ => ?_
    rw [e]
    walk_at "ev"
    obtain ⟨m, rfl⟩ := Int.eq_ofNat_of_zero_le x0
    rw [show (1 : Int) + m = ((m + 1 : Nat) : Int) by omega]
    refine ⟨big_nat (by omega), by rw [range_len]; omega, ?_⟩
    refine lc_inv Pot (fun _ y => ∃ lot, Lot n lot ∧ y = lotD lot) (fun d _ s hs => ?_) hr fun rs s' hE hs' => ?_
    · walk_at "ev"
      exact (lot_ev hs h0 h4).imp fun r hr => hr
    obtain ⟨lots, rfl, hll, hlt⟩ := each_src hE
    rw [range_len] at hll
    simp only [List.length_cons] at hl
    refine ⟨by rw [List.length_map]; omega, hs', ch ++ [lots], .val d, by rw [List.length_append, List.length_singleton]; omega, fun l hlm => ?_, fun d hdm => hd d (List.mem_cons_of_mem _ hdm), by rw [List.map_append]; rfl⟩
    rcases List.mem_append.mp hlm with q | q
    · exact hc l q
    · rw [List.mem_singleton.mp q]
      exact ⟨by omega, by omega, hlt⟩
  · rintro s _ ⟨hs, ch, z, hl, hc, hd, rfl⟩
    walk_at "ev"
    exact ⟨⟨ch, ⟨h0, h4, by simpa using hl, fun l h => (hc l h).1, fun l h => (hc l h).2.1, fun l h => (hc l h).2.2⟩, rfl⟩, hs⟩
  · obtain ⟨k, _, rfl⟩ := List.mem_map.mp hd
    exact ⟨k, rfl⟩

end Dv

namespace Dv
open PySem L2
local macro_rules | `(tactic| walk_at "ev") => `(tactic| simp only [ev_some, ev_none, ev_eC, ev_eV0, ev_eVs, ev_bV0, ev_bO0, ev_bVs, ev_e1, ev_e2, ev_eN, ev_oN, ev_o2, ev_nil, ev_cons, ev_eL, ev_eTup, ev_tV, ev_tAnd, ev_tOr, ev_tNot, ev_tYes, ev_eIf, ev_eNot, ev_eAnd, ev_eOr, ev_eChain, ev_pN, ev_pS, ev_eSl, ev_oSl, ev_iS, ev_iZ, ev_iR1, ev_iR2, ev_oLc, ev_iEn, ev_iEz, ev_iZ3, ev_eIfT, ev_eRv, ev_mulT, ev_mulS, ev_isN, ev_isnN, ev_repO, ev_sExtE, ev_eTr,
  ev_eNew, ev_eR0, ev_eReg0, ev_gReg0, ev_ixN0, ev_ixN1, ev_sAppE, ev_sPutE, Option.some.injEq, SV.own.injEq, SV.val.injEq, List.getElem?_cons_zero, List.getElem?_cons_succ, ev_sNx, ev_sBk, ev_sCt, ev_sNo, nxt_nx, nxt_rt, nxt_bk, nxt_ct, ev_sSeq, ev_sIf, ev_sSet, ev_sOwn, ev_sDrop, ev_sRet, ev_sFrz, ev_sBind, ev_sPar, ev_sFor, ev_gN, ev_gT, ev_gNil, ev_gCons, trn_nx, trn_ct, trn_bk, trn_rt, ev_sWhile, out_rt, out_nx, outr_rt, outr_nx, ev_at0, ev_at1, ev_at2,
  ev_addI, ev_subI, ev_mulI, ev_divI, ev_modI, ev_negI, ev_I2, ev_absI, ev_intI, ev_intB, ev_lenL, ev_lenT, ev_ixL, ev_ixT, ev_addL, ev_addT, ev_catL, ev_eqI, ev_neI, ev_eqS, ev_neS, ev_eqL, ev_neL, ev_eqT, ev_neT, ev_inL, ev_inT, ev_ninL, ev_ninT, ev_isi, ev_itL, ev_itT, ev_tupL, ev_tupT, ev_listL, ev_listT, ev_max, ev_min, ev_divmod, ev_repr, ev_sorted,
  List.set_cons_zero, List.set_cons_succ, List.map_cons, List.map_nil, wipeE, frz1, PyData.bool.injEq, PyData.int.injEq, exists_eq_left', exists_eq_left, decide_eq_true_eq, Bool.not_eq_true', decide_eq_false_iff_not, ite_true, ite_false, Bool.true_eq_false, Bool.false_eq_true, Bool.not_true, Bool.not_false, true_and, and_true, if_true, if_false])
/-! ### events -/
def evd (e : List Int) : PyData := .tuple (e.map .int)
def incI (is : List Int) : Bool := (is.zip is.tail).all fun p => decide (p.1 < p.2)
def toI : PyData → Int
  | .int i => i
  | _ => 0
def evB (n : Int) : PyData → Bool
  | .tuple xs => xs.all (inB 0 (n - 1)) && incI (xs.map toI)
  | _ => false
theorem all_ints {a b : Int} : ∀ {xs : List PyData}, xs.all (inB a b) = true → xs = (xs.map toI).map .int ∧ ∀ i ∈ xs.map toI, a ≤ i ∧ i ≤ b
  | [], _ => ⟨rfl, fun _ h => nomatch h⟩
  | x :: xs, h => by
    rw [List.all_cons, Bool.and_eq_true] at h
    obtain ⟨h1, h2⟩ := all_ints h.2
    cases x with
    | int v =>
      have h3 := h.1
      simp only [inB, Bool.and_eq_true, decide_eq_true_eq] at h3
      refine ⟨by rw [List.map_cons, List.map_cons, ← h1] <;> rfl, fun i hi => ?_⟩
      rcases List.mem_cons.mp hi with z | z
      · rw [z]
        exact h3
      · exact h2 i z
    | _ => exact absurd h.1 (by simp [inB])
theorem cut_tail {α : Type} (xs : List α) : cutD xs (some 1) none = xs.tail := by
  cases xs with
  | nil => rfl
  | cons x xs =>
    unfold cutD HT.sIx
    simp
theorem zip_ints : ∀ (as bs : List Int), zipD (as.map .int) (bs.map .int) = (as.zip bs).map fun p => .tuple [.int p.1, .int p.2]
  | [], _ => rfl
  | _ :: _, [] => rfl
  | a :: as, b :: bs => by
    have := zip_ints as bs
    unfold zipD at this ⊢
    rw [List.map_cons, List.map_cons, List.zipWith_cons_cons, this, List.zip_cons_cons, List.map_cons]
/-- all rising lists of numbers below n -/
def evsL : Nat → List (List Int)
  | 0 => [[]]
  | k + 1 => evsL k ++ (evsL k).map (· ++ [(k : Int)])
def Evt (n : Nat) (e : List Int) : Prop := e.Pairwise (· < ·) ∧ ∀ c ∈ e, 0 ≤ c ∧ c < n
theorem mem_evsL : ∀ {n : Nat} {e : List Int}, e ∈ evsL n ↔ Evt n e
  | 0, e => by
    unfold evsL Evt
    rw [List.mem_singleton]
    constructor
    · rintro rfl
      exact ⟨.nil, fun _ h => nomatch h⟩
    · rintro ⟨_, h⟩
      cases e with
      | nil => rfl
      | cons c e =>
        have := h c List.mem_cons_self
        omega
  | k + 1, e => by
    unfold evsL
    rw [List.mem_append, List.mem_map]
    constructor
    · rintro (h | ⟨e', h, rfl⟩)
      · have h := mem_evsL.mp h
        exact ⟨h.1, fun c hc => by have := h.2 c hc; omega⟩
      · have h := mem_evsL.mp h
        refine ⟨List.pairwise_append.mpr ⟨h.1, List.pairwise_singleton _ _, fun a ha b hb => ?_⟩, fun c hc => ?_⟩
        · rw [List.mem_singleton] at hb
          rw [hb]
          exact (h.2 a ha).2
        · rcases List.mem_append.mp hc with z | z
          · have := h.2 c z
            omega
          · rw [List.mem_singleton] at z
            omega
    · intro h
      by_cases hk : (k : Int) ∈ e
      · right
        -- k is the last
        rcases List.eq_nil_or_concat e with z | ⟨e', c, z⟩
        · rw [z] at hk
          cases hk
        · subst z
          rw [List.concat_eq_append] at *
          have hp := List.pairwise_append.mp h.1
          have hc : c = k := by
            have h1 := h.2 c (by simp)
            rcases List.mem_append.mp hk with z | z
            · have := hp.2.2 k z c (by simp)
              omega
            · rw [List.mem_singleton] at z
              exact z.symm
          subst hc
          refine ⟨e', mem_evsL.mpr ⟨hp.1, fun x hx => ?_⟩, rfl⟩
          have h1 := h.2 x (List.mem_append_left _ hx)
          have h2 := hp.2.2 x hx k (by simp)
          omega
      · left
        refine mem_evsL.mpr ⟨h.1, fun c hc => ?_⟩
        have h1 := h.2 c hc
        have : c ≠ k := fun z => hk (z ▸ hc)
        omega
theorem evsL_len : ∀ n : Nat, (evsL n).length = 2 ^ n
  | 0 => rfl
  | k + 1 => by
    unfold evsL
    rw [List.length_append, List.length_map, evsL_len k, Nat.pow_succ]
    omega
theorem evt_len : ∀ {e : List Int} {n : Nat}, Evt n e → e.length ≤ n := by
  have key : ∀ (e : List Int) (lo hi : Int), lo ≤ hi → e.Pairwise (· < ·) → (∀ c ∈ e, lo ≤ c ∧ c < hi) → (e.length : Int) ≤ hi - lo := by
    intro e
    induction e with
    | nil => intro lo hi h _ _; simp; omega
    | cons c e ih =>
      intro lo hi h hp hc
      rw [List.pairwise_cons] at hp
      have h1 := hc c List.mem_cons_self
      have h2 := ih (c + 1) hi (by omega) hp.2 fun x hx => ⟨by have := hp.1 x hx; omega, (hc x (List.mem_cons_of_mem _ hx)).2⟩
      rw [List.length_cons]
      omega
  intro e n h
  have := key e 0 n (by omega) h.1 h.2
  omega
theorem ok_evd {n k : Nat} {e : List Int} (h : Evt n e) (hn : n ≤ 6) : okD (k + 1) (evd e) = true := by
  refine tuple_ok (by have := evt_len h; simp; omega) fun x hx => ?_
  obtain ⟨c, hc, rfl⟩ := List.mem_map.mp hx
  have := h.2 c hc
  exact ok_int (by omega)
theorem alike_ints : ∀ as bs : List Int, PySem.W.alikeAll (as.map .int) (bs.map .int) = true
  | [], bs => by cases bs <;> simp [PySem.W.alikeAll]
  | a :: as, [] => by simp [PySem.W.alikeAll]
  | a :: as, b :: bs => by
    have := alike_ints as bs
    simp [PySem.W.alikeAll, PySem.W.alike, this]
theorem evsL_head : ∀ n : Nat, ∃ r, evsL n = [] :: r
  | 0 => ⟨[], rfl⟩
  | k + 1 => by
    obtain ⟨r, h⟩ := evsL_head k
    unfold evsL
    rw [h]
    exact ⟨_, rfl⟩
theorem events_eq {n : Nat} (h6 : n ≤ 6) : ∃ ds, f__law_all_events [.int n] = some (.list ds) ∧ ds.Perm ((evsL n).map evd) := by
  refine ⟨sortD ((evsL n).map evd), ?_, List.mergeSort_perm _ _⟩
  rw [← ev_eq]
  unfold f__law_all_events
  rw [ev_fnP]
  show Ev (m__law_all_events () [.val _, .no, .no, .no]) _
  unfold m__law_all_events
  walk_at "ev"
  refine ⟨⟨by unfold big; omega, by unfold big; omega⟩, ?_⟩
  have hpow : (2 : Nat) ^ n ≤ 64 := Nat.le_trans (Nat.pow_le_pow_right (by decide) h6) (by decide)
  refine for_inv (fun ds _ env => ∃ (k : Nat) (z : SV), k ≤ n ∧ ds = (List.range' k (n - k)).map (fun i => .int (i : Nat)) ∧ env = [.val (.int n), .val (.list ((evsL k).map evd)), z, .no]) ?_ ?_ ⟨0, .no, Nat.zero_le n, ?_, rfl⟩
  · rintro d ds _ _ ⟨k, z, hk, e1, rfl⟩
    cases hnk : n - k with
    | zero => rw [hnk] at e1; cases e1
    | succ m =>
      rw [hnk, List.range'_succ] at e1
      cases e1
      have hk2 : (2 : Nat) ^ k ≤ 64 := Nat.le_trans (Nat.pow_le_pow_right (by decide) (show k ≤ 6 by omega)) (by decide)
      walk_at "ev"
      refine ⟨by rw [List.length_map, evsL_len]; omega, ?_⟩
      refine lc_map (fun d => match d with | .tuple xs => .tuple (xs ++ [.int k]) | _ => .none) (fun d hd => ?_) (fun d _ q hq => by cases hq; rfl) ?_
      · obtain ⟨e, he, rfl⟩ := List.mem_map.mp hd
        have := evt_len (mem_evsL.mp he)
        unfold evd
        walk_at "ev"
        show _ ≤ lim
        simp [lim]
        omega
      · walk_at "ev"
        refine ⟨by simp [lim, evsL_len]; omega, k + 1, .val (.int k), by omega, by rw [show n - (k + 1) = m by omega], ?_⟩
        have e3 : (evsL (k + 1)).map evd = (evsL k).map evd ++ ((evsL k).map evd).map (fun d => match d with | .tuple xs => .tuple (xs ++ [.int k]) | _ => .none) := by
          rw [show evsL (k + 1) = evsL k ++ (evsL k).map (· ++ [(k : Int)]) from rfl, List.map_append, List.map_map, List.map_map]
          congr 1
          refine List.map_congr_left fun e _ => ?_
          show PyData.tuple _ = PyData.tuple _
          simp [evd]
        rw [e3]
  · rintro _ _ ⟨k, z, hk, e1, rfl⟩
    have : k = n := by
      have := congrArg List.length e1
      simp at this
      omega
    subst this
    walk_at "ev"
    unfold sortB
    obtain ⟨r, hr⟩ := evsL_head k
    simp only [Bool.and_eq_true, Bool.or_eq_true, List.all_eq_true, decide_eq_true_eq]
    refine ⟨⟨⟨fun d hd e he => ?_, .inr ?_⟩, fun d hd => ?_⟩, by simp [evsL_len]; omega⟩
    · obtain ⟨a, ha, rfl⟩ := List.mem_map.mp hd
      obtain ⟨b, hb, rfl⟩ := List.mem_map.mp he
      have := alike_ints a b
      simpa [evd, PySem.W.alike] using this
    · rw [hr]
      rfl
    · obtain ⟨a, ha, rfl⟩ := List.mem_map.mp hd
      exact ok_shaped (ok_evd (k := 0) (mem_evsL.mp ha) h6)
  · unfold rangeD
    rw [List.range_eq_range', Nat.sub_zero, show ((n : Int) - 0).toNat = n by omega]
    refine List.map_congr_left fun i _ => ?_
    rw [Int.zero_add]

theorem incI_pw : ∀ is : List Int, incI is = true ↔ is.Pairwise (· < ·)
  | [] => by simp [incI]
  | [a] => by simp [incI]
  | a :: b :: r => by
    have ih := incI_pw (b :: r)
    have e : incI (a :: b :: r) = (decide (a < b) && incI (b :: r)) := by
      unfold incI
      simp
    rw [e, Bool.and_eq_true, ih, decide_eq_true_eq, List.pairwise_cons (a := a) (l := b :: r)]
    constructor
    · rintro ⟨h1, h2⟩
      refine ⟨fun c hc => ?_, h2⟩
      rcases List.mem_cons.mp hc with z | z
      · rw [z]
        exact h1
      · have := (List.pairwise_cons.mp h2).1 c z
        omega
    · rintro ⟨h1, h2⟩
      exact ⟨h1 b List.mem_cons_self, h2⟩
/-- an event, by the list of all -/
theorem evB_iff {n : Nat} (xs : List PyData) : evB n (.tuple xs) = true ↔ ∃ e, Evt n e ∧ xs = e.map .int := by
  constructor
  · intro h
    unfold evB at h
    rw [Bool.and_eq_true] at h
    obtain ⟨h1, h2⟩ := all_ints h.1
    exact ⟨xs.map toI, ⟨(incI_pw _).mp h.2, fun c hc => by have := h2 c hc; omega⟩, h1⟩
  · rintro ⟨e, he, rfl⟩
    have e2 : (e.map PyData.int).map toI = e := by
      rw [List.map_map]
      exact List.map_id'' (fun _ => rfl) e
    unfold evB
    rw [Bool.and_eq_true, e2]
    refine ⟨?_, (incI_pw _).mpr he.1⟩
    rw [List.all_map, List.all_eq_true]
    intro c hc
    have := he.2 c hc
    show (decide (0 ≤ c) && decide (c ≤ (n : Int) - 1)) = true
    rw [Bool.and_eq_true, decide_eq_true_eq, decide_eq_true_eq]
    omega
theorem evB_in {n : Nat} {ds xs : List PyData} (hp : ds.Perm ((evsL n).map evd)) (hb : ∀ x ∈ xs, tyD x ≠ "bool") : (ds.any fun z => PyData.eqv z (.tuple xs)) = evB n (.tuple xs) := by
  rw [Bool.eq_iff_iff, evB_iff, List.any_eq_true]
  constructor
  · rintro ⟨z, hz, he⟩
    obtain ⟨e, h1, rfl⟩ := List.mem_map.mp (hp.mem_iff.mp hz)
    refine ⟨e, mem_evsL.mp h1, ?_⟩
    exact (eqv_ints e xs hb).mp (by simpa [evd, PyData.eqv] using he)
  · rintro ⟨e, he, rfl⟩
    exact ⟨evd e, hp.mem_iff.mpr (List.mem_map.mpr ⟨e, mem_evsL.mpr he, rfl⟩), by simpa [evd, PyData.eqv] using (eqv_ints e _ hb).mpr rfl⟩
/-! ### what is passed -/
theorem plotB_lot {n : Nat} {lot : List Rat} (h : Lot n lot) (h1 : 1 ≤ n) (h16 : n ≤ 16) : plotB (lotD lot) = true ∧ lotB n (lotD lot) = true := by
  have hl := h.len
  have e1 : (lot.map fr).all nnB = true := by
    rw [List.all_map, List.all_eq_true]
    intro q hq
    show (fracB (fr q) && decide (0 ≤ toQ (fr q))) = true
    rw [fracB_fr, toQ_fr, decide_eq_true (h.nn q hq)] <;> rfl
  have e2 : ((lot.map fr).map toQ) = lot := by
    rw [List.map_map]
    exact List.map_id'' (fun q => toQ_fr q) lot
  constructor
  · show (decide (1 ≤ (lot.map fr).length) && decide ((lot.map fr).length ≤ 16) && (lot.map fr).all nnB && decide (sumQ ((lot.map fr).map toQ) = 1)) = true
    rw [e1, e2, h.one, List.length_map, hl, decide_eq_true h1, decide_eq_true h16] <;> rfl
  · show (decide ((lot.map fr).length = n) && (lot.map fr).all nnB && decide (sumQ ((lot.map fr).map toQ) = 1)) = true
    rw [e1, e2, h.one, List.length_map, hl, decide_eq_true rfl] <;> rfl
theorem ok_lot {n k : Nat} {lot : List Rat} (h : Lot n lot) (h16 : n ≤ 16) : okD (k + 2) (lotD lot) = true := by
  have hl := h.len
  refine tuple_ok (by rw [List.length_map]; omega) fun x hx => ?_
  obtain ⟨q, hq, rfl⟩ := List.mem_map.mp hx
  exact ok_fr ((h.sz q hq).mono (by decide))
theorem shortlot_eq {n : Nat} {lot : List Rat} (h : Lot n lot) (h1 : 1 ≤ n) (h16 : n ≤ 16) : f_is_short_lot [lotD lot] = some (.bool true) := by
  rw [← ev_eq]
  unfold f_is_short_lot
  rw [ev_fnP]
  show Ev (m_is_short_lot () [.val _, .no]) _
  unfold m_is_short_lot
  walk_at "ev"
  rw [islot_gen (n := 0) _ (ok_lot h h16), (plotB_lot h h1 h16).1]
  walk_at "ev"
  unfold lotD
  walk_at "ev"
  have hl := h.len
  refine ⟨by rw [List.length_map]; omega, lc_src _ (fun _ => .bool true) (fun q hq => ?_) ?_⟩
  · walk_at "ev"
    rw [short_eq ((h.sz q hq).mono (by decide)), ev_some]
  · rw [all_boolsS (β := fun _ => true)]
    simp
theorem Chain.ok {n k : Nat} {ch : List (List (List Rat))} (h : Chain n ch) : okD (k + 4) (chD ch) = true := by
  have hl := h.len
  have h4 := h.n4
  refine list_ok (by rw [List.length_map]; omega) fun x hx => ?_
  obtain ⟨lots, hL, rfl⟩ := List.mem_map.mp hx
  have := h.l3 lots hL
  refine list_ok (by rw [List.length_map]; omega) fun x hx => ?_
  obtain ⟨lot, hlot, rfl⟩ := List.mem_map.mp hx
  exact ok_lot (h.lot lots hL lot hlot) (by omega)
theorem Chain.is {n : Nat} {ch : List (List (List Rat))} (h : Chain n ch) : chainB (chD ch) = true := by
  have hl := h.len
  have h1 := h.n1
  have h4 := h.n4
  show (decide (1 ≤ (ch.map lotsD).length) && decide ((ch.map lotsD).length ≤ 4) && (ch.map lotsD).all (lotsB (ch.map lotsD).length)) = true
  rw [List.length_map, hl, decide_eq_true h1, decide_eq_true h4, List.all_map]
  simp only [Bool.true_and, List.all_eq_true]
  intro lots hL
  have := h.l1 lots hL
  have := h.l3 lots hL
  show (decide (1 ≤ (lots.map lotD).length) && decide ((lots.map lotD).length ≤ 3) && (lots.map lotD).all (lotB n)) = true
  rw [List.length_map, decide_eq_true (by omega), decide_eq_true (by omega), List.all_map]
  simp only [Bool.true_and, List.all_eq_true]
  intro lot hlot
  exact (plotB_lot (h.lot lots hL lot hlot) h1 (by omega)).2
theorem checkchain_eq {n : Nat} {ch : List (List (List Rat))} (h : Chain n ch) : f_check_chain [chD ch] = some .none := by
  rw [← ev_eq]
  unfold f_check_chain
  rw [ev_fnP]
  show Ev (m_check_chain () [.val _, .no, .no]) _
  unfold m_check_chain
  walk_at "ev"
  rw [ischain_eq (k := 0) _ h.ok, h.is]
  walk_at "ev"
  unfold chD
  walk_at "ev"
  have hl := h.len
  have h1 := h.n1
  have h4 := h.n4
  refine ⟨by rw [List.length_map]; omega, lc_src _ (fun _ => .bool true) (fun lots hL => ?_) ?_⟩
  · unfold lotsD
    walk_at "ev"
    have := h.l3 lots hL
    refine ⟨by rw [List.length_map]; omega, lc_src _ (fun _ => .bool true) (fun lot hlot => ?_) ?_⟩
    · walk_at "ev"
      rw [shortlot_eq (h.lot lots hL lot hlot) h1 (by omega), ev_some]
    · rw [all_boolsS (β := fun _ => true)]
      simp
  · rw [all_boolsS (β := fun _ => true)]
    simp
theorem len_chD {n : Nat} {ch : List (List (List Rat))} (h : Chain n ch) : dLen [chD ch] = some (.int n) := by
  unfold chD
  show some (PyData.int _) = _
  rw [List.length_map, h.len]
theorem checknumber_eq {v a b : Int} (h1 : a ≤ v) (h2 : v ≤ b) : f_check_number [.int v, .int a, .int b] = some .none := by
  rw [← ev_eq]
  unfold f_check_number
  rw [ev_fnP]
  show Ev (m_check_number () [.val _, .val _, .val _]) _
  unfold m_check_number
  walk_at "ev"
  rw [within_gen _ _ _ rfl, show inB a b (.int v) = true by simp [inB, h1, h2]]
  walk_at "ev"
theorem checksteps_eq {v : Int} (h1 : 0 ≤ v) (h2 : v ≤ 8) : f_check_steps [.int v] = some .none := by
  rw [← ev_eq]
  unfold f_check_steps
  rw [ev_fnP]
  show Ev (m_check_steps () [.val _]) _
  unfold m_check_steps
  walk_at "ev"
  rw [checknumber_eq h1 h2]
  walk_at "ev"

end Dv

namespace Dv
open PySem L2
local macro_rules | `(tactic| walk_at "ev") => `(tactic| simp only [ev_some, ev_none, ev_eC, ev_eV0, ev_eVs, ev_bV0, ev_bO0, ev_bVs, ev_e1, ev_e2, ev_eN, ev_oN, ev_o2, ev_nil, ev_cons, ev_eL, ev_eTup, ev_tV, ev_tAnd, ev_tOr, ev_tNot, ev_tYes, ev_eIf, ev_eNot, ev_eAnd, ev_eOr, ev_eChain, ev_pN, ev_pS, ev_eSl, ev_oSl, ev_iS, ev_iZ, ev_iR1, ev_iR2, ev_oLc, ev_iEn, ev_iEz, ev_iZ3, ev_eIfT, ev_eRv, ev_mulT, ev_mulS, ev_isN, ev_isnN, ev_repO, ev_sExtE, ev_eTr,
  ev_eNew, ev_eR0, ev_eReg0, ev_gReg0, ev_ixN0, ev_ixN1, ev_sAppE, ev_sPutE, Option.some.injEq, SV.own.injEq, SV.val.injEq, List.getElem?_cons_zero, List.getElem?_cons_succ, ev_sNx, ev_sBk, ev_sCt, ev_sNo, nxt_nx, nxt_rt, nxt_bk, nxt_ct, ev_sSeq, ev_sIf, ev_sSet, ev_sOwn, ev_sDrop, ev_sRet, ev_sFrz, ev_sBind, ev_sPar, ev_sFor, ev_gN, ev_gT, ev_gNil, ev_gCons, trn_nx, trn_ct, trn_bk, trn_rt, ev_sWhile, out_rt, out_nx, outr_rt, outr_nx, ev_at0, ev_at1, ev_at2,
  ev_addI, ev_subI, ev_mulI, ev_divI, ev_modI, ev_negI, ev_I2, ev_absI, ev_intI, ev_intB, ev_lenL, ev_lenT, ev_ixL, ev_ixT, ev_addL, ev_addT, ev_catL, ev_eqI, ev_neI, ev_eqS, ev_neS, ev_eqL, ev_neL, ev_eqT, ev_neT, ev_inL, ev_inT, ev_ninL, ev_ninT, ev_isi, ev_itL, ev_itT, ev_tupL, ev_tupT, ev_listL, ev_listT, ev_max, ev_min, ev_divmod, ev_repr, ev_sorted,
  List.set_cons_zero, List.set_cons_succ, List.map_cons, List.map_nil, wipeE, frz1, PyData.bool.injEq, PyData.int.injEq, exists_eq_left', exists_eq_left, decide_eq_true_eq, Bool.not_eq_true', decide_eq_false_iff_not, ite_true, ite_false, Bool.true_eq_false, Bool.false_eq_true, Bool.not_true, Bool.not_false, true_and, and_true, if_true, if_false])
/-! ### means -/
def Gd (k : Nat) (q : Rat) : Prop := IsB (LL ^ k) (2 ^ (36 * k + 7)) q
theorem LL_pos (k : Nat) : 0 < LL ^ k := Int.pow_pos (by decide)
theorem LL_lt (k : Nat) : (LL ^ k).natAbs < 2 ^ (36 * k + 8) := by
  rw [Int.natAbs_pow]
  have h : (232792560 : Nat) ^ k ≤ (2 ^ 36) ^ k := Nat.pow_le_pow_left (by decide) k
  rw [← Nat.pow_mul] at h
  have h2 : 2 ^ (36 * k) < 2 ^ (36 * k + 8) := Nat.pow_lt_pow_right (by decide) (by omega)
  exact Nat.lt_of_le_of_lt h h2
theorem Gd.sz {k : Nat} {q : Rat} (h : Gd k q) : Sz (36 * k + 8) q := isB_sz (LL_pos k) h (LL_lt k) (Nat.pow_lt_pow_right (by decide) (by omega))
theorem Gd.szm {k n : Nat} {q : Rat} (h : Gd k q) (l : 36 * k + 8 ≤ n) : Sz n q := h.sz.mono l
theorem gd_int {i : Int} (h : i.natAbs ≤ 128) : Gd 0 (i : Rat) := isB_int h
theorem isB_up {D E : Int} {A : Nat} {q : Rat} (h : IsB D A q) : IsB (E * D) (E.natAbs * A) q := by
  have := isB_mul (p := 1) (q := q) (D := E) (E := D) (A := E.natAbs) ⟨E, by rw [Rat.one_mul], Nat.le_refl _⟩ h
  rwa [Rat.one_mul] at this
theorem Gd.up {k : Nat} {q : Rat} (h : Gd k q) : Gd (k + 1) q := by
  have := isB_up (E := LL) h
  unfold Gd
  rw [Int.pow_succ, Int.mul_comm]
  refine this.mono ?_
  have e : 2 ^ (36 * (k + 1) + 7) = 2 ^ 36 * 2 ^ (36 * k + 7) := by rw [← Nat.pow_add]; congr 1; omega
  rw [e]
  exact Nat.mul_le_mul_right _ (by decide)
theorem Gd.mono {k l : Nat} {q : Rat} (h : Gd k q) (hl : k ≤ l) : Gd l q := by
  obtain ⟨m, rfl⟩ := Nat.exists_eq_add_of_le hl
  clear hl
  induction m with
  | zero => exact h
  | succ m ih => exact ih.up
def meanQ (lot xs : List Rat) : Rat := sumQ ((lot.zip xs).map fun p => p.1 * p.2)
theorem isB_terms {n k : Nat} {lot xs : List Rat} (h : Lot n lot) (hx : ∀ x ∈ xs, Gd k x) : ∀ q ∈ (lot.zip xs).map (fun p => p.1 * p.2), IsB (LL ^ (k + 1)) (2 ^ (36 * k + 35)) q := by
  intro q hq
  obtain ⟨p, hp, rfl⟩ := List.mem_map.mp hq
  have hz := List.of_mem_zip hp
  have := isB_mul (h.whole _ hz.1) (hx _ hz.2)
  rw [Int.pow_succ, Int.mul_comm]
  refine this.mono ?_
  have e : 2 ^ (36 * k + 35) = 2 ^ 28 * 2 ^ (36 * k + 7) := by rw [← Nat.pow_add]; congr 1; omega
  rw [e]
  exact Nat.mul_le_mul_right _ (by decide)
theorem gd_terms {n k : Nat} {lot xs : List Rat} (h : Lot n lot) (hx : ∀ x ∈ xs, Gd k x) : ∀ q ∈ (lot.zip xs).map (fun p => p.1 * p.2), Gd (k + 1) q := fun q hq =>
  (isB_terms h hx q hq).mono (Nat.pow_le_pow_right (by decide) (by omega))
theorem gd_part {n k : Nat} {lot xs : List Rat} (h : Lot n lot) (h16 : n ≤ 16) (hx : ∀ x ∈ xs, Gd k x) (m : Nat) : Gd (k + 1) (sumQ (((lot.zip xs).map fun p => p.1 * p.2).take m)) := by
  have := isB_sum (qs := ((lot.zip xs).map fun p => p.1 * p.2).take m) fun q hq => isB_terms h hx q (List.mem_of_mem_take hq)
  refine this.mono ?_
  have hl : (((lot.zip xs).map fun p => p.1 * p.2).take m).length ≤ 16 := by
    rw [List.length_take, List.length_map, List.length_zip, h.len]
    omega
  have e : 2 ^ (36 * (k + 1) + 7) = 2 ^ (36 * k + 35) * 2 ^ 8 := by rw [← Nat.pow_add]; congr 1
  rw [e]
  exact Nat.mul_le_mul_left _ (by omega)
theorem gd_mean {n k : Nat} {lot xs : List Rat} (h : Lot n lot) (h16 : n ≤ 16) (hx : ∀ x ∈ xs, Gd k x) : Gd (k + 1) (meanQ lot xs) := by
  have := gd_part h h16 hx ((lot.zip xs).map fun p => p.1 * p.2).length
  rwa [List.take_length] at this
/-- the numbers fit: they, their products with chances, and what these add up to, are small -/
structure FitL (N : Nat) (lot xs : List Rat) : Prop where
  x : ∀ x ∈ xs, Sz N x
  t : ∀ q ∈ (lot.zip xs).map (fun p => p.1 * p.2), Sz N q
  s : ∀ m, Sz N (sumQ (((lot.zip xs).map fun p => p.1 * p.2).take m))
theorem FitL.mean {N : Nat} {lot xs : List Rat} (h : FitL N lot xs) : Sz N (meanQ lot xs) := by
  have := h.s ((lot.zip xs).map fun p => p.1 * p.2).length
  rwa [List.take_length] at this
theorem fit_gd {n k : Nat} {lot xs : List Rat} (h : Lot n lot) (h16 : n ≤ 16) (hx : ∀ x ∈ xs, Gd k x) : FitL (36 * (k + 1) + 8) lot xs :=
  ⟨fun x hxm => (hx x hxm).up.sz, fun q hq => (gd_terms h hx q hq).sz, fun m => (gd_part h h16 hx m).sz⟩
theorem fit_sz {n M : Nat} {lot xs : List Rat} (h : Lot n lot) (h4 : n ≤ 4) (hx : ∀ x ∈ xs, Sz M x) : FitL (4 * M + 40) lot xs := by
  have ht : ∀ q ∈ (lot.zip xs).map (fun p => p.1 * p.2), Sz (6 + M) q := fun q hq => by
    obtain ⟨p, hp, rfl⟩ := List.mem_map.mp hq
    have hz := List.of_mem_zip hp
    exact sz_mul (h.sz _ hz.1) (hx _ hz.2)
  refine ⟨fun x hxm => (hx x hxm).mono (by omega), fun q hq => (ht q hq).mono (by omega), fun m => ?_⟩
  have h1 := sz_sum (qs := ((lot.zip xs).map fun p => p.1 * p.2).take m) fun q hq => ht q (List.mem_of_mem_take hq)
  have hl : (((lot.zip xs).map fun p => p.1 * p.2).take m).length ≤ 4 := by
    rw [List.length_take, List.length_map, List.length_zip, h.len]
    omega
  have h2 := Nat.mul_le_mul_left (6 + M + 1) hl
  exact h1.mono (by omega)
theorem psum_eq {n N : Nat} {lot xs : List Rat} {d : PyData} (h : Lot n lot) (h16 : n ≤ 16) (hd : items d = some (xs.map fr)) (hx : FitL N lot xs) (hk : N ≤ 4400) : f_products_sum [lotD lot, d] = some (fr (meanQ lot xs)) := by
  rw [← ev_eq]
  unfold f_products_sum
  rw [ev_fnP]
  show Ev (m_products_sum () [.val _, .val _, .no, .no]) _
  unfold m_products_sum
  walk_at "ev"
  unfold lotD
  walk_at "ev"
  rw [hd, ev_some, zipD_map]
  have hl := h.len
  refine ⟨by rw [List.length_map, List.length_zip]; omega, lc_src _ (fun p => fr (p.1 * p.2)) (fun p hp => ?_) ?_⟩
  · have hz := List.of_mem_zip hp
    walk_at "ev"
    rw [mult_eq (h.sz _ hz.1) (hx.x _ hz.2) (by omega), ev_some]
  · rw [total_gen (n := N) (m := N) (qs := (lot.zip xs).map fun p => p.1 * p.2) (by rw [List.map_map]; rfl) hx.t (fun j _ => hx.s j) (by omega), ev_some]
    rfl
theorem mean_eq {n N : Nat} {lot xs : List Rat} {d : PyData} (h : Lot n lot) (h16 : n ≤ 16) (hd : items d = some (xs.map fr)) (hx : FitL N lot xs) (hk : N ≤ 4400) : f_mean_of [lotD lot, d] = some (fr (meanQ lot xs)) := by
  rw [← ev_eq]
  unfold f_mean_of
  rw [ev_fnP]
  show Ev (m_mean_of () [.val _, .val _]) _
  unfold m_mean_of
  walk_at "ev"
  rw [psum_eq h h16 hd hx hk, ev_some]
theorem lby_eq {n N : Nat} {lot xs : List Rat} {d : PyData} (h : Lot n lot) (h16 : n ≤ 16) (hd : items d = some (xs.map fr)) (hx : FitL N lot xs) (hk : N ≤ 4400) : f__law_by [lotD lot, d] = some (fr (meanQ lot xs)) := by
  rw [← ev_eq]
  unfold f__law_by
  rw [ev_fnP]
  show Ev (m__law_by () [.val _, .val _, .no, .no]) _
  unfold m__law_by
  walk_at "ev"
  unfold lotD
  walk_at "ev"
  rw [hd, ev_some, zipD_map]
  have hl := h.len
  refine ⟨by rw [List.length_map, List.length_zip]; omega, lc_src _ (fun p => fr (p.1 * p.2)) (fun p hp => ?_) ?_⟩
  · have hz := List.of_mem_zip hp
    walk_at "ev"
    rw [ltimes_eq (h.sz _ hz.1) (hx.x _ hz.2) (by omega), ev_some]
  · rw [lsum_gen (n := N) (m := N) (qs := (lot.zip xs).map fun p => p.1 * p.2) (by rw [List.map_map]; rfl) hx.t (fun j _ => hx.s j) (by omega), ev_some]
    rfl
/-! ### the least, the greatest -/
def mn (f o : Rat) : Rat := if o < f then o else f
def mx (f o : Rat) : Rat := if f < o then o else f
def minL : List Rat → Rat
  | [] => 0
  | x :: xs => xs.foldl mn x
def maxL : List Rat → Rat
  | [] => 0
  | x :: xs => xs.foldl mx x
theorem mn_or (f o : Rat) : mn f o = f ∨ mn f o = o := by
  unfold mn
  split
  · exact .inr rfl
  · exact .inl rfl
theorem mx_or (f o : Rat) : mx f o = f ∨ mx f o = o := by
  unfold mx
  split
  · exact .inr rfl
  · exact .inl rfl
theorem foldl_mem {g : Rat → Rat → Rat} (hg : ∀ f o, g f o = f ∨ g f o = o) : ∀ (xs : List Rat) (x : Rat), xs.foldl g x ∈ x :: xs
  | [], x => List.mem_singleton.mpr rfl
  | y :: xs, x => by
    rw [List.foldl_cons]
    have := foldl_mem hg xs (g x y)
    rcases List.mem_cons.mp this with z | z
    · rw [z]
      rcases hg x y with q | q <;> rw [q] <;> simp
    · exact List.mem_cons_of_mem _ (List.mem_cons_of_mem _ z)
theorem minL_mem {xs : List Rat} (h : xs ≠ []) : minL xs ∈ xs := by
  cases xs with
  | nil => exact absurd rfl h
  | cons x xs => exact foldl_mem mn_or xs x
theorem maxL_mem {xs : List Rat} (h : xs ≠ []) : maxL xs ∈ xs := by
  cases xs with
  | nil => exact absurd rfl h
  | cons x xs => exact foldl_mem mx_or xs x
theorem mn_le (f o : Rat) : mn f o ≤ f ∧ mn f o ≤ o := by
  unfold mn
  split
  · rename_i h
    exact ⟨Rat.le_of_lt h, Rat.le_refl⟩
  · rename_i h
    exact ⟨Rat.le_refl, Rat.not_lt.mp h⟩
theorem foldl_mn_le : ∀ (xs : List Rat) (x : Rat), ∀ y ∈ x :: xs, xs.foldl mn x ≤ y
  | [], x, y, hy => by
    rw [List.mem_singleton.mp hy]
    exact Rat.le_refl
  | z :: xs, x, y, hy => by
    rw [List.foldl_cons]
    have ih := foldl_mn_le xs (mn x z)
    have h0 := ih _ List.mem_cons_self
    have h1 := mn_le x z
    rcases List.mem_cons.mp hy with q | q
    · rw [q]
      exact Rat.le_trans h0 h1.1
    · rcases List.mem_cons.mp q with q | q
      · rw [q]
        exact Rat.le_trans h0 h1.2
      · exact ih y (List.mem_cons_of_mem _ q)
theorem minL_le {xs : List Rat} {y : Rat} (h : y ∈ xs) : minL xs ≤ y := by
  cases xs with
  | nil => cases h
  | cons x xs => exact foldl_mn_le xs x y h
theorem le_minL {xs : List Rat} (h : xs ≠ []) {b : Rat} (hb : ∀ x ∈ xs, b ≤ x) : b ≤ minL xs := hb _ (minL_mem h)
theorem cut1 {α : Type} (x : α) (xs : List α) : cutD (x :: xs) (some 1) none = xs := cut_tail _
theorem least_eq {n : Nat} {qs : List Rat} (h0 : qs ≠ []) (h : ∀ q ∈ qs, Sz n q) (hn : n + n ≤ 8999) : f_least_of [.list (qs.map fr)] = some (fr (minL qs)) := by
  cases qs with
  | nil => exact absurd rfl h0
  | cons x xs =>
    rw [← ev_eq]
    unfold f_least_of
    rw [ev_fnP]
    show Ev (m_least_of () [.val _, .no, .no]) _
    unfold m_least_of
    walk_at "ev"
    rw [cut1]
    refine for_inv (fun ds _ env => ∃ (f : Rat) (rs : List Rat) (z : SV), rs.foldl mn f = minL (x :: xs) ∧ (∀ q ∈ f :: rs, Sz n q) ∧ ds = rs.map fr ∧ env = [.val (.list (fr x :: xs.map fr)), .val (fr f), z]) ?_ ?_ ⟨x, xs, .no, rfl, h, rfl, rfl⟩
    · rintro d' ds _ _ ⟨f, rs, z, e1, e2, e3, rfl⟩
      cases rs with
      | nil => cases e3
      | cons r rs =>
        cases e3
        walk_at "ev"
        rw [lesser_eq (e2 _ List.mem_cons_self) (e2 r (by simp)) hn, ev_some]
        refine ⟨mn f r, rs, .val (fr r), e1, fun q hq => ?_, rfl, rfl⟩
        rcases List.mem_cons.mp hq with z | z
        · rw [z]
          rcases mn_or f r with w | w <;> rw [w]
          · exact e2 _ List.mem_cons_self
          · exact e2 r (by simp)
        · exact e2 q (List.mem_cons_of_mem _ (List.mem_cons_of_mem _ z))
    · rintro _ _ ⟨f, rs, z, e1, e2, e3, rfl⟩
      cases rs with
      | cons r rs => cases e3
      | nil =>
        walk_at "ev"
        rw [← e1]
        rfl
theorem greatest_eq {n : Nat} {qs : List Rat} (h0 : qs ≠ []) (h : ∀ q ∈ qs, Sz n q) (hn : n + n ≤ 8999) : f_greatest_of [.list (qs.map fr)] = some (fr (maxL qs)) := by
  cases qs with
  | nil => exact absurd rfl h0
  | cons x xs =>
    rw [← ev_eq]
    unfold f_greatest_of
    rw [ev_fnP]
    show Ev (m_greatest_of () [.val _, .no, .no]) _
    unfold m_greatest_of
    walk_at "ev"
    rw [cut1]
    refine for_inv (fun ds _ env => ∃ (f : Rat) (rs : List Rat) (z : SV), rs.foldl mx f = maxL (x :: xs) ∧ (∀ q ∈ f :: rs, Sz n q) ∧ ds = rs.map fr ∧ env = [.val (.list (fr x :: xs.map fr)), .val (fr f), z]) ?_ ?_ ⟨x, xs, .no, rfl, h, rfl, rfl⟩
    · rintro d' ds _ _ ⟨f, rs, z, e1, e2, e3, rfl⟩
      cases rs with
      | nil => cases e3
      | cons r rs =>
        cases e3
        walk_at "ev"
        rw [greater_eq (e2 _ List.mem_cons_self) (e2 r (by simp)) hn, ev_some]
        refine ⟨mx f r, rs, .val (fr r), e1, fun q hq => ?_, rfl, rfl⟩
        rcases List.mem_cons.mp hq with z | z
        · rw [z]
          rcases mx_or f r with w | w <;> rw [w]
          · exact e2 _ List.mem_cons_self
          · exact e2 r (by simp)
        · exact e2 q (List.mem_cons_of_mem _ (List.mem_cons_of_mem _ z))
    · rintro _ _ ⟨f, rs, z, e1, e2, e3, rfl⟩
      cases rs with
      | cons r rs => cases e3
      | nil =>
        walk_at "ev"
        rw [← e1]
        rfl
/-! ### one step back, up -/
def meansQ (lots : List (List Rat)) (xs : List Rat) : List Rat := lots.map fun lot => meanQ lot xs
def backQ (ch : List (List (List Rat))) (xs : List Rat) : List Rat := ch.map fun lots => minL (meansQ lots xs)
def upQ (ch : List (List (List Rat))) (xs : List Rat) : List Rat := ch.map fun lots => maxL (meansQ lots xs)
def Fit (N : Nat) (ch : List (List (List Rat))) (xs : List Rat) : Prop := ∀ lots ∈ ch, ∀ lot ∈ lots, FitL N lot xs
def stepQ (up : Bool) (ch : List (List (List Rat))) (xs : List Rat) : List Rat := if up then upQ ch xs else backQ ch xs
section
variable {n k : Nat} {ch : List (List (List Rat))} {lots : List (List Rat)} {xs : List Rat} {d : PyData}
theorem Chain.gd_means (h : Chain n ch) (hL : lots ∈ ch) (hx : ∀ x ∈ xs, Gd k x) : ∀ q ∈ meansQ lots xs, Gd (k + 1) q := fun q hq => by
  obtain ⟨lot, hl, rfl⟩ := List.mem_map.mp hq
  have := h.n4
  exact gd_mean (h.lot lots hL lot hl) (by omega) hx
theorem Chain.means_ne (h : Chain n ch) (hL : lots ∈ ch) : meansQ lots xs ≠ [] := fun z => by
  have := h.l1 lots hL
  have := congrArg List.length z
  unfold meansQ at this
  rw [List.length_map, List.length_nil] at this
  omega
theorem Chain.gd_back (h : Chain n ch) (hx : ∀ x ∈ xs, Gd k x) : ∀ q ∈ backQ ch xs, Gd (k + 1) q := fun q hq => by
  obtain ⟨lots, hL, rfl⟩ := List.mem_map.mp hq
  exact h.gd_means hL hx _ (minL_mem (h.means_ne hL))
theorem Chain.gd_up (h : Chain n ch) (hx : ∀ x ∈ xs, Gd k x) : ∀ q ∈ upQ ch xs, Gd (k + 1) q := fun q hq => by
  obtain ⟨lots, hL, rfl⟩ := List.mem_map.mp hq
  exact h.gd_means hL hx _ (maxL_mem (h.means_ne hL))
theorem Fit.means {N : Nat} (hx : Fit N ch xs) (hL : lots ∈ ch) : ∀ q ∈ meansQ lots xs, Sz N q := fun q hq => by
  obtain ⟨lot, hl, rfl⟩ := List.mem_map.mp hq
  exact (hx lots hL lot hl).mean
theorem Chain.fit (h : Chain n ch) (hx : ∀ x ∈ xs, Gd k x) : Fit (36 * (k + 1) + 8) ch xs := fun lots hL lot hl => by
  have := h.n4
  exact fit_gd (h.lot lots hL lot hl) (by omega) hx
theorem Chain.fitS {M : Nat} (h : Chain n ch) (hx : ∀ x ∈ xs, Sz M x) : Fit (4 * M + 40) ch xs := fun lots hL lot hl => fit_sz (h.lot lots hL lot hl) h.n4 hx
theorem len_back : (backQ ch xs).length = ch.length := List.length_map ..
theorem len_up : (upQ ch xs).length = ch.length := List.length_map ..
end
theorem back_eq {n N : Nat} {ch : List (List (List Rat))} {xs : List Rat} {d : PyData} (h : Chain n ch) (hd : items d = some (xs.map fr)) (hx : Fit N ch xs) (hk : N ≤ 4400) : f_back_by_one [chD ch, d] = some (.list ((backQ ch xs).map fr)) := by
  rw [← ev_eq]
  unfold f_back_by_one
  rw [ev_fnP]
  show Ev (m_back_by_one () [.val _, .val _, .no, .no]) _
  unfold m_back_by_one
  walk_at "ev"
  unfold chD
  walk_at "ev"
  have hl := h.len
  have h4 := h.n4
  refine ⟨by rw [List.length_map]; omega, lc_src _ (fun lots => fr (minL (meansQ lots xs))) (fun lots hL => ?_) ?_⟩
  · unfold lotsD
    walk_at "ev"
    have h3 := h.l3 lots hL
    refine ⟨by rw [List.length_map]; omega, lc_src _ (fun lot => fr (meanQ lot xs)) (fun lot hlot => ?_) ?_⟩
    · walk_at "ev"
      rw [mean_eq (h.lot lots hL lot hlot) (by omega) hd (hx lots hL lot hlot) hk, ev_some]
    · rw [show lots.map (fun lot => fr (meanQ lot xs)) = (meansQ lots xs).map fr by unfold meansQ; rw [List.map_map]; rfl]
      rw [least_eq (n := N) (h.means_ne hL) (fun q hq => hx.means hL q hq) (by omega), ev_some]
  · unfold backQ
    rw [List.map_map]
    rfl
theorem up_eq {n N : Nat} {ch : List (List (List Rat))} {xs : List Rat} {d : PyData} (h : Chain n ch) (hd : items d = some (xs.map fr)) (hx : Fit N ch xs) (hk : N ≤ 4400) : f_up_by_one [chD ch, d] = some (.list ((upQ ch xs).map fr)) := by
  rw [← ev_eq]
  unfold f_up_by_one
  rw [ev_fnP]
  show Ev (m_up_by_one () [.val _, .val _, .no, .no]) _
  unfold m_up_by_one
  walk_at "ev"
  unfold chD
  walk_at "ev"
  have hl := h.len
  have h4 := h.n4
  refine ⟨by rw [List.length_map]; omega, lc_src _ (fun lots => fr (maxL (meansQ lots xs))) (fun lots hL => ?_) ?_⟩
  · unfold lotsD
    walk_at "ev"
    have h3 := h.l3 lots hL
    refine ⟨by rw [List.length_map]; omega, lc_src _ (fun lot => fr (meanQ lot xs)) (fun lot hlot => ?_) ?_⟩
    · walk_at "ev"
      rw [mean_eq (h.lot lots hL lot hlot) (by omega) hd (hx lots hL lot hlot) hk, ev_some]
    · rw [show lots.map (fun lot => fr (meanQ lot xs)) = (meansQ lots xs).map fr by unfold meansQ; rw [List.map_map]; rfl]
      rw [greatest_eq (n := N) (h.means_ne hL) (fun q hq => hx.means hL q hq) (by omega), ev_some]
  · unfold upQ
    rw [List.map_map]
    rfl
theorem lstep_eq {n N : Nat} {ch : List (List (List Rat))} {xs : List Rat} {d : PyData} {up : Bool} (h : Chain n ch) (hd : items d = some (xs.map fr)) (hx : Fit N ch xs) (hk : N ≤ 4400) : f__law_step [chD ch, d, .bool up] = some (.list ((stepQ up ch xs).map fr)) := by
  rw [← ev_eq]
  unfold f__law_step
  rw [ev_fnP]
  show Ev (m__law_step () [.val _, .val _, .val _, .no, .no, .no, .no, .no]) _
  unfold m__law_step
  walk_at "ev"
  unfold chD
  walk_at "ev"
  have hl := h.len
  have h4 := h.n4
  refine for_inv (fun ds _ env => ∃ (ps rs : List (List (List Rat))) (z1 z2 z3 z4 : SV), ch = ps ++ rs ∧ ds = rs.map lotsD ∧ env = [.val (.list (ch.map lotsD)), .val d, .val (.bool up), .own ((stepQ up ps xs).map fr), z1, z2, z3, z4]) ?_ ?_ ⟨[], ch, .no, .no, .no, .no, rfl, rfl, by cases up <;> rfl⟩
  · rintro d' ds _ _ ⟨ps, rs, z1, z2, z3, z4, e1, e2, rfl⟩
    cases rs with
    | nil => cases e2
    | cons lots rs =>
      cases e2
      have hL : lots ∈ ch := by rw [e1]; simp
      have hpl : ps.length ≤ ch.length := by rw [e1, List.length_append]; omega
      have hne := h.means_ne (xs := xs) hL
      cases lots with
      | nil => exact absurd rfl hne
      | cons lot lots =>
        have hlo : ∀ l ∈ lot :: lots, Lot n l ∧ FitL N l xs := fun l hl => ⟨h.lot _ hL l hl, hx _ hL l hl⟩
        rw [show lotsD (lot :: lots) = .list (lotD lot :: lots.map lotD) from rfl]
        walk_at "ev"
        rw [lby_eq (hlo lot List.mem_cons_self).1 (by omega) hd (hlo lot List.mem_cons_self).2 hk]
        walk_at "ev"
        rw [cut1]
        have fin : ∀ b : Rat, b = (if up then maxL (meansQ (lot :: lots) xs) else minL (meansQ (lot :: lots) xs)) → (stepQ up ps xs).map fr ++ [fr b] = (stepQ up (ps ++ [lot :: lots]) xs).map fr := fun b hb => by
          subst hb
          cases up <;> simp [stepQ, backQ, upQ]
        have hlen : ((stepQ up ps xs).map fr).length < 1000000 := by
          rw [List.length_map]
          cases up <;> simp [stepQ, backQ, upQ] <;> omega
        refine for_inv (fun ds _ env => ∃ (f : Rat) (ls : List (List Rat)) (z1 z2 : SV), (meansQ ls xs).foldl (if up then mx else mn) f = (if up then maxL (meansQ (lot :: lots) xs) else minL (meansQ (lot :: lots) xs)) ∧ Sz N f ∧ (∀ l ∈ ls, Lot n l ∧ FitL N l xs) ∧ ds = ls.map lotD ∧
          env = [.val (.list (ch.map lotsD)), .val d, .val (.bool up), .own ((stepQ up ps xs).map fr), .val (.list (lotD lot :: lots.map lotD)), .val (fr f), z1, z2]) ?_ ?_ ⟨meanQ lot xs, lots, z3, z4, by cases up <;> rfl, (hlo lot List.mem_cons_self).2.mean, fun l hl => hlo l (List.mem_cons_of_mem _ hl), rfl, rfl⟩
        · rintro d' ds _ _ ⟨f, ls, y1, y2, e3, e4, e5, e6, rfl⟩
          cases ls with
          | nil => cases e6
          | cons l ls =>
            cases e6
            walk_at "ev"
            have hg := (e5 l List.mem_cons_self).2.mean
            rw [lby_eq (e5 l List.mem_cons_self).1 (by omega) hd (e5 l List.mem_cons_self).2 hk]
            walk_at "ev"
            have g1 : ∀ b : Rat, b = (if up then mx else mn) f (meanQ l xs) → Sz N b := fun b hb => by
              cases up
              · rcases mn_or f (meanQ l xs) with w | w <;> (rw [hb]; simp only [Bool.false_eq_true, if_false]; rw [w]; assumption)
              · rcases mx_or f (meanQ l xs) with w | w <;> (rw [hb]; simp only [if_true]; rw [w]; assumption)
            have e3' : (meansQ ls xs).foldl (if up then mx else mn) ((if up then mx else mn) f (meanQ l xs)) = (if up then maxL (meansQ (lot :: lots) xs) else minL (meansQ (lot :: lots) xs)) := e3
            cases up with
            | true =>
              walk_at "ev"
              rw [lbelow_eq e4 hg (by omega)]
              walk_at "ev"
              by_cases c : f < meanQ l xs
              · rw [if_pos c]
                simp only [if_true] at e3' g1
                have em : mx f (meanQ l xs) = meanQ l xs := by unfold mx; rw [if_pos c]
                rw [em] at e3' g1
                exact ⟨meanQ l xs, ls, _, _, e3', g1 _ rfl, fun x hx => e5 x (List.mem_cons_of_mem _ hx), rfl, rfl⟩
              · rw [if_neg c]
                simp only [if_true] at e3' g1
                have em : mx f (meanQ l xs) = f := by unfold mx; rw [if_neg c]
                rw [em] at e3' g1
                exact ⟨f, ls, _, _, e3', g1 _ rfl, fun x hx => e5 x (List.mem_cons_of_mem _ hx), rfl, rfl⟩
            | false =>
              walk_at "ev"
              rw [lbelow_eq hg e4 (by omega)]
              walk_at "ev"
              by_cases c : meanQ l xs < f
              · rw [if_pos c]
                simp only [Bool.false_eq_true, if_false] at e3' g1
                have em : mn f (meanQ l xs) = meanQ l xs := by unfold mn; rw [if_pos c]
                rw [em] at e3' g1
                exact ⟨meanQ l xs, ls, _, _, e3', g1 _ rfl, fun x hx => e5 x (List.mem_cons_of_mem _ hx), rfl, rfl⟩
              · rw [if_neg c]
                simp only [Bool.false_eq_true, if_false] at e3' g1
                have em : mn f (meanQ l xs) = f := by unfold mn; rw [if_neg c]
                rw [em] at e3' g1
                exact ⟨f, ls, _, _, e3', g1 _ rfl, fun x hx => e5 x (List.mem_cons_of_mem _ hx), rfl, rfl⟩
        · rintro _ _ ⟨f, ls, y1, y2, e3, e4, e5, e6, rfl⟩
          cases ls with
          | cons l ls => cases e6
          | nil =>
            walk_at "ev"
            refine ⟨hlen, ?_⟩
            rw [fin f e3]
            exact ⟨ps ++ [lot :: lots], rs, _, _, _, _, by rw [e1]; simp, rfl, rfl⟩
  · rintro _ _ ⟨ps, rs, z1, z2, z3, z4, e1, e2, rfl⟩
    cases rs with
    | cons r rs => cases e2
    | nil =>
      walk_at "ev"
      rw [e1, List.append_nil]

end Dv

namespace Dv
open PySem L2
local macro_rules | `(tactic| walk_at "ev") => `(tactic| simp only [ev_some, ev_none, ev_eC, ev_eV0, ev_eVs, ev_bV0, ev_bO0, ev_bVs, ev_e1, ev_e2, ev_eN, ev_oN, ev_o2, ev_nil, ev_cons, ev_eL, ev_eTup, ev_tV, ev_tAnd, ev_tOr, ev_tNot, ev_tYes, ev_eIf, ev_eNot, ev_eAnd, ev_eOr, ev_eChain, ev_pN, ev_pS, ev_eSl, ev_oSl, ev_iS, ev_iZ, ev_iR1, ev_iR2, ev_oLc, ev_iEn, ev_iEz, ev_iZ3, ev_eIfT, ev_eRv, ev_mulT, ev_mulS, ev_isN, ev_isnN, ev_repO, ev_sExtE, ev_eTr,
  ev_eNew, ev_eR0, ev_eReg0, ev_gReg0, ev_ixN0, ev_ixN1, ev_sAppE, ev_sPutE, Option.some.injEq, SV.own.injEq, SV.val.injEq, List.getElem?_cons_zero, List.getElem?_cons_succ, ev_sNx, ev_sBk, ev_sCt, ev_sNo, nxt_nx, nxt_rt, nxt_bk, nxt_ct, ev_sSeq, ev_sIf, ev_sSet, ev_sOwn, ev_sDrop, ev_sRet, ev_sFrz, ev_sBind, ev_sPar, ev_sFor, ev_gN, ev_gT, ev_gNil, ev_gCons, trn_nx, trn_ct, trn_bk, trn_rt, ev_sWhile, out_rt, out_nx, outr_rt, outr_nx, ev_at0, ev_at1, ev_at2,
  ev_addI, ev_subI, ev_mulI, ev_divI, ev_modI, ev_negI, ev_I2, ev_absI, ev_intI, ev_intB, ev_lenL, ev_lenT, ev_ixL, ev_ixT, ev_addL, ev_addT, ev_catL, ev_eqI, ev_neI, ev_eqS, ev_neS, ev_eqL, ev_neL, ev_eqT, ev_neT, ev_inL, ev_inT, ev_ninL, ev_ninT, ev_isi, ev_itL, ev_itT, ev_tupL, ev_tupT, ev_listL, ev_listT, ev_max, ev_min, ev_divmod, ev_repr, ev_sorted,
  List.set_cons_zero, List.set_cons_succ, List.map_cons, List.map_nil, wipeE, frz1, PyData.bool.injEq, PyData.int.injEq, exists_eq_left', exists_eq_left, decide_eq_true_eq, Bool.not_eq_true', decide_eq_false_iff_not, ite_true, ite_false, Bool.true_eq_false, Bool.false_eq_true, Bool.not_true, Bool.not_false, true_and, and_true, if_true, if_false])
/-! ### any value as a chain, by the law -/
theorem in_ev {e : List Int} {c : Int} {Q : PyData → Prop} : Ev (dIn (.int c) (evd e)) Q ↔ Q (.bool (decide (c ∈ e))) := by
  unfold evd
  rw [ev_inT, any_int]
  exact ⟨fun h => h.2, fun h => ⟨⟨shaped_int c, shaped_ints e⟩, h⟩⟩
theorem nin_ev {e : List Int} {c : Int} {Q : PyData → Prop} : Ev (dNin (.int c) (evd e)) Q ↔ Q (.bool (!decide (c ∈ e))) := by
  unfold evd
  rw [ev_ninT, any_int]
  exact ⟨fun h => h.2, fun h => ⟨⟨shaped_int c, shaped_ints e⟩, h⟩⟩
def capAt (e : List Int) (j : Nat) (q : Rat) : Rat := if (j : Int) ∈ e then 1 else q
def okAt (e : List Int) (t : Nat × Rat × Rat) : Bool := !decide (t.2.1 < capAt e t.1 t.2.2)
def boundB (n : Nat) (ch : List (List (List Rat))) (e : List Int) (d : PyData) : Bool := match items d with
  | some xs => decide (xs.length = n) && xs.all nnB && (enI ((xs.map toQ).zip (backQ ch (xs.map toQ)))).all (okAt e)
  | none => false
theorem capAt_sz {e : List Int} {j n : Nat} {q : Rat} (h : Sz n q) (hn : 1 ≤ n) : Sz n (capAt e j q) := by
  unfold capAt
  split
  · exact sz_one.mono hn
  · exact h
def opD : Option Int → PyData
  | none => .none
  | some v => .int v
def rk1 (e : List Int) (t : Nat × PyData) : Bool := match t.2 with
  | .none => decide ((t.1 : Int) ∈ e)
  | .int v => if (t.1 : Int) ∈ e then decide (1 ≤ v) else decide (v = 0)
  | _ => false
/-- who has a rank below v -/
def isLow (v : Int) : Option Int → Bool
  | none => false
  | some w => decide (w < v)
def lowIdx (os : List (Option Int)) (v : Int) : List Nat := ((enI os).filter fun p => isLow v p.2).map (·.1)
def lower (ch : List (List (List Rat))) (os : List (Option Int)) (s : Nat) (v : Int) : Bool := (ch.getD s []).all fun lot => (lowIdx os v).any fun j => decide (0 < lot.getD j 0)
def rk2 (ch : List (List (List Rat))) (os : List (Option Int)) (t : Nat × Option Int) : Bool := match t.2 with
  | none => true
  | some v => decide (v = 0) || lower ch os t.1 v
def opQ : PyData → Option Int
  | .int v => some v
  | _ => none
def ranksB (n : Nat) (ch : List (List (List Rat))) (e : List Int) (d : PyData) : Bool := match items d with
  | some xs => decide (xs.length = n) && (enI xs).all (rk1 e) && (enI (xs.map opQ)).all (rk2 ch (xs.map opQ))
  | none => false
theorem rk1_op {e : List Int} {xs : List PyData} (h : (enI xs).all (rk1 e) = true) : (xs.map opQ).map opD = xs := by
  rw [List.map_map]
  refine (List.map_congr_left fun x hx => ?_).trans (List.map_id xs)
  obtain ⟨j, hj, rfl⟩ := List.mem_iff_getElem.mp hx
  have := List.all_eq_true.mp h (j, xs[j]) (mem_enI.mpr ⟨hj, rfl⟩)
  unfold rk1 at this
  simp only at this
  show opD (opQ xs[j]) = xs[j]
  cases hq : xs[j] with
  | none => rfl
  | int v => rfl
  | _ => rw [hq] at this; cases this
theorem at_lots {n : Nat} {ch : List (List (List Rat))} {s : Nat} {Q : PyData → Prop} (h : Chain n ch) (hs : s < n) : Ev (dIx (chD ch) (.int (s : Nat))) Q ↔ Q (lotsD (ch.getD s [])) := by
  unfold chD
  rw [ev_ixL, ev_atM (by rw [h.len]; exact hs), List.getD_eq_getElem?_getD, List.getElem?_eq_getElem (by rw [h.len]; exact hs)]
  exact Iff.rfl
theorem getD_mem {n : Nat} {ch : List (List (List Rat))} {s : Nat} (h : Chain n ch) (hs : s < n) : ch.getD s [] ∈ ch := by
  rw [List.getD_eq_getElem?_getD, List.getElem?_eq_getElem (by rw [h.len]; exact hs)]
  exact List.getElem_mem _
theorem at_lot {n : Nat} {lot : List Rat} {j : Nat} {Q : PyData → Prop} (h : Lot n lot) (hj : j < n) : Ev (dIx (lotD lot) (.int (j : Nat))) Q ↔ Q (fr (lot.getD j 0)) := by
  unfold lotD
  rw [ev_ixT, ev_atM (by rw [h.len]; exact hj), List.getD_eq_getElem?_getD, List.getElem?_eq_getElem (by rw [h.len]; exact hj)]
  exact Iff.rfl
theorem ix0_fr {q : Rat} {Q : PyData → Prop} : Ev (dIx (fr q) (.int 0)) Q ↔ Q (.int q.num) := by
  unfold fr
  walk_at "ev"
theorem num_pos (q : Rat) : decide (0 < q.num) = decide (0 < q) := by
  rw [decide_eq_decide, Rat.lt_iff]
  simp
def lowL (os : List (Option Int)) (v : Int) (p : Nat × Rat) : Bool := decide (0 < p.2) && isLow v (os.getD p.1 none)
def rk3 (ch : List (List (List Rat))) (os : List (Option Int)) (s : Int) : Bool := match os.getD s.toNat none with
  | none => true
  | some v => (ch.getD s.toNat []).all fun lot => (enI lot).any (lowL os v)
theorem getD_at {α : Type} {xs : List α} {j : Nat} {d : α} (h : j < xs.length) : xs.getD j d = xs[j] := by
  rw [List.getD_eq_getElem?_getD, List.getElem?_eq_getElem h]
  rfl
theorem low_any {n : Nat} {os : List (Option Int)} {lot : List Rat} {v : Int} (hl : os.length = n) (hlo : lot.length = n) : ((lowIdx os v).any fun j => decide (0 < lot.getD j 0)) = (enI lot).any (lowL os v) := by
  rw [Bool.eq_iff_iff, List.any_eq_true, List.any_eq_true]
  constructor
  · rintro ⟨j, hj, h0⟩
    unfold lowIdx at hj
    obtain ⟨p, hp, rfl⟩ := List.mem_map.mp hj
    obtain ⟨h1, h2⟩ := List.mem_filter.mp hp
    obtain ⟨h3, h4⟩ := mem_enI.mp h1
    have hjl : p.1 < lot.length := by omega
    refine ⟨(p.1, lot[p.1]), mem_enI.mpr ⟨hjl, rfl⟩, ?_⟩
    unfold lowL
    rw [getD_at hjl] at h0
    simp only [Bool.and_eq_true]
    exact ⟨h0, by rw [getD_at h3, h4]; exact h2⟩
  · rintro ⟨p, hp, h0⟩
    obtain ⟨h1, h2⟩ := mem_enI.mp hp
    unfold lowL at h0
    rw [Bool.and_eq_true] at h0
    have hjo : p.1 < os.length := by omega
    refine ⟨p.1, ?_, by rw [getD_at h1, h2]; exact h0.1⟩
    unfold lowIdx
    refine List.mem_map.mpr ⟨(p.1, os[p.1]), List.mem_filter.mpr ⟨mem_enI.mpr ⟨hjo, rfl⟩, ?_⟩, rfl⟩
    have := h0.2
    rwa [getD_at hjo] at this
theorem lower_lots {n : Nat} {ch : List (List (List Rat))} {os : List (Option Int)} {s : Nat} {v : Int} (h : Chain n ch) (hl : os.length = n) (hs : s < n) : lower ch os s v = (ch.getD s []).all fun lot => (enI lot).any (lowL os v) := by
  unfold lower
  rw [Bool.eq_iff_iff, List.all_eq_true, List.all_eq_true]
  have hL := getD_mem h hs
  constructor
  · intro hh lot hlot
    rw [← low_any hl (h.lot _ hL lot hlot).len]
    exact hh lot hlot
  · intro hh lot hlot
    rw [low_any hl (h.lot _ hL lot hlot).len]
    exact hh lot hlot
theorem rk_same {n : Nat} {ch : List (List (List Rat))} {e : List Int} {es : List PyData} (h : Chain n ch) (he : Evt n e) (hl : es.length = n) (h1 : (enI es).all (rk1 e) = true) : (enI (es.map opQ)).all (rk2 ch (es.map opQ)) = e.all (rk3 ch (es.map opQ)) := by
  have hlo : (es.map opQ).length = n := by rw [List.length_map, hl]
  rw [List.all_eq_true] at h1
  rw [Bool.eq_iff_iff, List.all_eq_true, List.all_eq_true]
  constructor
  · intro hh s hs
    have hb := he.2 s hs
    have hj : s.toNat < n := by omega
    have hj2 : s.toNat < (es.map opQ).length := by omega
    have h2 := hh (s.toNat, (es.map opQ)[s.toNat]) (mem_enI.mpr ⟨hj2, rfl⟩)
    have h3 := h1 (s.toNat, es[s.toNat]'(by omega)) (mem_enI.mpr ⟨by show s.toNat < es.length; omega, rfl⟩)
    unfold rk3
    rw [getD_at hj2]
    unfold rk2 at h2
    unfold rk1 at h3
    rw [List.getElem_map] at h2 ⊢
    simp only at h2 h3
    have hse : ((s.toNat : Nat) : Int) ∈ e := by rwa [show ((s.toNat : Nat) : Int) = s by omega]
    cases hx : es[s.toNat]'(by omega) with
    | int v =>
      rw [hx] at h2 h3
      simp only [opQ, if_pos hse, decide_eq_true_eq] at h2 h3 ⊢
      rw [Bool.or_eq_true, decide_eq_true_eq] at h2
      rcases h2 with z | z
      · omega
      · rwa [lower_lots h hlo hj] at z
    | _ => rfl
  · rintro hh ⟨j, o⟩ hp
    obtain ⟨hj, ho⟩ := mem_enI.mp hp
    have hj : j < (es.map opQ).length := hj
    have ho : (es.map opQ)[j] = o := ho
    have hje : j < es.length := by rwa [List.length_map] at hj
    have h3 := h1 (j, es[j]) (mem_enI.mpr ⟨hje, rfl⟩)
    rw [List.getElem_map] at ho
    unfold rk2
    unfold rk1 at h3
    simp only at h3 ⊢
    cases hx : es[j] with
    | int v =>
      rw [hx] at h3 ho
      subst ho
      simp only [opQ]
      by_cases c : (j : Int) ∈ e
      · have h4 := hh j c
        unfold rk3 at h4
        rw [show ((j : Int)).toNat = j by omega, getD_at hj, List.getElem_map, hx] at h4
        simp only [opQ] at h4
        rw [lower_lots h hlo (by omega), h4, Bool.or_true]
      · simp only [if_neg c] at h3
        rw [h3, Bool.true_or]
    | _ =>
      rw [hx] at ho
      subst ho
      rfl
theorem at_op {n : Nat} {os : List (Option Int)} {d : PyData} {j : Nat} {Q : PyData → Prop} (hl : lstB d = true) (hd : items d = some (os.map opD)) (hj : j < os.length) : Ev (dIx d (.int (j : Nat))) Q ↔ Q (opD (os.getD j none)) := by
  rw [getD_at hj]
  cases d with
  | list xs =>
    cases hd
    rw [ev_ixL, ev_atM hj]
  | tuple xs =>
    cases hd
    rw [ev_ixT, ev_atM hj]
  | _ => cases hl
end Dv

namespace Dv
open PySem L2
local macro_rules | `(tactic| walk_at "ev") => `(tactic| simp only [ev_some, ev_none, ev_eC, ev_eV0, ev_eVs, ev_bV0, ev_bO0, ev_bVs, ev_e1, ev_e2, ev_eN, ev_oN, ev_o2, ev_nil, ev_cons, ev_eL, ev_eTup, ev_tV, ev_tAnd, ev_tOr, ev_tNot, ev_tYes, ev_eIf, ev_eNot, ev_eAnd, ev_eOr, ev_eChain, ev_pN, ev_pS, ev_eSl, ev_oSl, ev_iS, ev_iZ, ev_iR1, ev_iR2, ev_oLc, ev_iEn, ev_iEz, ev_iZ3, ev_eIfT, ev_eRv, ev_mulT, ev_mulS, ev_isN, ev_isnN, ev_repO, ev_sExtE, ev_eTr,
  ev_eNew, ev_eR0, ev_eReg0, ev_gReg0, ev_ixN0, ev_ixN1, ev_sAppE, ev_sPutE, Option.some.injEq, SV.own.injEq, SV.val.injEq, List.getElem?_cons_zero, List.getElem?_cons_succ, ev_sNx, ev_sBk, ev_sCt, ev_sNo, nxt_nx, nxt_rt, nxt_bk, nxt_ct, ev_sSeq, ev_sIf, ev_sSet, ev_sOwn, ev_sDrop, ev_sRet, ev_sFrz, ev_sBind, ev_sPar, ev_sFor, ev_gN, ev_gT, ev_gNil, ev_gCons, trn_nx, trn_ct, trn_bk, trn_rt, ev_sWhile, out_rt, out_nx, outr_rt, outr_nx, ev_at0, ev_at1, ev_at2,
  ev_addI, ev_subI, ev_mulI, ev_divI, ev_modI, ev_negI, ev_I2, ev_absI, ev_intI, ev_intB, ev_lenL, ev_lenT, ev_ixL, ev_ixT, ev_addL, ev_addT, ev_catL, ev_eqI, ev_neI, ev_eqS, ev_neS, ev_eqL, ev_neL, ev_eqT, ev_neT, ev_inL, ev_inT, ev_ninL, ev_ninT, ev_isi, ev_itL, ev_itT, ev_tupL, ev_tupT, ev_listL, ev_listT, ev_max, ev_min, ev_divmod, ev_repr, ev_sorted,
  List.set_cons_zero, List.set_cons_succ, List.map_cons, List.map_nil, wipeE, frz1, PyData.bool.injEq, PyData.int.injEq, exists_eq_left', exists_eq_left, decide_eq_true_eq, Bool.not_eq_true', decide_eq_false_iff_not, ite_true, ite_false, Bool.true_eq_false, Bool.false_eq_true, Bool.not_true, Bool.not_false, true_and, and_true, if_true, if_false])
/-! ### hits -/
def onceQ (n : Nat) (e : List Int) : List Rat := (List.range n).map fun s => capAt e s 0
def capQ (e : List Int) (xs : List Rat) : List Rat := (enI xs).map fun p => capAt e p.1 p.2
def hitsQ (up : Bool) (n : Nat) (ch : List (List (List Rat))) (e : List Int) : Nat → List Rat
  | 0 => onceQ n e
  | k + 1 => capQ e (stepQ up ch (hitsQ up n ch e k))
theorem gd_zero {k : Nat} : Gd k 0 := isB_zero
theorem gd_one {k : Nat} : Gd k 1 := (gd_int (i := 1) (by decide)).mono (Nat.zero_le k)
theorem gd_cap {k j : Nat} {e : List Int} {q : Rat} (h : Gd k q) : Gd k (capAt e j q) := by
  unfold capAt
  split
  · exact gd_one
  · exact h
theorem len_step {up : Bool} {ch : List (List (List Rat))} {xs : List Rat} : (stepQ up ch xs).length = ch.length := by
  cases up
  · exact len_back
  · exact len_up
theorem len_cap {e : List Int} {xs : List Rat} : (capQ e xs).length = xs.length := by
  unfold capQ
  rw [List.length_map, enI_len]
theorem len_hits {up : Bool} {n : Nat} {ch : List (List (List Rat))} {e : List Int} (h : Chain n ch) : ∀ k, (hitsQ up n ch e k).length = n
  | 0 => by
    show (onceQ n e).length = n
    unfold onceQ
    rw [List.length_map, List.length_range]
  | k + 1 => by
    show (capQ _ _).length = n
    rw [len_cap, len_step, h.len]
theorem gd_hits {up : Bool} {n : Nat} {ch : List (List (List Rat))} {e : List Int} (h : Chain n ch) : ∀ k, ∀ x ∈ hitsQ up n ch e k, Gd k x
  | 0, x, hx => by
    obtain ⟨s, _, rfl⟩ := List.mem_map.mp hx
    exact gd_cap gd_zero
  | k + 1, x, hx => by
    obtain ⟨p, hp, rfl⟩ := List.mem_map.mp hx
    obtain ⟨h1, h2⟩ := mem_enI.mp hp
    refine gd_cap ?_
    rw [← h2]
    have hm := List.getElem_mem h1
    cases up
    · exact h.gd_back (gd_hits h k) _ hm
    · exact h.gd_up (gd_hits h k) _ hm
def startO (n : Nat) (e : List Int) : List (Option Int) := (List.range n).map fun (s : Nat) => if (s : Int) ∈ e then none else some 0
def hitIdx (ch : List (List (List Rat))) (os : List (Option Int)) (v : Int) : List Nat := ((enI os).filter fun p => p.2.isNone && lower ch os p.1 v).map (·.1)
def nextO (ch : List (List (List Rat))) (v : Int) (os : List (Option Int)) : List (Option Int) := (enI os).map fun p => if p.1 ∈ hitIdx ch os v then some v else p.2
def toldO (n : Nat) (ch : List (List (List Rat))) (e : List Int) : Nat → List (Option Int)
  | 0 => startO n e
  | k + 1 => nextO ch ((k + 1 : Nat) : Int) (toldO n ch e k)
theorem len_told {n : Nat} {ch : List (List (List Rat))} {e : List Int} : ∀ k, (toldO n ch e k).length = n
  | 0 => by
    show (startO n e).length = n
    unfold startO
    rw [List.length_map, List.length_range]
  | k + 1 => by
    show (nextO _ _ _).length = n
    unfold nextO
    rw [List.length_map, enI_len, len_told k]
theorem told_le {n : Nat} {ch : List (List (List Rat))} {e : List Int} : ∀ k, ∀ o ∈ toldO n ch e k, ∀ v, o = some v → 0 ≤ v ∧ v ≤ k
  | 0, o, ho, v, hv => by
    obtain ⟨s, _, rfl⟩ := List.mem_map.mp ho
    split at hv
    · cases hv
    · cases hv
      omega
  | k + 1, o, ho, v, hv => by
    obtain ⟨p, hp, rfl⟩ := List.mem_map.mp ho
    split at hv
    · cases hv
      omega
    · obtain ⟨h1, h2⟩ := mem_enI.mp hp
      have := told_le k p.2 (h2 ▸ List.getElem_mem h1) v hv
      omega
theorem range_from1 (n : Nat) : rangeD 1 ((n : Int) + 1) = (List.range n).map fun k => .int ((k + 1 : Nat) : Int) := by
  unfold rangeD
  rw [show ((n : Int) + 1 - 1).toNat = n by omega]
  refine List.map_congr_left fun k _ => ?_
  congr 1
  omega
theorem isNone_op (o : Option Int) : isNone (opD o) = o.isNone := by cases o <;> rfl
end Dv

namespace Dv
open PySem L2
local macro_rules | `(tactic| walk_at "ev") => `(tactic| simp only [ev_some, ev_none, ev_eC, ev_eV0, ev_eVs, ev_bV0, ev_bO0, ev_bVs, ev_e1, ev_e2, ev_eN, ev_oN, ev_o2, ev_nil, ev_cons, ev_eL, ev_eTup, ev_tV, ev_tAnd, ev_tOr, ev_tNot, ev_tYes, ev_eIf, ev_eNot, ev_eAnd, ev_eOr, ev_eChain, ev_pN, ev_pS, ev_eSl, ev_oSl, ev_iS, ev_iZ, ev_iR1, ev_iR2, ev_oLc, ev_iEn, ev_iEz, ev_iZ3, ev_eIfT, ev_eRv, ev_mulT, ev_mulS, ev_isN, ev_isnN, ev_repO, ev_sExtE, ev_eTr,
  ev_eNew, ev_eR0, ev_eReg0, ev_gReg0, ev_ixN0, ev_ixN1, ev_sAppE, ev_sPutE, Option.some.injEq, SV.own.injEq, SV.val.injEq, List.getElem?_cons_zero, List.getElem?_cons_succ, ev_sNx, ev_sBk, ev_sCt, ev_sNo, nxt_nx, nxt_rt, nxt_bk, nxt_ct, ev_sSeq, ev_sIf, ev_sSet, ev_sOwn, ev_sDrop, ev_sRet, ev_sFrz, ev_sBind, ev_sPar, ev_sFor, ev_gN, ev_gT, ev_gNil, ev_gCons, trn_nx, trn_ct, trn_bk, trn_rt, ev_sWhile, out_rt, out_nx, outr_rt, outr_nx, ev_at0, ev_at1, ev_at2,
  ev_addI, ev_subI, ev_mulI, ev_divI, ev_modI, ev_negI, ev_I2, ev_absI, ev_intI, ev_intB, ev_lenL, ev_lenT, ev_ixL, ev_ixT, ev_addL, ev_addT, ev_catL, ev_eqI, ev_neI, ev_eqS, ev_neS, ev_eqL, ev_neL, ev_eqT, ev_neT, ev_inL, ev_inT, ev_ninL, ev_ninT, ev_isi, ev_itL, ev_itT, ev_tupL, ev_tupT, ev_listL, ev_listT, ev_max, ev_min, ev_divmod, ev_repr, ev_sorted,
  List.set_cons_zero, List.set_cons_succ, List.map_cons, List.map_nil, wipeE, frz1, PyData.bool.injEq, PyData.int.injEq, exists_eq_left', exists_eq_left, decide_eq_true_eq, Bool.not_eq_true', decide_eq_false_iff_not, ite_true, ite_false, Bool.true_eq_false, Bool.false_eq_true, Bool.not_true, Bool.not_false, true_and, and_true, if_true, if_false])
/-! ### means, hits and ranks: plain laws -/
theorem mean_cons (l x : Rat) (lot xs : List Rat) : meanQ (l :: lot) (x :: xs) = l * x + meanQ lot xs := rfl
theorem mean_nn : ∀ {lot xs : List Rat}, (∀ l ∈ lot, 0 ≤ l) → (∀ x ∈ xs, 0 ≤ x) → 0 ≤ meanQ lot xs
  | [], _, _, _ => Rat.le_refl
  | _ :: _, [], _, _ => Rat.le_refl
  | l :: lot, x :: xs, h1, h2 => Rat.add_nonneg (Rat.mul_nonneg (h1 l List.mem_cons_self) (h2 x List.mem_cons_self)) (mean_nn (fun y hy => h1 y (List.mem_cons_of_mem _ hy)) fun y hy => h2 y (List.mem_cons_of_mem _ hy))
theorem mean_mono : ∀ {lot xs ys : List Rat}, xs.length = lot.length → ys.length = lot.length → (∀ l ∈ lot, 0 ≤ l) → (∀ j, j < lot.length → xs.getD j 0 ≤ ys.getD j 0) → meanQ lot xs ≤ meanQ lot ys
  | [], _, _, _, _, _, _ => Rat.le_refl
  | l :: lot, x :: xs, y :: ys, h1, h2, h3, h4 => by
    rw [mean_cons, mean_cons]
    have a1 : x ≤ y := h4 0 (by simp)
    have a2 : l * x ≤ l * y := Rat.mul_le_mul_of_nonneg_left a1 (h3 l List.mem_cons_self)
    have a3 := mean_mono (lot := lot) (xs := xs) (ys := ys) (by simpa using h1) (by simpa using h2) (fun z hz => h3 z (List.mem_cons_of_mem _ hz)) fun j hj => h4 (j + 1) (by simpa using hj)
    grind
  | _ :: _, [], _, h1, _, _, _ => by simp at h1
  | _ :: _, _ :: _, [], _, h2, _, _ => by simp at h2
theorem mean_le : ∀ {lot xs : List Rat}, xs.length = lot.length → (∀ l ∈ lot, 0 ≤ l) → (∀ x ∈ xs, x ≤ 1) → meanQ lot xs ≤ sumQ lot
  | [], _, _, _, _ => Rat.le_refl
  | l :: lot, x :: xs, h1, h3, h4 => by
    rw [mean_cons]
    have a2 : l * x ≤ l * 1 := Rat.mul_le_mul_of_nonneg_left (h4 x List.mem_cons_self) (h3 l List.mem_cons_self)
    have a3 := mean_le (lot := lot) (xs := xs) (by simpa using h1) (fun z hz => h3 z (List.mem_cons_of_mem _ hz)) fun z hz => h4 z (List.mem_cons_of_mem _ hz)
    show _ ≤ l + sumQ lot
    rw [Rat.mul_one] at a2
    grind
  | _ :: _, [], h1, _, _ => by simp at h1
theorem mean_pos : ∀ {lot xs : List Rat}, xs.length = lot.length → (∀ l ∈ lot, 0 ≤ l) → (∀ x ∈ xs, 0 ≤ x) → (0 < meanQ lot xs ↔ ∃ j, j < lot.length ∧ 0 < lot.getD j 0 ∧ 0 < xs.getD j 0)
  | [], _, _, _, _ => ⟨fun h => absurd h Rat.lt_irrefl, fun ⟨_, h, _⟩ => absurd h (Nat.not_lt_zero _)⟩
  | l :: lot, x :: xs, h1, h3, h4 => by
    rw [mean_cons]
    have hl := h3 l List.mem_cons_self
    have hx := h4 x List.mem_cons_self
    have h3' : ∀ z ∈ lot, 0 ≤ z := fun z hz => h3 z (List.mem_cons_of_mem _ hz)
    have h4' : ∀ z ∈ xs, 0 ≤ z := fun z hz => h4 z (List.mem_cons_of_mem _ hz)
    have ih := mean_pos (lot := lot) (xs := xs) (by simpa using h1) h3' h4'
    have hm := mean_nn h3' h4'
    have hp := Rat.mul_nonneg hl hx
    constructor
    · intro h
      by_cases c : 0 < l ∧ 0 < x
      · exact ⟨0, by simp, c.1, c.2⟩
      · have : l * x = 0 := by
          by_cases cl : 0 < l
          · have : x = 0 := by
              have : ¬ 0 < x := fun z => c ⟨cl, z⟩
              grind
            rw [this, Rat.mul_zero]
          · have : l = 0 := by grind
            rw [this, Rat.zero_mul]
        obtain ⟨j, a, b⟩ := ih.mp (by grind)
        exact ⟨j + 1, by simpa using a, b⟩
    · rintro ⟨j, a, b, d⟩
      cases j with
      | zero =>
        have : 0 < l * x := Rat.mul_pos b d
        grind
      | succ j =>
        have := ih.mpr ⟨j, by simpa using a, b, d⟩
        grind
  | _ :: _, [], h1, _, _ => by simp at h1
theorem mean_zero {lot xs : List Rat} (h1 : xs.length = lot.length) (h2 : ∀ l ∈ lot, 0 ≤ l) (h3 : ∀ x ∈ xs, 0 ≤ x) (h : ∀ j, j < lot.length → 0 < lot.getD j 0 → xs.getD j 0 = 0) : meanQ lot xs = 0 := by
  have h4 := mean_nn h2 h3
  by_cases c : 0 < meanQ lot xs
  · obtain ⟨j, a, b, d⟩ := (mean_pos h1 h2 h3).mp c
    rw [h j a b] at d
    exact absurd d Rat.lt_irrefl
  · grind
theorem mem_getD {xs : List Rat} {j : Nat} (h : j < xs.length) : xs.getD j 0 ∈ xs := by
  rw [getD_at h]
  exact List.getElem_mem h
theorem all_getD {xs : List Rat} {P : Rat → Prop} (h : ∀ j, j < xs.length → P (xs.getD j 0)) : ∀ x ∈ xs, P x := fun x hx => by
  obtain ⟨j, hj, rfl⟩ := List.mem_iff_getElem.mp hx
  rw [← getD_at (d := 0) hj]
  exact h j hj
section
variable {n : Nat} {ch : List (List (List Rat))} {xs ys : List Rat} {e : List Int} {up : Bool}
theorem Chain.at (h : Chain n ch) {s : Nat} (hs : s < n) : ch.getD s [] ≠ [] ∧ ∀ lot ∈ ch.getD s [], Lot n lot := by
  have hm := getD_mem h hs
  exact ⟨fun z => by
    have := h.l1 _ hm
    rw [z] at this
    exact absurd this (by decide), h.lot _ hm⟩
theorem back_at (h : Chain n ch) {s : Nat} (hs : s < n) : (backQ ch xs).getD s 0 = minL (meansQ (ch.getD s []) xs) := by
  have hl : s < ch.length := by rw [h.len]; exact hs
  have hl2 : s < (backQ ch xs).length := by rw [len_back]; exact hl
  rw [getD_at hl2, getD_at hl]
  exact List.getElem_map _
theorem means_mem {lots : List (List Rat)} {q : Rat} (h : q ∈ meansQ lots xs) : ∃ lot ∈ lots, meanQ lot xs = q := List.mem_map.mp h
theorem back_mono (h : Chain n ch) (hx : xs.length = n) (hy : ys.length = n) (hl : ∀ j, j < n → xs.getD j 0 ≤ ys.getD j 0) {s : Nat} (hs : s < n) : (backQ ch xs).getD s 0 ≤ (backQ ch ys).getD s 0 := by
  rw [back_at h hs, back_at h hs]
  obtain ⟨h0, h1⟩ := h.at hs
  have hne : meansQ (ch.getD s []) ys ≠ [] := fun z => h0 (List.map_eq_nil_iff.mp z)
  obtain ⟨lot, hlot, hq⟩ := means_mem (minL_mem hne)
  have h2 := h1 lot hlot
  have a1 : minL (meansQ (ch.getD s []) xs) ≤ meanQ lot xs := minL_le (List.mem_map.mpr ⟨lot, hlot, rfl⟩)
  have a2 : meanQ lot xs ≤ meanQ lot ys := mean_mono (by rw [hx, h2.len]) (by rw [hy, h2.len]) h2.nn fun j hj => hl j (by rw [h2.len] at hj; exact hj)
  rw [hq] at a2
  exact Rat.le_trans a1 a2
theorem back_nn (h : Chain n ch) (hx : ∀ x ∈ xs, 0 ≤ x) {s : Nat} (hs : s < n) : 0 ≤ (backQ ch xs).getD s 0 := by
  rw [back_at h hs]
  obtain ⟨h0, h1⟩ := h.at hs
  refine le_minL (fun z => h0 (List.map_eq_nil_iff.mp z)) fun q hq => ?_
  obtain ⟨lot, hlot, rfl⟩ := means_mem hq
  exact mean_nn (h1 lot hlot).nn hx
theorem back_le (h : Chain n ch) (hl : xs.length = n) (hx : ∀ x ∈ xs, x ≤ 1) {s : Nat} (hs : s < n) : (backQ ch xs).getD s 0 ≤ 1 := by
  rw [back_at h hs]
  obtain ⟨h0, h1⟩ := h.at hs
  have hne : meansQ (ch.getD s []) xs ≠ [] := fun z => h0 (List.map_eq_nil_iff.mp z)
  obtain ⟨lot, hlot, hq⟩ := means_mem (minL_mem hne)
  rw [← hq, ← (h1 lot hlot).one]
  exact mean_le (by rw [hl, (h1 lot hlot).len]) (h1 lot hlot).nn hx
theorem back_pos (h : Chain n ch) (hl : xs.length = n) (hx : ∀ x ∈ xs, 0 ≤ x) {s : Nat} (hs : s < n) : 0 < (backQ ch xs).getD s 0 ↔ ∀ lot ∈ ch.getD s [], ∃ j, j < n ∧ 0 < lot.getD j 0 ∧ 0 < xs.getD j 0 := by
  rw [back_at h hs]
  obtain ⟨h0, h1⟩ := h.at hs
  have hp : ∀ lot ∈ ch.getD s [], (0 < meanQ lot xs ↔ ∃ j, j < n ∧ 0 < lot.getD j 0 ∧ 0 < xs.getD j 0) := fun lot hlot => by
    have h2 := h1 lot hlot
    have := mean_pos (lot := lot) (xs := xs) (by rw [hl, h2.len]) h2.nn hx
    rw [h2.len] at this
    exact this
  constructor
  · intro hh lot hlot
    refine (hp lot hlot).mp ?_
    have : minL (meansQ (ch.getD s []) xs) ≤ meanQ lot xs := minL_le (List.mem_map.mpr ⟨lot, hlot, rfl⟩)
    grind
  · intro hh
    have hne : meansQ (ch.getD s []) xs ≠ [] := fun z => h0 (List.map_eq_nil_iff.mp z)
    obtain ⟨lot, hlot, hq⟩ := means_mem (minL_mem hne)
    rw [← hq]
    exact (hp lot hlot).mpr (hh lot hlot)
/-! hits -/
theorem getD_map {α β : Type} {xs : List α} {f : α → β} {j : Nat} {d : β} (h : j < xs.length) : (xs.map f).getD j d = f xs[j] := by
  rw [getD_at (by rwa [List.length_map]), List.getElem_map]
theorem cap_at {j : Nat} (h : j < xs.length) : (capQ e xs).getD j 0 = capAt e j (xs.getD j 0) := by
  show (List.map _ (enI xs)).getD j 0 = _
  rw [getD_map (by rwa [enI_len]), enI_get, getD_at h]
theorem hits0 {j : Nat} (hj : j < n) : (hitsQ up n ch e 0).getD j 0 = if (j : Int) ∈ e then 1 else 0 := by
  show (List.map _ (List.range n)).getD j 0 = _
  rw [getD_map (by rwa [List.length_range]), List.getElem_range]
  rfl
theorem hitsS (h : Chain n ch) {j k : Nat} (hj : j < n) : (hitsQ up n ch e (k + 1)).getD j 0 = if (j : Int) ∈ e then 1 else (stepQ up ch (hitsQ up n ch e k)).getD j 0 := cap_at (by rw [len_step, h.len]; exact hj)
theorem hits_nn (h : Chain n ch) : ∀ k, ∀ x ∈ hitsQ false n ch e k, 0 ≤ x
  | 0 => all_getD fun j hj => by
    rw [len_hits h] at hj
    rw [hits0 hj]
    split <;> decide
  | k + 1 => all_getD fun j hj => by
    rw [len_hits h] at hj
    rw [hitsS h hj]
    split
    · decide
    · exact back_nn h (hits_nn h k) hj
theorem hits_mono (h : Chain n ch) : ∀ k j, j < n → (hitsQ false n ch e k).getD j 0 ≤ (hitsQ false n ch e (k + 1)).getD j 0
  | 0, j, hj => by
    rw [hits0 hj, hitsS h hj]
    split
    · exact Rat.le_refl
    · exact back_nn h (hits_nn h 0) hj
  | k + 1, j, hj => by
    rw [hitsS h hj, hitsS h hj]
    split
    · exact Rat.le_refl
    · exact back_mono h (len_hits h k) (len_hits h (k + 1)) (hits_mono h k) hj
/-- a bound is above all hits -/
theorem hits_bound (h : Chain n ch) (hl : xs.length = n) (h0 : ∀ x ∈ xs, 0 ≤ x) (hb : ∀ j, j < n → (if (j : Int) ∈ e then 1 else (backQ ch xs).getD j 0) ≤ xs.getD j 0) : ∀ k j, j < n → (hitsQ false n ch e k).getD j 0 ≤ xs.getD j 0
  | 0, j, hj => by
    have := hb j hj
    rw [hits0 hj]
    split
    · rename_i c
      rw [if_pos c] at this
      exact this
    · exact h0 _ (mem_getD (by omega))
  | k + 1, j, hj => by
    have := hb j hj
    rw [hitsS h hj]
    split
    · rename_i c
      rw [if_pos c] at this
      exact this
    · rename_i c
      rw [if_neg c] at this
      exact Rat.le_trans (back_mono h (len_hits h k) hl (hits_bound h hl h0 hb k) hj) this
end

end Dv

namespace Dv
open PySem L2
local macro_rules | `(tactic| walk_at "ev") => `(tactic| simp only [ev_some, ev_none, ev_eC, ev_eV0, ev_eVs, ev_bV0, ev_bO0, ev_bVs, ev_e1, ev_e2, ev_eN, ev_oN, ev_o2, ev_nil, ev_cons, ev_eL, ev_eTup, ev_tV, ev_tAnd, ev_tOr, ev_tNot, ev_tYes, ev_eIf, ev_eNot, ev_eAnd, ev_eOr, ev_eChain, ev_pN, ev_pS, ev_eSl, ev_oSl, ev_iS, ev_iZ, ev_iR1, ev_iR2, ev_oLc, ev_iEn, ev_iEz, ev_iZ3, ev_eIfT, ev_eRv, ev_mulT, ev_mulS, ev_isN, ev_isnN, ev_repO, ev_sExtE, ev_eTr,
  ev_eNew, ev_eR0, ev_eReg0, ev_gReg0, ev_ixN0, ev_ixN1, ev_sAppE, ev_sPutE, Option.some.injEq, SV.own.injEq, SV.val.injEq, List.getElem?_cons_zero, List.getElem?_cons_succ, ev_sNx, ev_sBk, ev_sCt, ev_sNo, nxt_nx, nxt_rt, nxt_bk, nxt_ct, ev_sSeq, ev_sIf, ev_sSet, ev_sOwn, ev_sDrop, ev_sRet, ev_sFrz, ev_sBind, ev_sPar, ev_sFor, ev_gN, ev_gT, ev_gNil, ev_gCons, trn_nx, trn_ct, trn_bk, trn_rt, ev_sWhile, out_rt, out_nx, outr_rt, outr_nx, ev_at0, ev_at1, ev_at2,
  ev_addI, ev_subI, ev_mulI, ev_divI, ev_modI, ev_negI, ev_I2, ev_absI, ev_intI, ev_intB, ev_lenL, ev_lenT, ev_ixL, ev_ixT, ev_addL, ev_addT, ev_catL, ev_eqI, ev_neI, ev_eqS, ev_neS, ev_eqL, ev_neL, ev_eqT, ev_neT, ev_inL, ev_inT, ev_ninL, ev_ninT, ev_isi, ev_itL, ev_itT, ev_tupL, ev_tupT, ev_listL, ev_listT, ev_max, ev_min, ev_divmod, ev_repr, ev_sorted,
  List.set_cons_zero, List.set_cons_succ, List.map_cons, List.map_nil, wipeE, frz1, PyData.bool.injEq, PyData.int.injEq, exists_eq_left', exists_eq_left, decide_eq_true_eq, Bool.not_eq_true', decide_eq_false_iff_not, ite_true, ite_false, Bool.true_eq_false, Bool.false_eq_true, Bool.not_true, Bool.not_false, true_and, and_true, if_true, if_false])
/-! ### led backwards: plain laws -/
theorem mean_neg : ∀ (lot xs : List Rat), meanQ lot (xs.map fun x => -x) = -(meanQ lot xs)
  | [], _ => by show (0 : Rat) = -0; rfl
  | _ :: _, [] => by show (0 : Rat) = -0; rfl
  | l :: lot, x :: xs => by
    have ih := mean_neg lot xs
    rw [List.map_cons, mean_cons, mean_cons, ih, Rat.mul_neg, Rat.neg_add]
theorem mn_neg (f o : Rat) : mn (-f) (-o) = -(mx f o) := by
  unfold mn mx
  by_cases c : f < o
  · rw [if_pos c, if_pos (by grind)]
  · rw [if_neg c, if_neg (by grind)]
theorem fold_neg : ∀ (xs : List Rat) (x : Rat), (xs.map fun x => -x).foldl mn (-x) = -(xs.foldl mx x)
  | [], _ => rfl
  | y :: ys, x => by
    rw [List.map_cons, List.foldl_cons, List.foldl_cons, mn_neg]
    exact fold_neg ys _
theorem min_neg {xs : List Rat} (h : xs ≠ []) : minL (xs.map fun x => -x) = -(maxL xs) := by
  cases xs with
  | nil => exact absurd rfl h
  | cons x xs => exact fold_neg xs x
theorem mx_le (f o : Rat) : f ≤ mx f o ∧ o ≤ mx f o := by
  unfold mx
  split
  · exact ⟨by grind, Rat.le_refl⟩
  · exact ⟨Rat.le_refl, by grind⟩
theorem foldl_mx_le : ∀ (xs : List Rat) (x : Rat), ∀ y ∈ x :: xs, y ≤ xs.foldl mx x
  | [], x, y, hy => by rw [List.mem_singleton.mp hy]; exact Rat.le_refl
  | z :: xs, x, y, hy => by
    rw [List.foldl_cons]
    have ih := foldl_mx_le xs (mx x z)
    have h1 := ih _ List.mem_cons_self
    obtain ⟨a, b⟩ := mx_le x z
    rcases List.mem_cons.mp hy with q | q
    · rw [q]
      exact Rat.le_trans a h1
    · rcases List.mem_cons.mp q with q | q
      · rw [q]
        exact Rat.le_trans b h1
      · exact ih y (List.mem_cons_of_mem _ q)
theorem le_maxL {xs : List Rat} {y : Rat} (h : y ∈ xs) : y ≤ maxL xs := by
  cases xs with
  | nil => cases h
  | cons x xs => exact foldl_mx_le xs x y h
theorem mean_ge {lo : Rat} : ∀ {lot xs : List Rat}, xs.length = lot.length → (∀ l ∈ lot, 0 ≤ l) → (∀ x ∈ xs, lo ≤ x) → sumQ lot * lo ≤ meanQ lot xs
  | [], xs, _, _, _ => by
    show (0 : Rat) * lo ≤ 0
    rw [Rat.zero_mul]
    exact Rat.le_refl
  | l :: lot, x :: xs, h1, h2, h3 => by
    rw [mean_cons]
    have a2 : l * lo ≤ l * x := Rat.mul_le_mul_of_nonneg_left (h3 x List.mem_cons_self) (h2 l List.mem_cons_self)
    have a3 := mean_ge (lo := lo) (lot := lot) (xs := xs) (by simpa using h1) (fun z hz => h2 z (List.mem_cons_of_mem _ hz)) fun z hz => h3 z (List.mem_cons_of_mem _ hz)
    show (l + sumQ lot) * lo ≤ _
    rw [Rat.add_mul]
    grind
  | _ :: _, [], h1, _, _ => by simp at h1
theorem mean_up {hi : Rat} : ∀ {lot xs : List Rat}, xs.length = lot.length → (∀ l ∈ lot, 0 ≤ l) → (∀ x ∈ xs, x ≤ hi) → meanQ lot xs ≤ sumQ lot * hi
  | [], xs, _, _, _ => by
    show (0 : Rat) ≤ 0 * hi
    rw [Rat.zero_mul]
    exact Rat.le_refl
  | l :: lot, x :: xs, h1, h2, h3 => by
    rw [mean_cons]
    have a2 : l * x ≤ l * hi := Rat.mul_le_mul_of_nonneg_left (h3 x List.mem_cons_self) (h2 l List.mem_cons_self)
    have a3 := mean_up (hi := hi) (lot := lot) (xs := xs) (by simpa using h1) (fun z hz => h2 z (List.mem_cons_of_mem _ hz)) fun z hz => h3 z (List.mem_cons_of_mem _ hz)
    show _ ≤ (l + sumQ lot) * hi
    rw [Rat.add_mul]
    grind
  | _ :: _, [], h1, _, _ => by simp at h1
section
variable {n : Nat} {ch : List (List (List Rat))} {xs ys : List Rat} {lo hi : Rat}
theorem Lot.ge {lot : List Rat} (h : Lot n lot) (hl : xs.length = n) (hx : ∀ x ∈ xs, lo ≤ x) : lo ≤ meanQ lot xs := by
  have := mean_ge (by rw [hl, h.len]) h.nn hx
  rwa [h.one, Rat.one_mul] at this
theorem Lot.le {lot : List Rat} (h : Lot n lot) (hl : xs.length = n) (hx : ∀ x ∈ xs, x ≤ hi) : meanQ lot xs ≤ hi := by
  have := mean_up (by rw [hl, h.len]) h.nn hx
  rwa [h.one, Rat.one_mul] at this
theorem means_neg (lots : List (List Rat)) (xs : List Rat) : meansQ lots (xs.map fun x => -x) = (meansQ lots xs).map fun x => -x := by
  unfold meansQ
  rw [List.map_map]
  exact List.map_congr_left fun lot _ => mean_neg lot xs
theorem back_neg (h : Chain n ch) : backQ ch (xs.map fun x => -x) = (upQ ch xs).map fun x => -x := by
  unfold backQ upQ
  rw [List.map_map]
  refine List.map_congr_left fun lots hL => ?_
  rw [means_neg, min_neg (h.means_ne hL)]
  rfl
/-- led k steps -/
def ledQ (up : Bool) (ch : List (List (List Rat))) (xs : List Rat) : Nat → List Rat
  | 0 => xs
  | k + 1 => stepQ up ch (ledQ up ch xs k)
theorem len_led (h : Chain n ch) {up : Bool} (hx : xs.length = n) : ∀ k, (ledQ up ch xs k).length = n
  | 0 => hx
  | k + 1 => by
    show (stepQ up ch _).length = n
    rw [len_step, h.len]
theorem gd_led (h : Chain n ch) {up : Bool} (hx : ∀ x ∈ xs, Gd 0 x) : ∀ k, ∀ x ∈ ledQ up ch xs k, Gd k x
  | 0 => hx
  | k + 1 => by
    cases up
    · exact h.gd_back (gd_led h hx k)
    · exact h.gd_up (gd_led h hx k)
theorem led_neg (h : Chain n ch) : ∀ k, ledQ false ch (xs.map fun x => -x) k = (ledQ true ch xs k).map fun x => -x
  | 0 => rfl
  | k + 1 => by
    show backQ ch (ledQ false ch _ k) = (upQ ch (ledQ true ch xs k)).map _
    rw [led_neg h k, back_neg h]
theorem back_ge (h : Chain n ch) (hl : xs.length = n) (hx : ∀ x ∈ xs, lo ≤ x) : ∀ x ∈ backQ ch xs, lo ≤ x := fun x hm => by
  obtain ⟨lots, hL, rfl⟩ := List.mem_map.mp hm
  refine le_minL (h.means_ne hL) fun q hq => ?_
  obtain ⟨lot, hlot, rfl⟩ := means_mem hq
  exact (h.lot lots hL lot hlot).ge hl hx
theorem up_le (h : Chain n ch) (hl : xs.length = n) (hx : ∀ x ∈ xs, x ≤ hi) : ∀ x ∈ upQ ch xs, x ≤ hi := fun x hm => by
  obtain ⟨lots, hL, rfl⟩ := List.mem_map.mp hm
  obtain ⟨lot, hlot, hq⟩ := means_mem (maxL_mem (h.means_ne (xs := xs) hL))
  rw [← hq]
  exact (h.lot lots hL lot hlot).le hl hx
theorem led_ge (h : Chain n ch) (hl : xs.length = n) (hx : ∀ x ∈ xs, lo ≤ x) : ∀ k, ∀ x ∈ ledQ false ch xs k, lo ≤ x
  | 0 => hx
  | k + 1 => back_ge h (len_led h hl k) (led_ge h hl hx k)
theorem led_le (h : Chain n ch) (hl : xs.length = n) (hx : ∀ x ∈ xs, x ≤ hi) : ∀ k, ∀ x ∈ ledQ true ch xs k, x ≤ hi
  | 0 => hx
  | k + 1 => up_le h (len_led h hl k) (led_le h hl hx k)
theorem up_at (h : Chain n ch) {s : Nat} (hs : s < n) : (upQ ch xs).getD s 0 = maxL (meansQ (ch.getD s []) xs) := by
  have hl : s < ch.length := by rw [h.len]; exact hs
  show (List.map _ ch).getD s 0 = _
  rw [getD_map hl, getD_at hl]
end

end Dv

namespace Dv
open PySem L2
local macro_rules | `(tactic| walk_at "ev") => `(tactic| simp only [ev_some, ev_none, ev_eC, ev_eV0, ev_eVs, ev_bV0, ev_bO0, ev_bVs, ev_e1, ev_e2, ev_eN, ev_oN, ev_o2, ev_nil, ev_cons, ev_eL, ev_eTup, ev_tV, ev_tAnd, ev_tOr, ev_tNot, ev_tYes, ev_eIf, ev_eNot, ev_eAnd, ev_eOr, ev_eChain, ev_pN, ev_pS, ev_eSl, ev_oSl, ev_iS, ev_iZ, ev_iR1, ev_iR2, ev_oLc, ev_iEn, ev_iEz, ev_iZ3, ev_eIfT, ev_eRv, ev_mulT, ev_mulS, ev_isN, ev_isnN, ev_repO, ev_sExtE, ev_eTr,
  ev_eNew, ev_eR0, ev_eReg0, ev_gReg0, ev_ixN0, ev_ixN1, ev_sAppE, ev_sPutE, Option.some.injEq, SV.own.injEq, SV.val.injEq, List.getElem?_cons_zero, List.getElem?_cons_succ, ev_sNx, ev_sBk, ev_sCt, ev_sNo, nxt_nx, nxt_rt, nxt_bk, nxt_ct, ev_sSeq, ev_sIf, ev_sSet, ev_sOwn, ev_sDrop, ev_sRet, ev_sFrz, ev_sBind, ev_sPar, ev_sFor, ev_gN, ev_gT, ev_gNil, ev_gCons, trn_nx, trn_ct, trn_bk, trn_rt, ev_sWhile, out_rt, out_nx, outr_rt, outr_nx, ev_at0, ev_at1, ev_at2,
  ev_addI, ev_subI, ev_mulI, ev_divI, ev_modI, ev_negI, ev_I2, ev_absI, ev_intI, ev_intB, ev_lenL, ev_lenT, ev_ixL, ev_ixT, ev_addL, ev_addT, ev_catL, ev_eqI, ev_neI, ev_eqS, ev_neS, ev_eqL, ev_neL, ev_eqT, ev_neT, ev_inL, ev_inT, ev_ninL, ev_ninT, ev_isi, ev_itL, ev_itT, ev_tupL, ev_tupT, ev_listL, ev_listT, ev_max, ev_min, ev_divmod, ev_repr, ev_sorted,
  List.set_cons_zero, List.set_cons_succ, List.map_cons, List.map_nil, wipeE, frz1, PyData.bool.injEq, PyData.int.injEq, exists_eq_left', exists_eq_left, decide_eq_true_eq, Bool.not_eq_true', decide_eq_false_iff_not, ite_true, ite_false, Bool.true_eq_false, Bool.false_eq_true, Bool.not_true, Bool.not_false, true_and, and_true, if_true, if_false])
/-! ### choices: plain laws -/
theorem ext_getD' {α : Type} {xs ys : List α} {d : α} (hl : xs.length = ys.length) (h : ∀ i, i < xs.length → xs.getD i d = ys.getD i d) : xs = ys :=
  List.ext_getElem hl fun i h1 h2 => by rw [← getD_at (d := d) h1, ← getD_at (d := d) h2]; exact h i h1
theorem sum_cons (q : Rat) (qs : List Rat) : sumQ (q :: qs) = q + sumQ qs := rfl
theorem sum_zero {α : Type} (l : List α) : sumQ (l.map fun _ => (0 : Rat)) = 0 := by
  induction l with
  | nil => rfl
  | cons x l ih => rw [List.map_cons, sum_cons, ih, Rat.add_zero]
theorem sum_add {α : Type} (f g : α → Rat) (l : List α) : sumQ (l.map fun x => f x + g x) = sumQ (l.map f) + sumQ (l.map g) := by
  induction l with
  | nil => exact (Rat.add_zero 0).symm
  | cons x l ih =>
    rw [List.map_cons, List.map_cons, List.map_cons, sum_cons, sum_cons, sum_cons, ih]
    grind
theorem sum_mul {α : Type} (c : Rat) (f : α → Rat) (l : List α) : sumQ (l.map fun x => c * f x) = c * sumQ (l.map f) := by
  induction l with
  | nil => exact (Rat.mul_zero c).symm
  | cons x l ih =>
    rw [List.map_cons, List.map_cons, sum_cons, sum_cons, ih, Rat.mul_add]
theorem sum_swap {α β : Type} (F : α → β → Rat) (l : List α) (m : List β) : sumQ (l.map fun x => sumQ (m.map fun y => F x y)) = sumQ (m.map fun y => sumQ (l.map fun x => F x y)) := by
  induction l with
  | nil =>
    show (0 : Rat) = sumQ (m.map fun _ => (0 : Rat))
    rw [sum_zero]
  | cons x l ih =>
    rw [List.map_cons, sum_cons, ih, ← sum_add]
    rfl
theorem map_range {xs : List Rat} {n : Nat} (h : xs.length = n) : (List.range n).map (fun j => xs.getD j 0) = xs := by
  refine List.ext_getElem (by rw [List.length_map, List.length_range, h]) fun j h1 h2 => ?_
  rw [List.getElem_map, List.getElem_range, getD_at h2]
theorem mean_range {xs : List Rat} {n : Nat} (f : Nat → Rat) (h : xs.length = n) : meanQ ((List.range n).map f) xs = sumQ ((List.range n).map fun j => f j * xs.getD j 0) := by
  unfold meanQ
  congr 1
  refine List.ext_getElem (by simp [h]) fun j h1 h2 => ?_
  rw [List.getElem_map, List.getElem_zip, List.getElem_map, List.getElem_range, List.getElem_map, List.getElem_range, getD_at (by simp at h1; omega)]
theorem mean_sum {lot xs : List Rat} {n : Nat} (h1 : lot.length = n) (h2 : xs.length = n) : meanQ lot xs = sumQ ((List.range n).map fun j => lot.getD j 0 * xs.getD j 0) := by
  have := mean_range (fun j => lot.getD j 0) h2
  rwa [map_range h1] at this
section
variable {n : Nat} {ch : List (List (List Rat))} {xs ys : List Rat}
structure Row (n : Nat) (ch : List (List (List Rat))) (row : List Nat) : Prop where
  len : row.length = n
  lt : ∀ i, i < n → row.getD i 0 < (ch.getD i []).length
def pickQ (ch : List (List (List Rat))) (row : List Nat) : List (List Rat) := (ch.zip row).map fun p => p.1.getD p.2 []
def pullQ (ch : List (List (List Rat))) (row : List Nat) (xs : List Rat) : List Rat := (pickQ ch row).map fun lot => meanQ lot xs
def pushQ (n : Nat) (ch : List (List (List Rat))) (row : List Nat) (sh : List Rat) : List Rat := (List.range n).map fun late => sumQ ((sh.zip (pickQ ch row)).map fun p => p.1 * p.2.getD late 0)
theorem len_pick (h : Chain n ch) {row : List Nat} (hr : Row n ch row) : (pickQ ch row).length = n := by
  unfold pickQ
  rw [List.length_map, List.length_zip, h.len, hr.len, Nat.min_self]
theorem pick_at (h : Chain n ch) {row : List Nat} (hr : Row n ch row) {i : Nat} (hi : i < n) : (pickQ ch row).getD i [] = (ch.getD i []).getD (row.getD i 0) [] := by
  have h1 : i < ch.length := by rw [h.len]; exact hi
  have h2 : i < row.length := by rw [hr.len]; exact hi
  unfold pickQ
  rw [getD_map (by rw [List.length_zip]; omega), List.getElem_zip, getD_at h1, getD_at h2]
theorem pick_mem (h : Chain n ch) {row : List Nat} (hr : Row n ch row) {i : Nat} (hi : i < n) : (pickQ ch row).getD i [] ∈ ch.getD i [] := by
  rw [pick_at h hr hi, getD_at (hr.lt i hi)]
  exact List.getElem_mem _
theorem pick_lot (h : Chain n ch) {row : List Nat} (hr : Row n ch row) : ∀ lot ∈ pickQ ch row, Lot n lot := fun lot hl => by
  obtain ⟨i, hi, rfl⟩ := List.mem_iff_getElem.mp hl
  have hi' : i < n := by rwa [len_pick h hr] at hi
  have := (h.at hi').2 _ (pick_mem h hr hi')
  rwa [getD_at hi] at this
theorem len_pull (h : Chain n ch) {row : List Nat} (hr : Row n ch row) : (pullQ ch row xs).length = n := by
  unfold pullQ
  rw [List.length_map, len_pick h hr]
theorem pull_at (h : Chain n ch) {row : List Nat} (hr : Row n ch row) {i : Nat} (hi : i < n) : (pullQ ch row xs).getD i 0 = meanQ ((pickQ ch row).getD i []) xs := by
  unfold pullQ
  rw [getD_map (by rw [len_pick h hr]; exact hi), getD_at (by rw [len_pick h hr]; exact hi)]
theorem back_pull (h : Chain n ch) {row : List Nat} (hr : Row n ch row) (hx : xs.length = n) (hy : ys.length = n) (hl : ∀ j, j < n → xs.getD j 0 ≤ ys.getD j 0) {i : Nat} (hi : i < n) : (backQ ch xs).getD i 0 ≤ (pullQ ch row ys).getD i 0 := by
  rw [back_at h hi, pull_at h hr hi]
  have hm := pick_mem h hr hi
  have hL := (h.at hi).2 _ hm
  exact Rat.le_trans (minL_le (List.mem_map.mpr ⟨_, hm, rfl⟩)) (mean_mono (by rw [hx, hL.len]) (by rw [hy, hL.len]) hL.nn fun j hj => hl j (by rw [hL.len] at hj; exact hj))
theorem pull_up (h : Chain n ch) {row : List Nat} (hr : Row n ch row) (hx : xs.length = n) (hy : ys.length = n) (hl : ∀ j, j < n → xs.getD j 0 ≤ ys.getD j 0) {i : Nat} (hi : i < n) : (pullQ ch row xs).getD i 0 ≤ (upQ ch ys).getD i 0 := by
  rw [up_at h hi, pull_at h hr hi]
  have hm := pick_mem h hr hi
  have hL := (h.at hi).2 _ hm
  exact Rat.le_trans (mean_mono (by rw [hx, hL.len]) (by rw [hy, hL.len]) hL.nn fun j hj => hl j (by rw [hL.len] at hj; exact hj)) (le_maxL (List.mem_map.mpr ⟨_, hm, rfl⟩))
/-- means behind choices -/
def meansB (ch : List (List (List Rat))) (w : List Rat) : List (List Nat) → List Rat
  | [] => w
  | row :: rows => pullQ ch row (meansB ch w rows)
theorem len_meansB (h : Chain n ch) {w : List Rat} (hw : w.length = n) : ∀ {rows : List (List Nat)}, (∀ row ∈ rows, Row n ch row) → (meansB ch w rows).length = n
  | [], _ => hw
  | row :: rows, hr => len_pull h (hr row List.mem_cons_self)
theorem back_means (h : Chain n ch) {w : List Rat} (hw : w.length = n) : ∀ {rows : List (List Nat)}, (∀ row ∈ rows, Row n ch row) → ∀ j, j < n → (ledQ false ch w rows.length).getD j 0 ≤ (meansB ch w rows).getD j 0
  | [], _, j, _ => Rat.le_refl
  | row :: rows, hr, j, hj => back_pull h (hr row List.mem_cons_self) (len_led h hw _) (len_meansB h hw fun r hm => hr r (List.mem_cons_of_mem _ hm)) (back_means h hw fun r hm => hr r (List.mem_cons_of_mem _ hm)) hj
theorem means_up (h : Chain n ch) {w : List Rat} (hw : w.length = n) : ∀ {rows : List (List Nat)}, (∀ row ∈ rows, Row n ch row) → ∀ j, j < n → (meansB ch w rows).getD j 0 ≤ (ledQ true ch w rows.length).getD j 0
  | [], _, j, _ => Rat.le_refl
  | row :: rows, hr, j, hj => pull_up h (hr row List.mem_cons_self) (len_meansB h hw fun r hm => hr r (List.mem_cons_of_mem _ hm)) (len_led h hw _) (means_up h hw fun r hm => hr r (List.mem_cons_of_mem _ hm)) hj
/-- who pushes a lot on, pulls a wish back -/
theorem adjoint (h : Chain n ch) {row : List Nat} (hr : Row n ch row) {sh : List Rat} (hs : sh.length = n) (hx : xs.length = n) : meanQ (pushQ n ch row sh) xs = meanQ sh (pullQ ch row xs) := by
  have hp := pick_lot h hr
  have hz : ∀ p ∈ sh.zip (pickQ ch row), p.2.length = n := fun p hm => (hp _ (List.of_mem_zip hm).2).len
  unfold pushQ
  rw [mean_range _ hx]
  have e1 : sumQ ((List.range n).map fun j => sumQ ((sh.zip (pickQ ch row)).map fun p => p.1 * p.2.getD j 0) * xs.getD j 0) = sumQ ((List.range n).map fun j => sumQ ((sh.zip (pickQ ch row)).map fun p => p.1 * (p.2.getD j 0 * xs.getD j 0))) := by
    congr 1
    refine List.map_congr_left fun j _ => ?_
    rw [Rat.mul_comm, ← sum_mul]
    congr 1
    refine List.map_congr_left fun p _ => ?_
    grind
  rw [e1, sum_swap]
  unfold meanQ pullQ
  rw [List.zip_map_right, List.map_map]
  congr 1
  refine List.map_congr_left fun p hm => ?_
  rw [sum_mul, ← mean_sum (hz p hm) hx]
  rfl
theorem len_push {row : List Nat} {sh : List Rat} : (pushQ n ch row sh).length = n := by
  unfold pushQ
  rw [List.length_map, List.length_range]
/-- the lot behind choices -/
def behindB (n : Nat) (ch : List (List (List Rat))) : List (List Nat) → List Rat → List Rat
  | [], sh => sh
  | row :: rows, sh => behindB n ch rows (pushQ n ch row sh)
theorem behind_means (h : Chain n ch) {w : List Rat} (hw : w.length = n) : ∀ {rows : List (List Nat)} {sh : List Rat}, (∀ row ∈ rows, Row n ch row) → sh.length = n → meanQ (behindB n ch rows sh) w = meanQ sh (meansB ch w rows)
  | [], _, _, _ => rfl
  | row :: rows, sh, hr, hs => by
    show meanQ (behindB n ch rows (pushQ n ch row sh)) w = meanQ sh (pullQ ch row (meansB ch w rows))
    have hr' : ∀ r ∈ rows, Row n ch r := fun r hm => hr r (List.mem_cons_of_mem _ hm)
    rw [behind_means h hw hr' len_push, adjoint h (hr row List.mem_cons_self) hs (len_meansB h hw hr')]
def unitQ (n s : Nat) : List Rat := (List.range n).map fun j => if j = s then 1 else 0
theorem sum_unit {f : Nat → Rat} : ∀ {n s : Nat}, s < n → sumQ ((List.range n).map fun j => (if j = s then 1 else 0) * f j) = f s := by
  intro n
  induction n with
  | zero => intro s h; exact absurd h (Nat.not_lt_zero s)
  | succ n ih =>
    intro s h
    rw [List.range_succ, List.map_append, sumQ_append, List.map_singleton, sum_cons]
    show _ + (_ + (0 : Rat)) = _
    rw [Rat.add_zero]
    by_cases c : n = s
    · subst c
      have : (List.range n).map (fun j => (if j = n then (1 : Rat) else 0) * f j) = (List.range n).map fun _ => (0 : Rat) := List.map_congr_left fun j hj => by
        have := List.mem_range.mp hj
        rw [if_neg (by omega), Rat.zero_mul]
      rw [this, sum_zero, if_pos rfl, Rat.one_mul, Rat.zero_add]
    · rw [ih (by omega), if_neg c, Rat.zero_mul, Rat.add_zero]
theorem mean_unit {s : Nat} (hs : s < n) (hx : xs.length = n) : meanQ (unitQ n s) xs = xs.getD s 0 := by
  unfold unitQ
  rw [mean_range _ hx, sum_unit hs]
/-! the first least ones -/
def idxQ (qs : List Rat) (v : Rat) : Nat := qs.findIdx fun q => decide (q = v)
theorem idx_lt {qs : List Rat} {v : Rat} (h : v ∈ qs) : idxQ qs v < qs.length := List.findIdx_lt_length_of_exists ⟨v, h, decide_eq_true rfl⟩
theorem idx_at {qs : List Rat} {v : Rat} (h : v ∈ qs) : qs.getD (idxQ qs v) 0 = v := by
  rw [getD_at (idx_lt h)]
  exact of_decide_eq_true (List.findIdx_getElem (w := idx_lt h))
def toldRow (ch : List (List (List Rat))) (xs : List Rat) : List Nat := ch.map fun lots => idxQ (meansQ lots xs) (minL (meansQ lots xs))
theorem told_row (h : Chain n ch) : Row n ch (toldRow ch xs) := by
  refine ⟨by unfold toldRow; rw [List.length_map, h.len], fun i hi => ?_⟩
  have h1 : i < ch.length := by rw [h.len]; exact hi
  unfold toldRow
  rw [getD_map h1, getD_at h1]
  have := idx_lt (minL_mem (h.means_ne (xs := xs) (List.getElem_mem h1)))
  unfold meansQ at this
  rwa [List.length_map] at this
theorem told_pull (h : Chain n ch) : pullQ ch (toldRow ch xs) xs = backQ ch xs := by
  have hr := told_row (xs := xs) h
  refine ext_getD' (d := 0) (by rw [len_pull h hr, len_back, h.len]) fun i hi => ?_
  have hi : i < n := by rwa [len_pull h hr] at hi
  have h1 : i < ch.length := by rw [h.len]; exact hi
  rw [pull_at h hr hi, pick_at h hr hi, back_at h hi]
  have hm := minL_mem (h.means_ne (xs := xs) (List.getElem_mem h1))
  have e1 : (toldRow ch xs).getD i 0 = idxQ (meansQ ch[i] xs) (minL (meansQ ch[i] xs)) := by
    unfold toldRow
    rw [getD_map h1]
  have e2 := idx_at hm
  have e3 := idx_lt hm
  rw [e1, getD_at h1]
  unfold meansQ at e2 e3 ⊢
  rw [List.length_map] at e3
  rw [getD_map e3] at e2
  rw [getD_at e3]
  exact e2
def toldQ (ch : List (List (List Rat))) (w : List Rat) : Nat → List (List Nat)
  | 0 => []
  | k + 1 => toldRow ch (ledQ false ch w k) :: toldQ ch w k
theorem told_rows (h : Chain n ch) {w : List Rat} : ∀ k, ∀ row ∈ toldQ ch w k, Row n ch row
  | k + 1, row, hr => by
    rcases List.mem_cons.mp hr with z | z
    · rw [z]
      exact told_row h
    · exact told_rows h k row z
theorem told_len {w : List Rat} : ∀ k, (toldQ ch w k).length = k
  | 0 => rfl
  | k + 1 => by
    show (toldQ ch w k).length + 1 = k + 1
    rw [told_len k]
theorem told_means (h : Chain n ch) {w : List Rat} : ∀ k, meansB ch w (toldQ ch w k) = ledQ false ch w k
  | 0 => rfl
  | k + 1 => by
    show pullQ ch _ (meansB ch w (toldQ ch w k)) = backQ ch (ledQ false ch w k)
    rw [told_means h k, told_pull h]
end

end Dv

namespace Dv
open PySem L2
local macro_rules | `(tactic| walk_at "ev") => `(tactic| simp only [ev_some, ev_none, ev_eC, ev_eV0, ev_eVs, ev_bV0, ev_bO0, ev_bVs, ev_e1, ev_e2, ev_eN, ev_oN, ev_o2, ev_nil, ev_cons, ev_eL, ev_eTup, ev_tV, ev_tAnd, ev_tOr, ev_tNot, ev_tYes, ev_eIf, ev_eNot, ev_eAnd, ev_eOr, ev_eChain, ev_pN, ev_pS, ev_eSl, ev_oSl, ev_iS, ev_iZ, ev_iR1, ev_iR2, ev_oLc, ev_iEn, ev_iEz, ev_iZ3, ev_eIfT, ev_eRv, ev_mulT, ev_mulS, ev_isN, ev_isnN, ev_repO, ev_sExtE, ev_eTr,
  ev_eNew, ev_eR0, ev_eReg0, ev_gReg0, ev_ixN0, ev_ixN1, ev_sAppE, ev_sPutE, Option.some.injEq, SV.own.injEq, SV.val.injEq, List.getElem?_cons_zero, List.getElem?_cons_succ, ev_sNx, ev_sBk, ev_sCt, ev_sNo, nxt_nx, nxt_rt, nxt_bk, nxt_ct, ev_sSeq, ev_sIf, ev_sSet, ev_sOwn, ev_sDrop, ev_sRet, ev_sFrz, ev_sBind, ev_sPar, ev_sFor, ev_gN, ev_gT, ev_gNil, ev_gCons, trn_nx, trn_ct, trn_bk, trn_rt, ev_sWhile, out_rt, out_nx, outr_rt, outr_nx, ev_at0, ev_at1, ev_at2,
  ev_addI, ev_subI, ev_mulI, ev_divI, ev_modI, ev_negI, ev_I2, ev_absI, ev_intI, ev_intB, ev_lenL, ev_lenT, ev_ixL, ev_ixT, ev_addL, ev_addT, ev_catL, ev_eqI, ev_neI, ev_eqS, ev_neS, ev_eqL, ev_neL, ev_eqT, ev_neT, ev_inL, ev_inT, ev_ninL, ev_ninT, ev_isi, ev_itL, ev_itT, ev_tupL, ev_tupT, ev_listL, ev_listT, ev_max, ev_min, ev_divmod, ev_repr, ev_sorted,
  List.set_cons_zero, List.set_cons_succ, List.map_cons, List.map_nil, wipeE, frz1, PyData.bool.injEq, PyData.int.injEq, exists_eq_left', exists_eq_left, decide_eq_true_eq, Bool.not_eq_true', decide_eq_false_iff_not, ite_true, ite_false, Bool.true_eq_false, Bool.false_eq_true, Bool.not_true, Bool.not_false, true_and, and_true, if_true, if_false])
/-! ### wishes, led back and up -/
def wQ (w : List Int) : List Rat := w.map fun (x : Int) => (x : Rat)
structure Wish (n : Nat) (w : List Int) : Prop where
  len : w.length = n
  lo : ∀ x ∈ w, -99 ≤ x
  hi : ∀ x ∈ w, x ≤ 99
theorem Wish.gd {n : Nat} {w : List Int} (h : Wish n w) : ∀ x ∈ wQ w, Gd 0 x := fun x hx => by
  obtain ⟨y, hy, rfl⟩ := List.mem_map.mp hx
  have := h.lo y hy
  have := h.hi y hy
  exact gd_int (by omega)
theorem wQ_len (w : List Int) : (wQ w).length = w.length := List.length_map ..
theorem whole_dat (w : List Int) : (w.map fun (x : Int) => PyData.tuple [.int x, .int 1]) = (wQ w).map fr := by
  unfold wQ
  rw [List.map_map]
  rfl
theorem inB_int {a b x : Int} (h1 : a ≤ x) (h2 : x ≤ b) : inB a b (.int x) = true := by
  show (decide (a ≤ x) && decide (x ≤ b)) = true
  rw [decide_eq_true h1, decide_eq_true h2]
  rfl
theorem wish_ev {p : List PyData} {n : Nat} (hp : Pot p) (h0 : 0 < n) (h4 : n ≤ 4) : Ev (f__law_chain_wish p [.int n]) fun r => (∃ w, Wish n w ∧ r.1 = .list (w.map .int)) ∧ Pot r.2 := by
  unfold f__law_chain_wish
  rw [ev_fnR]
  show Ev (m__law_chain_wish  _ [.reg, .val _, .no, .no]) _
  unfold m__law_chain_wish
  walk_at "ev"
  refine (pick_ev hp (by simp) (by decide)).imp fun r ⟨hm, hr⟩ => ?_
  obtain ⟨z, hz, z0, z1⟩ : ∃ z : Int, r.1 = .int z ∧ 1 ≤ z ∧ z ≤ 99 := by
    simp only [List.mem_cons, List.not_mem_nil, or_false] at hm
    rcases hm with e | e | e
    · exact ⟨1, e, by decide, by decide⟩
    · exact ⟨4, e, by decide, by decide⟩
    · exact ⟨99, e, by decide, by decide⟩
  rw [hz]
  refine ⟨big_nat (by omega), by rw [range_len]; omega, ?_⟩
  refine lc_inv Pot (fun _ y => ∃ t : Int, (-99 ≤ t ∧ t ≤ 99) ∧ y = .int t) (fun d _ s hs => ?_) hr fun rs s' hE hs' => ?_
  · walk_at "ev"
    refine ⟨mulOk_of (n := 10) (m := 10) (by decide) (by omega) (by decide), ?_⟩
    refine (draw_ev hs (by omega) (by omega)).imp fun r ⟨x, e, x0, x1, hr⟩ => ?_
    rw [e]
    walk_at "ev"
    exact ⟨⟨x - z, ⟨by omega, by omega⟩, rfl⟩, hr⟩
  obtain ⟨ts, rfl, htl, ht⟩ := each_src hE
  rw [range_len] at htl
  exact ⟨⟨ts, ⟨htl, fun t h => (ht t h).1, fun t h => (ht t h).2⟩, rfl⟩, hs'⟩
theorem checkwish_eq {n : Nat} {w : List Int} {d : PyData} (h : Wish n w) (h4 : n ≤ 4) (hd : d = .list (w.map .int) ∨ d = .tuple (w.map .int)) : f_check_wish [.int n, d] = some .none := by
  have hl := h.len
  have key : ∀ x ∈ w, inB (-99) 99 (.int x) = true := fun x hx => inB_int (h.lo x hx) (h.hi x hx)
  have his : f_is_wish_of [.int n, d] = some (.bool true) := by
    rw [← ev_eq]
    unfold f_is_wish_of
    rw [ev_fnP]
    show Ev (m_is_wish_of () [.val _, .val _, .no]) _
    unfold m_is_wish_of
    walk_at "ev"
    have hok : ∀ x ∈ w, tyOk (.int x) = true := fun x hx => ok_tyOk (n := 0) (ok_int (by have := h.lo x hx; have := h.hi x hx; omega))
    have ht : tyOk d = true ∧ lstB d = true ∧ items d = some (w.map .int) ∧ dLen [d] = some (.int n) := by
      rcases hd with rfl | rfl
      · exact ⟨rfl, rfl, rfl, by show some (PyData.int _) = _; rw [List.length_map, hl]⟩
      · exact ⟨rfl, rfl, rfl, by show some (PyData.int _) = _; rw [List.length_map, hl]⟩
    obtain ⟨t1, t2, t3, t4⟩ := ht
    rw [islist_eq d t1, ev_some, t2, t4, t3]
    walk_at "ev"
    rw [if_neg (fun z => z trivial)]
    refine ⟨by rw [List.length_map]; omega, lc_src PyData.int (fun _ => .bool true) (fun x hx => ?_) ?_⟩
    · walk_at "ev"
      rw [show (0 : Int) - 99 = -99 from rfl, within_gen _ _ _ (hok x hx), key x hx, ev_some]
    · rw [all_boolsS (β := fun _ => true)]
      simp
  rw [← ev_eq]
  unfold f_check_wish
  rw [ev_fnP]
  show Ev (m_check_wish () [.val _, .val _]) _
  unfold m_check_wish
  walk_at "ev"
  rw [his]
  walk_at "ev"
theorem whole_eq {w : List Int} {d : PyData} (hl : w.length ≤ 100) (hd : items d = some (w.map .int)) : f_whole [d] = some (.list ((wQ w).map fr)) := by
  rw [← ev_eq]
  unfold f_whole
  rw [ev_fnP]
  show Ev (m_whole () [.val _, .no]) _
  unfold m_whole
  walk_at "ev"
  rw [hd]
  walk_at "ev"
  refine ⟨by rw [List.length_map]; omega, lc_src PyData.int (fun x => PyData.tuple [.int x, .int 1]) (fun x hx => ?_) ?_⟩
  · walk_at "ev"
  · rw [whole_dat]
theorem fnO_of {n : Nat} {mo : M Unit (List PyData)} {ds zs : List PyData} (h : fnP n (sRet (eL mo)) ds = some (.list zs)) : fnO n sNx mo ds = some zs := by
  have h1 : Ev (fnP n (sRet (eL mo)) ds) fun y => y = .list zs := ev_eq.mpr h
  rw [ev_fnP, ev_sRet, ev_eL] at h1
  rw [← ev_eq, ev_fnO, ev_sNx]
  rw [nxt_nx]
  exact h1.imp fun p hp => by
    have : PyData.list p.1 = .list zs := hp
    injection this
theorem ev_fnT {n i : Nat} {u : SM Unit} {mo : M Unit (List PyData)} {ds eb : List PyData} {Q : List PyData → Prop} (h : ds[i]? = some (.list eb)) : Ev (fnT n i u mo ds) Q ↔ Ev (u () ((env0 n ds).set i (.own eb))) (Nxt (fun s env => Ev (mo s env) fun p => Q p.1) fun _ => False) := by
  unfold fnT
  rw [h]
  simp only
  cases u () ((env0 n ds).set i (.own eb)) with
  | none => exact ⟨fun h => (ev_none.mp h).elim, fun h => (ev_none.mp h).elim⟩
  | some p =>
    obtain ⟨f, u, e⟩ := p
    rw [ev_some]
    cases f with
    | nx =>
      show Ev (Option.map _ _) _ ↔ _
      rw [ev_map]
      exact Iff.rfl
    | rt d => exact ⟨fun h => (ev_none.mp h).elim, fun h => h.elim⟩
    | bk => exact ⟨fun h => (ev_none.mp h).elim, fun h => h.elim⟩
    | ct => exact ⟨fun h => (ev_none.mp h).elim, fun h => h.elim⟩
theorem owhole_eq {w : List Int} {d : PyData} (hl : w.length ≤ 100) (hd : items d = some (w.map .int)) : fo_whole [d] = some ((wQ w).map fr) := fnO_of (whole_eq hl hd)
theorem oback_eq {n N : Nat} {ch : List (List (List Rat))} {xs : List Rat} {d : PyData} (h : Chain n ch) (hd : items d = some (xs.map fr)) (hx : Fit N ch xs) (hk : N ≤ 4400) : fo_back_by_one [chD ch, d] = some ((backQ ch xs).map fr) := fnO_of (back_eq h hd hx hk)
theorem obackby_eq {n k : Nat} {ch : List (List (List Rat))} {xs : List Rat} (h : Chain n ch) (hx : ∀ x ∈ xs, Gd 0 x) (hk : k ≤ 40) : fo_back_by [chD ch, .list (xs.map fr), .int (k : Nat)] = some ((ledQ false ch xs k).map fr) := by
  rw [← ev_eq]
  unfold fo_back_by
  rw [ev_fnT (eb := xs.map fr) rfl]
  show Ev (u_back_by () [.val (chD ch), .own (xs.map fr), .val (.int (k : Nat)), .no, .no]) _
  unfold u_back_by
  rw [ev_sSeq]
  show Ev (some (_ : Fl × Unit × En)) _
  rw [ev_some, nxt_nx]
  show Ev (sSeq _ _ () [.val (chD ch), .no, .val (.int (k : Nat)), .own (xs.map fr), .no]) _
  walk_at "ev"
  refine ⟨big_nat (by omega), for_range k (fun j _ env => ∃ z4, env = [.val (chD ch), .no, .val (.int (k : Nat)), .own ((ledQ false ch xs j).map fr), z4]) (fun j hj s env ⟨z4, hz⟩ => ?_) (fun s env ⟨z4, hz⟩ => ?_) ⟨_, rfl⟩⟩
  · subst hz
    walk_at "ev"
    rw [ev_sFzE rfl]
    walk_at "ev"
    rw [oback_eq h (xs := ledQ false ch xs j) rfl (h.fit (gd_led h hx j)) (by omega)]
    walk_at "ev"
    exact ⟨_, rfl⟩
  · subst hz
    walk_at "ev"
    show Ev (some (_ : List PyData × Unit)) _
    rw [ev_some]
theorem oledback_eq {n k : Nat} {ch : List (List (List Rat))} {w : List Int} {d : PyData} (h : Chain n ch) (hw : Wish n w) (hd : d = .list (w.map .int) ∨ d = .tuple (w.map .int)) (hk : k ≤ 8) : fo_led_back [chD ch, d, .int (k : Nat)] = some ((ledQ false ch (wQ w) k).map fr) := by
  have h4 := h.n4
  have hl := hw.len
  have hit : items d = some (w.map .int) := by rcases hd with rfl | rfl <;> rfl
  rw [← ev_eq]
  unfold fo_led_back
  rw [ev_fnO]
  show Ev (u_led_back () [.val (chD ch), .val d, .val (.int (k : Nat))]) _
  unfold u_led_back
  walk_at "ev"
  rw [checkchain_eq h, ev_some, len_chD h, ev_some, checkwish_eq hw h4 hd, ev_some, checksteps_eq (by omega) (by omega), ev_some]
  unfold o_led_back oT
  simp only [ev_bind, ev_map]
  walk_at "ev"
  rw [owhole_eq (by omega) hit, ev_some]
  rw [obackby_eq h hw.gd (by omega), ev_some]
theorem ledback_eq {n k : Nat} {ch : List (List (List Rat))} {w : List Int} {d : PyData} (h : Chain n ch) (hw : Wish n w) (hd : d = .list (w.map .int) ∨ d = .tuple (w.map .int)) (hk : k ≤ 8) : f_led_back [chD ch, d, .int (k : Nat)] = some (.list ((ledQ false ch (wQ w) k).map fr)) := by
  unfold f_led_back
  rw [oledback_eq h hw hd hk]
  rfl
theorem ledup_eq {n k : Nat} {ch : List (List (List Rat))} {w : List Int} {d : PyData} (h : Chain n ch) (hw : Wish n w) (hd : d = .list (w.map .int) ∨ d = .tuple (w.map .int)) (hk : k ≤ 8) : f_led_up [chD ch, d, .int (k : Nat)] = some (.list ((ledQ true ch (wQ w) k).map fr)) := by
  have h4 := h.n4
  have hl := hw.len
  have hit : items d = some (w.map .int) := by rcases hd with rfl | rfl <;> rfl
  rw [← ev_eq]
  unfold f_led_up
  rw [ev_fnP]
  show Ev (m_led_up () [.val _, .val _, .val _, .no, .no]) _
  unfold m_led_up
  walk_at "ev"
  rw [checkchain_eq h, ev_some, len_chD h, ev_some, checkwish_eq hw h4 hd, ev_some, checksteps_eq (by omega) (by omega), ev_some, whole_eq (by omega) hit, ev_some]
  refine ⟨big_nat (by omega), for_range k (fun j _ env => ∃ z4, env = [.val (chD ch), .val d, .val (.int (k : Nat)), .val (.list ((ledQ true ch (wQ w) j).map fr)), z4]) (fun j hj s env ⟨z4, hz⟩ => ?_) (fun s env ⟨z4, hz⟩ => ?_) ⟨_, rfl⟩⟩
  · subst hz
    walk_at "ev"
    rw [up_eq h (xs := ledQ true ch (wQ w) j) rfl (h.fit (gd_led h hw.gd j)) (by omega)]
    walk_at "ev"
    exact ⟨_, rfl⟩
  · subst hz
    walk_at "ev"
theorem lled_eq {n k : Nat} {ch : List (List (List Rat))} {xs : List Rat} {up : Bool} (h : Chain n ch) (hx : ∀ x ∈ xs, Gd 0 x) (hk : k ≤ 40) : f__law_led [chD ch, .list (xs.map fr), .int (k : Nat), .bool up] = some (.list ((ledQ up ch xs k).map fr)) := by
  rw [← ev_eq]
  unfold f__law_led
  rw [ev_fnP]
  show Ev (m__law_led () [.val _, .val _, .val _, .val _, .no]) _
  unfold m__law_led
  walk_at "ev"
  refine ⟨big_nat (by omega), for_range k (fun j _ env => ∃ z4, env = [.val (chD ch), .val (.list ((ledQ up ch xs j).map fr)), .val (.int (k : Nat)), .val (.bool up), z4]) (fun j hj s env ⟨z4, hz⟩ => ?_) (fun s env ⟨z4, hz⟩ => ?_) ⟨_, rfl⟩⟩
  · subst hz
    walk_at "ev"
    rw [lstep_eq h (xs := ledQ up ch xs j) rfl (h.fit (gd_led h hx j)) (by omega)]
    walk_at "ev"
    exact ⟨_, rfl⟩
  · subst hz
    walk_at "ev"

end Dv

namespace Dv
open PySem L2
local macro_rules | `(tactic| walk_at "ev") => `(tactic| simp only [ev_some, ev_none, ev_eC, ev_eV0, ev_eVs, ev_bV0, ev_bO0, ev_bVs, ev_e1, ev_e2, ev_eN, ev_oN, ev_o2, ev_nil, ev_cons, ev_eL, ev_eTup, ev_tV, ev_tAnd, ev_tOr, ev_tNot, ev_tYes, ev_eIf, ev_eNot, ev_eAnd, ev_eOr, ev_eChain, ev_pN, ev_pS, ev_eSl, ev_oSl, ev_iS, ev_iZ, ev_iR1, ev_iR2, ev_oLc, ev_iEn, ev_iEz, ev_iZ3, ev_eIfT, ev_eRv, ev_mulT, ev_mulS, ev_isN, ev_isnN, ev_repO, ev_sExtE, ev_eTr,
  ev_eNew, ev_eR0, ev_eReg0, ev_gReg0, ev_ixN0, ev_ixN1, ev_sAppE, ev_sPutE, Option.some.injEq, SV.own.injEq, SV.val.injEq, List.getElem?_cons_zero, List.getElem?_cons_succ, ev_sNx, ev_sBk, ev_sCt, ev_sNo, nxt_nx, nxt_rt, nxt_bk, nxt_ct, ev_sSeq, ev_sIf, ev_sSet, ev_sOwn, ev_sDrop, ev_sRet, ev_sFrz, ev_sBind, ev_sPar, ev_sFor, ev_gN, ev_gT, ev_gNil, ev_gCons, trn_nx, trn_ct, trn_bk, trn_rt, ev_sWhile, out_rt, out_nx, outr_rt, outr_nx, ev_at0, ev_at1, ev_at2,
  ev_addI, ev_subI, ev_mulI, ev_divI, ev_modI, ev_negI, ev_I2, ev_absI, ev_intI, ev_intB, ev_lenL, ev_lenT, ev_ixL, ev_ixT, ev_addL, ev_addT, ev_catL, ev_eqI, ev_neI, ev_eqS, ev_neS, ev_eqL, ev_neL, ev_eqT, ev_neT, ev_inL, ev_inT, ev_ninL, ev_ninT, ev_isi, ev_itL, ev_itT, ev_tupL, ev_tupT, ev_listL, ev_listT, ev_max, ev_min, ev_divmod, ev_repr, ev_sorted,
  List.set_cons_zero, List.set_cons_succ, List.map_cons, List.map_nil, wipeE, frz1, PyData.bool.injEq, PyData.int.injEq, exists_eq_left', exists_eq_left, decide_eq_true_eq, Bool.not_eq_true', decide_eq_false_iff_not, ite_true, ite_false, Bool.true_eq_false, Bool.false_eq_true, Bool.not_true, Bool.not_false, true_and, and_true, if_true, if_false])
/-! ### told choices -/
theorem eqv_fr (p q : Rat) : PyData.eqv (fr p) (fr q) = decide (p = q) := by
  rw [Bool.eq_iff_iff, eqv_nb _ _ rfl rfl, decide_eq_true_eq]
  exact ⟨fr_inj, fun h => by rw [h]⟩
theorem shaped_frs (qs : List Rat) : SeqAt.shaped (.list (qs.map fr)) = true := (dpt_frs (n := 0) qs).shaped
theorem idx_ev {qs : List Rat} {v : Rat} (h : v ∈ qs) {Q : PyData → Prop} : Ev (dIdx (.list (qs.map fr)) (fr v)) Q ↔ Q (.int (idxQ qs v : Nat)) := by
  have e : ((qs.map fr).findIdx? fun z => PyData.eqv z (fr v)) = some (idxQ qs v) := by
    rw [List.findIdx?_map]
    have : ((fun z => PyData.eqv z (fr v)) ∘ fr) = fun q => decide (q = v) := by
      funext q
      exact eqv_fr q v
    rw [this]
    unfold idxQ
    rw [List.findIdx?_eq_some_iff_findIdx_eq]
    exact ⟨idx_lt h, rfl⟩
  unfold dIdx
  simp only
  rw [e, shaped_frs]
  have : SeqAt.shaped (fr v) = true := (dpt_fr (n := 0) v).shaped
  rw [this]
  exact ev_some
theorem ev_sParO {S : Type} {s : S} {env : En} {i j : Nat} {mo : M S (List PyData)} {m : M S PyData} {QS : Fl × S × En → Prop} : Ev (sParO i j mo m s env) QS ↔ Ev (mo s env) fun p => Ev (m p.2 env) fun q => QS (.nx, q.2, (env.set i (.own p.1)).set j (.val q.1)) := by
  simp only [sParO, ev_bind, ev_map]
def rowD (row : List Nat) : PyData := .list (row.map fun (i : Nat) => .int (i : Int))
def rowsD (rows : List (List Nat)) : PyData := .list (rows.map rowD)
theorem first_eq {n N : Nat} {ch : List (List (List Rat))} {xs : List Rat} (h : Chain n ch) (hx : Fit N ch xs) (hk : N ≤ 4400) : f_first_least [chD ch, .list (xs.map fr)] = some (rowD (toldRow ch xs)) := by
  rw [← ev_eq]
  unfold f_first_least
  rw [ev_fnP]
  show Ev (m_first_least () [.val _, .val _, .no, .no, .no, .no]) _
  unfold m_first_least
  walk_at "ev"
  have h4 := h.n4
  have hi : items (chD ch) = some (ch.map lotsD) := rfl
  rw [hi, ev_some]
  refine for_idx lotsD ch (fun j _ env => ∃ z3 z4 z5, env = [.val (chD ch), .val (.list (xs.map fr)), .own (((toldRow ch xs).take j).map fun (i : Nat) => .int (i : Int)), z3, z4, z5]) (fun j hj s env ⟨z3, z4, z5, hz⟩ => ?_) (fun s env ⟨z3, z4, z5, hz⟩ => ?_) ⟨_, _, _, rfl⟩
  · subst hz
    have hL := List.getElem_mem hj
    have h3 := h.l3 _ hL
    have hjn : j < n := by rw [← h.len]; exact hj
    have htr : j < (toldRow ch xs).length := by unfold toldRow; rw [List.length_map]; exact hj
    have hta : (toldRow ch xs).take (j + 1) = (toldRow ch xs).take j ++ [idxQ (meansQ ch[j] xs) (minL (meansQ ch[j] xs))] := by
      rw [← List.take_append_getElem htr]
      congr 2
      rw [← getD_at (d := 0) htr]
      unfold toldRow
      rw [getD_map hj]
    have htl : ((toldRow ch xs).take j).length ≤ 4 := by rw [List.length_take]; omega
    rw [hta, List.map_append]
    have hne := h.means_ne (xs := xs) hL
    have hsz := hx.means hL
    have hlt := h.lot _ hL
    have hfit := hx _ hL
    generalize ch[j] = lots at h3 hne hsz hlt hfit
    walk_at "ev"
    unfold lotsD
    walk_at "ev"
    refine ⟨by rw [List.length_map]; omega, lc_src lotD (fun lot => fr (meanQ lot xs)) (fun lot hl => ?_) ?_⟩
    · walk_at "ev"
      rw [mean_eq (hlt lot hl) (by omega) rfl (hfit lot hl) hk, ev_some]
    · have e1 : lots.map (fun lot => fr (meanQ lot xs)) = (meansQ lots xs).map fr := by
        unfold meansQ
        rw [List.map_map]
        rfl
      rw [e1, least_eq hne hsz (by omega), ev_some, idx_ev (minL_mem hne)]
      exact ⟨by rw [List.length_map]; omega, _, _, _, rfl⟩
  · subst hz
    rw [List.take_of_length_le (by unfold toldRow; rw [List.length_map]; exact Nat.le_refl _)]
    walk_at "ev"
    rfl
theorem choices_eq {n k : Nat} {ch : List (List (List Rat))} {w : List Rat} (h : Chain n ch) (hw : ∀ x ∈ w, Gd 0 x) (hk : k ≤ 40) : f_choices_for [chD ch, .list (w.map fr), .int (k : Nat)] = some (rowsD (toldQ ch w k)) := by
  rw [← ev_eq]
  unfold f_choices_for
  rw [ev_fnP]
  show Ev (m_choices_for () [.val _, .val _, .val _, .no, .no, .no]) _
  unfold m_choices_for
  walk_at "ev"
  rw [ev_sParO]
  walk_at "ev"
  refine ⟨big_nat (by omega), for_range k (fun j _ env => ∃ z5, env = [.val (chD ch), .val (.list (w.map fr)), .val (.int (k : Nat)), .own ((toldQ ch w j).reverse.map rowD), .val (.list ((ledQ false ch w j).map fr)), z5]) (fun j hj s env ⟨z5, hz⟩ => ?_) (fun s env ⟨z5, hz⟩ => ?_) ⟨_, rfl⟩⟩
  · subst hz
    walk_at "ev"
    have hfit := h.fit (gd_led h (up := false) hw j)
    rw [first_eq h hfit (by omega), ev_some]
    refine ⟨by rw [List.length_map, List.length_reverse, told_len]; omega, ?_⟩
    rw [back_eq h (xs := ledQ false ch w j) rfl hfit (by omega)]
    walk_at "ev"
    refine ⟨.val (.int (j : Nat)), ?_⟩
    show _ = [_, _, _, SV.own ((toldRow ch (ledQ false ch w j) :: toldQ ch w j).reverse.map rowD), _, _]
    rw [List.reverse_cons, List.map_append]
    rfl
  · subst hz
    walk_at "ev"
    unfold rowsD
    rw [← List.map_reverse, List.reverse_reverse]
theorem toldchoices_eq {n k : Nat} {ch : List (List (List Rat))} {w : List Int} (h : Chain n ch) (hw : Wish n w) (hk : k ≤ 8) : f_told_choices [chD ch, .list (w.map .int), .int (k : Nat)] = some (rowsD (toldQ ch (wQ w) k)) := by
  have h4 := h.n4
  have hl := hw.len
  rw [← ev_eq]
  unfold f_told_choices
  rw [ev_fnP]
  show Ev (m_told_choices () [.val _, .val _, .val _]) _
  unfold m_told_choices
  walk_at "ev"
  rw [checkchain_eq h, ev_some, len_chD h, ev_some, checkwish_eq hw h4 (.inl rfl), ev_some, checksteps_eq (by omega) (by omega), ev_some, whole_eq (by omega) rfl, ev_some, choices_eq h hw.gd (by omega), ev_some]
theorem told_get {ch : List (List (List Rat))} {w : List Rat} : ∀ {k j : Nat} (hj : j < (toldQ ch w k).length), (toldQ ch w k)[j] = toldRow ch (ledQ false ch w (k - j - 1))
  | 0, j, hj => absurd hj (Nat.not_lt_zero j)
  | k + 1, 0, hj => rfl
  | k + 1, j + 1, hj => by
    show (toldQ ch w k)[j]'(by simpa [toldQ] using hj) = _
    rw [told_get]
    congr 2
    omega
theorem ltold_eq {n k : Nat} {ch : List (List (List Rat))} {w : List Int} (h : Chain n ch) (hw : Wish n w) (hk : k ≤ 8) : f__law_told [chD ch, .list (w.map .int), .int (k : Nat)] = some (rowsD (toldQ ch (wQ w) k)) := by
  have h4 := h.n4
  have hwl := hw.len
  have hi : items (chD ch) = some (ch.map lotsD) := rfl
  rw [← ev_eq]
  unfold f__law_told
  rw [ev_fnP]
  show Ev (m__law_told () [.val _, .val _, .val _, .no, .no, .no, .no, .no, .no, .no, .no, .no]) _
  unfold m__law_told
  walk_at "ev"
  refine ⟨big_nat (by omega), for_range k (fun j _ env => ∃ z4 z5 z6 z7 z8 z9 z10, env = [.val (chD ch), .val (.list (w.map .int)), .val (.int (k : Nat)), .own (((toldQ ch (wQ w) k).take j).map rowD), z4, z5, z6, z7, z8, z9, z10, .no]) (fun j hj s env ⟨z4, z5, z6, z7, z8, z9, z10, hz⟩ => ?_) (fun s env ⟨z4, z5, z6, z7, z8, z9, z10, hz⟩ => ?_) ⟨_, _, _, _, _, _, _, rfl⟩⟩
  · subst hz
    walk_at "ev"
    refine ⟨by rw [List.length_map]; omega, lc_src PyData.int (fun x => PyData.tuple [.int x, .int 1]) (fun x hx => ?_) ?_⟩
    · walk_at "ev"
    rw [whole_dat, show (k : Int) - (j : Nat) - 1 = ((k - j - 1 : Nat) : Int) by omega, lled_eq h hw.gd (by omega), ev_some, hi, ev_some]
    have hg := gd_led h (up := false) hw.gd (k - j - 1)
    have hfit := h.fit hg
    have htk : (toldQ ch (wQ w) k).take (j + 1) = (toldQ ch (wQ w) k).take j ++ [toldRow ch (ledQ false ch (wQ w) (k - j - 1))] := by
      have hj' : j < (toldQ ch (wQ w) k).length := by rw [told_len]; exact hj
      rw [← List.take_append_getElem hj', told_get]
    rw [htk]
    have htl : ((toldQ ch (wQ w) k).take j).length ≤ 8 := by rw [List.length_take]; omega
    generalize (toldQ ch (wQ w) k).take j = old at htl
    generalize ledQ false ch (wQ w) (k - j - 1) = xs at hg hfit
    refine for_idx lotsD ch (fun i _ env => ∃ z7 z8 z9 z10, env = [.val (chD ch), .val (.list (w.map .int)), .val (.int (k : Nat)), .own (old.map rowD), .val (.int (j : Nat)), .val (.list (xs.map fr)), .own (((toldRow ch xs).take i).map fun (i : Nat) => .int (i : Int)), z7, z8, z9, z10, .no]) (fun i hi s env ⟨z7, z8, z9, z10, hz⟩ => ?_) (fun s env ⟨z7, z8, z9, z10, hz⟩ => ?_) ⟨_, _, _, _, rfl⟩
    · subst hz
      have hL := List.getElem_mem hi
      have h3 := h.l3 _ hL
      have hin : i < n := by rw [← h.len]; exact hi
      have htr : i < (toldRow ch xs).length := by unfold toldRow; rw [List.length_map]; exact hi
      have hta : (toldRow ch xs).take (i + 1) = (toldRow ch xs).take i ++ [idxQ (meansQ ch[i] xs) (minL (meansQ ch[i] xs))] := by
        rw [← List.take_append_getElem htr]
        congr 2
        rw [← getD_at (d := 0) htr]
        unfold toldRow
        rw [getD_map hi]
      have htl2 : ((toldRow ch xs).take i).length ≤ 4 := by rw [List.length_take]; omega
      rw [hta, List.map_append]
      have hne := h.means_ne (xs := xs) hL
      have hsz := hfit.means hL
      have hlt := h.lot _ hL
      have hfit2 := hfit _ hL
      generalize ch[i] = lots at h3 hne hsz hlt hfit2
      walk_at "ev"
      unfold lotsD
      walk_at "ev"
      refine ⟨by rw [List.length_map]; omega, lc_src lotD (fun lot => fr (meanQ lot xs)) (fun lot hl => ?_) ?_⟩
      · walk_at "ev"
        rw [lby_eq (hlt lot hl) (by omega) rfl (hfit2 lot hl) (by omega), ev_some]
      · have e1 : lots.map (fun lot => fr (meanQ lot xs)) = (meansQ lots xs).map fr := by
          unfold meansQ
          rw [List.map_map]
          rfl
        rw [e1]
        obtain ⟨q0, qr, hq⟩ : ∃ q0 qr, meansQ lots xs = q0 :: qr := by
          cases hc : meansQ lots xs with
          | nil => exact absurd hc hne
          | cons q0 qr => exact ⟨q0, qr, rfl⟩
        have hmem := minL_mem hne
        rw [hq] at hsz hmem ⊢
        rw [List.map_cons]
        walk_at "ev"
        rw [cut1]
        refine for_idx fr qr (fun l _ env => ∃ z10, env = [.val (chD ch), .val (.list (w.map .int)), .val (.int (k : Nat)), .own (old.map rowD), .val (.int (j : Nat)), .val (.list (xs.map fr)), .own (((toldRow ch xs).take i).map fun (i : Nat) => .int (i : Int)), .val (.list (lots.map lotD)), .val (.list (fr q0 :: qr.map fr)), .val (fr ((qr.take l).foldl mn q0)), z10, .no]) (fun l hl s env ⟨z10, hz⟩ => ?_) (fun s env ⟨z10, hz⟩ => ?_) ⟨_, rfl⟩
        · subst hz
          have hb : (qr.take l).foldl mn q0 ∈ q0 :: qr := by
            rcases List.mem_cons.mp (foldl_mem mn_or (qr.take l) q0) with z | z
            · rw [z]
              exact List.mem_cons_self
            · exact List.mem_cons_of_mem _ (List.mem_of_mem_take z)
          have htk2 : (qr.take (l + 1)).foldl mn q0 = mn ((qr.take l).foldl mn q0) qr[l] := by
            rw [← List.take_append_getElem hl, List.foldl_append]
            rfl
          rw [htk2]
          have hs1 := hsz _ (List.mem_cons_of_mem _ (List.getElem_mem hl))
          have hs2 := hsz _ hb
          generalize (qr.take l).foldl mn q0 = best at hs2
          generalize qr[l] = one at hs1
          walk_at "ev"
          rw [lbelow_eq hs1 hs2 (by omega), ev_some]
          walk_at "ev"
          unfold mn
          split
          · exact ⟨_, rfl⟩
          · exact ⟨_, rfl⟩
        · subst hz
          rw [List.take_length]
          walk_at "ev"
          have e3 : qr.foldl mn q0 = minL (q0 :: qr) := rfl
          have e4 : PyData.list (fr q0 :: qr.map fr) = .list ((q0 :: qr).map fr) := rfl
          rw [e3, e4, idx_ev hmem]
          exact ⟨by rw [List.length_map]; omega, _, _, _, _, rfl⟩
    · subst hz
      rw [List.take_of_length_le (by unfold toldRow; rw [List.length_map]; exact Nat.le_refl _), nxt_nx, ev_sFzE rfl]
      walk_at "ev"
      have e2 : (old ++ [toldRow ch xs]).map rowD = old.map rowD ++ [.list ((toldRow ch xs).map fun (i : Nat) => .int (i : Int))] := by
        rw [List.map_append]
        rfl
      rw [e2]
      exact ⟨by rw [List.length_map]; omega, _, _, _, _, _, _, _, rfl⟩
  · subst hz
    rw [List.take_of_length_le (by rw [told_len]; exact Nat.le_refl _)]
    walk_at "ev"
    rfl

end Dv

namespace Dv
open PySem L2
local macro_rules | `(tactic| walk_at "ev") => `(tactic| simp only [ev_some, ev_none, ev_eC, ev_eV0, ev_eVs, ev_bV0, ev_bO0, ev_bVs, ev_e1, ev_e2, ev_eN, ev_oN, ev_o2, ev_nil, ev_cons, ev_eL, ev_eTup, ev_tV, ev_tAnd, ev_tOr, ev_tNot, ev_tYes, ev_eIf, ev_eNot, ev_eAnd, ev_eOr, ev_eChain, ev_pN, ev_pS, ev_eSl, ev_oSl, ev_iS, ev_iZ, ev_iR1, ev_iR2, ev_oLc, ev_iEn, ev_iEz, ev_iZ3, ev_eIfT, ev_eRv, ev_mulT, ev_mulS, ev_isN, ev_isnN, ev_repO, ev_sExtE, ev_eTr,
  ev_eNew, ev_eR0, ev_eReg0, ev_gReg0, ev_ixN0, ev_ixN1, ev_sAppE, ev_sPutE, Option.some.injEq, SV.own.injEq, SV.val.injEq, List.getElem?_cons_zero, List.getElem?_cons_succ, ev_sNx, ev_sBk, ev_sCt, ev_sNo, nxt_nx, nxt_rt, nxt_bk, nxt_ct, ev_sSeq, ev_sIf, ev_sSet, ev_sOwn, ev_sDrop, ev_sRet, ev_sFrz, ev_sBind, ev_sPar, ev_sFor, ev_gN, ev_gT, ev_gNil, ev_gCons, trn_nx, trn_ct, trn_bk, trn_rt, ev_sWhile, out_rt, out_nx, outr_rt, outr_nx, ev_at0, ev_at1, ev_at2,
  ev_addI, ev_subI, ev_mulI, ev_divI, ev_modI, ev_negI, ev_I2, ev_absI, ev_intI, ev_intB, ev_lenL, ev_lenT, ev_ixL, ev_ixT, ev_addL, ev_addT, ev_catL, ev_eqI, ev_neI, ev_eqS, ev_neS, ev_eqL, ev_neL, ev_eqT, ev_neT, ev_inL, ev_inT, ev_ninL, ev_ninT, ev_isi, ev_itL, ev_itT, ev_tupL, ev_tupT, ev_listL, ev_listT, ev_max, ev_min, ev_divmod, ev_repr, ev_sorted,
  List.set_cons_zero, List.set_cons_succ, List.map_cons, List.map_nil, wipeE, frz1, PyData.bool.injEq, PyData.int.injEq, exists_eq_left', exists_eq_left, decide_eq_true_eq, Bool.not_eq_true', decide_eq_false_iff_not, ite_true, ite_false, Bool.true_eq_false, Bool.false_eq_true, Bool.not_true, Bool.not_false, true_and, and_true, if_true, if_false])
/-! ### lots behind choices -/
section
variable {n k : Nat} {ch : List (List (List Rat))} {row : List Nat} {sh : List Rat}
def termsQ (ch : List (List (List Rat))) (row : List Nat) (sh : List Rat) (late : Nat) : List Rat := (sh.zip (pickQ ch row)).map fun p => p.1 * p.2.getD late 0
theorem push_terms : pushQ n ch row sh = (List.range n).map fun late => sumQ (termsQ ch row sh late) := rfl
theorem isB_push (h : Chain n ch) (hr : Row n ch row) (hs : ∀ x ∈ sh, Gd k x) {late : Nat} (hl : late < n) : ∀ q ∈ termsQ ch row sh late, IsB (LL ^ (k + 1)) (2 ^ (36 * k + 35)) q := fun q hq => by
  obtain ⟨p, hp, rfl⟩ := List.mem_map.mp hq
  have hz := List.of_mem_zip hp
  have hL := pick_lot h hr _ hz.2
  have hm : p.2.getD late 0 ∈ p.2 := by
    rw [getD_at (by rw [hL.len]; exact hl)]
    exact List.getElem_mem _
  have := isB_mul (hs _ hz.1) (hL.whole _ hm)
  rw [Int.pow_succ]
  refine this.mono ?_
  have e : 2 ^ (36 * k + 35) = 2 ^ (36 * k + 7) * 2 ^ 28 := by rw [← Nat.pow_add]
  rw [e]
  exact Nat.mul_le_mul_left _ (by decide)
theorem gd_pterms (h : Chain n ch) (hr : Row n ch row) (hs : ∀ x ∈ sh, Gd k x) {late : Nat} (hl : late < n) : ∀ q ∈ termsQ ch row sh late, Gd (k + 1) q := fun q hq =>
  (isB_push h hr hs hl q hq).mono (Nat.pow_le_pow_right (by decide) (by omega))
theorem gd_ppart (h : Chain n ch) (hr : Row n ch row) (hs : ∀ x ∈ sh, Gd k x) {late : Nat} (hl : late < n) (m : Nat) : Gd (k + 1) (sumQ ((termsQ ch row sh late).take m)) := by
  have := isB_sum (qs := (termsQ ch row sh late).take m) fun q hq => isB_push h hr hs hl q (List.mem_of_mem_take hq)
  refine this.mono ?_
  have h4 := h.n4
  have hl2 : ((termsQ ch row sh late).take m).length ≤ 16 := by
    unfold termsQ
    rw [List.length_take, List.length_map, List.length_zip, len_pick h hr]
    omega
  have e : 2 ^ (36 * (k + 1) + 7) = 2 ^ (36 * k + 35) * 2 ^ 8 := by rw [← Nat.pow_add]; congr 1
  rw [e]
  exact Nat.mul_le_mul_left _ (by omega)
theorem gd_push (h : Chain n ch) (hr : Row n ch row) (hs : ∀ x ∈ sh, Gd k x) : ∀ x ∈ pushQ n ch row sh, Gd (k + 1) x := fun x hx => by
  obtain ⟨late, hl, rfl⟩ := List.mem_map.mp hx
  have := gd_ppart h hr hs (List.mem_range.mp hl) (termsQ ch row sh late).length
  rwa [List.take_length] at this
theorem gd_unit (s : Nat) : ∀ x ∈ unitQ n s, Gd 0 x := fun x hx => by
  obtain ⟨j, _, rfl⟩ := List.mem_map.mp hx
  split
  · exact gd_one
  · exact gd_zero
theorem unit_len (n s : Nat) : (unitQ n s).length = n := by
  unfold unitQ
  rw [List.length_map, List.length_range]
/-- step by step from the front -/
def behindS (n : Nat) (ch : List (List (List Rat))) (s : Nat) (rows : List (List Nat)) : List Rat := rows.foldl (fun sh row => pushQ n ch row sh) (unitQ n s)
theorem behind_fold : ∀ {rows : List (List Nat)} {sh : List Rat}, behindB n ch rows sh = rows.foldl (fun sh row => pushQ n ch row sh) sh
  | [], _ => rfl
  | row :: rows, sh => behind_fold (rows := rows)
theorem fold_gd (h : Chain n ch) {s : Nat} : ∀ (rows : List (List Nat)) (j : Nat), (∀ row ∈ rows, Row n ch row) → j ≤ rows.length → (∀ x ∈ (rows.take j).foldl (fun sh row => pushQ n ch row sh) (unitQ n s), Gd j x) ∧ ((rows.take j).foldl (fun sh row => pushQ n ch row sh) (unitQ n s)).length = n
  | rows, 0, _, _ => ⟨gd_unit s, unit_len n s⟩
  | rows, j + 1, hr, hj => by
    have hlt : j < rows.length := hj
    obtain ⟨ih1, ih2⟩ := fold_gd h rows j hr (by omega)
    rw [← List.take_append_getElem hlt, List.foldl_append]
    exact ⟨gd_push h (hr _ (List.getElem_mem hlt)) ih1, len_push⟩
theorem enI_zip {α : Type} {sh : List Rat} {ps : List α} {d : α} (f : Rat → α → Rat) (hl : ps.length = sh.length) : (enI sh).map (fun p => f p.2 (ps.getD p.1 d)) = (sh.zip ps).map fun q => f q.1 q.2 := by
  refine List.ext_getElem (by rw [List.length_map, List.length_map, enI_len, List.length_zip, hl, Nat.min_self]) fun j h1 h2 => ?_
  rw [List.length_map, enI_len] at h1
  rw [List.getElem_map, List.getElem_map, enI_get, List.getElem_zip, getD_at (by omega)]
end
theorem row_at {row : List Nat} {i : Nat} (h : i < row.length) {Q : PyData → Prop} : Ev (dIx (rowD row) (.int (i : Nat))) Q ↔ Q (.int (row.getD i 0 : Nat)) := by
  unfold rowD
  rw [ev_ixL, ev_atM h, getD_at h]
theorem lots_at {lots : List (List Rat)} {r : Nat} (h : r < lots.length) {Q : PyData → Prop} : Ev (dIx (lotsD lots) (.int (r : Nat))) Q ↔ Q (lotD (lots.getD r [])) := by
  unfold lotsD
  rw [ev_ixL, ev_atM h, getD_at h]
theorem lbehind_eq {n s : Nat} {ch : List (List (List Rat))} {rows : List (List Nat)} (h : Chain n ch) (hr : ∀ row ∈ rows, Row n ch row) (h8 : rows.length ≤ 8) : f__law_behind [chD ch, rowsD rows, .int (s : Nat)] = some (.tuple ((behindB n ch rows (unitQ n s)).map fr)) := by
  have h4 := h.n4
  have hi : items (rowsD rows) = some (rows.map rowD) := rfl
  rw [← ev_eq]
  unfold f__law_behind
  rw [ev_fnP]
  show Ev (m__law_behind () [.val _, .val _, .val _, .no, .no, .no, .no, .no]) _
  unfold m__law_behind
  walk_at "ev"
  rw [len_chD h]
  walk_at "ev"
  refine ⟨big_nat (by omega), by rw [range_len]; omega, range_lc (fun j => fr (if j = s then 1 else 0)) (fun j hj => ?_) ?_⟩
  · walk_at "ev"
    by_cases c : j = s
    · subst c
      simp
      rfl
    · rw [if_neg c]
      simp [show ¬ ((j : Int) = s) by omega]
      rfl
  have e0 : (List.range n).map (fun j => fr (if j = s then 1 else 0)) = (unitQ n s).map fr := by
    unfold unitQ
    rw [List.map_map]
    rfl
  rw [e0, hi, ev_some]
  refine for_idx rowD rows (fun j _ env => ∃ z4 z5 z6 z7, env = [.val (chD ch), .val (rowsD rows), .val (.int (s : Nat)), .val (.list (((rows.take j).foldl (fun sh row => pushQ n ch row sh) (unitQ n s)).map fr)), z4, z5, z6, z7]) (fun j hj st env ⟨z4, z5, z6, z7, hz⟩ => ?_) (fun st env ⟨z4, z5, z6, z7, hz⟩ => ?_) ⟨_, _, _, _, rfl⟩
  · subst hz
    obtain ⟨g1, g2⟩ := fold_gd h (s := s) rows j hr (by omega)
    have hrow := hr _ (List.getElem_mem hj)
    have htk : (rows.take (j + 1)).foldl (fun sh row => pushQ n ch row sh) (unitQ n s) = pushQ n ch rows[j] ((rows.take j).foldl (fun sh row => pushQ n ch row sh) (unitQ n s)) := by
      rw [← List.take_append_getElem hj, List.foldl_append]
      rfl
    rw [htk]
    generalize (rows.take j).foldl (fun sh row => pushQ n ch row sh) (unitQ n s) = sh at g1 g2
    generalize rows[j] = row at hrow
    walk_at "ev"
    rw [len_chD h]
    walk_at "ev"
    refine ⟨big_nat (by omega), by rw [range_len]; omega, range_lc (fun late => fr (sumQ (termsQ ch row sh late))) (fun late hl => ?_) ?_⟩
    · walk_at "ev"
      rw [enumD_map]
      refine ⟨by rw [List.length_map, enI_len]; omega, lc_src _ (fun p => fr (p.2 * ((pickQ ch row).getD p.1 []).getD late 0)) (fun p hp => ?_) ?_⟩
      · obtain ⟨h1, h2⟩ := mem_enI.mp hp
        have hpn : p.1 < n := by omega
        have hsz : Sz 400 p.2 := (g1 _ (h2 ▸ List.getElem_mem h1)).szm (by omega)
        have hpm := pick_mem h hrow hpn
        have hL := (h.at hpn).2 _ hpm
        walk_at "ev"
        rw [at_lots h hpn, row_at (by rw [hrow.len]; exact hpn), lots_at (hrow.lt _ hpn), ← pick_at h hrow hpn, at_lot hL hl]
        have hm := mem_getD (xs := (pickQ ch row).getD p.1 []) (j := late) (by rw [hL.len]; exact hl)
        rw [ltimes_eq hsz (hL.sz _ hm) (by decide), ev_some]
      · have e1 : (enI sh).map (fun p => fr (p.2 * ((pickQ ch row).getD p.1 []).getD late 0)) = (termsQ ch row sh late).map fr := by
          unfold termsQ
          rw [← enI_zip (d := []) (fun x lot => x * lot.getD late 0) (by rw [len_pick h hrow, g2]), List.map_map]
          rfl
        rw [e1, lsum_gen (n := 400) (m := 400) (qs := termsQ ch row sh late) rfl (fun q hq => (gd_pterms h hrow g1 hl q hq).szm (by omega)) (fun m _ => (gd_ppart h hrow g1 hl m).szm (by omega)) (by decide), ev_some]
    · have e2 : (List.range n).map (fun late => fr (sumQ (termsQ ch row sh late))) = (pushQ n ch row sh).map fr := by
        rw [push_terms, List.map_map]
        rfl
      rw [e2]
      exact ⟨_, _, _, _, rfl⟩
  · subst hz
    rw [List.take_length, ← behind_fold]
    walk_at "ev"

end Dv

namespace Dv
open PySem L2
local macro_rules | `(tactic| walk_at "ev") => `(tactic| simp only [ev_some, ev_none, ev_eC, ev_eV0, ev_eVs, ev_bV0, ev_bO0, ev_bVs, ev_e1, ev_e2, ev_eN, ev_oN, ev_o2, ev_nil, ev_cons, ev_eL, ev_eTup, ev_tV, ev_tAnd, ev_tOr, ev_tNot, ev_tYes, ev_eIf, ev_eNot, ev_eAnd, ev_eOr, ev_eChain, ev_pN, ev_pS, ev_eSl, ev_oSl, ev_iS, ev_iZ, ev_iR1, ev_iR2, ev_oLc, ev_iEn, ev_iEz, ev_iZ3, ev_eIfT, ev_eRv, ev_mulT, ev_mulS, ev_isN, ev_isnN, ev_repO, ev_sExtE, ev_eTr,
  ev_eNew, ev_eR0, ev_eReg0, ev_gReg0, ev_ixN0, ev_ixN1, ev_sAppE, ev_sPutE, Option.some.injEq, SV.own.injEq, SV.val.injEq, List.getElem?_cons_zero, List.getElem?_cons_succ, ev_sNx, ev_sBk, ev_sCt, ev_sNo, nxt_nx, nxt_rt, nxt_bk, nxt_ct, ev_sSeq, ev_sIf, ev_sSet, ev_sOwn, ev_sDrop, ev_sRet, ev_sFrz, ev_sBind, ev_sPar, ev_sFor, ev_gN, ev_gT, ev_gNil, ev_gCons, trn_nx, trn_ct, trn_bk, trn_rt, ev_sWhile, out_rt, out_nx, outr_rt, outr_nx, ev_at0, ev_at1, ev_at2,
  ev_addI, ev_subI, ev_mulI, ev_divI, ev_modI, ev_negI, ev_I2, ev_absI, ev_intI, ev_intB, ev_lenL, ev_lenT, ev_ixL, ev_ixT, ev_addL, ev_addT, ev_catL, ev_eqI, ev_neI, ev_eqS, ev_neS, ev_eqL, ev_neL, ev_eqT, ev_neT, ev_inL, ev_inT, ev_ninL, ev_ninT, ev_isi, ev_itL, ev_itT, ev_tupL, ev_tupT, ev_listL, ev_listT, ev_max, ev_min, ev_divmod, ev_repr, ev_sorted,
  List.set_cons_zero, List.set_cons_succ, List.map_cons, List.map_nil, wipeE, frz1, PyData.bool.injEq, PyData.int.injEq, exists_eq_left', exists_eq_left, decide_eq_true_eq, Bool.not_eq_true', decide_eq_false_iff_not, ite_true, ite_false, Bool.true_eq_false, Bool.false_eq_true, Bool.not_true, Bool.not_false, true_and, and_true, if_true, if_false])
/-! ### the package's lots and means behind choices -/
theorem zip3D_map {α β γ : Type} (f : α → PyData) (g : β → PyData) (i : γ → PyData) : ∀ (as : List α) (bs : List β) (cs : List γ), zip3D (as.map f) (bs.map g) (cs.map i) = (as.zip (bs.zip cs)).map fun t => .tuple [f t.1, g t.2.1, i t.2.2]
  | [], _, _ => by simp [zip3D]
  | _ :: _, [], _ => by simp [zip3D]
  | _ :: _, _ :: _, [] => by simp [zip3D]
  | a :: as, b :: bs, c :: cs => by
    have ih := zip3D_map f g i as bs cs
    simp only [List.map_cons, zip3D, List.zip_cons_cons]
    rw [ih]
theorem zip_triple {n : Nat} {ch : List (List (List Rat))} {row : List Nat} {sh : List Rat} (late : Nat) : (sh.zip (ch.zip row)).map (fun t => fr (t.1 * (t.2.1.getD t.2.2 []).getD late 0)) = (termsQ ch row sh late).map fr := by
  unfold termsQ pickQ
  rw [List.zip_map_right, List.map_map, List.map_map]
  exact List.map_congr_left fun p _ => rfl
theorem row_lt {n : Nat} {ch : List (List (List Rat))} {row : List Nat} (h : Chain n ch) (hr : Row n ch row) : ∀ p ∈ ch.zip row, p.1 ∈ ch ∧ p.2 < p.1.length := fun p hp => by
  obtain ⟨j, hj, rfl⟩ := List.mem_iff_getElem.mp hp
  rw [List.length_zip] at hj
  rw [List.getElem_zip]
  have := hr.lt j (by rw [← h.len]; omega)
  rw [getD_at (by omega), getD_at (by omega)] at this
  exact ⟨List.getElem_mem _, this⟩
theorem moved_eq {n k : Nat} {ch : List (List (List Rat))} {row : List Nat} {sh : List Rat} (h : Chain n ch) (hr : Row n ch row) (hl : sh.length = n) (hs : ∀ x ∈ sh, Gd k x) (hk : k ≤ 8) : f_moved [chD ch, rowD row, .tuple (sh.map fr)] = some (.tuple ((pushQ n ch row sh).map fr)) := by
  have h4 := h.n4
  rw [← ev_eq]
  unfold f_moved
  rw [ev_fnP]
  show Ev (m_moved () [.val _, .val _, .val _, .no, .no, .no, .no, .no, .no]) _
  unfold m_moved
  walk_at "ev"
  rw [len_chD h]
  walk_at "ev"
  refine ⟨big_nat (by omega), for_range n (fun j _ env => ∃ z4 z5, env = [.val (chD ch), .val (rowD row), .val (.tuple (sh.map fr)), .own (((pushQ n ch row sh).take j).map fr), z4, z5, .no, .no, .no]) (fun j hj s env ⟨z4, z5, hz⟩ => ?_) (fun s env ⟨z4, z5, hz⟩ => ?_) ⟨_, _, rfl⟩⟩
  · subst hz
    have hpj : j < (pushQ n ch row sh).length := by rw [len_push]; exact hj
    have hta : (pushQ n ch row sh).take (j + 1) = (pushQ n ch row sh).take j ++ [sumQ (termsQ ch row sh j)] := by
      rw [← List.take_append_getElem hpj]
      congr 2
      rw [← getD_at (d := 0) hpj, push_terms, getD_map (by rwa [List.length_range]), List.getElem_range]
    have htl : ((pushQ n ch row sh).take j).length ≤ 4 := by rw [List.length_take]; omega
    rw [hta, List.map_append]
    generalize (pushQ n ch row sh).take j = old at htl
    have hic : items (chD ch) = some (ch.map lotsD) := rfl
    have hir : items (rowD row) = some (row.map fun (i : Nat) => .int (i : Int)) := rfl
    walk_at "ev"
    rw [hic, ev_some, hir, ev_some, zip3D_map]
    refine ⟨by rw [List.length_map, List.length_zip]; omega, lc_src _ (fun t => fr (t.1 * (t.2.1.getD t.2.2 []).getD j 0)) (fun t ht => ?_) ?_⟩
    · have hz := List.of_mem_zip ht
      obtain ⟨c1, c2⟩ := row_lt h hr _ hz.2
      have hL : Lot n (t.2.1.getD t.2.2 []) := by
        rw [getD_at c2]
        exact h.lot _ c1 _ (List.getElem_mem _)
      have hm := mem_getD (xs := t.2.1.getD t.2.2 []) (j := j) (by rw [hL.len]; exact hj)
      walk_at "ev"
      rw [lots_at c2, at_lot hL hj, mult_eq ((hs _ hz.1).szm (n := 400) (by omega)) (hL.sz _ hm) (by decide), ev_some]
    · rw [zip_triple (n := n), total_gen (n := 400) (m := 400) (qs := termsQ ch row sh j) rfl (fun q hq => (gd_pterms h hr hs hj q hq).szm (by omega)) (fun m _ => (gd_ppart h hr hs hj m).szm (by omega)) (by decide), ev_some]
      exact ⟨by rw [List.length_map]; omega, _, _, rfl⟩
  · subst hz
    rw [List.take_of_length_le (by rw [len_push]; exact Nat.le_refl _)]
    walk_at "ev"
theorem sure_eq {n s : Nat} (h4 : n ≤ 4) : f_sure_lot [.int n, .int (s : Nat)] = some (.tuple ((unitQ n s).map fr)) := by
  rw [← ev_eq]
  unfold f_sure_lot
  rw [ev_fnP]
  show Ev (m_sure_lot () [.val _, .val _, .no]) _
  unfold m_sure_lot
  walk_at "ev"
  refine ⟨big_nat (by omega), by rw [range_len]; omega, range_lc (fun j => fr (if j = s then 1 else 0)) (fun j hj => ?_) ?_⟩
  · walk_at "ev"
    by_cases c : j = s
    · subst c
      simp
      rfl
    · rw [if_neg c]
      simp [show ¬ ((j : Int) = s) by omega]
      rfl
  · walk_at "ev"
    unfold unitQ
    rw [List.map_map]
    rfl
theorem ok_row {n k : Nat} {ch : List (List (List Rat))} {row : List Nat} (h : Chain n ch) (hr : Row n ch row) : okD (k + 1) (rowD row) = true := list_ok (by rw [List.length_map, hr.len]; have := h.n4; omega) fun x hx => by
  obtain ⟨i, hi, rfl⟩ := List.mem_map.mp hx
  obtain ⟨j, hj, rfl⟩ := List.mem_iff_getElem.mp hi
  have hjn : j < n := by rw [← hr.len]; exact hj
  have := hr.lt j hjn
  rw [getD_at hj] at this
  have h3 := h.l3 _ (getD_mem h hjn)
  exact ok_int (by omega)
theorem choice_eq {n : Nat} {ch : List (List (List Rat))} {row : List Nat} (h : Chain n ch) (hr : Row n ch row) : f_is_choice_of [chD ch, rowD row] = some (.bool true) := by
  have h4 := h.n4
  have hlr := hr.len
  have hlc := h.len
  have hok := ok_row (k := 0) h hr
  have hir : items (rowD row) = some (row.map fun (i : Nat) => .int (i : Int)) := rfl
  have hic : items (chD ch) = some (ch.map lotsD) := rfl
  have hlen : dLen [rowD row] = some (.int n) := by
    show some (PyData.int _) = _
    rw [List.length_map, hr.len]
  rw [← ev_eq]
  unfold f_is_choice_of
  rw [ev_fnP]
  show Ev (m_is_choice_of () [.val _, .val _, .no, .no]) _
  unfold m_is_choice_of
  walk_at "ev"
  rw [islist_eq _ (ok_tyOk hok), ev_some, show lstB (rowD row) = true from rfl, hlen, len_chD h]
  walk_at "ev"
  rw [if_neg (fun z => z trivial)]
  rw [hir, ev_some, hic, ev_some, zipD_map]
  refine ⟨by rw [List.length_map, List.length_zip]; omega, lc_src _ (fun _ => .bool true) (fun p hp => ?_) ?_⟩
  · obtain ⟨c1, c2⟩ : p.2 ∈ ch ∧ p.1 < p.2.length := by
      obtain ⟨j, hj, rfl⟩ := List.mem_iff_getElem.mp hp
      rw [List.length_zip] at hj
      rw [List.getElem_zip]
      have := hr.lt j (by omega)
      rw [getD_at (by omega), getD_at (by omega)] at this
      exact ⟨List.getElem_mem _, this⟩
    have h3 := h.l3 _ c1
    have hll : ∀ Q : PyData → Prop, Ev (dLen [lotsD p.2]) Q ↔ Q (.int p.2.length) := fun Q => by
      unfold lotsD
      walk_at "ev"
      rw [List.length_map]
    walk_at "ev"
    rw [hll]
    walk_at "ev"
    rw [within_gen _ _ _ (ok_tyOk (n := 0) (ok_int (by omega))), inB_int (by omega) (by omega), ev_some]
  · rw [all_boolsS (β := fun _ => true)]
    simp
theorem checkchoices_eq {n : Nat} {ch : List (List (List Rat))} {rows : List (List Nat)} (h : Chain n ch) (hr : ∀ row ∈ rows, Row n ch row) (h8 : rows.length ≤ 8) : f_check_choices [chD ch, rowsD rows] = some .none := by
  have hok : okD 2 (rowsD rows) = true := list_ok (by rw [List.length_map]; omega) fun x hx => by
    obtain ⟨row, hrow, rfl⟩ := List.mem_map.mp hx
    exact ok_row h (hr row hrow)
  have hi : items (rowsD rows) = some (rows.map rowD) := rfl
  have hlen : dLen [rowsD rows] = some (.int rows.length) := by
    show some (PyData.int _) = _
    rw [List.length_map]
  rw [← ev_eq]
  unfold f_check_choices
  rw [ev_fnP]
  show Ev (m_check_choices () [.val _, .val _, .no]) _
  unfold m_check_choices
  walk_at "ev"
  rw [islist_eq _ (ok_tyOk hok), ev_some, show lstB (rowsD rows) = true from rfl, hlen, hi]
  walk_at "ev"
  rw [if_neg (by omega)]
  refine ⟨by rw [List.length_map]; omega, lc_src rowD (fun _ => .bool true) (fun row hrow => ?_) ?_⟩
  · walk_at "ev"
    rw [choice_eq h (hr row hrow), ev_some]
  · rw [all_boolsS (β := fun _ => true)]
    walk_at "ev"
    simp
theorem checkstate_eq {n s : Nat} {ch : List (List (List Rat))} (h : Chain n ch) (hs : s < n) : f_check_state [chD ch, .int (s : Nat)] = some .none := by
  have h4 := h.n4
  rw [← ev_eq]
  unfold f_check_state
  rw [ev_fnP]
  show Ev (m_check_state () [.val _, .val _]) _
  unfold m_check_state
  walk_at "ev"
  rw [len_chD h]
  walk_at "ev"
  rw [within_gen _ _ _ (ok_tyOk (n := 0) (ok_int (by omega))), inB_int (by omega) (by omega), ev_some]
  walk_at "ev"
theorem lotbehind_eq {n s : Nat} {ch : List (List (List Rat))} {rows : List (List Nat)} (h : Chain n ch) (hr : ∀ row ∈ rows, Row n ch row) (h8 : rows.length ≤ 8) (hs : s < n) : f_lot_behind [chD ch, rowsD rows, .int (s : Nat)] = some (.tuple ((behindB n ch rows (unitQ n s)).map fr)) := by
  have h4 := h.n4
  have hi : items (rowsD rows) = some (rows.map rowD) := rfl
  rw [← ev_eq]
  unfold f_lot_behind
  rw [ev_fnP]
  show Ev (m_lot_behind () [.val _, .val _, .val _, .no, .no]) _
  unfold m_lot_behind
  walk_at "ev"
  rw [checkchain_eq h, ev_some, checkchoices_eq h hr h8, ev_some, checkstate_eq h hs, ev_some, len_chD h, ev_some, sure_eq h4, ev_some, hi, ev_some]
  refine for_idx rowD rows (fun j _ env => ∃ z4, env = [.val (chD ch), .val (rowsD rows), .val (.int (s : Nat)), .val (.tuple (((rows.take j).foldl (fun sh row => pushQ n ch row sh) (unitQ n s)).map fr)), z4]) (fun j hj st env ⟨z4, hz⟩ => ?_) (fun st env ⟨z4, hz⟩ => ?_) ⟨_, rfl⟩
  · subst hz
    obtain ⟨g1, g2⟩ := fold_gd h (s := s) rows j hr (by omega)
    have hrow := hr _ (List.getElem_mem hj)
    have htk : (rows.take (j + 1)).foldl (fun sh row => pushQ n ch row sh) (unitQ n s) = pushQ n ch rows[j] ((rows.take j).foldl (fun sh row => pushQ n ch row sh) (unitQ n s)) := by
      rw [← List.take_append_getElem hj, List.foldl_append]
      rfl
    rw [htk]
    walk_at "ev"
    rw [moved_eq h hrow g2 g1 (by omega), ev_some]
    exact ⟨_, rfl⟩
  · subst hz
    rw [List.take_length, ← behind_fold]
    walk_at "ev"
theorem gd_meansB {n : Nat} {ch : List (List (List Rat))} {w : List Rat} (h : Chain n ch) (hw : ∀ x ∈ w, Gd 0 x) : ∀ {rows : List (List Nat)}, (∀ row ∈ rows, Row n ch row) → ∀ x ∈ meansB ch w rows, Gd rows.length x
  | [], _ => hw
  | row :: rows, hr => fun x hx => by
    obtain ⟨lot, hl, rfl⟩ := List.mem_map.mp hx
    exact gd_mean (pick_lot h (hr row List.mem_cons_self) lot hl) (by have := h.n4; omega) (gd_meansB h hw fun r hm => hr r (List.mem_cons_of_mem _ hm))
theorem meansbehind_eq {n : Nat} {ch : List (List (List Rat))} {rows : List (List Nat)} {w : List Int} (h : Chain n ch) (hr : ∀ row ∈ rows, Row n ch row) (h8 : rows.length ≤ 8) (hw : Wish n w) : f_means_behind [chD ch, rowsD rows, .list (w.map .int)] = some (.list ((meansB ch (wQ w) rows).map fr)) := by
  have h4 := h.n4
  have hl := hw.len
  have hrd : rowsD rows = .list (rows.map rowD) := rfl
  rw [← ev_eq]
  unfold f_means_behind
  rw [ev_fnP]
  show Ev (m_means_behind () [.val _, .val _, .val _, .no, .no, .no, .no]) _
  unfold m_means_behind
  walk_at "ev"
  rw [checkchain_eq h, ev_some, checkchoices_eq h hr h8, ev_some, len_chD h, ev_some, checkwish_eq hw h4 (.inl rfl), ev_some, whole_eq (by omega) rfl, ev_some, hrd]
  walk_at "ev"
  rw [← List.map_reverse]
  refine for_idx rowD rows.reverse (fun j _ env => ∃ z4, env = [.val (chD ch), .val (.list (rows.map rowD)), .val (.list (w.map .int)), .val (.list ((meansB ch (wQ w) (rows.reverse.take j).reverse).map fr)), z4, .no, .no]) (fun j hj st env ⟨z4, hz⟩ => ?_) (fun st env ⟨z4, hz⟩ => ?_) ⟨_, rfl⟩
  · subst hz
    have hrow := hr _ (List.mem_reverse.mp (List.getElem_mem hj))
    have hrs : ∀ row ∈ (rows.reverse.take j).reverse, Row n ch row := fun row hm => hr row (List.mem_reverse.mp (List.mem_of_mem_take (List.mem_reverse.mp hm)))
    have htk : meansB ch (wQ w) (rows.reverse.take (j + 1)).reverse = pullQ ch rows.reverse[j] (meansB ch (wQ w) (rows.reverse.take j).reverse) := by
      rw [← List.take_append_getElem hj, List.reverse_append]
      rfl
    rw [htk]
    have hg := gd_meansB h hw.gd hrs
    have hgl : (rows.reverse.take j).reverse.length ≤ 8 := by
      rw [List.length_reverse, List.length_take, List.length_reverse]
      omega
    generalize hkk : (rows.reverse.take j).reverse.length = kk at hg hgl
    generalize meansB ch (wQ w) (rows.reverse.take j).reverse = xs at hg
    generalize rows.reverse[j] = row at hrow
    have hic : items (chD ch) = some (ch.map lotsD) := rfl
    have hir : items (rowD row) = some (row.map fun (i : Nat) => .int (i : Int)) := rfl
    have hlc := h.len
    walk_at "ev"
    rw [hic, ev_some, hir, ev_some, zipD_map]
    refine ⟨by rw [List.length_map, List.length_zip]; omega, lc_src _ (fun p => fr (meanQ (p.1.getD p.2 []) xs)) (fun p hp => ?_) ?_⟩
    · obtain ⟨c1, c2⟩ := row_lt h hrow p hp
      have hL : Lot n (p.1.getD p.2 []) := by
        rw [getD_at c2]
        exact h.lot _ c1 _ (List.getElem_mem _)
      walk_at "ev"
      rw [lots_at c2, mean_eq hL (by omega) rfl (fit_gd hL (by omega) hg) (by omega), ev_some]
    · have e1 : (ch.zip row).map (fun p => fr (meanQ (p.1.getD p.2 []) xs)) = (pullQ ch row xs).map fr := by
        unfold pullQ pickQ
        rw [List.map_map, List.map_map]
        rfl
      rw [e1]
      exact ⟨_, rfl⟩
  · subst hz
    rw [List.take_length, List.reverse_reverse]
    walk_at "ev"
theorem lbyG_eq {N : Nat} {lot xs : List Rat} {d : PyData} (h : ∀ l ∈ lot, Sz N l) (hl : lot.length ≤ 16) (hd : items d = some (xs.map fr)) (hx : FitL N lot xs) (hk : N ≤ 4400) : f__law_by [.tuple (lot.map fr), d] = some (fr (meanQ lot xs)) := by
  rw [← ev_eq]
  unfold f__law_by
  rw [ev_fnP]
  show Ev (m__law_by () [.val _, .val _, .no, .no]) _
  unfold m__law_by
  walk_at "ev"
  rw [hd, ev_some, zipD_map]
  refine ⟨by rw [List.length_map, List.length_zip]; omega, lc_src _ (fun p => fr (p.1 * p.2)) (fun p hp => ?_) ?_⟩
  · have hz := List.of_mem_zip hp
    walk_at "ev"
    rw [ltimes_eq (h _ hz.1) (hx.x _ hz.2) (by omega), ev_some]
  · rw [lsum_gen (n := N) (m := N) (qs := (lot.zip xs).map fun p => p.1 * p.2) (by rw [List.map_map]; rfl) hx.t (fun j _ => hx.s j) (by omega), ev_some]
    rfl
theorem fit_lot {k : Nat} {lot xs : List Rat} (h : ∀ l ∈ lot, Gd k l) (hl : lot.length ≤ 4) (hx : ∀ x ∈ xs, Gd 0 x) : FitL (36 * k + 30) lot xs := by
  have ht : ∀ q ∈ (lot.zip xs).map (fun p => p.1 * p.2), IsB (LL ^ k * LL ^ 0) (2 ^ (36 * k + 14)) q := fun q hq => by
    obtain ⟨p, hp, rfl⟩ := List.mem_map.mp hq
    have hz := List.of_mem_zip hp
    refine (isB_mul (h _ hz.1) (hx _ hz.2)).mono ?_
    rw [← Nat.pow_add]
    exact Nat.pow_le_pow_right (by decide) (by omega)
  have hD : 0 < LL ^ k * LL ^ 0 := Int.mul_pos (LL_pos k) (LL_pos 0)
  have hDl : (LL ^ k * LL ^ 0).natAbs < 2 ^ (36 * k + 30) := by
    rw [Int.pow_zero, Int.mul_one]
    exact Nat.lt_of_lt_of_le (LL_lt k) (Nat.pow_le_pow_right (by decide) (by omega))
  refine ⟨fun x hxm => (hx x hxm).szm (by omega), fun q hq => isB_sz hD (ht q hq) hDl (Nat.pow_lt_pow_right (by decide) (by omega)), fun m => ?_⟩
  have hs := isB_sum (qs := ((lot.zip xs).map fun p => p.1 * p.2).take m) fun q hq => ht q (List.mem_of_mem_take hq)
  have hlen : (((lot.zip xs).map fun p => p.1 * p.2).take m).length ≤ 4 := by
    rw [List.length_take, List.length_map, List.length_zip]
    omega
  refine isB_sz hD hs hDl ?_
  have e : 2 ^ (36 * k + 14) * 4 < 2 ^ (36 * k + 30) := by
    rw [show (4 : Nat) = 2 ^ 2 from rfl, ← Nat.pow_add]
    exact Nat.pow_lt_pow_right (by decide) (by omega)
  exact Nat.lt_of_le_of_lt (Nat.mul_le_mul_left _ hlen) e
theorem gd_behind {n : Nat} {ch : List (List (List Rat))} {s : Nat} {rows : List (List Nat)} (h : Chain n ch) (hr : ∀ row ∈ rows, Row n ch row) : (∀ x ∈ behindB n ch rows (unitQ n s), Gd rows.length x) ∧ (behindB n ch rows (unitQ n s)).length = n := by
  have := fold_gd h (s := s) rows rows.length hr (Nat.le_refl _)
  rwa [List.take_length, ← behind_fold] at this

end Dv

namespace Dv
open PySem L2
local macro_rules | `(tactic| walk_at "ev") => `(tactic| simp only [ev_some, ev_none, ev_eC, ev_eV0, ev_eVs, ev_bV0, ev_bO0, ev_bVs, ev_e1, ev_e2, ev_eN, ev_oN, ev_o2, ev_nil, ev_cons, ev_eL, ev_eTup, ev_tV, ev_tAnd, ev_tOr, ev_tNot, ev_tYes, ev_eIf, ev_eNot, ev_eAnd, ev_eOr, ev_eChain, ev_pN, ev_pS, ev_eSl, ev_oSl, ev_iS, ev_iZ, ev_iR1, ev_iR2, ev_oLc, ev_iEn, ev_iEz, ev_iZ3, ev_eIfT, ev_eRv, ev_mulT, ev_mulS, ev_isN, ev_isnN, ev_repO, ev_sExtE, ev_eTr,
  ev_eNew, ev_eR0, ev_eReg0, ev_gReg0, ev_ixN0, ev_ixN1, ev_sAppE, ev_sPutE, Option.some.injEq, SV.own.injEq, SV.val.injEq, List.getElem?_cons_zero, List.getElem?_cons_succ, ev_sNx, ev_sBk, ev_sCt, ev_sNo, nxt_nx, nxt_rt, nxt_bk, nxt_ct, ev_sSeq, ev_sIf, ev_sSet, ev_sOwn, ev_sDrop, ev_sRet, ev_sFrz, ev_sBind, ev_sPar, ev_sFor, ev_gN, ev_gT, ev_gNil, ev_gCons, trn_nx, trn_ct, trn_bk, trn_rt, ev_sWhile, out_rt, out_nx, outr_rt, outr_nx, ev_at0, ev_at1, ev_at2,
  ev_addI, ev_subI, ev_mulI, ev_divI, ev_modI, ev_negI, ev_I2, ev_absI, ev_intI, ev_intB, ev_lenL, ev_lenT, ev_ixL, ev_ixT, ev_addL, ev_addT, ev_catL, ev_eqI, ev_neI, ev_eqS, ev_neS, ev_eqL, ev_neL, ev_eqT, ev_neT, ev_inL, ev_inT, ev_ninL, ev_ninT, ev_isi, ev_itL, ev_itT, ev_tupL, ev_tupT, ev_listL, ev_listT, ev_max, ev_min, ev_divmod, ev_repr, ev_sorted,
  List.set_cons_zero, List.set_cons_succ, List.map_cons, List.map_nil, wipeE, frz1, PyData.bool.injEq, PyData.int.injEq, exists_eq_left', exists_eq_left, decide_eq_true_eq, Bool.not_eq_true', decide_eq_false_iff_not, ite_true, ite_false, Bool.true_eq_false, Bool.false_eq_true, Bool.not_true, Bool.not_false, true_and, and_true, if_true, if_false])
/-! ### choices are right -/
theorem repr_lists {L : List (List Rat)} (h1 : ∀ qs ∈ L, qs.length ≤ 4 ∧ ∀ q ∈ qs, Sz 340 q) (h2 : L.length ≤ 4) : reprOk (.list (L.map fun qs => .list (qs.map fr))) = true := by
  refine repr_side (n := (2800 + 2) * L.length + 2) (k := 3) (dpt_list fun d hd => ?_) (by decide) ?_ (by omega)
  · obtain ⟨qs, _, rfl⟩ := List.mem_map.mp hd
    exact dpt_frs qs
  · have := shw_list (n := 2800) (ds := L.map fun qs => PyData.list (qs.map fr)) fun d hd => by
      obtain ⟨qs, hq, rfl⟩ := List.mem_map.mp hd
      obtain ⟨a, b⟩ := h1 qs hq
      exact (shw_frs b (by decide)).mono (by omega)
    rwa [List.length_map] at this
theorem repr_tups {qs : List Rat} (hl : qs.length ≤ 4) (hs : ∀ q ∈ qs, Sz 340 q) : reprOk (.list [.tuple (qs.map fr), .tuple (qs.map fr)]) = true := by
  refine repr_side (n := (2800 + 2) * 2 + 2) (k := 3) (dpt_list fun d hd => ?_) (by decide) (shw_list fun d hd => ?_) (by decide)
  · have : d = .tuple (qs.map fr) := by simpa using hd
    rw [this]
    refine dpt_tuple fun x hx => ?_
    obtain ⟨q, _, rfl⟩ := List.mem_map.mp hx
    exact dpt_fr q
  · have : d = .tuple (qs.map fr) := by simpa using hd
    rw [this]
    refine (shw_tuple (n := 691) fun x hx => ?_).mono (by rw [List.length_map]; omega)
    obtain ⟨q, hq, rfl⟩ := List.mem_map.mp hx
    exact shw_fr (hs q hq) (by decide)
theorem choicesright_eq {n : Nat} {ch : List (List (List Rat))} {rows : List (List Nat)} {w : List Int} (h : Chain n ch) (hr : ∀ row ∈ rows, Row n ch row) (h8 : rows.length ≤ 8) (hw : Wish n w) : f__law_choices_right [chD ch, rowsD rows, .list (w.map .int)] = some (.bool true) := by
  have h4 := h.n4
  have hwl := hw.len
  have hwq : (wQ w).length = n := by rw [wQ_len, hwl]
  have r2 : ∀ a b c : PyData, reorder [2, 1, 0] [a, b, c] = [c, b, a] := fun a b c => rfl
  rw [← ev_eq]
  unfold f__law_choices_right
  rw [ev_fnP]
  show Ev (m__law_choices_right () [.val _, .val _, .val _, .no, .no, .no, .no, .no, .no, .no, .no, .no]) _
  unfold m__law_choices_right
  walk_at "ev"
  rw [len_chD h]
  walk_at "ev"
  refine ⟨big_nat (by omega), by rw [range_len]; omega, range_lc (fun s => .tuple ((behindB n ch rows (unitQ n s)).map fr)) (fun s hs => ?_) ?_⟩
  · walk_at "ev"
    rw [lbehind_eq h hr h8, ev_some]
  unfold t1__law_choices_right
  walk_at "ev"
  rw [enumD_map (fun s : Nat => PyData.tuple ((behindB n ch rows (unitQ n s)).map fr)) (List.range n)]
  refine for_alls (fun p : Nat × Nat => .tuple [.int (p.1 : Nat), .tuple ((behindB n ch rows (unitQ n p.2)).map fr)]) (fun _ => true) (fun env => ∃ z4 z5, env = [.val (chD ch), .val (rowsD rows), .val (.list (w.map .int)), .val (.list ((List.range n).map fun s => .tuple ((behindB n ch rows (unitQ n s)).map fr))), z4, z5, .no, .no, .no, .no, .no, .no]) (fun p hp env ⟨z4, z5, hz⟩ => ?_) ⟨_, _, rfl⟩ (fun hA env ⟨z4, z5, hz⟩ => ?_) (fun hA env => ?_)
  · subst hz
    obtain ⟨s1, s2⟩ := p
    obtain ⟨h1, h2⟩ := mem_enI.mp hp
    have e12 : s1 = s2 := by
      have : (List.range n)[s1] = s2 := h2
      rwa [List.getElem_range] at this
    subst e12
    have hs : s1 < n := by simpa using h1
    obtain ⟨g1, g2⟩ := gd_behind (s := s1) h hr
    walk_at "ev"
    rw [lotbehind_eq h hr h8 hs, ev_some, r2, lotbehind_eq h hr h8 hs, ev_some]
    have rp := repr_tups (qs := behindB n ch rows (unitQ n s1)) (by omega) fun q hq => (g1 q hq).szm (by omega)
    refine ⟨rp, rp, ?_⟩
    rw [if_neg (fun z => z rfl)]
    exact bdy_nx rfl ⟨_, _, rfl⟩
  · subst hz
    unfold t2__law_choices_right
    walk_at "ev"
    have hm := len_meansB h hwq hr
    have hmg := gd_meansB h hw.gd hr
    refine ⟨by rw [List.length_map, List.length_range]; omega, lc_src (fun s : Nat => .tuple ((behindB n ch rows (unitQ n s)).map fr)) (fun s => fr ((meansB ch (wQ w) rows).getD s 0)) (fun s hs => ?_) ?_⟩
    · have hs := List.mem_range.mp hs
      obtain ⟨g1, g2⟩ := gd_behind (s := s) h hr
      walk_at "ev"
      refine ⟨by rw [List.length_map]; omega, lc_src PyData.int (fun x => PyData.tuple [.int x, .int 1]) (fun x hx => ?_) ?_⟩
      · walk_at "ev"
      · rw [whole_dat, lbyG_eq (N := 36 * rows.length + 30) (fun l hl => (g1 l hl).szm (by omega)) (by omega) rfl (fit_lot g1 (by omega) hw.gd) (by omega), ev_some, behind_means h hwq hr (unit_len n s), mean_unit hs hm]
    have e1 : (List.range n).map (fun s => fr ((meansB ch (wQ w) rows).getD s 0)) = (meansB ch (wQ w) rows).map fr := by
      have := congrArg (List.map fr) (map_range hm)
      rw [List.map_map] at this
      exact this
    rw [e1]
    unfold t3__law_choices_right
    walk_at "ev"
    rw [meansbehind_eq h hr h8 hw, ev_some, r2, meansbehind_eq h hr h8 hw, ev_some]
    have rm := repr_lists (L := [meansB ch (wQ w) rows, meansB ch (wQ w) rows]) (fun qs hq => by
      simp only [List.mem_cons, List.not_mem_nil, or_false, or_self] at hq
      rw [hq]
      exact ⟨by omega, fun q hq => (hmg q hq).szm (by omega)⟩) (by simp)
    refine ⟨rm, rm, ?_⟩
    rw [if_neg (fun z => z rfl)]
    unfold t4__law_choices_right
    have hlen : dLen [rowsD rows] = some (.int rows.length) := by
      show some (PyData.int _) = _
      rw [List.length_map]
    walk_at "ev"
    rw [hlen, ev_some, ledback_eq h hw (.inl rfl) h8, ev_some, ev_some, ledup_eq h hw (.inl rfl) h8, ev_some]
    unfold t5__law_choices_right
    walk_at "ev"
    rw [zip3D_map]
    have l1 := len_led h (up := false) hwq rows.length
    have l2 := len_led h (up := true) hwq rows.length
    have g1 := gd_led h (up := false) hw.gd rows.length
    have g2 := gd_led h (up := true) hw.gd rows.length
    refine ⟨by rw [List.length_map, List.length_zip, List.length_zip]; omega, lc_src _ (fun _ => .bool false) (fun t ht => ?_) ?_⟩
    · obtain ⟨j, hj, rfl⟩ := List.mem_iff_getElem.mp ht
      rw [List.length_zip, List.length_zip] at hj
      have b1 := back_means h hwq hr j (by omega)
      have b2 := means_up h hwq hr j (by omega)
      rw [getD_at (by omega), getD_at (by omega)] at b1 b2
      rw [List.getElem_zip, List.getElem_zip]
      walk_at "ev"
      rw [lbelow_eq ((hmg _ (List.getElem_mem _)).szm (n := 400) (by omega)) ((g1 _ (List.getElem_mem _)).szm (n := 400) (by omega)) (by decide), ev_some, decide_eq_false (Rat.not_lt.mpr b1)]
      walk_at "ev"
      rw [lbelow_eq ((g2 _ (List.getElem_mem _)).szm (n := 400) (by omega)) ((hmg _ (List.getElem_mem _)).szm (n := 400) (by omega)) (by decide), ev_some, decide_eq_false (Rat.not_lt.mpr b2)]
    · rw [any_boolsS (β := fun _ => false)]
      walk_at "ev"
      simp
  · rw [List.all_eq_true.mpr fun _ _ => rfl] at hA
    cases hA

end Dv

namespace Dv
open PySem L2
local macro_rules | `(tactic| walk_at "ev") => `(tactic| simp only [ev_some, ev_none, ev_eC, ev_eV0, ev_eVs, ev_bV0, ev_bO0, ev_bVs, ev_e1, ev_e2, ev_eN, ev_oN, ev_o2, ev_nil, ev_cons, ev_eL, ev_eTup, ev_tV, ev_tAnd, ev_tOr, ev_tNot, ev_tYes, ev_eIf, ev_eNot, ev_eAnd, ev_eOr, ev_eChain, ev_pN, ev_pS, ev_eSl, ev_oSl, ev_iS, ev_iZ, ev_iR1, ev_iR2, ev_oLc, ev_iEn, ev_iEz, ev_iZ3, ev_eIfT, ev_eRv, ev_mulT, ev_mulS, ev_isN, ev_isnN, ev_repO, ev_sExtE, ev_eTr,
  ev_eNew, ev_eR0, ev_eReg0, ev_gReg0, ev_ixN0, ev_ixN1, ev_sAppE, ev_sPutE, Option.some.injEq, SV.own.injEq, SV.val.injEq, List.getElem?_cons_zero, List.getElem?_cons_succ, ev_sNx, ev_sBk, ev_sCt, ev_sNo, nxt_nx, nxt_rt, nxt_bk, nxt_ct, ev_sSeq, ev_sIf, ev_sSet, ev_sOwn, ev_sDrop, ev_sRet, ev_sFrz, ev_sBind, ev_sPar, ev_sFor, ev_gN, ev_gT, ev_gNil, ev_gCons, trn_nx, trn_ct, trn_bk, trn_rt, ev_sWhile, out_rt, out_nx, outr_rt, outr_nx, ev_at0, ev_at1, ev_at2,
  ev_addI, ev_subI, ev_mulI, ev_divI, ev_modI, ev_negI, ev_I2, ev_absI, ev_intI, ev_intB, ev_lenL, ev_lenT, ev_ixL, ev_ixT, ev_addL, ev_addT, ev_catL, ev_eqI, ev_neI, ev_eqS, ev_neS, ev_eqL, ev_neL, ev_eqT, ev_neT, ev_inL, ev_inT, ev_ninL, ev_ninT, ev_isi, ev_itL, ev_itT, ev_tupL, ev_tupT, ev_listL, ev_listT, ev_max, ev_min, ev_divmod, ev_repr, ev_sorted,
  List.set_cons_zero, List.set_cons_succ, List.map_cons, List.map_nil, wipeE, frz1, PyData.bool.injEq, PyData.int.injEq, exists_eq_left', exists_eq_left, decide_eq_true_eq, Bool.not_eq_true', decide_eq_false_iff_not, ite_true, ite_false, Bool.true_eq_false, Bool.false_eq_true, Bool.not_true, Bool.not_false, true_and, and_true, if_true, if_false])
/-! ### the law's one turn -/
theorem ev_sOwn1 {S : Type} {s : S} {env : En} {i : Nat} {mo ms : M S (List PyData)} {QS : Fl × S × En → Prop} : Ev (sOwn1 i mo ms s env) QS ↔ Ev (mo s env) fun p => Ev (ms p.2 env) fun q => QS (.nx, q.2, env.set i (.own1 p.1 q.1)) := by
  simp only [sOwn1, ev_bind, ev_map]
theorem ev_eRepr1 {S : Type} {s : S} {env : En} {i : Nat} {ds rs : List PyData} {Q : PyData × S → Prop} (h : env[i]? = some (SV.own1 ds rs)) : Ev (eRepr1 i s env) Q ↔ Ev (dRepr [.list (.list ds :: rs)]) fun z => Q (z, s) := by
  unfold eRepr1
  rw [h]
  exact ev_map
theorem ev_sSpo {S : Type} {s : S} {env : En} {i : Nat} {m : M S PyData} {ds rs : List PyData} {QS : Fl × S × En → Prop} (h : env[i]? = some (SV.own1 ds rs)) : Ev (sSpo i m s env) QS ↔ Ev (m s env) fun p => (ds.length < 1000000 ∧ (env.set i .no).all not1 = true) ∧ QS (.nx, p.2, env.set i .no) := by
  unfold sSpo
  rw [h]
  simp only [ev_bind, ev_guard, ev_some]
theorem repr_cw {n : Nat} {ch : List (List (List Rat))} {w : List Int} (h : Chain n ch) (hw : Wish n w) : reprOk (.list [chD ch, .list (w.map .int)]) = true := by
  have h4 := h.n4
  have hl := hw.len
  have hlc := h.len
  have c1 : Dpt 4 (chD ch) := dpt_list fun d hd => by
    obtain ⟨lots, _, rfl⟩ := List.mem_map.mp hd
    refine dpt_list fun d hd => ?_
    obtain ⟨lot, _, rfl⟩ := List.mem_map.mp hd
    refine dpt_tuple fun d hd => ?_
    obtain ⟨q, _, rfl⟩ := List.mem_map.mp hd
    exact dpt_fr q
  have c2 : Shw 1300 (chD ch) := by
    refine (shw_list (n := 317) fun d hd => ?_).mono (by rw [List.length_map]; omega)
    obtain ⟨lots, hL, rfl⟩ := List.mem_map.mp hd
    have h3 := h.l3 _ hL
    refine (shw_list (n := 103) fun d hd => ?_).mono (by rw [List.length_map]; omega)
    obtain ⟨lot, hl, rfl⟩ := List.mem_map.mp hd
    have hLt := h.lot _ hL _ hl
    have := hLt.len
    refine (shw_tuple (n := 23) fun d hd => ?_).mono (by rw [List.length_map]; omega)
    obtain ⟨q, hq, rfl⟩ := List.mem_map.mp hd
    exact shw_fr (hLt.sz q hq) (by decide)
  have w1 : Dpt 4 (.list (w.map PyData.int)) := (dpt_list (n := 0) fun d hd => by
    obtain ⟨x, _, rfl⟩ := List.mem_map.mp hd
    exact dpt_int x).mono (by decide)
  have w2 : Shw 1300 (.list (w.map PyData.int)) := by
    refine (shw_list (n := 9) fun d hd => ?_).mono (by rw [List.length_map]; omega)
    obtain ⟨x, hx, rfl⟩ := List.mem_map.mp hd
    have := hw.lo x hx
    have := hw.hi x hx
    exact shw_int (m := 7) (by omega) (by decide)
  refine repr_side (n := (1300 + 2) * 2 + 2) (k := 5) (dpt_list fun d hd => ?_) (by decide) (shw_list fun d hd => ?_) (by decide)
  · simp only [List.mem_cons, List.not_mem_nil, or_false] at hd
    rcases hd with rfl | rfl
    · exact c1
    · exact w1
  · simp only [List.mem_cons, List.not_mem_nil, or_false] at hd
    rcases hd with rfl | rfl
    · exact c2
    · exact w2
theorem repr_rows2 {n : Nat} {ch : List (List (List Rat))} {rows : List (List Nat)} (h : Chain n ch) (hr : ∀ row ∈ rows, Row n ch row) (h8 : rows.length ≤ 8) : reprOk (.list [rowsD rows, rowsD rows]) = true := by
  have h4 := h.n4
  have key : ∀ row ∈ rows, ∀ i ∈ row, i < 3 := fun row hrow i hi => by
    obtain ⟨j, hj, rfl⟩ := List.mem_iff_getElem.mp hi
    have hjn : j < n := by rw [← (hr row hrow).len]; exact hj
    have := (hr row hrow).lt j hjn
    rw [getD_at hj] at this
    have h3 := h.l3 _ (getD_mem h hjn)
    omega
  refine repr_side (n := (300 + 2) * 2 + 2) (k := 3) (dpt_list fun d hd => ?_) (by decide) (shw_list fun d hd => ?_) (by decide)
  · have : d = rowsD rows := by simpa using hd
    rw [this]
    refine dpt_list fun d hd => ?_
    obtain ⟨row, _, rfl⟩ := List.mem_map.mp hd
    refine dpt_list fun d hd => ?_
    obtain ⟨i, _, rfl⟩ := List.mem_map.mp hd
    exact dpt_int _
  · have : d = rowsD rows := by simpa using hd
    rw [this]
    refine (shw_list (n := 34) fun d hd => ?_).mono (by rw [List.length_map]; omega)
    obtain ⟨row, hrow, rfl⟩ := List.mem_map.mp hd
    have := (hr row hrow).len
    refine (shw_list (n := 6) fun d hd => ?_).mono (by rw [List.length_map]; omega)
    obtain ⟨i, hi, rfl⟩ := List.mem_map.mp hd
    have := key row hrow i hi
    exact shw_int (m := 4) (by omega) (by decide)
theorem each_row : ∀ {ch : List (List (List Rat))} {ys : List PyData}, Each (fun d y => ∃ i L : Nat, dLen [d] = some (.int L) ∧ i < L ∧ y = .int i) (ch.map lotsD) ys → ∃ row : List Nat, ys = row.map (fun (i : Nat) => .int (i : Int)) ∧ row.length = ch.length ∧ ∀ j, j < ch.length → row.getD j 0 < (ch.getD j []).length
  | [], ys, hE => by
    cases hE
    exact ⟨[], rfl, rfl, fun j h => absurd h (Nat.not_lt_zero j)⟩
  | lots :: ch, ys, hE => by
    cases hE with
    | cons h1 h2 =>
      obtain ⟨i, L, e1, e2, rfl⟩ := h1
      obtain ⟨row, rfl, h3, h4⟩ := each_row h2
      have hL : L = lots.length := by
        have : dLen [lotsD lots] = some (.int (lots.length : Nat)) := by
          show some (PyData.int _) = _
          rw [List.length_map]
        rw [this] at e1
        injection e1 with e1
        injection e1 with e1
        omega
      refine ⟨i :: row, rfl, by simp [h3], fun j hj => ?_⟩
      cases j with
      | zero => show i < lots.length; omega
      | succ j => exact h4 j (by simpa using hj)
theorem Wish.neg {n : Nat} {w : List Int} (h : Wish n w) : Wish n (w.map fun x => 0 - x) := ⟨by rw [List.length_map, h.len], fun x hx => by
  obtain ⟨y, hy, rfl⟩ := List.mem_map.mp hx
  have := h.hi y hy
  omega, fun x hx => by
  obtain ⟨y, hy, rfl⟩ := List.mem_map.mp hx
  have := h.lo y hy
  omega⟩
theorem wQ_neg (w : List Int) : wQ (w.map fun x => 0 - x) = (wQ w).map fun x => -x := by
  unfold wQ
  rw [List.map_map, List.map_map]
  refine List.map_congr_left fun x _ => ?_
  show ((0 - x : Int) : Rat) = -(x : Rat)
  rw [Int.zero_sub, Rat.intCast_neg]
theorem frs_self (qs : List Rat) : PyData.eqv (.list (qs.map fr)) (.list (qs.map fr)) = true := eqv_self (nb_frs qs)
theorem ix1_fr {q : Rat} {Q : PyData → Prop} : Ev (dIx (fr q) (.int 1)) Q ↔ Q (.int q.den) := by
  unfold fr
  rw [ev_ixT]
  exact ev_at1
theorem neg_fr (q : Rat) : PyData.tuple [.int (0 - (-q).num), .int (-q).den] = fr q := by
  unfold fr
  rw [Rat.neg_num, Rat.neg_den]
  congr 3
  omega
theorem intsD_map : ∀ w : List Int, intsD (w.map .int) = some w
  | [] => rfl
  | x :: w => by
    show (intsD (w.map .int)).map _ = _
    rw [intsD_map w]
    rfl
theorem min_ev {w : List Int} (h : w ≠ []) : dMinL [.list (w.map .int)] = some (.int (minI w)) := by
  show (intsD (w.map .int)).bind _ = _
  rw [intsD_map]
  show (if w = [] then none else some (PyData.int (minI w))) = _
  rw [if_neg h]
theorem max_ev {w : List Int} (h : w ≠ []) : dMaxL [.list (w.map .int)] = some (.int (maxI w)) := by
  show (intsD (w.map .int)).bind _ = _
  rw [intsD_map]
  show (if w = [] then none else some (PyData.int (maxI w))) = _
  rw [if_neg h]

end Dv

namespace Dv
open PySem L2
local macro_rules | `(tactic| walk_at "ev") => `(tactic| simp only [ev_some, ev_none, ev_eC, ev_eV0, ev_eVs, ev_bV0, ev_bO0, ev_bVs, ev_e1, ev_e2, ev_eN, ev_oN, ev_o2, ev_nil, ev_cons, ev_eL, ev_eTup, ev_tV, ev_tAnd, ev_tOr, ev_tNot, ev_tYes, ev_eIf, ev_eNot, ev_eAnd, ev_eOr, ev_eChain, ev_pN, ev_pS, ev_eSl, ev_oSl, ev_iS, ev_iZ, ev_iR1, ev_iR2, ev_oLc, ev_iEn, ev_iEz, ev_iZ3, ev_eIfT, ev_eRv, ev_mulT, ev_mulS, ev_isN, ev_isnN, ev_repO, ev_sExtE, ev_eTr,
  ev_eNew, ev_eR0, ev_eReg0, ev_gReg0, ev_ixN0, ev_ixN1, ev_sAppE, ev_sPutE, Option.some.injEq, SV.own.injEq, SV.val.injEq, List.getElem?_cons_zero, List.getElem?_cons_succ, ev_sNx, ev_sBk, ev_sCt, ev_sNo, nxt_nx, nxt_rt, nxt_bk, nxt_ct, ev_sSeq, ev_sIf, ev_sSet, ev_sOwn, ev_sDrop, ev_sRet, ev_sFrz, ev_sBind, ev_sPar, ev_sFor, ev_gN, ev_gT, ev_gNil, ev_gCons, trn_nx, trn_ct, trn_bk, trn_rt, ev_sWhile, out_rt, out_nx, outr_rt, outr_nx, ev_at0, ev_at1, ev_at2,
  ev_addI, ev_subI, ev_mulI, ev_divI, ev_modI, ev_negI, ev_I2, ev_absI, ev_intI, ev_intB, ev_lenL, ev_lenT, ev_ixL, ev_ixT, ev_addL, ev_addT, ev_catL, ev_eqI, ev_neI, ev_eqS, ev_neS, ev_eqL, ev_neL, ev_eqT, ev_neT, ev_inL, ev_inT, ev_ninL, ev_ninT, ev_isi, ev_itL, ev_itT, ev_tupL, ev_tupT, ev_listL, ev_listT, ev_max, ev_min, ev_divmod, ev_repr, ev_sorted,
  List.set_cons_zero, List.set_cons_succ, List.map_cons, List.map_nil, wipeE, frz1, PyData.bool.injEq, PyData.int.injEq, exists_eq_left', exists_eq_left, decide_eq_true_eq, Bool.not_eq_true', decide_eq_false_iff_not, ite_true, ite_false, Bool.true_eq_false, Bool.false_eq_true, Bool.not_true, Bool.not_false, true_and, and_true, if_true, if_false])
/-! ### the law's one turn, walked -/
theorem right_ev {p : List PyData} (hp : Pot p) : Ev (f__law_right p []) fun r => r.1 = .bool true := by
  unfold f__law_right
  rw [ev_fnR]
  show Ev (m__law_right  _ [.reg, .no, .no, .no, .no, .no, .no, .no, .no, .no, .no, .no, .no, .no, .no, .no, .no]) _
  unfold m__law_right
  walk_at "ev"
  have r2 : ∀ a b c : PyData, reorder [2, 1, 0] [a, b, c] = [c, b, a] := fun a b c => rfl
  refine (draw_ev hp (by decide) (by decide)).imp fun r ⟨d, e, d0, d1, hr⟩ => ?_
  rw [e]
  walk_at "ev"
  obtain ⟨m, rfl⟩ := Int.eq_ofNat_of_zero_le d0
  rw [show (1 : Int) + m = ((m + 1 : Nat) : Int) by omega]
  generalize hn : m + 1 = n
  have h1 : 1 ≤ n := by omega
  have h4 : n ≤ 4 := by omega
  unfold t1__law_right
  walk_at "ev"
  refine (chain_ev hr h1 h4).imp fun r1 ⟨⟨ch, hch, e1⟩, hr1⟩ => ?_
  rw [e1]
  refine (wish_ev hr1 h1 h4).imp fun r2' ⟨⟨w, hw, e2⟩, hr2⟩ => ?_
  rw [e2]
  refine (pick_ev hr2 (by simp) (by decide)).imp fun r3 ⟨hm, hr3⟩ => ?_
  obtain ⟨z, hz, z0, z1⟩ : ∃ z : Int, r3.1 = .int z ∧ 1 ≤ z ∧ z ≤ 9 := by
    simp only [List.mem_cons, List.not_mem_nil, or_false] at hm
    rcases hm with e | e
    · exact ⟨4, e, by decide, by decide⟩
    · exact ⟨9, e, by decide, by decide⟩
  rw [hz]
  refine (draw_ev hr3 (by omega) (by omega)).imp fun r4 ⟨x, e4, x0, x1, hr4⟩ => ?_
  rw [e4]
  obtain ⟨k, rfl⟩ := Int.eq_ofNat_of_zero_le x0
  have hk : k ≤ 8 := by omega
  have hwl := hw.len
  have hwq : (wQ w).length = n := by rw [wQ_len, hwl]
  unfold t2__law_right
  walk_at "ev"
  have rcw := repr_cw hch hw
  refine ⟨rcw, by rw [List.length_map]; omega, lc_src PyData.int (fun x => PyData.tuple [.int x, .int 1]) (fun x hx => ?_) ?_⟩
  · walk_at "ev"
  rw [whole_dat]
  unfold t3__law_right
  walk_at "ev"
  rw [lled_eq hch hw.gd (by omega), ev_some, lled_eq hch hw.gd (by omega), ev_some]
  unfold t4__law_right
  rw [ev_sSeq, ev_sOwn1]
  walk_at "ev"
  rw [oledback_eq hch hw (.inl rfl) hk, ev_some, r2, ledback_eq hch hw (.inr rfl) hk, ev_some, ledup_eq hch hw (.inl rfl) hk, ev_some]
  rw [r2, ledup_eq hch hw (.inl rfl) hk, ev_some]
  have gB := gd_led hch (up := false) hw.gd k
  have gU := gd_led hch (up := true) hw.gd k
  have lB := len_led hch (up := false) hwq k
  have lU := len_led hch (up := true) hwq k
  unfold t5__law_right
  rw [ev_sSeq, ev_sIf, ev_tV, ev_e2, ev_eRepr1 rfl]
  walk_at "ev"
  have rl := repr_lists (L := [ledQ false ch (wQ w) k, ledQ false ch (wQ w) k, ledQ true ch (wQ w) k, ledQ true ch (wQ w) k]) (fun qs hq => by
    simp only [List.mem_cons, List.not_mem_nil, or_false] at hq
    rcases hq with rfl | rfl | rfl | rfl
    · exact ⟨by omega, fun q hq => (gB q hq).szm (by omega)⟩
    · exact ⟨by omega, fun q hq => (gB q hq).szm (by omega)⟩
    · exact ⟨by omega, fun q hq => (gU q hq).szm (by omega)⟩
    · exact ⟨by omega, fun q hq => (gU q hq).szm (by omega)⟩) (by simp)
  refine ⟨rl, rl, ?_⟩
  rw [if_neg (fun z => z trivial)]
  unfold t6__law_right
  walk_at "ev"
  refine ⟨by rw [List.length_map]; omega, lc_src PyData.int (fun x => PyData.int (0 - x)) (fun x hx => ?_) ?_⟩
  · walk_at "ev"
  have hwn : w.map (fun x => PyData.int (0 - x)) = (w.map fun x => 0 - x).map .int := by
    rw [List.map_map]
    rfl
  rw [hwn, ledback_eq hch hw.neg (.inl rfl) hk, ev_some, wQ_neg, led_neg hch k]
  unfold t7__law_right
  walk_at "ev"
  refine ⟨by rw [List.length_map, List.length_map]; omega, ?_⟩
  rw [List.map_map]
  refine lc_src (fun q : Rat => fr (-q)) fr (fun q hq => ?_) ?_
  · walk_at "ev"
    rw [ix0_fr]
    walk_at "ev"
    rw [ix1_fr, neg_fr]
  walk_at "ev"
  refine ⟨⟨shaped_frs _, shaped_frs _⟩, ?_⟩
  rw [frs_self]
  walk_at "ev"
  unfold t8__law_right
  walk_at "ev"
  rw [zipD_map]
  have hne : w ≠ [] := fun z => by rw [z] at hwl; simp at hwl; omega
  obtain ⟨mi1, mi2⟩ := minI_mem hne
  obtain ⟨ma1, ma2⟩ := maxI_mem hne
  have hlo : ∀ x ∈ wQ w, ((minI w : Int) : Rat) ≤ x := fun x hx => by
    obtain ⟨y, hy, rfl⟩ := List.mem_map.mp hx
    exact Rat.intCast_le_intCast.mpr (mi2 y hy)
  have hhi : ∀ x ∈ wQ w, x ≤ ((maxI w : Int) : Rat) := fun x hx => by
    obtain ⟨y, hy, rfl⟩ := List.mem_map.mp hx
    exact Rat.intCast_le_intCast.mpr (ma2 y hy)
  have hBU : ∀ j, j < n → (ledQ false ch (wQ w) k).getD j 0 ≤ (ledQ true ch (wQ w) k).getD j 0 := fun j hj => by
    have t1 := back_means hch hwq (told_rows hch (w := wQ w) k) j hj
    have t2 := means_up hch hwq (told_rows hch (w := wQ w) k) j hj
    rw [told_len] at t1 t2
    exact Rat.le_trans t1 t2
  have sMi : Sz 400 ((minI w : Int) : Rat) := (gd_int (i := minI w) (by have := hw.lo _ mi1; have := hw.hi _ mi1; omega)).szm (by decide)
  have sMa : Sz 400 ((maxI w : Int) : Rat) := (gd_int (i := maxI w) (by have := hw.lo _ ma1; have := hw.hi _ ma1; omega)).szm (by decide)
  generalize hTV : PyData.list (List.map (fr ∘ fun x => -x) (ledQ true ch (wQ w) k)) = tv
  refine for_alls (fun p : Rat × Rat => .tuple [fr p.1, fr p.2]) (fun _ => true) (fun env => ∃ z11 z12, (not1 z11 = true ∧ not1 z12 = true) ∧ env = [.reg, .val (.int n), .val (chD ch), .val (.list (w.map .int)), .val (.int (k : Nat)), .val (.str (PyData.list [chD ch, .list (w.map .int)]).shown), .val (.list ((wQ w).map fr)), .val (.list ((ledQ false ch (wQ w) k).map fr)), .val (.list ((ledQ true ch (wQ w) k).map fr)),
    .own1 ((ledQ false ch (wQ w) k).map fr) [.list ((ledQ false ch (wQ w) k).map fr), .list ((ledQ true ch (wQ w) k).map fr), .list ((ledQ true ch (wQ w) k).map fr)], .val tv, z11, z12, .no, .no, .no, .no]) (fun p hp env ⟨z11, z12, ⟨n1, n2⟩, hz⟩ => ?_) ⟨_, _, ⟨rfl, rfl⟩, rfl⟩ (fun hA env ⟨z11, z12, ⟨n1, n2⟩, hz⟩ => ?_) (fun hA env => ?_)
  · subst hz
    have hz2 := List.of_mem_zip hp
    have s1 : Sz 400 p.1 := (gB _ hz2.1).szm (by omega)
    have s2 : Sz 400 p.2 := (gU _ hz2.2).szm (by omega)
    have b1 : p.1 ≤ p.2 := by
      obtain ⟨j, hj, rfl⟩ := List.mem_iff_getElem.mp hp
      rw [List.length_zip] at hj
      rw [List.getElem_zip]
      have := hBU j (by omega)
      rw [getD_at (by omega), getD_at (by omega)] at this
      exact this
    have b2 := led_ge hch hwq hlo k _ hz2.1
    have b3 := led_le hch hwq hhi k _ hz2.2
    walk_at "ev"
    rw [lbelow_eq s2 s1 (by decide), ev_some, decide_eq_false (Rat.not_lt.mpr b1)]
    walk_at "ev"
    rw [min_ev hne, ev_some, show PyData.tuple [.int (minI w), .int 1] = fr ((minI w : Int) : Rat) from rfl, lbelow_eq s1 sMi (by decide), ev_some, decide_eq_false (Rat.not_lt.mpr b2)]
    walk_at "ev"
    rw [max_ev hne, ev_some, show PyData.tuple [.int (maxI w), .int 1] = fr ((maxI w : Int) : Rat) from rfl, lbelow_eq sMa s2 (by decide), ev_some, decide_eq_false (Rat.not_lt.mpr b3)]
    walk_at "ev"
    exact bdy_nx rfl ⟨_, _, ⟨rfl, rfl⟩, rfl⟩
  · subst hz
    have hT := told_rows hch (w := wQ w) k
    have hTl := told_len (ch := ch) (w := wQ w) k
    rw [nxt_nx]
    unfold t9__law_right
    walk_at "ev"
    rw [ltold_eq hch hw hk, ev_some]
    unfold t10__law_right
    walk_at "ev"
    rw [toldchoices_eq hch hw hk, ev_some, r2, toldchoices_eq hch hw hk, ev_some]
    have rt := repr_rows2 hch hT (by omega)
    refine ⟨rt, rt, ?_⟩
    rw [if_neg (fun z => z rfl)]
    unfold t11__law_right
    walk_at "ev"
    rw [meansbehind_eq hch hT (by omega) hw, ev_some, told_means hch k]
    walk_at "ev"
    refine ⟨⟨shaped_frs _, shaped_frs _⟩, ?_⟩
    rw [frs_self]
    walk_at "ev"
    rw [choicesright_eq hch hT (by omega) hw, ev_some]
    walk_at "ev"
    unfold t12__law_right
    walk_at "ev"
    have hic : items (chD ch) = some (ch.map lotsD) := rfl
    have hlc := hch.len
    refine ⟨big_nat (by omega), by rw [range_len]; omega, ?_⟩
    refine lc_inv Pot (fun _ y => ∃ row, Row n ch row ∧ y = rowD row) (fun d _ s hs => ?_) hr4 fun rs s' hE hs' => ?_
    · walk_at "ev"
      rw [hic, ev_some]
      refine ⟨by rw [List.length_map]; omega, ?_⟩
      refine lc_inv Pot (fun d y => ∃ i L : Nat, dLen [d] = some (.int L) ∧ i < L ∧ y = .int i) (fun d hd s hs => ?_) hs fun rs s' hE hs' => ?_
      · obtain ⟨lots, hL, rfl⟩ := List.mem_map.mp hd
        have hll : dLen [lotsD lots] = some (.int (lots.length : Nat)) := by
          show some (PyData.int _) = _
          rw [List.length_map]
        have l1 := hch.l1 _ hL
        have l3 := hch.l3 _ hL
        walk_at "ev"
        rw [hll, ev_some]
        refine (draw_ev hs (by omega) (by omega)).imp fun r ⟨x, e, x0, x1, hr⟩ => ?_
        obtain ⟨i, rfl⟩ := Int.eq_ofNat_of_zero_le x0
        exact ⟨⟨i, lots.length, rfl, by omega, e⟩, hr⟩
      · obtain ⟨row, rfl, q3, q4⟩ := each_row hE
        exact ⟨⟨row, ⟨by rw [q3, hlc], fun i hi => q4 i (by omega)⟩, rfl⟩, hs'⟩
    obtain ⟨rows, rfl, hl, hrows⟩ := each_src hE
    rw [range_len] at hl
    rw [show PyData.list (rows.map fun a => rowD a) = rowsD rows from rfl]
    unfold t13__law_right
    walk_at "ev"
    rw [choicesright_eq hch hrows (by omega) hw, ev_some]
    walk_at "ev"
    unfold t14__law_right
    rw [ev_sSeq, ev_sSpo rfl]
    walk_at "ev"
    refine ⟨⟨by rw [List.length_map]; omega, by simp only [List.set_cons_succ, List.set_cons_zero, List.all_cons, List.all_nil, n1, n2]; rfl⟩, ?_⟩
    unfold t15__law_right
    walk_at "ev"
    rw [ledback_eq hch hw (.inl rfl) hk, ev_some]
    walk_at "ev"
    refine ⟨⟨shaped_frs _, shaped_frs _⟩, ?_⟩
    rw [frs_self]
    walk_at "ev"
    exact rcw
  · rw [List.all_eq_true.mpr fun _ _ => rfl] at hA
    cases hA
theorem law_eq (ns : List Int) (hl : ns.length ≤ 63) : f_law [.dict [(.none, .list (ns.map .int))]] = some (.bool true) := by
  rw [← ev_eq]
  unfold f_law
  rw [ev_fnP]
  show Ev (m_law () [.val _, .no]) _
  unfold m_law
  walk_at "ev"
  simp only [ev_lenS]
  walk_at "ev"
  rw [List.length_map]
  obtain ⟨m, hm, h1, h3⟩ : ∃ m : Nat, (if (if (ns.length : Int) < 2 then (ns.length : Int) else 2) > 1 then (if (ns.length : Int) < 2 then (ns.length : Int) else 2) else 1) = (m : Int) ∧ 1 ≤ m ∧ m ≤ 2 := by
    refine ⟨(if (if (ns.length : Int) < 2 then (ns.length : Int) else 2) > 1 then (if (ns.length : Int) < 2 then (ns.length : Int) else 2) else 1).toNat, ?_, ?_, ?_⟩ <;> (repeat' split) <;> omega
  rw [hm]
  refine ⟨big_nat (by omega), by rw [range_len]; omega, range_lc (fun _ => .bool true) (fun k hk => ?_) ?_⟩
  · walk_at "ev"
    refine (pot_ev ns (by omega)).imp fun p hp => (right_ev hp).imp fun r hr => ?_
    rw [hr]
  · rw [all_boolsS (β := fun _ => true)]
    simp

end Dv

namespace Dv
open PySem PySem.Spec PyProof.Rows L2
abbrev RR : PySem.W.OpenRow := PySem.W.OpenLaw.row PySem.Challenge.rw_boundedchance_k85_whole_chains_led_backw
abbrev hkL : PySem.W.Hook := hookV 4 faL fnL csL
def obL (s : PySem.W.SharedT) : AlV := obsVG 4 faL fnL csL (HandSHeadRun.getT s)
theorem obL_eq (s : PySem.W.SharedT) : obL s = hkL.obs s.abs := obsVG_eq (HandSHeadRun.getT_eq s)
def loose0 : List Str := ["ChanceError", "InvalidWish", "InvalidNumber", "InvalidChain", "InvalidChoices", "InvalidState", "MOST_DIGITS", "is_integer", "is_within", "is_list", "check_number", "divisor", "is_fraction_of", "is_short", "NOUGHT", "ONE", "reduced", "add", "multiply", "is_below", "lesser", "greater", "total", "least_of", "greatest_of", "products_sum", "MOST_PLACES", "is_lot_of", "is_short_lot", "sure_lot"]
def loose1 : List Str := ["mean_of", "MOST_WORTH", "is_wish_of", "check_wish", "MOST_STATES", "MOST_LOTS", "MOST_STEPS", "are_lots_of", "is_chain_value", "check_chain", "check_state", "check_steps", "is_choice_of", "check_choices", "whole", "back_by_one", "up_by_one", "back_by", "first_least", "choices_for", "moved", "led_back", "led_up", "told_choices", "lot_behind", "means_behind", "_law_pot", "_law_draw", "_law_pick", "_law_frac"]
def loose2 : List Str := ["_law_plus", "_law_less", "_law_times", "_law_sum", "_law_below", "_law_lot", "_law_chain", "_law_by", "_law_step", "_law_led", "_law_all_events", "_law_chain_wish", "_law_told", "_law_behind", "_law_choices_right", "_law_right"]
def looseL : List Str := loose0 ++ loose1 ++ loose2
theorem run (w : World) : HandSHeadRun.RunEq RR (PySem.W.view RR.prog [83]) hkL obL 4000 looseL w := by
  intro os
  kernel_rfl
end Dv

open PySem PySem.W PySem.Calls PyProof.Rows
theorem PySem.Challenge.cw_boundedchance_k85_whole_chains_led_backw_holds : PySem.Challenge.rw_boundedchance_k85_whole_chains_led_backw.Holds := by
  w_on; o_law
  refine HandSHeadRun.head_any (r := OpenLaw.row PySem.Challenge.rw_boundedchance_k85_whole_chains_led_backw) (q := view (OpenLaw.row PySem.Challenge.rw_boundedchance_k85_whole_chains_led_backw).prog [83]) (H := Dv.hkL) (ob := Dv.obL) (M := 4000) (loose := Dv.looseL) (d := HandSHeadRun.topDef (OpenLaw.row PySem.Challenge.rw_boundedchance_k85_whole_chains_led_backw).prog 83) (kwd := []) Dv.obL_eq
    (by kernel_rfl) (fun s => by kernel_rfl) Dv.run (by kernel_rfl) (by kernel_rfl) (by kernel_rfl) (by rfl) (by first | assumption | decide +kernel) (by decide +kernel) ⟨rfl, rfl, rfl, rfl, rfl, by decide +kernel⟩ ?hw ?hc
  case hw => w_witness2
  case hc =>
    exact Dv.walk_G (l := PySem.Challenge.rw_boundedchance_k85_whole_chains_led_backw) (n := 63) (k := 12) (x := "law") (y := "script") (st := Dv.topS 83) rfl (by decide) (by kernel_rfl) ⟨⟨rfl, by decide, by decide⟩, rfl⟩ (by kernel_rfl) 62 rfl 62 rfl
      (fun _ _ _ _ _ _ us hl => match us, hl with | [_], _ => rfl) (fun T => Dv.ok_law T) (fun ns hl => Dv.law_eq ns hl)

